/- The helpers of the laws. -/
import Derived.Test.YthjmknhkfkofgaaM7
import Derived.Test.YthjmknhkfkofgaaFn8
set_option linter.unusedVariables false
set_option maxRecDepth 100000
namespace Go.Sx.Try
open Go Go.Sx Go.Proofs

theorem pto31 (x : T48.den) (h : Bd T48 x) : q31 big (x, ()) = some x := by
  rw [q31_eq]

theorem psz18 (x : T33.den) (a : Int) (hw : WfD T33 x) (h0 : 0 ≤ a) (h1 : a ≤ 1048576) : SzR (q18 big (x, a, ())) a (Bd T33 x) := by
  rw [q18_eq]
  exact (szR_len (K := some) hw.1 h0 h1 fun v _ _ _ => szR_end).imp fun h => ⟨h.1, fun y _ => Bd_flat rfl y⟩

theorem psz86 (x : T59.den) (a : Int) (hw : WfD T59 x) (h0 : 0 ≤ a) (h1 : a ≤ 1048576) : SzR (q86 big (x, a, ())) a (Bd T59 x) := by
  rw [q86_eq]
  exact (szR_len (K := some) hw.1 h0 h1 fun v _ _ _ => szR_end).imp fun h => ⟨h.1, fun y _ => Bd_flat rfl y⟩

theorem psz124 (x : T163.den) (a : Int) (hw : WfD T163 x) (h0 : 0 ≤ a) (h1 : a ≤ 1048576) : SzR (q124 big (x, a, ())) a (Bd T163 x) := by
  rw [q124_eq]
  exact (szR_len (K := some) (hw.1) h0 h1 fun v0 k0 l0 _ => szR_end).imp fun h => (Bd_flat rfl _)

theorem psz87 (x : T60.den) (a : Int) (hw : WfD T60 x) (h0 : 0 ≤ a) (h1 : a ≤ 1048576) : SzR (q87 big (x, a, ())) a (Bd T60 x) := 
  szR_list (qe := fun y a => q124 big (y, a, ())) (r := fun n a i => r87_5 n (x, a, i, ()) ()) (n := big) hw.1 h0 h1 (q87_eq big x a) (fun n a i => r87_5_eq n x a i) (fun y hy a h0 h1 => psz124 y a (hw.2 y hy) h0 h1) (by decide)

theorem psz125 (x : T166.den) (a : Int) (hw : WfD T166 x) (h0 : 0 ≤ a) (h1 : a ≤ 1048576) : SzR (q125 big (x, a, ())) a (Bd T166 x) := by
  rw [q125_eq]
  exact (szR_len (K := some) (hw.1) h0 h1 fun v0 k0 l0 _ => szR_end).imp fun h => (Bd_flat rfl _)

theorem psz88 (x : T61.den) (a : Int) (hw : WfD T61 x) (h0 : 0 ≤ a) (h1 : a ≤ 1048576) : SzR (q88 big (x, a, ())) a (Bd T61 x) := 
  szR_list (qe := fun y a => q125 big (y, a, ())) (r := fun n a i => r88_5 n (x, a, i, ()) ()) (n := big) hw.1 h0 h1 (q88_eq big x a) (fun n a i => r88_5_eq n x a i) (fun y hy a h0 h1 => psz125 y a (hw.2 y hy) h0 h1) (by decide)

theorem psz89 (x : T62.den) (a : Int) (hw : WfD T62 x) (h0 : 0 ≤ a) (h1 : a ≤ 1048576) : SzR (q89 big (x, a, ())) a (Bd T62 x) := by
  rw [q89_eq]
  exact (szR_len (K := some) hw.1 h0 h1 fun v _ _ _ => szR_end).imp fun h => ⟨h.1, fun y _ => Bd_flat rfl y⟩

theorem psz34 (x : T64.den) (a : Int) (hw : WfD T64 x) (h0 : 0 ≤ a) (h1 : a ≤ 1048576) : SzR (q34 big (x, a, ())) a (Bd T64 x) := by
  rw [q34_eq]
  exact (szR_bind (psz86 _ _ (hw.2.2.2.2.2.1) h0 h1) h0 h1 fun v0 k0 l0 => szR_bind (psz87 _ _ (hw.2.2.2.2.2.2.1) k0 l0) k0 l0 fun v1 k1 l1 => szR_bind (psz86 _ _ (hw.2.2.2.2.2.2.2.1) k1 l1) k1 l1 fun v2 k2 l2 => szR_bind (psz88 _ _ (hw.2.2.2.2.2.2.2.2.1) k2 l2) k2 l2 fun v3 k3 l3 => szR_bind (psz18 _ _ (hw.2.2.2.2.2.2.2.2.2.1) k3 l3) k3 l3 fun v4 k4 l4 => szR_bind (psz89 _ _ (hw.2.2.2.2.2.2.2.2.2.2.1) k4 l4) k4 l4 fun v5 k5 l5 => szR_end).imp fun h => ⟨(Bd_flat rfl _), (Bd_flat rfl _), (Bd_flat rfl _), (Bd_flat rfl _), (Bd_flat rfl _), h.1, h.2.1, h.2.2.1, h.2.2.2.1, h.2.2.2.2.1, h.2.2.2.2.2.1, (Bd_flat rfl _), trivial⟩

theorem pto40 (x : T58.den) (h : Bd T58 x) : q40 big (x, ()) = some x := by
  rw [q40_eq]

theorem pto20 (x : T33.den) (h : Bd T33 x) : q20 big (x, ()) = some x := by
  have := copy_ok (g := fun y => some y) (f := fun y => y) (r := fun n i b => r20_3 n (x, i, ()) (b, ())) (n := big) (q20_eq big x) (fun n i b => r20_3_eq n x i b) (fun _ _ => rfl) h.1 (by decide)
  simpa using this

theorem pto51 (x : T59.den) (h : Bd T59 x) : q51 big (x, ()) = some x := by
  have := copy_ok (g := fun y => some y) (f := fun y => y) (r := fun n i b => r51_3 n (x, i, ()) (b, ())) (n := big) (q51_eq big x) (fun n i b => r51_3_eq n x i b) (fun _ _ => rfl) h.1 (by decide)
  simpa using this

theorem pto126 (x : T163.den) (h : Bd T163 x) : q126 big (x, ()) = some x := by
  rw [q126_eq]

theorem pto90 (x : T60.den) (h : Bd T60 x) : q90 big (x, ()) = some x := by
  have := copy_ok (g := fun y => some y) (f := fun y => y) (r := fun n i b => r90_3 n (x, i, ()) (b, ())) (n := big) (q90_eq big x) (fun n i b => r90_3_eq n x i b) (fun _ _ => rfl) h.1 (by decide)
  simpa using this

theorem pto127 (x : T166.den) (h : Bd T166 x) : q127 big (x, ()) = some x := by
  rw [q127_eq]

theorem pto91 (x : T61.den) (h : Bd T61 x) : q91 big (x, ()) = some x := by
  have := copy_ok (g := fun y => some y) (f := fun y => y) (r := fun n i b => r91_3 n (x, i, ()) (b, ())) (n := big) (q91_eq big x) (fun n i b => r91_3_eq n x i b) (fun _ _ => rfl) h.1 (by decide)
  simpa using this

theorem pto128 (x : T172.den) (h : Bd T172 x) : q128 big (x, ()) = some x := by
  rw [q128_eq]

theorem pto92 (x : T62.den) (h : Bd T62 x) : q92 big (x, ()) = some x := by
  have := copy_ok (g := fun y => some y) (f := fun y => y) (r := fun n i b => r92_3 n (x, i, ()) (b, ())) (n := big) (q92_eq big x) (fun n i b => r92_3_eq n x i b) (fun _ _ => rfl) h.1 (by decide)
  simpa using this

theorem pto36 (x : T64.den) (h : Bd T64 x) : q36 big (x, ()) = some x := by
  rw [q36_eq, pto51 _ (h.2.2.2.2.2.1), pto90 _ (h.2.2.2.2.2.2.1), pto51 _ (h.2.2.2.2.2.2.2.1), pto91 _ (h.2.2.2.2.2.2.2.2.1), pto20 _ (h.2.2.2.2.2.2.2.2.2.1), pto92 _ (h.2.2.2.2.2.2.2.2.2.2.1)]
  rfl

theorem peq66 (x : T67.den) (h : Bd T67 x) : q66 big (x, x, ()) = some true := by
  rw [q66_eq]
  simp only [decide_true, Bool.not_true, cond_false]

theorem peq22 (x : T36.den) (h : Bd T36 x) : q22 big (x, x, ()) = some true := 
  eq_ok (e := fun y y1 => q66 big (y, y1, ())) (r := fun n i => r22_4 n (x, x, i, ()) ()) (n := big) (q22_eq big x x) (fun n i => r22_4_eq n x x i) (fun y hy => peq66 y (h.2 y hy)) h.1 (by decide)

theorem peq45 (x : T53.den) (h : Bd T53 x) : q45 big (x, x, ()) = some true := by
  rw [q45_eq]
  simp only [decide_true, Bool.not_true, cond_false]

theorem peq107 (x : T148.den) (h : Bd T148 x) : q107 big (x, x, ()) = some true := by
  rw [q107_eq]
  simp only [decide_true, Bool.not_true, cond_false]

theorem peq53 (x : T68.den) (h : Bd T68 x) : q53 big (x, x, ()) = some true := 
  eq_ok (e := fun y y1 => q107 big (y, y1, ())) (r := fun n i => r53_4 n (x, x, i, ()) ()) (n := big) (q53_eq big x x) (fun n i => r53_4_eq n x x i) (fun y hy => peq107 y (h.2 y hy)) h.1 (by decide)

theorem peq54 (x : T59.den) (h : Bd T59 x) : q54 big (x, x, ()) = some true := 
  eq_ok (e := fun y y1 => some (decide (y = y1))) (r := fun n i => r54_4 n (x, x, i, ()) ()) (n := big) (q54_eq big x x) (fun n i => r54_4_eq n x x i) (fun y _ => by simp) h.1 (by decide)

theorem peq129 (x : T168.den) (h : Bd T168 x) : q129 big (x, x, ()) = some true := by
  rw [q129_eq]
  simp only [decide_true, beq_self_eq_true, Bool.not_true, cond_false]

theorem peq93 (x : T69.den) (h : Bd T69 x) : q93 big (x, x, ()) = some true := 
  eq_ok (e := fun y y1 => q129 big (y, y1, ())) (r := fun n i => r93_4 n (x, x, i, ()) ()) (n := big) (q93_eq big x x) (fun n i => r93_4_eq n x x i) (fun y hy => peq129 y (h.2 y hy)) h.1 (by decide)

theorem peq42 (x : T77.den) (h : Bd T77 x) : q42 big (x, x, ()) = some true := by
  rw [q42_eq]
  simp only [decide_true, Bool.not_true, cond_false, Option.bind_some, peq45 _ (h.2.2.2.2.2.1), peq66 _ (h.2.2.2.2.2.2.1)]

theorem peq94 (x : T70.den) (h : Bd T70 x) : q94 big (x, x, ()) = some true := 
  eq_ok (e := fun y y1 => q42 big (y, y1, ())) (r := fun n i => r94_4 n (x, x, i, ()) ()) (n := big) (q94_eq big x x) (fun n i => r94_4_eq n x x i) (fun y hy => peq42 y (h.2 y hy)) h.1 (by decide)

theorem peq38 (x : T72.den) (h : Bd T72 x) : q38 big (x, x, ()) = some true := by
  rw [q38_eq]
  simp only [decide_true, Bool.not_true, cond_false, Option.bind_some, peq45 _ (h.2.2.1), peq45 _ (h.2.2.2.1), peq66 _ (h.2.2.2.2.1), peq54 _ (h.2.2.2.2.2.1), peq53 _ (h.2.2.2.2.2.2.1), peq54 _ (h.2.2.2.2.2.2.2.1), peq93 _ (h.2.2.2.2.2.2.2.2.1), peq22 _ (h.2.2.2.2.2.2.2.2.2.1), peq94 _ (h.2.2.2.2.2.2.2.2.2.2.1)]

end Go.Sx.Try

set_option maxRecDepth 100000
namespace Go.Sx.Try
open Go Go.Sx Go.Proofs

theorem law8 (x : T64.den) (a1 a2 : Int) (a3 : T48.den) (a4 : T58.den) (hw : WfD T64 x) : q8 big (x, a1, a2, a3, a4, ()) = some true := by
  rw [q8_eq]
  simp only [both_self]
  refine law_sz (psz34 x 1048576 hw (by decide) (by decide)) fun hb _ => ?_
  have e : q41 big (x, a1, a2, a3, a4, ()) = q39 big (x, a1, a2, a3, a4, ()) := by rw [q41_eq, q39_eq]
  obtain ⟨b, hq⟩ : ∃ b, q39 big (x, a1, a2, a3, a4, ()) = some b := by
    rw [q39_eq]
    exact some_cond ⟨_, rfl⟩ ⟨_, rfl⟩
  simp only [pto36 x hb, Option.bind_some, e, hq, peq38 x hb, peq42 b (Bd_flat rfl b), Bool.not_true, cond_false]

end Go.Sx.Try
