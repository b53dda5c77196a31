/- The helpers of the laws. -/
import Derived.Test.YthjmknhkfkofgaaM7
import Derived.Test.YthjmknhkfkofgaaFn12
set_option linter.unusedVariables false
set_option maxRecDepth 100000
namespace Go.Sx.Try
open Go Go.Sx Go.Proofs

theorem peq45 (x : T53.den) (h : Bd T53 x) : q45 big (x, x, ()) = some true := by
  rw [q45_eq]
  simp only [decide_true, Bool.not_true, cond_false]

theorem peq66 (x : T67.den) (h : Bd T67 x) : q66 big (x, x, ()) = some true := by
  rw [q66_eq]
  simp only [decide_true, Bool.not_true, cond_false]

theorem peq42 (x : T77.den) (h : Bd T77 x) : q42 big (x, x, ()) = some true := by
  rw [q42_eq]
  simp only [decide_true, Bool.not_true, cond_false, Option.bind_some, peq45 _ (h.2.2.2.2.2.1), peq66 _ (h.2.2.2.2.2.2.1)]

theorem psz18 (x : T33.den) (a : Int) (hw : WfD T33 x) (h0 : 0 ≤ a) (h1 : a ≤ 1048576) : SzR (q18 big (x, a, ())) a (Bd T33 x) := by
  rw [q18_eq]
  exact (szR_len (K := some) hw.1 h0 h1 fun v _ _ _ => szR_end).imp fun h => ⟨h.1, fun y _ => Bd_flat rfl y⟩

theorem psz67 (x : T23.den) (a : Int) (hw : WfD T23 x) (h0 : 0 ≤ a) (h1 : a ≤ 1048576) : SzR (q67 big (x, a, ())) a (Bd T23 x) := by
  rw [q67_eq]
  exact (szR_len (K := some) (hw.2.1) h0 h1 fun v0 k0 l0 _ => szR_end).imp fun h => (Bd_flat rfl _)

theorem psz75 (x : T97.den) (a : Int) (hw : WfD T97 x) (h0 : 0 ≤ a) (h1 : a ≤ 1048576) : SzR (q75 big (x, a, ())) a (Bd T97 x) := 
  szR_list (qe := fun y a => q67 big (y, a, ())) (r := fun n a i => r75_5 n (x, a, i, ()) ()) (n := big) hw.1 h0 h1 (q75_eq big x a) (fun n a i => r75_5_eq n x a i) (fun y hy a h0 h1 => psz67 y a (hw.2 y hy) h0 h1) (by decide)

theorem psz81 (x : T125.den) (a : Int) (hw : WfD T125 x) (h0 : 0 ≤ a) (h1 : a ≤ 1048576) : SzR (q81 big (x, a, ())) a (Bd T125 x) := by
  rw [q81_eq]
  exact (szR_bind (psz75 _ _ (hw.2.2.1) h0 h1) h0 h1 fun v0 k0 l0 => szR_end).imp fun h => ⟨(Bd_flat rfl _), (Bd_flat rfl _), h.1, (Bd_flat rfl _), trivial⟩

theorem psz28 (x : T46.den) (a : Int) (hw : WfD T46 x) (h0 : 0 ≤ a) (h1 : a ≤ 1048576) : SzR (q28 big (x, a, ())) a (Bd T46 x) := 
  szR_list (qe := fun y a => q81 big (y, a, ())) (r := fun n a i => r28_5 n (x, a, i, ()) ()) (n := big) hw.1 h0 h1 (q28_eq big x a) (fun n a i => r28_5_eq n x a i) (fun y hy a h0 h1 => psz81 y a (hw.2 y hy) h0 h1) (by decide)

theorem psz89 (x : T62.den) (a : Int) (hw : WfD T62 x) (h0 : 0 ≤ a) (h1 : a ≤ 1048576) : SzR (q89 big (x, a, ())) a (Bd T62 x) := by
  rw [q89_eq]
  exact (szR_len (K := some) hw.1 h0 h1 fun v _ _ _ => szR_end).imp fun h => ⟨h.1, fun y _ => Bd_flat rfl y⟩

theorem psz86 (x : T59.den) (a : Int) (hw : WfD T59 x) (h0 : 0 ≤ a) (h1 : a ≤ 1048576) : SzR (q86 big (x, a, ())) a (Bd T59 x) := by
  rw [q86_eq]
  exact (szR_len (K := some) hw.1 h0 h1 fun v _ _ _ => szR_end).imp fun h => ⟨h.1, fun y _ => Bd_flat rfl y⟩

theorem psz124 (x : T163.den) (a : Int) (hw : WfD T163 x) (h0 : 0 ≤ a) (h1 : a ≤ 1048576) : SzR (q124 big (x, a, ())) a (Bd T163 x) := by
  rw [q124_eq]
  exact (szR_len (K := some) (hw.1) h0 h1 fun v0 k0 l0 _ => szR_end).imp fun h => (Bd_flat rfl _)

theorem psz87 (x : T60.den) (a : Int) (hw : WfD T60 x) (h0 : 0 ≤ a) (h1 : a ≤ 1048576) : SzR (q87 big (x, a, ())) a (Bd T60 x) := 
  szR_list (qe := fun y a => q124 big (y, a, ())) (r := fun n a i => r87_5 n (x, a, i, ()) ()) (n := big) hw.1 h0 h1 (q87_eq big x a) (fun n a i => r87_5_eq n x a i) (fun y hy a h0 h1 => psz124 y a (hw.2 y hy) h0 h1) (by decide)

theorem psz125 (x : T166.den) (a : Int) (hw : WfD T166 x) (h0 : 0 ≤ a) (h1 : a ≤ 1048576) : SzR (q125 big (x, a, ())) a (Bd T166 x) := by
  rw [q125_eq]
  exact (szR_len (K := some) (hw.1) h0 h1 fun v0 k0 l0 _ => szR_end).imp fun h => (Bd_flat rfl _)

theorem psz88 (x : T61.den) (a : Int) (hw : WfD T61 x) (h0 : 0 ≤ a) (h1 : a ≤ 1048576) : SzR (q88 big (x, a, ())) a (Bd T61 x) := 
  szR_list (qe := fun y a => q125 big (y, a, ())) (r := fun n a i => r88_5 n (x, a, i, ()) ()) (n := big) hw.1 h0 h1 (q88_eq big x a) (fun n a i => r88_5_eq n x a i) (fun y hy a h0 h1 => psz125 y a (hw.2 y hy) h0 h1) (by decide)

theorem psz34 (x : T64.den) (a : Int) (hw : WfD T64 x) (h0 : 0 ≤ a) (h1 : a ≤ 1048576) : SzR (q34 big (x, a, ())) a (Bd T64 x) := by
  rw [q34_eq]
  exact (szR_bind (psz86 _ _ (hw.2.2.2.2.2.1) h0 h1) h0 h1 fun v0 k0 l0 => szR_bind (psz87 _ _ (hw.2.2.2.2.2.2.1) k0 l0) k0 l0 fun v1 k1 l1 => szR_bind (psz86 _ _ (hw.2.2.2.2.2.2.2.1) k1 l1) k1 l1 fun v2 k2 l2 => szR_bind (psz88 _ _ (hw.2.2.2.2.2.2.2.2.1) k2 l2) k2 l2 fun v3 k3 l3 => szR_bind (psz18 _ _ (hw.2.2.2.2.2.2.2.2.2.1) k3 l3) k3 l3 fun v4 k4 l4 => szR_bind (psz89 _ _ (hw.2.2.2.2.2.2.2.2.2.2.1) k4 l4) k4 l4 fun v5 k5 l5 => szR_end).imp fun h => ⟨(Bd_flat rfl _), (Bd_flat rfl _), (Bd_flat rfl _), (Bd_flat rfl _), (Bd_flat rfl _), h.1, h.2.1, h.2.2.1, h.2.2.2.1, h.2.2.2.2.1, h.2.2.2.2.2.1, (Bd_flat rfl _), trivial⟩

theorem psz110 (x : T96.den) (a : Int) (hw : WfD T96 x) (h0 : 0 ≤ a) (h1 : a ≤ 1048576) : SzR (q110 big (x, a, ())) a (Bd T96 x) := 
  szR_list (qe := fun y a => q34 big (y, a, ())) (r := fun n a i => r110_5 n (x, a, i, ()) ()) (n := big) hw.1 h0 h1 (q110_eq big x a) (fun n a i => r110_5_eq n x a i) (fun y hy a h0 h1 => psz34 y a (hw.2 y hy) h0 h1) (by decide)

theorem psz59 (x : T99.den) (a : Int) (hw : WfD T99 x) (h0 : 0 ≤ a) (h1 : a ≤ 1048576) : SzR (q59 big (x, a, ())) a (Bd T99 x) := by
  rw [q59_eq]
  exact (szR_bind (psz28 _ _ (hw.2.2.2.1) h0 h1) h0 h1 fun v0 k0 l0 => szR_bind (psz110 _ _ (hw.2.2.2.2.1) k0 l0) k0 l0 fun v1 k1 l1 => szR_bind (psz89 _ _ (hw.2.2.2.2.2.1) k1 l1) k1 l1 fun v2 k2 l2 => szR_bind (psz18 _ _ (hw.2.2.2.2.2.2.1) k2 l2) k2 l2 fun v3 k3 l3 => szR_bind (psz75 _ _ (hw.2.2.2.2.2.2.2.1) k3 l3) k3 l3 fun v4 k4 l4 => szR_end).imp fun h => ⟨(Bd_flat rfl _), (Bd_flat rfl _), (Bd_flat rfl _), h.1, h.2.1, h.2.2.1, h.2.2.2.1, h.2.2.2.2.1, trivial⟩

theorem pto40 (x : T58.den) (h : Bd T58 x) : q40 big (x, ()) = some x := by
  rw [q40_eq]

theorem pto20 (x : T33.den) (h : Bd T33 x) : q20 big (x, ()) = some x := by
  have := copy_ok (g := fun y => some y) (f := fun y => y) (r := fun n i b => r20_3 n (x, i, ()) (b, ())) (n := big) (q20_eq big x) (fun n i b => r20_3_eq n x i b) (fun _ _ => rfl) h.1 (by decide)
  simpa using this

theorem pto31 (x : T48.den) (h : Bd T48 x) : q31 big (x, ()) = some x := by
  rw [q31_eq]

theorem pto70 (x : T23.den) (h : Bd T23 x) : q70 big (x, ()) = some x := by
  rw [q70_eq]

theorem pto76 (x : T97.den) (h : Bd T97 x) : q76 big (x, ()) = some x := by
  have := copy_ok (g := fun y => some y) (f := fun y => y) (r := fun n i b => r76_3 n (x, i, ()) (b, ())) (n := big) (q76_eq big x) (fun n i b => r76_3_eq n x i b) (fun _ _ => rfl) h.1 (by decide)
  simpa using this

theorem pto83 (x : T125.den) (h : Bd T125 x) : q83 big (x, ()) = some x := by
  rw [q83_eq, pto76 _ (h.2.2.1)]
  rfl

theorem pto30 (x : T46.den) (h : Bd T46 x) : q30 big (x, ()) = some x := by
  have := copy_ok (g := fun y => q83 big (y, ())) (f := fun y => y) (r := fun n i b => r30_3 n (x, i, ()) (b, ())) (n := big) (q30_eq big x) (fun n i b => r30_3_eq n x i b) (fun y hy => pto83 y (h.2 y hy)) h.1 (by decide)
  simpa using this

theorem pto128 (x : T172.den) (h : Bd T172 x) : q128 big (x, ()) = some x := by
  rw [q128_eq]

theorem pto92 (x : T62.den) (h : Bd T62 x) : q92 big (x, ()) = some x := by
  have := copy_ok (g := fun y => some y) (f := fun y => y) (r := fun n i b => r92_3 n (x, i, ()) (b, ())) (n := big) (q92_eq big x) (fun n i b => r92_3_eq n x i b) (fun _ _ => rfl) h.1 (by decide)
  simpa using this

theorem pto51 (x : T59.den) (h : Bd T59 x) : q51 big (x, ()) = some x := by
  have := copy_ok (g := fun y => some y) (f := fun y => y) (r := fun n i b => r51_3 n (x, i, ()) (b, ())) (n := big) (q51_eq big x) (fun n i b => r51_3_eq n x i b) (fun _ _ => rfl) h.1 (by decide)
  simpa using this

theorem pto126 (x : T163.den) (h : Bd T163 x) : q126 big (x, ()) = some x := by
  rw [q126_eq]

theorem pto90 (x : T60.den) (h : Bd T60 x) : q90 big (x, ()) = some x := by
  have := copy_ok (g := fun y => some y) (f := fun y => y) (r := fun n i b => r90_3 n (x, i, ()) (b, ())) (n := big) (q90_eq big x) (fun n i b => r90_3_eq n x i b) (fun _ _ => rfl) h.1 (by decide)
  simpa using this

theorem pto127 (x : T166.den) (h : Bd T166 x) : q127 big (x, ()) = some x := by
  rw [q127_eq]

theorem pto91 (x : T61.den) (h : Bd T61 x) : q91 big (x, ()) = some x := by
  have := copy_ok (g := fun y => some y) (f := fun y => y) (r := fun n i b => r91_3 n (x, i, ()) (b, ())) (n := big) (q91_eq big x) (fun n i b => r91_3_eq n x i b) (fun _ _ => rfl) h.1 (by decide)
  simpa using this

theorem pto36 (x : T64.den) (h : Bd T64 x) : q36 big (x, ()) = some x := by
  rw [q36_eq, pto51 _ (h.2.2.2.2.2.1), pto90 _ (h.2.2.2.2.2.2.1), pto51 _ (h.2.2.2.2.2.2.2.1), pto91 _ (h.2.2.2.2.2.2.2.2.1), pto20 _ (h.2.2.2.2.2.2.2.2.2.1), pto92 _ (h.2.2.2.2.2.2.2.2.2.2.1)]
  rfl

theorem pto111 (x : T96.den) (h : Bd T96 x) : q111 big (x, ()) = some x := by
  have := copy_ok (g := fun y => q36 big (y, ())) (f := fun y => y) (r := fun n i b => r111_3 n (x, i, ()) (b, ())) (n := big) (q111_eq big x) (fun n i b => r111_3_eq n x i b) (fun y hy => pto36 y (h.2 y hy)) h.1 (by decide)
  simpa using this

theorem pto61 (x : T99.den) (h : Bd T99 x) : q61 big (x, ()) = some x := by
  rw [q61_eq, pto30 _ (h.2.2.2.1), pto111 _ (h.2.2.2.2.1), pto92 _ (h.2.2.2.2.2.1), pto20 _ (h.2.2.2.2.2.2.1), pto76 _ (h.2.2.2.2.2.2.2.1)]
  rfl

theorem peq22 (x : T36.den) (h : Bd T36 x) : q22 big (x, x, ()) = some true := 
  eq_ok (e := fun y y1 => q66 big (y, y1, ())) (r := fun n i => r22_4 n (x, x, i, ()) ()) (n := big) (q22_eq big x x) (fun n i => r22_4_eq n x x i) (fun y hy => peq66 y (h.2 y hy)) h.1 (by decide)

theorem peq120 (x : T28.den) (h : Bd T28 x) : q120 big (x, x, ()) = some true := by
  rw [q120_eq]
  simp only [decide_true, Bool.not_true, cond_false]

theorem peq80 (x : T103.den) (h : Bd T103 x) : q80 big (x, x, ()) = some true := 
  eq_ok (e := fun y y1 => q120 big (y, y1, ())) (r := fun n i => r80_4 n (x, x, i, ()) ()) (n := big) (q80_eq big x x) (fun n i => r80_4_eq n x x i) (fun y hy => peq120 y (h.2 y hy)) h.1 (by decide)

theorem peq85 (x : T128.den) (h : Bd T128 x) : q85 big (x, x, ()) = some true := by
  rw [q85_eq]
  simp only [decide_true, Bool.not_true, cond_false, Option.bind_some, peq80 _ (h.2.2.1), peq45 _ (h.2.2.2.1)]

theorem peq33 (x : T51.den) (h : Bd T51 x) : q33 big (x, x, ()) = some true := 
  eq_ok (e := fun y y1 => q85 big (y, y1, ())) (r := fun n i => r33_4 n (x, x, i, ()) ()) (n := big) (q33_eq big x x) (fun n i => r33_4_eq n x x i) (fun y hy => peq85 y (h.2 y hy)) h.1 (by decide)

theorem peq94 (x : T70.den) (h : Bd T70 x) : q94 big (x, x, ()) = some true := 
  eq_ok (e := fun y y1 => q42 big (y, y1, ())) (r := fun n i => r94_4 n (x, x, i, ()) ()) (n := big) (q94_eq big x x) (fun n i => r94_4_eq n x x i) (fun y hy => peq42 y (h.2 y hy)) h.1 (by decide)

theorem peq107 (x : T148.den) (h : Bd T148 x) : q107 big (x, x, ()) = some true := by
  rw [q107_eq]
  simp only [decide_true, Bool.not_true, cond_false]

theorem peq53 (x : T68.den) (h : Bd T68 x) : q53 big (x, x, ()) = some true := 
  eq_ok (e := fun y y1 => q107 big (y, y1, ())) (r := fun n i => r53_4 n (x, x, i, ()) ()) (n := big) (q53_eq big x x) (fun n i => r53_4_eq n x x i) (fun y hy => peq107 y (h.2 y hy)) h.1 (by decide)

theorem peq54 (x : T59.den) (h : Bd T59 x) : q54 big (x, x, ()) = some true := 
  eq_ok (e := fun y y1 => some (decide (y = y1))) (r := fun n i => r54_4 n (x, x, i, ()) ()) (n := big) (q54_eq big x x) (fun n i => r54_4_eq n x x i) (fun y _ => by simp) h.1 (by decide)

theorem peq129 (x : T168.den) (h : Bd T168 x) : q129 big (x, x, ()) = some true := by
  rw [q129_eq]
  simp only [decide_true, beq_self_eq_true, Bool.not_true, cond_false]

theorem peq93 (x : T69.den) (h : Bd T69 x) : q93 big (x, x, ()) = some true := 
  eq_ok (e := fun y y1 => q129 big (y, y1, ())) (r := fun n i => r93_4 n (x, x, i, ()) ()) (n := big) (q93_eq big x x) (fun n i => r93_4_eq n x x i) (fun y hy => peq129 y (h.2 y hy)) h.1 (by decide)

theorem peq38 (x : T72.den) (h : Bd T72 x) : q38 big (x, x, ()) = some true := by
  rw [q38_eq]
  simp only [decide_true, Bool.not_true, cond_false, Option.bind_some, peq45 _ (h.2.2.1), peq45 _ (h.2.2.2.1), peq66 _ (h.2.2.2.2.1), peq54 _ (h.2.2.2.2.2.1), peq53 _ (h.2.2.2.2.2.2.1), peq54 _ (h.2.2.2.2.2.2.2.1), peq93 _ (h.2.2.2.2.2.2.2.2.1), peq22 _ (h.2.2.2.2.2.2.2.2.2.1), peq94 _ (h.2.2.2.2.2.2.2.2.2.2.1)]

theorem peq113 (x : T102.den) (h : Bd T102 x) : q113 big (x, x, ()) = some true := 
  eq_ok (e := fun y y1 => q38 big (y, y1, ())) (r := fun n i => r113_4 n (x, x, i, ()) ()) (n := big) (q113_eq big x x) (fun n i => r113_4_eq n x x i) (fun y hy => peq38 y (h.2 y hy)) h.1 (by decide)

theorem peq63 (x : T105.den) (h : Bd T105 x) : q63 big (x, x, ()) = some true := by
  rw [q63_eq]
  simp only [decide_true, beq_self_eq_true, Bool.not_true, cond_false, Option.bind_some, peq33 _ (h.2.2.2.1), peq113 _ (h.2.2.2.2.1), peq94 _ (h.2.2.2.2.2.1), peq22 _ (h.2.2.2.2.2.2.1), peq80 _ (h.2.2.2.2.2.2.2.1)]

end Go.Sx.Try

set_option maxRecDepth 100000
namespace Go.Sx.Try
open Go Go.Sx Go.Proofs

theorem law12 (x : T99.den) (a1 a2 a3 a4 : Int) (hw : WfD T99 x) : q12 big (x, a1, a2, a3, a4, ()) = some true := by
  rw [q12_eq]
  simp only [both_self]
  refine law_sz (psz59 x 1048576 hw (by decide) (by decide)) fun hb _ => ?_
  obtain ⟨b, h1, h2⟩ : ∃ b, q60 big (x, a1, a2, a3, a4, ()) = some b ∧ q62 big (x, a1, a2, a3, a4, ()) = some b := by
    have hl : List.length x.2.2.2.1 ≤ 1048576 := hb.2.2.2.1.1
    rw [q60_eq, q62_eq, q112_eq, q68_eq, q71_eq]
    generalize x.2.2.2.1 = xs at hl
    rw [wrap64 (by omega) (by omega)]
    by_cases h0 : 0 ≤ a4
    · by_cases h1 : a4 ≤ (List.length xs : Int) - 1
      · have hk : a4.toNat < List.length xs := by omega
        rw [nth_at hk]
        simp only [h0, h1, decide_true, cond_true, Option.bind_some, if_true, Bool.not_true, cond_false]
        exact ⟨_, rfl, rfl⟩
      · simp only [h0, h1, decide_true, decide_false, cond_true, Option.bind_some, if_true, Bool.not_false, cond_false]
        exact ⟨_, rfl, rfl⟩
    · simp only [h0, decide_false, cond_true, Option.bind_some, Bool.not_false, cond_false]
      exact ⟨_, rfl, rfl⟩
  simp only [pto61 x hb, Option.bind_some, h1, h2, peq63 x hb, peq42 b (Bd_flat rfl b), Bool.not_true, cond_false]

end Go.Sx.Try
