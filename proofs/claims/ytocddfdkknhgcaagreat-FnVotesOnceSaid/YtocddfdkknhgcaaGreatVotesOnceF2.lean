/- The functions of the seat: what each comes to. -/
import Derived.Test.YtocddfdkknhgcaaGreatTypes
import Derived.Test.YtocddfdkknhgcaaGreatVotesOnceF1
set_option linter.unusedVariables false
set_option linter.unusedSimpArgs false
set_option maxRecDepth 100000
namespace Go.Sx.Tryz
open Go Go.Sx Go.Proofs
def shI : Sh Res := ⟨id, some, fun r x h => by cases h; exact ResC.of_eq rfl⟩
noncomputable def runPost (n : Nat) (args : List SV) : Option Res := bif boxesOk args [] then evX (false, false, []) [] [] [none] Tryz.f214 shI n args else none
def encX (v3 v4 v5 v6 v7 : Value) (x : DICluster) : SV := .mr [.val tInt x.1, .val tBool x.2.1, .val tInt x.2.2.1, .vl v3 tSlIBlock x.2.2.2.1, .vl v4 tSlIPeer x.2.2.2.2.1, .vl v5 tSlILetter x.2.2.2.2.2.1, .vl v6 tSlIVote x.2.2.2.2.2.2.1, .vl v7 tSlICmd x.2.2.2.2.2.2.2.1]
abbrev cX (v3 v4 v6 v7 : Value) (e : SV) (x : DICluster) : List SV := [.val tInt x.1, .val tBool x.2.1, .val tInt x.2.2.1, .vl v3 tSlIBlock x.2.2.2.1, .vl v4 tSlIPeer x.2.2.2.2.1, e, .vl v6 tSlIVote x.2.2.2.2.2.2.1, .vl v7 tSlICmd x.2.2.2.2.2.2.2.1]
theorem runPost_eq (v3 v4 v5 v6 v7 : Value) (x : DICluster) (l : DSlILetter) (n : Nat) : runPost n [encX v3 v4 v5 v6 v7 x, .val tSlILetter l] =
  bif decide ((60 : Int) < IntKind.i64.wrap ((↑(List.length x.2.2.2.2.2.1) : Int) + (↑(List.length l) : Int))) then some (.val .bool false, [cX v3 v4 v6 v7 (.vl v5 tSlILetter x.2.2.2.2.2.1) x])
  else if 0 + List.length x.2.2.2.2.2.1 ≤ lim then if List.length x.2.2.2.2.2.1 + List.length l ≤ lim then some (.val .bool true, [cX v3 v4 v6 v7 (.fr tILetter (List.append x.2.2.2.2.2.1 l)) x]) else none else none := by kernel_rfl
def unV (t : Ty) (l : List SV) : Option (t.den × List SV) := match l with
 | .val s x :: r => (match toS s t x with | some y => some (y, r) | none => none)
 | _ => none
def unX (t : Ty) (l : List SV) : Option (Value × t.den × List SV) := match l with
 | .vl c s x :: r => (match toS s t x with | some y => some (c, y, r) | none => none)
 | _ => none
theorem unV_ok {t : Ty} {l : List SV} {x : t.den} {r : List SV} (h : unV t l = some (x, r)) : l = .val t x :: r := by
 unfold unV at h
 split at h
 ·split at h
  ·rename_i hy
   cases h
   obtain ⟨e, h2⟩ := toS_ok hy
   subst e; subst h2
   rfl
  ·cases h
 ·cases h
theorem unX_ok {t : Ty} {l : List SV} {c : Value} {x : t.den} {r : List SV} (h : unX t l = some (c, x, r)) : l = .vl c t x :: r := by
 unfold unX at h
 split at h
 ·split at h
  ·rename_i hy
   cases h
   obtain ⟨e, h2⟩ := toS_ok hy
   subst e; subst h2
   rfl
  ·cases h
 ·cases h
abbrev XD : Type := (Value × Value × Value × Value × Value) × DICluster × DSlILetter
def decC (l0 : List SV) : Option ((Value × Value × Value × Value × Value) × DICluster) :=
 (unV tInt l0).bind fun q1 => (unV tBool q1.2).bind fun q2 => (unV tInt q2.2).bind fun q3 => (unX tSlIBlock q3.2).bind fun q4 => (unX tSlIPeer q4.2.2).bind fun q5 => (unX tSlILetter q5.2.2).bind fun q6 =>
  (unX tSlIVote q6.2.2).bind fun q7 => (unX tSlICmd q7.2.2).bind fun q8 => match q8.2.2 with
  | [] => some ((q4.1, q5.1, q6.1, q7.1, q8.1), (q1.1, q2.1, q3.1, q4.2.1, q5.2.1, q6.2.1, q7.2.1, q8.2.1, ()))
  | _ :: _ => none
def decX (args : List SV) : Option XD := match args with
 | [.mr l0, .val t9 l] => (decC l0).bind fun q => (toS t9 tSlILetter l).bind fun y => some (q.1, q.2, y)
 | _ => none
theorem decC_ok {l0 : List SV} {q : (Value × Value × Value × Value × Value) × DICluster} (h : decC l0 = some q) : SV.mr l0 = encX q.1.1 q.1.2.1 q.1.2.2.1 q.1.2.2.2.1 q.1.2.2.2.2 q.2 := by
 unfold decC at h
 obtain ⟨q1, h1, h⟩ := Option.bind_eq_some_iff.1 h
 obtain ⟨q2, h2, h⟩ := Option.bind_eq_some_iff.1 h
 obtain ⟨q3, h3, h⟩ := Option.bind_eq_some_iff.1 h
 obtain ⟨q4, h4, h⟩ := Option.bind_eq_some_iff.1 h
 obtain ⟨q5, h5, h⟩ := Option.bind_eq_some_iff.1 h
 obtain ⟨q6, h6, h⟩ := Option.bind_eq_some_iff.1 h
 obtain ⟨q7, h7, h⟩ := Option.bind_eq_some_iff.1 h
 obtain ⟨q8, h8, h⟩ := Option.bind_eq_some_iff.1 h
 split at h
 ·rename_i h9
  simp only [Option.some.injEq] at h
  subst h
  have e8 := unX_ok h8
  rw [h9] at e8
  rw [unV_ok h1, unV_ok h2, unV_ok h3, unX_ok h4, unX_ok h5, unX_ok h6, unX_ok h7, e8]
  rfl
 ·cases h
theorem decX_ok {args : List SV} {q : XD} (h : decX args = some q) : args = [encX q.1.1 q.1.2.1 q.1.2.2.1 q.1.2.2.2.1 q.1.2.2.2.2 q.2.1, .val tSlILetter q.2.2] := by
 unfold decX at h
 split at h
 ·obtain ⟨q1, h1, h⟩ := Option.bind_eq_some_iff.1 h
  obtain ⟨y, h2, h⟩ := Option.bind_eq_some_iff.1 h
  simp only [Option.some.injEq] at h
  subst h
  obtain ⟨e, h3⟩ := toS_ok h2
  subst e; subst h3
  rw [decC_ok h1]
 ·cases h
noncomputable def postK {R : Type} (q : XD) (K : SV → List (List SV) → Option R) : Option R :=
 bif decide ((60 : Int) < IntKind.i64.wrap ((↑(List.length q.2.1.2.2.2.2.2.1) : Int) + (↑(List.length q.2.2) : Int))) then K (.val .bool false) [cX q.1.1 q.1.2.1 q.1.2.2.2.1 q.1.2.2.2.2 (.vl q.1.2.2.1 tSlILetter q.2.1.2.2.2.2.2.1) q.2.1]
 else if 0 + List.length q.2.1.2.2.2.2.2.1 ≤ lim then if List.length q.2.1.2.2.2.2.2.1 + List.length q.2.2 ≤ lim then K (.val .bool true) [cX q.1.1 q.1.2.1 q.1.2.2.2.1 q.1.2.2.2.2 (.fr tILetter (List.append q.2.1.2.2.2.2.2.1 q.2.2)) q.2.1] else none else none
noncomputable def con15Post : Con := ⟨[.mref, .ro tSlILetter], fun _ args K => (decX args).bind fun q => postK q K, false⟩
theorem evPost_ok (n : Nat) (args : List SV) (r0 : Res) (hb : boxesOk args [] = true) (h1 : evX (false, false, []) [] [] [none] Tryz.f214 shI n args = some r0) : CallOk Tryz.prog 214 args (shI.sh r0).1 (shI.sh r0).2 :=
 evX_ok Tryz.cons_nil (by kernel_rfl) rfl (by kernel_rfl) hb n h1
theorem runPost_ok (args : List SV) (r0 : Res) (h1 : runPost big args = some r0) : CallOk Tryz.prog 214 args r0.1 r0.2 := by
 unfold runPost at h1
 cases hb : boxesOk args [] with
 | false => rw [hb] at h1; cases h1
 | true =>
  rw [hb, cond_true] at h1
  exact evPost_ok big args r0 hb h1
theorem post_cases {R : Type} {P : SV → List (List SV) → Prop} {o : Option Res} (fin : ∀ r0 : Res, o = some r0 → P r0.1 r0.2) {c1 : Bool} {c2 c3 : Prop} [Decidable c2] [Decidable c3] {a b : SV} {x y : List (List SV)}
  (hp : o = bif c1 then some (a, x) else if c2 then if c3 then some (b, y) else none else none) {K : SV → List (List SV) → Option R} {r : R} (h : (bif c1 then K a x else if c2 then if c3 then K b y else none else none) = some r) : ∃ sv outs, P sv outs ∧ K sv outs = some r := by
 cases c1 with
 | true => exact ⟨a, x, fin (a, x) hp, h⟩
 | false =>
  simp only [cond_false] at h hp
  split at h
  ·rename_i g1
   rw [if_pos g1] at hp
   split at h
   ·rename_i g2
    rw [if_pos g2] at hp
    exact ⟨b, y, fin (b, y) hp, h⟩
   ·cases h
  ·cases h
theorem post_mono {R : Type} {c1 : Bool} {c2 c3 : Prop} [Decidable c2] [Decidable c3] {a b : SV} {x y : List (List SV)} {K K' : SV → List (List SV) → Option R} {r : R} (hk : ∀ sv outs, K sv outs = some r → K' sv outs = some r)
  (h : (bif c1 then K a x else if c2 then if c3 then K b y else none else none) = some r) : (bif c1 then K' a x else if c2 then if c3 then K' b y else none else none) = some r := by
 cases c1 with
 | true => exact hk _ _ h
 | false =>
  simp only [cond_false] at h ⊢
  split at h
  ·split at h
   ·rename_i g1 g2; rw [if_pos g1, if_pos g2]; exact hk _ _ h
   ·cases h
  ·cases h
theorem con15Post_ok : ConOk Tryz.prog 214 con15Post := by
 refine ⟨⟨Tryz.f214, by kernel_rfl, rfl, by decide⟩, fun R args K r he => ?_, fun R args K K' r hk he => ?_⟩
 ·obtain ⟨q, h1, h2⟩ := Option.bind_eq_some_iff.1 he
  have hp := runPost_eq q.1.1 q.1.2.1 q.1.2.2.1 q.1.2.2.2.1 q.1.2.2.2.2 q.2.1 q.2.2 big
  rw [← decX_ok h1] at hp
  have fin := fun r0 => runPost_ok args r0
  generalize runPost big args = o at hp fin
  exact post_cases fin hp h2
 ·obtain ⟨q, h1, h2⟩ := Option.bind_eq_some_iff.1 he
  exact Option.bind_eq_some_iff.2 ⟨q, h1, post_mono hk h2⟩
noncomputable def runTwice (n : Nat) (v3 v4 v5 v6 v7 : Value) (x : DICluster) (k : Int) : Option Res := evX (false, false, []) [(67, c_s_l01In), (214, con15Post)] [] [none] Tryz.f183 shI n [encX v3 v4 v5 v6 v7 x, .val tInt k]
abbrev twL (x : DICluster) (k : Int) : List DILetter := List.take ((IntKind.i64.wrap (k + 1)).toNat - k.toNat) (List.drop k.toNat x.2.2.2.2.2.1)
theorem runTwice_eq (v3 v4 v5 v6 v7 : Value) (x : DICluster) (k : Int) (n : Nat) : runTwice n v3 v4 v5 v6 v7 x k =
  (Q_s_l01In big k 0 (IntKind.i64.wrap ((↑(List.length x.2.2.2.2.2.1) : Int) - 1))).bind fun y => bif !y then some (.val .bool false, [cX v3 v4 v6 v7 (.vl v5 tSlILetter x.2.2.2.2.2.1) x]) else
  if 0 ≤ IntKind.i64.wrap (k + 1) then if IntKind.i64.wrap (k + 1) ≤ (↑(List.length x.2.2.2.2.2.1) : Int) then if 0 ≤ k then if k ≤ IntKind.i64.wrap (k + 1) then
  bif decide ((60 : Int) < IntKind.i64.wrap ((↑(List.length x.2.2.2.2.2.1) : Int) + (↑(List.length (twL x k)) : Int))) then some (.val .bool false, [cX v3 v4 v6 v7 (.vl v5 tSlILetter x.2.2.2.2.2.1) x])
  else if 0 + List.length x.2.2.2.2.2.1 ≤ lim then if List.length x.2.2.2.2.2.1 + List.length (twL x k) ≤ lim then some (.val .bool true, [cX v3 v4 v6 v7 (.fr tILetter (List.append x.2.2.2.2.2.1 (twL x k))) x]) else none else none
  else none else none else none else none := by kernel_rfl
theorem cvl_cons {im : Nat → Prop} {w : World} {x : SV} {l : List SV} {cs : List Value} {S : List Nat} (h : CVL im w (x :: l) cs S []) : ∃ c r S1 S2, cs = c :: r ∧ S = S1 ++ S2 ∧ CV im w x c S1 [] ∧ CVL im w l r S2 [] := by
 simp only [CVL] at h
 obtain ⟨c, r, S1, S2, B1, B2, h1, h2, h3, h4, h5⟩ := h
 obtain ⟨rfl, rfl⟩ := List.append_eq_nil_iff.1 h3.symm
 exact ⟨c, r, S1, S2, h1, h2, h4, h5⟩
theorem cvl_nil {im : Nat → Prop} {w : World} {cs : List Value} {S : List Nat} (h : CVL im w [] cs S []) : cs = [] ∧ S = [] := by
 simp only [CVL] at h; exact ⟨h.1, h.2.1⟩
theorem cvl_mk {im : Nat → Prop} {w : World} {x : SV} {l : List SV} {c : Value} {r : List Value} {S1 S2 : List Nat} (h4 : CV im w x c S1 []) (h5 : CVL im w l r S2 []) : CVL im w (x :: l) (c :: r) (S1 ++ S2) [] := by
 simp only [CVL]; exact ⟨c, r, S1, S2, [], [], rfl, rfl, rfl, h4, h5⟩
theorem cvl_mkn {im : Nat → Prop} {w : World} : CVL im w [] [] [] [] := by simp [CVL]
theorem cv_int {im : Nat → Prop} {w : World} {n : Int} {c : Value} {S : List Nat} {B : List LC} (h : CV im w (.val tInt n) c S B) : S = [] ∧ B = [] ∧ ∀ (im' : Nat → Prop) (w' : World), CV im' w' (.val tInt n) c [] [] := by
 simp only [CV] at h
 obtain ⟨rfl, rfl, cs, h1, rfl⟩ := h
 exact ⟨rfl, rfl, fun im' w' => by simp only [CV]; exact ⟨trivial, trivial, cs, h1, rfl⟩⟩
theorem cv_bool {im : Nat → Prop} {w : World} {n : Bool} {c : Value} {S : List Nat} {B : List LC} (h : CV im w (.val tBool n) c S B) : S = [] ∧ B = [] ∧ ∀ (im' : Nat → Prop) (w' : World), CV im' w' (.val tBool n) c [] [] := by
 simp only [CV] at h
 obtain ⟨rfl, rfl, cs, h1, rfl⟩ := h
 exact ⟨rfl, rfl, fun im' w' => by simp only [CV]; exact ⟨trivial, trivial, cs, h1, rfl⟩⟩
theorem cv_fr {im : Nat → Prop} {w : World} {t : Ty} {y : List t.den} {c : Value} {S : List Nat} (h : CV im w (.fr t y) c S []) : 0 < t.size ∧ TR im w true (.sl true t) y [c] S := by
 simp only [CV] at h; exact h.2
theorem cv_vl {im : Nat → Prop} {w : World} {t : Ty} {y : t.den} {c c0 : Value} {S : List Nat} (h : CV im w (.vl c0 t y) c S []) : S = [] ∧ c = c0 := by
 simp only [CV] at h; exact ⟨h.1, h.2.2.1⟩
theorem vlB {p p2 : Nat → Prop} {w : World} {S : List Nat} {c : Value} {y : List DIBlock} (h1 : ∀ k, p k → p2 k) (h2 : ∀ k ∈ S, p2 k) (h : TR p w true (.sl true uIBlock) y [c] S) : CV p2 w (.vl c tSlIBlock y) c [] [] := by
 simp only [CV]
 exact ⟨trivial, trivial, trivial, [c], TR.weak h1 (.sl true uIBlock) y [c] S true h2 h, rfl⟩
theorem vlP {p p2 : Nat → Prop} {w : World} {S : List Nat} {c : Value} {y : List DIPeer} (h1 : ∀ k, p k → p2 k) (h2 : ∀ k ∈ S, p2 k) (h : TR p w true (.sl true uIPeer) y [c] S) : CV p2 w (.vl c tSlIPeer y) c [] [] := by
 simp only [CV]
 exact ⟨trivial, trivial, trivial, [c], TR.weak h1 (.sl true uIPeer) y [c] S true h2 h, rfl⟩
theorem vlL {p p2 : Nat → Prop} {w : World} {S : List Nat} {c : Value} {y : List DILetter} (h1 : ∀ k, p k → p2 k) (h2 : ∀ k ∈ S, p2 k) (h : TR p w true (.sl true tILetter) y [c] S) : CV p2 w (.vl c tSlILetter y) c [] [] := by
 simp only [CV]
 exact ⟨trivial, trivial, trivial, [c], TR.weak h1 (.sl true tILetter) y [c] S true h2 h, rfl⟩
theorem vlV {p p2 : Nat → Prop} {w : World} {S : List Nat} {c : Value} {y : List DIVote} (h1 : ∀ k, p k → p2 k) (h2 : ∀ k ∈ S, p2 k) (h : TR p w true (.sl true tIVote) y [c] S) : CV p2 w (.vl c tSlIVote y) c [] [] := by
 simp only [CV]
 exact ⟨trivial, trivial, trivial, [c], TR.weak h1 (.sl true tIVote) y [c] S true h2 h, rfl⟩
theorem vlC {p p2 : Nat → Prop} {w : World} {S : List Nat} {c : Value} {y : List DICmd} (h1 : ∀ k, p k → p2 k) (h2 : ∀ k ∈ S, p2 k) (h : TR p w true (.sl true tICmd) y [c] S) : CV p2 w (.vl c tSlICmd y) c [] [] := by
 simp only [CV]
 exact ⟨trivial, trivial, trivial, [c], TR.weak h1 (.sl true tICmd) y [c] S true h2 h, rfl⟩
abbrev muC (x : DICluster) (l : List DILetter) : List SV := [.val tInt x.1, .val tBool x.2.1, .val tInt x.2.2.1, .fr uIBlock x.2.2.2.1, .fr uIPeer x.2.2.2.2.1, .fr tILetter l, .fr tIVote x.2.2.2.2.2.2.1, .fr tICmd x.2.2.2.2.2.2.2.1]
def newL (v5 : Value) (x : DICluster) : Option (List DILetter) → SV
 | none => .vl v5 tSlILetter x.2.2.2.2.2.1
 | some y => .fr tILetter y
set_option maxHeartbeats 4000000 in
theorem tw_conv (x : DICluster) (k : Int) (b : Bool) (o : Option (List DILetter))
  (h : ∀ v3 v4 v5 v6 v7, CallOk Tryz.prog 183 [encX v3 v4 v5 v6 v7 x, .val tInt k] (.val .bool b) [cX v3 v4 v6 v7 (newL v5 x o) x]) :
  CallOk Tryz.prog 183 [.mr (muC x x.2.2.2.2.2.1), .val tInt k] (.val .bool b) [muC x (o.getD x.2.2.2.2.2.1)] := by
 intro p w cargs S B hcv hnd hS hp hnt
 simp only [CVL] at hcv
 obtain ⟨c, r, S0, S9, B0, B9, rfl, rfl, rfl, hc, c9, r9, Sa, Sb, Ba, Bb, rfl, rfl, rfl, hk, rfl, rfl, rfl⟩ := hcv
 simp only [CV] at hc
 obtain ⟨blk, cs, e, S', rfl, rfl, rfl, hheap, hcells⟩ := hc
 obtain ⟨rfl, rfl, hk'⟩ := cv_int hk
 obtain ⟨c0, r0, T0, U0, rfl, rfl, h0, hcells⟩ := cvl_cons hcells
 obtain ⟨c1, r1, T1, U1, rfl, rfl, h1, hcells⟩ := cvl_cons hcells
 obtain ⟨c2, r2, T2, U2, rfl, rfl, h2, hcells⟩ := cvl_cons hcells
 obtain ⟨c3, r3, S3, U3, rfl, rfl, h3, hcells⟩ := cvl_cons hcells
 obtain ⟨c4, r4, S4, U4, rfl, rfl, h4, hcells⟩ := cvl_cons hcells
 obtain ⟨c5, r5, S5, U5, rfl, rfl, h5, hcells⟩ := cvl_cons hcells
 obtain ⟨c6, r6, S6, U6, rfl, rfl, h6, hcells⟩ := cvl_cons hcells
 obtain ⟨c7, r7, S7, U7, rfl, rfl, h7, hcells⟩ := cvl_cons hcells
 obtain ⟨rfl, rfl⟩ := cvl_nil hcells
 obtain ⟨rfl, _, k0⟩ := cv_int h0
 obtain ⟨rfl, _, k1⟩ := cv_bool h1
 obtain ⟨rfl, _, k2⟩ := cv_int h2
 obtain ⟨p3, t3⟩ := cv_fr h3
 obtain ⟨p4, t4⟩ := cv_fr h4
 obtain ⟨p5, t5⟩ := cv_fr h5
 obtain ⟨p6, t6⟩ := cv_fr h6
 obtain ⟨p7, t7⟩ := cv_fr h7
 simp only [List.nil_append, List.append_nil] at hnd hS ⊢
 -- what the lists are read from
 let p2 : Nat → Prop := fun k => p k ∨ k ∈ S3 ++ (S4 ++ (S5 ++ (S6 ++ S7)))
 obtain ⟨hnb, hnl⟩ := List.nodup_cons.1 hnd
 have lt : ∀ k ∈ S3 ++ (S4 ++ (S5 ++ (S6 ++ S7))), ¬ p k ∧ k < w.heap.size := fun k hk => hS k (List.mem_cons_of_mem _ hk)
 have hb := hS blk (List.mem_cons_self ..)
 have q1 : ∀ k, p k → p2 k := fun k hk => .inl hk
 have q3 : ∀ k ∈ S3, p2 k := fun k hk => .inr (by simp [hk])
 have q4 : ∀ k ∈ S4, p2 k := fun k hk => .inr (by simp [hk])
 have q5 : ∀ k ∈ S5, p2 k := fun k hk => .inr (by simp [hk])
 have q6 : ∀ k ∈ S6, p2 k := fun k hk => .inr (by simp [hk])
 have q7 : ∀ k ∈ S7, p2 k := fun k hk => .inr (by simp [hk])
 have hX : CVL p2 w [encX c3 c4 c5 c6 c7 x, .val tInt k] [.pointer (some ⟨blk, 0, none⟩), c9] [blk] [.box blk] := by
  simp only [CVL]
  refine ⟨_, _, [blk], [], [.box blk], [], rfl, rfl, rfl, ?_, _, _, [], [], [], [], rfl, rfl, rfl, hk' p2 w, rfl, rfl, rfl⟩
  unfold encX
  simp only [CV]
  refine ⟨blk, _, e, [], rfl, rfl, rfl, hheap, ?_⟩
  exact cvl_mk (S1 := []) (k0 p2 w) (cvl_mk (S1 := []) (k1 p2 w) (cvl_mk (S1 := []) (k2 p2 w) (cvl_mk (S1 := []) (vlB q1 q3 t3) (cvl_mk (S1 := []) (vlP q1 q4 t4) (cvl_mk (S1 := []) (vlL q1 q5 t5) (cvl_mk (S1 := []) (vlV q1 q6 t6) (cvl_mk (S1 := []) (vlC q1 q7 t7) cvl_mkn)))))))
 refine (h c3 c4 c5 c6 c7 p2 w _ [blk] [.box blk] hX (by simp) (fun k hk => ?_) (fun k hk => ?_) (fun t ht => by cases ht)).mono ?_
 ·simp only [List.mem_singleton] at hk
  subst hk
  exact ⟨fun hc => hc.elim hb.1 hnb, hb.2⟩
 ·rcases hk with hk | hk
  ·exact hp k hk
  ·exact (lt k hk).2
 rintro e' w' ⟨cr, S1, S2, he, hnd2, hrg, hkept, hcr, houts⟩
 obtain ⟨rfl, _, kb⟩ := cv_bool hcr
 simp only [Outs] at houts
 obtain ⟨cells, e2, V1, V2, rfl, hheap', hc', rfl⟩ := houts
 simp only [List.nil_append, List.append_nil] at hnd2 hrg hc'
 obtain ⟨d0, r0, T0, U0, rfl, rfl, g0, hc'⟩ := cvl_cons hc'
 obtain ⟨d1, r1, T1, U1, rfl, rfl, g1, hc'⟩ := cvl_cons hc'
 obtain ⟨d2, r2, T2, U2, rfl, rfl, g2, hc'⟩ := cvl_cons hc'
 obtain ⟨d3, r3, T3, U3, rfl, rfl, g3, hc'⟩ := cvl_cons hc'
 obtain ⟨d4, r4, T4, U4, rfl, rfl, g4, hc'⟩ := cvl_cons hc'
 obtain ⟨d5, r5, T5, U5, rfl, rfl, g5, hc'⟩ := cvl_cons hc'
 obtain ⟨d6, r6, T6, U6, rfl, rfl, g6, hc'⟩ := cvl_cons hc'
 obtain ⟨d7, r7, T7, U7, rfl, rfl, g7, hc'⟩ := cvl_cons hc'
 obtain ⟨rfl, rfl⟩ := cvl_nil hc'
 obtain ⟨rfl, _, k0⟩ := cv_int g0
 obtain ⟨rfl, _, k1⟩ := cv_bool g1
 obtain ⟨rfl, _, k2⟩ := cv_int g2
 obtain ⟨rfl, rfl⟩ := cv_vl g3
 obtain ⟨rfl, rfl⟩ := cv_vl g4
 obtain ⟨rfl, rfl⟩ := cv_vl g6
 obtain ⟨rfl, rfl⟩ := cv_vl g7
 simp only [List.nil_append, List.append_nil] at hnd2 hrg
 obtain ⟨hn5, hnd5⟩ := List.nodup_cons.1 hnd2
 -- the letters' blocks behind the call
 have hT5 : ∀ k ∈ T5, w.heap.size ≤ k := fun k hk => by
  rcases (hrg k (List.mem_cons_of_mem _ hk)).1 with e | e
  ·simp only [List.mem_singleton] at e; subst e; exact absurd hk hn5
  ·exact e
 have same : ∀ k, k < w.heap.size → k ≠ blk → w'.heap[k]? = w.heap[k]? := fun k hk hne => hkept.same k hk (by simpa using hne)
 obtain ⟨S5', hS5, h5'⟩ : ∃ S5' : List Nat, (S5' = S5 ∨ S5' = T5) ∧ ∀ im' : Nat → Prop, (∀ b, p b → im' b) → CV im' w' (.fr tILetter (o.getD x.2.2.2.2.2.1)) d5 S5' [] := by
  cases o with
  | none =>
   obtain ⟨rfl, rfl⟩ := cv_vl (show CV _ w' (.vl c5 tSlILetter x.2.2.2.2.2.1) d5 T5 [] from g5)
   refine ⟨S5, .inl rfl, fun im' hi => ?_⟩
   simp only [CV, Option.getD]
   refine ⟨trivial, p5, t5.mono (fun b hb2 => ⟨hi b hb2, same b (hp b hb2) (fun e => hb.1 (e ▸ hb2))⟩) _ _ _ _ _ (fun b hb2 => same b (lt b (by simp [hb2])).2 (fun e => hnb (e ▸ by simp [hb2])))⟩
  | some y =>
   obtain ⟨q, tq⟩ := cv_fr (show CV _ w' (.fr tILetter y) d5 T5 [] from g5)
   refine ⟨T5, .inr rfl, fun im' _ => ?_⟩
   simp only [CV, Option.getD]
   exact ⟨trivial, q, tq.noRo rfl⟩
 have m5 : ∀ k ∈ S5', (k ∈ S5 ∨ w.heap.size ≤ k) ∧ k < w'.heap.size ∧ k ≠ blk := fun k hk => by
  rcases hS5 with e | e
  ·subst e
   have := (lt k (by simp [hk])).2
   exact ⟨.inl hk, by have := hkept.size; omega, fun e => hnb (e ▸ by simp [hk])⟩
  ·subst e
   exact ⟨.inr (hT5 k hk), (hrg k (List.mem_cons_of_mem _ hk)).2, fun e => hn5 (e ▸ hk)⟩
 have n5 : S5'.Nodup := by
  rcases hS5 with e | e
  ·subst e
   exact (List.nodup_append.1 (List.nodup_append.1 (List.nodup_append.1 hnl).2.1).2.1).1
  ·subst e; exact hnd5
 obtain ⟨a3, ar3, ad3⟩ := List.nodup_append.1 hnl
 obtain ⟨a4, ar4, ad4⟩ := List.nodup_append.1 ar3
 obtain ⟨a5, ar5, ad5⟩ := List.nodup_append.1 ar4
 have d5 : ∀ a ∈ S5', ∀ b ∈ S6 ++ S7, a ≠ b := fun a ha b hb2 => by
  rcases (m5 a ha).1 with q | q
  ·exact ad5 a q b hb2
  ·have := (lt b (List.mem_append.2 (.inr (List.mem_append.2 (.inr (List.mem_append.2 (.inr hb2))))))).2
   omega
 have d4 : ∀ a ∈ S4, ∀ b ∈ S5' ++ (S6 ++ S7), a ≠ b := fun a ha b hb2 => by
  rcases List.mem_append.1 hb2 with hb2 | hb2
  ·rcases (m5 b hb2).1 with q | q
   ·exact ad4 a ha b (List.mem_append.2 (.inl q))
   ·have := (lt a (by simp [ha])).2
    omega
  ·exact ad4 a ha b (List.mem_append.2 (.inr hb2))
 have d3 : ∀ a ∈ S3, ∀ b ∈ S4 ++ (S5' ++ (S6 ++ S7)), a ≠ b := fun a ha b hb2 => by
  rcases List.mem_append.1 hb2 with hb2 | hb2
  ·exact ad3 a ha b (List.mem_append.2 (.inl hb2))
  ·rcases List.mem_append.1 hb2 with hb2 | hb2
   ·rcases (m5 b hb2).1 with q | q
    ·exact ad3 a ha b (List.mem_append.2 (.inr (List.mem_append.2 (.inl q))))
    ·have := (lt a (by simp [ha])).2
     omega
   ·exact ad3 a ha b (List.mem_append.2 (.inr (List.mem_append.2 (.inr hb2))))
 have old : ∀ k, (k ∈ S3 ∨ k ∈ S4 ∨ k ∈ S6 ∨ k ∈ S7) → k ∈ S3 ++ (S4 ++ (S5 ++ (S6 ++ S7))) := fun k hk => by
  simp only [List.mem_append]
  rcases hk with q | q | q | q
  ·exact .inl q
  ·exact .inr (.inl q)
  ·exact .inr (.inr (.inr (.inl q)))
  ·exact .inr (.inr (.inr (.inr q)))
 have split : ∀ k, k ∈ S3 ++ (S4 ++ (S5' ++ (S6 ++ S7))) → k ∈ S5' ∨ (k ∈ S3 ∨ k ∈ S4 ∨ k ∈ S6 ∨ k ∈ S7) := fun k hk => by
  simp only [List.mem_append] at hk
  rcases hk with q | q | q | q | q
  ·exact .inr (.inl q)
  ·exact .inr (.inr (.inl q))
  ·exact .inl q
  ·exact .inr (.inr (.inr (.inl q)))
  ·exact .inr (.inr (.inr (.inr q)))
 have hnb' : blk ∉ S3 ++ (S4 ++ (S5' ++ (S6 ++ S7))) := fun hm => by
  rcases split blk hm with q | q
  ·exact (m5 blk q).2.2 rfl
  ·exact hnb (old blk q)
 have hsz := hkept.size
 have hi : ∀ b, p b → after p (blk :: (S3 ++ (S4 ++ (S5 ++ (S6 ++ S7))))) ([] ++ blk :: (S3 ++ (S4 ++ (S5' ++ (S6 ++ S7))))) w w' b := fun b hb2 => by
  have hlt := hp b hb2
  refine ⟨.inl hb2, by omega, fun hm => ?_⟩
  rcases List.mem_cons.1 hm with q | q
  ·exact hb.1 (q ▸ hb2)
  ·rcases split b q with q | q
   ·rcases (m5 b q).1 with q | q
    ·exact (lt b (by simp [q])).1 hb2
    ·omega
   ·exact (lt b (old b q)).1 hb2
 have keep : ∀ {t : Ty} {y : List t.den} {c : Value} {S : List Nat}, 0 < t.size → (∀ k ∈ S, k ∈ S3 ++ (S4 ++ (S5 ++ (S6 ++ S7)))) → TR p w true (.sl true t) y [c] S →
   CV (after p (blk :: (S3 ++ (S4 ++ (S5 ++ (S6 ++ S7))))) ([] ++ blk :: (S3 ++ (S4 ++ (S5' ++ (S6 ++ S7))))) w w') w' (.fr t y) c S [] := by
  intro t y c S hq hs ht
  simp only [CV]
  exact ⟨trivial, hq, ht.mono (fun b hb2 => ⟨hi b hb2, same b (hp b hb2) (fun e => hb.1 (e ▸ hb2))⟩) _ _ _ _ _ (fun b hb2 => same b (lt b (hs b hb2)).2 (fun e => hnb (e ▸ hs b hb2)))⟩
 refine ⟨cr, [], blk :: (S3 ++ (S4 ++ (S5' ++ (S6 ++ S7)))), he, ?_, fun k hk => ?_, ⟨hsz, fun k hk hn => hkept.same k hk (fun hm => hn (by simp only [List.mem_singleton] at hm; simp [hm])), hkept.frz⟩, kb _ _, ?_⟩
 ·exact List.nodup_cons.2 ⟨hnb', List.nodup_append.2 ⟨a3, List.nodup_append.2 ⟨a4, List.nodup_append.2 ⟨n5, ar5, d5⟩, d4⟩, d3⟩⟩
 ·rcases List.mem_cons.1 (show k ∈ blk :: (S3 ++ (S4 ++ (S5' ++ (S6 ++ S7)))) from hk) with q | q
  ·subst q
   exact ⟨.inl (List.mem_cons_self ..), by have := hb.2; omega⟩
  ·rcases split k q with q | q
   ·refine ⟨?_, (m5 k q).2.1⟩
    rcases (m5 k q).1 with q | q
    ·exact .inl (List.mem_cons_of_mem _ (by simp [q]))
    ·exact .inr q
   ·exact ⟨.inl (List.mem_cons_of_mem _ (old k q)), by have := (lt k (old k q)).2; omega⟩
 ·simp only [Outs]
  refine ⟨_, e2, S3 ++ (S4 ++ (S5' ++ (S6 ++ S7))), [], by simp, hheap', ?_, rfl⟩
  have hc := cvl_mk (S1 := []) (k0 (after p (blk :: (S3 ++ (S4 ++ (S5 ++ (S6 ++ S7))))) ([] ++ blk :: (S3 ++ (S4 ++ (S5' ++ (S6 ++ S7))))) w w') w') (cvl_mk (S1 := []) (k1 _ w') (cvl_mk (S1 := []) (k2 _ w')
   (cvl_mk (keep p3 (fun k hk => old k (.inl hk)) t3) (cvl_mk (keep p4 (fun k hk => old k (.inr (.inl hk))) t4) (cvl_mk (h5' _ hi)
   (cvl_mk (keep p6 (fun k hk => old k (.inr (.inr (.inl hk)))) t6) (cvl_mk (keep p7 (fun k hk => old k (.inr (.inr (.inr hk)))) t7) cvl_mkn)))))))
  simp only [List.nil_append, List.append_nil] at hc
  simpa only [List.nil_append] using hc
noncomputable def twF (x : DICluster) (k : Int) : Option (Bool × Option (List DILetter)) :=
 (Q_s_l01In big k 0 (IntKind.i64.wrap ((↑(List.length x.2.2.2.2.2.1) : Int) - 1))).bind fun y => bif !y then some (false, none) else
  if 0 ≤ IntKind.i64.wrap (k + 1) then if IntKind.i64.wrap (k + 1) ≤ (↑(List.length x.2.2.2.2.2.1) : Int) then if 0 ≤ k then if k ≤ IntKind.i64.wrap (k + 1) then
  bif decide ((60 : Int) < IntKind.i64.wrap ((↑(List.length x.2.2.2.2.2.1) : Int) + (↑(List.length (twL x k)) : Int))) then some (false, none)
  else if 0 + List.length x.2.2.2.2.2.1 ≤ lim then if List.length x.2.2.2.2.2.1 + List.length (twL x k) ≤ lim then some (true, some (List.append x.2.2.2.2.2.1 (twL x k))) else none else none
  else none else none else none else none
theorem bif_map {α β : Type} {g : α → β} (c : Bool) (a : α) (y : Option α) : (bif c then some (g a) else y.map g) = (bif c then some a else y).map g := by cases c <;> rfl
theorem if_map {α β : Type} {g : α → β} (c : Prop) [Decidable c] (y : Option α) : (if c then y.map g else none) = (if c then y else none).map g := by split <;> rfl
theorem tw_run (v3 v4 v5 v6 v7 : Value) (x : DICluster) (k : Int) : runTwice big v3 v4 v5 v6 v7 x k = (twF x k).map fun r => (SV.val .bool r.1, [cX v3 v4 v6 v7 (newL v5 x r.2) x]) := by
 rw [runTwice_eq]
 unfold twF
 cases Q_s_l01In big k 0 (IntKind.i64.wrap ((↑(List.length x.2.2.2.2.2.1) : Int) - 1)) with
 | none => rfl
 | some y =>
  simp only [Option.bind_some]
  cases y with
  | false => rfl
  | true =>
   simp only [Bool.not_true, cond_false, ← if_map, ← bif_map]
   rfl
theorem evTw_ok (n : Nat) (args : List SV) (r0 : Res) (hb : boxesOk args [] = true) (h1 : evX (false, false, []) [(67, c_s_l01In), (214, con15Post)] [] [none] Tryz.f183 shI n args = some r0) : CallOk Tryz.prog 183 args (shI.sh r0).1 (shI.sh r0).2 :=
 evX_ok (Tryz.cons_cons c_s_l01In_ok (Tryz.cons_cons con15Post_ok Tryz.cons_nil)) (by kernel_rfl) rfl (by kernel_rfl) hb n h1
theorem tw_call {x : DICluster} {k : Int} {r : Bool × Option (List DILetter)} (h : twF x k = some r) (v3 v4 v5 v6 v7 : Value) : CallOk Tryz.prog 183 [encX v3 v4 v5 v6 v7 x, .val tInt k] (.val .bool r.1) [cX v3 v4 v6 v7 (newL v5 x r.2) x] := by
 have h1 := tw_run v3 v4 v5 v6 v7 x k
 rw [h, Option.map_some] at h1
 unfold runTwice at h1
 exact evTw_ok big _ _ (by kernel_rfl) h1
noncomputable def q_s_l15Twice (_n : Nat) (x : AP.denL [.mu uICluster, .ro tInt]) : Option (Bool × DICluster × Unit) :=
 (twF x.1 x.2.1).bind fun r => some (r.1, (x.1.1, x.1.2.1, x.1.2.2.1, x.1.2.2.2.1, x.1.2.2.2.2.1, r.2.getD x.1.2.2.2.2.2.1, x.1.2.2.2.2.2.2.1, x.1.2.2.2.2.2.2.2.1, ()), ())
noncomputable def c_s_l15Twice : Con := apS [.mu uICluster, .ro tInt] true (shO (shV tBool) [.mu uICluster]) (q_s_l15Twice big)
theorem c_s_l15Twice_ok : ConOk Tryz.prog 183 c_s_l15Twice := apS_ok ⟨Tryz.f183, by kernel_rfl, rfl, by decide⟩ fun xs v h => by
 obtain ⟨x, k, u⟩ := xs
 cases u
 unfold q_s_l15Twice at h
 obtain ⟨r, h1, h2⟩ := Option.bind_eq_some_iff.1 h
 cases h2
 have h3 := tw_conv x k r.1 r.2 (tw_call h1)
 exact h3
noncomputable def Q_s_l15Twice (n : Nat) (a0 : DICluster) (a1 : Int) : Option (Bool × DICluster × Unit) := q_s_l15Twice n (a0, a1, ())
end Go.Sx.Tryz
set_option maxRecDepth 100000
namespace Go.Sx.Tryz
open Go Go.Sx Go.Proofs
noncomputable def l_s_l01Var : List (Nat × Con) := []
theorem l_s_l01Var_ok : ∀ q ∈ l_s_l01Var, ConOk Tryz.prog q.1 q.2 := Tryz.cons_nil
abbrev k_s_l01Var_2 : List Keep × List BK := ([.ro tInt64, .drop, .drop, .own tUint8, .drop, .drop, .drop, .drop, .drop, .drop, .drop, .drop, .drop, .drop, .drop, .drop, .drop, .drop, .drop, .drop, .drop, .drop], [])
def kp_s_l01Var : KP := [(2, k_s_l01Var_2)]
noncomputable def q_s_l01Var (n : Nat) (x : Args [tInt]) := evX (false, false, []) l_s_l01Var kp_s_l01Var [none] Tryz.f245 (shV tString) n (encA [tInt] x)
noncomputable def c_s_l01Var : Con := roS [tInt] true (shV tString) (q_s_l01Var big)
theorem c_s_l01Var_ok : ConOk Tryz.prog 245 c_s_l01Var := roS_ok ⟨Tryz.f245, by kernel_rfl, rfl, by decide⟩ fun _ _ h => evX_ok l_s_l01Var_ok (f := Tryz.f245) (by kernel_rfl) rfl (by kernel_rfl) (by kernel_rfl) big h
noncomputable def Q_s_l01Var (n : Nat) (a0 : Int) : Option ByteArray := q_s_l01Var n (a0, ())
noncomputable def r_s_l01Var_2 (n : Nat) (x : KD k_s_l01Var_2.1) (y : BD k_s_l01Var_2.2) := rounds (env (false, false, []) l_s_l01Var) kp_s_l01Var (body Tryz.f245) (finX (false, false, []) l_s_l01Var [none] Tryz.f245 (shV tString) [.val tInt (zeroD tInt)]) n 2 k_s_l01Var_2 x y
noncomputable def R_s_l01Var_2 (n : Nat) (s0 : Int) (s3 : (List Int)) : Option ByteArray := r_s_l01Var_2 n (s0, s3, ()) ()
theorem Q_s_l01Var_eq (n : Nat) (a0 : Int) : Q_s_l01Var n a0 =
  R_s_l01Var_2 n a0 [] := by kernel_rfl
theorem R_s_l01Var_2_eq (n : Nat) (s0 : Int) (s3 : (List Int)) : R_s_l01Var_2 (n + 1) s0 s3 =
  bif decide ((127 : Int) < s0) then
 if s3.length + [IntKind.u8.wrap (IntKind.i64.wrap (s0.tmod (128 : Int) + (128 : Int)))].length ≤ lim then
 R_s_l01Var_2 n (IntKind.i64.wrap (s0.tdiv (128 : Int)))
 (s3.append [IntKind.u8.wrap (IntKind.i64.wrap (s0.tmod (128 : Int) + (128 : Int)))])
 else none
 else
 if s3.length + [IntKind.u8.wrap s0].length ≤ lim then
 some (ByteArray.mk (List.map (fun n => UInt8.ofNat n.toNat) (s3.append [IntKind.u8.wrap s0])).toArray)
 else none := by kernel_rfl
end Go.Sx.Tryz
set_option maxRecDepth 100000
namespace Go.Sx.Tryz
open Go Go.Sx Go.Proofs
noncomputable def l_s_l08Low : List (Nat × Con) := [(245, c_s_l01Var)]
theorem l_s_l08Low_ok : ∀ q ∈ l_s_l08Low, ConOk Tryz.prog q.1 q.2 := Tryz.cons_cons c_s_l01Var_ok (Tryz.cons_nil)
def kp_s_l08Low : KP := []
noncomputable def q_s_l08Low (n : Nat) (x : Args [tInt]) := evX (false, false, []) l_s_l08Low kp_s_l08Low [none] Tryz.f242 (shV tString) n (encA [tInt] x)
noncomputable def c_s_l08Low : Con := roS [tInt] true (shV tString) (q_s_l08Low big)
theorem c_s_l08Low_ok : ConOk Tryz.prog 242 c_s_l08Low := roS_ok ⟨Tryz.f242, by kernel_rfl, rfl, by decide⟩ fun _ _ h => evX_ok l_s_l08Low_ok (f := Tryz.f242) (by kernel_rfl) rfl (by kernel_rfl) (by kernel_rfl) big h
noncomputable def Q_s_l08Low (n : Nat) (a0 : Int) : Option ByteArray := q_s_l08Low n (a0, ())
theorem Q_s_l08Low_eq (n : Nat) (a0 : Int) : Q_s_l08Low n a0 =
  bif decide (a0 < (0 : Int)) then
 some (ByteArray.mk (List.map (fun n => UInt8.ofNat n.toNat) [IntKind.u8.wrap (0 : Int)]).toArray)
 else (Q_s_l01Var big a0).bind fun y => some y := by kernel_rfl
end Go.Sx.Tryz
set_option maxRecDepth 100000
namespace Go.Sx.Tryz
open Go Go.Sx Go.Proofs
noncomputable def l_s_QcText : List (Nat × Con) := [(242, c_s_l08Low)]
theorem l_s_QcText_ok : ∀ q ∈ l_s_QcText, ConOk Tryz.prog q.1 q.2 := Tryz.cons_cons c_s_l08Low_ok (Tryz.cons_nil)
def kp_s_QcText : KP := []
noncomputable def q_s_QcText (n : Nat) (x : Args [tIQc]) := evX (false, false, [1, 3, 6, 10, 14]) l_s_QcText kp_s_QcText [none] Tryz.f243 (shV tString) n (encA [tIQc] x)
noncomputable def c_s_QcText : Con := roS [tIQc] true (shV tString) (q_s_QcText big)
theorem c_s_QcText_ok : ConOk Tryz.prog 243 c_s_QcText := roS_ok ⟨Tryz.f243, by kernel_rfl, rfl, by decide⟩ fun _ _ h => evX_ok l_s_QcText_ok (f := Tryz.f243) (by kernel_rfl) rfl (by kernel_rfl) (by kernel_rfl) big h
noncomputable def Q_s_QcText (n : Nat) (a0 : DIQc) : Option ByteArray := q_s_QcText n (a0, ())
theorem Q_s_QcText_eq (n : Nat) (a0 : DIQc) : Q_s_QcText n a0 =
  (Q_s_l08Low big a0.1).bind fun y =>
 (Q_s_l08Low big a0.2.1).bind fun y_1 =>
 if ByteArray.size y + ByteArray.size y_1 ≤ lim then
 (Q_s_l08Low big a0.2.2.1).bind fun y_2 =>
 if (y ++ y_1).size + ByteArray.size y_2 ≤ lim then
 (Q_s_l08Low big a0.2.2.2.1).bind fun y_3 =>
 if (y ++ y_1 ++ y_2).size + ByteArray.size y_3 ≤ lim then some (y ++ y_1 ++ y_2 ++ y_3) else none
 else none
 else none := by kernel_rfl
end Go.Sx.Tryz
set_option maxRecDepth 100000
namespace Go.Sx.Tryz
open Go Go.Sx Go.Proofs
noncomputable def l_s_VoteText : List (Nat × Con) := [(242, c_s_l08Low)]
theorem l_s_VoteText_ok : ∀ q ∈ l_s_VoteText, ConOk Tryz.prog q.1 q.2 := Tryz.cons_cons c_s_l08Low_ok (Tryz.cons_nil)
def kp_s_VoteText : KP := []
noncomputable def q_s_VoteText (n : Nat) (x : Args [tIVote]) := evX (false, false, [1, 3, 6, 10, 14]) l_s_VoteText kp_s_VoteText [none] Tryz.f244 (shV tString) n (encA [tIVote] x)
noncomputable def c_s_VoteText : Con := roS [tIVote] true (shV tString) (q_s_VoteText big)
theorem c_s_VoteText_ok : ConOk Tryz.prog 244 c_s_VoteText := roS_ok ⟨Tryz.f244, by kernel_rfl, rfl, by decide⟩ fun _ _ h => evX_ok l_s_VoteText_ok (f := Tryz.f244) (by kernel_rfl) rfl (by kernel_rfl) (by kernel_rfl) big h
noncomputable def Q_s_VoteText (n : Nat) (a0 : DIVote) : Option ByteArray := q_s_VoteText n (a0, ())
theorem Q_s_VoteText_eq (n : Nat) (a0 : DIVote) : Q_s_VoteText n a0 =
  (Q_s_l08Low big a0.1).bind fun y =>
 (Q_s_l08Low big a0.2.1).bind fun y_1 =>
 if ByteArray.size y + ByteArray.size y_1 ≤ lim then
 (Q_s_l08Low big a0.2.2.1).bind fun y_2 =>
 if (y ++ y_1).size + ByteArray.size y_2 ≤ lim then
 (Q_s_l08Low big a0.2.2.2.1).bind fun y_3 =>
 if (y ++ y_1 ++ y_2).size + ByteArray.size y_3 ≤ lim then some (y ++ y_1 ++ y_2 ++ y_3) else none
 else none
 else none := by kernel_rfl
end Go.Sx.Tryz
set_option maxRecDepth 100000
namespace Go.Sx.Tryz
open Go Go.Sx Go.Proofs
noncomputable def l_s_SumMore : List (Nat × Con) := []
theorem l_s_SumMore_ok : ∀ q ∈ l_s_SumMore, ConOk Tryz.prog q.1 q.2 := Tryz.cons_nil
abbrev k_s_SumMore_2 : List Keep × List BK := ([.ro tUint32, .ro tString, .drop, .drop, .drop, .ro tInt64, .drop, .drop, .drop, .drop, .drop, .drop, .drop, .drop, .drop, .drop, .drop, .drop, .drop, .drop, .drop, .drop, .drop, .drop, .drop, .drop, .drop, .drop, .drop, .drop, .drop, .drop, .drop], [])
abbrev k_s_SumMore_6 : List Keep × List BK := ([.ro tUint32, .ro tString, .drop, .drop, .drop, .ro tInt64, .ro tInt64, .drop, .drop, .drop, .drop, .drop, .drop, .drop, .drop, .drop, .drop, .drop, .drop, .drop, .drop, .drop, .drop, .drop, .drop, .drop, .drop, .drop, .drop, .drop, .drop, .drop, .drop], [])
def kp_s_SumMore : KP := [(2, k_s_SumMore_2), (6, k_s_SumMore_6)]
noncomputable def q_s_SumMore (n : Nat) (x : Args [tUint32, tString]) := evX (false, false, []) l_s_SumMore kp_s_SumMore [none] Tryz.f259 (shV tUint32) n (encA [tUint32, tString] x)
noncomputable def c_s_SumMore : Con := roS [tUint32, tString] true (shV tUint32) (q_s_SumMore big)
theorem c_s_SumMore_ok : ConOk Tryz.prog 259 c_s_SumMore := roS_ok ⟨Tryz.f259, by kernel_rfl, rfl, by decide⟩ fun _ _ h => evX_ok l_s_SumMore_ok (f := Tryz.f259) (by kernel_rfl) rfl (by kernel_rfl) (by kernel_rfl) big h
noncomputable def Q_s_SumMore (n : Nat) (a0 : Int) (a1 : ByteArray) : Option Int := q_s_SumMore n (a0, a1, ())
noncomputable def r_s_SumMore_2 (n : Nat) (x : KD k_s_SumMore_2.1) (y : BD k_s_SumMore_2.2) := rounds (env (false, false, []) l_s_SumMore) kp_s_SumMore (body Tryz.f259) (finX (false, false, []) l_s_SumMore [none] Tryz.f259 (shV tUint32) [.val tUint32 (zeroD tUint32), .val tString (zeroD tString)]) n 2 k_s_SumMore_2 x y
noncomputable def R_s_SumMore_2 (n : Nat) (s0 : Int) (s1 : ByteArray) (s5 : Int) : Option Int := r_s_SumMore_2 n (s0, s1, s5, ()) ()
noncomputable def r_s_SumMore_6 (n : Nat) (x : KD k_s_SumMore_6.1) (y : BD k_s_SumMore_6.2) := rounds (env (false, false, []) l_s_SumMore) kp_s_SumMore (body Tryz.f259) (finX (false, false, []) l_s_SumMore [none] Tryz.f259 (shV tUint32) [.val tUint32 (zeroD tUint32), .val tString (zeroD tString)]) n 6 k_s_SumMore_6 x y
noncomputable def R_s_SumMore_6 (n : Nat) (s0 : Int) (s1 : ByteArray) (s5 : Int) (s6 : Int) : Option Int := r_s_SumMore_6 n (s0, s1, s5, s6, ()) ()
theorem Q_s_SumMore_eq (n : Nat) (a0 : Int) (a1 : ByteArray) : Q_s_SumMore n a0 a1 =
  R_s_SumMore_2 n a0 a1 (0 : Int) := by kernel_rfl
theorem R_s_SumMore_2_eq (n : Nat) (s0 : Int) (s1 : ByteArray) (s5 : Int) : R_s_SumMore_2 (n + 1) s0 s1 s5 =
  bif decide (s5 < (↑s1.size : Int)) then
 if (0 : Int) ≤ s5 then
 (nth s1.data.toList s5.toNat).bind fun y =>
 R_s_SumMore_6 n
 (IntKind.u32.wrap
 (↑(BitVec.ofInt IntKind.u32.bits s0 ^^^
 BitVec.ofInt IntKind.u32.bits (IntKind.u32.wrap (↑y.toNat : Int))).toNat :
 Int))
 s1 s5 (0 : Int)
 else none
 else some s0 := by kernel_rfl
theorem R_s_SumMore_6_eq (n : Nat) (s0 : Int) (s1 : ByteArray) (s5 : Int) (s6 : Int) : R_s_SumMore_6 (n + 1) s0 s1 s5 s6 =
  bif decide (s6 < (8 : Int)) then
 bif decide (s0.tmod (2 : Int) = (1 : Int)) then
 R_s_SumMore_6 n
 (IntKind.u32.wrap
 (↑(BitVec.ofInt IntKind.u32.bits (IntKind.u32.wrap (s0.tdiv (2 : Int))) ^^^
 BitVec.ofInt IntKind.u32.bits (3558460437 : Int)).toNat :
 Int))
 s1 s5 (IntKind.i64.wrap (s6 + (1 : Int)))
 else R_s_SumMore_6 n (IntKind.u32.wrap (s0.tdiv (2 : Int))) s1 s5 (IntKind.i64.wrap (s6 + (1 : Int)))
 else R_s_SumMore_2 n s0 s1 (IntKind.i64.wrap (s5 + (1 : Int))) := by kernel_rfl
end Go.Sx.Tryz
set_option maxRecDepth 100000
namespace Go.Sx.Tryz
open Go Go.Sx Go.Proofs
noncomputable def l_s_SumOf : List (Nat × Con) := [(259, c_s_SumMore)]
theorem l_s_SumOf_ok : ∀ q ∈ l_s_SumOf, ConOk Tryz.prog q.1 q.2 := Tryz.cons_cons c_s_SumMore_ok (Tryz.cons_nil)
def kp_s_SumOf : KP := []
noncomputable def q_s_SumOf (n : Nat) (x : Args [tString]) := evX (false, false, []) l_s_SumOf kp_s_SumOf [none] Tryz.f255 (shV tUint32) n (encA [tString] x)
noncomputable def c_s_SumOf : Con := roS [tString] true (shV tUint32) (q_s_SumOf big)
theorem c_s_SumOf_ok : ConOk Tryz.prog 255 c_s_SumOf := roS_ok ⟨Tryz.f255, by kernel_rfl, rfl, by decide⟩ fun _ _ h => evX_ok l_s_SumOf_ok (f := Tryz.f255) (by kernel_rfl) rfl (by kernel_rfl) (by kernel_rfl) big h
noncomputable def Q_s_SumOf (n : Nat) (a0 : ByteArray) : Option Int := q_s_SumOf n (a0, ())
theorem Q_s_SumOf_eq (n : Nat) (a0 : ByteArray) : Q_s_SumOf n a0 =
  (Q_s_SumMore big (4294967295 : Int) a0).bind fun y => some y := by kernel_rfl
end Go.Sx.Tryz
set_option maxRecDepth 100000
namespace Go.Sx.Tryz
open Go Go.Sx Go.Proofs
noncomputable def l_s_l02Four : List (Nat × Con) := []
theorem l_s_l02Four_ok : ∀ q ∈ l_s_l02Four, ConOk Tryz.prog q.1 q.2 := Tryz.cons_nil
def kp_s_l02Four : KP := []
noncomputable def q_s_l02Four (n : Nat) (x : Args [tUint32]) := evX (false, false, []) l_s_l02Four kp_s_l02Four [none] Tryz.f254 (shV tString) n (encA [tUint32] x)
noncomputable def c_s_l02Four : Con := roS [tUint32] true (shV tString) (q_s_l02Four big)
theorem c_s_l02Four_ok : ConOk Tryz.prog 254 c_s_l02Four := roS_ok ⟨Tryz.f254, by kernel_rfl, rfl, by decide⟩ fun _ _ h => evX_ok l_s_l02Four_ok (f := Tryz.f254) (by kernel_rfl) rfl (by kernel_rfl) (by kernel_rfl) big h
end Go.Sx.Tryz
set_option maxRecDepth 100000
namespace Go.Sx.Tryz
open Go Go.Sx Go.Proofs
noncomputable def l_s_Sealed : List (Nat × Con) := [(255, c_s_SumOf), (254, c_s_l02Four)]
theorem l_s_Sealed_ok : ∀ q ∈ l_s_Sealed, ConOk Tryz.prog q.1 q.2 := Tryz.cons_cons c_s_SumOf_ok (Tryz.cons_cons c_s_l02Four_ok (Tryz.cons_nil))
def kp_s_Sealed : KP := []
noncomputable def q_s_Sealed (n : Nat) (x : Args [tString]) := evX (false, false, []) l_s_Sealed kp_s_Sealed [none, none] Tryz.f246 (shT [(false, tString), (false, tBool)]) n (encA [tString] x)
noncomputable def c_s_Sealed : Con := roS [tString] true (shT [(false, tString), (false, tBool)]) (q_s_Sealed big)
theorem c_s_Sealed_ok : ConOk Tryz.prog 246 c_s_Sealed := roS_ok ⟨Tryz.f246, by kernel_rfl, rfl, by decide⟩ fun _ _ h => evX_ok l_s_Sealed_ok (f := Tryz.f246) (by kernel_rfl) rfl (by kernel_rfl) (by kernel_rfl) big h
noncomputable def Q_s_Sealed (n : Nat) (a0 : ByteArray) : Option (ByteArray × Bool × Unit) := q_s_Sealed n (a0, ())
theorem Q_s_Sealed_eq (n : Nat) (a0 : ByteArray) : Q_s_Sealed n a0 =
  bif decide ((20000 : Int) < (↑a0.size : Int)) then some (ByteArray.mk #[], false, ())
 else
 (Q_s_SumOf big a0).bind fun y =>
 if
 a0.size +
 (ByteArray.mk
 (List.map (fun n => UInt8.ofNat n.toNat)
 [IntKind.u8.wrap (Int.fdiv y ((2 : Int) ^ min (Int.toNat (24 : Int)) IntKind.u32.bits)),
 IntKind.u8.wrap (Int.fdiv y ((2 : Int) ^ min (Int.toNat (16 : Int)) IntKind.u32.bits)),
 IntKind.u8.wrap (Int.fdiv y ((2 : Int) ^ min (Int.toNat (8 : Int)) IntKind.u32.bits)),
 IntKind.u8.wrap y]).toArray).size ≤
 lim then
 some
 (a0 ++
 ByteArray.mk
 (List.map (fun n => UInt8.ofNat n.toNat)
 [IntKind.u8.wrap (Int.fdiv y ((2 : Int) ^ min (Int.toNat (24 : Int)) IntKind.u32.bits)),
 IntKind.u8.wrap (Int.fdiv y ((2 : Int) ^ min (Int.toNat (16 : Int)) IntKind.u32.bits)),
 IntKind.u8.wrap (Int.fdiv y ((2 : Int) ^ min (Int.toNat (8 : Int)) IntKind.u32.bits)),
 IntKind.u8.wrap y]).toArray,
 true, ())
 else none := by kernel_rfl
end Go.Sx.Tryz
set_option maxRecDepth 100000
namespace Go.Sx.Tryz
open Go Go.Sx Go.Proofs
noncomputable def l_s_Unsealed : List (Nat × Con) := [(255, c_s_SumOf), (254, c_s_l02Four)]
theorem l_s_Unsealed_ok : ∀ q ∈ l_s_Unsealed, ConOk Tryz.prog q.1 q.2 := Tryz.cons_cons c_s_SumOf_ok (Tryz.cons_cons c_s_l02Four_ok (Tryz.cons_nil))
def kp_s_Unsealed : KP := []
noncomputable def q_s_Unsealed (n : Nat) (x : Args [tString]) := evX (false, false, []) l_s_Unsealed kp_s_Unsealed [none, none] Tryz.f238 (shT [(false, tString), (false, tBool)]) n (encA [tString] x)
noncomputable def c_s_Unsealed : Con := roS [tString] true (shT [(false, tString), (false, tBool)]) (q_s_Unsealed big)
theorem c_s_Unsealed_ok : ConOk Tryz.prog 238 c_s_Unsealed := roS_ok ⟨Tryz.f238, by kernel_rfl, rfl, by decide⟩ fun _ _ h => evX_ok l_s_Unsealed_ok (f := Tryz.f238) (by kernel_rfl) rfl (by kernel_rfl) (by kernel_rfl) big h
noncomputable def Q_s_Unsealed (n : Nat) (a0 : ByteArray) : Option (ByteArray × Bool × Unit) := q_s_Unsealed n (a0, ())
theorem Q_s_Unsealed_eq (n : Nat) (a0 : ByteArray) : Q_s_Unsealed n a0 =
  bif decide (IntKind.i64.wrap ((↑a0.size : Int) - (4 : Int)) < (0 : Int)) then
 some (ByteArray.mk #[], false, ())
 else
 bif decide ((20000 : Int) < IntKind.i64.wrap ((↑a0.size : Int) - (4 : Int))) then
 some (ByteArray.mk #[], false, ())
 else
 if (0 : Int) ≤ IntKind.i64.wrap ((↑a0.size : Int) - (4 : Int)) then
 if IntKind.i64.wrap ((↑a0.size : Int) - (4 : Int)) ≤ (↑a0.size : Int) then
 if (0 : Int) ≤ IntKind.i64.wrap ((↑a0.size : Int) - (4 : Int)) then
 if IntKind.i64.wrap ((↑a0.size : Int) - (4 : Int)) ≤ (↑a0.size : Int) then
 (Q_s_SumOf big (a0.extract (0 : Nat) (IntKind.i64.wrap ((↑a0.size : Int) - (4 : Int))).toNat)).bind
 fun y =>
 bif
 !decide
 (a0.extract (IntKind.i64.wrap ((↑a0.size : Int) - (4 : Int))).toNat a0.size =
 ByteArray.mk
 (List.map (fun n => UInt8.ofNat n.toNat)
 [IntKind.u8.wrap (Int.fdiv y ((2 : Int) ^ min (Int.toNat (24 : Int)) IntKind.u32.bits)),
 IntKind.u8.wrap
 (Int.fdiv y ((2 : Int) ^ min (Int.toNat (16 : Int)) IntKind.u32.bits)),
 IntKind.u8.wrap (Int.fdiv y ((2 : Int) ^ min (Int.toNat (8 : Int)) IntKind.u32.bits)),
 IntKind.u8.wrap y]).toArray) then
 some (ByteArray.mk #[], false, ())
 else
 if (0 : Int) ≤ IntKind.i64.wrap ((↑a0.size : Int) - (4 : Int)) then
 if IntKind.i64.wrap ((↑a0.size : Int) - (4 : Int)) ≤ (↑a0.size : Int) then
 some
 (a0.extract (0 : Nat) (IntKind.i64.wrap ((↑a0.size : Int) - (4 : Int))).toNat, true, ())
 else none
 else none
 else none
 else none
 else none
 else none := by kernel_rfl
end Go.Sx.Tryz
set_option maxRecDepth 100000
namespace Go.Sx.Tryz
open Go Go.Sx Go.Proofs
noncomputable def l_s_KeptText : List (Nat × Con) := [(242, c_s_l08Low), (243, c_s_QcText), (244, c_s_VoteText), (245, c_s_l01Var), (246, c_s_Sealed)]
theorem l_s_KeptText_ok : ∀ q ∈ l_s_KeptText, ConOk Tryz.prog q.1 q.2 := Tryz.cons_cons c_s_l08Low_ok (Tryz.cons_cons c_s_QcText_ok (Tryz.cons_cons c_s_VoteText_ok (Tryz.cons_cons c_s_l01Var_ok (Tryz.cons_cons c_s_Sealed_ok (Tryz.cons_nil)))))
abbrev k_s_KeptText_3 : List Keep × List BK := ([.drop, .is (.ptr 0 0), .drop, .ro tString, .ro tInt64, .drop, .drop, .drop, .drop, .drop, .drop, .drop, .drop, .drop, .drop, .drop, .drop, .drop, .drop, .drop, .drop, .drop, .drop, .drop, .drop, .drop, .drop, .drop, .drop, .drop, .drop, .drop, .drop, .drop, .drop, .drop, .drop, .drop, .drop, .drop, .drop, .drop, .drop, .drop, .drop, .drop, .drop, .drop, .drop, .drop, .drop, .drop], [.vars [.ro tInt64, .ro tInt64, .ro tInt64, .ro tInt64, .ro tInt64, .ro tInt64, .ro tInt64, .ro tInt64, .ro tInt64, .ro tInt64, .ro tInt64, .ro tInt64, .ro tInt64, .ro tInt64, .ro tSlInt, .ro tSlICell, .ro tSlInt, .ro tSlIUndo, .ro tSlIVote, .ro tSlILetter, .ro tInt64]])
def kp_s_KeptText : KP := [(3, k_s_KeptText_3)]
noncomputable def q_s_KeptText (n : Nat) (x : Args [tIPeer]) := evX (false, false, [1, 7, 10, 14, 18, 22, 26, 32, 39]) l_s_KeptText kp_s_KeptText [none] Tryz.f220 (shV tString) n (encA [tIPeer] x)
noncomputable def c_s_KeptText : Con := roS [tIPeer] true (shV tString) (q_s_KeptText big)
theorem c_s_KeptText_ok : ConOk Tryz.prog 220 c_s_KeptText := roS_ok ⟨Tryz.f220, by kernel_rfl, rfl, by decide⟩ fun _ _ h => evX_ok l_s_KeptText_ok (f := Tryz.f220) (by kernel_rfl) rfl (by kernel_rfl) (by kernel_rfl) big h
noncomputable def Q_s_KeptText (n : Nat) (a0 : DIPeer) : Option ByteArray := q_s_KeptText n (a0, ())
noncomputable def r_s_KeptText_3 (n : Nat) (x : KD k_s_KeptText_3.1) (y : BD k_s_KeptText_3.2) := rounds (env (false, false, [1, 7, 10, 14, 18, 22, 26, 32, 39]) l_s_KeptText) kp_s_KeptText (body Tryz.f220) (finX (false, false, [1, 7, 10, 14, 18, 22, 26, 32, 39]) l_s_KeptText [none] Tryz.f220 (shV tString) [.val tIPeer (zeroD tIPeer)]) n 3 k_s_KeptText_3 x y
noncomputable def R_s_KeptText_3 (n : Nat) (s3 : ByteArray) (s4 : Int) (b0_0 : Int) (b0_1 : Int) (b0_2 : Int) (b0_3 : Int) (b0_4 : Int) (b0_5 : Int) (b0_6 : Int) (b0_7 : Int) (b0_8 : Int) (b0_9 : Int) (b0_10 : Int) (b0_11 : Int) (b0_12 : Int) (b0_13 : Int) (b0_14 : DSlInt) (b0_15 : DSlICell) (b0_16 : DSlInt) (b0_17 : DSlIUndo) (b0_18 : DSlIVote) (b0_19 : DSlILetter) (b0_20 : Int) : Option ByteArray := r_s_KeptText_3 n (s3, s4, ()) ((b0_0, b0_1, b0_2, b0_3, b0_4, b0_5, b0_6, b0_7, b0_8, b0_9, b0_10, b0_11, b0_12, b0_13, b0_14, b0_15, b0_16, b0_17, b0_18, b0_19, b0_20, ()), ())
theorem Q_s_KeptText_eq (n : Nat) (a0 : DIPeer) : Q_s_KeptText n a0 =
  (Q_s_l08Low big a0.1).bind fun y =>
 (Q_s_l08Low big a0.2.1).bind fun y_1 =>
 if ByteArray.size y + ByteArray.size y_1 ≤ lim then
 (Q_s_QcText big a0.2.2.1).bind fun y_2 =>
 if (y ++ y_1).size + ByteArray.size y_2 ≤ lim then
 (Q_s_QcText big a0.2.2.2.1).bind fun y_3 =>
 if (y ++ y_1 ++ y_2).size + ByteArray.size y_3 ≤ lim then
 (Q_s_VoteText big a0.2.2.2.2.1).bind fun y_4 =>
 if (y ++ y_1 ++ y_2 ++ y_3).size + ByteArray.size y_4 ≤ lim then
 (Q_s_l01Var big (↑(List.length a0.2.2.2.2.2.1) : Int)).bind fun y_5 =>
 if (y ++ y_1 ++ y_2 ++ y_3 ++ y_4).size + ByteArray.size y_5 ≤ lim then
 R_s_KeptText_3 n (y ++ y_1 ++ y_2 ++ y_3 ++ y_4 ++ y_5) (0 : Int) a0.1 a0.2.1
 a0.2.2.1.1 a0.2.2.1.2.1 a0.2.2.1.2.2.1
 a0.2.2.1.2.2.2.1 a0.2.2.2.1.1 a0.2.2.2.1.2.1
 a0.2.2.2.1.2.2.1 a0.2.2.2.1.2.2.2.1 a0.2.2.2.2.1.1
 a0.2.2.2.2.1.2.1 a0.2.2.2.2.1.2.2.1
 a0.2.2.2.2.1.2.2.2.1 a0.2.2.2.2.2.1
 a0.2.2.2.2.2.2.1 a0.2.2.2.2.2.2.2.1
 a0.2.2.2.2.2.2.2.2.1 a0.2.2.2.2.2.2.2.2.2.1
 a0.2.2.2.2.2.2.2.2.2.2.1
 a0.2.2.2.2.2.2.2.2.2.2.2.1
 else none
 else none
 else none
 else none
 else none := by kernel_rfl
theorem R_s_KeptText_3_eq (n : Nat) (s3 : ByteArray) (s4 : Int) (b0_0 : Int) (b0_1 : Int) (b0_2 : Int) (b0_3 : Int) (b0_4 : Int) (b0_5 : Int) (b0_6 : Int) (b0_7 : Int) (b0_8 : Int) (b0_9 : Int) (b0_10 : Int) (b0_11 : Int) (b0_12 : Int) (b0_13 : Int) (b0_14 : DSlInt) (b0_15 : DSlICell) (b0_16 : DSlInt) (b0_17 : DSlIUndo) (b0_18 : DSlIVote) (b0_19 : DSlILetter) (b0_20 : Int) : R_s_KeptText_3 (n + 1) s3 s4 b0_0 b0_1 b0_2 b0_3 b0_4 b0_5 b0_6 b0_7 b0_8 b0_9 b0_10 b0_11 b0_12 b0_13 b0_14 b0_15 b0_16 b0_17 b0_18 b0_19 b0_20 =
  bif decide (s4 < (↑(List.length b0_14) : Int)) then
 if (0 : Int) ≤ s4 then
 (nth b0_14 s4.toNat).bind fun y =>
 (Q_s_l08Low big y).bind fun y =>
 if s3.size + ByteArray.size y ≤ lim then
 R_s_KeptText_3 n (s3 ++ y) (IntKind.i64.wrap (s4 + (1 : Int))) b0_0 b0_1 b0_2 b0_3 b0_4 b0_5 b0_6 b0_7 b0_8
 b0_9 b0_10 b0_11 b0_12 b0_13 b0_14 b0_15 b0_16 b0_17 b0_18 b0_19 b0_20
 else none
 else none
 else (Q_s_Sealed big s3).bind fun y => some y.1 := by kernel_rfl
end Go.Sx.Tryz
set_option maxRecDepth 100000
namespace Go.Sx.Tryz
open Go Go.Sx Go.Proofs
noncomputable def l_s_ReadVar : List (Nat × Con) := [(67, c_s_l01In), (245, c_s_l01Var)]
theorem l_s_ReadVar_ok : ∀ q ∈ l_s_ReadVar, ConOk Tryz.prog q.1 q.2 := Tryz.cons_cons c_s_l01In_ok (Tryz.cons_cons c_s_l01Var_ok (Tryz.cons_nil))
abbrev k_s_ReadVar_6 : List Keep × List BK := ([.ro tString, .ro tInt64, .drop, .drop, .drop, .drop, .drop, .ro tInt64, .ro tInt64, .ro tInt64, .drop, .drop, .drop, .drop, .drop, .drop, .drop, .drop, .drop, .drop, .drop, .drop, .drop, .drop, .drop, .drop, .drop, .drop, .drop, .drop, .drop, .drop, .drop, .drop, .drop, .drop, .drop, .drop, .drop, .drop, .drop, .drop, .drop, .drop, .drop, .drop, .drop, .drop, .drop, .drop, .drop, .drop, .drop, .drop, .drop, .drop, .drop, .drop], [])
def kp_s_ReadVar : KP := [(6, k_s_ReadVar_6)]
noncomputable def q_s_ReadVar (n : Nat) (x : Args [tString, tInt]) := evX (false, false, []) l_s_ReadVar kp_s_ReadVar [none, none, none] Tryz.f256 (shT [(false, tInt), (false, tInt), (false, tBool)]) n (encA [tString, tInt] x)
noncomputable def c_s_ReadVar : Con := roS [tString, tInt] true (shT [(false, tInt), (false, tInt), (false, tBool)]) (q_s_ReadVar big)
theorem c_s_ReadVar_ok : ConOk Tryz.prog 256 c_s_ReadVar := roS_ok ⟨Tryz.f256, by kernel_rfl, rfl, by decide⟩ fun _ _ h => evX_ok l_s_ReadVar_ok (f := Tryz.f256) (by kernel_rfl) rfl (by kernel_rfl) (by kernel_rfl) big h
noncomputable def Q_s_ReadVar (n : Nat) (a0 : ByteArray) (a1 : Int) : Option (Int × Int × Bool × Unit) := q_s_ReadVar n (a0, a1, ())
noncomputable def r_s_ReadVar_6 (n : Nat) (x : KD k_s_ReadVar_6.1) (y : BD k_s_ReadVar_6.2) := rounds (env (false, false, []) l_s_ReadVar) kp_s_ReadVar (body Tryz.f256) (finX (false, false, []) l_s_ReadVar [none, none, none] Tryz.f256 (shT [(false, tInt), (false, tInt), (false, tBool)]) [.val tString (zeroD tString), .val tInt (zeroD tInt)]) n 6 k_s_ReadVar_6 x y
noncomputable def R_s_ReadVar_6 (n : Nat) (s0 : ByteArray) (s1 : Int) (s7 : Int) (s8 : Int) (s9 : Int) : Option (Int × Int × Bool × Unit) := r_s_ReadVar_6 n (s0, s1, s7, s8, s9, ()) ()
theorem Q_s_ReadVar_eq (n : Nat) (a0 : ByteArray) (a1 : Int) : Q_s_ReadVar n a0 a1 =
  (Q_s_l01In big a1 (0 : Int) (↑a0.size : Int)).bind fun y =>
 bif !y then some ((0 : Int), (0 : Int), false, ()) else R_s_ReadVar_6 n a0 a1 (0 : Int) (1 : Int) a1 := by kernel_rfl
theorem R_s_ReadVar_6_eq (n : Nat) (s0 : ByteArray) (s1 : Int) (s7 : Int) (s8 : Int) (s9 : Int) : R_s_ReadVar_6 (n + 1) s0 s1 s7 s8 s9 =
  bif decide (s9 < (↑s0.size : Int)) then
 bif decide (s9 < IntKind.i64.wrap (s1 + (5 : Int))) then
 if (0 : Int) ≤ s9 then
 (nth s0.data.toList s9.toNat).bind fun y =>
 if (0 : Int) ≤ s9 then
 (nth s0.data.toList s9.toNat).bind fun y_1 =>
 bif decide ((↑y_1.toNat : Int) < (128 : Int)) then
 bif
 decide
 ((1000000000 : Int) <
 IntKind.i64.wrap
 (s7 + IntKind.i64.wrap ((IntKind.i64.wrap (↑y.toNat : Int)).tmod (128 : Int) * s8))) then
 some ((0 : Int), (0 : Int), false, ())
 else
 if (0 : Int) ≤ IntKind.i64.wrap (s9 + (1 : Int)) then
 if IntKind.i64.wrap (s9 + (1 : Int)) ≤ (↑s0.size : Int) then
 if (0 : Int) ≤ s1 then
 if s1 ≤ IntKind.i64.wrap (s9 + (1 : Int)) then
 (Q_s_l01Var big
 (IntKind.i64.wrap
 (s7 +
 IntKind.i64.wrap ((IntKind.i64.wrap (↑y.toNat : Int)).tmod (128 : Int) * s8)))).bind
 fun y_2 =>
 bif !decide (y_2 = s0.extract s1.toNat (IntKind.i64.wrap (s9 + (1 : Int))).toNat) then
 some ((0 : Int), (0 : Int), false, ())
 else
 some
 (IntKind.i64.wrap
 (s7 + IntKind.i64.wrap ((IntKind.i64.wrap (↑y.toNat : Int)).tmod (128 : Int) * s8)),
 IntKind.i64.wrap (s9 + (1 : Int)), true, ())
 else none
 else none
 else none
 else none
 else
 R_s_ReadVar_6 n s0 s1
 (IntKind.i64.wrap (s7 + IntKind.i64.wrap ((IntKind.i64.wrap (↑y.toNat : Int)).tmod (128 : Int) * s8)))
 (IntKind.i64.wrap (s8 * (128 : Int))) (IntKind.i64.wrap (s9 + (1 : Int)))
 else none
 else none
 else some ((0 : Int), (0 : Int), false, ())
 else some ((0 : Int), (0 : Int), false, ()) := by kernel_rfl
end Go.Sx.Tryz
set_option maxRecDepth 100000
namespace Go.Sx.Tryz
open Go Go.Sx Go.Proofs
noncomputable def l_s_l08Var : List (Nat × Con) := [(256, c_s_ReadVar)]
theorem l_s_l08Var_ok : ∀ q ∈ l_s_l08Var, ConOk Tryz.prog q.1 q.2 := Tryz.cons_cons c_s_ReadVar_ok (Tryz.cons_nil)
def kp_s_l08Var : KP := []
noncomputable def q_s_l08Var (n : Nat) (x : AP.denL [.mu tSl08Cur]) := evX (false, false, [7, 8, 9, 11, 12, 13, 19, 20, 21, 27, 28, 30, 32]) l_s_l08Var kp_s_l08Var [none] Tryz.f239 (shO (shV tInt) [.mu tSl08Cur]) n (AP.encL [.mu tSl08Cur] x)
noncomputable def c_s_l08Var : Con := apS [.mu tSl08Cur] true (shO (shV tInt) [.mu tSl08Cur]) (q_s_l08Var big)
theorem c_s_l08Var_ok : ConOk Tryz.prog 239 c_s_l08Var := apS_ok ⟨Tryz.f239, by kernel_rfl, rfl, by decide⟩ fun _ _ h => evX_ok l_s_l08Var_ok (f := Tryz.f239) (by kernel_rfl) rfl (by kernel_rfl) (by kernel_rfl) big h
noncomputable def Q_s_l08Var (n : Nat) (a0 : DSl08Cur) : Option (Int × DSl08Cur × Unit) := q_s_l08Var n (a0, ())
theorem Q_s_l08Var_eq (n : Nat) (a0 : DSl08Cur) : Q_s_l08Var n a0 =
  (Q_s_ReadVar big a0.1 a0.2.1).bind fun y =>
 bif a0.2.2.1 then some ((0 : Int), (a0.1, a0.2.1, true, ()), ())
 else
 bif !y.2.2.1 then some ((0 : Int), (a0.1, a0.2.1, true, ()), ())
 else some (y.1, (a0.1, y.2.1, a0.2.2), ()) := by kernel_rfl
end Go.Sx.Tryz
set_option maxRecDepth 100000
namespace Go.Sx.Tryz
open Go Go.Sx Go.Proofs
noncomputable def l_s_l08Qc : List (Nat × Con) := [(239, c_s_l08Var)]
theorem l_s_l08Qc_ok : ∀ q ∈ l_s_l08Qc, ConOk Tryz.prog q.1 q.2 := Tryz.cons_cons c_s_l08Var_ok (Tryz.cons_nil)
def kp_s_l08Qc : KP := []
noncomputable def q_s_l08Qc (n : Nat) (x : AP.denL [.mu tSl08Cur]) := evX (false, false, [3]) l_s_l08Qc kp_s_l08Qc [none] Tryz.f240 (shO (shV tIQc) [.mu tSl08Cur]) n (AP.encL [.mu tSl08Cur] x)
noncomputable def c_s_l08Qc : Con := apS [.mu tSl08Cur] true (shO (shV tIQc) [.mu tSl08Cur]) (q_s_l08Qc big)
theorem c_s_l08Qc_ok : ConOk Tryz.prog 240 c_s_l08Qc := apS_ok ⟨Tryz.f240, by kernel_rfl, rfl, by decide⟩ fun _ _ h => evX_ok l_s_l08Qc_ok (f := Tryz.f240) (by kernel_rfl) rfl (by kernel_rfl) (by kernel_rfl) big h
noncomputable def Q_s_l08Qc (n : Nat) (a0 : DSl08Cur) : Option (DIQc × DSl08Cur × Unit) := q_s_l08Qc n (a0, ())
theorem Q_s_l08Qc_eq (n : Nat) (a0 : DSl08Cur) : Q_s_l08Qc n a0 =
  (Q_s_l08Var big a0).bind fun y =>
 (Q_s_l08Var big y.2.1).bind fun y_1 =>
 (Q_s_l08Var big y_1.2.1).bind fun y_2 =>
 (Q_s_l08Var big y_2.2.1).bind fun y_3 =>
 some ((y.1, y_1.1, y_2.1, y_3.1, ()), y_3.2) := by kernel_rfl
end Go.Sx.Tryz
set_option maxRecDepth 100000
namespace Go.Sx.Tryz
open Go Go.Sx Go.Proofs
noncomputable def l_s_l08Vote : List (Nat × Con) := [(239, c_s_l08Var)]
theorem l_s_l08Vote_ok : ∀ q ∈ l_s_l08Vote, ConOk Tryz.prog q.1 q.2 := Tryz.cons_cons c_s_l08Var_ok (Tryz.cons_nil)
def kp_s_l08Vote : KP := []
noncomputable def q_s_l08Vote (n : Nat) (x : AP.denL [.mu tSl08Cur]) := evX (false, false, [3]) l_s_l08Vote kp_s_l08Vote [none] Tryz.f241 (shO (shV tIVote) [.mu tSl08Cur]) n (AP.encL [.mu tSl08Cur] x)
noncomputable def c_s_l08Vote : Con := apS [.mu tSl08Cur] true (shO (shV tIVote) [.mu tSl08Cur]) (q_s_l08Vote big)
theorem c_s_l08Vote_ok : ConOk Tryz.prog 241 c_s_l08Vote := apS_ok ⟨Tryz.f241, by kernel_rfl, rfl, by decide⟩ fun _ _ h => evX_ok l_s_l08Vote_ok (f := Tryz.f241) (by kernel_rfl) rfl (by kernel_rfl) (by kernel_rfl) big h
noncomputable def Q_s_l08Vote (n : Nat) (a0 : DSl08Cur) : Option (DIVote × DSl08Cur × Unit) := q_s_l08Vote n (a0, ())
theorem Q_s_l08Vote_eq (n : Nat) (a0 : DSl08Cur) : Q_s_l08Vote n a0 =
  (Q_s_l08Var big a0).bind fun y =>
 (Q_s_l08Var big y.2.1).bind fun y_1 =>
 (Q_s_l08Var big y_1.2.1).bind fun y_2 =>
 (Q_s_l08Var big y_2.2.1).bind fun y_3 =>
 some ((y.1, y_1.1, y_2.1, y_3.1, ()), y_3.2) := by kernel_rfl
end Go.Sx.Tryz
set_option maxRecDepth 100000
namespace Go.Sx.Tryz
open Go Go.Sx Go.Proofs
noncomputable def l_s_ReadKept : List (Nat × Con) := [(238, c_s_Unsealed), (239, c_s_l08Var), (240, c_s_l08Qc), (241, c_s_l08Vote), (220, c_s_KeptText)]
theorem l_s_ReadKept_ok : ∀ q ∈ l_s_ReadKept, ConOk Tryz.prog q.1 q.2 := Tryz.cons_cons c_s_Unsealed_ok (Tryz.cons_cons c_s_l08Var_ok (Tryz.cons_cons c_s_l08Qc_ok (Tryz.cons_cons c_s_l08Vote_ok (Tryz.cons_cons c_s_KeptText_ok (Tryz.cons_nil)))))
abbrev k_s_ReadKept_10 : List Keep × List BK := ([.ro tString, .drop, .is (.ptr 0 0), .drop, .drop, .drop, .is (.ptr 1 0), .is (.ptr 2 0), .ro tInt64, .ro tInt64, .drop, .drop, .drop, .drop, .drop, .drop, .drop, .drop, .drop, .drop, .drop, .drop, .drop, .drop, .drop, .drop, .drop, .drop, .drop, .drop, .drop, .drop, .drop, .drop, .drop, .drop, .drop, .drop, .drop, .drop, .drop, .drop, .drop, .drop, .drop, .drop, .drop, .drop, .drop, .drop, .drop, .drop, .drop, .drop, .drop, .drop, .drop, .drop, .drop, .drop, .drop, .drop, .drop, .drop, .drop, .drop, .drop, .drop], [.vars [.ro tInt64, .ro tInt64, .ro tInt64, .ro tInt64, .ro tInt64, .ro tInt64, .ro tInt64, .ro tInt64, .ro tInt64, .ro tInt64, .ro tInt64, .ro tInt64, .ro tInt64, .ro tInt64, .own tInt, .own tICell, .own tInt, .own tIUndo, .own tIVote, .own tILetter, .ro tInt64], .vars [.ro tString, .ro tInt64, .ro tBool], .vars [.ro tInt64, .ro tInt64, .ro tInt64, .ro tInt64, .ro tInt64, .ro tInt64, .ro tInt64, .ro tInt64, .ro tInt64, .ro tInt64, .ro tInt64, .ro tInt64, .ro tInt64, .ro tInt64, .own tInt, .own tICell, .own tInt, .own tIUndo, .own tIVote, .own tILetter, .ro tInt64]])
def kp_s_ReadKept : KP := [(10, k_s_ReadKept_10)]
noncomputable def q_s_ReadKept (n : Nat) (x : Args [tString]) := evX (false, false, [7, 41, 42, 43, 49, 56, 57, 58]) l_s_ReadKept kp_s_ReadKept [some uIPeer, none] Tryz.f219 (shT [(true, uIPeer), (false, tBool)]) n (encA [tString] x)
noncomputable def c_s_ReadKept : Con := roS [tString] true (shT [(true, uIPeer), (false, tBool)]) (q_s_ReadKept big)
theorem c_s_ReadKept_ok : ConOk Tryz.prog 219 c_s_ReadKept := roS_ok ⟨Tryz.f219, by kernel_rfl, rfl, by decide⟩ fun _ _ h => evX_ok l_s_ReadKept_ok (f := Tryz.f219) (by kernel_rfl) rfl (by kernel_rfl) (by kernel_rfl) big h
noncomputable def Q_s_ReadKept (n : Nat) (a0 : ByteArray) : Option (DIPeer × Bool × Unit) := q_s_ReadKept n (a0, ())
noncomputable def r_s_ReadKept_10 (n : Nat) (x : KD k_s_ReadKept_10.1) (y : BD k_s_ReadKept_10.2) := rounds (env (false, false, [7, 41, 42, 43, 49, 56, 57, 58]) l_s_ReadKept) kp_s_ReadKept (body Tryz.f219) (finX (false, false, [7, 41, 42, 43, 49, 56, 57, 58]) l_s_ReadKept [some uIPeer, none] Tryz.f219 (shT [(true, uIPeer), (false, tBool)]) [.val tString (zeroD tString)]) n 10 k_s_ReadKept_10 x y
noncomputable def R_s_ReadKept_10 (n : Nat) (s0 : ByteArray) (s8 : Int) (s9 : Int) (b0_0 : Int) (b0_1 : Int) (b0_2 : Int) (b0_3 : Int) (b0_4 : Int) (b0_5 : Int) (b0_6 : Int) (b0_7 : Int) (b0_8 : Int) (b0_9 : Int) (b0_10 : Int) (b0_11 : Int) (b0_12 : Int) (b0_13 : Int) (b0_14 : (List Int)) (b0_15 : (List DICell)) (b0_16 : (List Int)) (b0_17 : (List DIUndo)) (b0_18 : (List DIVote)) (b0_19 : (List DILetter)) (b0_20 : Int) (b1_0 : ByteArray) (b1_1 : Int) (b1_2 : Bool) (b2_0 : Int) (b2_1 : Int) (b2_2 : Int) (b2_3 : Int) (b2_4 : Int) (b2_5 : Int) (b2_6 : Int) (b2_7 : Int) (b2_8 : Int) (b2_9 : Int) (b2_10 : Int) (b2_11 : Int) (b2_12 : Int) (b2_13 : Int) (b2_14 : (List Int)) (b2_15 : (List DICell)) (b2_16 : (List Int)) (b2_17 : (List DIUndo)) (b2_18 : (List DIVote)) (b2_19 : (List DILetter)) (b2_20 : Int) : Option (DIPeer × Bool × Unit) := r_s_ReadKept_10 n (s0, s8, s9, ()) ((b0_0, b0_1, b0_2, b0_3, b0_4, b0_5, b0_6, b0_7, b0_8, b0_9, b0_10, b0_11, b0_12, b0_13, b0_14, b0_15, b0_16, b0_17, b0_18, b0_19, b0_20, ()), (b1_0, b1_1, b1_2, ()), (b2_0, b2_1, b2_2, b2_3, b2_4, b2_5, b2_6, b2_7, b2_8, b2_9, b2_10, b2_11, b2_12, b2_13, b2_14, b2_15, b2_16, b2_17, b2_18, b2_19, b2_20, ()), ())
theorem Q_s_ReadKept_eq (n : Nat) (a0 : ByteArray) : Q_s_ReadKept n a0 = (Q_s_Unsealed big a0).bind fun y => (Q_s_l08Var big (y.1, (0 : Int), !y.2.1, ())).bind fun y => (Q_s_l08Var big y.2.1).bind fun y_1 => (Q_s_l08Qc big y_1.2.1).bind fun y_2 => (Q_s_l08Qc big y_2.2.1).bind fun y_3 => (Q_s_l08Vote big y_3.2.1).bind fun y_4 => (Q_s_l08Var big y_4.2.1).bind fun y_5 => R_s_ReadKept_10 n a0 y_5.1 (0 : Int) (0 : Int) (0 : Int) (0 : Int) (0 : Int) (0 : Int) (0 : Int) (0 : Int) (0 : Int) (0 : Int) (0 : Int) (0 : Int) (0 : Int) (0 : Int) (0 : Int) [] [] [] [] [] [] (0 : Int) y_5.2.1.1 y_5.2.1.2.1 y_5.2.1.2.2.1 y.1 y_1.1 y_2.1.1 y_2.1.2.1 y_2.1.2.2.1 y_2.1.2.2.2.1 y_3.1.1 y_3.1.2.1 y_3.1.2.2.1 y_3.1.2.2.2.1 y_4.1.1 y_4.1.2.1 y_4.1.2.2.1 y_4.1.2.2.2.1 [] [] [] [] [] [] (0 : Int) := by kernel_rfl
theorem R_s_ReadKept_10_eq (n : Nat) (s0 : ByteArray) (s8 : Int) (s9 : Int) (b0_0 : Int) (b0_1 : Int) (b0_2 : Int) (b0_3 : Int) (b0_4 : Int) (b0_5 : Int) (b0_6 : Int) (b0_7 : Int) (b0_8 : Int) (b0_9 : Int) (b0_10 : Int) (b0_11 : Int) (b0_12 : Int) (b0_13 : Int) (b0_14 : (List Int)) (b0_15 : (List DICell)) (b0_16 : (List Int)) (b0_17 : (List DIUndo)) (b0_18 : (List DIVote)) (b0_19 : (List DILetter)) (b0_20 : Int) (b1_0 : ByteArray) (b1_1 : Int) (b1_2 : Bool) (b2_0 : Int) (b2_1 : Int) (b2_2 : Int) (b2_3 : Int) (b2_4 : Int) (b2_5 : Int) (b2_6 : Int) (b2_7 : Int) (b2_8 : Int) (b2_9 : Int) (b2_10 : Int) (b2_11 : Int) (b2_12 : Int) (b2_13 : Int) (b2_14 : (List Int)) (b2_15 : (List DICell)) (b2_16 : (List Int)) (b2_17 : (List DIUndo)) (b2_18 : (List DIVote)) (b2_19 : (List DILetter)) (b2_20 : Int) : R_s_ReadKept_10 (n + 1) s0 s8 s9 b0_0 b0_1 b0_2 b0_3 b0_4 b0_5 b0_6 b0_7 b0_8 b0_9 b0_10 b0_11 b0_12 b0_13 b0_14 b0_15 b0_16 b0_17 b0_18 b0_19 b0_20 b1_0 b1_1 b1_2 b2_0 b2_1 b2_2 b2_3 b2_4 b2_5 b2_6 b2_7 b2_8 b2_9 b2_10 b2_11 b2_12 b2_13 b2_14 b2_15 b2_16 b2_17 b2_18 b2_19 b2_20 = (fun zC0 => bif decide (s9 < s8) then bif !b1_2 then (fun zB => (fun zB => both (both zB zB) zB) (zB)) ((Q_s_l08Var big (b1_0, b1_1, b1_2, ())).bind fun y => if b2_14.length + (1 : Nat) ≤ lim then R_s_ReadKept_10 n s0 s8 (IntKind.i64.wrap (s9 + (1 : Int))) b0_0 b0_1 b0_2 b0_3 b0_4 b0_5 b0_6 b0_7 b0_8 b0_9 b0_10 b0_11 b0_12 b0_13 b0_14 b0_15 b0_16 b0_17 b0_18 b0_19 b0_20 y.2.1.1 y.2.1.2.1 y.2.1.2.2.1 b2_0 b2_1 b2_2 b2_3 b2_4 b2_5 b2_6 b2_7 b2_8 b2_9 b2_10 b2_11 b2_12 b2_13 (b2_14.append [y.1]) b2_15 b2_16 b2_17 b2_18 b2_19 b2_20 else none) else zC0 else zC0) (bif b1_2 then some (((0 : Int), (0 : Int), ((0 : Int), (0 : Int), (0 : Int), (0 : Int), ()), ((0 : Int), (0 : Int), (0 : Int), (0 : Int), ()), ((0 : Int), (0 : Int), (0 : Int), (0 : Int), ()), [], [], [], [], [], [], (0 : Int), ()), false, ()) else (Q_s_KeptText big (b2_0, b2_1, (b2_2, b2_3, b2_4, b2_5, ()), (b2_6, b2_7, b2_8, b2_9, ()), (b2_10, b2_11, b2_12, b2_13, ()), b2_14, b2_15, b2_16, b2_17, b2_18, b2_19, b2_20, ())).bind fun y => bif !decide (y = s0) then some (((0 : Int), (0 : Int), ((0 : Int), (0 : Int), (0 : Int), (0 : Int), ()), ((0 : Int), (0 : Int), (0 : Int), (0 : Int), ()), ((0 : Int), (0 : Int), (0 : Int), (0 : Int), ()), [], [], [], [], [], [], (0 : Int), ()), false, ()) else some ((b2_0, b2_1, (b2_2, b2_3, b2_4, b2_5, ()), (b2_6, b2_7, b2_8, b2_9, ()), (b2_10, b2_11, b2_12, b2_13, ()), b2_14, b2_15, b2_16, b2_17, b2_18, b2_19, b2_20, ()), true, ())) := by kernel_rfl
end Go.Sx.Tryz
set_option maxRecDepth 100000
namespace Go.Sx.Tryz
open Go Go.Sx Go.Proofs
noncomputable def l_s_Fallen : List (Nat × Con) := [(220, c_s_KeptText), (219, c_s_ReadKept), (179, c_s_PeerNew), (28, c_s_RowCells)]
theorem l_s_Fallen_ok : ∀ q ∈ l_s_Fallen, ConOk Tryz.prog q.1 q.2 := Tryz.cons_cons c_s_KeptText_ok (Tryz.cons_cons c_s_ReadKept_ok (Tryz.cons_cons c_s_PeerNew_ok (Tryz.cons_cons c_s_RowCells_ok (Tryz.cons_nil))))
def kp_s_Fallen : KP := []
noncomputable def q_s_Fallen (n : Nat) (x : Args [tSlIBlock, tIPeer]) := evX (false, false, [3, 5, 15, 19]) l_s_Fallen kp_s_Fallen [some uIPeer] Tryz.f185 (shF uIPeer) n (encA [tSlIBlock, tIPeer] x)
noncomputable def c_s_Fallen : Con := roS [tSlIBlock, tIPeer] true (shF uIPeer) (q_s_Fallen big)
theorem c_s_Fallen_ok : ConOk Tryz.prog 185 c_s_Fallen := roS_ok ⟨Tryz.f185, by kernel_rfl, rfl, by decide⟩ fun _ _ h => evX_ok l_s_Fallen_ok (f := Tryz.f185) (by kernel_rfl) rfl (by kernel_rfl) (by kernel_rfl) big h
noncomputable def Q_s_Fallen (n : Nat) (a0 : DSlIBlock) (a1 : DIPeer) : Option DIPeer := q_s_Fallen n (a0, a1, ())
theorem Q_s_Fallen_eq (n : Nat) (a0 : DSlIBlock) (a1 : DIPeer) : Q_s_Fallen n a0 a1 =
  (Q_s_KeptText big a1).bind fun y =>
 (Q_s_ReadKept big y).bind fun y =>
 bif !y.2.1 then
 some
 (a1.1, (1 : Int), ((0 : Int), (0 : Int), (0 : Int), (0 : Int), ()),
 ((0 : Int), (0 : Int), (0 : Int), (0 : Int), ()),
 ((0 : Int), (0 : Int), (0 : Int), (0 : Int), ()), [], [], [], [], [], [], (0 : Int), ())
 else
 (Q_s_RowCells big a0 y.1.2.2.2.2.2.1).bind fun y_1 =>
 some
 (y.1.1, y.1.2.1, y.1.2.2.1, y.1.2.2.2.1, y.1.2.2.2.2.1,
 y.1.2.2.2.2.2.1, y_1, y.1.2.2.2.2.2.2.2) := by kernel_rfl
end Go.Sx.Tryz
set_option maxRecDepth 100000
namespace Go.Sx.Tryz
open Go Go.Sx Go.Proofs
noncomputable def l_s_LieQc : List (Nat × Con) := [(67, c_s_l01In), (114, c_s_Lies), (248, c_s_QcOf)]
theorem l_s_LieQc_ok : ∀ q ∈ l_s_LieQc, ConOk Tryz.prog q.1 q.2 := Tryz.cons_cons c_s_l01In_ok (Tryz.cons_cons c_s_Lies_ok (Tryz.cons_cons c_s_QcOf_ok (Tryz.cons_nil)))
abbrev k_s_LieQc_6 : List Keep × List BK := ([.drop, .ro tInt64, .ro tInt64, .is (.ptr 0 0), .drop, .drop, .is (.ptr 1 0), .drop, .ro tInt64, .own tXstruct_Phase_int_View_int_Block_int_Sign, .ro tInt64, .drop, .drop, .drop, .drop, .drop, .drop, .drop, .drop, .drop, .drop, .drop, .drop, .drop, .drop, .drop, .drop, .drop, .drop, .drop, .drop, .drop, .drop, .drop, .drop, .drop, .drop, .drop, .drop, .drop, .drop, .drop, .drop, .drop, .drop, .drop, .drop, .drop, .drop, .drop, .drop, .drop, .drop, .drop, .drop, .drop, .drop, .drop, .drop], [.vars [.ro tInt64, .ro tBool, .ro tInt64, .ro tSlIBlock, .ro tSlIPeer, .ro tSlILetter, .ro tSlIVote, .ro tSlICmd], .vars [.ro tInt64, .ro tInt64, .ro tInt64, .ro tInt64]])
def kp_s_LieQc : KP := [(6, k_s_LieQc_6)]
noncomputable def q_s_LieQc (n : Nat) (x : Args [tICluster, tInt, tInt]) := evX (false, false, [3, 12, 19, 26, 30, 54]) l_s_LieQc kp_s_LieQc [none, none] Tryz.f224 (shT [(false, tIQc), (false, tBool)]) n (encA [tICluster, tInt, tInt] x)
noncomputable def c_s_LieQc : Con := roS [tICluster, tInt, tInt] true (shT [(false, tIQc), (false, tBool)]) (q_s_LieQc big)
theorem c_s_LieQc_ok : ConOk Tryz.prog 224 c_s_LieQc := roS_ok ⟨Tryz.f224, by kernel_rfl, rfl, by decide⟩ fun _ _ h => evX_ok l_s_LieQc_ok (f := Tryz.f224) (by kernel_rfl) rfl (by kernel_rfl) (by kernel_rfl) big h
noncomputable def Q_s_LieQc (n : Nat) (a0 : DICluster) (a1 : Int) (a2 : Int) : Option (DIQc × Bool × Unit) := q_s_LieQc n (a0, a1, a2, ())
noncomputable def r_s_LieQc_6 (n : Nat) (x : KD k_s_LieQc_6.1) (y : BD k_s_LieQc_6.2) := rounds (env (false, false, [3, 12, 19, 26, 30, 54]) l_s_LieQc) kp_s_LieQc (body Tryz.f224) (finX (false, false, [3, 12, 19, 26, 30, 54]) l_s_LieQc [none, none] Tryz.f224 (shT [(false, tIQc), (false, tBool)]) [.val tICluster (zeroD tICluster), .val tInt (zeroD tInt), .val tInt (zeroD tInt)]) n 6 k_s_LieQc_6 x y
noncomputable def R_s_LieQc_6 (n : Nat) (s1 : Int) (s2 : Int) (s8 : Int) (s9 : (List DXstruct_Phase_int_View_int_Block_int_Sign)) (s10 : Int) (b0_0 : Int) (b0_1 : Bool) (b0_2 : Int) (b0_3 : DSlIBlock) (b0_4 : DSlIPeer) (b0_5 : DSlILetter) (b0_6 : DSlIVote) (b0_7 : DSlICmd) (b1_0 : Int) (b1_1 : Int) (b1_2 : Int) (b1_3 : Int) : Option (DIQc × Bool × Unit) := r_s_LieQc_6 n (s1, s2, s8, s9, s10, ()) ((b0_0, b0_1, b0_2, b0_3, b0_4, b0_5, b0_6, b0_7, ()), (b1_0, b1_1, b1_2, b1_3, ()), ())
theorem Q_s_LieQc_eq (n : Nat) (a0 : DICluster) (a1 : Int) (a2 : Int) : Q_s_LieQc n a0 a1 a2 =
  (Q_s_l01In big a2 (1 : Int) (IntKind.i64.wrap ((↑(List.length a0.2.2.2.1) : Int) - (1 : Int)))).bind fun y =>
 bif !y then some (((0 : Int), (0 : Int), (0 : Int), (0 : Int), ()), false, ())
 else
 if (0 : Int) ≤ a2 then
 (nth a0.2.2.2.1 a2.toNat).bind fun y =>
 if (0 : Nat) + List.length a0.2.2.2.2.2.2.1 ≤ lim then
 R_s_LieQc_6 n a1 a2 y.2.1 a0.2.2.2.2.2.2.1 (0 : Int) a0.1 a0.2.1 a0.2.2.1
 a0.2.2.2.1 a0.2.2.2.2.1 a0.2.2.2.2.2.1 a0.2.2.2.2.2.2.1
 a0.2.2.2.2.2.2.2.1 (0 : Int) (0 : Int) (0 : Int) (0 : Int)
 else none
 else none := by kernel_rfl
theorem R_s_LieQc_6_eq (n : Nat) (s1 : Int) (s2 : Int) (s8 : Int) (s9 : (List DXstruct_Phase_int_View_int_Block_int_Sign)) (s10 : Int) (b0_0 : Int) (b0_1 : Bool) (b0_2 : Int) (b0_3 : DSlIBlock) (b0_4 : DSlIPeer) (b0_5 : DSlILetter) (b0_6 : DSlIVote) (b0_7 : DSlICmd) (b1_0 : Int) (b1_1 : Int) (b1_2 : Int) (b1_3 : Int) : R_s_LieQc_6 (n + 1) s1 s2 s8 s9 s10 b0_0 b0_1 b0_2 b0_3 b0_4 b0_5 b0_6 b0_7 b1_0 b1_1 b1_2 b1_3 =
  bif decide (s10 < b0_0) then
 bif decide (s10 < (7 : Int)) then
 (Q_s_Lies big (b0_0, b0_1, b0_2, b0_3, b0_4, b0_5, b0_6, b0_7, ()) s10).bind fun y =>
 bif y then
 if s9.length + [(s1, s8, s2, s10, ())].length ≤ lim then
 R_s_LieQc_6 n s1 s2 s8 (s9.append [(s1, s8, s2, s10, ())]) (IntKind.i64.wrap (s10 + (1 : Int))) b0_0 b0_1
 b0_2 b0_3 b0_4 b0_5 b0_6 b0_7 b1_0 b1_1 b1_2 b1_3
 else none
 else
 R_s_LieQc_6 n s1 s2 s8 s9 (IntKind.i64.wrap (s10 + (1 : Int))) b0_0 b0_1 b0_2 b0_3 b0_4 b0_5 b0_6 b0_7 b1_0
 b1_1 b1_2 b1_3
 else (Q_s_QcOf big s9 s1 s8 s2 b0_0).bind fun y => some y
 else (Q_s_QcOf big s9 s1 s8 s2 b0_0).bind fun y => some y := by kernel_rfl
end Go.Sx.Tryz
set_option maxRecDepth 100000
namespace Go.Sx.Tryz
open Go Go.Sx Go.Proofs
noncomputable def l_s_MayHand : List (Nat × Con) := [(234, c_s_LetterOk), (114, c_s_Lies), (126, c_s_Proven)]
theorem l_s_MayHand_ok : ∀ q ∈ l_s_MayHand, ConOk Tryz.prog q.1 q.2 := Tryz.cons_cons c_s_LetterOk_ok (Tryz.cons_cons c_s_Lies_ok (Tryz.cons_cons c_s_Proven_ok (Tryz.cons_nil)))
def kp_s_MayHand : KP := []
noncomputable def q_s_MayHand (n : Nat) (x : Args [tICluster, tILetter]) := evX (false, false, [2, 3, 5, 7, 14, 20, 22, 24, 29, 34, 35]) l_s_MayHand kp_s_MayHand [none] Tryz.f247 (shV tBool) n (encA [tICluster, tILetter] x)
noncomputable def c_s_MayHand : Con := roS [tICluster, tILetter] true (shV tBool) (q_s_MayHand big)
theorem c_s_MayHand_ok : ConOk Tryz.prog 247 c_s_MayHand := roS_ok ⟨Tryz.f247, by kernel_rfl, rfl, by decide⟩ fun _ _ h => evX_ok l_s_MayHand_ok (f := Tryz.f247) (by kernel_rfl) rfl (by kernel_rfl) (by kernel_rfl) big h
noncomputable def Q_s_MayHand (n : Nat) (a0 : DICluster) (a1 : DILetter) : Option Bool := q_s_MayHand n (a0, a1, ())
theorem Q_s_MayHand_eq (n : Nat) (a0 : DICluster) (a1 : DILetter) : Q_s_MayHand n a0 a1 =
  (Q_s_LetterOk big a0.2.2.2.1 a0.1 a1).bind fun y =>
 bif !y then some false
 else
 (Q_s_Lies big a0 a1.2.1).bind fun y =>
 bif !y then some false
 else
 (Q_s_Proven big a0.2.2.2.2.2.2.1 a1.2.2.2.2.2.1 a0.2.2.1).bind fun y =>
 bif !y then some false
 else
 bif !decide (a1.1 = (2 : Int)) then some true
 else (Q_s_Lies big a0 a1.2.2.2.2.2.2.1.2.2.2.1).bind fun y => some y := by kernel_rfl
end Go.Sx.Tryz
set_option maxRecDepth 100000
namespace Go.Sx.Tryz
open Go Go.Sx Go.Proofs
noncomputable def l_s_l16Hand : List (Nat × Con) := [(247, c_s_MayHand), (214, c_s_l15Post)]
theorem l_s_l16Hand_ok : ∀ q ∈ l_s_l16Hand, ConOk Tryz.prog q.1 q.2 := Tryz.cons_cons c_s_MayHand_ok (Tryz.cons_cons c_s_l15Post_ok (Tryz.cons_nil))
def kp_s_l16Hand : KP := []
noncomputable def q_s_l16Hand (n : Nat) (x : AP.denL [.mu uICluster, .ro tILetter]) := evX (false, false, [3, 5, 6]) l_s_l16Hand kp_s_l16Hand [none] Tryz.f221 (shO (shV tBool) [.mu uICluster]) n (AP.encL [.mu uICluster, .ro tILetter] x)
noncomputable def c_s_l16Hand : Con := apS [.mu uICluster, .ro tILetter] true (shO (shV tBool) [.mu uICluster]) (q_s_l16Hand big)
theorem c_s_l16Hand_ok : ConOk Tryz.prog 221 c_s_l16Hand := apS_ok ⟨Tryz.f221, by kernel_rfl, rfl, by decide⟩ fun _ _ h => evX_ok l_s_l16Hand_ok (f := Tryz.f221) (by kernel_rfl) rfl (by kernel_rfl) (by kernel_rfl) big h
noncomputable def Q_s_l16Hand (n : Nat) (a0 : DICluster) (a1 : DILetter) : Option (Bool × DICluster × Unit) := q_s_l16Hand n (a0, a1, ())
theorem Q_s_l16Hand_eq (n : Nat) (a0 : DICluster) (a1 : DILetter) : Q_s_l16Hand n a0 a1 =
  (Q_s_MayHand big a0 a1).bind fun y =>
 bif !y then some (false, a0, ()) else (Q_s_l15Post big a0 [a1]).bind fun y => some y := by kernel_rfl
end Go.Sx.Tryz
set_option maxRecDepth 100000
namespace Go.Sx.Tryz
open Go Go.Sx Go.Proofs
noncomputable def l_s_l19Phase : List (Nat × Con) := []
theorem l_s_l19Phase_ok : ∀ q ∈ l_s_l19Phase, ConOk Tryz.prog q.1 q.2 := Tryz.cons_nil
def kp_s_l19Phase : KP := []
noncomputable def q_s_l19Phase (n : Nat) (x : Args [tICluster, tInt]) := evX (false, false, [2, 5]) l_s_l19Phase kp_s_l19Phase [none] Tryz.f223 (shV tInt) n (encA [tICluster, tInt] x)
noncomputable def c_s_l19Phase : Con := roS [tICluster, tInt] true (shV tInt) (q_s_l19Phase big)
theorem c_s_l19Phase_ok : ConOk Tryz.prog 223 c_s_l19Phase := roS_ok ⟨Tryz.f223, by kernel_rfl, rfl, by decide⟩ fun _ _ h => evX_ok l_s_l19Phase_ok (f := Tryz.f223) (by kernel_rfl) rfl (by kernel_rfl) (by kernel_rfl) big h
noncomputable def Q_s_l19Phase (n : Nat) (a0 : DICluster) (a1 : Int) : Option Int := q_s_l19Phase n (a0, a1, ())
theorem Q_s_l19Phase_eq (n : Nat) (a0 : DICluster) (a1 : Int) : Q_s_l19Phase n a0 a1 =
  bif a0.2.1 then some (4 : Int) else some (IntKind.i64.wrap ((1 : Int) + a1.tmod (3 : Int))) := by kernel_rfl
end Go.Sx.Tryz
set_option maxRecDepth 100000
namespace Go.Sx.Tryz
open Go Go.Sx Go.Proofs
noncomputable def l_s_FarthestView : List (Nat × Con) := []
theorem l_s_FarthestView_ok : ∀ q ∈ l_s_FarthestView, ConOk Tryz.prog q.1 q.2 := Tryz.cons_nil
abbrev k_s_FarthestView_3 : List Keep × List BK := ([.ro tSlIPeer, .drop, .drop, .ro tInt64, .ro tInt64, .drop, .drop, .drop, .drop, .drop, .drop, .drop, .drop, .drop, .drop, .drop, .drop, .drop, .drop, .drop, .drop, .drop, .drop, .drop], [])
def kp_s_FarthestView : KP := [(3, k_s_FarthestView_3)]
noncomputable def q_s_FarthestView (n : Nat) (x : Args [tSlIPeer]) := evX (false, false, []) l_s_FarthestView kp_s_FarthestView [none] Tryz.f23 (shV tInt) n (encA [tSlIPeer] x)
noncomputable def c_s_FarthestView : Con := roS [tSlIPeer] true (shV tInt) (q_s_FarthestView big)
theorem c_s_FarthestView_ok : ConOk Tryz.prog 23 c_s_FarthestView := roS_ok ⟨Tryz.f23, by kernel_rfl, rfl, by decide⟩ fun _ _ h => evX_ok l_s_FarthestView_ok (f := Tryz.f23) (by kernel_rfl) rfl (by kernel_rfl) (by kernel_rfl) big h
noncomputable def Q_s_FarthestView (n : Nat) (a0 : DSlIPeer) : Option Int := q_s_FarthestView n (a0, ())
noncomputable def r_s_FarthestView_3 (n : Nat) (x : KD k_s_FarthestView_3.1) (y : BD k_s_FarthestView_3.2) := rounds (env (false, false, []) l_s_FarthestView) kp_s_FarthestView (body Tryz.f23) (finX (false, false, []) l_s_FarthestView [none] Tryz.f23 (shV tInt) [.val tSlIPeer (zeroD tSlIPeer)]) n 3 k_s_FarthestView_3 x y
noncomputable def R_s_FarthestView_3 (n : Nat) (s0 : DSlIPeer) (s3 : Int) (s4 : Int) : Option Int := r_s_FarthestView_3 n (s0, s3, s4, ()) ()
theorem Q_s_FarthestView_eq (n : Nat) (a0 : DSlIPeer) : Q_s_FarthestView n a0 =
  R_s_FarthestView_3 n a0 (0 : Int) (0 : Int) := by kernel_rfl
theorem R_s_FarthestView_3_eq (n : Nat) (s0 : DSlIPeer) (s3 : Int) (s4 : Int) : R_s_FarthestView_3 (n + 1) s0 s3 s4 =
  bif decide (s4 < (↑(List.length s0) : Int)) then
 if (0 : Int) ≤ s4 then
 (nth s0 s4.toNat).bind fun y =>
 bif decide (s3 < y.2.1) then
 if (0 : Int) ≤ s4 then
 (nth s0 s4.toNat).bind fun y => R_s_FarthestView_3 n s0 y.2.1 (IntKind.i64.wrap (s4 + (1 : Int)))
 else none
 else R_s_FarthestView_3 n s0 s3 (IntKind.i64.wrap (s4 + (1 : Int)))
 else none
 else some s3 := by kernel_rfl
end Go.Sx.Tryz
set_option maxRecDepth 100000
namespace Go.Sx.Tryz
open Go Go.Sx Go.Proofs
noncomputable def l_s_l19Block : List (Nat × Con) := [(23, c_s_FarthestView), (224, c_s_LieQc), (114, c_s_Lies), (125, c_s_QcRight), (126, c_s_Proven), (197, c_s_PutBlock), (221, c_s_l16Hand)]
theorem l_s_l19Block_ok : ∀ q ∈ l_s_l19Block, ConOk Tryz.prog q.1 q.2 := Tryz.cons_cons c_s_FarthestView_ok (Tryz.cons_cons c_s_LieQc_ok (Tryz.cons_cons c_s_Lies_ok (Tryz.cons_cons c_s_QcRight_ok (Tryz.cons_cons c_s_Proven_ok (Tryz.cons_cons c_s_PutBlock_ok (Tryz.cons_cons c_s_l16Hand_ok (Tryz.cons_nil)))))))
def kp_s_l19Block : KP := []
noncomputable def q_s_l19Block (n : Nat) (x : AP.denL [.mu uICluster, .ro tIEvent]) := evX (false, false, [3, 8, 10, 14, 16, 17, 18, 22, 23, 24, 28, 32, 33, 34, 41, 42, 43, 46, 47, 62, 67, 68, 70, 75, 76, 77, 79, 80, 81, 83, 89, 90, 91, 93, 95, 96, 97, 103, 104, 105, 113, 114, 115, 117, 119, 122, 124, 132, 134]) l_s_l19Block kp_s_l19Block [none] Tryz.f225 (shO (shV tBool) [.mu uICluster]) n (AP.encL [.mu uICluster, .ro tIEvent] x)
noncomputable def c_s_l19Block : Con := apS [.mu uICluster, .ro tIEvent] true (shO (shV tBool) [.mu uICluster]) (q_s_l19Block big)
theorem c_s_l19Block_ok : ConOk Tryz.prog 225 c_s_l19Block := apS_ok ⟨Tryz.f225, by kernel_rfl, rfl, by decide⟩ fun _ _ h => evX_ok l_s_l19Block_ok (f := Tryz.f225) (by kernel_rfl) rfl (by kernel_rfl) (by kernel_rfl) big h
noncomputable def Q_s_l19Block (n : Nat) (a0 : DICluster) (a1 : DIEvent) : Option (Bool × DICluster × Unit) := q_s_l19Block n (a0, a1, ())
theorem Q_s_l19Block_eq (n : Nat) (a0 : DICluster) (a1 : DIEvent) : Q_s_l19Block n a0 a1 = if (↑(List.length a0.2.2.2.1) : Int) = (0 : Int) then none else (Q_s_FarthestView big a0.2.2.2.2.1).bind fun y => bif decide (Int.tmod a1.2.2.2.1 (2 : Int) = (1 : Int)) then if (0 : Int) ≤ Int.tmod a1.2.2.2.1 (↑(List.length a0.2.2.2.1) : Int) then if Int.tmod a1.2.2.2.1 (↑(List.length a0.2.2.2.1) : Int) < (↑(List.length a0.2.2.2.1) : Int) then (nth a0.2.2.2.1 (Int.tmod a1.2.2.2.1 (↑(List.length a0.2.2.2.1) : Int)).toNat).bind fun y => bif a0.2.1 then (Q_s_LieQc big a0 (4 : Int) (Int.tmod a1.2.2.2.1 (↑(List.length a0.2.2.2.1) : Int))).bind fun y_1 => (fun zC0 => bif !y_1.2.1 then bif !decide (Int.tmod a1.2.2.2.1 (↑(List.length a0.2.2.2.1) : Int) = (0 : Int)) then some (false, a0, ()) else zC0 else zC0) ((Q_s_Lies big a0 a1.2.1).bind fun y_2 => bif !y_2 then some (false, a0, ()) else (Q_s_QcRight big a0.2.2.2.1 a0.1 y_1.1).bind fun y_3 => bif !y_3 then some (false, a0, ()) else (Q_s_Proven big a0.2.2.2.2.2.2.1 y_1.1 a0.2.2.1).bind fun y_4 => bif !y_4 then some (false, a0, ()) else (Q_s_PutBlock big a0.2.2.2.1 (Int.tmod a1.2.2.2.1 (↑(List.length a0.2.2.2.1) : Int), IntKind.i64.wrap (y.2.1 + (1 : Int)), [a1.2.2.2.2.1], y_1.1, ())).bind fun y_5 => bif decide (y_5.2.1 < (0 : Int)) then some (false, a0, ()) else (Q_s_l16Hand big (a0.1, a0.2.1, a0.2.2.1, y_5.1, a0.2.2.2.2) ((1 : Int), a1.2.1, a1.2.2.1, IntKind.i64.wrap (y.2.1 + (1 : Int)), y_5.2.1, y_1.1, ((0 : Int), (0 : Int), (0 : Int), (0 : Int), ()), ())).bind fun y => bif !y.1 then some (false, (y.2.1.1, y.2.1.2.1, y.2.1.2.2.1, a0.2.2.2.1, y.2.1.2.2.2.2), ()) else some (true, y.2)) else (Q_s_LieQc big a0 (1 : Int) (Int.tmod a1.2.2.2.1 (↑(List.length a0.2.2.2.1) : Int))).bind fun y_1 => (fun zC1 => bif !y_1.2.1 then bif !decide (Int.tmod a1.2.2.2.1 (↑(List.length a0.2.2.2.1) : Int) = (0 : Int)) then some (false, a0, ()) else zC1 else zC1) ((Q_s_Lies big a0 a1.2.1).bind fun y_2 => bif !y_2 then some (false, a0, ()) else (Q_s_QcRight big a0.2.2.2.1 a0.1 y_1.1).bind fun y_3 => bif !y_3 then some (false, a0, ()) else (Q_s_Proven big a0.2.2.2.2.2.2.1 y_1.1 a0.2.2.1).bind fun y_4 => bif !y_4 then some (false, a0, ()) else (Q_s_PutBlock big a0.2.2.2.1 (Int.tmod a1.2.2.2.1 (↑(List.length a0.2.2.2.1) : Int), IntKind.i64.wrap (y.2.1 + (1 : Int)), [a1.2.2.2.2.1], y_1.1, ())).bind fun y_5 => bif decide (y_5.2.1 < (0 : Int)) then some (false, a0, ()) else (Q_s_l16Hand big (a0.1, a0.2.1, a0.2.2.1, y_5.1, a0.2.2.2.2) ((1 : Int), a1.2.1, a1.2.2.1, IntKind.i64.wrap (y.2.1 + (1 : Int)), y_5.2.1, y_1.1, ((0 : Int), (0 : Int), (0 : Int), (0 : Int), ()), ())).bind fun y => bif !y.1 then some (false, (y.2.1.1, y.2.1.2.1, y.2.1.2.2.1, a0.2.2.2.1, y.2.1.2.2.2.2), ()) else some (true, y.2)) else none else none else bif a0.2.1 then (Q_s_LieQc big a0 (4 : Int) (Int.tmod a1.2.2.2.1 (↑(List.length a0.2.2.2.1) : Int))).bind fun y_1 => (fun zC2 => bif !y_1.2.1 then bif !decide (Int.tmod a1.2.2.2.1 (↑(List.length a0.2.2.2.1) : Int) = (0 : Int)) then some (false, a0, ()) else zC2 else zC2) ((Q_s_Lies big a0 a1.2.1).bind fun y_2 => bif !y_2 then some (false, a0, ()) else (Q_s_QcRight big a0.2.2.2.1 a0.1 y_1.1).bind fun y_3 => bif !y_3 then some (false, a0, ()) else (Q_s_Proven big a0.2.2.2.2.2.2.1 y_1.1 a0.2.2.1).bind fun y_4 => bif !y_4 then some (false, a0, ()) else (Q_s_PutBlock big a0.2.2.2.1 (Int.tmod a1.2.2.2.1 (↑(List.length a0.2.2.2.1) : Int), IntKind.i64.wrap (y + (1 : Int)), [a1.2.2.2.2.1], y_1.1, ())).bind fun y_5 => bif decide (y_5.2.1 < (0 : Int)) then some (false, a0, ()) else (Q_s_l16Hand big (a0.1, a0.2.1, a0.2.2.1, y_5.1, a0.2.2.2.2) ((1 : Int), a1.2.1, a1.2.2.1, IntKind.i64.wrap (y + (1 : Int)), y_5.2.1, y_1.1, ((0 : Int), (0 : Int), (0 : Int), (0 : Int), ()), ())).bind fun y => bif !y.1 then some (false, (y.2.1.1, y.2.1.2.1, y.2.1.2.2.1, a0.2.2.2.1, y.2.1.2.2.2.2), ()) else some (true, y.2)) else (Q_s_LieQc big a0 (1 : Int) (Int.tmod a1.2.2.2.1 (↑(List.length a0.2.2.2.1) : Int))).bind fun y_1 => (fun zC3 => bif !y_1.2.1 then bif !decide (Int.tmod a1.2.2.2.1 (↑(List.length a0.2.2.2.1) : Int) = (0 : Int)) then some (false, a0, ()) else zC3 else zC3) ((Q_s_Lies big a0 a1.2.1).bind fun y_2 => bif !y_2 then some (false, a0, ()) else (Q_s_QcRight big a0.2.2.2.1 a0.1 y_1.1).bind fun y_3 => bif !y_3 then some (false, a0, ()) else (Q_s_Proven big a0.2.2.2.2.2.2.1 y_1.1 a0.2.2.1).bind fun y_4 => bif !y_4 then some (false, a0, ()) else (Q_s_PutBlock big a0.2.2.2.1 (Int.tmod a1.2.2.2.1 (↑(List.length a0.2.2.2.1) : Int), IntKind.i64.wrap (y + (1 : Int)), [a1.2.2.2.2.1], y_1.1, ())).bind fun y_5 => bif decide (y_5.2.1 < (0 : Int)) then some (false, a0, ()) else (Q_s_l16Hand big (a0.1, a0.2.1, a0.2.2.1, y_5.1, a0.2.2.2.2) ((1 : Int), a1.2.1, a1.2.2.1, IntKind.i64.wrap (y + (1 : Int)), y_5.2.1, y_1.1, ((0 : Int), (0 : Int), (0 : Int), (0 : Int), ()), ())).bind fun y => bif !y.1 then some (false, (y.2.1.1, y.2.1.2.1, y.2.1.2.2.1, a0.2.2.2.1, y.2.1.2.2.2.2), ()) else some (true, y.2)) := by kernel_rfl
end Go.Sx.Tryz
set_option maxRecDepth 100000
namespace Go.Sx.Tryz
open Go Go.Sx Go.Proofs
noncomputable def l_s_l19Lie : List (Nat × Con) := [(114, c_s_Lies), (223, c_s_l19Phase), (222, c_s_LieVote), (221, c_s_l16Hand), (224, c_s_LieQc), (225, c_s_l19Block)]
theorem l_s_l19Lie_ok : ∀ q ∈ l_s_l19Lie, ConOk Tryz.prog q.1 q.2 := Tryz.cons_cons c_s_Lies_ok (Tryz.cons_cons c_s_l19Phase_ok (Tryz.cons_cons c_s_LieVote_ok (Tryz.cons_cons c_s_l16Hand_ok (Tryz.cons_cons c_s_LieQc_ok (Tryz.cons_cons c_s_l19Block_ok (Tryz.cons_nil))))))
def kp_s_l19Lie : KP := []
noncomputable def q_s_l19Lie (n : Nat) (x : AP.denL [.mu uICluster, .ro tIEvent]) := evX (false, false, [3, 6, 8, 9, 10, 15, 16, 18, 23, 25, 26, 27, 31, 36, 37, 39, 41, 43, 44, 46, 55, 56, 58, 59, 61, 71, 73, 75, 86, 88, 90, 999999]) l_s_l19Lie kp_s_l19Lie [none] Tryz.f186 (shO (shV tBool) [.mu uICluster]) n (AP.encL [.mu uICluster, .ro tIEvent] x)
noncomputable def c_s_l19Lie : Con := apS [.mu uICluster, .ro tIEvent] true (shO (shV tBool) [.mu uICluster]) (q_s_l19Lie big)
theorem c_s_l19Lie_ok : ConOk Tryz.prog 186 c_s_l19Lie := apS_ok ⟨Tryz.f186, by kernel_rfl, rfl, by decide⟩ fun _ _ h => evX_ok l_s_l19Lie_ok (f := Tryz.f186) (by kernel_rfl) rfl (by kernel_rfl) (by kernel_rfl) big h
noncomputable def Q_s_l19Lie (n : Nat) (a0 : DICluster) (a1 : DIEvent) : Option (Bool × DICluster × Unit) := q_s_l19Lie n (a0, a1, ())
theorem Q_s_l19Lie_eq (n : Nat) (a0 : DICluster) (a1 : DIEvent) : Q_s_l19Lie n a0 a1 =
  bif decide ((↑(List.length a0.2.2.2.1) : Int) = (0 : Int)) then some (false, a0, ())
 else
 (Q_s_Lies big a0 a1.2.1).bind fun y =>
 bif !y then some (false, a0, ())
 else
 if (↑(List.length a0.2.2.2.1) : Int) = (0 : Int) then none
 else
 bif decide (a1.1 = (8 : Int)) then
 (Q_s_l19Phase big a0 a1.2.2.2.1).bind fun y =>
 (Q_s_LieVote big a0 a1.2.1 a1.2.2.1 y
 (Int.tmod a1.2.2.2.1 (↑(List.length a0.2.2.2.1) : Int))).bind
 fun y => (Q_s_l16Hand big a0 y).bind fun y => some y
 else
 bif decide (a1.1 = (9 : Int)) then
 (Q_s_l19Phase big a0 a1.2.2.2.1).bind fun y =>
 (Q_s_LieQc big a0 y (Int.tmod a1.2.2.2.1 (↑(List.length a0.2.2.2.1) : Int))).bind
 fun y =>
 bif !y.2.1 then some (false, a0, ())
 else
 (Q_s_l16Hand big a0
 ((3 : Int), a1.2.1, a1.2.2.1, y.1.2.1, (0 : Int), y.1,
 ((0 : Int), (0 : Int), (0 : Int), (0 : Int), ()), ())).bind
 fun y => some y
 else
 bif decide (a1.1 = (10 : Int)) then (Q_s_l19Block big a0 a1).bind fun y => some y
 else
 (Q_s_l16Hand big a0
 ((4 : Int), a1.2.1, a1.2.2.1,
 IntKind.i64.wrap (Int.tmod a1.2.2.2.1 (900 : Int) + (1 : Int)), (0 : Int),
 ((0 : Int), (0 : Int), (0 : Int), (0 : Int), ()),
 ((0 : Int), (0 : Int), (0 : Int), (0 : Int), ()), ())).bind
 fun y => some y := by kernel_rfl
end Go.Sx.Tryz
set_option maxRecDepth 100000
namespace Go.Sx.Tryz
open Go Go.Sx Go.Proofs
noncomputable def l_s_l19Event : List (Nat × Con) := [(59, c_s_l01Below), (114, c_s_Lies), (187, c_s_l03Cmd), (106, c_s_l15Honest), (188, c_s_Ready), (63, c_s_l01Once), (62, c_s_l01PickInt)]
theorem l_s_l19Event_ok : ∀ q ∈ l_s_l19Event, ConOk Tryz.prog q.1 q.2 := Tryz.cons_cons c_s_l01Below_ok (Tryz.cons_cons c_s_Lies_ok (Tryz.cons_cons c_s_l03Cmd_ok (Tryz.cons_cons c_s_l15Honest_ok (Tryz.cons_cons c_s_Ready_ok (Tryz.cons_cons c_s_l01Once_ok (Tryz.cons_cons c_s_l01PickInt_ok (Tryz.cons_nil)))))))
abbrev k_s_l19Event_4 : List Keep × List BK := ([.is (.ptr 0 0), .drop, .drop, .is (.ptr 6 0), .is (.ptr 7 0), .ro tInt64, .ro tInt64, .ro tInt64, .drop, .drop, .drop, .drop, .drop, .drop, .drop, .drop, .drop, .drop, .drop, .drop, .drop, .drop, .drop, .drop, .drop, .drop, .drop, .drop, .drop, .drop, .drop, .drop, .drop, .drop, .drop, .drop, .drop, .drop, .drop, .drop, .drop, .drop, .drop, .drop, .drop, .drop, .drop, .drop, .drop, .drop, .drop, .drop, .drop, .drop, .drop, .drop, .drop, .drop, .drop, .drop, .drop, .drop, .drop, .drop, .drop, .drop, .drop, .drop, .drop, .drop, .drop, .drop, .drop, .drop, .drop, .drop, .drop, .drop, .drop, .drop, .drop, .drop, .drop, .drop, .drop, .drop, .drop, .drop, .drop, .drop, .drop, .drop, .drop, .drop, .drop, .drop, .drop, .drop, .drop, .drop, .drop, .drop, .drop, .drop, .drop, .drop, .drop, .drop, .drop, .drop, .drop, .drop, .drop, .drop, .drop, .drop], [.vars [.ro tSlUint8, .ro tInt64, .ro tInt64], .arr uIBlock, .arr uIPeer, .arr tILetter, .arr tIVote, .arr tICmd, .vars [.ro tInt64, .ro tBool, .ro tInt64, .is (.own 1 0), .is (.own 2 0), .is (.own 3 0), .is (.own 4 0), .is (.own 5 0)], .vars [.ro tInt64, .ro tInt64, .ro tInt64, .ro tInt64, .ro tInt64, .ro tString, .ro tInt64]])
abbrev k_s_l19Event_12 : List Keep × List BK := ([.drop, .drop, .drop, .is (.ptr 6 0), .is (.ptr 7 0), .drop, .drop, .drop, .ro tInt64, .drop, .drop, .drop, .drop, .drop, .drop, .drop, .drop, .drop, .drop, .drop, .drop, .drop, .drop, .drop, .drop, .drop, .drop, .drop, .drop, .drop, .drop, .drop, .drop, .drop, .drop, .drop, .drop, .drop, .drop, .drop, .drop, .drop, .drop, .drop, .drop, .drop, .drop, .drop, .drop, .drop, .drop, .drop, .drop, .drop, .drop, .drop, .drop, .drop, .drop, .drop, .drop, .drop, .drop, .drop, .drop, .drop, .drop, .drop, .drop, .drop, .drop, .drop, .drop, .drop, .drop, .drop, .drop, .drop, .drop, .drop, .drop, .drop, .drop, .drop, .drop, .drop, .drop, .drop, .drop, .drop, .drop, .drop, .drop, .drop, .drop, .drop, .drop, .drop, .drop, .drop, .drop, .drop, .drop, .drop, .drop, .drop, .drop, .drop, .drop, .drop, .drop, .drop, .drop, .drop, .drop, .drop], [.vars [.ro tSlUint8, .ro tInt64, .ro tInt64], .arr uIBlock, .arr uIPeer, .arr tILetter, .arr tIVote, .arr tICmd, .vars [.ro tInt64, .ro tBool, .ro tInt64, .is (.own 1 0), .is (.own 2 0), .is (.own 3 0), .is (.own 4 0), .is (.own 5 0)], .vars [.ro tInt64, .ro tInt64, .ro tInt64, .ro tInt64, .ro tInt64, .ro tString, .ro tInt64]])
def kp_s_l19Event : KP := [(4, k_s_l19Event_4), (12, k_s_l19Event_12)]
noncomputable def q_s_l19Event (n : Nat) (x : AP.denL [.mr tSl01Cur, .mo uICluster]) := evX (false, true, [3, 15, 34, 44, 49, 51, 61, 70]) l_s_l19Event kp_s_l19Event [none] Tryz.f135 (shO (shV tIEvent) [.mr tSl01Cur, .mo uICluster]) n (AP.encL [.mr tSl01Cur, .mo uICluster] x)
noncomputable def c_s_l19Event : Con := apS [.mr tSl01Cur, .mo uICluster] false (shO (shV tIEvent) [.mr tSl01Cur, .mo uICluster]) (q_s_l19Event big)
theorem c_s_l19Event_ok : ConOk Tryz.prog 135 c_s_l19Event := apS_ok ⟨Tryz.f135, by kernel_rfl, rfl, by decide⟩ fun _ _ h => evX_ok l_s_l19Event_ok (f := Tryz.f135) (by kernel_rfl) rfl (by kernel_rfl) (by kernel_rfl) big h
noncomputable def Q_s_l19Event (n : Nat) (a0 : DSl01Cur) (a1 : DICluster) : Option (DIEvent × DSl01Cur × (Unit × Unit × Unit × (List DIBlock) × (List DIPeer) × (List DILetter) × (List DIVote) × (List DICmd) × Unit) × Unit) := q_s_l19Event n (a0, a1, ())
noncomputable def r_s_l19Event_4 (n : Nat) (x : KD k_s_l19Event_4.1) (y : BD k_s_l19Event_4.2) := rounds (env (false, true, [3, 15, 34, 44, 49, 51, 61, 70]) l_s_l19Event) kp_s_l19Event (body Tryz.f135) (finX (false, true, [3, 15, 34, 44, 49, 51, 61, 70]) l_s_l19Event [none] Tryz.f135 (shO (shV tIEvent) [.mr tSl01Cur, .mo uICluster]) [AP.enc (.mr tSl01Cur) (zeroD tSl01Cur), AP.enc (.mo uICluster) (zeroD uICluster)]) n 4 k_s_l19Event_4 x y
noncomputable def R_s_l19Event_4 (n : Nat) (s5 : Int) (s6 : Int) (s7 : Int) (b0_0 : DSlUint8) (b0_1 : Int) (b0_2 : Int) (b1 : (List DIBlock)) (b2 : (List DIPeer)) (b3 : (List DILetter)) (b4 : (List DIVote)) (b5 : (List DICmd)) (b6_0 : Int) (b6_1 : Bool) (b6_2 : Int) (b7_0 : Int) (b7_1 : Int) (b7_2 : Int) (b7_3 : Int) (b7_4 : Int) (b7_5 : ByteArray) (b7_6 : Int) : Option (DIEvent × DSl01Cur × (Unit × Unit × Unit × (List DIBlock) × (List DIPeer) × (List DILetter) × (List DIVote) × (List DICmd) × Unit) × Unit) := r_s_l19Event_4 n (s5, s6, s7, ()) ((b0_0, b0_1, b0_2, ()), b1, b2, b3, b4, b5, (b6_0, b6_1, b6_2, ()), (b7_0, b7_1, b7_2, b7_3, b7_4, b7_5, b7_6, ()), ())
noncomputable def r_s_l19Event_12 (n : Nat) (x : KD k_s_l19Event_12.1) (y : BD k_s_l19Event_12.2) := rounds (env (false, true, [3, 15, 34, 44, 49, 51, 61, 70]) l_s_l19Event) kp_s_l19Event (body Tryz.f135) (finX (false, true, [3, 15, 34, 44, 49, 51, 61, 70]) l_s_l19Event [none] Tryz.f135 (shO (shV tIEvent) [.mr tSl01Cur, .mo uICluster]) [AP.enc (.mr tSl01Cur) (zeroD tSl01Cur), AP.enc (.mo uICluster) (zeroD uICluster)]) n 12 k_s_l19Event_12 x y
noncomputable def R_s_l19Event_12 (n : Nat) (s8 : Int) (b0_0 : DSlUint8) (b0_1 : Int) (b0_2 : Int) (b1 : (List DIBlock)) (b2 : (List DIPeer)) (b3 : (List DILetter)) (b4 : (List DIVote)) (b5 : (List DICmd)) (b6_0 : Int) (b6_1 : Bool) (b6_2 : Int) (b7_0 : Int) (b7_1 : Int) (b7_2 : Int) (b7_3 : Int) (b7_4 : Int) (b7_5 : ByteArray) (b7_6 : Int) : Option (DIEvent × DSl01Cur × (Unit × Unit × Unit × (List DIBlock) × (List DIPeer) × (List DILetter) × (List DIVote) × (List DICmd) × Unit) × Unit) := r_s_l19Event_12 n (s8, ()) ((b0_0, b0_1, b0_2, ()), b1, b2, b3, b4, b5, (b6_0, b6_1, b6_2, ()), (b7_0, b7_1, b7_2, b7_3, b7_4, b7_5, b7_6, ()), ())
theorem Q_s_l19Event_eq (n : Nat) (a0 : DSl01Cur) (a1 : DICluster) : Q_s_l19Event n a0 a1 = (Q_s_l01Below big a0 (20 : Int)).bind fun y => R_s_l19Event_4 n y.1 (0 : Int) (0 : Int) y.2.1.1 y.2.1.2.1 y.2.1.2.2.1 a1.2.2.2.1 a1.2.2.2.2.1 a1.2.2.2.2.2.1 a1.2.2.2.2.2.2.1 a1.2.2.2.2.2.2.2.1 a1.1 a1.2.1 a1.2.2.1 (0 : Int) (0 : Int) (0 : Int) (0 : Int) (0 : Int) ByteArray.empty (0 : Int) := by kernel_rfl
theorem R_s_l19Event_4_eq (n : Nat) (s5 : Int) (s6 : Int) (s7 : Int) (b0_0 : DSlUint8) (b0_1 : Int) (b0_2 : Int) (b1 : (List DIBlock)) (b2 : (List DIPeer)) (b3 : (List DILetter)) (b4 : (List DIVote)) (b5 : (List DICmd)) (b6_0 : Int) (b6_1 : Bool) (b6_2 : Int) (b7_0 : Int) (b7_1 : Int) (b7_2 : Int) (b7_3 : Int) (b7_4 : Int) (b7_5 : ByteArray) (b7_6 : Int) : R_s_l19Event_4 (n + 1) s5 s6 s7 b0_0 b0_1 b0_2 b1 b2 b3 b4 b5 b6_0 b6_1 b6_2 b7_0 b7_1 b7_2 b7_3 b7_4 b7_5 b7_6 = (fun zC0 => bif decide (s7 < b6_0) then (Q_s_Lies big (b6_0, b6_1, b6_2, b1, b2, b3, b4, b5, ()) s7).bind fun y => bif y then R_s_l19Event_4 n s5 s7 (IntKind.i64.wrap (s7 + (1 : Int))) b0_0 b0_1 b0_2 b1 b2 b3 b4 b5 b6_0 b6_1 b6_2 b7_0 b7_1 b7_2 b7_3 b7_4 b7_5 b7_6 else R_s_l19Event_4 n s5 s6 (IntKind.i64.wrap (s7 + (1 : Int))) b0_0 b0_1 b0_2 b1 b2 b3 b4 b5 b6_0 b6_1 b6_2 b7_0 b7_1 b7_2 b7_3 b7_4 b7_5 b7_6 else bif decide (s5 = (0 : Int)) then (Q_s_l03Cmd big (b0_0, b0_1, b0_2, ())).bind fun y => some (((1 : Int), (0 : Int), (0 : Int), (0 : Int), y.1, ()), y.2.1, zC0, ()) else bif decide (s5 < (4 : Int)) then R_s_l19Event_12 n (0 : Int) b0_0 b0_1 b0_2 b1 b2 b3 b4 b5 b6_0 b6_1 b6_2 b7_0 b7_1 b7_2 b7_3 b7_4 b7_5 b7_6 else bif decide (s5 < (14 : Int)) then bif decide ((0 : Int) < (↑b3.length : Int)) then (Q_s_l01Once big (b0_0, b0_1, b0_2, ()) (3 : Int)).bind fun y => bif y.1 then (Q_s_l01Below big y.2.1 (↑b3.length : Int)).bind fun y => some (((3 : Int), y.1, (0 : Int), (0 : Int), ((0 : Int), ByteArray.empty, (0 : Int), ()), ()), y.2.1, zC0, ()) else some (((3 : Int), (0 : Int), (0 : Int), (0 : Int), ((0 : Int), ByteArray.empty, (0 : Int), ()), ()), y.2.1, zC0, ()) else some (((3 : Int), (0 : Int), (0 : Int), (0 : Int), ((0 : Int), ByteArray.empty, (0 : Int), ()), ()), (b0_0, b0_1, b0_2, ()), zC0, ()) else bif decide (s5 = (14 : Int)) then (Q_s_l01PickInt big (b0_0, b0_1, b0_2, ()) [(4 : Int), (5 : Int)]).bind fun y => (Q_s_l01Below big y.2.1 (4 : Int)).bind fun y_1 => some ((y.1, y_1.1, (0 : Int), (0 : Int), ((0 : Int), ByteArray.empty, (0 : Int), ()), ()), y_1.2.1, zC0, ()) else bif decide (s5 = (15 : Int)) then (Q_s_l01Below big (b0_0, b0_1, b0_2, ()) (4 : Int)).bind fun y => some (((6 : Int), y.1, (0 : Int), (0 : Int), ((0 : Int), ByteArray.empty, (0 : Int), ()), ()), y.2.1, zC0, ()) else bif decide (s5 = (16 : Int)) then (Q_s_l01Below big (b0_0, b0_1, b0_2, ()) (4 : Int)).bind fun y => some (((7 : Int), y.1, (0 : Int), (0 : Int), ((0 : Int), ByteArray.empty, (0 : Int), ()), ()), y.2.1, zC0, ()) else (Q_s_l01Below big (b0_0, b0_1, b0_2, ()) (30 : Int)).bind fun y => (Q_s_l01Below big y.2.1 (4 : Int)).bind fun y_1 => bif decide (s5 = (17 : Int)) then (Q_s_l03Cmd big y_1.2.1).bind fun y_2 => some (((10 : Int), s6, y_1.1, y.1, y_2.1, ()), y_2.2.1, zC0, ()) else (Q_s_l01PickInt big y_1.2.1 [(8 : Int), (9 : Int), (11 : Int), (8 : Int)]).bind fun y_2 => some ((y_2.1, s6, y_1.1, y.1, ((0 : Int), ByteArray.empty, (0 : Int), ()), ()), y_2.2.1, zC0, ())) ((), (), (), b1, b2, b3, b4, b5, ()) := by kernel_rfl
theorem R_s_l19Event_12_eq (n : Nat) (s8 : Int) (b0_0 : DSlUint8) (b0_1 : Int) (b0_2 : Int) (b1 : (List DIBlock)) (b2 : (List DIPeer)) (b3 : (List DILetter)) (b4 : (List DIVote)) (b5 : (List DICmd)) (b6_0 : Int) (b6_1 : Bool) (b6_2 : Int) (b7_0 : Int) (b7_1 : Int) (b7_2 : Int) (b7_3 : Int) (b7_4 : Int) (b7_5 : ByteArray) (b7_6 : Int) : R_s_l19Event_12 (n + 1) s8 b0_0 b0_1 b0_2 b1 b2 b3 b4 b5 b6_0 b6_1 b6_2 b7_0 b7_1 b7_2 b7_3 b7_4 b7_5 b7_6 = bif decide (s8 < (↑b2.length : Int)) then (Q_s_l15Honest big (b6_0, b6_1, b6_2, b1, b2, b3, b4, b5, ()) s8).bind fun y => bif y then if (0 : Int) ≤ s8 then if s8 < (↑b2.length : Int) then (nth b2 s8.toNat).bind fun y => (Q_s_Ready big y b6_0 b6_1).bind fun y_1 => (updO b2 s8.toNat y).bind fun y => bif y_1 then some (((2 : Int), s8, (0 : Int), (0 : Int), ((0 : Int), ByteArray.empty, (0 : Int), ()), ()), (b0_0, b0_1, b0_2, ()), ((), (), (), b1, y, b3, b4, b5, ()), ()) else R_s_l19Event_12 n (IntKind.i64.wrap (s8 + (1 : Int))) b0_0 b0_1 b0_2 b1 y b3 b4 b5 b6_0 b6_1 b6_2 b7_0 b7_1 b7_2 b7_3 b7_4 b7_5 b7_6 else none else none else R_s_l19Event_12 n (IntKind.i64.wrap (s8 + (1 : Int))) b0_0 b0_1 b0_2 b1 b2 b3 b4 b5 b6_0 b6_1 b6_2 b7_0 b7_1 b7_2 b7_3 b7_4 b7_5 b7_6 else some (((3 : Int), (0 : Int), (0 : Int), (0 : Int), ((0 : Int), ByteArray.empty, (0 : Int), ()), ()), (b0_0, b0_1, b0_2, ()), ((), (), (), b1, b2, b3, b4, b5, ()), ()) := by kernel_rfl
end Go.Sx.Tryz
set_option maxRecDepth 100000
namespace Go.Sx.Tryz
open Go Go.Sx Go.Proofs
noncomputable def l_s_l15Show : List (Nat × Con) := [(106, c_s_l15Honest), (188, c_s_Ready), (213, c_s_Shows), (215, c_s_ShownTo), (214, c_s_l15Post)]
theorem l_s_l15Show_ok : ∀ q ∈ l_s_l15Show, ConOk Tryz.prog q.1 q.2 := Tryz.cons_cons c_s_l15Honest_ok (Tryz.cons_cons c_s_Ready_ok (Tryz.cons_cons c_s_Shows_ok (Tryz.cons_cons c_s_ShownTo_ok (Tryz.cons_cons c_s_l15Post_ok (Tryz.cons_nil)))))
abbrev k_s_l15Show_5000007 : List Keep × List BK := ([.is (.ptr 5 0), .ro tInt64, .drop, .drop, .drop, .ro tInt64, .own uXstruct_Parent_int_View_int_Cmds_impl_Cmd, .is (.ptr 26 0), .ro tInt64, .drop, .drop, .drop, .drop, .drop, .drop, .drop, .drop, .drop, .drop, .drop, .drop, .drop, .drop, .drop, .drop, .drop, .drop, .drop, .drop, .drop, .drop, .drop, .drop, .drop, .drop, .drop, .drop, .drop, .drop, .drop, .drop, .drop, .drop, .drop, .drop, .drop, .drop, .drop, .drop, .drop, .drop, .drop, .drop, .drop, .drop, .drop, .drop, .drop, .drop, .drop, .drop, .drop, .drop, .drop, .drop, .drop, .drop, .drop, .drop, .drop, .drop, .drop, .drop, .drop, .drop, .drop, .drop, .drop, .drop, .drop, .drop, .drop, .drop, .drop, .drop, .drop, .drop, .drop, .drop, .drop, .drop, .drop, .drop, .drop, .drop, .drop, .drop, .drop, .drop, .drop, .drop, .drop, .drop, .drop, .drop, .drop, .drop, .drop, .drop, .drop, .drop, .drop], [.drop, .drop, .drop, .drop, .drop, .vars [.ro tInt64, .ro tBool, .ro tInt64, .own uXstruct_Parent_int_View_int_Cmds_impl_Cmd, .own uXstruct_Id_int_View_int_High_impl_Qc_Lock, .own tXstruct_Kind_int_From_int_To_int_View_int, .own tXstruct_Phase_int_View_int_Block_int_Sign, .own tXstruct_Kind_int_Key_string_Num_int_], .drop, .drop, .drop, .drop, .drop, .drop, .drop, .drop, .drop, .drop, .drop, .drop, .drop, .drop, .drop, .drop, .drop, .drop, .drop, .drop, .vars [.ro tInt64, .ro tInt64, .ro tInt64, .ro tInt64, .ro tInt64, .ro tInt64, .ro tInt64, .ro tInt64, .ro tInt64, .ro tInt64, .ro tInt64, .ro tInt64, .ro tInt64, .ro tInt64, .own tInt64, .own tXstruct_Key_string_Num_int_, .own tInt64, .own tXstruct_Key_string_Had_bool_Num_int_, .own tXstruct_Phase_int_View_int_Block_int_Sign, .own tXstruct_Kind_int_From_int_To_int_View_int, .ro tInt64]])
def kp_s_l15Show : KP := [(5000007, k_s_l15Show_5000007)]
noncomputable def q_s_l15Show (n : Nat) (x : AP.denL [.mu uICluster, .ro tInt]) := evX (true, true, [7, 9, 10, 16, 17, 18, 23, 24, 25, 27, 28, 29, 35, 36, 37, 40, 41, 42, 47, 48, 49, 55, 56, 57, 59, 60, 61, 67, 68, 69, 80, 82, 84, 85, 86, 91, 93, 94, 95, 100, 106, 107, 108, 999999, 999995]) l_s_l15Show kp_s_l15Show [none] Tryz.f180 (shO (shV tBool) [.mu uICluster]) n (AP.encL [.mu uICluster, .ro tInt] x)
noncomputable def c_s_l15Show : Con := apS [.mu uICluster, .ro tInt] true (shO (shV tBool) [.mu uICluster]) (q_s_l15Show big)
theorem c_s_l15Show_ok : ConOk Tryz.prog 180 c_s_l15Show := apS_ok ⟨Tryz.f180, by kernel_rfl, rfl, by decide⟩ fun _ _ h => evX_ok l_s_l15Show_ok (f := Tryz.f180) (by kernel_rfl) rfl (by kernel_rfl) (by kernel_rfl) big h
noncomputable def Q_s_l15Show (n : Nat) (a0 : DICluster) (a1 : Int) : Option (Bool × DICluster × Unit) := q_s_l15Show n (a0, a1, ())
noncomputable def r_s_l15Show_5000007 (n : Nat) (x : KD k_s_l15Show_5000007.1) (y : BD k_s_l15Show_5000007.2) := rounds (env (true, true, [7, 9, 10, 16, 17, 18, 23, 24, 25, 27, 28, 29, 35, 36, 37, 40, 41, 42, 47, 48, 49, 55, 56, 57, 59, 60, 61, 67, 68, 69, 80, 82, 84, 85, 86, 91, 93, 94, 95, 100, 106, 107, 108, 999999, 999995]) l_s_l15Show) kp_s_l15Show (body Tryz.f180) (finX (true, true, [7, 9, 10, 16, 17, 18, 23, 24, 25, 27, 28, 29, 35, 36, 37, 40, 41, 42, 47, 48, 49, 55, 56, 57, 59, 60, 61, 67, 68, 69, 80, 82, 84, 85, 86, 91, 93, 94, 95, 100, 106, 107, 108, 999999, 999995]) l_s_l15Show [none] Tryz.f180 (shO (shV tBool) [.mu uICluster]) [AP.enc (.mu uICluster) (zeroD uICluster), AP.enc (.ro tInt) (zeroD tInt)]) n 5000007 k_s_l15Show_5000007 x y
noncomputable def R_s_l15Show_5000007 (n : Nat) (s1 : Int) (s5 : Int) (s6 : (List DXstruct_Parent_int_View_int_Cmds_impl_Cmd)) (s8 : Int) (b5_0 : Int) (b5_1 : Bool) (b5_2 : Int) (b5_3 : (List DXstruct_Parent_int_View_int_Cmds_impl_Cmd)) (b5_4 : (List DXstruct_Id_int_View_int_High_impl_Qc_Lock)) (b5_5 : (List DXstruct_Kind_int_From_int_To_int_View_int)) (b5_6 : (List DXstruct_Phase_int_View_int_Block_int_Sign)) (b5_7 : (List DXstruct_Kind_int_Key_string_Num_int_)) (b26_0 : Int) (b26_1 : Int) (b26_2 : Int) (b26_3 : Int) (b26_4 : Int) (b26_5 : Int) (b26_6 : Int) (b26_7 : Int) (b26_8 : Int) (b26_9 : Int) (b26_10 : Int) (b26_11 : Int) (b26_12 : Int) (b26_13 : Int) (b26_14 : (List Int)) (b26_15 : (List DXstruct_Key_string_Num_int_)) (b26_16 : (List Int)) (b26_17 : (List DXstruct_Key_string_Had_bool_Num_int_)) (b26_18 : (List DXstruct_Phase_int_View_int_Block_int_Sign)) (b26_19 : (List DXstruct_Kind_int_From_int_To_int_View_int)) (b26_20 : Int) : Option (Bool × DICluster × Unit) := r_s_l15Show_5000007 n (s1, s5, s6, s8, ()) ((b5_0, b5_1, b5_2, b5_3, b5_4, b5_5, b5_6, b5_7, ()), (b26_0, b26_1, b26_2, b26_3, b26_4, b26_5, b26_6, b26_7, b26_8, b26_9, b26_10, b26_11, b26_12, b26_13, b26_14, b26_15, b26_16, b26_17, b26_18, b26_19, b26_20, ()), ())
theorem Q_s_l15Show_eq (n : Nat) (a0 : DICluster) (a1 : Int) : Q_s_l15Show n a0 a1 = (Q_s_l15Honest big a0 a1).bind fun y => bif !y then some (false, a0, ()) else if (0 : Int) ≤ a1 then if a1 < (↑(List.length a0.2.2.2.2.1) : Int) then (nth a0.2.2.2.2.1 a1.toNat).bind fun y => (Q_s_Ready big y a0.1 a0.2.1).bind fun y_1 => (updO a0.2.2.2.2.1 a1.toNat y).bind fun y => (fun zC8 => (fun zC2 => (fun zC4 => (fun zC0 => (fun zC3 => (fun zC5 => (fun zC1 => (fun zC6 => (fun zC7 => bif !y_1 then some (false, (a0.1, a0.2.1, a0.2.2.1, a0.2.2.2.1, y, a0.2.2.2.2.2), ()) else bif decide ((60 : Int) < IntKind.i64.wrap ((↑(List.length a0.2.2.2.2.2.1) : Int) + a0.1)) then some (false, (a0.1, a0.2.1, a0.2.2.1, a0.2.2.2.1, y, a0.2.2.2.2.2), ()) else bif decide ((4 : Int) < (↑(List.length a0.2.2.2.2.2.2.2.1) : Int)) then both (if (0 : Int) ≤ a1 then if a1 < (↑y.length : Int) then both ((nth y a1.toNat).bind fun y_2 => (fun zB => (fun zB => both zB zB) (zB)) (if (4 : Int) ≤ (↑(List.length a0.2.2.2.2.2.2.2.1) : Int) then if (0 : Nat) + (List.take (Int.toNat (4 : Int) - (0 : Nat)) (List.drop (0 : Nat) a0.2.2.2.2.2.2.2.1)).length ≤ lim then (Q_s_Shows big a0.2.2.2.1 y_2 (List.take (Int.toNat (4 : Int) - (0 : Nat)) (List.drop (0 : Nat) a0.2.2.2.2.2.2.2.1))).bind fun y_3 => (updO y a1.toNat y_2).bind fun y => R_s_l15Show_5000007 n a1 (4 : Int) y_3.1 y_3.2.2.1 a0.1 a0.2.1 a0.2.2.1 a0.2.2.2.1 y a0.2.2.2.2.2.1 a0.2.2.2.2.2.2.1 a0.2.2.2.2.2.2.2.1 y_3.2.1.1 y_3.2.1.2.1 y_3.2.1.2.2.1.1 y_3.2.1.2.2.1.2.1 y_3.2.1.2.2.1.2.2.1 y_3.2.1.2.2.1.2.2.2.1 y_3.2.1.2.2.2.1.1 y_3.2.1.2.2.2.1.2.1 y_3.2.1.2.2.2.1.2.2.1 y_3.2.1.2.2.2.1.2.2.2.1 y_3.2.1.2.2.2.2.1.1 y_3.2.1.2.2.2.2.1.2.1 y_3.2.1.2.2.2.2.1.2.2.1 y_3.2.1.2.2.2.2.1.2.2.2.1 y_3.2.1.2.2.2.2.2.1 y_3.2.1.2.2.2.2.2.2.1 y_3.2.1.2.2.2.2.2.2.2.1 y_3.2.1.2.2.2.2.2.2.2.2.1 y_3.2.1.2.2.2.2.2.2.2.2.2.1 y_3.2.1.2.2.2.2.2.2.2.2.2.2.1 y_3.2.1.2.2.2.2.2.2.2.2.2.2.2.1 else none else none)) (both (both (zC7) (if (4 : Int) ≤ (↑(List.length a0.2.2.2.2.2.2.2.1) : Int) then zC1 else none)) (if (4 : Int) ≤ (↑(List.length a0.2.2.2.2.2.2.2.1) : Int) then (fun zB0 zB1 => (fun zB0 zB1 => both zB0 (both zB0 zB1)) (zB0) (zB1)) zC5 (if (0 : Nat) + (List.take (Int.toNat (4 : Int) - (0 : Nat)) (List.drop (0 : Nat) a0.2.2.2.2.2.2.2.1)).length ≤ lim then zC3 else none) else none)) else none else none) (both (both (if (0 : Int) ≤ a1 then if a1 < (↑y.length : Int) then both (zC7) (if (4 : Int) ≤ (↑(List.length a0.2.2.2.2.2.2.2.1) : Int) then zC1 else none) else none else none) (if (4 : Int) ≤ (↑(List.length a0.2.2.2.2.2.2.2.1) : Int) then both (if (0 : Int) ≤ a1 then if a1 < (↑y.length : Int) then zC1 else none else none) (if (0 : Nat) + (List.take (Int.toNat (4 : Int) - (0 : Nat)) (List.drop (0 : Nat) a0.2.2.2.2.2.2.2.1)).length ≤ lim then if (0 : Int) ≤ a1 then if a1 < (↑y.length : Int) then zC3 else none else none else none) else none)) (if (4 : Int) ≤ (↑(List.length a0.2.2.2.2.2.2.2.1) : Int) then both (if (0 : Int) ≤ a1 then if a1 < (↑y.length : Int) then (fun zB0 zB1 => (fun zB0 zB1 => both zB0 (both zB0 zB1)) (zB0) (zB1)) zC5 (if (0 : Nat) + (List.take (Int.toNat (4 : Int) - (0 : Nat)) (List.drop (0 : Nat) a0.2.2.2.2.2.2.2.1)).length ≤ lim then zC3 else none) else none else none) (both (if (0 : Int) ≤ a1 then if a1 < (↑y.length : Int) then zC1 else none else none) (if (0 : Nat) + (List.take (Int.toNat (4 : Int) - (0 : Nat)) (List.drop (0 : Nat) a0.2.2.2.2.2.2.2.1)).length ≤ lim then if (0 : Int) ≤ a1 then if a1 < (↑y.length : Int) then zC3 else none else none else none)) else none)) else both (if (0 : Int) ≤ a1 then if a1 < (↑y.length : Int) then both ((nth y a1.toNat).bind fun y_2 => (fun zB => (fun zB => both zB zB) (zB)) (if (↑(List.length a0.2.2.2.2.2.2.2.1) : Int) ≤ (↑(List.length a0.2.2.2.2.2.2.2.1) : Int) then if (0 : Nat) + (List.take zC8 (List.drop (0 : Nat) a0.2.2.2.2.2.2.2.1)).length ≤ lim then (Q_s_Shows big a0.2.2.2.1 y_2 (List.take zC8 (List.drop (0 : Nat) a0.2.2.2.2.2.2.2.1))).bind fun y_3 => (updO y a1.toNat y_2).bind fun y => R_s_l15Show_5000007 n a1 (↑(List.length a0.2.2.2.2.2.2.2.1) : Int) y_3.1 y_3.2.2.1 a0.1 a0.2.1 a0.2.2.1 a0.2.2.2.1 y a0.2.2.2.2.2.1 a0.2.2.2.2.2.2.1 a0.2.2.2.2.2.2.2.1 y_3.2.1.1 y_3.2.1.2.1 y_3.2.1.2.2.1.1 y_3.2.1.2.2.1.2.1 y_3.2.1.2.2.1.2.2.1 y_3.2.1.2.2.1.2.2.2.1 y_3.2.1.2.2.2.1.1 y_3.2.1.2.2.2.1.2.1 y_3.2.1.2.2.2.1.2.2.1 y_3.2.1.2.2.2.1.2.2.2.1 y_3.2.1.2.2.2.2.1.1 y_3.2.1.2.2.2.2.1.2.1 y_3.2.1.2.2.2.2.1.2.2.1 y_3.2.1.2.2.2.2.1.2.2.2.1 y_3.2.1.2.2.2.2.2.1 y_3.2.1.2.2.2.2.2.2.1 y_3.2.1.2.2.2.2.2.2.2.1 y_3.2.1.2.2.2.2.2.2.2.2.1 y_3.2.1.2.2.2.2.2.2.2.2.2.1 y_3.2.1.2.2.2.2.2.2.2.2.2.2.1 y_3.2.1.2.2.2.2.2.2.2.2.2.2.2.1 else none else none)) (both (both (zC6) (if (↑(List.length a0.2.2.2.2.2.2.2.1) : Int) ≤ (↑(List.length a0.2.2.2.2.2.2.2.1) : Int) then zC0 else none)) (if (↑(List.length a0.2.2.2.2.2.2.2.1) : Int) ≤ (↑(List.length a0.2.2.2.2.2.2.2.1) : Int) then (fun zB0 zB1 => (fun zB0 zB1 => both zB0 (both zB0 zB1)) (zB0) (zB1)) zC4 (if (0 : Nat) + (List.take zC8 (List.drop (0 : Nat) a0.2.2.2.2.2.2.2.1)).length ≤ lim then zC2 else none) else none)) else none else none) (both (both (if (0 : Int) ≤ a1 then if a1 < (↑y.length : Int) then both (zC6) (if (↑(List.length a0.2.2.2.2.2.2.2.1) : Int) ≤ (↑(List.length a0.2.2.2.2.2.2.2.1) : Int) then zC0 else none) else none else none) (if (↑(List.length a0.2.2.2.2.2.2.2.1) : Int) ≤ (↑(List.length a0.2.2.2.2.2.2.2.1) : Int) then both (if (0 : Int) ≤ a1 then if a1 < (↑y.length : Int) then zC0 else none else none) (if (0 : Nat) + (List.take zC8 (List.drop (0 : Nat) a0.2.2.2.2.2.2.2.1)).length ≤ lim then if (0 : Int) ≤ a1 then if a1 < (↑y.length : Int) then zC2 else none else none else none) else none)) (if (↑(List.length a0.2.2.2.2.2.2.2.1) : Int) ≤ (↑(List.length a0.2.2.2.2.2.2.2.1) : Int) then both (if (0 : Int) ≤ a1 then if a1 < (↑y.length : Int) then (fun zB0 zB1 => (fun zB0 zB1 => both zB0 (both zB0 zB1)) (zB0) (zB1)) zC4 (if (0 : Nat) + (List.take zC8 (List.drop (0 : Nat) a0.2.2.2.2.2.2.2.1)).length ≤ lim then zC2 else none) else none else none) (both (if (0 : Int) ≤ a1 then if a1 < (↑y.length : Int) then zC0 else none else none) (if (0 : Nat) + (List.take zC8 (List.drop (0 : Nat) a0.2.2.2.2.2.2.2.1)).length ≤ lim then if (0 : Int) ≤ a1 then if a1 < (↑y.length : Int) then zC2 else none else none else none)) else none))) ((nth y a1.toNat).bind fun y_2 => if (4 : Int) ≤ (↑(List.length a0.2.2.2.2.2.2.2.1) : Int) then if (0 : Nat) + (List.take (Int.toNat (4 : Int) - (0 : Nat)) (List.drop (0 : Nat) a0.2.2.2.2.2.2.2.1)).length ≤ lim then (Q_s_Shows big a0.2.2.2.1 y_2 (List.take (Int.toNat (4 : Int) - (0 : Nat)) (List.drop (0 : Nat) a0.2.2.2.2.2.2.2.1))).bind fun y_3 => (updO y a1.toNat y_2).bind fun y => R_s_l15Show_5000007 n a1 (4 : Int) y_3.1 y_3.2.2.1 a0.1 a0.2.1 a0.2.2.1 a0.2.2.2.1 y a0.2.2.2.2.2.1 a0.2.2.2.2.2.2.1 a0.2.2.2.2.2.2.2.1 y_3.2.1.1 y_3.2.1.2.1 y_3.2.1.2.2.1.1 y_3.2.1.2.2.1.2.1 y_3.2.1.2.2.1.2.2.1 y_3.2.1.2.2.1.2.2.2.1 y_3.2.1.2.2.2.1.1 y_3.2.1.2.2.2.1.2.1 y_3.2.1.2.2.2.1.2.2.1 y_3.2.1.2.2.2.1.2.2.2.1 y_3.2.1.2.2.2.2.1.1 y_3.2.1.2.2.2.2.1.2.1 y_3.2.1.2.2.2.2.1.2.2.1 y_3.2.1.2.2.2.2.1.2.2.2.1 y_3.2.1.2.2.2.2.2.1 y_3.2.1.2.2.2.2.2.2.1 y_3.2.1.2.2.2.2.2.2.2.1 y_3.2.1.2.2.2.2.2.2.2.2.1 y_3.2.1.2.2.2.2.2.2.2.2.2.1 y_3.2.1.2.2.2.2.2.2.2.2.2.2.1 y_3.2.1.2.2.2.2.2.2.2.2.2.2.2.1 else none else none)) ((nth y a1.toNat).bind fun y_2 => if (↑(List.length a0.2.2.2.2.2.2.2.1) : Int) ≤ (↑(List.length a0.2.2.2.2.2.2.2.1) : Int) then if (0 : Nat) + (List.take zC8 (List.drop (0 : Nat) a0.2.2.2.2.2.2.2.1)).length ≤ lim then (Q_s_Shows big a0.2.2.2.1 y_2 (List.take zC8 (List.drop (0 : Nat) a0.2.2.2.2.2.2.2.1))).bind fun y_3 => (updO y a1.toNat y_2).bind fun y => R_s_l15Show_5000007 n a1 (↑(List.length a0.2.2.2.2.2.2.2.1) : Int) y_3.1 y_3.2.2.1 a0.1 a0.2.1 a0.2.2.1 a0.2.2.2.1 y a0.2.2.2.2.2.1 a0.2.2.2.2.2.2.1 a0.2.2.2.2.2.2.2.1 y_3.2.1.1 y_3.2.1.2.1 y_3.2.1.2.2.1.1 y_3.2.1.2.2.1.2.1 y_3.2.1.2.2.1.2.2.1 y_3.2.1.2.2.1.2.2.2.1 y_3.2.1.2.2.2.1.1 y_3.2.1.2.2.2.1.2.1 y_3.2.1.2.2.2.1.2.2.1 y_3.2.1.2.2.2.1.2.2.2.1 y_3.2.1.2.2.2.2.1.1 y_3.2.1.2.2.2.2.1.2.1 y_3.2.1.2.2.2.2.1.2.2.1 y_3.2.1.2.2.2.2.1.2.2.2.1 y_3.2.1.2.2.2.2.2.1 y_3.2.1.2.2.2.2.2.2.1 y_3.2.1.2.2.2.2.2.2.2.1 y_3.2.1.2.2.2.2.2.2.2.2.1 y_3.2.1.2.2.2.2.2.2.2.2.2.1 y_3.2.1.2.2.2.2.2.2.2.2.2.2.1 y_3.2.1.2.2.2.2.2.2.2.2.2.2.2.1 else none else none)) (both (zC5) (if (0 : Nat) + (List.take (Int.toNat (4 : Int) - (0 : Nat)) (List.drop (0 : Nat) a0.2.2.2.2.2.2.2.1)).length ≤ lim then zC3 else none))) ((nth y a1.toNat).bind fun y_2 => if (0 : Nat) + (List.take (Int.toNat (4 : Int) - (0 : Nat)) (List.drop (0 : Nat) a0.2.2.2.2.2.2.2.1)).length ≤ lim then (Q_s_Shows big a0.2.2.2.1 y_2 (List.take (Int.toNat (4 : Int) - (0 : Nat)) (List.drop (0 : Nat) a0.2.2.2.2.2.2.2.1))).bind fun y_3 => (updO y a1.toNat y_2).bind fun y => R_s_l15Show_5000007 n a1 (4 : Int) y_3.1 y_3.2.2.1 a0.1 a0.2.1 a0.2.2.1 a0.2.2.2.1 y a0.2.2.2.2.2.1 a0.2.2.2.2.2.2.1 a0.2.2.2.2.2.2.2.1 y_3.2.1.1 y_3.2.1.2.1 y_3.2.1.2.2.1.1 y_3.2.1.2.2.1.2.1 y_3.2.1.2.2.1.2.2.1 y_3.2.1.2.2.1.2.2.2.1 y_3.2.1.2.2.2.1.1 y_3.2.1.2.2.2.1.2.1 y_3.2.1.2.2.2.1.2.2.1 y_3.2.1.2.2.2.1.2.2.2.1 y_3.2.1.2.2.2.2.1.1 y_3.2.1.2.2.2.2.1.2.1 y_3.2.1.2.2.2.2.1.2.2.1 y_3.2.1.2.2.2.2.1.2.2.2.1 y_3.2.1.2.2.2.2.2.1 y_3.2.1.2.2.2.2.2.2.1 y_3.2.1.2.2.2.2.2.2.2.1 y_3.2.1.2.2.2.2.2.2.2.2.1 y_3.2.1.2.2.2.2.2.2.2.2.2.1 y_3.2.1.2.2.2.2.2.2.2.2.2.2.1 y_3.2.1.2.2.2.2.2.2.2.2.2.2.2.1 else none)) ((nth y a1.toNat).bind fun y_2 => (Q_s_Shows big a0.2.2.2.1 y_2 (List.take (Int.toNat (4 : Int) - (0 : Nat)) (List.drop (0 : Nat) a0.2.2.2.2.2.2.2.1))).bind fun y_3 => (updO y a1.toNat y_2).bind fun y => R_s_l15Show_5000007 n a1 (4 : Int) y_3.1 y_3.2.2.1 a0.1 a0.2.1 a0.2.2.1 a0.2.2.2.1 y a0.2.2.2.2.2.1 a0.2.2.2.2.2.2.1 a0.2.2.2.2.2.2.2.1 y_3.2.1.1 y_3.2.1.2.1 y_3.2.1.2.2.1.1 y_3.2.1.2.2.1.2.1 y_3.2.1.2.2.1.2.2.1 y_3.2.1.2.2.1.2.2.2.1 y_3.2.1.2.2.2.1.1 y_3.2.1.2.2.2.1.2.1 y_3.2.1.2.2.2.1.2.2.1 y_3.2.1.2.2.2.1.2.2.2.1 y_3.2.1.2.2.2.2.1.1 y_3.2.1.2.2.2.2.1.2.1 y_3.2.1.2.2.2.2.1.2.2.1 y_3.2.1.2.2.2.2.1.2.2.2.1 y_3.2.1.2.2.2.2.2.1 y_3.2.1.2.2.2.2.2.2.1 y_3.2.1.2.2.2.2.2.2.2.1 y_3.2.1.2.2.2.2.2.2.2.2.1 y_3.2.1.2.2.2.2.2.2.2.2.2.1 y_3.2.1.2.2.2.2.2.2.2.2.2.2.1 y_3.2.1.2.2.2.2.2.2.2.2.2.2.2.1)) (both (zC4) (if (0 : Nat) + (List.take zC8 (List.drop (0 : Nat) a0.2.2.2.2.2.2.2.1)).length ≤ lim then zC2 else none))) ((nth y a1.toNat).bind fun y_2 => if (0 : Nat) + (List.take zC8 (List.drop (0 : Nat) a0.2.2.2.2.2.2.2.1)).length ≤ lim then (Q_s_Shows big a0.2.2.2.1 y_2 (List.take zC8 (List.drop (0 : Nat) a0.2.2.2.2.2.2.2.1))).bind fun y_3 => (updO y a1.toNat y_2).bind fun y => R_s_l15Show_5000007 n a1 (↑(List.length a0.2.2.2.2.2.2.2.1) : Int) y_3.1 y_3.2.2.1 a0.1 a0.2.1 a0.2.2.1 a0.2.2.2.1 y a0.2.2.2.2.2.1 a0.2.2.2.2.2.2.1 a0.2.2.2.2.2.2.2.1 y_3.2.1.1 y_3.2.1.2.1 y_3.2.1.2.2.1.1 y_3.2.1.2.2.1.2.1 y_3.2.1.2.2.1.2.2.1 y_3.2.1.2.2.1.2.2.2.1 y_3.2.1.2.2.2.1.1 y_3.2.1.2.2.2.1.2.1 y_3.2.1.2.2.2.1.2.2.1 y_3.2.1.2.2.2.1.2.2.2.1 y_3.2.1.2.2.2.2.1.1 y_3.2.1.2.2.2.2.1.2.1 y_3.2.1.2.2.2.2.1.2.2.1 y_3.2.1.2.2.2.2.1.2.2.2.1 y_3.2.1.2.2.2.2.2.1 y_3.2.1.2.2.2.2.2.2.1 y_3.2.1.2.2.2.2.2.2.2.1 y_3.2.1.2.2.2.2.2.2.2.2.1 y_3.2.1.2.2.2.2.2.2.2.2.2.1 y_3.2.1.2.2.2.2.2.2.2.2.2.2.1 y_3.2.1.2.2.2.2.2.2.2.2.2.2.2.1 else none)) ((nth y a1.toNat).bind fun y_2 => (Q_s_Shows big a0.2.2.2.1 y_2 (List.take zC8 (List.drop (0 : Nat) a0.2.2.2.2.2.2.2.1))).bind fun y_3 => (updO y a1.toNat y_2).bind fun y => R_s_l15Show_5000007 n a1 (↑(List.length a0.2.2.2.2.2.2.2.1) : Int) y_3.1 y_3.2.2.1 a0.1 a0.2.1 a0.2.2.1 a0.2.2.2.1 y a0.2.2.2.2.2.1 a0.2.2.2.2.2.2.1 a0.2.2.2.2.2.2.2.1 y_3.2.1.1 y_3.2.1.2.1 y_3.2.1.2.2.1.1 y_3.2.1.2.2.1.2.1 y_3.2.1.2.2.1.2.2.1 y_3.2.1.2.2.1.2.2.2.1 y_3.2.1.2.2.2.1.1 y_3.2.1.2.2.2.1.2.1 y_3.2.1.2.2.2.1.2.2.1 y_3.2.1.2.2.2.1.2.2.2.1 y_3.2.1.2.2.2.2.1.1 y_3.2.1.2.2.2.2.1.2.1 y_3.2.1.2.2.2.2.1.2.2.1 y_3.2.1.2.2.2.2.1.2.2.2.1 y_3.2.1.2.2.2.2.2.1 y_3.2.1.2.2.2.2.2.2.1 y_3.2.1.2.2.2.2.2.2.2.1 y_3.2.1.2.2.2.2.2.2.2.2.1 y_3.2.1.2.2.2.2.2.2.2.2.2.1 y_3.2.1.2.2.2.2.2.2.2.2.2.2.1 y_3.2.1.2.2.2.2.2.2.2.2.2.2.2.1)) ((↑(List.length a0.2.2.2.2.2.2.2.1) : Int).toNat - (0 : Nat)) else none else none := by kernel_rfl
theorem R_s_l15Show_5000007_eq (n : Nat) (s1 : Int) (s5 : Int) (s6 : (List DXstruct_Parent_int_View_int_Cmds_impl_Cmd)) (s8 : Int) (b5_0 : Int) (b5_1 : Bool) (b5_2 : Int) (b5_3 : (List DXstruct_Parent_int_View_int_Cmds_impl_Cmd)) (b5_4 : (List DXstruct_Id_int_View_int_High_impl_Qc_Lock)) (b5_5 : (List DXstruct_Kind_int_From_int_To_int_View_int)) (b5_6 : (List DXstruct_Phase_int_View_int_Block_int_Sign)) (b5_7 : (List DXstruct_Kind_int_Key_string_Num_int_)) (b26_0 : Int) (b26_1 : Int) (b26_2 : Int) (b26_3 : Int) (b26_4 : Int) (b26_5 : Int) (b26_6 : Int) (b26_7 : Int) (b26_8 : Int) (b26_9 : Int) (b26_10 : Int) (b26_11 : Int) (b26_12 : Int) (b26_13 : Int) (b26_14 : (List Int)) (b26_15 : (List DXstruct_Key_string_Num_int_)) (b26_16 : (List Int)) (b26_17 : (List DXstruct_Key_string_Had_bool_Num_int_)) (b26_18 : (List DXstruct_Phase_int_View_int_Block_int_Sign)) (b26_19 : (List DXstruct_Kind_int_From_int_To_int_View_int)) (b26_20 : Int) : R_s_l15Show_5000007 (n + 1) s1 s5 s6 s8 b5_0 b5_1 b5_2 b5_3 b5_4 b5_5 b5_6 b5_7 b26_0 b26_1 b26_2 b26_3 b26_4 b26_5 b26_6 b26_7 b26_8 b26_9 b26_10 b26_11 b26_12 b26_13 b26_14 b26_15 b26_16 b26_17 b26_18 b26_19 b26_20 = bif decide (s8 < (0 : Int)) then some (false, (b5_0, b5_1, b5_2, b5_3, b5_4, b5_5, b5_6, b5_7, ()), ()) else if (0 : Int) ≤ s1 then if s1 < (↑b5_4.length : Int) then (nth b5_4 s1.toNat).bind fun y => if (0 : Int) ≤ s5 then if s5 ≤ (↑b5_7.length : Int) then if (0 : Nat) + (List.take (b5_7.length - s5.toNat) (List.drop s5.toNat b5_7)).length ≤ lim then (Q_s_ShownTo big s6 (b26_0, b26_1, (b26_2, b26_3, b26_4, b26_5, ()), (b26_6, b26_7, b26_8, b26_9, ()), (b26_10, b26_11, b26_12, b26_13, ()), b26_14, b26_15, b26_16, b26_17, b26_18, b26_19, b26_20, ()) s8 b5_0).bind fun y => (updO b5_4 s1.toNat (b26_0, b26_1, (b26_2, b26_3, b26_4, b26_5, ()), (b26_6, b26_7, b26_8, b26_9, ()), (b26_10, b26_11, b26_12, b26_13, ()), b26_14, b26_15, b26_16, b26_17, b26_18, b26_19, b26_20, ())).bind fun y_1 => (Q_s_l15Post big (b5_0, b5_1, b5_2, s6, y_1, b5_5, b5_6, List.take (b5_7.length - s5.toNat) (List.drop s5.toNat b5_7), ()) y).bind fun y => some (true, y.2) else none else none else none else none else none := by kernel_rfl
end Go.Sx.Tryz
set_option maxRecDepth 100000
namespace Go.Sx.Tryz
open Go Go.Sx Go.Proofs
noncomputable def l_s_l19Do : List (Nat × Con) := [(180, c_s_l15Show), (181, c_s_l15Carry), (182, c_s_l15Out), (183, c_s_l15Twice), (184, c_s_l15Wait), (106, c_s_l15Honest), (185, c_s_Fallen), (186, c_s_l19Lie)]
theorem l_s_l19Do_ok : ∀ q ∈ l_s_l19Do, ConOk Tryz.prog q.1 q.2 := Tryz.cons_cons c_s_l15Show_ok (Tryz.cons_cons c_s_l15Carry_ok (Tryz.cons_cons c_s_l15Out_ok (Tryz.cons_cons c_s_l15Twice_ok (Tryz.cons_cons c_s_l15Wait_ok (Tryz.cons_cons c_s_l15Honest_ok (Tryz.cons_cons c_s_Fallen_ok (Tryz.cons_cons c_s_l19Lie_ok (Tryz.cons_nil))))))))
def kp_s_l19Do : KP := []
noncomputable def q_s_l19Do (n : Nat) (x : AP.denL [.mu uICluster, .ro tIEvent]) := evX (true, true, [3, 7, 11, 12, 13, 17, 19, 20, 21, 24, 28, 33, 39, 46, 55, 61, 66, 67, 69, 73, 74, 75, 77, 79, 80, 81, 83, 84, 85, 87]) l_s_l19Do kp_s_l19Do [none] Tryz.f134 (shO (shV tBool) [.mu uICluster]) n (AP.encL [.mu uICluster, .ro tIEvent] x)
noncomputable def c_s_l19Do : Con := apS [.mu uICluster, .ro tIEvent] true (shO (shV tBool) [.mu uICluster]) (q_s_l19Do big)
theorem c_s_l19Do_ok : ConOk Tryz.prog 134 c_s_l19Do := apS_ok ⟨Tryz.f134, by kernel_rfl, rfl, by decide⟩ fun _ _ h => evX_ok l_s_l19Do_ok (f := Tryz.f134) (by kernel_rfl) rfl (by kernel_rfl) (by kernel_rfl) big h
noncomputable def Q_s_l19Do (n : Nat) (a0 : DICluster) (a1 : DIEvent) : Option (Bool × DICluster × Unit) := q_s_l19Do n (a0, a1, ())
theorem Q_s_l19Do_eq (n : Nat) (a0 : DICluster) (a1 : DIEvent) : Q_s_l19Do n a0 a1 = bif decide (a1.1 = (1 : Int)) then bif decide ((8 : Int) ≤ (↑(List.length a0.2.2.2.2.2.2.2.1) : Int)) then some (false, a0, ()) else (fun zB => both (both zB zB) zB) (if (0 : Nat) + List.length a0.2.2.2.2.2.2.2.1 ≤ lim then if List.length a0.2.2.2.2.2.2.2.1 + [a1.2.2.2.2.1].length ≤ lim then some (true, (a0.1, a0.2.1, a0.2.2.1, a0.2.2.2.1, a0.2.2.2.2.1, a0.2.2.2.2.2.1, a0.2.2.2.2.2.2.1, List.append a0.2.2.2.2.2.2.2.1 [a1.2.2.2.2.1], ()), ()) else none else none) else bif decide (a1.1 = (2 : Int)) then (Q_s_l15Show big a0 a1.2.1).bind fun y => some y else bif decide (a1.1 = (3 : Int)) then (Q_s_l15Carry big a0 a1.2.1).bind fun y => some y else bif decide (a1.1 = (4 : Int)) then (Q_s_l15Out big a0 a1.2.1).bind fun y => some (y.1.2.1, y.2) else bif decide (a1.1 = (5 : Int)) then (Q_s_l15Twice big a0 a1.2.1).bind fun y => some y else bif decide (a1.1 = (6 : Int)) then (Q_s_l15Wait big a0 a1.2.1).bind fun y => some y else bif decide (a1.1 = (7 : Int)) then (Q_s_l15Honest big a0 a1.2.1).bind fun y => bif !y then some (false, a0, ()) else if (0 : Int) ≤ a1.2.1 then if a1.2.1 < (↑(List.length a0.2.2.2.2.1) : Int) then (nth a0.2.2.2.2.1 (Int.toNat a1.2.1)).bind fun y => (Q_s_Fallen big a0.2.2.2.1 y).bind fun y_1 => (updO a0.2.2.2.2.1 (Int.toNat a1.2.1) y).bind fun y => if (0 : Int) ≤ a1.2.1 then if a1.2.1 < (↑y.length : Int) then (nth y (Int.toNat a1.2.1)).bind fun y_2 => (updO y (Int.toNat a1.2.1) y_1).bind fun y => some (true, (a0.1, a0.2.1, a0.2.2.1, a0.2.2.2.1, y, a0.2.2.2.2.2), ()) else none else none else none else none else (Q_s_l19Lie big a0 a1).bind fun y => some y := by kernel_rfl
end Go.Sx.Tryz
set_option maxRecDepth 100000
namespace Go.Sx.Tryz
open Go Go.Sx Go.Proofs
noncomputable def l_s_l19Ran : List (Nat × Con) := [(63, c_s_l01Once), (62, c_s_l01PickInt), (133, c_s_ClusterNew), (59, c_s_l01Below), (135, c_s_l19Event), (134, c_s_l19Do)]
theorem l_s_l19Ran_ok : ∀ q ∈ l_s_l19Ran, ConOk Tryz.prog q.1 q.2 := Tryz.cons_cons c_s_l01Once_ok (Tryz.cons_cons c_s_l01PickInt_ok (Tryz.cons_cons c_s_ClusterNew_ok (Tryz.cons_cons c_s_l01Below_ok (Tryz.cons_cons c_s_l19Event_ok (Tryz.cons_cons c_s_l19Do_ok (Tryz.cons_nil))))))
abbrev k_s_l19Ran_4 : List Keep × List BK := ([.is (.ptr 0 0), .ro tInt64, .drop, .drop, .is (.ptr 1 0), .drop, .is (.ptr 8 0), .drop, .ro tInt64, .drop, .drop, .drop, .drop, .drop, .drop, .drop, .drop, .drop, .drop, .drop, .drop, .drop, .drop, .drop, .drop, .drop, .drop, .drop, .drop, .drop, .drop, .drop], [.vars [.ro tSlUint8, .ro tInt64, .ro tInt64], .vars [.ro tInt64, .ro tBool, .ro tInt64, .own tIBlock, .own tIPeer, .own tILetter, .own tIVote, .own tICmd], .drop, .drop, .drop, .drop, .drop, .drop, .vars [.ro tInt64, .ro tBool, .ro tInt64, .own uXstruct_Parent_int_View_int_Cmds_impl_Cmd, .own uXstruct_Id_int_View_int_High_impl_Qc_Lock, .own tXstruct_Kind_int_From_int_To_int_View_int, .own tXstruct_Phase_int_View_int_Block_int_Sign, .own tXstruct_Kind_int_Key_string_Num_int_]])
def kp_s_l19Ran : KP := [(4, k_s_l19Ran_4)]
noncomputable def q_s_l19Ran (n : Nat) (x : AP.denL [.mr tSl01Cur, .ro tInt]) := evX (false, false, [6]) l_s_l19Ran kp_s_l19Ran [some uICluster] Tryz.f70 (shO (shF uICluster) [.mr tSl01Cur]) n (AP.encL [.mr tSl01Cur, .ro tInt] x)
noncomputable def c_s_l19Ran : Con := apS [.mr tSl01Cur, .ro tInt] false (shO (shF uICluster) [.mr tSl01Cur]) (q_s_l19Ran big)
theorem c_s_l19Ran_ok : ConOk Tryz.prog 70 c_s_l19Ran := apS_ok ⟨Tryz.f70, by kernel_rfl, rfl, by decide⟩ fun _ _ h => evX_ok l_s_l19Ran_ok (f := Tryz.f70) (by kernel_rfl) rfl (by kernel_rfl) (by kernel_rfl) big h
noncomputable def Q_s_l19Ran (n : Nat) (a0 : DSl01Cur) (a1 : Int) : Option (DICluster × DSl01Cur × Unit) := q_s_l19Ran n (a0, a1, ())
noncomputable def r_s_l19Ran_4 (n : Nat) (x : KD k_s_l19Ran_4.1) (y : BD k_s_l19Ran_4.2) := rounds (env (false, false, [6]) l_s_l19Ran) kp_s_l19Ran (body Tryz.f70) (finX (false, false, [6]) l_s_l19Ran [some uICluster] Tryz.f70 (shO (shF uICluster) [.mr tSl01Cur]) [AP.enc (.mr tSl01Cur) (zeroD tSl01Cur), AP.enc (.ro tInt) (zeroD tInt)]) n 4 k_s_l19Ran_4 x y
noncomputable def R_s_l19Ran_4 (n : Nat) (s1 : Int) (s8 : Int) (b0_0 : DSlUint8) (b0_1 : Int) (b0_2 : Int) (b1_0 : Int) (b1_1 : Bool) (b1_2 : Int) (b1_3 : (List DIBlock)) (b1_4 : (List DIPeer)) (b1_5 : (List DILetter)) (b1_6 : (List DIVote)) (b1_7 : (List DICmd)) (b8_0 : Int) (b8_1 : Bool) (b8_2 : Int) (b8_3 : (List DXstruct_Parent_int_View_int_Cmds_impl_Cmd)) (b8_4 : (List DXstruct_Id_int_View_int_High_impl_Qc_Lock)) (b8_5 : (List DXstruct_Kind_int_From_int_To_int_View_int)) (b8_6 : (List DXstruct_Phase_int_View_int_Block_int_Sign)) (b8_7 : (List DXstruct_Kind_int_Key_string_Num_int_)) : Option (DICluster × DSl01Cur × Unit) := r_s_l19Ran_4 n (s1, s8, ()) ((b0_0, b0_1, b0_2, ()), (b1_0, b1_1, b1_2, b1_3, b1_4, b1_5, b1_6, b1_7, ()), (b8_0, b8_1, b8_2, b8_3, b8_4, b8_5, b8_6, b8_7, ()), ())
theorem Q_s_l19Ran_eq (n : Nat) (a0 : DSl01Cur) (a1 : Int) : Q_s_l19Ran n a0 a1 =
  (Q_s_l01Once big a0 (2 : Int)).bind fun y =>
 (Q_s_l01PickInt big y.2.1 [(0 : Int), (8 : Int), (8 : Int), (1 : Int), (2 : Int)]).bind fun y_1 =>
 (Q_s_ClusterNew big (4 : Int) y.1 y_1.1).bind fun y =>
 R_s_l19Ran_4 n a1 (0 : Int) y_1.2.1.1 y_1.2.1.2.1 y_1.2.1.2.2.1 (0 : Int) false
 (0 : Int) [] [] [] [] [] y.1.1 y.1.2.1 y.1.2.2.1 y.1.2.2.2.1
 y.1.2.2.2.2.1 y.1.2.2.2.2.2.1 y.1.2.2.2.2.2.2.1
 y.1.2.2.2.2.2.2.2.1 := by kernel_rfl
theorem R_s_l19Ran_4_eq (n : Nat) (s1 : Int) (s8 : Int) (b0_0 : DSlUint8) (b0_1 : Int) (b0_2 : Int) (b1_0 : Int) (b1_1 : Bool) (b1_2 : Int) (b1_3 : (List DIBlock)) (b1_4 : (List DIPeer)) (b1_5 : (List DILetter)) (b1_6 : (List DIVote)) (b1_7 : (List DICmd)) (b8_0 : Int) (b8_1 : Bool) (b8_2 : Int) (b8_3 : (List DXstruct_Parent_int_View_int_Cmds_impl_Cmd)) (b8_4 : (List DXstruct_Id_int_View_int_High_impl_Qc_Lock)) (b8_5 : (List DXstruct_Kind_int_From_int_To_int_View_int)) (b8_6 : (List DXstruct_Phase_int_View_int_Block_int_Sign)) (b8_7 : (List DXstruct_Kind_int_Key_string_Num_int_)) : R_s_l19Ran_4 (n + 1) s1 s8 b0_0 b0_1 b0_2 b1_0 b1_1 b1_2 b1_3 b1_4 b1_5 b1_6 b1_7 b8_0 b8_1 b8_2 b8_3 b8_4 b8_5 b8_6 b8_7 =
  (Q_s_l01Below big (b0_0, b0_1, b0_2, ()) s1).bind fun y =>
 bif decide (s8 < IntKind.i64.wrap ((4 : Int) + y.1)) then
 (Q_s_l19Event big y.2.1 (b8_0, b8_1, b8_2, b8_3, b8_4, b8_5, b8_6, b8_7, ())).bind fun y =>
 (Q_s_l19Do big (b8_0, b8_1, b8_2, y.2.2.1.2.2.2) y.1).bind fun y_1 =>
 R_s_l19Ran_4 n s1 (IntKind.i64.wrap (s8 + (1 : Int))) y.2.1.1 y.2.1.2.1 y.2.1.2.2.1
 b1_0 b1_1 b1_2 b1_3 b1_4 b1_5 b1_6 b1_7 y_1.2.1.1 y_1.2.1.2.1 y_1.2.1.2.2.1
 y_1.2.1.2.2.2.1 y_1.2.1.2.2.2.2.1 y_1.2.1.2.2.2.2.2.1
 y_1.2.1.2.2.2.2.2.2.1 y_1.2.1.2.2.2.2.2.2.2.1
 else some ((b8_0, b8_1, b8_2, b8_3, b8_4, b8_5, b8_6, b8_7, ()), y.2) := by kernel_rfl
end Go.Sx.Tryz
set_option maxRecDepth 100000
namespace Go.Sx.Tryz
open Go Go.Sx Go.Proofs
noncomputable def l_s_l09Some : List (Nat × Con) := [(70, c_s_l19Ran), (59, c_s_l01Below)]
theorem l_s_l09Some_ok : ∀ q ∈ l_s_l09Some, ConOk Tryz.prog q.1 q.2 := Tryz.cons_cons c_s_l19Ran_ok (Tryz.cons_cons c_s_l01Below_ok (Tryz.cons_nil))
def kp_s_l09Some : KP := []
noncomputable def q_s_l09Some (n : Nat) (x : AP.denL [.mr tSl01Cur]) := evX (false, true, [4, 7, 9, 12]) l_s_l09Some kp_s_l09Some [some uSlIBlock, some uIPeer] Tryz.f56 (shO (shT [(true, uSlIBlock), (true, uIPeer)]) [.mr tSl01Cur]) n (AP.encL [.mr tSl01Cur] x)
noncomputable def c_s_l09Some : Con := apS [.mr tSl01Cur] false (shO (shT [(true, uSlIBlock), (true, uIPeer)]) [.mr tSl01Cur]) (q_s_l09Some big)
theorem c_s_l09Some_ok : ConOk Tryz.prog 56 c_s_l09Some := apS_ok ⟨Tryz.f56, by kernel_rfl, rfl, by decide⟩ fun _ _ h => evX_ok l_s_l09Some_ok (f := Tryz.f56) (by kernel_rfl) rfl (by kernel_rfl) (by kernel_rfl) big h
noncomputable def Q_s_l09Some (n : Nat) (a0 : DSl01Cur) : Option ((DSlIBlock × DIPeer × Unit) × DSl01Cur × Unit) := q_s_l09Some n (a0, ())
theorem Q_s_l09Some_eq (n : Nat) (a0 : DSl01Cur) : Q_s_l09Some n a0 = (Q_s_l19Ran big a0 (26 : Int)).bind fun y => (fun zB => both zB (both (both zB (both (both (both zB zB) zB) (both zB (both (both zB zB) (both zB zB))))) (both zB (both (both zB (both (both zB zB) (both zB zB))) (both (both zB zB) zB))))) ((Q_s_l01Below big y.2.1 (↑(List.length y.1.2.2.2.2.1) : Int)).bind fun y_1 => if (0 : Int) ≤ y_1.1 then if y_1.1 < (↑(List.length y.1.2.2.2.2.1) : Int) then (nth y.1.2.2.2.2.1 (Int.toNat y_1.1)).bind fun y_2 => some ((y.1.2.2.2.1, y_2, ()), y_1.2) else none else none) := by kernel_rfl
end Go.Sx.Tryz
set_option maxRecDepth 100000
namespace Go.Sx.Tryz
open Go Go.Sx Go.Proofs
noncomputable def l_s_DrawPeer : List (Nat × Con) := [(57, c_s_l01New), (56, c_s_l09Some)]
theorem l_s_DrawPeer_ok : ∀ q ∈ l_s_DrawPeer, ConOk Tryz.prog q.1 q.2 := Tryz.cons_cons c_s_l01New_ok (Tryz.cons_cons c_s_l09Some_ok (Tryz.cons_nil))
def kp_s_DrawPeer : KP := []
noncomputable def q_s_DrawPeer (n : Nat) (x : Args [tSlUint8]) := evX (false, false, []) l_s_DrawPeer kp_s_DrawPeer [some uSlIBlock, some uIPeer] Tryz.f10 (shT [(true, uSlIBlock), (true, uIPeer)]) n (encA [tSlUint8] x)
noncomputable def c_s_DrawPeer : Con := roS [tSlUint8] true (shT [(true, uSlIBlock), (true, uIPeer)]) (q_s_DrawPeer big)
theorem c_s_DrawPeer_ok : ConOk Tryz.prog 10 c_s_DrawPeer := roS_ok ⟨Tryz.f10, by kernel_rfl, rfl, by decide⟩ fun _ _ h => evX_ok l_s_DrawPeer_ok (f := Tryz.f10) (by kernel_rfl) rfl (by kernel_rfl) (by kernel_rfl) big h
noncomputable def Q_s_DrawPeer (n : Nat) (a0 : DSlUint8) : Option (DSlIBlock × DIPeer × Unit) := q_s_DrawPeer n (a0, ())
theorem Q_s_DrawPeer_eq (n : Nat) (a0 : DSlUint8) : Q_s_DrawPeer n a0 =
  (Q_s_l01New big a0).bind fun y => (Q_s_l09Some big y).bind fun y => some y.1 := by kernel_rfl
end Go.Sx.Tryz
set_option maxRecDepth 100000
namespace Go.Sx.Tryz
open Go Go.Sx Go.Proofs
noncomputable def l_s_DrawPlaces : List (Nat × Con) := [(57, c_s_l01New), (58, c_s_l01Byte), (59, c_s_l01Below)]
theorem l_s_DrawPlaces_ok : ∀ q ∈ l_s_DrawPlaces, ConOk Tryz.prog q.1 q.2 := Tryz.cons_cons c_s_l01New_ok (Tryz.cons_cons c_s_l01Byte_ok (Tryz.cons_cons c_s_l01Below_ok (Tryz.cons_nil)))
abbrev k_s_DrawPlaces_5 : List Keep × List BK := ([.drop, .drop, .drop, .is (.ptr 0 0), .own tInt64, .ro tInt64, .drop, .drop, .drop, .drop, .drop, .drop, .drop, .drop, .drop, .drop, .drop, .drop, .drop, .drop, .drop], [.vars [.ro tSlUint8, .ro tInt64, .ro tInt64]])
def kp_s_DrawPlaces : KP := [(5, k_s_DrawPlaces_5)]
noncomputable def q_s_DrawPlaces (n : Nat) (x : Args [tSlUint8]) := evX (false, false, []) l_s_DrawPlaces kp_s_DrawPlaces [some uSlInt] Tryz.f11 (shF uSlInt) n (encA [tSlUint8] x)
noncomputable def c_s_DrawPlaces : Con := roS [tSlUint8] true (shF uSlInt) (q_s_DrawPlaces big)
theorem c_s_DrawPlaces_ok : ConOk Tryz.prog 11 c_s_DrawPlaces := roS_ok ⟨Tryz.f11, by kernel_rfl, rfl, by decide⟩ fun _ _ h => evX_ok l_s_DrawPlaces_ok (f := Tryz.f11) (by kernel_rfl) rfl (by kernel_rfl) (by kernel_rfl) big h
noncomputable def Q_s_DrawPlaces (n : Nat) (a0 : DSlUint8) : Option DSlInt := q_s_DrawPlaces n (a0, ())
noncomputable def r_s_DrawPlaces_5 (n : Nat) (x : KD k_s_DrawPlaces_5.1) (y : BD k_s_DrawPlaces_5.2) := rounds (env (false, false, []) l_s_DrawPlaces) kp_s_DrawPlaces (body Tryz.f11) (finX (false, false, []) l_s_DrawPlaces [some uSlInt] Tryz.f11 (shF uSlInt) [.val tSlUint8 (zeroD tSlUint8)]) n 5 k_s_DrawPlaces_5 x y
noncomputable def R_s_DrawPlaces_5 (n : Nat) (s4 : (List Int)) (s5 : Int) (b0_0 : DSlUint8) (b0_1 : Int) (b0_2 : Int) : Option DSlInt := r_s_DrawPlaces_5 n (s4, s5, ()) ((b0_0, b0_1, b0_2, ()), ())
theorem Q_s_DrawPlaces_eq (n : Nat) (a0 : DSlUint8) : Q_s_DrawPlaces n a0 =
  (Q_s_l01New big a0).bind fun y =>
 (Q_s_l01Byte big y).bind fun y =>
 R_s_DrawPlaces_5 n [] (0 : Int) y.2.1.1 y.2.1.2.1 y.2.1.2.2.1 := by kernel_rfl
theorem R_s_DrawPlaces_5_eq (n : Nat) (s4 : (List Int)) (s5 : Int) (b0_0 : DSlUint8) (b0_1 : Int) (b0_2 : Int) : R_s_DrawPlaces_5 (n + 1) s4 s5 b0_0 b0_1 b0_2 =
  bif decide (s5 < (12 : Int)) then
 (Q_s_l01Below big (b0_0, b0_1, b0_2, ()) (10000 : Int)).bind fun y =>
 if s4.length + (1 : Nat) ≤ lim then
 R_s_DrawPlaces_5 n (s4.append [y.1]) (IntKind.i64.wrap (s5 + (1 : Int))) y.2.1.1 y.2.1.2.1
 y.2.1.2.2.1
 else none
 else some s4 := by kernel_rfl
end Go.Sx.Tryz
set_option maxRecDepth 100000
namespace Go.Sx.Tryz
open Go Go.Sx Go.Proofs
noncomputable def l_s_l07Vote : List (Nat × Con) := [(59, c_s_l01Below)]
theorem l_s_l07Vote_ok : ∀ q ∈ l_s_l07Vote, ConOk Tryz.prog q.1 q.2 := Tryz.cons_cons c_s_l01Below_ok (Tryz.cons_nil)
def kp_s_l07Vote : KP := []
noncomputable def q_s_l07Vote (n : Nat) (x : AP.denL [.mr tSl01Cur, .io uIBlock]) := evX (false, false, []) l_s_l07Vote kp_s_l07Vote [none] Tryz.f150 (shO (shV tIVote) [.mr tSl01Cur, .io uIBlock]) n (AP.encL [.mr tSl01Cur, .io uIBlock] x)
noncomputable def c_s_l07Vote : Con := apS [.mr tSl01Cur, .io uIBlock] false (shO (shV tIVote) [.mr tSl01Cur, .io uIBlock]) (q_s_l07Vote big)
theorem c_s_l07Vote_ok : ConOk Tryz.prog 150 c_s_l07Vote := apS_ok ⟨Tryz.f150, by kernel_rfl, rfl, by decide⟩ fun _ _ h => evX_ok l_s_l07Vote_ok (f := Tryz.f150) (by kernel_rfl) rfl (by kernel_rfl) (by kernel_rfl) big h
noncomputable def Q_s_l07Vote (n : Nat) (a0 : DSl01Cur) (a1 : DSlIBlock) : Option (DIVote × DSl01Cur × DSlIBlock × Unit) := q_s_l07Vote n (a0, a1, ())
theorem Q_s_l07Vote_eq (n : Nat) (a0 : DSl01Cur) (a1 : DSlIBlock) : Q_s_l07Vote n a0 a1 =
  (Q_s_l01Below big a0 (4 : Int)).bind fun y =>
 (Q_s_l01Below big y.2.1 (4 : Int)).bind fun y_1 =>
 (Q_s_l01Below big y_1.2.1 (↑(List.length a1) : Int)).bind fun y_2 =>
 if (0 : Int) ≤ y_2.1 then
 if y_2.1 < (↑(List.length a1) : Int) then
 (nth a1 (Int.toNat y_2.1)).bind fun y_3 =>
 some
 ((IntKind.i64.wrap ((1 : Int) + y.1), y_3.2.1, y_2.1, y_1.1, ()), y_2.2.1, a1,
 ())
 else none
 else none := by kernel_rfl
end Go.Sx.Tryz
set_option maxRecDepth 100000
namespace Go.Sx.Tryz
open Go Go.Sx Go.Proofs
noncomputable def l_s_l07Qc : List (Nat × Con) := [(59, c_s_l01Below), (150, c_s_l07Vote), (62, c_s_l01PickInt)]
theorem l_s_l07Qc_ok : ∀ q ∈ l_s_l07Qc, ConOk Tryz.prog q.1 q.2 := Tryz.cons_cons c_s_l01Below_ok (Tryz.cons_cons c_s_l07Vote_ok (Tryz.cons_cons c_s_l01PickInt_ok (Tryz.cons_nil)))
def kp_s_l07Qc : KP := []
noncomputable def q_s_l07Qc (n : Nat) (x : AP.denL [.mr tSl01Cur, .io uIBlock]) := evX (false, false, [7, 8, 16, 18, 20, 999999, 999996, 1000007, 1000016, 1000018, 1000020, 3000003]) l_s_l07Qc kp_s_l07Qc [none] Tryz.f86 (shO (shV tIQc) [.mr tSl01Cur, .io uIBlock]) n (AP.encL [.mr tSl01Cur, .io uIBlock] x)
noncomputable def c_s_l07Qc : Con := apS [.mr tSl01Cur, .io uIBlock] false (shO (shV tIQc) [.mr tSl01Cur, .io uIBlock]) (q_s_l07Qc big)
theorem c_s_l07Qc_ok : ConOk Tryz.prog 86 c_s_l07Qc := apS_ok ⟨Tryz.f86, by kernel_rfl, rfl, by decide⟩ fun _ _ h => evX_ok l_s_l07Qc_ok (f := Tryz.f86) (by kernel_rfl) rfl (by kernel_rfl) (by kernel_rfl) big h
noncomputable def Q_s_l07Qc (n : Nat) (a0 : DSl01Cur) (a1 : DSlIBlock) : Option (DIQc × DSl01Cur × DSlIBlock × Unit) := q_s_l07Qc n (a0, a1, ())
theorem Q_s_l07Qc_eq (n : Nat) (a0 : DSl01Cur) (a1 : DSlIBlock) : Q_s_l07Qc n a0 a1 =
  (Q_s_l01Below big a0 (10 : Int)).bind fun y =>
 (Q_s_l01Below big y.2.1 (60 : Int)).bind fun y_1 =>
 (Q_s_l07Vote big y_1.2.1 a1).bind fun y_2 =>
 (Q_s_l01PickInt big y_2.2.1 [(7 : Int), (15 : Int), (11 : Int), (14 : Int)]).bind fun y_3 =>
 bif decide (y.1 = (0 : Int)) then
 some (((0 : Int), (0 : Int), (0 : Int), (0 : Int), ()), y_3.2.1, y_2.2.2)
 else
 bif decide (y.1 = (1 : Int)) then
 if (0 : Int) ≤ Int.tmod y_1.1 (5 : Int) then
 if
 Int.tmod y_1.1 (5 : Int) <
 (↑[(3 : Int), (-1 : Int), (127 : Int), (128 : Int), (0 : Int)].length : Int) then
 (nth [(3 : Int), (-1 : Int), (127 : Int), (128 : Int), (0 : Int)]
 (Int.tmod y_1.1 (5 : Int)).toNat).bind
 fun y =>
 some ((y_2.1.1, y_2.1.2.1, y_2.1.2.2.1, y, ()), y_3.2.1, y_2.2.2)
 else none
 else none
 else
 bif decide (y.1 = (2 : Int)) then
 some ((y_2.1.1, y_1.1, y_2.1.2.2.1, y_3.1, ()), y_3.2.1, y_2.2.2)
 else
 bif decide (y.1 = (3 : Int)) then
 some
 ((y_2.1.1, y_2.1.2.1, IntKind.i64.wrap (Int.tmod y_1.1 (70 : Int) - (1 : Int)), y_3.1,
 ()),
 y_3.2.1, y_2.2.2)
 else
 some
 ((y_2.1.1, y_2.1.2.1, y_2.1.2.2.1, y_3.1, ()), y_3.2.1,
 y_2.2.2) := by kernel_rfl
end Go.Sx.Tryz
set_option maxRecDepth 100000
namespace Go.Sx.Tryz
open Go Go.Sx Go.Proofs
noncomputable def l_s_l07Any : List (Nat × Con) := [(59, c_s_l01Below), (150, c_s_l07Vote)]
theorem l_s_l07Any_ok : ∀ q ∈ l_s_l07Any, ConOk Tryz.prog q.1 q.2 := Tryz.cons_cons c_s_l01Below_ok (Tryz.cons_cons c_s_l07Vote_ok (Tryz.cons_nil))
def kp_s_l07Any : KP := []
noncomputable def q_s_l07Any (n : Nat) (x : AP.denL [.mr tSl01Cur, .io uIBlock]) := evX (false, false, [7]) l_s_l07Any kp_s_l07Any [none] Tryz.f132 (shO (shV tIVote) [.mr tSl01Cur, .io uIBlock]) n (AP.encL [.mr tSl01Cur, .io uIBlock] x)
noncomputable def c_s_l07Any : Con := apS [.mr tSl01Cur, .io uIBlock] false (shO (shV tIVote) [.mr tSl01Cur, .io uIBlock]) (q_s_l07Any big)
theorem c_s_l07Any_ok : ConOk Tryz.prog 132 c_s_l07Any := apS_ok ⟨Tryz.f132, by kernel_rfl, rfl, by decide⟩ fun _ _ h => evX_ok l_s_l07Any_ok (f := Tryz.f132) (by kernel_rfl) rfl (by kernel_rfl) (by kernel_rfl) big h
noncomputable def Q_s_l07Any (n : Nat) (a0 : DSl01Cur) (a1 : DSlIBlock) : Option (DIVote × DSl01Cur × DSlIBlock × Unit) := q_s_l07Any n (a0, a1, ())
theorem Q_s_l07Any_eq (n : Nat) (a0 : DSl01Cur) (a1 : DSlIBlock) : Q_s_l07Any n a0 a1 =
  (Q_s_l01Below big a0 (10 : Int)).bind fun y =>
 (Q_s_l01Below big y.2.1 (60 : Int)).bind fun y_1 =>
 (Q_s_l07Vote big y_1.2.1 a1).bind fun y_2 =>
 bif decide (y.1 = (0 : Int)) then some ((Int.tmod y_1.1 (6 : Int), y_2.1.2), y_2.2)
 else
 bif decide (y.1 = (1 : Int)) then some ((y_2.1.1, y_1.1, y_2.1.2.2), y_2.2)
 else
 bif decide (y.1 = (2 : Int)) then
 some
 ((y_2.1.1, y_2.1.2.1, IntKind.i64.wrap (Int.tmod y_1.1 (70 : Int) - (1 : Int)),
 y_2.1.2.2.2),
 y_2.2)
 else
 bif decide (y.1 = (3 : Int)) then
 some
 ((y_2.1.1, y_2.1.2.1, y_2.1.2.2.1,
 IntKind.i64.wrap (Int.tmod y_1.1 (9 : Int) - (1 : Int)), ()),
 y_2.2)
 else some y_2 := by kernel_rfl
end Go.Sx.Tryz
set_option maxRecDepth 100000
namespace Go.Sx.Tryz
open Go Go.Sx Go.Proofs
noncomputable def l_s_l09Any : List (Nat × Con) := [(59, c_s_l01Below), (56, c_s_l09Some), (68, c_s_l09Copy), (86, c_s_l07Qc), (132, c_s_l07Any)]
theorem l_s_l09Any_ok : ∀ q ∈ l_s_l09Any, ConOk Tryz.prog q.1 q.2 := Tryz.cons_cons c_s_l01Below_ok (Tryz.cons_cons c_s_l09Some_ok (Tryz.cons_cons c_s_l09Copy_ok (Tryz.cons_cons c_s_l07Qc_ok (Tryz.cons_cons c_s_l07Any_ok (Tryz.cons_nil)))))
def kp_s_l09Any : KP := []
noncomputable def q_s_l09Any (n : Nat) (x : AP.denL [.mr tSl01Cur]) := evX (false, false, [7, 50, 59]) l_s_l09Any kp_s_l09Any [some uSlIBlock, some uIPeer] Tryz.f61 (shO (shT [(true, uSlIBlock), (true, uIPeer)]) [.mr tSl01Cur]) n (AP.encL [.mr tSl01Cur] x)
noncomputable def c_s_l09Any : Con := apS [.mr tSl01Cur] false (shO (shT [(true, uSlIBlock), (true, uIPeer)]) [.mr tSl01Cur]) (q_s_l09Any big)
theorem c_s_l09Any_ok : ConOk Tryz.prog 61 c_s_l09Any := apS_ok ⟨Tryz.f61, by kernel_rfl, rfl, by decide⟩ fun _ _ h => evX_ok l_s_l09Any_ok (f := Tryz.f61) (by kernel_rfl) rfl (by kernel_rfl) (by kernel_rfl) big h
noncomputable def Q_s_l09Any (n : Nat) (a0 : DSl01Cur) : Option ((DSlIBlock × DIPeer × Unit) × DSl01Cur × Unit) := q_s_l09Any n (a0, ())
theorem Q_s_l09Any_eq (n : Nat) (a0 : DSl01Cur) : Q_s_l09Any n a0 =
  (Q_s_l01Below big a0 (14 : Int)).bind fun y =>
 (Q_s_l01Below big y.2.1 (60 : Int)).bind fun y_1 =>
 (Q_s_l09Some big y_1.2.1).bind fun y_2 =>
 (Q_s_l09Copy big y_2.1.2.1).bind fun y_3 =>
 bif decide (y.1 = (0 : Int)) then
 some
 ((y_2.1.1, (IntKind.i64.wrap (Int.tmod y_1.1 (6 : Int) - (1 : Int)), y_3.2), ()), y_2.2)
 else
 bif decide (y.1 = (1 : Int)) then
 some ((y_2.1.1, (y_3.1, y_1.1, y_3.2.2), ()), y_2.2)
 else
 bif decide (y.1 = (2 : Int)) then
 (Q_s_l07Qc big y_2.2.1 y_2.1.1).bind fun y =>
 some
 ((y.2.2.1, (y_3.1, y_3.2.1, y.1, y_3.2.2.2), ()), y.2.1, ())
 else
 bif decide (y.1 = (3 : Int)) then
 (Q_s_l07Qc big y_2.2.1 y_2.1.1).bind fun y =>
 some
 ((y.2.2.1, (y_3.1, y_3.2.1, y_3.2.2.1, y.1, y_3.2.2.2.2), ()),
 y.2.1, ())
 else
 bif decide (y.1 = (4 : Int)) then
 (Q_s_l07Any big y_2.2.1 y_2.1.1).bind fun y =>
 some
 ((y.2.2.1,
 (y_3.1, y_3.2.1, y_3.2.2.1, y_3.2.2.2.1, y.1,
 y_3.2.2.2.2.2),
 ()),
 y.2.1, ())
 else
 bif decide (y.1 = (5 : Int)) then
 if List.length y_3.2.2.2.2.2.1 + (1 : Nat) ≤ lim then
 some
 ((y_2.1.1,
 (y_3.1, y_3.2.1, y_3.2.2.1, y_3.2.2.2.1, y_3.2.2.2.2.1,
 List.append y_3.2.2.2.2.2.1 [Int.tmod y_1.1 (9 : Int)],
 y_3.2.2.2.2.2.2),
 ()),
 y_2.2)
 else none
 else
 bif decide (y.1 = (6 : Int)) then
 if List.length y_3.2.2.2.2.2.2.2.1 + (1 : Nat) ≤ lim then
 some
 ((y_2.1.1,
 (y_3.1, y_3.2.1, y_3.2.2.1, y_3.2.2.2.1, y_3.2.2.2.2.1,
 y_3.2.2.2.2.2.1, y_3.2.2.2.2.2.2.1,
 List.append y_3.2.2.2.2.2.2.2.1
 [IntKind.i64.wrap (Int.tmod y_1.1 (9 : Int) - (1 : Int))],
 y_3.2.2.2.2.2.2.2.2),
 ()),
 y_2.2)
 else none
 else some ((y_2.1.1, y_3, ()), y_2.2) := by kernel_rfl
end Go.Sx.Tryz
set_option maxRecDepth 100000
namespace Go.Sx.Tryz
open Go Go.Sx Go.Proofs
noncomputable def l_s_DrawMayVote : List (Nat × Con) := [(57, c_s_l01New), (59, c_s_l01Below), (61, c_s_l09Any)]
theorem l_s_DrawMayVote_ok : ∀ q ∈ l_s_DrawMayVote, ConOk Tryz.prog q.1 q.2 := Tryz.cons_cons c_s_l01New_ok (Tryz.cons_cons c_s_l01Below_ok (Tryz.cons_cons c_s_l09Any_ok (Tryz.cons_nil)))
def kp_s_DrawMayVote : KP := []
noncomputable def q_s_DrawMayVote (n : Nat) (x : Args [tSlUint8]) := evX (false, false, [9, 25, 26]) l_s_DrawMayVote kp_s_DrawMayVote [some uIPeer, none, none] Tryz.f13 (shT [(true, uIPeer), (false, tInt), (false, tInt)]) n (encA [tSlUint8] x)
noncomputable def c_s_DrawMayVote : Con := roS [tSlUint8] true (shT [(true, uIPeer), (false, tInt), (false, tInt)]) (q_s_DrawMayVote big)
theorem c_s_DrawMayVote_ok : ConOk Tryz.prog 13 c_s_DrawMayVote := roS_ok ⟨Tryz.f13, by kernel_rfl, rfl, by decide⟩ fun _ _ h => evX_ok l_s_DrawMayVote_ok (f := Tryz.f13) (by kernel_rfl) rfl (by kernel_rfl) (by kernel_rfl) big h
noncomputable def Q_s_DrawMayVote (n : Nat) (a0 : DSlUint8) : Option (DIPeer × Int × Int × Unit) := q_s_DrawMayVote n (a0, ())
theorem Q_s_DrawMayVote_eq (n : Nat) (a0 : DSlUint8) : Q_s_DrawMayVote n a0 = (Q_s_l01New big a0).bind fun y => (Q_s_l01Below big y (4 : Int)).bind fun y => (Q_s_l01Below big y.2.1 (3 : Int)).bind fun y_1 => (Q_s_l09Any big y_1.2.1).bind fun y_2 => (fun zB => both (both (both (both zB zB) zB) zB) zB) (some (y_2.1.2.1, IntKind.i64.wrap ((1 : Int) + y.1), IntKind.i64.wrap (y_2.1.2.1.2.2.2.2.1.2.1 + IntKind.i64.wrap (y_1.1 - (1 : Int))), ())) := by kernel_rfl
end Go.Sx.Tryz
set_option maxRecDepth 100000
namespace Go.Sx.Tryz
open Go Go.Sx Go.Proofs
noncomputable def l_g_Clone_Int : List (Nat × Con) := []
theorem l_g_Clone_Int_ok : ∀ q ∈ l_g_Clone_Int, ConOk Tryz.prog q.1 q.2 := Tryz.cons_nil
def kp_g_Clone_Int : KP := []
noncomputable def q_g_Clone_Int (n : Nat) (x : Args [tSlInt]) := evX (false, false, []) l_g_Clone_Int kp_g_Clone_Int [some uSlInt] Tryz.f127 (shF uSlInt) n (encA [tSlInt] x)
noncomputable def c_g_Clone_Int : Con := roS [tSlInt] true (shF uSlInt) (q_g_Clone_Int big)
theorem c_g_Clone_Int_ok : ConOk Tryz.prog 127 c_g_Clone_Int := roS_ok ⟨Tryz.f127, by kernel_rfl, rfl, by decide⟩ fun _ _ h => evX_ok l_g_Clone_Int_ok (f := Tryz.f127) (by kernel_rfl) rfl (by kernel_rfl) (by kernel_rfl) big h
noncomputable def Q_g_Clone_Int (n : Nat) (a0 : DSlInt) : Option DSlInt := q_g_Clone_Int n (a0, ())
theorem Q_g_Clone_Int_eq (n : Nat) (a0 : DSlInt) : Q_g_Clone_Int n a0 =
  nilC a0 fun b => bif b then some [] else if (0 : Nat) + List.length a0 ≤ lim then some a0 else none := by kernel_rfl
end Go.Sx.Tryz
set_option maxRecDepth 100000
namespace Go.Sx.Tryz
open Go Go.Sx Go.Proofs
noncomputable def l_g_Clone_ICell : List (Nat × Con) := []
theorem l_g_Clone_ICell_ok : ∀ q ∈ l_g_Clone_ICell, ConOk Tryz.prog q.1 q.2 := Tryz.cons_nil
def kp_g_Clone_ICell : KP := []
noncomputable def q_g_Clone_ICell (n : Nat) (x : Args [tSlICell]) := evX (false, false, []) l_g_Clone_ICell kp_g_Clone_ICell [some uSlICell] Tryz.f128 (shF uSlICell) n (encA [tSlICell] x)
noncomputable def c_g_Clone_ICell : Con := roS [tSlICell] true (shF uSlICell) (q_g_Clone_ICell big)
theorem c_g_Clone_ICell_ok : ConOk Tryz.prog 128 c_g_Clone_ICell := roS_ok ⟨Tryz.f128, by kernel_rfl, rfl, by decide⟩ fun _ _ h => evX_ok l_g_Clone_ICell_ok (f := Tryz.f128) (by kernel_rfl) rfl (by kernel_rfl) (by kernel_rfl) big h
noncomputable def Q_g_Clone_ICell (n : Nat) (a0 : DSlICell) : Option DSlICell := q_g_Clone_ICell n (a0, ())
theorem Q_g_Clone_ICell_eq (n : Nat) (a0 : DSlICell) : Q_g_Clone_ICell n a0 =
  nilC a0 fun b => bif b then some [] else if (0 : Nat) + List.length a0 ≤ lim then some a0 else none := by kernel_rfl
end Go.Sx.Tryz
set_option maxRecDepth 100000
namespace Go.Sx.Tryz
open Go Go.Sx Go.Proofs
noncomputable def l_g_Clone_IUndo : List (Nat × Con) := []
theorem l_g_Clone_IUndo_ok : ∀ q ∈ l_g_Clone_IUndo, ConOk Tryz.prog q.1 q.2 := Tryz.cons_nil
def kp_g_Clone_IUndo : KP := []
noncomputable def q_g_Clone_IUndo (n : Nat) (x : Args [tSlIUndo]) := evX (false, false, []) l_g_Clone_IUndo kp_g_Clone_IUndo [some uSlIUndo] Tryz.f129 (shF uSlIUndo) n (encA [tSlIUndo] x)
noncomputable def c_g_Clone_IUndo : Con := roS [tSlIUndo] true (shF uSlIUndo) (q_g_Clone_IUndo big)
theorem c_g_Clone_IUndo_ok : ConOk Tryz.prog 129 c_g_Clone_IUndo := roS_ok ⟨Tryz.f129, by kernel_rfl, rfl, by decide⟩ fun _ _ h => evX_ok l_g_Clone_IUndo_ok (f := Tryz.f129) (by kernel_rfl) rfl (by kernel_rfl) (by kernel_rfl) big h
noncomputable def Q_g_Clone_IUndo (n : Nat) (a0 : DSlIUndo) : Option DSlIUndo := q_g_Clone_IUndo n (a0, ())
theorem Q_g_Clone_IUndo_eq (n : Nat) (a0 : DSlIUndo) : Q_g_Clone_IUndo n a0 =
  nilC a0 fun b => bif b then some [] else if (0 : Nat) + List.length a0 ≤ lim then some a0 else none := by kernel_rfl
end Go.Sx.Tryz
set_option maxRecDepth 100000
namespace Go.Sx.Tryz
open Go Go.Sx Go.Proofs
noncomputable def l_g_Clone_IVote : List (Nat × Con) := []
theorem l_g_Clone_IVote_ok : ∀ q ∈ l_g_Clone_IVote, ConOk Tryz.prog q.1 q.2 := Tryz.cons_nil
def kp_g_Clone_IVote : KP := []
noncomputable def q_g_Clone_IVote (n : Nat) (x : Args [tSlIVote]) := evX (false, false, []) l_g_Clone_IVote kp_g_Clone_IVote [some uSlIVote] Tryz.f130 (shF uSlIVote) n (encA [tSlIVote] x)
noncomputable def c_g_Clone_IVote : Con := roS [tSlIVote] true (shF uSlIVote) (q_g_Clone_IVote big)
theorem c_g_Clone_IVote_ok : ConOk Tryz.prog 130 c_g_Clone_IVote := roS_ok ⟨Tryz.f130, by kernel_rfl, rfl, by decide⟩ fun _ _ h => evX_ok l_g_Clone_IVote_ok (f := Tryz.f130) (by kernel_rfl) rfl (by kernel_rfl) (by kernel_rfl) big h
noncomputable def Q_g_Clone_IVote (n : Nat) (a0 : DSlIVote) : Option DSlIVote := q_g_Clone_IVote n (a0, ())
theorem Q_g_Clone_IVote_eq (n : Nat) (a0 : DSlIVote) : Q_g_Clone_IVote n a0 =
  nilC a0 fun b => bif b then some [] else if (0 : Nat) + List.length a0 ≤ lim then some a0 else none := by kernel_rfl
end Go.Sx.Tryz
set_option maxRecDepth 100000
namespace Go.Sx.Tryz
open Go Go.Sx Go.Proofs
noncomputable def l_g_Clone_ILetter : List (Nat × Con) := []
theorem l_g_Clone_ILetter_ok : ∀ q ∈ l_g_Clone_ILetter, ConOk Tryz.prog q.1 q.2 := Tryz.cons_nil
def kp_g_Clone_ILetter : KP := []
noncomputable def q_g_Clone_ILetter (n : Nat) (x : Args [tSlILetter]) := evX (false, false, []) l_g_Clone_ILetter kp_g_Clone_ILetter [some uSlILetter] Tryz.f131 (shF uSlILetter) n (encA [tSlILetter] x)
noncomputable def c_g_Clone_ILetter : Con := roS [tSlILetter] true (shF uSlILetter) (q_g_Clone_ILetter big)
theorem c_g_Clone_ILetter_ok : ConOk Tryz.prog 131 c_g_Clone_ILetter := roS_ok ⟨Tryz.f131, by kernel_rfl, rfl, by decide⟩ fun _ _ h => evX_ok l_g_Clone_ILetter_ok (f := Tryz.f131) (by kernel_rfl) rfl (by kernel_rfl) (by kernel_rfl) big h
noncomputable def Q_g_Clone_ILetter (n : Nat) (a0 : DSlILetter) : Option DSlILetter := q_g_Clone_ILetter n (a0, ())
theorem Q_g_Clone_ILetter_eq (n : Nat) (a0 : DSlILetter) : Q_g_Clone_ILetter n a0 =
  nilC a0 fun b => bif b then some [] else if (0 : Nat) + List.length a0 ≤ lim then some a0 else none := by kernel_rfl
end Go.Sx.Tryz
set_option maxRecDepth 100000
namespace Go.Sx.Tryz
open Go Go.Sx Go.Proofs
noncomputable def l_i_clonePeer : List (Nat × Con) := [(127, c_g_Clone_Int), (128, c_g_Clone_ICell), (129, c_g_Clone_IUndo), (130, c_g_Clone_IVote), (131, c_g_Clone_ILetter)]
theorem l_i_clonePeer_ok : ∀ q ∈ l_i_clonePeer, ConOk Tryz.prog q.1 q.2 := Tryz.cons_cons c_g_Clone_Int_ok (Tryz.cons_cons c_g_Clone_ICell_ok (Tryz.cons_cons c_g_Clone_IUndo_ok (Tryz.cons_cons c_g_Clone_IVote_ok (Tryz.cons_cons c_g_Clone_ILetter_ok (Tryz.cons_nil)))))
def kp_i_clonePeer : KP := []
noncomputable def q_i_clonePeer (n : Nat) (x : Args [tIPeer]) := evX (false, false, [1, 3, 6, 9, 12, 15, 18]) l_i_clonePeer kp_i_clonePeer [some uIPeer] Tryz.f60 (shF uIPeer) n (encA [tIPeer] x)
noncomputable def c_i_clonePeer : Con := roS [tIPeer] true (shF uIPeer) (q_i_clonePeer big)
theorem c_i_clonePeer_ok : ConOk Tryz.prog 60 c_i_clonePeer := roS_ok ⟨Tryz.f60, by kernel_rfl, rfl, by decide⟩ fun _ _ h => evX_ok l_i_clonePeer_ok (f := Tryz.f60) (by kernel_rfl) rfl (by kernel_rfl) (by kernel_rfl) big h
noncomputable def Q_i_clonePeer (n : Nat) (a0 : DIPeer) : Option DIPeer := q_i_clonePeer n (a0, ())
theorem Q_i_clonePeer_eq (n : Nat) (a0 : DIPeer) : Q_i_clonePeer n a0 =
  (Q_g_Clone_Int big a0.2.2.2.2.2.1).bind fun y =>
 (Q_g_Clone_ICell big a0.2.2.2.2.2.2.1).bind fun y_1 =>
 (Q_g_Clone_Int big a0.2.2.2.2.2.2.2.1).bind fun y_2 =>
 (Q_g_Clone_IUndo big a0.2.2.2.2.2.2.2.2.1).bind fun y_3 =>
 (Q_g_Clone_IVote big a0.2.2.2.2.2.2.2.2.2.1).bind fun y_4 =>
 (Q_g_Clone_ILetter big a0.2.2.2.2.2.2.2.2.2.2.1).bind fun y_5 =>
 some
 (a0.1, a0.2.1, a0.2.2.1, a0.2.2.2.1, a0.2.2.2.2.1, y, y_1, y_2, y_3, y_4,
 y_5, a0.2.2.2.2.2.2.2.2.2.2.2) := by kernel_rfl
end Go.Sx.Tryz
set_option maxRecDepth 100000
namespace Go.Sx.Tryz
open Go Go.Sx Go.Proofs
noncomputable def l_i_Voted : List (Nat × Con) := [(60, c_i_clonePeer)]
theorem l_i_Voted_ok : ∀ q ∈ l_i_Voted, ConOk Tryz.prog q.1 q.2 := Tryz.cons_cons c_i_clonePeer_ok (Tryz.cons_nil)
def kp_i_Voted : KP := []
noncomputable def q_i_Voted (n : Nat) (x : Args [tIPeer, tInt, tInt, tInt]) := evX (false, false, [4, 10, 16, 21]) l_i_Voted kp_i_Voted [some uIPeer, none] Tryz.f12 (shT [(true, uIPeer), (false, tIVote)]) n (encA [tIPeer, tInt, tInt, tInt] x)
noncomputable def c_i_Voted : Con := roS [tIPeer, tInt, tInt, tInt] true (shT [(true, uIPeer), (false, tIVote)]) (q_i_Voted big)
theorem c_i_Voted_ok : ConOk Tryz.prog 12 c_i_Voted := roS_ok ⟨Tryz.f12, by kernel_rfl, rfl, by decide⟩ fun _ _ h => evX_ok l_i_Voted_ok (f := Tryz.f12) (by kernel_rfl) rfl (by kernel_rfl) (by kernel_rfl) big h
noncomputable def Q_i_Voted (n : Nat) (a0 : DIPeer) (a1 : Int) (a2 : Int) (a3 : Int) : Option (DIPeer × DIVote × Unit) := q_i_Voted n (a0, a1, a2, a3, ())
theorem Q_i_Voted_eq (n : Nat) (a0 : DIPeer) (a1 : Int) (a2 : Int) (a3 : Int) : Q_i_Voted n a0 a1 a2 a3 = (Q_i_clonePeer big a0).bind fun y => (fun zB => both (both zB zB) zB) (some ((y.1, y.2.1, y.2.2.1, y.2.2.2.1, (a1, a2, a3, a0.1, ()), y.2.2.2.2.2), (a1, a2, a3, a0.1, ()), ())) := by kernel_rfl
end Go.Sx.Tryz
set_option maxRecDepth 100000
namespace Go.Sx.Tryz
open Go Go.Sx Go.Proofs
noncomputable def l_i_MayVote : List (Nat × Con) := []
theorem l_i_MayVote_ok : ∀ q ∈ l_i_MayVote, ConOk Tryz.prog q.1 q.2 := Tryz.cons_nil
def kp_i_MayVote : KP := []
noncomputable def q_i_MayVote (n : Nat) (x : Args [tIPeer, tInt, tInt]) := evX (false, false, [3, 7, 8, 13, 14, 19, 20]) l_i_MayVote kp_i_MayVote [none] Tryz.f14 (shV tBool) n (encA [tIPeer, tInt, tInt] x)
noncomputable def c_i_MayVote : Con := roS [tIPeer, tInt, tInt] true (shV tBool) (q_i_MayVote big)
theorem c_i_MayVote_ok : ConOk Tryz.prog 14 c_i_MayVote := roS_ok ⟨Tryz.f14, by kernel_rfl, rfl, by decide⟩ fun _ _ h => evX_ok l_i_MayVote_ok (f := Tryz.f14) (by kernel_rfl) rfl (by kernel_rfl) (by kernel_rfl) big h
noncomputable def Q_i_MayVote (n : Nat) (a0 : DIPeer) (a1 : Int) (a2 : Int) : Option Bool := q_i_MayVote n (a0, a1, a2, ())
theorem Q_i_MayVote_eq (n : Nat) (a0 : DIPeer) (a1 : Int) (a2 : Int) : Q_i_MayVote n a0 a1 a2 =
  bif decide (a0.2.2.2.2.1.2.1 < a2) then some true
 else
 bif decide (a0.2.2.2.2.1.2.1 = a2) then some (decide (a0.2.2.2.2.1.1 < a1))
 else some false := by kernel_rfl
end Go.Sx.Tryz
set_option maxRecDepth 100000
namespace Go.Sx.Tryz
open Go Go.Sx Go.Proofs
noncomputable def l_l_big : List (Nat × Con) := []
theorem l_l_big_ok : ∀ q ∈ l_l_big, ConOk Tryz.prog q.1 q.2 := Tryz.cons_nil
def kp_l_big : KP := []
noncomputable def q_l_big (n : Nat) (x : Args [tSlUint8]) := evX (false, false, []) l_l_big kp_l_big [none] Tryz.f9 (shV tBool) n (encA [tSlUint8] x)
noncomputable def c_l_big : Con := roS [tSlUint8] true (shV tBool) (q_l_big big)
theorem c_l_big_ok : ConOk Tryz.prog 9 c_l_big := roS_ok ⟨Tryz.f9, by kernel_rfl, rfl, by decide⟩ fun _ _ h => evX_ok l_l_big_ok (f := Tryz.f9) (by kernel_rfl) rfl (by kernel_rfl) (by kernel_rfl) big h
end Go.Sx.Tryz
set_option maxRecDepth 100000
namespace Go.Sx.Tryz
open Go Go.Sx Go.Proofs
noncomputable def l_l_FnVotesOnce : List (Nat × Con) := [(9, c_l_big), (10, c_s_DrawPeer), (11, c_s_DrawPlaces), (12, c_i_Voted), (13, c_s_DrawMayVote), (14, c_i_MayVote), (15, c_s_MayVote)]
theorem l_l_FnVotesOnce_ok : ∀ q ∈ l_l_FnVotesOnce, ConOk Tryz.prog q.1 q.2 := Tryz.cons_cons c_l_big_ok (Tryz.cons_cons c_s_DrawPeer_ok (Tryz.cons_cons c_s_DrawPlaces_ok (Tryz.cons_cons c_i_Voted_ok (Tryz.cons_cons c_s_DrawMayVote_ok (Tryz.cons_cons c_i_MayVote_ok (Tryz.cons_cons c_s_MayVote_ok (Tryz.cons_nil)))))))
def kp_l_FnVotesOnce : KP := []
noncomputable def q_l_FnVotesOnce (n : Nat) (x : Args [tSlUint8]) := evX (false, false, [4, 7, 8, 9, 19, 46, 48, 52, 57, 101, 103]) l_l_FnVotesOnce kp_l_FnVotesOnce [none] Tryz.f3 (shV tBool) n (encA [tSlUint8] x)
noncomputable def Q_l_FnVotesOnce (n : Nat) (a0 : DSlUint8) : Option Bool := q_l_FnVotesOnce n (a0, ())
theorem Q_l_FnVotesOnce_eq (n : Nat) (a0 : DSlUint8) : Q_l_FnVotesOnce n a0 =
  bif decide ((1048576 : Int) < (↑(List.length a0) : Int)) then some true
 else
 (Q_s_DrawPeer big a0).bind fun y =>
 (Q_s_DrawPlaces big a0).bind fun y_1 =>
 if (0 : Int) < (↑(List.length y_1) : Int) then
 (nth y_1 (Int.toNat (0 : Int))).bind fun y_2 =>
 (Q_s_DrawPlaces big a0).bind fun y_3 =>
 if (1 : Int) < (↑(List.length y_3) : Int) then
 (nth y_3 (Int.toNat (1 : Int))).bind fun y_4 =>
 (Q_i_Voted big y.2.1 (IntKind.i64.wrap ((1 : Int) + Int.tmod y_4 (3 : Int)))
 (IntKind.i64.wrap (y.2.1.2.1 + Int.tmod y_2 (3 : Int))) (7 : Int)).bind
 fun y_5 =>
 (Q_s_DrawMayVote big a0).bind fun y_6 =>
 bif decide (y_5.2.1.2.2.2.1 = y.2.1.1) then
 bif decide (y_5.2.1.2.2.1 = (7 : Int)) then
 bif eqD tIVote y_5.1.2.2.2.2.1 y_5.2.1 then
 (Q_i_MayVote big y_5.1 (IntKind.i64.wrap ((1 : Int) + Int.tmod y_4 (3 : Int)))
 (IntKind.i64.wrap (y.2.1.2.1 + Int.tmod y_2 (3 : Int)))).bind
 fun y_7 =>
 bif !y_7 then
 (Q_i_MayVote big y_5.1
 (IntKind.i64.wrap
 (IntKind.i64.wrap ((1 : Int) + Int.tmod y_4 (3 : Int)) + (1 : Int)))
 (IntKind.i64.wrap (y.2.1.2.1 + Int.tmod y_2 (3 : Int)))).bind
 fun y_8 =>
 bif y_8 then
 (Q_i_MayVote big y_5.1 (1 : Int)
 (IntKind.i64.wrap
 (IntKind.i64.wrap (y.2.1.2.1 + Int.tmod y_2 (3 : Int)) +
 (1 : Int)))).bind
 fun y_9 =>
 bif y_9 then
 (Q_i_MayVote big y_5.1 (4 : Int)
 (IntKind.i64.wrap
 (IntKind.i64.wrap (y.2.1.2.1 + Int.tmod y_2 (3 : Int)) -
 (1 : Int)))).bind
 fun y_10 =>
 bif !y_10 then
 (Q_i_MayVote big y_6.1 y_6.2.1 y_6.2.2.1).bind fun y_11 =>
 (Q_s_MayVote big y_6.1 y_6.2.1 y_6.2.2.1).bind fun y_12 =>
 bif y_11 == y_12 then
 some (decide (y_5.1.2.1 = y.2.1.2.1))
 else some false
 else some false
 else some false
 else some false
 else some false
 else some false
 else some false
 else some false
 else none
 else none := by kernel_rfl
end Go.Sx.Tryz
