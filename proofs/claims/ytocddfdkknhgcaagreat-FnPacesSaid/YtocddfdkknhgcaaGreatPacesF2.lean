/- The functions of the seat: what each comes to. -/
import Derived.Test.YtocddfdkknhgcaaGreatTypes
import Derived.Test.YtocddfdkknhgcaaGreatPacesF1
set_option linter.unusedVariables false
set_option linter.unusedSimpArgs false
set_option maxRecDepth 100000
namespace Go.Sx.Tryz
open Go Go.Sx Go.Proofs
def shI : Sh Res := ⟨id, some, fun r x h => by cases h; exact ZBR.of_eq rfl⟩
noncomputable def ZsX (n : Nat) (args : List SV) : Option Res := bif Zeg args [] then evX (false, false, []) [] [] [none] Tryz.f214 shI n args else none
def ZDa (v3 v4 v5 v6 v7 : Value) (x : Zl) : SV := .mr [.val Zn x.1, .val ZE x.2.1, .val Zn x.2.2.1, .vl v3 Zh x.2.2.2.1, .vl v4 YL x.2.2.2.2.1, .vl v5 ZG x.2.2.2.2.2.1, .vl v6 ZM x.2.2.2.2.2.2.1, .vl v7 Yu x.2.2.2.2.2.2.2.1]
abbrev cX (v3 v4 v6 v7 : Value) (e : SV) (x : Zl) : List SV := [.val Zn x.1, .val ZE x.2.1, .val Zn x.2.2.1, .vl v3 Zh x.2.2.2.1, .vl v4 YL x.2.2.2.2.1, e, .vl v6 ZM x.2.2.2.2.2.2.1, .vl v7 Yu x.2.2.2.2.2.2.2.1]
theorem Zzs (v3 v4 v5 v6 v7 : Value) (x : Zl) (l : ZO) (n : Nat) : ZsX n [ZDa v3 v4 v5 v6 v7 x, .val ZG l] =
  bif decide ((60 : Int) < IntKind.i64.wrap ((↑(List.length x.2.2.2.2.2.1) : Int) + (↑(List.length l) : Int))) then some (.val .bool false, [cX v3 v4 v6 v7 (.vl v5 ZG x.2.2.2.2.2.1) x])
  else if 0 + List.length x.2.2.2.2.2.1 ≤ lim then if List.length x.2.2.2.2.2.1 + List.length l ≤ lim then some (.val .bool true, [cX v3 v4 v6 v7 (.fr ZD (List.append x.2.2.2.2.2.1 l)) x]) else none else none := by kernel_rfl
def unV (t : Ty) (l : List SV) : Option (t.den × List SV) := match l with
 | .val s x :: r => (match toS s t x with | some y => some (y, r) | none => none)
 | _ => none
def unX (t : Ty) (l : List SV) : Option (Value × t.den × List SV) := match l with
 | .vl c s x :: r => (match toS s t x with | some y => some (c, y, r) | none => none)
 | _ => none
theorem ZA4 {t : Ty} {l : List SV} {x : t.den} {r : List SV} (h : unV t l = some (x, r)) : l = .val t x :: r := by
 unfold unV at h
 split at h
 ·split at h
  ·rename_i hy
   cases h
   obtain ⟨e, h2⟩ := Zdo hy
   subst e; subst h2
   rfl
  ·cases h
 ·cases h
theorem ZvE {t : Ty} {l : List SV} {c : Value} {x : t.den} {r : List SV} (h : unX t l = some (c, x, r)) : l = .vl c t x :: r := by
 unfold unX at h
 split at h
 ·split at h
  ·rename_i hy
   cases h
   obtain ⟨e, h2⟩ := Zdo hy
   subst e; subst h2
   rfl
  ·cases h
 ·cases h
abbrev XD : Type := (Value × Value × Value × Value × Value) × Zl × ZO
def ZGe (l0 : List SV) : Option ((Value × Value × Value × Value × Value) × Zl) :=
 (unV Zn l0).bind fun q1 => (unV ZE q1.2).bind fun q2 => (unV Zn q2.2).bind fun q3 => (unX Zh q3.2).bind fun q4 => (unX YL q4.2.2).bind fun q5 => (unX ZG q5.2.2).bind fun q6 =>
  (unX ZM q6.2.2).bind fun q7 => (unX Yu q7.2.2).bind fun q8 => match q8.2.2 with
  | [] => some ((q4.1, q5.1, q6.1, q7.1, q8.1), (q1.1, q2.1, q3.1, q4.2.1, q5.2.1, q6.2.1, q7.2.1, q8.2.1, ()))
  | _ :: _ => none
def ZGf (args : List SV) : Option XD := match args with
 | [.mr l0, .val t9 l] => (ZGe l0).bind fun q => (toS t9 ZG l).bind fun y => some (q.1, q.2, y)
 | _ => none
theorem ZDR {l0 : List SV} {q : (Value × Value × Value × Value × Value) × Zl} (h : ZGe l0 = some q) : SV.mr l0 = ZDa q.1.1 q.1.2.1 q.1.2.2.1 q.1.2.2.2.1 q.1.2.2.2.2 q.2 := by
 unfold ZGe at h
 obtain ⟨q1, h1, h⟩ := Option.bind_eq_some_iff.1 h
 obtain ⟨q2, h2, h⟩ := Option.bind_eq_some_iff.1 h
 obtain ⟨q3, h3, h⟩ := Option.bind_eq_some_iff.1 h
 obtain ⟨q4, h4, h⟩ := Option.bind_eq_some_iff.1 h
 obtain ⟨q5, h5, h⟩ := Option.bind_eq_some_iff.1 h
 obtain ⟨q6, h6, h⟩ := Option.bind_eq_some_iff.1 h
 obtain ⟨q7, h7, h⟩ := Option.bind_eq_some_iff.1 h
 obtain ⟨q8, h8, h⟩ := Option.bind_eq_some_iff.1 h
 split at h
 ·rename_i h9
  simp only [Option.some.injEq] at h
  subst h
  have e8 := ZvE h8
  rw [h9] at e8
  rw [ZA4 h1, ZA4 h2, ZA4 h3, ZvE h4, ZvE h5, ZvE h6, ZvE h7, e8]
  rfl
 ·cases h
theorem ZDS {args : List SV} {q : XD} (h : ZGf args = some q) : args = [ZDa q.1.1 q.1.2.1 q.1.2.2.1 q.1.2.2.2.1 q.1.2.2.2.2 q.2.1, .val ZG q.2.2] := by
 unfold ZGf at h
 split at h
 ·obtain ⟨q1, h1, h⟩ := Option.bind_eq_some_iff.1 h
  obtain ⟨y, h2, h⟩ := Option.bind_eq_some_iff.1 h
  simp only [Option.some.injEq] at h
  subst h
  obtain ⟨e, h3⟩ := Zdo h2
  subst e; subst h3
  rw [ZDR h1]
 ·cases h
noncomputable def ZGg {R : Type} (q : XD) (K : SV → List (List SV) → Option R) : Option R :=
 bif decide ((60 : Int) < IntKind.i64.wrap ((↑(List.length q.2.1.2.2.2.2.2.1) : Int) + (↑(List.length q.2.2) : Int))) then K (.val .bool false) [cX q.1.1 q.1.2.1 q.1.2.2.2.1 q.1.2.2.2.2 (.vl q.1.2.2.1 ZG q.2.1.2.2.2.2.2.1) q.2.1]
 else if 0 + List.length q.2.1.2.2.2.2.2.1 ≤ lim then if List.length q.2.1.2.2.2.2.2.1 + List.length q.2.2 ≤ lim then K (.val .bool true) [cX q.1.1 q.1.2.1 q.1.2.2.2.1 q.1.2.2.2.2 (.fr ZD (List.append q.2.1.2.2.2.2.2.1 q.2.2)) q.2.1] else none else none
noncomputable def Zmx : Con := ⟨[.mref, .ro ZG], fun _ args K => (ZGf args).bind fun q => ZGg q K, false⟩
theorem ZA5 (n : Nat) (args : List SV) (r0 : Res) (hb : Zeg args [] = true) (h1 : evX (false, false, []) [] [] [none] Tryz.f214 shI n args = some r0) : Jv Tryz.prog 214 args (shI.sh r0).1 (shI.sh r0).2 :=
 Zw Tryz.cons_nil (by kernel_rfl) rfl (by kernel_rfl) hb n h1
theorem Zzt (args : List SV) (r0 : Res) (h1 : ZsX big args = some r0) : Jv Tryz.prog 214 args r0.1 r0.2 := by
 unfold ZsX at h1
 cases hb : Zeg args [] with
 | false => rw [hb] at h1; cases h1
 | true =>
  rw [hb, cond_true] at h1
  exact ZA5 big args r0 hb h1
theorem Zzu {R : Type} {P : SV → List (List SV) → Prop} {o : Option Res} (fin : ∀ r0 : Res, o = some r0 → P r0.1 r0.2) {c1 : Bool} {c2 c3 : Prop} [Decidable c2] [Decidable c3] {a b : SV} {x y : List (List SV)}
  (hp : o = bif c1 then some (a, x) else if c2 then if c3 then some (b, y) else none else none) {K : SV → List (List SV) → Option R} {r : R} (h : (bif c1 then K a x else if c2 then if c3 then K b y else none else none) = some r) : ∃ sv outs, P sv outs ∧ K sv outs = some r := by
 cases c1 with
 | true => exact ⟨a, x, fin (a, x) hp, h⟩
 | false =>
  simp only [cond_false] at h hp
  split at h
  ·rename_i g1
   rw [if_pos g1] at hp
   split at h
   ·rename_i g2
    rw [if_pos g2] at hp
    exact ⟨b, y, fin (b, y) hp, h⟩
   ·cases h
  ·cases h
theorem ZA6 {R : Type} {c1 : Bool} {c2 c3 : Prop} [Decidable c2] [Decidable c3] {a b : SV} {x y : List (List SV)} {K K' : SV → List (List SV) → Option R} {r : R} (hk : ∀ sv outs, K sv outs = some r → K' sv outs = some r)
  (h : (bif c1 then K a x else if c2 then if c3 then K b y else none else none) = some r) : (bif c1 then K' a x else if c2 then if c3 then K' b y else none else none) = some r := by
 cases c1 with
 | true => exact hk _ _ h
 | false =>
  simp only [cond_false] at h ⊢
  split at h
  ·split at h
   ·rename_i g1 g2; rw [if_pos g1, if_pos g2]; exact hk _ _ h
   ·cases h
  ·cases h
theorem ZvF : Zo Tryz.prog 214 Zmx := by
 refine ⟨⟨Tryz.f214, by kernel_rfl, rfl, by decide⟩, fun R args K r he => ?_, fun R args K K' r hk he => ?_⟩
 ·obtain ⟨q, h1, h2⟩ := Option.bind_eq_some_iff.1 he
  have hp := Zzs q.1.1 q.1.2.1 q.1.2.2.1 q.1.2.2.2.1 q.1.2.2.2.2 q.2.1 q.2.2 big
  rw [← ZDS h1] at hp
  have fin := fun r0 => Zzt args r0
  generalize ZsX big args = o at hp fin
  exact Zzu fin hp h2
 ·obtain ⟨q, h1, h2⟩ := Option.bind_eq_some_iff.1 he
  exact Option.bind_eq_some_iff.2 ⟨q, h1, ZA6 hk h2⟩
noncomputable def ZsY (n : Nat) (v3 v4 v5 v6 v7 : Value) (x : Zl) (k : Int) : Option Res := evX (false, false, []) [(67, Yn), (214, Zmx)] [] [none] Tryz.f183 shI n [ZDa v3 v4 v5 v6 v7 x, .val Zn k]
abbrev twL (x : Zl) (k : Int) : List Zs := List.take ((IntKind.i64.wrap (k + 1)).toNat - k.toNat) (List.drop k.toNat x.2.2.2.2.2.1)
theorem Zxu (v3 v4 v5 v6 v7 : Value) (x : Zl) (k : Int) (n : Nat) : ZsY n v3 v4 v5 v6 v7 x k =
  (ZQ big k 0 (IntKind.i64.wrap ((↑(List.length x.2.2.2.2.2.1) : Int) - 1))).bind fun y => bif !y then some (.val .bool false, [cX v3 v4 v6 v7 (.vl v5 ZG x.2.2.2.2.2.1) x]) else
  if 0 ≤ IntKind.i64.wrap (k + 1) then if IntKind.i64.wrap (k + 1) ≤ (↑(List.length x.2.2.2.2.2.1) : Int) then if 0 ≤ k then if k ≤ IntKind.i64.wrap (k + 1) then
  bif decide ((60 : Int) < IntKind.i64.wrap ((↑(List.length x.2.2.2.2.2.1) : Int) + (↑(List.length (twL x k)) : Int))) then some (.val .bool false, [cX v3 v4 v6 v7 (.vl v5 ZG x.2.2.2.2.2.1) x])
  else if 0 + List.length x.2.2.2.2.2.1 ≤ lim then if List.length x.2.2.2.2.2.1 + List.length (twL x k) ≤ lim then some (.val .bool true, [cX v3 v4 v6 v7 (.fr ZD (List.append x.2.2.2.2.2.1 (twL x k))) x]) else none else none
  else none else none else none else none := by kernel_rfl
theorem Xz {im : Nat → Prop} {w : World} {x : SV} {l : List SV} {cs : List Value} {S : List Nat} (h : CVL im w (x :: l) cs S []) : ∃ c r S1 S2, cs = c :: r ∧ S = S1 ++ S2 ∧ CV im w x c S1 [] ∧ CVL im w l r S2 [] := by
 simp only [CVL] at h
 obtain ⟨c, r, S1, S2, B1, B2, h1, h2, h3, h4, h5⟩ := h
 obtain ⟨rfl, rfl⟩ := List.append_eq_nil_iff.1 h3.symm
 exact ⟨c, r, S1, S2, h1, h2, h4, h5⟩
theorem ZA7 {im : Nat → Prop} {w : World} {cs : List Value} {S : List Nat} (h : CVL im w [] cs S []) : cs = [] ∧ S = [] := by
 simp only [CVL] at h; exact ⟨h.1, h.2.1⟩
theorem US {im : Nat → Prop} {w : World} {x : SV} {l : List SV} {c : Value} {r : List Value} {S1 S2 : List Nat} (h4 : CV im w x c S1 []) (h5 : CVL im w l r S2 []) : CVL im w (x :: l) (c :: r) (S1 ++ S2) [] := by
 simp only [CVL]; exact ⟨c, r, S1, S2, [], [], rfl, rfl, rfl, h4, h5⟩
theorem ZA8 {im : Nat → Prop} {w : World} : CVL im w [] [] [] [] := by simp [CVL]
theorem ZvG {im : Nat → Prop} {w : World} {n : Int} {c : Value} {S : List Nat} {B : List LC} (h : CV im w (.val Zn n) c S B) : S = [] ∧ B = [] ∧ ∀ (im' : Nat → Prop) (w' : World), CV im' w' (.val Zn n) c [] [] := by
 simp only [CV] at h
 obtain ⟨rfl, rfl, cs, h1, rfl⟩ := h
 exact ⟨rfl, rfl, fun im' w' => by simp only [CV]; exact ⟨trivial, trivial, cs, h1, rfl⟩⟩
theorem Zxv {im : Nat → Prop} {w : World} {n : Bool} {c : Value} {S : List Nat} {B : List LC} (h : CV im w (.val ZE n) c S B) : S = [] ∧ B = [] ∧ ∀ (im' : Nat → Prop) (w' : World), CV im' w' (.val ZE n) c [] [] := by
 simp only [CV] at h
 obtain ⟨rfl, rfl, cs, h1, rfl⟩ := h
 exact ⟨rfl, rfl, fun im' w' => by simp only [CV]; exact ⟨trivial, trivial, cs, h1, rfl⟩⟩
theorem Zzv {im : Nat → Prop} {w : World} {t : Ty} {y : List t.den} {c : Value} {S : List Nat} (h : CV im w (.fr t y) c S []) : 0 < t.size ∧ TR im w true (.sl true t) y [c] S := by
 simp only [CV] at h; exact h.2
theorem ZA9 {im : Nat → Prop} {w : World} {t : Ty} {y : t.den} {c c0 : Value} {S : List Nat} (h : CV im w (.vl c0 t y) c S []) : S = [] ∧ c = c0 := by
 simp only [CV] at h; exact ⟨h.1, h.2.2.1⟩
theorem vlB {p p2 : Nat → Prop} {w : World} {S : List Nat} {c : Value} {y : List ZN} (h1 : ∀ k, p k → p2 k) (h2 : ∀ k ∈ S, p2 k) (h : TR p w true (.sl true YU) y [c] S) : CV p2 w (.vl c Zh y) c [] [] := by
 simp only [CV]
 exact ⟨trivial, trivial, trivial, [c], TR.weak h1 (.sl true YU) y [c] S true h2 h, rfl⟩
theorem vlP {p p2 : Nat → Prop} {w : World} {S : List Nat} {c : Value} {y : List Zq} (h1 : ∀ k, p k → p2 k) (h2 : ∀ k ∈ S, p2 k) (h : TR p w true (.sl true ZC) y [c] S) : CV p2 w (.vl c YL y) c [] [] := by
 simp only [CV]
 exact ⟨trivial, trivial, trivial, [c], TR.weak h1 (.sl true ZC) y [c] S true h2 h, rfl⟩
theorem vlL {p p2 : Nat → Prop} {w : World} {S : List Nat} {c : Value} {y : List Zs} (h1 : ∀ k, p k → p2 k) (h2 : ∀ k ∈ S, p2 k) (h : TR p w true (.sl true ZD) y [c] S) : CV p2 w (.vl c ZG y) c [] [] := by
 simp only [CV]
 exact ⟨trivial, trivial, trivial, [c], TR.weak h1 (.sl true ZD) y [c] S true h2 h, rfl⟩
theorem vlV {p p2 : Nat → Prop} {w : World} {S : List Nat} {c : Value} {y : List ZX} (h1 : ∀ k, p k → p2 k) (h2 : ∀ k ∈ S, p2 k) (h : TR p w true (.sl true ZV) y [c] S) : CV p2 w (.vl c ZM y) c [] [] := by
 simp only [CV]
 exact ⟨trivial, trivial, trivial, [c], TR.weak h1 (.sl true ZV) y [c] S true h2 h, rfl⟩
theorem vlC {p p2 : Nat → Prop} {w : World} {S : List Nat} {c : Value} {y : List Vc} (h1 : ∀ k, p k → p2 k) (h2 : ∀ k ∈ S, p2 k) (h : TR p w true (.sl true VI) y [c] S) : CV p2 w (.vl c Yu y) c [] [] := by
 simp only [CV]
 exact ⟨trivial, trivial, trivial, [c], TR.weak h1 (.sl true VI) y [c] S true h2 h, rfl⟩
abbrev muC (x : Zl) (l : List Zs) : List SV := [.val Zn x.1, .val ZE x.2.1, .val Zn x.2.2.1, .fr YU x.2.2.2.1, .fr ZC x.2.2.2.2.1, .fr ZD l, .fr ZV x.2.2.2.2.2.2.1, .fr VI x.2.2.2.2.2.2.2.1]
def ZGh (v5 : Value) (x : Zl) : Option (List Zs) → SV
 | none => .vl v5 ZG x.2.2.2.2.2.1
 | some y => .fr ZD y
set_option maxHeartbeats 4000000 in
theorem ZDT (x : Zl) (k : Int) (b : Bool) (o : Option (List Zs))
  (h : ∀ v3 v4 v5 v6 v7, Jv Tryz.prog 183 [ZDa v3 v4 v5 v6 v7 x, .val Zn k] (.val .bool b) [cX v3 v4 v6 v7 (ZGh v5 x o) x]) :
  Jv Tryz.prog 183 [.mr (muC x x.2.2.2.2.2.1), .val Zn k] (.val .bool b) [muC x (o.getD x.2.2.2.2.2.1)] := by
 intro p w cargs S B hcv hnd hS hp hnt
 simp only [CVL] at hcv
 obtain ⟨c, r, S0, S9, B0, B9, rfl, rfl, rfl, hc, c9, r9, Sa, Sb, Ba, Bb, rfl, rfl, rfl, hk, rfl, rfl, rfl⟩ := hcv
 simp only [CV] at hc
 obtain ⟨blk, cs, e, S', rfl, rfl, rfl, hheap, hcells⟩ := hc
 obtain ⟨rfl, rfl, hk'⟩ := ZvG hk
 obtain ⟨c0, r0, T0, U0, rfl, rfl, h0, hcells⟩ := Xz hcells
 obtain ⟨c1, r1, T1, U1, rfl, rfl, h1, hcells⟩ := Xz hcells
 obtain ⟨c2, r2, T2, U2, rfl, rfl, h2, hcells⟩ := Xz hcells
 obtain ⟨c3, r3, S3, U3, rfl, rfl, h3, hcells⟩ := Xz hcells
 obtain ⟨c4, r4, S4, U4, rfl, rfl, h4, hcells⟩ := Xz hcells
 obtain ⟨c5, r5, S5, U5, rfl, rfl, h5, hcells⟩ := Xz hcells
 obtain ⟨c6, r6, S6, U6, rfl, rfl, h6, hcells⟩ := Xz hcells
 obtain ⟨c7, r7, S7, U7, rfl, rfl, h7, hcells⟩ := Xz hcells
 obtain ⟨rfl, rfl⟩ := ZA7 hcells
 obtain ⟨rfl, _, k0⟩ := ZvG h0
 obtain ⟨rfl, _, k1⟩ := Zxv h1
 obtain ⟨rfl, _, k2⟩ := ZvG h2
 obtain ⟨p3, t3⟩ := Zzv h3
 obtain ⟨p4, t4⟩ := Zzv h4
 obtain ⟨p5, t5⟩ := Zzv h5
 obtain ⟨p6, t6⟩ := Zzv h6
 obtain ⟨p7, t7⟩ := Zzv h7
 simp only [List.nil_append, List.append_nil] at hnd hS ⊢
 -- what the lists are read from
 let p2 : Nat → Prop := fun k => p k ∨ k ∈ S3 ++ (S4 ++ (S5 ++ (S6 ++ S7)))
 obtain ⟨hnb, hnl⟩ := List.nodup_cons.1 hnd
 have lt : ∀ k ∈ S3 ++ (S4 ++ (S5 ++ (S6 ++ S7))), ¬ p k ∧ k < w.heap.size := fun k hk => hS k (List.mem_cons_of_mem _ hk)
 have hb := hS blk (List.mem_cons_self ..)
 have q1 : ∀ k, p k → p2 k := fun k hk => .inl hk
 have q3 : ∀ k ∈ S3, p2 k := fun k hk => .inr (by simp [hk])
 have q4 : ∀ k ∈ S4, p2 k := fun k hk => .inr (by simp [hk])
 have q5 : ∀ k ∈ S5, p2 k := fun k hk => .inr (by simp [hk])
 have q6 : ∀ k ∈ S6, p2 k := fun k hk => .inr (by simp [hk])
 have q7 : ∀ k ∈ S7, p2 k := fun k hk => .inr (by simp [hk])
 have hX : CVL p2 w [ZDa c3 c4 c5 c6 c7 x, .val Zn k] [.pointer (some ⟨blk, 0, none⟩), c9] [blk] [.box blk] := by
  simp only [CVL]
  refine ⟨_, _, [blk], [], [.box blk], [], rfl, rfl, rfl, ?_, _, _, [], [], [], [], rfl, rfl, rfl, hk' p2 w, rfl, rfl, rfl⟩
  unfold ZDa
  simp only [CV]
  refine ⟨blk, _, e, [], rfl, rfl, rfl, hheap, ?_⟩
  exact US (S1 := []) (k0 p2 w) (US (S1 := []) (k1 p2 w) (US (S1 := []) (k2 p2 w) (US (S1 := []) (vlB q1 q3 t3) (US (S1 := []) (vlP q1 q4 t4) (US (S1 := []) (vlL q1 q5 t5) (US (S1 := []) (vlV q1 q6 t6) (US (S1 := []) (vlC q1 q7 t7) ZA8)))))))
 refine (h c3 c4 c5 c6 c7 p2 w _ [blk] [.box blk] hX (by simp) (fun k hk => ?_) (fun k hk => ?_) (fun t ht => by cases ht)).mono ?_
 ·simp only [List.mem_singleton] at hk
  subst hk
  exact ⟨fun hc => hc.elim hb.1 hnb, hb.2⟩
 ·rcases hk with hk | hk
  ·exact hp k hk
  ·exact (lt k hk).2
 rintro e' w' ⟨cr, S1, S2, he, hnd2, hrg, hkept, hcr, houts⟩
 obtain ⟨rfl, _, kb⟩ := Zxv hcr
 simp only [Qb] at houts
 obtain ⟨cells, e2, V1, V2, rfl, hheap', hc', rfl⟩ := houts
 simp only [List.nil_append, List.append_nil] at hnd2 hrg hc'
 obtain ⟨d0, r0, T0, U0, rfl, rfl, g0, hc'⟩ := Xz hc'
 obtain ⟨d1, r1, T1, U1, rfl, rfl, g1, hc'⟩ := Xz hc'
 obtain ⟨d2, r2, T2, U2, rfl, rfl, g2, hc'⟩ := Xz hc'
 obtain ⟨d3, r3, T3, U3, rfl, rfl, g3, hc'⟩ := Xz hc'
 obtain ⟨d4, r4, T4, U4, rfl, rfl, g4, hc'⟩ := Xz hc'
 obtain ⟨d5, r5, T5, U5, rfl, rfl, g5, hc'⟩ := Xz hc'
 obtain ⟨d6, r6, T6, U6, rfl, rfl, g6, hc'⟩ := Xz hc'
 obtain ⟨d7, r7, T7, U7, rfl, rfl, g7, hc'⟩ := Xz hc'
 obtain ⟨rfl, rfl⟩ := ZA7 hc'
 obtain ⟨rfl, _, k0⟩ := ZvG g0
 obtain ⟨rfl, _, k1⟩ := Zxv g1
 obtain ⟨rfl, _, k2⟩ := ZvG g2
 obtain ⟨rfl, rfl⟩ := ZA9 g3
 obtain ⟨rfl, rfl⟩ := ZA9 g4
 obtain ⟨rfl, rfl⟩ := ZA9 g6
 obtain ⟨rfl, rfl⟩ := ZA9 g7
 simp only [List.nil_append, List.append_nil] at hnd2 hrg
 obtain ⟨hn5, hnd5⟩ := List.nodup_cons.1 hnd2
 -- the letters' blocks behind the call
 have hT5 : ∀ k ∈ T5, w.heap.size ≤ k := fun k hk => by
  rcases (hrg k (List.mem_cons_of_mem _ hk)).1 with e | e
  ·simp only [List.mem_singleton] at e; subst e; exact absurd hk hn5
  ·exact e
 have same : ∀ k, k < w.heap.size → k ≠ blk → w'.heap[k]? = w.heap[k]? := fun k hk hne => hkept.same k hk (by simpa using hne)
 obtain ⟨S5', hS5, h5'⟩ : ∃ S5' : List Nat, (S5' = S5 ∨ S5' = T5) ∧ ∀ im' : Nat → Prop, (∀ b, p b → im' b) → CV im' w' (.fr ZD (o.getD x.2.2.2.2.2.1)) d5 S5' [] := by
  cases o with
  | none =>
   obtain ⟨rfl, rfl⟩ := ZA9 (show CV _ w' (.vl c5 ZG x.2.2.2.2.2.1) d5 T5 [] from g5)
   refine ⟨S5, .inl rfl, fun im' hi => ?_⟩
   simp only [CV, Option.getD]
   refine ⟨trivial, p5, t5.mono (fun b hb2 => ⟨hi b hb2, same b (hp b hb2) (fun e => hb.1 (e ▸ hb2))⟩) _ _ _ _ _ (fun b hb2 => same b (lt b (by simp [hb2])).2 (fun e => hnb (e ▸ by simp [hb2])))⟩
  | some y =>
   obtain ⟨q, tq⟩ := Zzv (show CV _ w' (.fr ZD y) d5 T5 [] from g5)
   refine ⟨T5, .inr rfl, fun im' _ => ?_⟩
   simp only [CV, Option.getD]
   exact ⟨trivial, q, tq.noRo rfl⟩
 have m5 : ∀ k ∈ S5', (k ∈ S5 ∨ w.heap.size ≤ k) ∧ k < w'.heap.size ∧ k ≠ blk := fun k hk => by
  rcases hS5 with e | e
  ·subst e
   have := (lt k (by simp [hk])).2
   exact ⟨.inl hk, by have := hkept.size; omega, fun e => hnb (e ▸ by simp [hk])⟩
  ·subst e
   exact ⟨.inr (hT5 k hk), (hrg k (List.mem_cons_of_mem _ hk)).2, fun e => hn5 (e ▸ hk)⟩
 have n5 : S5'.Nodup := by
  rcases hS5 with e | e
  ·subst e
   exact (List.nodup_append.1 (List.nodup_append.1 (List.nodup_append.1 hnl).2.1).2.1).1
  ·subst e; exact hnd5
 obtain ⟨a3, ar3, ad3⟩ := List.nodup_append.1 hnl
 obtain ⟨a4, ar4, ad4⟩ := List.nodup_append.1 ar3
 obtain ⟨a5, ar5, ad5⟩ := List.nodup_append.1 ar4
 have d5 : ∀ a ∈ S5', ∀ b ∈ S6 ++ S7, a ≠ b := fun a ha b hb2 => by
  rcases (m5 a ha).1 with q | q
  ·exact ad5 a q b hb2
  ·have := (lt b (List.mem_append.2 (.inr (List.mem_append.2 (.inr (List.mem_append.2 (.inr hb2))))))).2
   omega
 have d4 : ∀ a ∈ S4, ∀ b ∈ S5' ++ (S6 ++ S7), a ≠ b := fun a ha b hb2 => by
  rcases List.mem_append.1 hb2 with hb2 | hb2
  ·rcases (m5 b hb2).1 with q | q
   ·exact ad4 a ha b (List.mem_append.2 (.inl q))
   ·have := (lt a (by simp [ha])).2
    omega
  ·exact ad4 a ha b (List.mem_append.2 (.inr hb2))
 have d3 : ∀ a ∈ S3, ∀ b ∈ S4 ++ (S5' ++ (S6 ++ S7)), a ≠ b := fun a ha b hb2 => by
  rcases List.mem_append.1 hb2 with hb2 | hb2
  ·exact ad3 a ha b (List.mem_append.2 (.inl hb2))
  ·rcases List.mem_append.1 hb2 with hb2 | hb2
   ·rcases (m5 b hb2).1 with q | q
    ·exact ad3 a ha b (List.mem_append.2 (.inr (List.mem_append.2 (.inl q))))
    ·have := (lt a (by simp [ha])).2
     omega
   ·exact ad3 a ha b (List.mem_append.2 (.inr (List.mem_append.2 (.inr hb2))))
 have old : ∀ k, (k ∈ S3 ∨ k ∈ S4 ∨ k ∈ S6 ∨ k ∈ S7) → k ∈ S3 ++ (S4 ++ (S5 ++ (S6 ++ S7))) := fun k hk => by
  simp only [List.mem_append]
  rcases hk with q | q | q | q
  ·exact .inl q
  ·exact .inr (.inl q)
  ·exact .inr (.inr (.inr (.inl q)))
  ·exact .inr (.inr (.inr (.inr q)))
 have split : ∀ k, k ∈ S3 ++ (S4 ++ (S5' ++ (S6 ++ S7))) → k ∈ S5' ∨ (k ∈ S3 ∨ k ∈ S4 ∨ k ∈ S6 ∨ k ∈ S7) := fun k hk => by
  simp only [List.mem_append] at hk
  rcases hk with q | q | q | q | q
  ·exact .inr (.inl q)
  ·exact .inr (.inr (.inl q))
  ·exact .inl q
  ·exact .inr (.inr (.inr (.inl q)))
  ·exact .inr (.inr (.inr (.inr q)))
 have hnb' : blk ∉ S3 ++ (S4 ++ (S5' ++ (S6 ++ S7))) := fun hm => by
  rcases split blk hm with q | q
  ·exact (m5 blk q).2.2 rfl
  ·exact hnb (old blk q)
 have hsz := hkept.size
 have hi : ∀ b, p b → after p (blk :: (S3 ++ (S4 ++ (S5 ++ (S6 ++ S7))))) ([] ++ blk :: (S3 ++ (S4 ++ (S5' ++ (S6 ++ S7))))) w w' b := fun b hb2 => by
  have hlt := hp b hb2
  refine ⟨.inl hb2, by omega, fun hm => ?_⟩
  rcases List.mem_cons.1 hm with q | q
  ·exact hb.1 (q ▸ hb2)
  ·rcases split b q with q | q
   ·rcases (m5 b q).1 with q | q
    ·exact (lt b (by simp [q])).1 hb2
    ·omega
   ·exact (lt b (old b q)).1 hb2
 have keep : ∀ {t : Ty} {y : List t.den} {c : Value} {S : List Nat}, 0 < t.size → (∀ k ∈ S, k ∈ S3 ++ (S4 ++ (S5 ++ (S6 ++ S7)))) → TR p w true (.sl true t) y [c] S →
   CV (after p (blk :: (S3 ++ (S4 ++ (S5 ++ (S6 ++ S7))))) ([] ++ blk :: (S3 ++ (S4 ++ (S5' ++ (S6 ++ S7))))) w w') w' (.fr t y) c S [] := by
  intro t y c S hq hs ht
  simp only [CV]
  exact ⟨trivial, hq, ht.mono (fun b hb2 => ⟨hi b hb2, same b (hp b hb2) (fun e => hb.1 (e ▸ hb2))⟩) _ _ _ _ _ (fun b hb2 => same b (lt b (hs b hb2)).2 (fun e => hnb (e ▸ hs b hb2)))⟩
 refine ⟨cr, [], blk :: (S3 ++ (S4 ++ (S5' ++ (S6 ++ S7)))), he, ?_, fun k hk => ?_, ⟨hsz, fun k hk hn => hkept.same k hk (fun hm => hn (by simp only [List.mem_singleton] at hm; simp [hm])), hkept.frz⟩, kb _ _, ?_⟩
 ·exact List.nodup_cons.2 ⟨hnb', List.nodup_append.2 ⟨a3, List.nodup_append.2 ⟨a4, List.nodup_append.2 ⟨n5, ar5, d5⟩, d4⟩, d3⟩⟩
 ·rcases List.mem_cons.1 (show k ∈ blk :: (S3 ++ (S4 ++ (S5' ++ (S6 ++ S7)))) from hk) with q | q
  ·subst q
   exact ⟨.inl (List.mem_cons_self ..), by have := hb.2; omega⟩
  ·rcases split k q with q | q
   ·refine ⟨?_, (m5 k q).2.1⟩
    rcases (m5 k q).1 with q | q
    ·exact .inl (List.mem_cons_of_mem _ (by simp [q]))
    ·exact .inr q
   ·exact ⟨.inl (List.mem_cons_of_mem _ (old k q)), by have := (lt k (old k q)).2; omega⟩
 ·simp only [Qb]
  refine ⟨_, e2, S3 ++ (S4 ++ (S5' ++ (S6 ++ S7))), [], by simp, hheap', ?_, rfl⟩
  have hc := US (S1 := []) (k0 (after p (blk :: (S3 ++ (S4 ++ (S5 ++ (S6 ++ S7))))) ([] ++ blk :: (S3 ++ (S4 ++ (S5' ++ (S6 ++ S7))))) w w') w') (US (S1 := []) (k1 _ w') (US (S1 := []) (k2 _ w')
   (US (keep p3 (fun k hk => old k (.inl hk)) t3) (US (keep p4 (fun k hk => old k (.inr (.inl hk))) t4) (US (h5' _ hi)
   (US (keep p6 (fun k hk => old k (.inr (.inr (.inl hk)))) t6) (US (keep p7 (fun k hk => old k (.inr (.inr (.inr hk)))) t7) ZA8)))))))
  simp only [List.nil_append, List.append_nil] at hc
  simpa only [List.nil_append] using hc
noncomputable def twF (x : Zl) (k : Int) : Option (Bool × Option (List Zs)) :=
 (ZQ big k 0 (IntKind.i64.wrap ((↑(List.length x.2.2.2.2.2.1) : Int) - 1))).bind fun y => bif !y then some (false, none) else
  if 0 ≤ IntKind.i64.wrap (k + 1) then if IntKind.i64.wrap (k + 1) ≤ (↑(List.length x.2.2.2.2.2.1) : Int) then if 0 ≤ k then if k ≤ IntKind.i64.wrap (k + 1) then
  bif decide ((60 : Int) < IntKind.i64.wrap ((↑(List.length x.2.2.2.2.2.1) : Int) + (↑(List.length (twL x k)) : Int))) then some (false, none)
  else if 0 + List.length x.2.2.2.2.2.1 ≤ lim then if List.length x.2.2.2.2.2.1 + List.length (twL x k) ≤ lim then some (true, some (List.append x.2.2.2.2.2.1 (twL x k))) else none else none
  else none else none else none else none
theorem ZDU {α β : Type} {g : α → β} (c : Bool) (a : α) (y : Option α) : (bif c then some (g a) else y.map g) = (bif c then some a else y).map g := by cases c <;> rfl
theorem ZE8 {α β : Type} {g : α → β} (c : Prop) [Decidable c] (y : Option α) : (if c then y.map g else none) = (if c then y else none).map g := by split <;> rfl
theorem ZE9 (v3 v4 v5 v6 v7 : Value) (x : Zl) (k : Int) : ZsY big v3 v4 v5 v6 v7 x k = (twF x k).map fun r => (SV.val .bool r.1, [cX v3 v4 v6 v7 (ZGh v5 x r.2) x]) := by
 rw [Zxu]
 unfold twF
 cases ZQ big k 0 (IntKind.i64.wrap ((↑(List.length x.2.2.2.2.2.1) : Int) - 1)) with
 | none => rfl
 | some y =>
  simp only [Option.bind_some]
  cases y with
  | false => rfl
  | true =>
   simp only [Bool.not_true, cond_false, ← ZE8, ← ZDU]
   rfl
theorem ZDV (n : Nat) (args : List SV) (r0 : Res) (hb : Zeg args [] = true) (h1 : evX (false, false, []) [(67, Yn), (214, Zmx)] [] [none] Tryz.f183 shI n args = some r0) : Jv Tryz.prog 183 args (shI.sh r0).1 (shI.sh r0).2 :=
 Zw (Tryz.cons_cons Z3 (Tryz.cons_cons ZvF Tryz.cons_nil)) (by kernel_rfl) rfl (by kernel_rfl) hb n h1
theorem ZDW {x : Zl} {k : Int} {r : Bool × Option (List Zs)} (h : twF x k = some r) (v3 v4 v5 v6 v7 : Value) : Jv Tryz.prog 183 [ZDa v3 v4 v5 v6 v7 x, .val Zn k] (.val .bool r.1) [cX v3 v4 v6 v7 (ZGh v5 x r.2) x] := by
 have h1 := ZE9 v3 v4 v5 v6 v7 x k
 rw [h, Option.map_some] at h1
 unfold ZsY at h1
 exact ZDV big _ _ (by kernel_rfl) h1
noncomputable def UE (_n : Nat) (x : AP.denL [.mu Zr, .ro Zn]) : Option (Bool × Zl × Unit) :=
 (twF x.1 x.2.1).bind fun r => some (r.1, (x.1.1, x.1.2.1, x.1.2.2.1, x.1.2.2.2.1, x.1.2.2.2.2.1, r.2.getD x.1.2.2.2.2.2.1, x.1.2.2.2.2.2.2.1, x.1.2.2.2.2.2.2.2.1, ()), ())
noncomputable def Zim : Con := apS [.mu Zr, .ro Zn] true (shO (shV ZE) [.mu Zr]) (UE big)
theorem Zmy : Zo Tryz.prog 183 Zim := Y3 ⟨Tryz.f183, by kernel_rfl, rfl, by decide⟩ fun xs v h => by
 obtain ⟨x, k, u⟩ := xs
 cases u
 unfold UE at h
 obtain ⟨r, h1, h2⟩ := Option.bind_eq_some_iff.1 h
 cases h2
 have h3 := ZDT x k r.1 r.2 (ZDW h1)
 exact h3
noncomputable def Zin (n : Nat) (a0 : Zl) (a1 : Int) : Option (Bool × Zl × Unit) := UE n (a0, a1, ())
end Go.Sx.Tryz
set_option maxRecDepth 100000
namespace Go.Sx.Tryz
open Go Go.Sx Go.Proofs
noncomputable def Zc0 : List (Nat × Con) := []
theorem ZsZ : ∀ q ∈ Zc0, Zo Tryz.prog q.1 q.2 := Tryz.cons_nil
abbrev KZ : List Wa × List BK := ([.ro Za, .drop, .drop, .own Zuz, .drop, .drop, .drop, .drop, .drop, .drop, .drop, .drop, .drop, .drop, .drop, .drop, .drop, .drop, .drop, .drop, .drop, .drop], [])
def Zmz : KP := [(2, KZ)]
noncomputable def ZqU (n : Nat) (x : YI [Zn]) := evX (false, false, []) Zc0 Zmz [none] Tryz.f245 (shV Zx) n (YV [Zn] x)
noncomputable def Zc1 : Con := roS [Zn] true (shV Zx) (ZqU big)
theorem ZaC : Zo Tryz.prog 245 Zc1 := ZI ⟨Tryz.f245, by kernel_rfl, rfl, by decide⟩ fun _ _ h => Zw ZsZ (f := Tryz.f245) (by kernel_rfl) rfl (by kernel_rfl) (by kernel_rfl) big h
noncomputable def JO (n : Nat) (a0 : Int) : Option ByteArray := ZqU n (a0, ())
noncomputable def ZvH (n : Nat) (x : KD KZ.1) (y : BD KZ.2) := Yh (env (false, false, []) Zc0) Zmz (body Tryz.f245) (VV (false, false, []) Zc0 [none] Tryz.f245 (shV Zx) [.val Zn (ZT Zn)]) n 2 KZ x y
noncomputable def K2 (n : Nat) (s0 : Int) (s3 : (List Int)) : Option ByteArray := ZvH n (s0, s3, ()) ()
theorem Zs0 (n : Nat) (a0 : Int) : JO n a0 =
  K2 n a0 [] := by kernel_rfl
theorem Kb (n : Nat) (s0 : Int) (s3 : (List Int)) : K2 (n + 1) s0 s3 =
  bif decide ((127 : Int) < s0) then
 if s3.length + [IntKind.u8.wrap (IntKind.i64.wrap (s0.tmod (128 : Int) + (128 : Int)))].length ≤ lim then
 K2 n (IntKind.i64.wrap (s0.tdiv (128 : Int)))
 (s3.append [IntKind.u8.wrap (IntKind.i64.wrap (s0.tmod (128 : Int) + (128 : Int)))])
 else none
 else
 if s3.length + [IntKind.u8.wrap s0].length ≤ lim then
 some (ByteArray.mk (List.map (fun n => UInt8.ofNat n.toNat) (s3.append [IntKind.u8.wrap s0])).toArray)
 else none := by kernel_rfl
end Go.Sx.Tryz
set_option maxRecDepth 100000
namespace Go.Sx.Tryz
open Go Go.Sx Go.Proofs
noncomputable def ZqV : List (Nat × Con) := [(245, Zc1)]
theorem Zs1 : ∀ q ∈ ZqV, Zo Tryz.prog q.1 q.2 := Tryz.cons_cons ZaC (Tryz.cons_nil)
def Zxw : KP := []
noncomputable def ZqW (n : Nat) (x : YI [Zn]) := evX (false, false, []) ZqV Zxw [none] Tryz.f242 (shV Zx) n (YV [Zn] x)
noncomputable def Zc2 : Con := roS [Zn] true (shV Zx) (ZqW big)
theorem ZaD : Zo Tryz.prog 242 Zc2 := ZI ⟨Tryz.f242, by kernel_rfl, rfl, by decide⟩ fun _ _ h => Zw Zs1 (f := Tryz.f242) (by kernel_rfl) rfl (by kernel_rfl) (by kernel_rfl) big h
noncomputable def Xf (n : Nat) (a0 : Int) : Option ByteArray := ZqW n (a0, ())
theorem Zs2 (n : Nat) (a0 : Int) : Xf n a0 =
  bif decide (a0 < (0 : Int)) then
 some (ByteArray.mk (List.map (fun n => UInt8.ofNat n.toNat) [IntKind.u8.wrap (0 : Int)]).toArray)
 else (JO big a0).bind fun y => some y := by kernel_rfl
end Go.Sx.Tryz
set_option maxRecDepth 100000
namespace Go.Sx.Tryz
open Go Go.Sx Go.Proofs
noncomputable def ZqX : List (Nat × Con) := [(242, Zc2)]
theorem Zs3 : ∀ q ∈ ZqX, Zo Tryz.prog q.1 q.2 := Tryz.cons_cons ZaD (Tryz.cons_nil)
def Zxx : KP := []
noncomputable def ZqY (n : Nat) (x : YI [X3]) := evX (false, false, [1, 3, 6, 10, 14]) ZqX Zxx [none] Tryz.f243 (shV Zx) n (YV [X3] x)
noncomputable def ZqZ : Con := roS [X3] true (shV Zx) (ZqY big)
theorem Zs4 : Zo Tryz.prog 243 ZqZ := ZI ⟨Tryz.f243, by kernel_rfl, rfl, by decide⟩ fun _ _ h => Zw Zs3 (f := Tryz.f243) (by kernel_rfl) rfl (by kernel_rfl) (by kernel_rfl) big h
noncomputable def Zc3 (n : Nat) (a0 : Zbm) : Option ByteArray := ZqY n (a0, ())
theorem Zs5 (n : Nat) (a0 : Zbm) : Zc3 n a0 =
  (Xf big a0.1).bind fun y =>
 (Xf big a0.2.1).bind fun y_1 =>
 if ByteArray.size y + ByteArray.size y_1 ≤ lim then
 (Xf big a0.2.2.1).bind fun y_2 =>
 if (y ++ y_1).size + ByteArray.size y_2 ≤ lim then
 (Xf big a0.2.2.2.1).bind fun y_3 =>
 if (y ++ y_1 ++ y_2).size + ByteArray.size y_3 ≤ lim then some (y ++ y_1 ++ y_2 ++ y_3) else none
 else none
 else none := by kernel_rfl
end Go.Sx.Tryz
set_option maxRecDepth 100000
namespace Go.Sx.Tryz
open Go Go.Sx Go.Proofs
noncomputable def Zio : List (Nat × Con) := [(242, Zc2)]
theorem ZmA : ∀ q ∈ Zio, Zo Tryz.prog q.1 q.2 := Tryz.cons_cons ZaD (Tryz.cons_nil)
def Zs6 : KP := []
noncomputable def Zip (n : Nat) (x : YI [ZV]) := evX (false, false, [1, 3, 6, 10, 14]) Zio Zs6 [none] Tryz.f244 (shV Zx) n (YV [ZV] x)
noncomputable def Ziq : Con := roS [ZV] true (shV Zx) (Zip big)
theorem ZmB : Zo Tryz.prog 244 Ziq := ZI ⟨Tryz.f244, by kernel_rfl, rfl, by decide⟩ fun _ _ h => Zw ZmA (f := Tryz.f244) (by kernel_rfl) rfl (by kernel_rfl) (by kernel_rfl) big h
noncomputable def Zca (n : Nat) (a0 : ZX) : Option ByteArray := Zip n (a0, ())
theorem ZmC (n : Nat) (a0 : ZX) : Zca n a0 =
  (Xf big a0.1).bind fun y =>
 (Xf big a0.2.1).bind fun y_1 =>
 if ByteArray.size y + ByteArray.size y_1 ≤ lim then
 (Xf big a0.2.2.1).bind fun y_2 =>
 if (y ++ y_1).size + ByteArray.size y_2 ≤ lim then
 (Xf big a0.2.2.2.1).bind fun y_3 =>
 if (y ++ y_1 ++ y_2).size + ByteArray.size y_3 ≤ lim then some (y ++ y_1 ++ y_2 ++ y_3) else none
 else none
 else none := by kernel_rfl
end Go.Sx.Tryz
set_option maxRecDepth 100000
namespace Go.Sx.Tryz
open Go Go.Sx Go.Proofs
noncomputable def V3 : List (Nat × Con) := []
theorem Zpj : ∀ q ∈ V3, Zo Tryz.prog q.1 q.2 := Tryz.cons_nil
abbrev QE : List Wa × List BK := ([.ro XC, .ro Zx, .drop, .drop, .drop, .ro Za, .drop, .drop, .drop, .drop, .drop, .drop, .drop, .drop, .drop, .drop, .drop, .drop, .drop, .drop, .drop, .drop, .drop, .drop, .drop, .drop, .drop, .drop, .drop, .drop, .drop, .drop, .drop], [])
abbrev QF : List Wa × List BK := ([.ro XC, .ro Zx, .drop, .drop, .drop, .ro Za, .ro Za, .drop, .drop, .drop, .drop, .drop, .drop, .drop, .drop, .drop, .drop, .drop, .drop, .drop, .drop, .drop, .drop, .drop, .drop, .drop, .drop, .drop, .drop, .drop, .drop, .drop, .drop], [])
def Zcb : KP := [(2, QE), (6, QF)]
noncomputable def ZmD (n : Nat) (x : YI [XC, Zx]) := evX (false, false, []) V3 Zcb [none] Tryz.f259 (shV XC) n (YV [XC, Zx] x)
noncomputable def ZmE : Con := roS [XC, Zx] true (shV XC) (ZmD big)
theorem Zpk : Zo Tryz.prog 259 ZmE := ZI ⟨Tryz.f259, by kernel_rfl, rfl, by decide⟩ fun _ _ h => Zw Zpj (f := Tryz.f259) (by kernel_rfl) rfl (by kernel_rfl) (by kernel_rfl) big h
noncomputable def ZmF (n : Nat) (a0 : Int) (a1 : ByteArray) : Option Int := ZmD n (a0, a1, ())
noncomputable def Zs7 (n : Nat) (x : KD QE.1) (y : BD QE.2) := Yh (env (false, false, []) V3) Zcb (body Tryz.f259) (VV (false, false, []) V3 [none] Tryz.f259 (shV XC) [.val XC (ZT XC), .val Zx (ZT Zx)]) n 2 QE x y
noncomputable def Vt (n : Nat) (s0 : Int) (s1 : ByteArray) (s5 : Int) : Option Int := Zs7 n (s0, s1, s5, ()) ()
noncomputable def Zs8 (n : Nat) (x : KD QF.1) (y : BD QF.2) := Yh (env (false, false, []) V3) Zcb (body Tryz.f259) (VV (false, false, []) V3 [none] Tryz.f259 (shV XC) [.val XC (ZT XC), .val Zx (ZT Zx)]) n 6 QF x y
noncomputable def Vu (n : Nat) (s0 : Int) (s1 : ByteArray) (s5 : Int) (s6 : Int) : Option Int := Zs8 n (s0, s1, s5, s6, ()) ()
theorem Zpl (n : Nat) (a0 : Int) (a1 : ByteArray) : ZmF n a0 a1 =
  Vt n a0 a1 (0 : Int) := by kernel_rfl
theorem Za6 (n : Nat) (s0 : Int) (s1 : ByteArray) (s5 : Int) : Vt (n + 1) s0 s1 s5 =
  bif decide (s5 < (↑s1.size : Int)) then
 if (0 : Int) ≤ s5 then
 (nth s1.data.toList s5.toNat).bind fun y =>
 Vu n
 (IntKind.u32.wrap
 (↑(BitVec.ofInt IntKind.u32.bits s0 ^^^
 BitVec.ofInt IntKind.u32.bits (IntKind.u32.wrap (↑y.toNat : Int))).toNat :
 Int))
 s1 s5 (0 : Int)
 else none
 else some s0 := by kernel_rfl
theorem Za7 (n : Nat) (s0 : Int) (s1 : ByteArray) (s5 : Int) (s6 : Int) : Vu (n + 1) s0 s1 s5 s6 =
  bif decide (s6 < (8 : Int)) then
 bif decide (s0.tmod (2 : Int) = (1 : Int)) then
 Vu n
 (IntKind.u32.wrap
 (↑(BitVec.ofInt IntKind.u32.bits (IntKind.u32.wrap (s0.tdiv (2 : Int))) ^^^
 BitVec.ofInt IntKind.u32.bits (3558460437 : Int)).toNat :
 Int))
 s1 s5 (IntKind.i64.wrap (s6 + (1 : Int)))
 else Vu n (IntKind.u32.wrap (s0.tdiv (2 : Int))) s1 s5 (IntKind.i64.wrap (s6 + (1 : Int)))
 else Vt n s0 s1 (IntKind.i64.wrap (s5 + (1 : Int))) := by kernel_rfl
end Go.Sx.Tryz
set_option maxRecDepth 100000
namespace Go.Sx.Tryz
open Go Go.Sx Go.Proofs
noncomputable def ZvI : List (Nat × Con) := [(259, ZmE)]
theorem ZvJ : ∀ q ∈ ZvI, Zo Tryz.prog q.1 q.2 := Tryz.cons_cons Zpk (Tryz.cons_nil)
def Zzw : KP := []
noncomputable def ZvK (n : Nat) (x : YI [Zx]) := evX (false, false, []) ZvI Zzw [none] Tryz.f255 (shV XC) n (YV [Zx] x)
noncomputable def ZmG : Con := roS [Zx] true (shV XC) (ZvK big)
theorem Zir : Zo Tryz.prog 255 ZmG := ZI ⟨Tryz.f255, by kernel_rfl, rfl, by decide⟩ fun _ _ h => Zw ZvJ (f := Tryz.f255) (by kernel_rfl) rfl (by kernel_rfl) (by kernel_rfl) big h
noncomputable def ZfS (n : Nat) (a0 : ByteArray) : Option Int := ZvK n (a0, ())
theorem ZvL (n : Nat) (a0 : ByteArray) : ZfS n a0 =
  (ZmF big (4294967295 : Int) a0).bind fun y => some y := by kernel_rfl
end Go.Sx.Tryz
set_option maxRecDepth 100000
namespace Go.Sx.Tryz
open Go Go.Sx Go.Proofs
noncomputable def ZmH : List (Nat × Con) := []
theorem Zpm : ∀ q ∈ ZmH, Zo Tryz.prog q.1 q.2 := Tryz.cons_nil
def ZvM : KP := []
noncomputable def Zxy (n : Nat) (x : YI [XC]) := evX (false, false, []) ZmH ZvM [none] Tryz.f254 (shV Zx) n (YV [XC] x)
noncomputable def ZeA : Con := roS [XC] true (shV Zx) (Zxy big)
theorem ZdN : Zo Tryz.prog 254 ZeA := ZI ⟨Tryz.f254, by kernel_rfl, rfl, by decide⟩ fun _ _ h => Zw Zpm (f := Tryz.f254) (by kernel_rfl) rfl (by kernel_rfl) (by kernel_rfl) big h
end Go.Sx.Tryz
set_option maxRecDepth 100000
namespace Go.Sx.Tryz
open Go Go.Sx Go.Proofs
noncomputable def Zq0 : List (Nat × Con) := [(255, ZmG), (254, ZeA)]
theorem Zs9 : ∀ q ∈ Zq0, Zo Tryz.prog q.1 q.2 := Tryz.cons_cons Zir (Tryz.cons_cons ZdN (Tryz.cons_nil))
def Zxz : KP := []
noncomputable def Zq1 (n : Nat) (x : YI [Zx]) := evX (false, false, []) Zq0 Zxz [none, none] Tryz.f246 (shT [(false, Zx), (false, ZE)]) n (YV [Zx] x)
noncomputable def Zq2 : Con := roS [Zx] true (shT [(false, Zx), (false, ZE)]) (Zq1 big)
theorem Zta : Zo Tryz.prog 246 Zq2 := ZI ⟨Tryz.f246, by kernel_rfl, rfl, by decide⟩ fun _ _ h => Zw Zs9 (f := Tryz.f246) (by kernel_rfl) rfl (by kernel_rfl) (by kernel_rfl) big h
noncomputable def Zg9 (n : Nat) (a0 : ByteArray) : Option (ByteArray × Bool × Unit) := Zq1 n (a0, ())
theorem Ztb (n : Nat) (a0 : ByteArray) : Zg9 n a0 =
  bif decide ((20000 : Int) < (↑a0.size : Int)) then some (ByteArray.mk #[], false, ())
 else
 (ZfS big a0).bind fun y =>
 if
 a0.size +
 (ByteArray.mk
 (List.map (fun n => UInt8.ofNat n.toNat)
 [IntKind.u8.wrap (Int.fdiv y ((2 : Int) ^ min (Int.toNat (24 : Int)) IntKind.u32.bits)),
 IntKind.u8.wrap (Int.fdiv y ((2 : Int) ^ min (Int.toNat (16 : Int)) IntKind.u32.bits)),
 IntKind.u8.wrap (Int.fdiv y ((2 : Int) ^ min (Int.toNat (8 : Int)) IntKind.u32.bits)),
 IntKind.u8.wrap y]).toArray).size ≤
 lim then
 some
 (a0 ++
 ByteArray.mk
 (List.map (fun n => UInt8.ofNat n.toNat)
 [IntKind.u8.wrap (Int.fdiv y ((2 : Int) ^ min (Int.toNat (24 : Int)) IntKind.u32.bits)),
 IntKind.u8.wrap (Int.fdiv y ((2 : Int) ^ min (Int.toNat (16 : Int)) IntKind.u32.bits)),
 IntKind.u8.wrap (Int.fdiv y ((2 : Int) ^ min (Int.toNat (8 : Int)) IntKind.u32.bits)),
 IntKind.u8.wrap y]).toArray,
 true, ())
 else none := by kernel_rfl
end Go.Sx.Tryz
set_option maxRecDepth 100000
namespace Go.Sx.Tryz
open Go Go.Sx Go.Proofs
noncomputable def Zis : List (Nat × Con) := [(255, ZmG), (254, ZeA)]
theorem ZmI : ∀ q ∈ Zis, Zo Tryz.prog q.1 q.2 := Tryz.cons_cons Zir (Tryz.cons_cons ZdN (Tryz.cons_nil))
def Ztc : KP := []
noncomputable def Zit (n : Nat) (x : YI [Zx]) := evX (false, false, []) Zis Ztc [none, none] Tryz.f238 (shT [(false, Zx), (false, ZE)]) n (YV [Zx] x)
noncomputable def Ziu : Con := roS [Zx] true (shT [(false, Zx), (false, ZE)]) (Zit big)
theorem ZmJ : Zo Tryz.prog 238 Ziu := ZI ⟨Tryz.f238, by kernel_rfl, rfl, by decide⟩ fun _ _ h => Zw ZmI (f := Tryz.f238) (by kernel_rfl) rfl (by kernel_rfl) (by kernel_rfl) big h
noncomputable def Zcc (n : Nat) (a0 : ByteArray) : Option (ByteArray × Bool × Unit) := Zit n (a0, ())
theorem ZmK (n : Nat) (a0 : ByteArray) : Zcc n a0 =
  bif decide (IntKind.i64.wrap ((↑a0.size : Int) - (4 : Int)) < (0 : Int)) then
 some (ByteArray.mk #[], false, ())
 else
 bif decide ((20000 : Int) < IntKind.i64.wrap ((↑a0.size : Int) - (4 : Int))) then
 some (ByteArray.mk #[], false, ())
 else
 if (0 : Int) ≤ IntKind.i64.wrap ((↑a0.size : Int) - (4 : Int)) then
 if IntKind.i64.wrap ((↑a0.size : Int) - (4 : Int)) ≤ (↑a0.size : Int) then
 if (0 : Int) ≤ IntKind.i64.wrap ((↑a0.size : Int) - (4 : Int)) then
 if IntKind.i64.wrap ((↑a0.size : Int) - (4 : Int)) ≤ (↑a0.size : Int) then
 (ZfS big (a0.extract (0 : Nat) (IntKind.i64.wrap ((↑a0.size : Int) - (4 : Int))).toNat)).bind
 fun y =>
 bif
 !decide
 (a0.extract (IntKind.i64.wrap ((↑a0.size : Int) - (4 : Int))).toNat a0.size =
 ByteArray.mk
 (List.map (fun n => UInt8.ofNat n.toNat)
 [IntKind.u8.wrap (Int.fdiv y ((2 : Int) ^ min (Int.toNat (24 : Int)) IntKind.u32.bits)),
 IntKind.u8.wrap
 (Int.fdiv y ((2 : Int) ^ min (Int.toNat (16 : Int)) IntKind.u32.bits)),
 IntKind.u8.wrap (Int.fdiv y ((2 : Int) ^ min (Int.toNat (8 : Int)) IntKind.u32.bits)),
 IntKind.u8.wrap y]).toArray) then
 some (ByteArray.mk #[], false, ())
 else
 if (0 : Int) ≤ IntKind.i64.wrap ((↑a0.size : Int) - (4 : Int)) then
 if IntKind.i64.wrap ((↑a0.size : Int) - (4 : Int)) ≤ (↑a0.size : Int) then
 some
 (a0.extract (0 : Nat) (IntKind.i64.wrap ((↑a0.size : Int) - (4 : Int))).toNat, true, ())
 else none
 else none
 else none
 else none
 else none
 else none := by kernel_rfl
end Go.Sx.Tryz
set_option maxRecDepth 100000
namespace Go.Sx.Tryz
open Go Go.Sx Go.Proofs
noncomputable def K3 : List (Nat × Con) := [(242, Zc2), (243, ZqZ), (244, Ziq), (245, Zc1), (246, Zq2)]
theorem ZmL : ∀ q ∈ K3, Zo Tryz.prog q.1 q.2 := Tryz.cons_cons ZaD (Tryz.cons_cons Zs4 (Tryz.cons_cons ZmB (Tryz.cons_cons ZaC (Tryz.cons_cons Zta (Tryz.cons_nil)))))
abbrev Ul : List Wa × List BK := ([.drop, .is (.ptr 0 0), .drop, .ro Zx, .ro Za, .drop, .drop, .drop, .drop, .drop, .drop, .drop, .drop, .drop, .drop, .drop, .drop, .drop, .drop, .drop, .drop, .drop, .drop, .drop, .drop, .drop, .drop, .drop, .drop, .drop, .drop, .drop, .drop, .drop, .drop, .drop, .drop, .drop, .drop, .drop, .drop, .drop, .drop, .drop, .drop, .drop, .drop, .drop, .drop, .drop, .drop, .drop], [.vars [.ro Za, .ro Za, .ro Za, .ro Za, .ro Za, .ro Za, .ro Za, .ro Za, .ro Za, .ro Za, .ro Za, .ro Za, .ro Za, .ro Za, .ro YJ, .ro ZB, .ro YJ, .ro Yo, .ro ZM, .ro ZG, .ro Za]])
def ZfT : KP := [(3, Ul)]
noncomputable def Ziv (n : Nat) (x : YI [ZP]) := evX (false, false, [1, 7, 10, 14, 18, 22, 26, 32, 39]) K3 ZfT [none] Tryz.f220 (shV Zx) n (YV [ZP] x)
noncomputable def Zcd : Con := roS [ZP] true (shV Zx) (Ziv big)
theorem Zce : Zo Tryz.prog 220 Zcd := ZI ⟨Tryz.f220, by kernel_rfl, rfl, by decide⟩ fun _ _ h => Zw ZmL (f := Tryz.f220) (by kernel_rfl) rfl (by kernel_rfl) (by kernel_rfl) big h
noncomputable def UF (n : Nat) (a0 : Zq) : Option ByteArray := Ziv n (a0, ())
noncomputable def Zpn (n : Nat) (x : KD Ul.1) (y : BD Ul.2) := Yh (env (false, false, [1, 7, 10, 14, 18, 22, 26, 32, 39]) K3) ZfT (body Tryz.f220) (VV (false, false, [1, 7, 10, 14, 18, 22, 26, 32, 39]) K3 [none] Tryz.f220 (shV Zx) [.val ZP (ZT ZP)]) n 3 Ul x y
noncomputable def Um (n : Nat) (s3 : ByteArray) (s4 : Int) (b0_0 : Int) (b0_1 : Int) (b0_2 : Int) (b0_3 : Int) (b0_4 : Int) (b0_5 : Int) (b0_6 : Int) (b0_7 : Int) (b0_8 : Int) (b0_9 : Int) (b0_10 : Int) (b0_11 : Int) (b0_12 : Int) (b0_13 : Int) (b0_14 : YF) (b0_15 : ZH) (b0_16 : YF) (b0_17 : Yv) (b0_18 : Z6) (b0_19 : ZO) (b0_20 : Int) : Option ByteArray := Zpn n (s3, s4, ()) ((b0_0, b0_1, b0_2, b0_3, b0_4, b0_5, b0_6, b0_7, b0_8, b0_9, b0_10, b0_11, b0_12, b0_13, b0_14, b0_15, b0_16, b0_17, b0_18, b0_19, b0_20, ()), ())
theorem ZmM (n : Nat) (a0 : Zq) : UF n a0 =
  (Xf big a0.1).bind fun y =>
 (Xf big a0.2.1).bind fun y_1 =>
 if ByteArray.size y + ByteArray.size y_1 ≤ lim then
 (Zc3 big a0.2.2.1).bind fun y_2 =>
 if (y ++ y_1).size + ByteArray.size y_2 ≤ lim then
 (Zc3 big a0.2.2.2.1).bind fun y_3 =>
 if (y ++ y_1 ++ y_2).size + ByteArray.size y_3 ≤ lim then
 (Zca big a0.2.2.2.2.1).bind fun y_4 =>
 if (y ++ y_1 ++ y_2 ++ y_3).size + ByteArray.size y_4 ≤ lim then
 (JO big (↑(List.length a0.2.2.2.2.2.1) : Int)).bind fun y_5 =>
 if (y ++ y_1 ++ y_2 ++ y_3 ++ y_4).size + ByteArray.size y_5 ≤ lim then
 Um n (y ++ y_1 ++ y_2 ++ y_3 ++ y_4 ++ y_5) (0 : Int) a0.1 a0.2.1
 a0.2.2.1.1 a0.2.2.1.2.1 a0.2.2.1.2.2.1
 a0.2.2.1.2.2.2.1 a0.2.2.2.1.1 a0.2.2.2.1.2.1
 a0.2.2.2.1.2.2.1 a0.2.2.2.1.2.2.2.1 a0.2.2.2.2.1.1
 a0.2.2.2.2.1.2.1 a0.2.2.2.2.1.2.2.1
 a0.2.2.2.2.1.2.2.2.1 a0.2.2.2.2.2.1
 a0.2.2.2.2.2.2.1 a0.2.2.2.2.2.2.2.1
 a0.2.2.2.2.2.2.2.2.1 a0.2.2.2.2.2.2.2.2.2.1
 a0.2.2.2.2.2.2.2.2.2.2.1
 a0.2.2.2.2.2.2.2.2.2.2.2.1
 else none
 else none
 else none
 else none
 else none := by kernel_rfl
theorem JP (n : Nat) (s3 : ByteArray) (s4 : Int) (b0_0 : Int) (b0_1 : Int) (b0_2 : Int) (b0_3 : Int) (b0_4 : Int) (b0_5 : Int) (b0_6 : Int) (b0_7 : Int) (b0_8 : Int) (b0_9 : Int) (b0_10 : Int) (b0_11 : Int) (b0_12 : Int) (b0_13 : Int) (b0_14 : YF) (b0_15 : ZH) (b0_16 : YF) (b0_17 : Yv) (b0_18 : Z6) (b0_19 : ZO) (b0_20 : Int) : Um (n + 1) s3 s4 b0_0 b0_1 b0_2 b0_3 b0_4 b0_5 b0_6 b0_7 b0_8 b0_9 b0_10 b0_11 b0_12 b0_13 b0_14 b0_15 b0_16 b0_17 b0_18 b0_19 b0_20 =
  bif decide (s4 < (↑(List.length b0_14) : Int)) then
 if (0 : Int) ≤ s4 then
 (nth b0_14 s4.toNat).bind fun y =>
 (Xf big y).bind fun y =>
 if s3.size + ByteArray.size y ≤ lim then
 Um n (s3 ++ y) (IntKind.i64.wrap (s4 + (1 : Int))) b0_0 b0_1 b0_2 b0_3 b0_4 b0_5 b0_6 b0_7 b0_8
 b0_9 b0_10 b0_11 b0_12 b0_13 b0_14 b0_15 b0_16 b0_17 b0_18 b0_19 b0_20
 else none
 else none
 else (Zg9 big s3).bind fun y => some y.1 := by kernel_rfl
end Go.Sx.Tryz
set_option maxRecDepth 100000
namespace Go.Sx.Tryz
open Go Go.Sx Go.Proofs
noncomputable def ZaE : List (Nat × Con) := [(67, Yn), (245, Zc1)]
theorem Zpo : ∀ q ∈ ZaE, Zo Tryz.prog q.1 q.2 := Tryz.cons_cons Z3 (Tryz.cons_cons ZaC (Tryz.cons_nil))
abbrev QG : List Wa × List BK := ([.ro Zx, .ro Za, .drop, .drop, .drop, .drop, .drop, .ro Za, .ro Za, .ro Za, .drop, .drop, .drop, .drop, .drop, .drop, .drop, .drop, .drop, .drop, .drop, .drop, .drop, .drop, .drop, .drop, .drop, .drop, .drop, .drop, .drop, .drop, .drop, .drop, .drop, .drop, .drop, .drop, .drop, .drop, .drop, .drop, .drop, .drop, .drop, .drop, .drop, .drop, .drop, .drop, .drop, .drop, .drop, .drop, .drop, .drop, .drop, .drop], [])
def Ziw : KP := [(6, QG)]
noncomputable def ZmN (n : Nat) (x : YI [Zx, Zn]) := evX (false, false, []) ZaE Ziw [none, none, none] Tryz.f256 (shT [(false, Zn), (false, Zn), (false, ZE)]) n (YV [Zx, Zn] x)
noncomputable def ZmO : Con := roS [Zx, Zn] true (shT [(false, Zn), (false, Zn), (false, ZE)]) (ZmN big)
theorem Zpp : Zo Tryz.prog 256 ZmO := ZI ⟨Tryz.f256, by kernel_rfl, rfl, by decide⟩ fun _ _ h => Zw Zpo (f := Tryz.f256) (by kernel_rfl) rfl (by kernel_rfl) (by kernel_rfl) big h
noncomputable def ZeB (n : Nat) (a0 : ByteArray) (a1 : Int) : Option (Int × Int × Bool × Unit) := ZmN n (a0, a1, ())
noncomputable def Ztd (n : Nat) (x : KD QG.1) (y : BD QG.2) := Yh (env (false, false, []) ZaE) Ziw (body Tryz.f256) (VV (false, false, []) ZaE [none, none, none] Tryz.f256 (shT [(false, Zn), (false, Zn), (false, ZE)]) [.val Zx (ZT Zx), .val Zn (ZT Zn)]) n 6 QG x y
noncomputable def QH (n : Nat) (s0 : ByteArray) (s1 : Int) (s7 : Int) (s8 : Int) (s9 : Int) : Option (Int × Int × Bool × Unit) := Ztd n (s0, s1, s7, s8, s9, ()) ()
theorem Zpq (n : Nat) (a0 : ByteArray) (a1 : Int) : ZeB n a0 a1 =
  (ZQ big a1 (0 : Int) (↑a0.size : Int)).bind fun y =>
 bif !y then some ((0 : Int), (0 : Int), false, ()) else QH n a0 a1 (0 : Int) (1 : Int) a1 := by kernel_rfl
theorem Za8 (n : Nat) (s0 : ByteArray) (s1 : Int) (s7 : Int) (s8 : Int) (s9 : Int) : QH (n + 1) s0 s1 s7 s8 s9 =
  bif decide (s9 < (↑s0.size : Int)) then
 bif decide (s9 < IntKind.i64.wrap (s1 + (5 : Int))) then
 if (0 : Int) ≤ s9 then
 (nth s0.data.toList s9.toNat).bind fun y =>
 if (0 : Int) ≤ s9 then
 (nth s0.data.toList s9.toNat).bind fun y_1 =>
 bif decide ((↑y_1.toNat : Int) < (128 : Int)) then
 bif
 decide
 ((1000000000 : Int) <
 IntKind.i64.wrap
 (s7 + IntKind.i64.wrap ((IntKind.i64.wrap (↑y.toNat : Int)).tmod (128 : Int) * s8))) then
 some ((0 : Int), (0 : Int), false, ())
 else
 if (0 : Int) ≤ IntKind.i64.wrap (s9 + (1 : Int)) then
 if IntKind.i64.wrap (s9 + (1 : Int)) ≤ (↑s0.size : Int) then
 if (0 : Int) ≤ s1 then
 if s1 ≤ IntKind.i64.wrap (s9 + (1 : Int)) then
 (JO big
 (IntKind.i64.wrap
 (s7 +
 IntKind.i64.wrap ((IntKind.i64.wrap (↑y.toNat : Int)).tmod (128 : Int) * s8)))).bind
 fun y_2 =>
 bif !decide (y_2 = s0.extract s1.toNat (IntKind.i64.wrap (s9 + (1 : Int))).toNat) then
 some ((0 : Int), (0 : Int), false, ())
 else
 some
 (IntKind.i64.wrap
 (s7 + IntKind.i64.wrap ((IntKind.i64.wrap (↑y.toNat : Int)).tmod (128 : Int) * s8)),
 IntKind.i64.wrap (s9 + (1 : Int)), true, ())
 else none
 else none
 else none
 else none
 else
 QH n s0 s1
 (IntKind.i64.wrap (s7 + IntKind.i64.wrap ((IntKind.i64.wrap (↑y.toNat : Int)).tmod (128 : Int) * s8)))
 (IntKind.i64.wrap (s8 * (128 : Int))) (IntKind.i64.wrap (s9 + (1 : Int)))
 else none
 else none
 else some ((0 : Int), (0 : Int), false, ())
 else some ((0 : Int), (0 : Int), false, ()) := by kernel_rfl
end Go.Sx.Tryz
set_option maxRecDepth 100000
namespace Go.Sx.Tryz
open Go Go.Sx Go.Proofs
noncomputable def Zq3 : List (Nat × Con) := [(256, ZmO)]
theorem Zte : ∀ q ∈ Zq3, Zo Tryz.prog q.1 q.2 := Tryz.cons_cons Zpp (Tryz.cons_nil)
def ZxA : KP := []
noncomputable def Zq4 (n : Nat) (x : AP.denL [.mu Xq]) := evX (false, false, [7, 8, 9, 11, 12, 13, 19, 20, 21, 27, 28, 30, 32]) Zq3 ZxA [none] Tryz.f239 (shO (shV Zn) [.mu Xq]) n (AP.encL [.mu Xq] x)
noncomputable def Zc4 : Con := apS [.mu Xq] true (shO (shV Zn) [.mu Xq]) (Zq4 big)
theorem ZaF : Zo Tryz.prog 239 Zc4 := Y3 ⟨Tryz.f239, by kernel_rfl, rfl, by decide⟩ fun _ _ h => Zw Zte (f := Tryz.f239) (by kernel_rfl) rfl (by kernel_rfl) (by kernel_rfl) big h
noncomputable def Y4 (n : Nat) (a0 : Xr) : Option (Int × Xr × Unit) := Zq4 n (a0, ())
theorem Ztf (n : Nat) (a0 : Xr) : Y4 n a0 =
  (ZeB big a0.1 a0.2.1).bind fun y =>
 bif a0.2.2.1 then some ((0 : Int), (a0.1, a0.2.1, true, ()), ())
 else
 bif !y.2.2.1 then some ((0 : Int), (a0.1, a0.2.1, true, ()), ())
 else some (y.1, (a0.1, y.2.1, a0.2.2), ()) := by kernel_rfl
end Go.Sx.Tryz
set_option maxRecDepth 100000
namespace Go.Sx.Tryz
open Go Go.Sx Go.Proofs
noncomputable def ZvN : List (Nat × Con) := [(239, Zc4)]
theorem ZvO : ∀ q ∈ ZvN, Zo Tryz.prog q.1 q.2 := Tryz.cons_cons ZaF (Tryz.cons_nil)
def Zzx : KP := []
noncomputable def ZvP (n : Nat) (x : AP.denL [.mu Xq]) := evX (false, false, [3]) ZvN Zzx [none] Tryz.f240 (shO (shV X3) [.mu Xq]) n (AP.encL [.mu Xq] x)
noncomputable def ZvQ : Con := apS [.mu Xq] true (shO (shV X3) [.mu Xq]) (ZvP big)
theorem ZvR : Zo Tryz.prog 240 ZvQ := Y3 ⟨Tryz.f240, by kernel_rfl, rfl, by decide⟩ fun _ _ h => Zw ZvO (f := Tryz.f240) (by kernel_rfl) rfl (by kernel_rfl) (by kernel_rfl) big h
noncomputable def ZfU (n : Nat) (a0 : Xr) : Option (Zbm × Xr × Unit) := ZvP n (a0, ())
theorem ZvS (n : Nat) (a0 : Xr) : ZfU n a0 =
  (Y4 big a0).bind fun y =>
 (Y4 big y.2.1).bind fun y_1 =>
 (Y4 big y_1.2.1).bind fun y_2 =>
 (Y4 big y_2.2.1).bind fun y_3 =>
 some ((y.1, y_1.1, y_2.1, y_3.1, ()), y_3.2) := by kernel_rfl
end Go.Sx.Tryz
set_option maxRecDepth 100000
namespace Go.Sx.Tryz
open Go Go.Sx Go.Proofs
noncomputable def ZmP : List (Nat × Con) := [(239, Zc4)]
theorem Zpr : ∀ q ∈ ZmP, Zo Tryz.prog q.1 q.2 := Tryz.cons_cons ZaF (Tryz.cons_nil)
def ZvT : KP := []
noncomputable def ZmQ (n : Nat) (x : AP.denL [.mu Xq]) := evX (false, false, [3]) ZmP ZvT [none] Tryz.f241 (shO (shV ZV) [.mu Xq]) n (AP.encL [.mu Xq] x)
noncomputable def ZmR : Con := apS [.mu Xq] true (shO (shV ZV) [.mu Xq]) (ZmQ big)
theorem Zps : Zo Tryz.prog 241 ZmR := Y3 ⟨Tryz.f241, by kernel_rfl, rfl, by decide⟩ fun _ _ h => Zw Zpr (f := Tryz.f241) (by kernel_rfl) rfl (by kernel_rfl) (by kernel_rfl) big h
noncomputable def ZeC (n : Nat) (a0 : Xr) : Option (ZX × Xr × Unit) := ZmQ n (a0, ())
theorem Zpt (n : Nat) (a0 : Xr) : ZeC n a0 =
  (Y4 big a0).bind fun y =>
 (Y4 big y.2.1).bind fun y_1 =>
 (Y4 big y_1.2.1).bind fun y_2 =>
 (Y4 big y_2.2.1).bind fun y_3 =>
 some ((y.1, y_1.1, y_2.1, y_3.1, ()), y_3.2) := by kernel_rfl
end Go.Sx.Tryz
set_option maxRecDepth 100000
namespace Go.Sx.Tryz
open Go Go.Sx Go.Proofs
noncomputable def K4 : List (Nat × Con) := [(238, Ziu), (239, Zc4), (240, ZvQ), (241, ZmR), (220, Zcd)]
theorem ZmS : ∀ q ∈ K4, Zo Tryz.prog q.1 q.2 := Tryz.cons_cons ZmJ (Tryz.cons_cons ZaF (Tryz.cons_cons ZvR (Tryz.cons_cons Zps (Tryz.cons_cons Zce (Tryz.cons_nil)))))
abbrev Vv : List Wa × List BK := ([.ro Zx, .drop, .is (.ptr 0 0), .drop, .drop, .drop, .is (.ptr 1 0), .is (.ptr 2 0), .ro Za, .ro Za, .drop, .drop, .drop, .drop, .drop, .drop, .drop, .drop, .drop, .drop, .drop, .drop, .drop, .drop, .drop, .drop, .drop, .drop, .drop, .drop, .drop, .drop, .drop, .drop, .drop, .drop, .drop, .drop, .drop, .drop, .drop, .drop, .drop, .drop, .drop, .drop, .drop, .drop, .drop, .drop, .drop, .drop, .drop, .drop, .drop, .drop, .drop, .drop, .drop, .drop, .drop, .drop, .drop, .drop, .drop, .drop, .drop, .drop], [.vars [.ro Za, .ro Za, .ro Za, .ro Za, .ro Za, .ro Za, .ro Za, .ro Za, .ro Za, .ro Za, .ro Za, .ro Za, .ro Za, .ro Za, .own Zn, .own W3, .own Zn, .own W4, .own ZV, .own ZD, .ro Za], .vars [.ro Zx, .ro Za, .ro ZE], .vars [.ro Za, .ro Za, .ro Za, .ro Za, .ro Za, .ro Za, .ro Za, .ro Za, .ro Za, .ro Za, .ro Za, .ro Za, .ro Za, .ro Za, .own Zn, .own W3, .own Zn, .own W4, .own ZV, .own ZD, .ro Za]])
def ZfV : KP := [(10, Vv)]
noncomputable def Zix (n : Nat) (x : YI [Zx]) := evX (false, false, [7, 41, 42, 43, 49, 56, 57, 58]) K4 ZfV [some ZC, none] Tryz.f219 (shT [(true, ZC), (false, ZE)]) n (YV [Zx] x)
noncomputable def Ziy : Con := roS [Zx] true (shT [(true, ZC), (false, ZE)]) (Zix big)
theorem ZmT : Zo Tryz.prog 219 Ziy := ZI ⟨Tryz.f219, by kernel_rfl, rfl, by decide⟩ fun _ _ h => Zw ZmS (f := Tryz.f219) (by kernel_rfl) rfl (by kernel_rfl) (by kernel_rfl) big h
noncomputable def Zcf (n : Nat) (a0 : ByteArray) : Option (Zq × Bool × Unit) := Zix n (a0, ())
noncomputable def ZmU (n : Nat) (x : KD Vv.1) (y : BD Vv.2) := Yh (env (false, false, [7, 41, 42, 43, 49, 56, 57, 58]) K4) ZfV (body Tryz.f219) (VV (false, false, [7, 41, 42, 43, 49, 56, 57, 58]) K4 [some ZC, none] Tryz.f219 (shT [(true, ZC), (false, ZE)]) [.val Zx (ZT Zx)]) n 10 Vv x y
noncomputable def Vw (n : Nat) (s0 : ByteArray) (s8 : Int) (s9 : Int) (b0_0 : Int) (b0_1 : Int) (b0_2 : Int) (b0_3 : Int) (b0_4 : Int) (b0_5 : Int) (b0_6 : Int) (b0_7 : Int) (b0_8 : Int) (b0_9 : Int) (b0_10 : Int) (b0_11 : Int) (b0_12 : Int) (b0_13 : Int) (b0_14 : (List Int)) (b0_15 : (List Yj)) (b0_16 : (List Int)) (b0_17 : (List YW)) (b0_18 : (List ZX)) (b0_19 : (List Zs)) (b0_20 : Int) (b1_0 : ByteArray) (b1_1 : Int) (b1_2 : Bool) (b2_0 : Int) (b2_1 : Int) (b2_2 : Int) (b2_3 : Int) (b2_4 : Int) (b2_5 : Int) (b2_6 : Int) (b2_7 : Int) (b2_8 : Int) (b2_9 : Int) (b2_10 : Int) (b2_11 : Int) (b2_12 : Int) (b2_13 : Int) (b2_14 : (List Int)) (b2_15 : (List Yj)) (b2_16 : (List Int)) (b2_17 : (List YW)) (b2_18 : (List ZX)) (b2_19 : (List Zs)) (b2_20 : Int) : Option (Zq × Bool × Unit) := ZmU n (s0, s8, s9, ()) ((b0_0, b0_1, b0_2, b0_3, b0_4, b0_5, b0_6, b0_7, b0_8, b0_9, b0_10, b0_11, b0_12, b0_13, b0_14, b0_15, b0_16, b0_17, b0_18, b0_19, b0_20, ()), (b1_0, b1_1, b1_2, ()), (b2_0, b2_1, b2_2, b2_3, b2_4, b2_5, b2_6, b2_7, b2_8, b2_9, b2_10, b2_11, b2_12, b2_13, b2_14, b2_15, b2_16, b2_17, b2_18, b2_19, b2_20, ()), ())
theorem ZmV (n : Nat) (a0 : ByteArray) : Zcf n a0 = (Zcc big a0).bind fun y => (Y4 big (y.1, (0 : Int), !y.2.1, ())).bind fun y => (Y4 big y.2.1).bind fun y_1 => (ZfU big y_1.2.1).bind fun y_2 => (ZfU big y_2.2.1).bind fun y_3 => (ZeC big y_3.2.1).bind fun y_4 => (Y4 big y_4.2.1).bind fun y_5 => Vw n a0 y_5.1 (0 : Int) (0 : Int) (0 : Int) (0 : Int) (0 : Int) (0 : Int) (0 : Int) (0 : Int) (0 : Int) (0 : Int) (0 : Int) (0 : Int) (0 : Int) (0 : Int) (0 : Int) [] [] [] [] [] [] (0 : Int) y_5.2.1.1 y_5.2.1.2.1 y_5.2.1.2.2.1 y.1 y_1.1 y_2.1.1 y_2.1.2.1 y_2.1.2.2.1 y_2.1.2.2.2.1 y_3.1.1 y_3.1.2.1 y_3.1.2.2.1 y_3.1.2.2.2.1 y_4.1.1 y_4.1.2.1 y_4.1.2.2.1 y_4.1.2.2.2.1 [] [] [] [] [] [] (0 : Int) := by kernel_rfl
theorem K5 (n : Nat) (s0 : ByteArray) (s8 : Int) (s9 : Int) (b0_0 : Int) (b0_1 : Int) (b0_2 : Int) (b0_3 : Int) (b0_4 : Int) (b0_5 : Int) (b0_6 : Int) (b0_7 : Int) (b0_8 : Int) (b0_9 : Int) (b0_10 : Int) (b0_11 : Int) (b0_12 : Int) (b0_13 : Int) (b0_14 : (List Int)) (b0_15 : (List Yj)) (b0_16 : (List Int)) (b0_17 : (List YW)) (b0_18 : (List ZX)) (b0_19 : (List Zs)) (b0_20 : Int) (b1_0 : ByteArray) (b1_1 : Int) (b1_2 : Bool) (b2_0 : Int) (b2_1 : Int) (b2_2 : Int) (b2_3 : Int) (b2_4 : Int) (b2_5 : Int) (b2_6 : Int) (b2_7 : Int) (b2_8 : Int) (b2_9 : Int) (b2_10 : Int) (b2_11 : Int) (b2_12 : Int) (b2_13 : Int) (b2_14 : (List Int)) (b2_15 : (List Yj)) (b2_16 : (List Int)) (b2_17 : (List YW)) (b2_18 : (List ZX)) (b2_19 : (List Zs)) (b2_20 : Int) : Vw (n + 1) s0 s8 s9 b0_0 b0_1 b0_2 b0_3 b0_4 b0_5 b0_6 b0_7 b0_8 b0_9 b0_10 b0_11 b0_12 b0_13 b0_14 b0_15 b0_16 b0_17 b0_18 b0_19 b0_20 b1_0 b1_1 b1_2 b2_0 b2_1 b2_2 b2_3 b2_4 b2_5 b2_6 b2_7 b2_8 b2_9 b2_10 b2_11 b2_12 b2_13 b2_14 b2_15 b2_16 b2_17 b2_18 b2_19 b2_20 = (fun zC0 => bif decide (s9 < s8) then bif !b1_2 then (fun zB => (fun zB => XA (XA zB zB) zB) (zB)) ((Y4 big (b1_0, b1_1, b1_2, ())).bind fun y => if b2_14.length + (1 : Nat) ≤ lim then Vw n s0 s8 (IntKind.i64.wrap (s9 + (1 : Int))) b0_0 b0_1 b0_2 b0_3 b0_4 b0_5 b0_6 b0_7 b0_8 b0_9 b0_10 b0_11 b0_12 b0_13 b0_14 b0_15 b0_16 b0_17 b0_18 b0_19 b0_20 y.2.1.1 y.2.1.2.1 y.2.1.2.2.1 b2_0 b2_1 b2_2 b2_3 b2_4 b2_5 b2_6 b2_7 b2_8 b2_9 b2_10 b2_11 b2_12 b2_13 (b2_14.append [y.1]) b2_15 b2_16 b2_17 b2_18 b2_19 b2_20 else none) else zC0 else zC0) (bif b1_2 then some (((0 : Int), (0 : Int), ((0 : Int), (0 : Int), (0 : Int), (0 : Int), ()), ((0 : Int), (0 : Int), (0 : Int), (0 : Int), ()), ((0 : Int), (0 : Int), (0 : Int), (0 : Int), ()), [], [], [], [], [], [], (0 : Int), ()), false, ()) else (UF big (b2_0, b2_1, (b2_2, b2_3, b2_4, b2_5, ()), (b2_6, b2_7, b2_8, b2_9, ()), (b2_10, b2_11, b2_12, b2_13, ()), b2_14, b2_15, b2_16, b2_17, b2_18, b2_19, b2_20, ())).bind fun y => bif !decide (y = s0) then some (((0 : Int), (0 : Int), ((0 : Int), (0 : Int), (0 : Int), (0 : Int), ()), ((0 : Int), (0 : Int), (0 : Int), (0 : Int), ()), ((0 : Int), (0 : Int), (0 : Int), (0 : Int), ()), [], [], [], [], [], [], (0 : Int), ()), false, ()) else some ((b2_0, b2_1, (b2_2, b2_3, b2_4, b2_5, ()), (b2_6, b2_7, b2_8, b2_9, ()), (b2_10, b2_11, b2_12, b2_13, ()), b2_14, b2_15, b2_16, b2_17, b2_18, b2_19, b2_20, ()), true, ())) := by kernel_rfl
end Go.Sx.Tryz
set_option maxRecDepth 100000
namespace Go.Sx.Tryz
open Go Go.Sx Go.Proofs
noncomputable def Zq5 : List (Nat × Con) := [(220, Zcd), (219, Ziy), (179, Zen), (28, Zib)]
theorem Ztg : ∀ q ∈ Zq5, Zo Tryz.prog q.1 q.2 := Tryz.cons_cons Zce (Tryz.cons_cons ZmT (Tryz.cons_cons ZdA (Tryz.cons_cons Zl6 (Tryz.cons_nil))))
def ZxB : KP := []
noncomputable def Zq6 (n : Nat) (x : YI [Zh, ZP]) := evX (false, false, [3, 5, 15, 19]) Zq5 ZxB [some ZC] Tryz.f185 (shF ZC) n (YV [Zh, ZP] x)
noncomputable def Zq7 : Con := roS [Zh, ZP] true (shF ZC) (Zq6 big)
theorem Zth : Zo Tryz.prog 185 Zq7 := ZI ⟨Tryz.f185, by kernel_rfl, rfl, by decide⟩ fun _ _ h => Zw Ztg (f := Tryz.f185) (by kernel_rfl) rfl (by kernel_rfl) (by kernel_rfl) big h
noncomputable def Zha (n : Nat) (a0 : Zp) (a1 : Zq) : Option Zq := Zq6 n (a0, a1, ())
theorem Zti (n : Nat) (a0 : Zp) (a1 : Zq) : Zha n a0 a1 =
  (UF big a1).bind fun y =>
 (Zcf big y).bind fun y =>
 bif !y.2.1 then
 some
 (a1.1, (1 : Int), ((0 : Int), (0 : Int), (0 : Int), (0 : Int), ()),
 ((0 : Int), (0 : Int), (0 : Int), (0 : Int), ()),
 ((0 : Int), (0 : Int), (0 : Int), (0 : Int), ()), [], [], [], [], [], [], (0 : Int), ())
 else
 (Zb3 big a0 y.1.2.2.2.2.2.1).bind fun y_1 =>
 some
 (y.1.1, y.1.2.1, y.1.2.2.1, y.1.2.2.2.1, y.1.2.2.2.2.1,
 y.1.2.2.2.2.2.1, y_1, y.1.2.2.2.2.2.2.2) := by kernel_rfl
end Go.Sx.Tryz
set_option maxRecDepth 100000
namespace Go.Sx.Tryz
open Go Go.Sx Go.Proofs
noncomputable def ZfW : List (Nat × Con) := [(67, Yn), (114, Zad), (248, Zsr)]
theorem ZvU : ∀ q ∈ ZfW, Zo Tryz.prog q.1 q.2 := Tryz.cons_cons Z3 (Tryz.cons_cons VW (Tryz.cons_cons Zlh (Tryz.cons_nil)))
abbrev ZaG : List Wa × List BK := ([.drop, .ro Za, .ro Za, .is (.ptr 0 0), .drop, .drop, .is (.ptr 1 0), .drop, .ro Za, .own Zk, .ro Za, .drop, .drop, .drop, .drop, .drop, .drop, .drop, .drop, .drop, .drop, .drop, .drop, .drop, .drop, .drop, .drop, .drop, .drop, .drop, .drop, .drop, .drop, .drop, .drop, .drop, .drop, .drop, .drop, .drop, .drop, .drop, .drop, .drop, .drop, .drop, .drop, .drop, .drop, .drop, .drop, .drop, .drop, .drop, .drop, .drop, .drop, .drop, .drop], [.vars [.ro Za, .ro ZE, .ro Za, .ro Zh, .ro YL, .ro ZG, .ro ZM, .ro Yu], .vars [.ro Za, .ro Za, .ro Za, .ro Za]])
def Zq8 : KP := [(6, ZaG)]
noncomputable def ZvV (n : Nat) (x : YI [Yx, Zn, Zn]) := evX (false, false, [3, 12, 19, 26, 30, 54]) ZfW Zq8 [none, none] Tryz.f224 (shT [(false, X3), (false, ZE)]) n (YV [Yx, Zn, Zn] x)
noncomputable def ZmW : Con := roS [Yx, Zn, Zn] true (shT [(false, X3), (false, ZE)]) (ZvV big)
theorem Ziz : Zo Tryz.prog 224 ZmW := ZI ⟨Tryz.f224, by kernel_rfl, rfl, by decide⟩ fun _ _ h => Zw ZvU (f := Tryz.f224) (by kernel_rfl) rfl (by kernel_rfl) (by kernel_rfl) big h
noncomputable def Kc (n : Nat) (a0 : Zl) (a1 : Int) (a2 : Int) : Option (Zbm × Bool × Unit) := ZvV n (a0, a1, a2, ())
noncomputable def ZxC (n : Nat) (x : KD ZaG.1) (y : BD ZaG.2) := Yh (env (false, false, [3, 12, 19, 26, 30, 54]) ZfW) Zq8 (body Tryz.f224) (VV (false, false, [3, 12, 19, 26, 30, 54]) ZfW [none, none] Tryz.f224 (shT [(false, X3), (false, ZE)]) [.val Yx (ZT Yx), .val Zn (ZT Zn), .val Zn (ZT Zn)]) n 6 ZaG x y
noncomputable def Kd (n : Nat) (s1 : Int) (s2 : Int) (s8 : Int) (s9 : (List Ze)) (s10 : Int) (b0_0 : Int) (b0_1 : Bool) (b0_2 : Int) (b0_3 : Zp) (b0_4 : WM) (b0_5 : ZO) (b0_6 : Z6) (b0_7 : Xg) (b1_0 : Int) (b1_1 : Int) (b1_2 : Int) (b1_3 : Int) : Option (Zbm × Bool × Unit) := ZxC n (s1, s2, s8, s9, s10, ()) ((b0_0, b0_1, b0_2, b0_3, b0_4, b0_5, b0_6, b0_7, ()), (b1_0, b1_1, b1_2, b1_3, ()), ())
theorem ZvW (n : Nat) (a0 : Zl) (a1 : Int) (a2 : Int) : Kc n a0 a1 a2 =
  (ZQ big a2 (1 : Int) (IntKind.i64.wrap ((↑(List.length a0.2.2.2.1) : Int) - (1 : Int)))).bind fun y =>
 bif !y then some (((0 : Int), (0 : Int), (0 : Int), (0 : Int), ()), false, ())
 else
 if (0 : Int) ≤ a2 then
 (nth a0.2.2.2.1 a2.toNat).bind fun y =>
 if (0 : Nat) + List.length a0.2.2.2.2.2.2.1 ≤ lim then
 Kd n a1 a2 y.2.1 a0.2.2.2.2.2.2.1 (0 : Int) a0.1 a0.2.1 a0.2.2.1
 a0.2.2.2.1 a0.2.2.2.2.1 a0.2.2.2.2.2.1 a0.2.2.2.2.2.2.1
 a0.2.2.2.2.2.2.2.1 (0 : Int) (0 : Int) (0 : Int) (0 : Int)
 else none
 else none := by kernel_rfl
theorem ZdO (n : Nat) (s1 : Int) (s2 : Int) (s8 : Int) (s9 : (List Ze)) (s10 : Int) (b0_0 : Int) (b0_1 : Bool) (b0_2 : Int) (b0_3 : Zp) (b0_4 : WM) (b0_5 : ZO) (b0_6 : Z6) (b0_7 : Xg) (b1_0 : Int) (b1_1 : Int) (b1_2 : Int) (b1_3 : Int) : Kd (n + 1) s1 s2 s8 s9 s10 b0_0 b0_1 b0_2 b0_3 b0_4 b0_5 b0_6 b0_7 b1_0 b1_1 b1_2 b1_3 =
  bif decide (s10 < b0_0) then
 bif decide (s10 < (7 : Int)) then
 (Ws big (b0_0, b0_1, b0_2, b0_3, b0_4, b0_5, b0_6, b0_7, ()) s10).bind fun y =>
 bif y then
 if s9.length + [(s1, s8, s2, s10, ())].length ≤ lim then
 Kd n s1 s2 s8 (s9.append [(s1, s8, s2, s10, ())]) (IntKind.i64.wrap (s10 + (1 : Int))) b0_0 b0_1
 b0_2 b0_3 b0_4 b0_5 b0_6 b0_7 b1_0 b1_1 b1_2 b1_3
 else none
 else
 Kd n s1 s2 s8 s9 (IntKind.i64.wrap (s10 + (1 : Int))) b0_0 b0_1 b0_2 b0_3 b0_4 b0_5 b0_6 b0_7 b1_0
 b1_1 b1_2 b1_3
 else (Zfy big s9 s1 s8 s2 b0_0).bind fun y => some y
 else (Zfy big s9 s1 s8 s2 b0_0).bind fun y => some y := by kernel_rfl
end Go.Sx.Tryz
set_option maxRecDepth 100000
namespace Go.Sx.Tryz
open Go Go.Sx Go.Proofs
noncomputable def ZmX : List (Nat × Con) := [(234, UD), (114, Zad), (126, ZgZ)]
theorem Zpu : ∀ q ∈ ZmX, Zo Tryz.prog q.1 q.2 := Tryz.cons_cons Vr (Tryz.cons_cons VW (Tryz.cons_cons ZfF (Tryz.cons_nil)))
def ZvX : KP := []
noncomputable def ZmY (n : Nat) (x : YI [Yx, ZD]) := evX (false, false, [2, 3, 5, 7, 14, 20, 22, 24, 29, 34, 35]) ZmX ZvX [none] Tryz.f247 (shV ZE) n (YV [Yx, ZD] x)
noncomputable def ZmZ : Con := roS [Yx, ZD] true (shV ZE) (ZmY big)
theorem Zpv : Zo Tryz.prog 247 ZmZ := ZI ⟨Tryz.f247, by kernel_rfl, rfl, by decide⟩ fun _ _ h => Zw Zpu (f := Tryz.f247) (by kernel_rfl) rfl (by kernel_rfl) (by kernel_rfl) big h
noncomputable def ZeD (n : Nat) (a0 : Zl) (a1 : Zs) : Option Bool := ZmY n (a0, a1, ())
theorem Zpw (n : Nat) (a0 : Zl) (a1 : Zs) : ZeD n a0 a1 =
  (W9 big a0.2.2.2.1 a0.1 a1).bind fun y =>
 bif !y then some false
 else
 (Ws big a0 a1.2.1).bind fun y =>
 bif !y then some false
 else
 (W7 big a0.2.2.2.2.2.2.1 a1.2.2.2.2.2.1 a0.2.2.1).bind fun y =>
 bif !y then some false
 else
 bif !decide (a1.1 = (2 : Int)) then some true
 else (Ws big a0 a1.2.2.2.2.2.2.1.2.2.2.1).bind fun y => some y := by kernel_rfl
end Go.Sx.Tryz
set_option maxRecDepth 100000
namespace Go.Sx.Tryz
open Go Go.Sx Go.Proofs
noncomputable def Zm0 : List (Nat × Con) := [(247, ZmZ), (214, Ka)]
theorem Zpx : ∀ q ∈ Zm0, Zo Tryz.prog q.1 q.2 := Tryz.cons_cons Zpv (Tryz.cons_cons Uk (Tryz.cons_nil))
def ZvY : KP := []
noncomputable def Zm1 (n : Nat) (x : AP.denL [.mu Zr, .ro ZD]) := evX (false, false, [3, 5, 6]) Zm0 ZvY [none] Tryz.f221 (shO (shV ZE) [.mu Zr]) n (AP.encL [.mu Zr, .ro ZD] x)
noncomputable def ZeE : Con := apS [.mu Zr, .ro ZD] true (shO (shV ZE) [.mu Zr]) (Zm1 big)
theorem ZdP : Zo Tryz.prog 221 ZeE := Y3 ⟨Tryz.f221, by kernel_rfl, rfl, by decide⟩ fun _ _ h => Zw Zpx (f := Tryz.f221) (by kernel_rfl) rfl (by kernel_rfl) (by kernel_rfl) big h
noncomputable def Xx (n : Nat) (a0 : Zl) (a1 : Zs) : Option (Bool × Zl × Unit) := Zm1 n (a0, a1, ())
theorem Zpy (n : Nat) (a0 : Zl) (a1 : Zs) : Xx n a0 a1 =
  (ZeD big a0 a1).bind fun y =>
 bif !y then some (false, a0, ()) else (WW big a0 [a1]).bind fun y => some y := by kernel_rfl
end Go.Sx.Tryz
set_option maxRecDepth 100000
namespace Go.Sx.Tryz
open Go Go.Sx Go.Proofs
noncomputable def ZiA : List (Nat × Con) := []
theorem Zm2 : ∀ q ∈ ZiA, Zo Tryz.prog q.1 q.2 := Tryz.cons_nil
def Ztj : KP := []
noncomputable def ZiB (n : Nat) (x : YI [Yx, Zn]) := evX (false, false, [2, 5]) ZiA Ztj [none] Tryz.f223 (shV Zn) n (YV [Yx, Zn] x)
noncomputable def ZiC : Con := roS [Yx, Zn] true (shV Zn) (ZiB big)
theorem Zm3 : Zo Tryz.prog 223 ZiC := ZI ⟨Tryz.f223, by kernel_rfl, rfl, by decide⟩ fun _ _ h => Zw Zm2 (f := Tryz.f223) (by kernel_rfl) rfl (by kernel_rfl) (by kernel_rfl) big h
noncomputable def K6 (n : Nat) (a0 : Zl) (a1 : Int) : Option Int := ZiB n (a0, a1, ())
theorem Zm4 (n : Nat) (a0 : Zl) (a1 : Int) : K6 n a0 a1 =
  bif a0.2.1 then some (4 : Int) else some (IntKind.i64.wrap ((1 : Int) + a1.tmod (3 : Int))) := by kernel_rfl
end Go.Sx.Tryz
set_option maxRecDepth 100000
namespace Go.Sx.Tryz
open Go Go.Sx Go.Proofs
noncomputable def WP : List (Nat × Con) := []
theorem ZeF : ∀ q ∈ WP, Zo Tryz.prog q.1 q.2 := Tryz.cons_nil
abbrev X8 : List Wa × List BK := ([.ro YL, .drop, .drop, .ro Za, .ro Za, .drop, .drop, .drop, .drop, .drop, .drop, .drop, .drop, .drop, .drop, .drop, .drop, .drop, .drop, .drop, .drop, .drop, .drop, .drop], [])
def JQ : KP := [(3, X8)]
noncomputable def Za9 (n : Nat) (x : YI [YL]) := evX (false, false, []) WP JQ [none] Tryz.f23 (shV Zn) n (YV [YL] x)
noncomputable def UM : Con := roS [YL] true (shV Zn) (Za9 big)
theorem Ke : Zo Tryz.prog 23 UM := ZI ⟨Tryz.f23, by kernel_rfl, rfl, by decide⟩ fun _ _ h => Zw ZeF (f := Tryz.f23) (by kernel_rfl) rfl (by kernel_rfl) (by kernel_rfl) big h
noncomputable def XS (n : Nat) (a0 : WM) : Option Int := Za9 n (a0, ())
noncomputable def ZfX (n : Nat) (x : KD X8.1) (y : BD X8.2) := Yh (env (false, false, []) WP) JQ (body Tryz.f23) (VV (false, false, []) WP [none] Tryz.f23 (shV Zn) [.val YL (ZT YL)]) n 3 X8 x y
noncomputable def Y5 (n : Nat) (s0 : WM) (s3 : Int) (s4 : Int) : Option Int := ZfX n (s0, s3, s4, ()) ()
theorem Kf (n : Nat) (a0 : WM) : XS n a0 =
  Y5 n a0 (0 : Int) (0 : Int) := by kernel_rfl
theorem YH (n : Nat) (s0 : WM) (s3 : Int) (s4 : Int) : Y5 (n + 1) s0 s3 s4 =
  bif decide (s4 < (↑(List.length s0) : Int)) then
 if (0 : Int) ≤ s4 then
 (nth s0 s4.toNat).bind fun y =>
 bif decide (s3 < y.2.1) then
 if (0 : Int) ≤ s4 then
 (nth s0 s4.toNat).bind fun y => Y5 n s0 y.2.1 (IntKind.i64.wrap (s4 + (1 : Int)))
 else none
 else Y5 n s0 s3 (IntKind.i64.wrap (s4 + (1 : Int)))
 else none
 else some s3 := by kernel_rfl
end Go.Sx.Tryz
set_option maxRecDepth 100000
namespace Go.Sx.Tryz
open Go Go.Sx Go.Proofs
noncomputable def ZiD : List (Nat × Con) := [(23, UM), (224, ZmW), (114, Zad), (125, Zel), (126, ZgZ), (197, ZbL), (221, ZeE)]
theorem Zm5 : ∀ q ∈ ZiD, Zo Tryz.prog q.1 q.2 := Tryz.cons_cons Ke (Tryz.cons_cons Ziz (Tryz.cons_cons VW (Tryz.cons_cons Zdv (Tryz.cons_cons ZfF (Tryz.cons_cons ZbM (Tryz.cons_cons ZdP (Tryz.cons_nil)))))))
def Ztk : KP := []
noncomputable def ZiE (n : Nat) (x : AP.denL [.mu Zr, .ro Wi]) := evX (false, false, [3, 8, 10, 14, 16, 17, 18, 22, 23, 24, 28, 32, 33, 34, 41, 42, 43, 46, 47, 62, 67, 68, 70, 75, 76, 77, 79, 80, 81, 83, 89, 90, 91, 93, 95, 96, 97, 103, 104, 105, 113, 114, 115, 117, 119, 122, 124, 132, 134]) ZiD Ztk [none] Tryz.f225 (shO (shV ZE) [.mu Zr]) n (AP.encL [.mu Zr, .ro Wi] x)
noncomputable def ZiF : Con := apS [.mu Zr, .ro Wi] true (shO (shV ZE) [.mu Zr]) (ZiE big)
theorem Zm6 : Zo Tryz.prog 225 ZiF := Y3 ⟨Tryz.f225, by kernel_rfl, rfl, by decide⟩ fun _ _ h => Zw Zm5 (f := Tryz.f225) (by kernel_rfl) rfl (by kernel_rfl) (by kernel_rfl) big h
noncomputable def Zcg (n : Nat) (a0 : Zl) (a1 : WT) : Option (Bool × Zl × Unit) := ZiE n (a0, a1, ())
theorem Zm7 (n : Nat) (a0 : Zl) (a1 : WT) : Zcg n a0 a1 = if (↑(List.length a0.2.2.2.1) : Int) = (0 : Int) then none else (XS big a0.2.2.2.2.1).bind fun y => bif decide (Int.tmod a1.2.2.2.1 (2 : Int) = (1 : Int)) then if (0 : Int) ≤ Int.tmod a1.2.2.2.1 (↑(List.length a0.2.2.2.1) : Int) then if Int.tmod a1.2.2.2.1 (↑(List.length a0.2.2.2.1) : Int) < (↑(List.length a0.2.2.2.1) : Int) then (nth a0.2.2.2.1 (Int.tmod a1.2.2.2.1 (↑(List.length a0.2.2.2.1) : Int)).toNat).bind fun y => bif a0.2.1 then (Kc big a0 (4 : Int) (Int.tmod a1.2.2.2.1 (↑(List.length a0.2.2.2.1) : Int))).bind fun y_1 => (fun zC0 => bif !y_1.2.1 then bif !decide (Int.tmod a1.2.2.2.1 (↑(List.length a0.2.2.2.1) : Int) = (0 : Int)) then some (false, a0, ()) else zC0 else zC0) ((Ws big a0 a1.2.1).bind fun y_2 => bif !y_2 then some (false, a0, ()) else (Xv big a0.2.2.2.1 a0.1 y_1.1).bind fun y_3 => bif !y_3 then some (false, a0, ()) else (W7 big a0.2.2.2.2.2.2.1 y_1.1 a0.2.2.1).bind fun y_4 => bif !y_4 then some (false, a0, ()) else (XH big a0.2.2.2.1 (Int.tmod a1.2.2.2.1 (↑(List.length a0.2.2.2.1) : Int), IntKind.i64.wrap (y.2.1 + (1 : Int)), [a1.2.2.2.2.1], y_1.1, ())).bind fun y_5 => bif decide (y_5.2.1 < (0 : Int)) then some (false, a0, ()) else (Xx big (a0.1, a0.2.1, a0.2.2.1, y_5.1, a0.2.2.2.2) ((1 : Int), a1.2.1, a1.2.2.1, IntKind.i64.wrap (y.2.1 + (1 : Int)), y_5.2.1, y_1.1, ((0 : Int), (0 : Int), (0 : Int), (0 : Int), ()), ())).bind fun y => bif !y.1 then some (false, (y.2.1.1, y.2.1.2.1, y.2.1.2.2.1, a0.2.2.2.1, y.2.1.2.2.2.2), ()) else some (true, y.2)) else (Kc big a0 (1 : Int) (Int.tmod a1.2.2.2.1 (↑(List.length a0.2.2.2.1) : Int))).bind fun y_1 => (fun zC1 => bif !y_1.2.1 then bif !decide (Int.tmod a1.2.2.2.1 (↑(List.length a0.2.2.2.1) : Int) = (0 : Int)) then some (false, a0, ()) else zC1 else zC1) ((Ws big a0 a1.2.1).bind fun y_2 => bif !y_2 then some (false, a0, ()) else (Xv big a0.2.2.2.1 a0.1 y_1.1).bind fun y_3 => bif !y_3 then some (false, a0, ()) else (W7 big a0.2.2.2.2.2.2.1 y_1.1 a0.2.2.1).bind fun y_4 => bif !y_4 then some (false, a0, ()) else (XH big a0.2.2.2.1 (Int.tmod a1.2.2.2.1 (↑(List.length a0.2.2.2.1) : Int), IntKind.i64.wrap (y.2.1 + (1 : Int)), [a1.2.2.2.2.1], y_1.1, ())).bind fun y_5 => bif decide (y_5.2.1 < (0 : Int)) then some (false, a0, ()) else (Xx big (a0.1, a0.2.1, a0.2.2.1, y_5.1, a0.2.2.2.2) ((1 : Int), a1.2.1, a1.2.2.1, IntKind.i64.wrap (y.2.1 + (1 : Int)), y_5.2.1, y_1.1, ((0 : Int), (0 : Int), (0 : Int), (0 : Int), ()), ())).bind fun y => bif !y.1 then some (false, (y.2.1.1, y.2.1.2.1, y.2.1.2.2.1, a0.2.2.2.1, y.2.1.2.2.2.2), ()) else some (true, y.2)) else none else none else bif a0.2.1 then (Kc big a0 (4 : Int) (Int.tmod a1.2.2.2.1 (↑(List.length a0.2.2.2.1) : Int))).bind fun y_1 => (fun zC2 => bif !y_1.2.1 then bif !decide (Int.tmod a1.2.2.2.1 (↑(List.length a0.2.2.2.1) : Int) = (0 : Int)) then some (false, a0, ()) else zC2 else zC2) ((Ws big a0 a1.2.1).bind fun y_2 => bif !y_2 then some (false, a0, ()) else (Xv big a0.2.2.2.1 a0.1 y_1.1).bind fun y_3 => bif !y_3 then some (false, a0, ()) else (W7 big a0.2.2.2.2.2.2.1 y_1.1 a0.2.2.1).bind fun y_4 => bif !y_4 then some (false, a0, ()) else (XH big a0.2.2.2.1 (Int.tmod a1.2.2.2.1 (↑(List.length a0.2.2.2.1) : Int), IntKind.i64.wrap (y + (1 : Int)), [a1.2.2.2.2.1], y_1.1, ())).bind fun y_5 => bif decide (y_5.2.1 < (0 : Int)) then some (false, a0, ()) else (Xx big (a0.1, a0.2.1, a0.2.2.1, y_5.1, a0.2.2.2.2) ((1 : Int), a1.2.1, a1.2.2.1, IntKind.i64.wrap (y + (1 : Int)), y_5.2.1, y_1.1, ((0 : Int), (0 : Int), (0 : Int), (0 : Int), ()), ())).bind fun y => bif !y.1 then some (false, (y.2.1.1, y.2.1.2.1, y.2.1.2.2.1, a0.2.2.2.1, y.2.1.2.2.2.2), ()) else some (true, y.2)) else (Kc big a0 (1 : Int) (Int.tmod a1.2.2.2.1 (↑(List.length a0.2.2.2.1) : Int))).bind fun y_1 => (fun zC3 => bif !y_1.2.1 then bif !decide (Int.tmod a1.2.2.2.1 (↑(List.length a0.2.2.2.1) : Int) = (0 : Int)) then some (false, a0, ()) else zC3 else zC3) ((Ws big a0 a1.2.1).bind fun y_2 => bif !y_2 then some (false, a0, ()) else (Xv big a0.2.2.2.1 a0.1 y_1.1).bind fun y_3 => bif !y_3 then some (false, a0, ()) else (W7 big a0.2.2.2.2.2.2.1 y_1.1 a0.2.2.1).bind fun y_4 => bif !y_4 then some (false, a0, ()) else (XH big a0.2.2.2.1 (Int.tmod a1.2.2.2.1 (↑(List.length a0.2.2.2.1) : Int), IntKind.i64.wrap (y + (1 : Int)), [a1.2.2.2.2.1], y_1.1, ())).bind fun y_5 => bif decide (y_5.2.1 < (0 : Int)) then some (false, a0, ()) else (Xx big (a0.1, a0.2.1, a0.2.2.1, y_5.1, a0.2.2.2.2) ((1 : Int), a1.2.1, a1.2.2.1, IntKind.i64.wrap (y + (1 : Int)), y_5.2.1, y_1.1, ((0 : Int), (0 : Int), (0 : Int), (0 : Int), ()), ())).bind fun y => bif !y.1 then some (false, (y.2.1.1, y.2.1.2.1, y.2.1.2.2.1, a0.2.2.2.1, y.2.1.2.2.2.2), ()) else some (true, y.2)) := by kernel_rfl
end Go.Sx.Tryz
set_option maxRecDepth 100000
namespace Go.Sx.Tryz
open Go Go.Sx Go.Proofs
noncomputable def Zq9 : List (Nat × Con) := [(114, Zad), (223, ZiC), (222, ZlO), (221, ZeE), (224, ZmW), (225, ZiF)]
theorem Ztl : ∀ q ∈ Zq9, Zo Tryz.prog q.1 q.2 := Tryz.cons_cons VW (Tryz.cons_cons Zm3 (Tryz.cons_cons ZoQ (Tryz.cons_cons ZdP (Tryz.cons_cons Ziz (Tryz.cons_cons Zm6 (Tryz.cons_nil))))))
def ZxD : KP := []
noncomputable def Zra (n : Nat) (x : AP.denL [.mu Zr, .ro Wi]) := evX (false, false, [3, 6, 8, 9, 10, 15, 16, 18, 23, 25, 26, 27, 31, 36, 37, 39, 41, 43, 44, 46, 55, 56, 58, 59, 61, 71, 73, 75, 86, 88, 90, 999999]) Zq9 ZxD [none] Tryz.f186 (shO (shV ZE) [.mu Zr]) n (AP.encL [.mu Zr, .ro Wi] x)
noncomputable def Zrb : Con := apS [.mu Zr, .ro Wi] true (shO (shV ZE) [.mu Zr]) (Zra big)
theorem Ztm : Zo Tryz.prog 186 Zrb := Y3 ⟨Tryz.f186, by kernel_rfl, rfl, by decide⟩ fun _ _ h => Zw Ztl (f := Tryz.f186) (by kernel_rfl) rfl (by kernel_rfl) (by kernel_rfl) big h
noncomputable def Zhb (n : Nat) (a0 : Zl) (a1 : WT) : Option (Bool × Zl × Unit) := Zra n (a0, a1, ())
theorem Ztn (n : Nat) (a0 : Zl) (a1 : WT) : Zhb n a0 a1 =
  bif decide ((↑(List.length a0.2.2.2.1) : Int) = (0 : Int)) then some (false, a0, ())
 else
 (Ws big a0 a1.2.1).bind fun y =>
 bif !y then some (false, a0, ())
 else
 if (↑(List.length a0.2.2.2.1) : Int) = (0 : Int) then none
 else
 bif decide (a1.1 = (8 : Int)) then
 (K6 big a0 a1.2.2.2.1).bind fun y =>
 (Zeq big a0 a1.2.1 a1.2.2.1 y
 (Int.tmod a1.2.2.2.1 (↑(List.length a0.2.2.2.1) : Int))).bind
 fun y => (Xx big a0 y).bind fun y => some y
 else
 bif decide (a1.1 = (9 : Int)) then
 (K6 big a0 a1.2.2.2.1).bind fun y =>
 (Kc big a0 y (Int.tmod a1.2.2.2.1 (↑(List.length a0.2.2.2.1) : Int))).bind
 fun y =>
 bif !y.2.1 then some (false, a0, ())
 else
 (Xx big a0
 ((3 : Int), a1.2.1, a1.2.2.1, y.1.2.1, (0 : Int), y.1,
 ((0 : Int), (0 : Int), (0 : Int), (0 : Int), ()), ())).bind
 fun y => some y
 else
 bif decide (a1.1 = (10 : Int)) then (Zcg big a0 a1).bind fun y => some y
 else
 (Xx big a0
 ((4 : Int), a1.2.1, a1.2.2.1,
 IntKind.i64.wrap (Int.tmod a1.2.2.2.1 (900 : Int) + (1 : Int)), (0 : Int),
 ((0 : Int), (0 : Int), (0 : Int), (0 : Int), ()),
 ((0 : Int), (0 : Int), (0 : Int), (0 : Int), ()), ())).bind
 fun y => some y := by kernel_rfl
end Go.Sx.Tryz
set_option maxRecDepth 100000
namespace Go.Sx.Tryz
open Go Go.Sx Go.Proofs
noncomputable def Va : List (Nat × Con) := [(59, YG), (114, Zad), (187, Zqv), (106, Wt), (188, Zlv), (63, Zab), (62, XV)]
theorem Zm8 : ∀ q ∈ Va, Zo Tryz.prog q.1 q.2 := Tryz.cons_cons Ym (Tryz.cons_cons VW (Tryz.cons_cons Zr6 (Tryz.cons_cons XR (Tryz.cons_cons ZhY (Tryz.cons_cons Jj (Tryz.cons_cons XE (Tryz.cons_nil)))))))
abbrev Un : List Wa × List BK := ([.is (.ptr 0 0), .drop, .drop, .is (.ptr 6 0), .is (.ptr 7 0), .ro Za, .ro Za, .ro Za, .drop, .drop, .drop, .drop, .drop, .drop, .drop, .drop, .drop, .drop, .drop, .drop, .drop, .drop, .drop, .drop, .drop, .drop, .drop, .drop, .drop, .drop, .drop, .drop, .drop, .drop, .drop, .drop, .drop, .drop, .drop, .drop, .drop, .drop, .drop, .drop, .drop, .drop, .drop, .drop, .drop, .drop, .drop, .drop, .drop, .drop, .drop, .drop, .drop, .drop, .drop, .drop, .drop, .drop, .drop, .drop, .drop, .drop, .drop, .drop, .drop, .drop, .drop, .drop, .drop, .drop, .drop, .drop, .drop, .drop, .drop, .drop, .drop, .drop, .drop, .drop, .drop, .drop, .drop, .drop, .drop, .drop, .drop, .drop, .drop, .drop, .drop, .drop, .drop, .drop, .drop, .drop, .drop, .drop, .drop, .drop, .drop, .drop, .drop, .drop, .drop, .drop, .drop, .drop, .drop, .drop, .drop, .drop], [.vars [.ro Ya, .ro Za, .ro Za], .arr YU, .arr ZC, .arr ZD, .arr ZV, .arr VI, .vars [.ro Za, .ro ZE, .ro Za, .is (.own 1 0), .is (.own 2 0), .is (.own 3 0), .is (.own 4 0), .is (.own 5 0)], .vars [.ro Za, .ro Za, .ro Za, .ro Za, .ro Za, .ro Zx, .ro Za]])
abbrev Vx : List Wa × List BK := ([.drop, .drop, .drop, .is (.ptr 6 0), .is (.ptr 7 0), .drop, .drop, .drop, .ro Za, .drop, .drop, .drop, .drop, .drop, .drop, .drop, .drop, .drop, .drop, .drop, .drop, .drop, .drop, .drop, .drop, .drop, .drop, .drop, .drop, .drop, .drop, .drop, .drop, .drop, .drop, .drop, .drop, .drop, .drop, .drop, .drop, .drop, .drop, .drop, .drop, .drop, .drop, .drop, .drop, .drop, .drop, .drop, .drop, .drop, .drop, .drop, .drop, .drop, .drop, .drop, .drop, .drop, .drop, .drop, .drop, .drop, .drop, .drop, .drop, .drop, .drop, .drop, .drop, .drop, .drop, .drop, .drop, .drop, .drop, .drop, .drop, .drop, .drop, .drop, .drop, .drop, .drop, .drop, .drop, .drop, .drop, .drop, .drop, .drop, .drop, .drop, .drop, .drop, .drop, .drop, .drop, .drop, .drop, .drop, .drop, .drop, .drop, .drop, .drop, .drop, .drop, .drop, .drop, .drop, .drop, .drop], [.vars [.ro Ya, .ro Za, .ro Za], .arr YU, .arr ZC, .arr ZD, .arr ZV, .arr VI, .vars [.ro Za, .ro ZE, .ro Za, .is (.own 1 0), .is (.own 2 0), .is (.own 3 0), .is (.own 4 0), .is (.own 5 0)], .vars [.ro Za, .ro Za, .ro Za, .ro Za, .ro Za, .ro Zx, .ro Za]])
def ZaH : KP := [(4, Un), (12, Vx)]
noncomputable def ZiG (n : Nat) (x : AP.denL [.mr Zv, .mo Zr]) := evX (false, true, [3, 15, 34, 44, 49, 51, 61, 70]) Va ZaH [none] Tryz.f135 (shO (shV Wi) [.mr Zv, .mo Zr]) n (AP.encL [.mr Zv, .mo Zr] x)
noncomputable def ZiH : Con := apS [.mr Zv, .mo Zr] false (shO (shV Wi) [.mr Zv, .mo Zr]) (ZiG big)
theorem Zm9 : Zo Tryz.prog 135 ZiH := Y3 ⟨Tryz.f135, by kernel_rfl, rfl, by decide⟩ fun _ _ h => Zw Zm8 (f := Tryz.f135) (by kernel_rfl) rfl (by kernel_rfl) (by kernel_rfl) big h
noncomputable def Zch (n : Nat) (a0 : ZF) (a1 : Zl) : Option (WT × ZF × (Unit × Unit × Unit × (List ZN) × (List Zq) × (List Zs) × (List ZX) × (List Vc) × Unit) × Unit) := ZiG n (a0, a1, ())
noncomputable def Zpz (n : Nat) (x : KD Un.1) (y : BD Un.2) := Yh (env (false, true, [3, 15, 34, 44, 49, 51, 61, 70]) Va) ZaH (body Tryz.f135) (VV (false, true, [3, 15, 34, 44, 49, 51, 61, 70]) Va [none] Tryz.f135 (shO (shV Wi) [.mr Zv, .mo Zr]) [AP.enc (.mr Zv) (ZT Zv), AP.enc (.mo Zr) (ZT Zr)]) n 4 Un x y
noncomputable def WK (n : Nat) (s5 : Int) (s6 : Int) (s7 : Int) (b0_0 : YZ) (b0_1 : Int) (b0_2 : Int) (b1 : (List ZN)) (b2 : (List Zq)) (b3 : (List Zs)) (b4 : (List ZX)) (b5 : (List Vc)) (b6_0 : Int) (b6_1 : Bool) (b6_2 : Int) (b7_0 : Int) (b7_1 : Int) (b7_2 : Int) (b7_3 : Int) (b7_4 : Int) (b7_5 : ByteArray) (b7_6 : Int) : Option (WT × ZF × (Unit × Unit × Unit × (List ZN) × (List Zq) × (List Zs) × (List ZX) × (List Vc) × Unit) × Unit) := Zpz n (s5, s6, s7, ()) ((b0_0, b0_1, b0_2, ()), b1, b2, b3, b4, b5, (b6_0, b6_1, b6_2, ()), (b7_0, b7_1, b7_2, b7_3, b7_4, b7_5, b7_6, ()), ())
noncomputable def Zna (n : Nat) (x : KD Vx.1) (y : BD Vx.2) := Yh (env (false, true, [3, 15, 34, 44, 49, 51, 61, 70]) Va) ZaH (body Tryz.f135) (VV (false, true, [3, 15, 34, 44, 49, 51, 61, 70]) Va [none] Tryz.f135 (shO (shV Wi) [.mr Zv, .mo Zr]) [AP.enc (.mr Zv) (ZT Zv), AP.enc (.mo Zr) (ZT Zr)]) n 12 Vx x y
noncomputable def Wo (n : Nat) (s8 : Int) (b0_0 : YZ) (b0_1 : Int) (b0_2 : Int) (b1 : (List ZN)) (b2 : (List Zq)) (b3 : (List Zs)) (b4 : (List ZX)) (b5 : (List Vc)) (b6_0 : Int) (b6_1 : Bool) (b6_2 : Int) (b7_0 : Int) (b7_1 : Int) (b7_2 : Int) (b7_3 : Int) (b7_4 : Int) (b7_5 : ByteArray) (b7_6 : Int) : Option (WT × ZF × (Unit × Unit × Unit × (List ZN) × (List Zq) × (List Zs) × (List ZX) × (List Vc) × Unit) × Unit) := Zna n (s8, ()) ((b0_0, b0_1, b0_2, ()), b1, b2, b3, b4, b5, (b6_0, b6_1, b6_2, ()), (b7_0, b7_1, b7_2, b7_3, b7_4, b7_5, b7_6, ()), ())
theorem Znb (n : Nat) (a0 : ZF) (a1 : Zl) : Zch n a0 a1 = (ZY big a0 (20 : Int)).bind fun y => WK n y.1 (0 : Int) (0 : Int) y.2.1.1 y.2.1.2.1 y.2.1.2.2.1 a1.2.2.2.1 a1.2.2.2.2.1 a1.2.2.2.2.2.1 a1.2.2.2.2.2.2.1 a1.2.2.2.2.2.2.2.1 a1.1 a1.2.1 a1.2.2.1 (0 : Int) (0 : Int) (0 : Int) (0 : Int) (0 : Int) ByteArray.empty (0 : Int) := by kernel_rfl
theorem JR (n : Nat) (s5 : Int) (s6 : Int) (s7 : Int) (b0_0 : YZ) (b0_1 : Int) (b0_2 : Int) (b1 : (List ZN)) (b2 : (List Zq)) (b3 : (List Zs)) (b4 : (List ZX)) (b5 : (List Vc)) (b6_0 : Int) (b6_1 : Bool) (b6_2 : Int) (b7_0 : Int) (b7_1 : Int) (b7_2 : Int) (b7_3 : Int) (b7_4 : Int) (b7_5 : ByteArray) (b7_6 : Int) : WK (n + 1) s5 s6 s7 b0_0 b0_1 b0_2 b1 b2 b3 b4 b5 b6_0 b6_1 b6_2 b7_0 b7_1 b7_2 b7_3 b7_4 b7_5 b7_6 = (fun zC0 => bif decide (s7 < b6_0) then (Ws big (b6_0, b6_1, b6_2, b1, b2, b3, b4, b5, ()) s7).bind fun y => bif y then WK n s5 s7 (IntKind.i64.wrap (s7 + (1 : Int))) b0_0 b0_1 b0_2 b1 b2 b3 b4 b5 b6_0 b6_1 b6_2 b7_0 b7_1 b7_2 b7_3 b7_4 b7_5 b7_6 else WK n s5 s6 (IntKind.i64.wrap (s7 + (1 : Int))) b0_0 b0_1 b0_2 b1 b2 b3 b4 b5 b6_0 b6_1 b6_2 b7_0 b7_1 b7_2 b7_3 b7_4 b7_5 b7_6 else bif decide (s5 = (0 : Int)) then (ZcQ big (b0_0, b0_1, b0_2, ())).bind fun y => some (((1 : Int), (0 : Int), (0 : Int), (0 : Int), y.1, ()), y.2.1, zC0, ()) else bif decide (s5 < (4 : Int)) then Wo n (0 : Int) b0_0 b0_1 b0_2 b1 b2 b3 b4 b5 b6_0 b6_1 b6_2 b7_0 b7_1 b7_2 b7_3 b7_4 b7_5 b7_6 else bif decide (s5 < (14 : Int)) then bif decide ((0 : Int) < (↑b3.length : Int)) then (Q3 big (b0_0, b0_1, b0_2, ()) (3 : Int)).bind fun y => bif y.1 then (ZY big y.2.1 (↑b3.length : Int)).bind fun y => some (((3 : Int), y.1, (0 : Int), (0 : Int), ((0 : Int), ByteArray.empty, (0 : Int), ()), ()), y.2.1, zC0, ()) else some (((3 : Int), (0 : Int), (0 : Int), (0 : Int), ((0 : Int), ByteArray.empty, (0 : Int), ()), ()), y.2.1, zC0, ()) else some (((3 : Int), (0 : Int), (0 : Int), (0 : Int), ((0 : Int), ByteArray.empty, (0 : Int), ()), ()), (b0_0, b0_1, b0_2, ()), zC0, ()) else bif decide (s5 = (14 : Int)) then (Xe big (b0_0, b0_1, b0_2, ()) [(4 : Int), (5 : Int)]).bind fun y => (ZY big y.2.1 (4 : Int)).bind fun y_1 => some ((y.1, y_1.1, (0 : Int), (0 : Int), ((0 : Int), ByteArray.empty, (0 : Int), ()), ()), y_1.2.1, zC0, ()) else bif decide (s5 = (15 : Int)) then (ZY big (b0_0, b0_1, b0_2, ()) (4 : Int)).bind fun y => some (((6 : Int), y.1, (0 : Int), (0 : Int), ((0 : Int), ByteArray.empty, (0 : Int), ()), ()), y.2.1, zC0, ()) else bif decide (s5 = (16 : Int)) then (ZY big (b0_0, b0_1, b0_2, ()) (4 : Int)).bind fun y => some (((7 : Int), y.1, (0 : Int), (0 : Int), ((0 : Int), ByteArray.empty, (0 : Int), ()), ()), y.2.1, zC0, ()) else (ZY big (b0_0, b0_1, b0_2, ()) (30 : Int)).bind fun y => (ZY big y.2.1 (4 : Int)).bind fun y_1 => bif decide (s5 = (17 : Int)) then (ZcQ big y_1.2.1).bind fun y_2 => some (((10 : Int), s6, y_1.1, y.1, y_2.1, ()), y_2.2.1, zC0, ()) else (Xe big y_1.2.1 [(8 : Int), (9 : Int), (11 : Int), (8 : Int)]).bind fun y_2 => some ((y_2.1, s6, y_1.1, y.1, ((0 : Int), ByteArray.empty, (0 : Int), ()), ()), y_2.2.1, zC0, ())) ((), (), (), b1, b2, b3, b4, b5, ()) := by kernel_rfl
theorem K7 (n : Nat) (s8 : Int) (b0_0 : YZ) (b0_1 : Int) (b0_2 : Int) (b1 : (List ZN)) (b2 : (List Zq)) (b3 : (List Zs)) (b4 : (List ZX)) (b5 : (List Vc)) (b6_0 : Int) (b6_1 : Bool) (b6_2 : Int) (b7_0 : Int) (b7_1 : Int) (b7_2 : Int) (b7_3 : Int) (b7_4 : Int) (b7_5 : ByteArray) (b7_6 : Int) : Wo (n + 1) s8 b0_0 b0_1 b0_2 b1 b2 b3 b4 b5 b6_0 b6_1 b6_2 b7_0 b7_1 b7_2 b7_3 b7_4 b7_5 b7_6 = bif decide (s8 < (↑b2.length : Int)) then (XM big (b6_0, b6_1, b6_2, b1, b2, b3, b4, b5, ()) s8).bind fun y => bif y then if (0 : Int) ≤ s8 then if s8 < (↑b2.length : Int) then (nth b2 s8.toNat).bind fun y => (ZfC big y b6_0 b6_1).bind fun y_1 => (Zdf b2 s8.toNat y).bind fun y => bif y_1 then some (((2 : Int), s8, (0 : Int), (0 : Int), ((0 : Int), ByteArray.empty, (0 : Int), ()), ()), (b0_0, b0_1, b0_2, ()), ((), (), (), b1, y, b3, b4, b5, ()), ()) else Wo n (IntKind.i64.wrap (s8 + (1 : Int))) b0_0 b0_1 b0_2 b1 y b3 b4 b5 b6_0 b6_1 b6_2 b7_0 b7_1 b7_2 b7_3 b7_4 b7_5 b7_6 else none else none else Wo n (IntKind.i64.wrap (s8 + (1 : Int))) b0_0 b0_1 b0_2 b1 b2 b3 b4 b5 b6_0 b6_1 b6_2 b7_0 b7_1 b7_2 b7_3 b7_4 b7_5 b7_6 else some (((3 : Int), (0 : Int), (0 : Int), (0 : Int), ((0 : Int), ByteArray.empty, (0 : Int), ()), ()), (b0_0, b0_1, b0_2, ()), ((), (), (), b1, b2, b3, b4, b5, ()), ()) := by kernel_rfl
end Go.Sx.Tryz
set_option maxRecDepth 100000
namespace Go.Sx.Tryz
open Go Go.Sx Go.Proofs
noncomputable def ZaI : List (Nat × Con) := [(106, Wt), (188, Zlv), (213, Zvl), (215, ZlL), (214, Ka)]
theorem ZpA : ∀ q ∈ ZaI, Zo Tryz.prog q.1 q.2 := Tryz.cons_cons XR (Tryz.cons_cons ZhY (Tryz.cons_cons Zvm (Tryz.cons_cons ZoN (Tryz.cons_cons Uk (Tryz.cons_nil)))))
abbrev XO : List Wa × List BK := ([.is (.ptr 5 0), .ro Za, .drop, .drop, .drop, .ro Za, .own ZJ, .is (.ptr 26 0), .ro Za, .drop, .drop, .drop, .drop, .drop, .drop, .drop, .drop, .drop, .drop, .drop, .drop, .drop, .drop, .drop, .drop, .drop, .drop, .drop, .drop, .drop, .drop, .drop, .drop, .drop, .drop, .drop, .drop, .drop, .drop, .drop, .drop, .drop, .drop, .drop, .drop, .drop, .drop, .drop, .drop, .drop, .drop, .drop, .drop, .drop, .drop, .drop, .drop, .drop, .drop, .drop, .drop, .drop, .drop, .drop, .drop, .drop, .drop, .drop, .drop, .drop, .drop, .drop, .drop, .drop, .drop, .drop, .drop, .drop, .drop, .drop, .drop, .drop, .drop, .drop, .drop, .drop, .drop, .drop, .drop, .drop, .drop, .drop, .drop, .drop, .drop, .drop, .drop, .drop, .drop, .drop, .drop, .drop, .drop, .drop, .drop, .drop, .drop, .drop, .drop, .drop, .drop, .drop], [.drop, .drop, .drop, .drop, .drop, .vars [.ro Za, .ro ZE, .ro Za, .own ZJ, .own ZW, .own Zg, .own Zk, .own ZU], .drop, .drop, .drop, .drop, .drop, .drop, .drop, .drop, .drop, .drop, .drop, .drop, .drop, .drop, .drop, .drop, .drop, .drop, .drop, .drop, .vars [.ro Za, .ro Za, .ro Za, .ro Za, .ro Za, .ro Za, .ro Za, .ro Za, .ro Za, .ro Za, .ro Za, .ro Za, .ro Za, .ro Za, .own Za, .own Zt, .own Za, .own Zy, .own Zk, .own Zg, .ro Za]])
def ZiI : KP := [(5000007, XO)]
noncomputable def Znc (n : Nat) (x : AP.denL [.mu Zr, .ro Zn]) := evX (true, true, [7, 9, 10, 16, 17, 18, 23, 24, 25, 27, 28, 29, 35, 36, 37, 40, 41, 42, 47, 48, 49, 55, 56, 57, 59, 60, 61, 67, 68, 69, 80, 82, 84, 85, 86, 91, 93, 94, 95, 100, 106, 107, 108, 999999, 999995]) ZaI ZiI [none] Tryz.f180 (shO (shV ZE) [.mu Zr]) n (AP.encL [.mu Zr, .ro Zn] x)
noncomputable def Znd : Con := apS [.mu Zr, .ro Zn] true (shO (shV ZE) [.mu Zr]) (Znc big)
theorem ZpB : Zo Tryz.prog 180 Znd := Y3 ⟨Tryz.f180, by kernel_rfl, rfl, by decide⟩ fun _ _ h => Zw ZpA (f := Tryz.f180) (by kernel_rfl) rfl (by kernel_rfl) (by kernel_rfl) big h
noncomputable def ZeG (n : Nat) (a0 : Zl) (a1 : Int) : Option (Bool × Zl × Unit) := Znc n (a0, a1, ())
noncomputable def ZeH (n : Nat) (x : KD XO.1) (y : BD XO.2) := Yh (env (true, true, [7, 9, 10, 16, 17, 18, 23, 24, 25, 27, 28, 29, 35, 36, 37, 40, 41, 42, 47, 48, 49, 55, 56, 57, 59, 60, 61, 67, 68, 69, 80, 82, 84, 85, 86, 91, 93, 94, 95, 100, 106, 107, 108, 999999, 999995]) ZaI) ZiI (body Tryz.f180) (VV (true, true, [7, 9, 10, 16, 17, 18, 23, 24, 25, 27, 28, 29, 35, 36, 37, 40, 41, 42, 47, 48, 49, 55, 56, 57, 59, 60, 61, 67, 68, 69, 80, 82, 84, 85, 86, 91, 93, 94, 95, 100, 106, 107, 108, 999999, 999995]) ZaI [none] Tryz.f180 (shO (shV ZE) [.mu Zr]) [AP.enc (.mu Zr) (ZT Zr), AP.enc (.ro Zn) (ZT Zn)]) n 5000007 XO x y
noncomputable def Z9 (n : Nat) (s1 : Int) (s5 : Int) (s6 : (List Zm)) (s8 : Int) (b5_0 : Int) (b5_1 : Bool) (b5_2 : Int) (b5_3 : (List Zm)) (b5_4 : (List Zu)) (b5_5 : (List Zc)) (b5_6 : (List Ze)) (b5_7 : (List ZL)) (b26_0 : Int) (b26_1 : Int) (b26_2 : Int) (b26_3 : Int) (b26_4 : Int) (b26_5 : Int) (b26_6 : Int) (b26_7 : Int) (b26_8 : Int) (b26_9 : Int) (b26_10 : Int) (b26_11 : Int) (b26_12 : Int) (b26_13 : Int) (b26_14 : (List Int)) (b26_15 : (List Zf)) (b26_16 : (List Int)) (b26_17 : (List Zi)) (b26_18 : (List Ze)) (b26_19 : (List Zc)) (b26_20 : Int) : Option (Bool × Zl × Unit) := ZeH n (s1, s5, s6, s8, ()) ((b5_0, b5_1, b5_2, b5_3, b5_4, b5_5, b5_6, b5_7, ()), (b26_0, b26_1, b26_2, b26_3, b26_4, b26_5, b26_6, b26_7, b26_8, b26_9, b26_10, b26_11, b26_12, b26_13, b26_14, b26_15, b26_16, b26_17, b26_18, b26_19, b26_20, ()), ())
theorem ZpC (n : Nat) (a0 : Zl) (a1 : Int) : ZeG n a0 a1 = (XM big a0 a1).bind fun y => bif !y then some (false, a0, ()) else if (0 : Int) ≤ a1 then if a1 < (↑(List.length a0.2.2.2.2.1) : Int) then (nth a0.2.2.2.2.1 a1.toNat).bind fun y => (ZfC big y a0.1 a0.2.1).bind fun y_1 => (Zdf a0.2.2.2.2.1 a1.toNat y).bind fun y => (fun zC8 => (fun zC2 => (fun zC4 => (fun zC0 => (fun zC3 => (fun zC5 => (fun zC1 => (fun zC6 => (fun zC7 => bif !y_1 then some (false, (a0.1, a0.2.1, a0.2.2.1, a0.2.2.2.1, y, a0.2.2.2.2.2), ()) else bif decide ((60 : Int) < IntKind.i64.wrap ((↑(List.length a0.2.2.2.2.2.1) : Int) + a0.1)) then some (false, (a0.1, a0.2.1, a0.2.2.1, a0.2.2.2.1, y, a0.2.2.2.2.2), ()) else bif decide ((4 : Int) < (↑(List.length a0.2.2.2.2.2.2.2.1) : Int)) then XA (if (0 : Int) ≤ a1 then if a1 < (↑y.length : Int) then XA ((nth y a1.toNat).bind fun y_2 => (fun zB => (fun zB => XA zB zB) (zB)) (if (4 : Int) ≤ (↑(List.length a0.2.2.2.2.2.2.2.1) : Int) then if (0 : Nat) + (List.take (Int.toNat (4 : Int) - (0 : Nat)) (List.drop (0 : Nat) a0.2.2.2.2.2.2.2.1)).length ≤ lim then (Wl big a0.2.2.2.1 y_2 (List.take (Int.toNat (4 : Int) - (0 : Nat)) (List.drop (0 : Nat) a0.2.2.2.2.2.2.2.1))).bind fun y_3 => (Zdf y a1.toNat y_2).bind fun y => Z9 n a1 (4 : Int) y_3.1 y_3.2.2.1 a0.1 a0.2.1 a0.2.2.1 a0.2.2.2.1 y a0.2.2.2.2.2.1 a0.2.2.2.2.2.2.1 a0.2.2.2.2.2.2.2.1 y_3.2.1.1 y_3.2.1.2.1 y_3.2.1.2.2.1.1 y_3.2.1.2.2.1.2.1 y_3.2.1.2.2.1.2.2.1 y_3.2.1.2.2.1.2.2.2.1 y_3.2.1.2.2.2.1.1 y_3.2.1.2.2.2.1.2.1 y_3.2.1.2.2.2.1.2.2.1 y_3.2.1.2.2.2.1.2.2.2.1 y_3.2.1.2.2.2.2.1.1 y_3.2.1.2.2.2.2.1.2.1 y_3.2.1.2.2.2.2.1.2.2.1 y_3.2.1.2.2.2.2.1.2.2.2.1 y_3.2.1.2.2.2.2.2.1 y_3.2.1.2.2.2.2.2.2.1 y_3.2.1.2.2.2.2.2.2.2.1 y_3.2.1.2.2.2.2.2.2.2.2.1 y_3.2.1.2.2.2.2.2.2.2.2.2.1 y_3.2.1.2.2.2.2.2.2.2.2.2.2.1 y_3.2.1.2.2.2.2.2.2.2.2.2.2.2.1 else none else none)) (XA (XA (zC7) (if (4 : Int) ≤ (↑(List.length a0.2.2.2.2.2.2.2.1) : Int) then zC1 else none)) (if (4 : Int) ≤ (↑(List.length a0.2.2.2.2.2.2.2.1) : Int) then (fun zB0 zB1 => (fun zB0 zB1 => XA zB0 (XA zB0 zB1)) (zB0) (zB1)) zC5 (if (0 : Nat) + (List.take (Int.toNat (4 : Int) - (0 : Nat)) (List.drop (0 : Nat) a0.2.2.2.2.2.2.2.1)).length ≤ lim then zC3 else none) else none)) else none else none) (XA (XA (if (0 : Int) ≤ a1 then if a1 < (↑y.length : Int) then XA (zC7) (if (4 : Int) ≤ (↑(List.length a0.2.2.2.2.2.2.2.1) : Int) then zC1 else none) else none else none) (if (4 : Int) ≤ (↑(List.length a0.2.2.2.2.2.2.2.1) : Int) then XA (if (0 : Int) ≤ a1 then if a1 < (↑y.length : Int) then zC1 else none else none) (if (0 : Nat) + (List.take (Int.toNat (4 : Int) - (0 : Nat)) (List.drop (0 : Nat) a0.2.2.2.2.2.2.2.1)).length ≤ lim then if (0 : Int) ≤ a1 then if a1 < (↑y.length : Int) then zC3 else none else none else none) else none)) (if (4 : Int) ≤ (↑(List.length a0.2.2.2.2.2.2.2.1) : Int) then XA (if (0 : Int) ≤ a1 then if a1 < (↑y.length : Int) then (fun zB0 zB1 => (fun zB0 zB1 => XA zB0 (XA zB0 zB1)) (zB0) (zB1)) zC5 (if (0 : Nat) + (List.take (Int.toNat (4 : Int) - (0 : Nat)) (List.drop (0 : Nat) a0.2.2.2.2.2.2.2.1)).length ≤ lim then zC3 else none) else none else none) (XA (if (0 : Int) ≤ a1 then if a1 < (↑y.length : Int) then zC1 else none else none) (if (0 : Nat) + (List.take (Int.toNat (4 : Int) - (0 : Nat)) (List.drop (0 : Nat) a0.2.2.2.2.2.2.2.1)).length ≤ lim then if (0 : Int) ≤ a1 then if a1 < (↑y.length : Int) then zC3 else none else none else none)) else none)) else XA (if (0 : Int) ≤ a1 then if a1 < (↑y.length : Int) then XA ((nth y a1.toNat).bind fun y_2 => (fun zB => (fun zB => XA zB zB) (zB)) (if (↑(List.length a0.2.2.2.2.2.2.2.1) : Int) ≤ (↑(List.length a0.2.2.2.2.2.2.2.1) : Int) then if (0 : Nat) + (List.take zC8 (List.drop (0 : Nat) a0.2.2.2.2.2.2.2.1)).length ≤ lim then (Wl big a0.2.2.2.1 y_2 (List.take zC8 (List.drop (0 : Nat) a0.2.2.2.2.2.2.2.1))).bind fun y_3 => (Zdf y a1.toNat y_2).bind fun y => Z9 n a1 (↑(List.length a0.2.2.2.2.2.2.2.1) : Int) y_3.1 y_3.2.2.1 a0.1 a0.2.1 a0.2.2.1 a0.2.2.2.1 y a0.2.2.2.2.2.1 a0.2.2.2.2.2.2.1 a0.2.2.2.2.2.2.2.1 y_3.2.1.1 y_3.2.1.2.1 y_3.2.1.2.2.1.1 y_3.2.1.2.2.1.2.1 y_3.2.1.2.2.1.2.2.1 y_3.2.1.2.2.1.2.2.2.1 y_3.2.1.2.2.2.1.1 y_3.2.1.2.2.2.1.2.1 y_3.2.1.2.2.2.1.2.2.1 y_3.2.1.2.2.2.1.2.2.2.1 y_3.2.1.2.2.2.2.1.1 y_3.2.1.2.2.2.2.1.2.1 y_3.2.1.2.2.2.2.1.2.2.1 y_3.2.1.2.2.2.2.1.2.2.2.1 y_3.2.1.2.2.2.2.2.1 y_3.2.1.2.2.2.2.2.2.1 y_3.2.1.2.2.2.2.2.2.2.1 y_3.2.1.2.2.2.2.2.2.2.2.1 y_3.2.1.2.2.2.2.2.2.2.2.2.1 y_3.2.1.2.2.2.2.2.2.2.2.2.2.1 y_3.2.1.2.2.2.2.2.2.2.2.2.2.2.1 else none else none)) (XA (XA (zC6) (if (↑(List.length a0.2.2.2.2.2.2.2.1) : Int) ≤ (↑(List.length a0.2.2.2.2.2.2.2.1) : Int) then zC0 else none)) (if (↑(List.length a0.2.2.2.2.2.2.2.1) : Int) ≤ (↑(List.length a0.2.2.2.2.2.2.2.1) : Int) then (fun zB0 zB1 => (fun zB0 zB1 => XA zB0 (XA zB0 zB1)) (zB0) (zB1)) zC4 (if (0 : Nat) + (List.take zC8 (List.drop (0 : Nat) a0.2.2.2.2.2.2.2.1)).length ≤ lim then zC2 else none) else none)) else none else none) (XA (XA (if (0 : Int) ≤ a1 then if a1 < (↑y.length : Int) then XA (zC6) (if (↑(List.length a0.2.2.2.2.2.2.2.1) : Int) ≤ (↑(List.length a0.2.2.2.2.2.2.2.1) : Int) then zC0 else none) else none else none) (if (↑(List.length a0.2.2.2.2.2.2.2.1) : Int) ≤ (↑(List.length a0.2.2.2.2.2.2.2.1) : Int) then XA (if (0 : Int) ≤ a1 then if a1 < (↑y.length : Int) then zC0 else none else none) (if (0 : Nat) + (List.take zC8 (List.drop (0 : Nat) a0.2.2.2.2.2.2.2.1)).length ≤ lim then if (0 : Int) ≤ a1 then if a1 < (↑y.length : Int) then zC2 else none else none else none) else none)) (if (↑(List.length a0.2.2.2.2.2.2.2.1) : Int) ≤ (↑(List.length a0.2.2.2.2.2.2.2.1) : Int) then XA (if (0 : Int) ≤ a1 then if a1 < (↑y.length : Int) then (fun zB0 zB1 => (fun zB0 zB1 => XA zB0 (XA zB0 zB1)) (zB0) (zB1)) zC4 (if (0 : Nat) + (List.take zC8 (List.drop (0 : Nat) a0.2.2.2.2.2.2.2.1)).length ≤ lim then zC2 else none) else none else none) (XA (if (0 : Int) ≤ a1 then if a1 < (↑y.length : Int) then zC0 else none else none) (if (0 : Nat) + (List.take zC8 (List.drop (0 : Nat) a0.2.2.2.2.2.2.2.1)).length ≤ lim then if (0 : Int) ≤ a1 then if a1 < (↑y.length : Int) then zC2 else none else none else none)) else none))) ((nth y a1.toNat).bind fun y_2 => if (4 : Int) ≤ (↑(List.length a0.2.2.2.2.2.2.2.1) : Int) then if (0 : Nat) + (List.take (Int.toNat (4 : Int) - (0 : Nat)) (List.drop (0 : Nat) a0.2.2.2.2.2.2.2.1)).length ≤ lim then (Wl big a0.2.2.2.1 y_2 (List.take (Int.toNat (4 : Int) - (0 : Nat)) (List.drop (0 : Nat) a0.2.2.2.2.2.2.2.1))).bind fun y_3 => (Zdf y a1.toNat y_2).bind fun y => Z9 n a1 (4 : Int) y_3.1 y_3.2.2.1 a0.1 a0.2.1 a0.2.2.1 a0.2.2.2.1 y a0.2.2.2.2.2.1 a0.2.2.2.2.2.2.1 a0.2.2.2.2.2.2.2.1 y_3.2.1.1 y_3.2.1.2.1 y_3.2.1.2.2.1.1 y_3.2.1.2.2.1.2.1 y_3.2.1.2.2.1.2.2.1 y_3.2.1.2.2.1.2.2.2.1 y_3.2.1.2.2.2.1.1 y_3.2.1.2.2.2.1.2.1 y_3.2.1.2.2.2.1.2.2.1 y_3.2.1.2.2.2.1.2.2.2.1 y_3.2.1.2.2.2.2.1.1 y_3.2.1.2.2.2.2.1.2.1 y_3.2.1.2.2.2.2.1.2.2.1 y_3.2.1.2.2.2.2.1.2.2.2.1 y_3.2.1.2.2.2.2.2.1 y_3.2.1.2.2.2.2.2.2.1 y_3.2.1.2.2.2.2.2.2.2.1 y_3.2.1.2.2.2.2.2.2.2.2.1 y_3.2.1.2.2.2.2.2.2.2.2.2.1 y_3.2.1.2.2.2.2.2.2.2.2.2.2.1 y_3.2.1.2.2.2.2.2.2.2.2.2.2.2.1 else none else none)) ((nth y a1.toNat).bind fun y_2 => if (↑(List.length a0.2.2.2.2.2.2.2.1) : Int) ≤ (↑(List.length a0.2.2.2.2.2.2.2.1) : Int) then if (0 : Nat) + (List.take zC8 (List.drop (0 : Nat) a0.2.2.2.2.2.2.2.1)).length ≤ lim then (Wl big a0.2.2.2.1 y_2 (List.take zC8 (List.drop (0 : Nat) a0.2.2.2.2.2.2.2.1))).bind fun y_3 => (Zdf y a1.toNat y_2).bind fun y => Z9 n a1 (↑(List.length a0.2.2.2.2.2.2.2.1) : Int) y_3.1 y_3.2.2.1 a0.1 a0.2.1 a0.2.2.1 a0.2.2.2.1 y a0.2.2.2.2.2.1 a0.2.2.2.2.2.2.1 a0.2.2.2.2.2.2.2.1 y_3.2.1.1 y_3.2.1.2.1 y_3.2.1.2.2.1.1 y_3.2.1.2.2.1.2.1 y_3.2.1.2.2.1.2.2.1 y_3.2.1.2.2.1.2.2.2.1 y_3.2.1.2.2.2.1.1 y_3.2.1.2.2.2.1.2.1 y_3.2.1.2.2.2.1.2.2.1 y_3.2.1.2.2.2.1.2.2.2.1 y_3.2.1.2.2.2.2.1.1 y_3.2.1.2.2.2.2.1.2.1 y_3.2.1.2.2.2.2.1.2.2.1 y_3.2.1.2.2.2.2.1.2.2.2.1 y_3.2.1.2.2.2.2.2.1 y_3.2.1.2.2.2.2.2.2.1 y_3.2.1.2.2.2.2.2.2.2.1 y_3.2.1.2.2.2.2.2.2.2.2.1 y_3.2.1.2.2.2.2.2.2.2.2.2.1 y_3.2.1.2.2.2.2.2.2.2.2.2.2.1 y_3.2.1.2.2.2.2.2.2.2.2.2.2.2.1 else none else none)) (XA (zC5) (if (0 : Nat) + (List.take (Int.toNat (4 : Int) - (0 : Nat)) (List.drop (0 : Nat) a0.2.2.2.2.2.2.2.1)).length ≤ lim then zC3 else none))) ((nth y a1.toNat).bind fun y_2 => if (0 : Nat) + (List.take (Int.toNat (4 : Int) - (0 : Nat)) (List.drop (0 : Nat) a0.2.2.2.2.2.2.2.1)).length ≤ lim then (Wl big a0.2.2.2.1 y_2 (List.take (Int.toNat (4 : Int) - (0 : Nat)) (List.drop (0 : Nat) a0.2.2.2.2.2.2.2.1))).bind fun y_3 => (Zdf y a1.toNat y_2).bind fun y => Z9 n a1 (4 : Int) y_3.1 y_3.2.2.1 a0.1 a0.2.1 a0.2.2.1 a0.2.2.2.1 y a0.2.2.2.2.2.1 a0.2.2.2.2.2.2.1 a0.2.2.2.2.2.2.2.1 y_3.2.1.1 y_3.2.1.2.1 y_3.2.1.2.2.1.1 y_3.2.1.2.2.1.2.1 y_3.2.1.2.2.1.2.2.1 y_3.2.1.2.2.1.2.2.2.1 y_3.2.1.2.2.2.1.1 y_3.2.1.2.2.2.1.2.1 y_3.2.1.2.2.2.1.2.2.1 y_3.2.1.2.2.2.1.2.2.2.1 y_3.2.1.2.2.2.2.1.1 y_3.2.1.2.2.2.2.1.2.1 y_3.2.1.2.2.2.2.1.2.2.1 y_3.2.1.2.2.2.2.1.2.2.2.1 y_3.2.1.2.2.2.2.2.1 y_3.2.1.2.2.2.2.2.2.1 y_3.2.1.2.2.2.2.2.2.2.1 y_3.2.1.2.2.2.2.2.2.2.2.1 y_3.2.1.2.2.2.2.2.2.2.2.2.1 y_3.2.1.2.2.2.2.2.2.2.2.2.2.1 y_3.2.1.2.2.2.2.2.2.2.2.2.2.2.1 else none)) ((nth y a1.toNat).bind fun y_2 => (Wl big a0.2.2.2.1 y_2 (List.take (Int.toNat (4 : Int) - (0 : Nat)) (List.drop (0 : Nat) a0.2.2.2.2.2.2.2.1))).bind fun y_3 => (Zdf y a1.toNat y_2).bind fun y => Z9 n a1 (4 : Int) y_3.1 y_3.2.2.1 a0.1 a0.2.1 a0.2.2.1 a0.2.2.2.1 y a0.2.2.2.2.2.1 a0.2.2.2.2.2.2.1 a0.2.2.2.2.2.2.2.1 y_3.2.1.1 y_3.2.1.2.1 y_3.2.1.2.2.1.1 y_3.2.1.2.2.1.2.1 y_3.2.1.2.2.1.2.2.1 y_3.2.1.2.2.1.2.2.2.1 y_3.2.1.2.2.2.1.1 y_3.2.1.2.2.2.1.2.1 y_3.2.1.2.2.2.1.2.2.1 y_3.2.1.2.2.2.1.2.2.2.1 y_3.2.1.2.2.2.2.1.1 y_3.2.1.2.2.2.2.1.2.1 y_3.2.1.2.2.2.2.1.2.2.1 y_3.2.1.2.2.2.2.1.2.2.2.1 y_3.2.1.2.2.2.2.2.1 y_3.2.1.2.2.2.2.2.2.1 y_3.2.1.2.2.2.2.2.2.2.1 y_3.2.1.2.2.2.2.2.2.2.2.1 y_3.2.1.2.2.2.2.2.2.2.2.2.1 y_3.2.1.2.2.2.2.2.2.2.2.2.2.1 y_3.2.1.2.2.2.2.2.2.2.2.2.2.2.1)) (XA (zC4) (if (0 : Nat) + (List.take zC8 (List.drop (0 : Nat) a0.2.2.2.2.2.2.2.1)).length ≤ lim then zC2 else none))) ((nth y a1.toNat).bind fun y_2 => if (0 : Nat) + (List.take zC8 (List.drop (0 : Nat) a0.2.2.2.2.2.2.2.1)).length ≤ lim then (Wl big a0.2.2.2.1 y_2 (List.take zC8 (List.drop (0 : Nat) a0.2.2.2.2.2.2.2.1))).bind fun y_3 => (Zdf y a1.toNat y_2).bind fun y => Z9 n a1 (↑(List.length a0.2.2.2.2.2.2.2.1) : Int) y_3.1 y_3.2.2.1 a0.1 a0.2.1 a0.2.2.1 a0.2.2.2.1 y a0.2.2.2.2.2.1 a0.2.2.2.2.2.2.1 a0.2.2.2.2.2.2.2.1 y_3.2.1.1 y_3.2.1.2.1 y_3.2.1.2.2.1.1 y_3.2.1.2.2.1.2.1 y_3.2.1.2.2.1.2.2.1 y_3.2.1.2.2.1.2.2.2.1 y_3.2.1.2.2.2.1.1 y_3.2.1.2.2.2.1.2.1 y_3.2.1.2.2.2.1.2.2.1 y_3.2.1.2.2.2.1.2.2.2.1 y_3.2.1.2.2.2.2.1.1 y_3.2.1.2.2.2.2.1.2.1 y_3.2.1.2.2.2.2.1.2.2.1 y_3.2.1.2.2.2.2.1.2.2.2.1 y_3.2.1.2.2.2.2.2.1 y_3.2.1.2.2.2.2.2.2.1 y_3.2.1.2.2.2.2.2.2.2.1 y_3.2.1.2.2.2.2.2.2.2.2.1 y_3.2.1.2.2.2.2.2.2.2.2.2.1 y_3.2.1.2.2.2.2.2.2.2.2.2.2.1 y_3.2.1.2.2.2.2.2.2.2.2.2.2.2.1 else none)) ((nth y a1.toNat).bind fun y_2 => (Wl big a0.2.2.2.1 y_2 (List.take zC8 (List.drop (0 : Nat) a0.2.2.2.2.2.2.2.1))).bind fun y_3 => (Zdf y a1.toNat y_2).bind fun y => Z9 n a1 (↑(List.length a0.2.2.2.2.2.2.2.1) : Int) y_3.1 y_3.2.2.1 a0.1 a0.2.1 a0.2.2.1 a0.2.2.2.1 y a0.2.2.2.2.2.1 a0.2.2.2.2.2.2.1 a0.2.2.2.2.2.2.2.1 y_3.2.1.1 y_3.2.1.2.1 y_3.2.1.2.2.1.1 y_3.2.1.2.2.1.2.1 y_3.2.1.2.2.1.2.2.1 y_3.2.1.2.2.1.2.2.2.1 y_3.2.1.2.2.2.1.1 y_3.2.1.2.2.2.1.2.1 y_3.2.1.2.2.2.1.2.2.1 y_3.2.1.2.2.2.1.2.2.2.1 y_3.2.1.2.2.2.2.1.1 y_3.2.1.2.2.2.2.1.2.1 y_3.2.1.2.2.2.2.1.2.2.1 y_3.2.1.2.2.2.2.1.2.2.2.1 y_3.2.1.2.2.2.2.2.1 y_3.2.1.2.2.2.2.2.2.1 y_3.2.1.2.2.2.2.2.2.2.1 y_3.2.1.2.2.2.2.2.2.2.2.1 y_3.2.1.2.2.2.2.2.2.2.2.2.1 y_3.2.1.2.2.2.2.2.2.2.2.2.2.1 y_3.2.1.2.2.2.2.2.2.2.2.2.2.2.1)) ((↑(List.length a0.2.2.2.2.2.2.2.1) : Int).toNat - (0 : Nat)) else none else none := by kernel_rfl
theorem Zbo (n : Nat) (s1 : Int) (s5 : Int) (s6 : (List Zm)) (s8 : Int) (b5_0 : Int) (b5_1 : Bool) (b5_2 : Int) (b5_3 : (List Zm)) (b5_4 : (List Zu)) (b5_5 : (List Zc)) (b5_6 : (List Ze)) (b5_7 : (List ZL)) (b26_0 : Int) (b26_1 : Int) (b26_2 : Int) (b26_3 : Int) (b26_4 : Int) (b26_5 : Int) (b26_6 : Int) (b26_7 : Int) (b26_8 : Int) (b26_9 : Int) (b26_10 : Int) (b26_11 : Int) (b26_12 : Int) (b26_13 : Int) (b26_14 : (List Int)) (b26_15 : (List Zf)) (b26_16 : (List Int)) (b26_17 : (List Zi)) (b26_18 : (List Ze)) (b26_19 : (List Zc)) (b26_20 : Int) : Z9 (n + 1) s1 s5 s6 s8 b5_0 b5_1 b5_2 b5_3 b5_4 b5_5 b5_6 b5_7 b26_0 b26_1 b26_2 b26_3 b26_4 b26_5 b26_6 b26_7 b26_8 b26_9 b26_10 b26_11 b26_12 b26_13 b26_14 b26_15 b26_16 b26_17 b26_18 b26_19 b26_20 = bif decide (s8 < (0 : Int)) then some (false, (b5_0, b5_1, b5_2, b5_3, b5_4, b5_5, b5_6, b5_7, ()), ()) else if (0 : Int) ≤ s1 then if s1 < (↑b5_4.length : Int) then (nth b5_4 s1.toNat).bind fun y => if (0 : Int) ≤ s5 then if s5 ≤ (↑b5_7.length : Int) then if (0 : Nat) + (List.take (b5_7.length - s5.toNat) (List.drop s5.toNat b5_7)).length ≤ lim then (Zep big s6 (b26_0, b26_1, (b26_2, b26_3, b26_4, b26_5, ()), (b26_6, b26_7, b26_8, b26_9, ()), (b26_10, b26_11, b26_12, b26_13, ()), b26_14, b26_15, b26_16, b26_17, b26_18, b26_19, b26_20, ()) s8 b5_0).bind fun y => (Zdf b5_4 s1.toNat (b26_0, b26_1, (b26_2, b26_3, b26_4, b26_5, ()), (b26_6, b26_7, b26_8, b26_9, ()), (b26_10, b26_11, b26_12, b26_13, ()), b26_14, b26_15, b26_16, b26_17, b26_18, b26_19, b26_20, ())).bind fun y_1 => (WW big (b5_0, b5_1, b5_2, s6, y_1, b5_5, b5_6, List.take (b5_7.length - s5.toNat) (List.drop s5.toNat b5_7), ()) y).bind fun y => some (true, y.2) else none else none else none else none else none := by kernel_rfl
end Go.Sx.Tryz
set_option maxRecDepth 100000
namespace Go.Sx.Tryz
open Go Go.Sx Go.Proofs
noncomputable def ZvZ : List (Nat × Con) := [(180, Znd), (181, Zil), (182, Zg8), (183, Zim), (184, Zmw), (106, Wt), (185, Zq7), (186, Zrb)]
theorem Zv0 : ∀ q ∈ ZvZ, Zo Tryz.prog q.1 q.2 := Tryz.cons_cons ZpB (Tryz.cons_cons Zmr (Tryz.cons_cons ZfQ (Tryz.cons_cons Zmy (Tryz.cons_cons Zph (Tryz.cons_cons XR (Tryz.cons_cons Zth (Tryz.cons_cons Ztm (Tryz.cons_nil))))))))
def Zzy : KP := []
noncomputable def Zv1 (n : Nat) (x : AP.denL [.mu Zr, .ro Wi]) := evX (true, true, [3, 7, 11, 12, 13, 17, 19, 20, 21, 24, 28, 33, 39, 46, 55, 61, 66, 67, 69, 73, 74, 75, 77, 79, 80, 81, 83, 84, 85, 87]) ZvZ Zzy [none] Tryz.f134 (shO (shV ZE) [.mu Zr]) n (AP.encL [.mu Zr, .ro Wi] x)
noncomputable def Zv2 : Con := apS [.mu Zr, .ro Wi] true (shO (shV ZE) [.mu Zr]) (Zv1 big)
theorem Zv3 : Zo Tryz.prog 134 Zv2 := Y3 ⟨Tryz.f134, by kernel_rfl, rfl, by decide⟩ fun _ _ h => Zw Zv0 (f := Tryz.f134) (by kernel_rfl) rfl (by kernel_rfl) (by kernel_rfl) big h
noncomputable def Zne (n : Nat) (a0 : Zl) (a1 : WT) : Option (Bool × Zl × Unit) := Zv1 n (a0, a1, ())
theorem Zv4 (n : Nat) (a0 : Zl) (a1 : WT) : Zne n a0 a1 = bif decide (a1.1 = (1 : Int)) then bif decide ((8 : Int) ≤ (↑(List.length a0.2.2.2.2.2.2.2.1) : Int)) then some (false, a0, ()) else (fun zB => XA (XA zB zB) zB) (if (0 : Nat) + List.length a0.2.2.2.2.2.2.2.1 ≤ lim then if List.length a0.2.2.2.2.2.2.2.1 + [a1.2.2.2.2.1].length ≤ lim then some (true, (a0.1, a0.2.1, a0.2.2.1, a0.2.2.2.1, a0.2.2.2.2.1, a0.2.2.2.2.2.1, a0.2.2.2.2.2.2.1, List.append a0.2.2.2.2.2.2.2.1 [a1.2.2.2.2.1], ()), ()) else none else none) else bif decide (a1.1 = (2 : Int)) then (ZeG big a0 a1.2.1).bind fun y => some y else bif decide (a1.1 = (3 : Int)) then (Zb9 big a0 a1.2.1).bind fun y => some y else bif decide (a1.1 = (4 : Int)) then (ZcZ big a0 a1.2.1).bind fun y => some (y.1.2.1, y.2) else bif decide (a1.1 = (5 : Int)) then (Zin big a0 a1.2.1).bind fun y => some y else bif decide (a1.1 = (6 : Int)) then (Zez big a0 a1.2.1).bind fun y => some y else bif decide (a1.1 = (7 : Int)) then (XM big a0 a1.2.1).bind fun y => bif !y then some (false, a0, ()) else if (0 : Int) ≤ a1.2.1 then if a1.2.1 < (↑(List.length a0.2.2.2.2.1) : Int) then (nth a0.2.2.2.2.1 (Int.toNat a1.2.1)).bind fun y => (Zha big a0.2.2.2.1 y).bind fun y_1 => (Zdf a0.2.2.2.2.1 (Int.toNat a1.2.1) y).bind fun y => if (0 : Int) ≤ a1.2.1 then if a1.2.1 < (↑y.length : Int) then (nth y (Int.toNat a1.2.1)).bind fun y_2 => (Zdf y (Int.toNat a1.2.1) y_1).bind fun y => some (true, (a0.1, a0.2.1, a0.2.2.1, a0.2.2.2.1, y, a0.2.2.2.2.2), ()) else none else none else none else none else (Zhb big a0 a1).bind fun y => some y := by kernel_rfl
end Go.Sx.Tryz
set_option maxRecDepth 100000
namespace Go.Sx.Tryz
open Go Go.Sx Go.Proofs
noncomputable def Zc5 : List (Nat × Con) := [(63, Zab), (62, XV), (133, ZdC), (59, YG), (135, ZiH), (134, Zv2)]
theorem Zto : ∀ q ∈ Zc5, Zo Tryz.prog q.1 q.2 := Tryz.cons_cons Jj (Tryz.cons_cons XE (Tryz.cons_cons ZgX (Tryz.cons_cons Ym (Tryz.cons_cons Zm9 (Tryz.cons_cons Zv3 (Tryz.cons_nil))))))
abbrev K8 : List Wa × List BK := ([.is (.ptr 0 0), .ro Za, .drop, .drop, .is (.ptr 1 0), .drop, .is (.ptr 8 0), .drop, .ro Za, .drop, .drop, .drop, .drop, .drop, .drop, .drop, .drop, .drop, .drop, .drop, .drop, .drop, .drop, .drop, .drop, .drop, .drop, .drop, .drop, .drop, .drop, .drop], [.vars [.ro Ya, .ro Za, .ro Za], .vars [.ro Za, .ro ZE, .ro Za, .own YC, .own ZP, .own ZD, .own ZV, .own VI], .drop, .drop, .drop, .drop, .drop, .drop, .vars [.ro Za, .ro ZE, .ro Za, .own ZJ, .own ZW, .own Zg, .own Zk, .own ZU]])
def Znf : KP := [(4, K8)]
noncomputable def Zrc (n : Nat) (x : AP.denL [.mr Zv, .ro Zn]) := evX (false, false, [6]) Zc5 Znf [some Zr] Tryz.f70 (shO (shF Zr) [.mr Zv]) n (AP.encL [.mr Zv, .ro Zn] x)
noncomputable def Zhc : Con := apS [.mr Zv, .ro Zn] false (shO (shF Zr) [.mr Zv]) (Zrc big)
theorem ZfY : Zo Tryz.prog 70 Zhc := Y3 ⟨Tryz.f70, by kernel_rfl, rfl, by decide⟩ fun _ _ h => Zw Zto (f := Tryz.f70) (by kernel_rfl) rfl (by kernel_rfl) (by kernel_rfl) big h
noncomputable def Zc6 (n : Nat) (a0 : ZF) (a1 : Int) : Option (Zl × ZF × Unit) := Zrc n (a0, a1, ())
noncomputable def Zv5 (n : Nat) (x : KD K8.1) (y : BD K8.2) := Yh (env (false, false, [6]) Zc5) Znf (body Tryz.f70) (VV (false, false, [6]) Zc5 [some Zr] Tryz.f70 (shO (shF Zr) [.mr Zv]) [AP.enc (.mr Zv) (ZT Zv), AP.enc (.ro Zn) (ZT Zn)]) n 4 K8 x y
noncomputable def K9 (n : Nat) (s1 : Int) (s8 : Int) (b0_0 : YZ) (b0_1 : Int) (b0_2 : Int) (b1_0 : Int) (b1_1 : Bool) (b1_2 : Int) (b1_3 : (List ZN)) (b1_4 : (List Zq)) (b1_5 : (List Zs)) (b1_6 : (List ZX)) (b1_7 : (List Vc)) (b8_0 : Int) (b8_1 : Bool) (b8_2 : Int) (b8_3 : (List Zm)) (b8_4 : (List Zu)) (b8_5 : (List Zc)) (b8_6 : (List Ze)) (b8_7 : (List ZL)) : Option (Zl × ZF × Unit) := Zv5 n (s1, s8, ()) ((b0_0, b0_1, b0_2, ()), (b1_0, b1_1, b1_2, b1_3, b1_4, b1_5, b1_6, b1_7, ()), (b8_0, b8_1, b8_2, b8_3, b8_4, b8_5, b8_6, b8_7, ()), ())
theorem Ztp (n : Nat) (a0 : ZF) (a1 : Int) : Zc6 n a0 a1 =
  (Q3 big a0 (2 : Int)).bind fun y =>
 (Xe big y.2.1 [(0 : Int), (8 : Int), (8 : Int), (1 : Int), (2 : Int)]).bind fun y_1 =>
 (Jn big (4 : Int) y.1 y_1.1).bind fun y =>
 K9 n a1 (0 : Int) y_1.2.1.1 y_1.2.1.2.1 y_1.2.1.2.2.1 (0 : Int) false
 (0 : Int) [] [] [] [] [] y.1.1 y.1.2.1 y.1.2.2.1 y.1.2.2.2.1
 y.1.2.2.2.2.1 y.1.2.2.2.2.2.1 y.1.2.2.2.2.2.2.1
 y.1.2.2.2.2.2.2.2.1 := by kernel_rfl
theorem Zci (n : Nat) (s1 : Int) (s8 : Int) (b0_0 : YZ) (b0_1 : Int) (b0_2 : Int) (b1_0 : Int) (b1_1 : Bool) (b1_2 : Int) (b1_3 : (List ZN)) (b1_4 : (List Zq)) (b1_5 : (List Zs)) (b1_6 : (List ZX)) (b1_7 : (List Vc)) (b8_0 : Int) (b8_1 : Bool) (b8_2 : Int) (b8_3 : (List Zm)) (b8_4 : (List Zu)) (b8_5 : (List Zc)) (b8_6 : (List Ze)) (b8_7 : (List ZL)) : K9 (n + 1) s1 s8 b0_0 b0_1 b0_2 b1_0 b1_1 b1_2 b1_3 b1_4 b1_5 b1_6 b1_7 b8_0 b8_1 b8_2 b8_3 b8_4 b8_5 b8_6 b8_7 =
  (ZY big (b0_0, b0_1, b0_2, ()) s1).bind fun y =>
 bif decide (s8 < IntKind.i64.wrap ((4 : Int) + y.1)) then
 (Zch big y.2.1 (b8_0, b8_1, b8_2, b8_3, b8_4, b8_5, b8_6, b8_7, ())).bind fun y =>
 (Zne big (b8_0, b8_1, b8_2, y.2.2.1.2.2.2) y.1).bind fun y_1 =>
 K9 n s1 (IntKind.i64.wrap (s8 + (1 : Int))) y.2.1.1 y.2.1.2.1 y.2.1.2.2.1
 b1_0 b1_1 b1_2 b1_3 b1_4 b1_5 b1_6 b1_7 y_1.2.1.1 y_1.2.1.2.1 y_1.2.1.2.2.1
 y_1.2.1.2.2.2.1 y_1.2.1.2.2.2.2.1 y_1.2.1.2.2.2.2.2.1
 y_1.2.1.2.2.2.2.2.2.1 y_1.2.1.2.2.2.2.2.2.2.1
 else some ((b8_0, b8_1, b8_2, b8_3, b8_4, b8_5, b8_6, b8_7, ()), y.2) := by kernel_rfl
end Go.Sx.Tryz
set_option maxRecDepth 100000
namespace Go.Sx.Tryz
open Go Go.Sx Go.Proofs
noncomputable def Zng : List (Nat × Con) := [(70, Zhc), (59, YG)]
theorem ZpD : ∀ q ∈ Zng, Zo Tryz.prog q.1 q.2 := Tryz.cons_cons ZfY (Tryz.cons_cons Ym (Tryz.cons_nil))
def Zv6 : KP := []
noncomputable def Znh (n : Nat) (x : AP.denL [.mr Zv]) := evX (false, true, [4, 7, 9, 12]) Zng Zv6 [some Yq, some ZC] Tryz.f56 (shO (shT [(true, Yq), (true, ZC)]) [.mr Zv]) n (AP.encL [.mr Zv] x)
noncomputable def ZeI : Con := apS [.mr Zv] false (shO (shT [(true, Yq), (true, ZC)]) [.mr Zv]) (Znh big)
theorem ZdQ : Zo Tryz.prog 56 ZeI := Y3 ⟨Tryz.f56, by kernel_rfl, rfl, by decide⟩ fun _ _ h => Zw ZpD (f := Tryz.f56) (by kernel_rfl) rfl (by kernel_rfl) (by kernel_rfl) big h
noncomputable def ZaJ (n : Nat) (a0 : ZF) : Option ((Zp × Zq × Unit) × ZF × Unit) := Znh n (a0, ())
theorem ZpE (n : Nat) (a0 : ZF) : ZaJ n a0 = (Zc6 big a0 (26 : Int)).bind fun y => (fun zB => XA zB (XA (XA zB (XA (XA (XA zB zB) zB) (XA zB (XA (XA zB zB) (XA zB zB))))) (XA zB (XA (XA zB (XA (XA zB zB) (XA zB zB))) (XA (XA zB zB) zB))))) ((ZY big y.2.1 (↑(List.length y.1.2.2.2.2.1) : Int)).bind fun y_1 => if (0 : Int) ≤ y_1.1 then if y_1.1 < (↑(List.length y.1.2.2.2.2.1) : Int) then (nth y.1.2.2.2.2.1 (Int.toNat y_1.1)).bind fun y_2 => some ((y.1.2.2.2.1, y_2, ()), y_1.2) else none else none) := by kernel_rfl
end Go.Sx.Tryz
set_option maxRecDepth 100000
namespace Go.Sx.Tryz
open Go Go.Sx Go.Proofs
noncomputable def ZiJ : List (Nat × Con) := [(57, ZcP), (56, ZeI)]
theorem Zni : ∀ q ∈ ZiJ, Zo Tryz.prog q.1 q.2 := Tryz.cons_cons Zaa (Tryz.cons_cons ZdQ (Tryz.cons_nil))
def Ztq : KP := []
noncomputable def ZiK (n : Nat) (x : YI [Ya]) := evX (false, false, []) ZiJ Ztq [some Yq, some ZC] Tryz.f10 (shT [(true, Yq), (true, ZC)]) n (YV [Ya] x)
noncomputable def ZiL : Con := roS [Ya] true (shT [(true, Yq), (true, ZC)]) (ZiK big)
theorem Znj : Zo Tryz.prog 10 ZiL := ZI ⟨Tryz.f10, by kernel_rfl, rfl, by decide⟩ fun _ _ h => Zw Zni (f := Tryz.f10) (by kernel_rfl) rfl (by kernel_rfl) (by kernel_rfl) big h
noncomputable def Zcj (n : Nat) (a0 : YZ) : Option (Zp × Zq × Unit) := ZiK n (a0, ())
theorem Znk (n : Nat) (a0 : YZ) : Zcj n a0 =
  (JG big a0).bind fun y => (ZaJ big y).bind fun y => some y.1 := by kernel_rfl
end Go.Sx.Tryz
set_option maxRecDepth 100000
namespace Go.Sx.Tryz
open Go Go.Sx Go.Proofs
end Go.Sx.Tryz
set_option maxRecDepth 100000
namespace Go.Sx.Tryz
open Go Go.Sx Go.Proofs
noncomputable def Znl : List (Nat × Con) := [(59, YG)]
theorem ZpF : ∀ q ∈ Znl, Zo Tryz.prog q.1 q.2 := Tryz.cons_cons Ym (Tryz.cons_nil)
def Zv7 : KP := []
noncomputable def Znm (n : Nat) (x : AP.denL [.mr Zv, .io YU]) := evX (false, false, []) Znl Zv7 [none] Tryz.f150 (shO (shV ZV) [.mr Zv, .io YU]) n (AP.encL [.mr Zv, .io YU] x)
noncomputable def ZeJ : Con := apS [.mr Zv, .io YU] false (shO (shV ZV) [.mr Zv, .io YU]) (Znm big)
theorem ZdR : Zo Tryz.prog 150 ZeJ := Y3 ⟨Tryz.f150, by kernel_rfl, rfl, by decide⟩ fun _ _ h => Zw ZpF (f := Tryz.f150) (by kernel_rfl) rfl (by kernel_rfl) (by kernel_rfl) big h
noncomputable def ZaK (n : Nat) (a0 : ZF) (a1 : Zp) : Option (ZX × ZF × Zp × Unit) := Znm n (a0, a1, ())
theorem ZpG (n : Nat) (a0 : ZF) (a1 : Zp) : ZaK n a0 a1 =
  (ZY big a0 (4 : Int)).bind fun y =>
 (ZY big y.2.1 (4 : Int)).bind fun y_1 =>
 (ZY big y_1.2.1 (↑(List.length a1) : Int)).bind fun y_2 =>
 if (0 : Int) ≤ y_2.1 then
 if y_2.1 < (↑(List.length a1) : Int) then
 (nth a1 (Int.toNat y_2.1)).bind fun y_3 =>
 some
 ((IntKind.i64.wrap ((1 : Int) + y.1), y_3.2.1, y_2.1, y_1.1, ()), y_2.2.1, a1,
 ())
 else none
 else none := by kernel_rfl
end Go.Sx.Tryz
set_option maxRecDepth 100000
namespace Go.Sx.Tryz
open Go Go.Sx Go.Proofs
noncomputable def Zv8 : List (Nat × Con) := [(59, YG), (150, ZeJ), (62, XV)]
theorem Zv9 : ∀ q ∈ Zv8, Zo Tryz.prog q.1 q.2 := Tryz.cons_cons Ym (Tryz.cons_cons ZdR (Tryz.cons_cons XE (Tryz.cons_nil)))
def Zzz : KP := []
noncomputable def Zwa (n : Nat) (x : AP.denL [.mr Zv, .io YU]) := evX (false, false, [7, 8, 16, 18, 20, 999999, 999996, 1000007, 1000016, 1000018, 1000020, 3000003]) Zv8 Zzz [none] Tryz.f86 (shO (shV X3) [.mr Zv, .io YU]) n (AP.encL [.mr Zv, .io YU] x)
noncomputable def Zwb : Con := apS [.mr Zv, .io YU] false (shO (shV X3) [.mr Zv, .io YU]) (Zwa big)
theorem Zwc : Zo Tryz.prog 86 Zwb := Y3 ⟨Tryz.f86, by kernel_rfl, rfl, by decide⟩ fun _ _ h => Zw Zv9 (f := Tryz.f86) (by kernel_rfl) rfl (by kernel_rfl) (by kernel_rfl) big h
noncomputable def ZfZ (n : Nat) (a0 : ZF) (a1 : Zp) : Option (Zbm × ZF × Zp × Unit) := Zwa n (a0, a1, ())
theorem Zwd (n : Nat) (a0 : ZF) (a1 : Zp) : ZfZ n a0 a1 =
  (ZY big a0 (10 : Int)).bind fun y =>
 (ZY big y.2.1 (60 : Int)).bind fun y_1 =>
 (ZaK big y_1.2.1 a1).bind fun y_2 =>
 (Xe big y_2.2.1 [(7 : Int), (15 : Int), (11 : Int), (14 : Int)]).bind fun y_3 =>
 bif decide (y.1 = (0 : Int)) then
 some (((0 : Int), (0 : Int), (0 : Int), (0 : Int), ()), y_3.2.1, y_2.2.2)
 else
 bif decide (y.1 = (1 : Int)) then
 if (0 : Int) ≤ Int.tmod y_1.1 (5 : Int) then
 if
 Int.tmod y_1.1 (5 : Int) <
 (↑[(3 : Int), (-1 : Int), (127 : Int), (128 : Int), (0 : Int)].length : Int) then
 (nth [(3 : Int), (-1 : Int), (127 : Int), (128 : Int), (0 : Int)]
 (Int.tmod y_1.1 (5 : Int)).toNat).bind
 fun y =>
 some ((y_2.1.1, y_2.1.2.1, y_2.1.2.2.1, y, ()), y_3.2.1, y_2.2.2)
 else none
 else none
 else
 bif decide (y.1 = (2 : Int)) then
 some ((y_2.1.1, y_1.1, y_2.1.2.2.1, y_3.1, ()), y_3.2.1, y_2.2.2)
 else
 bif decide (y.1 = (3 : Int)) then
 some
 ((y_2.1.1, y_2.1.2.1, IntKind.i64.wrap (Int.tmod y_1.1 (70 : Int) - (1 : Int)), y_3.1,
 ()),
 y_3.2.1, y_2.2.2)
 else
 some
 ((y_2.1.1, y_2.1.2.1, y_2.1.2.2.1, y_3.1, ()), y_3.2.1,
 y_2.2.2) := by kernel_rfl
end Go.Sx.Tryz
set_option maxRecDepth 100000
namespace Go.Sx.Tryz
open Go Go.Sx Go.Proofs
noncomputable def Zrd : List (Nat × Con) := [(59, YG), (150, ZeJ)]
theorem Ztr : ∀ q ∈ Zrd, Zo Tryz.prog q.1 q.2 := Tryz.cons_cons Ym (Tryz.cons_cons ZdR (Tryz.cons_nil))
def ZxE : KP := []
noncomputable def Zre (n : Nat) (x : AP.denL [.mr Zv, .io YU]) := evX (false, false, [7]) Zrd ZxE [none] Tryz.f132 (shO (shV ZV) [.mr Zv, .io YU]) n (AP.encL [.mr Zv, .io YU] x)
noncomputable def Zrf : Con := apS [.mr Zv, .io YU] false (shO (shV ZV) [.mr Zv, .io YU]) (Zre big)
theorem Zts : Zo Tryz.prog 132 Zrf := Y3 ⟨Tryz.f132, by kernel_rfl, rfl, by decide⟩ fun _ _ h => Zw Ztr (f := Tryz.f132) (by kernel_rfl) rfl (by kernel_rfl) (by kernel_rfl) big h
noncomputable def Zhd (n : Nat) (a0 : ZF) (a1 : Zp) : Option (ZX × ZF × Zp × Unit) := Zre n (a0, a1, ())
theorem Ztt (n : Nat) (a0 : ZF) (a1 : Zp) : Zhd n a0 a1 =
  (ZY big a0 (10 : Int)).bind fun y =>
 (ZY big y.2.1 (60 : Int)).bind fun y_1 =>
 (ZaK big y_1.2.1 a1).bind fun y_2 =>
 bif decide (y.1 = (0 : Int)) then some ((Int.tmod y_1.1 (6 : Int), y_2.1.2), y_2.2)
 else
 bif decide (y.1 = (1 : Int)) then some ((y_2.1.1, y_1.1, y_2.1.2.2), y_2.2)
 else
 bif decide (y.1 = (2 : Int)) then
 some
 ((y_2.1.1, y_2.1.2.1, IntKind.i64.wrap (Int.tmod y_1.1 (70 : Int) - (1 : Int)),
 y_2.1.2.2.2),
 y_2.2)
 else
 bif decide (y.1 = (3 : Int)) then
 some
 ((y_2.1.1, y_2.1.2.1, y_2.1.2.2.1,
 IntKind.i64.wrap (Int.tmod y_1.1 (9 : Int) - (1 : Int)), ()),
 y_2.2)
 else some y_2 := by kernel_rfl
end Go.Sx.Tryz
set_option maxRecDepth 100000
namespace Go.Sx.Tryz
open Go Go.Sx Go.Proofs
noncomputable def Zrg : List (Nat × Con) := [(59, YG), (56, ZeI), (68, Y8), (86, Zwb), (132, Zrf)]
theorem Ztu : ∀ q ∈ Zrg, Zo Tryz.prog q.1 q.2 := Tryz.cons_cons Ym (Tryz.cons_cons ZdQ (Tryz.cons_cons YB (Tryz.cons_cons Zwc (Tryz.cons_cons Zts (Tryz.cons_nil)))))
def ZxF : KP := []
noncomputable def Zrh (n : Nat) (x : AP.denL [.mr Zv]) := evX (false, false, [7, 50, 59]) Zrg ZxF [some Yq, some ZC] Tryz.f61 (shO (shT [(true, Yq), (true, ZC)]) [.mr Zv]) n (AP.encL [.mr Zv] x)
noncomputable def Zri : Con := apS [.mr Zv] false (shO (shT [(true, Yq), (true, ZC)]) [.mr Zv]) (Zrh big)
theorem Ztv : Zo Tryz.prog 61 Zri := Y3 ⟨Tryz.f61, by kernel_rfl, rfl, by decide⟩ fun _ _ h => Zw Ztu (f := Tryz.f61) (by kernel_rfl) rfl (by kernel_rfl) (by kernel_rfl) big h
noncomputable def Zhe (n : Nat) (a0 : ZF) : Option ((Zp × Zq × Unit) × ZF × Unit) := Zrh n (a0, ())
theorem Ztw (n : Nat) (a0 : ZF) : Zhe n a0 =
  (ZY big a0 (14 : Int)).bind fun y =>
 (ZY big y.2.1 (60 : Int)).bind fun y_1 =>
 (ZaJ big y_1.2.1).bind fun y_2 =>
 (YD big y_2.1.2.1).bind fun y_3 =>
 bif decide (y.1 = (0 : Int)) then
 some
 ((y_2.1.1, (IntKind.i64.wrap (Int.tmod y_1.1 (6 : Int) - (1 : Int)), y_3.2), ()), y_2.2)
 else
 bif decide (y.1 = (1 : Int)) then
 some ((y_2.1.1, (y_3.1, y_1.1, y_3.2.2), ()), y_2.2)
 else
 bif decide (y.1 = (2 : Int)) then
 (ZfZ big y_2.2.1 y_2.1.1).bind fun y =>
 some
 ((y.2.2.1, (y_3.1, y_3.2.1, y.1, y_3.2.2.2), ()), y.2.1, ())
 else
 bif decide (y.1 = (3 : Int)) then
 (ZfZ big y_2.2.1 y_2.1.1).bind fun y =>
 some
 ((y.2.2.1, (y_3.1, y_3.2.1, y_3.2.2.1, y.1, y_3.2.2.2.2), ()),
 y.2.1, ())
 else
 bif decide (y.1 = (4 : Int)) then
 (Zhd big y_2.2.1 y_2.1.1).bind fun y =>
 some
 ((y.2.2.1,
 (y_3.1, y_3.2.1, y_3.2.2.1, y_3.2.2.2.1, y.1,
 y_3.2.2.2.2.2),
 ()),
 y.2.1, ())
 else
 bif decide (y.1 = (5 : Int)) then
 if List.length y_3.2.2.2.2.2.1 + (1 : Nat) ≤ lim then
 some
 ((y_2.1.1,
 (y_3.1, y_3.2.1, y_3.2.2.1, y_3.2.2.2.1, y_3.2.2.2.2.1,
 List.append y_3.2.2.2.2.2.1 [Int.tmod y_1.1 (9 : Int)],
 y_3.2.2.2.2.2.2),
 ()),
 y_2.2)
 else none
 else
 bif decide (y.1 = (6 : Int)) then
 if List.length y_3.2.2.2.2.2.2.2.1 + (1 : Nat) ≤ lim then
 some
 ((y_2.1.1,
 (y_3.1, y_3.2.1, y_3.2.2.1, y_3.2.2.2.1, y_3.2.2.2.2.1,
 y_3.2.2.2.2.2.1, y_3.2.2.2.2.2.2.1,
 List.append y_3.2.2.2.2.2.2.2.1
 [IntKind.i64.wrap (Int.tmod y_1.1 (9 : Int) - (1 : Int))],
 y_3.2.2.2.2.2.2.2.2),
 ()),
 y_2.2)
 else none
 else some ((y_2.1.1, y_3, ()), y_2.2) := by kernel_rfl
end Go.Sx.Tryz
set_option maxRecDepth 100000
namespace Go.Sx.Tryz
open Go Go.Sx Go.Proofs
end Go.Sx.Tryz
set_option maxRecDepth 100000
namespace Go.Sx.Tryz
open Go Go.Sx Go.Proofs
noncomputable def Zf0 : List (Nat × Con) := []
theorem Zjj : ∀ q ∈ Zf0, Zo Tryz.prog q.1 q.2 := Tryz.cons_nil
def ZpH : KP := []
noncomputable def Zf1 (n : Nat) (x : YI [YJ]) := evX (false, false, []) Zf0 ZpH [some Wz] Tryz.f127 (shF Wz) n (YV [YJ] x)
noncomputable def Zf2 : Con := roS [YJ] true (shF Wz) (Zf1 big)
theorem Zjk : Zo Tryz.prog 127 Zf2 := ZI ⟨Tryz.f127, by kernel_rfl, rfl, by decide⟩ fun _ _ h => Zw Zjj (f := Tryz.f127) (by kernel_rfl) rfl (by kernel_rfl) (by kernel_rfl) big h
noncomputable def QI (n : Nat) (a0 : YF) : Option YF := Zf1 n (a0, ())
theorem Zjl (n : Nat) (a0 : YF) : QI n a0 =
  ZxP a0 fun b => bif b then some [] else if (0 : Nat) + List.length a0 ≤ lim then some a0 else none := by kernel_rfl
end Go.Sx.Tryz
set_option maxRecDepth 100000
namespace Go.Sx.Tryz
open Go Go.Sx Go.Proofs
noncomputable def Zck : List (Nat × Con) := []
theorem Zf3 : ∀ q ∈ Zck, Zo Tryz.prog q.1 q.2 := Tryz.cons_nil
def Zjm : KP := []
noncomputable def Zcl (n : Nat) (x : YI [ZB]) := evX (false, false, []) Zck Zjm [some Z4] Tryz.f128 (shF Z4) n (YV [ZB] x)
noncomputable def Zcm : Con := roS [ZB] true (shF Z4) (Zcl big)
theorem Zf4 : Zo Tryz.prog 128 Zcm := ZI ⟨Tryz.f128, by kernel_rfl, rfl, by decide⟩ fun _ _ h => Zw Zf3 (f := Tryz.f128) (by kernel_rfl) rfl (by kernel_rfl) (by kernel_rfl) big h
noncomputable def Kg (n : Nat) (a0 : ZH) : Option ZH := Zcl n (a0, ())
theorem Zf5 (n : Nat) (a0 : ZH) : Kg n a0 =
  ZxP a0 fun b => bif b then some [] else if (0 : Nat) + List.length a0 ≤ lim then some a0 else none := by kernel_rfl
end Go.Sx.Tryz
set_option maxRecDepth 100000
namespace Go.Sx.Tryz
open Go Go.Sx Go.Proofs
noncomputable def Zcn : List (Nat × Con) := []
theorem Zf6 : ∀ q ∈ Zcn, Zo Tryz.prog q.1 q.2 := Tryz.cons_nil
def Zjn : KP := []
noncomputable def Zco (n : Nat) (x : YI [Yo]) := evX (false, false, []) Zcn Zjn [some V7] Tryz.f129 (shF V7) n (YV [Yo] x)
noncomputable def Zcp : Con := roS [Yo] true (shF V7) (Zco big)
theorem Zf7 : Zo Tryz.prog 129 Zcp := ZI ⟨Tryz.f129, by kernel_rfl, rfl, by decide⟩ fun _ _ h => Zw Zf6 (f := Tryz.f129) (by kernel_rfl) rfl (by kernel_rfl) (by kernel_rfl) big h
noncomputable def Kh (n : Nat) (a0 : Yv) : Option Yv := Zco n (a0, ())
theorem Zf8 (n : Nat) (a0 : Yv) : Kh n a0 =
  ZxP a0 fun b => bif b then some [] else if (0 : Nat) + List.length a0 ≤ lim then some a0 else none := by kernel_rfl
end Go.Sx.Tryz
set_option maxRecDepth 100000
namespace Go.Sx.Tryz
open Go Go.Sx Go.Proofs
noncomputable def Zcq : List (Nat × Con) := []
theorem Zf9 : ∀ q ∈ Zcq, Zo Tryz.prog q.1 q.2 := Tryz.cons_nil
def Zjo : KP := []
noncomputable def Zcr (n : Nat) (x : YI [ZM]) := evX (false, false, []) Zcq Zjo [some ZcN] Tryz.f130 (shF ZcN) n (YV [ZM] x)
noncomputable def Zcs : Con := roS [ZM] true (shF ZcN) (Zcr big)
theorem Zga : Zo Tryz.prog 130 Zcs := ZI ⟨Tryz.f130, by kernel_rfl, rfl, by decide⟩ fun _ _ h => Zw Zf9 (f := Tryz.f130) (by kernel_rfl) rfl (by kernel_rfl) (by kernel_rfl) big h
noncomputable def Ki (n : Nat) (a0 : Z6) : Option Z6 := Zcr n (a0, ())
theorem Zgb (n : Nat) (a0 : Z6) : Ki n a0 =
  ZxP a0 fun b => bif b then some [] else if (0 : Nat) + List.length a0 ≤ lim then some a0 else none := by kernel_rfl
end Go.Sx.Tryz
set_option maxRecDepth 100000
namespace Go.Sx.Tryz
open Go Go.Sx Go.Proofs
noncomputable def JS : List (Nat × Con) := []
theorem Zdb : ∀ q ∈ JS, Zo Tryz.prog q.1 q.2 := Tryz.cons_nil
def Zgc : KP := []
noncomputable def JT (n : Nat) (x : YI [ZG]) := evX (false, false, []) JS Zgc [some ZR] Tryz.f131 (shF ZR) n (YV [ZG] x)
noncomputable def JU : Con := roS [ZG] true (shF ZR) (JT big)
theorem Zdc : Zo Tryz.prog 131 JU := ZI ⟨Tryz.f131, by kernel_rfl, rfl, by decide⟩ fun _ _ h => Zw Zdb (f := Tryz.f131) (by kernel_rfl) rfl (by kernel_rfl) (by kernel_rfl) big h
noncomputable def V4 (n : Nat) (a0 : ZO) : Option ZO := JT n (a0, ())
theorem Zdd (n : Nat) (a0 : ZO) : V4 n a0 =
  ZxP a0 fun b => bif b then some [] else if (0 : Nat) + List.length a0 ≤ lim then some a0 else none := by kernel_rfl
end Go.Sx.Tryz
set_option maxRecDepth 100000
namespace Go.Sx.Tryz
open Go Go.Sx Go.Proofs
noncomputable def Zgd : List (Nat × Con) := [(127, Zf2), (128, Zcm), (129, Zcp), (130, Zcs), (131, JU)]
theorem Zjp : ∀ q ∈ Zgd, Zo Tryz.prog q.1 q.2 := Tryz.cons_cons Zjk (Tryz.cons_cons Zf4 (Tryz.cons_cons Zf7 (Tryz.cons_cons Zga (Tryz.cons_cons Zdc (Tryz.cons_nil)))))
def ZpI : KP := []
noncomputable def Zge (n : Nat) (x : YI [ZP]) := evX (false, false, [1, 3, 6, 9, 12, 15, 18]) Zgd ZpI [some ZC] Tryz.f60 (shF ZC) n (YV [ZP] x)
noncomputable def ZaL : Con := roS [ZP] true (shF ZC) (Zge big)
theorem Zba : Zo Tryz.prog 60 ZaL := ZI ⟨Tryz.f60, by kernel_rfl, rfl, by decide⟩ fun _ _ h => Zw Zjp (f := Tryz.f60) (by kernel_rfl) rfl (by kernel_rfl) (by kernel_rfl) big h
noncomputable def Vy (n : Nat) (a0 : Zq) : Option Zq := Zge n (a0, ())
theorem Zjq (n : Nat) (a0 : Zq) : Vy n a0 =
  (QI big a0.2.2.2.2.2.1).bind fun y =>
 (Kg big a0.2.2.2.2.2.2.1).bind fun y_1 =>
 (QI big a0.2.2.2.2.2.2.2.1).bind fun y_2 =>
 (Kh big a0.2.2.2.2.2.2.2.2.1).bind fun y_3 =>
 (Ki big a0.2.2.2.2.2.2.2.2.2.1).bind fun y_4 =>
 (V4 big a0.2.2.2.2.2.2.2.2.2.2.1).bind fun y_5 =>
 some
 (a0.1, a0.2.1, a0.2.2.1, a0.2.2.2.1, a0.2.2.2.2.1, y, y_1, y_2, y_3, y_4,
 y_5, a0.2.2.2.2.2.2.2.2.2.2.2) := by kernel_rfl
end Go.Sx.Tryz
set_option maxRecDepth 100000
namespace Go.Sx.Tryz
open Go Go.Sx Go.Proofs
noncomputable def Ja : List (Nat × Con) := []
theorem Znn : ∀ q ∈ Ja, Zo Tryz.prog q.1 q.2 := Tryz.cons_nil
abbrev Uo : List Wa × List BK := ([.ro YJ, .ro YJ, .drop, .drop, .drop, .ro Za, .drop, .drop, .drop, .drop, .drop, .drop, .drop, .drop, .drop, .drop, .drop, .drop, .drop, .drop, .drop, .drop, .drop, .drop, .drop, .drop], [])
def Zgf : KP := [(4, Uo)]
noncomputable def ZiM (n : Nat) (x : YI [YJ, YJ]) := evX (false, false, []) Ja Zgf [none] Tryz.f29 (shV ZE) n (YV [YJ, YJ] x)
noncomputable def ZiN : Con := roS [YJ, YJ] true (shV ZE) (ZiM big)
theorem Zno : Zo Tryz.prog 29 ZiN := ZI ⟨Tryz.f29, by kernel_rfl, rfl, by decide⟩ fun _ _ h => Zw Znn (f := Tryz.f29) (by kernel_rfl) rfl (by kernel_rfl) (by kernel_rfl) big h
noncomputable def Jb (n : Nat) (a0 : YF) (a1 : YF) : Option Bool := ZiM n (a0, a1, ())
noncomputable def ZpJ (n : Nat) (x : KD Uo.1) (y : BD Uo.2) := Yh (env (false, false, []) Ja) Zgf (body Tryz.f29) (VV (false, false, []) Ja [none] Tryz.f29 (shV ZE) [.val YJ (ZT YJ), .val YJ (ZT YJ)]) n 4 Uo x y
noncomputable def Uq (n : Nat) (s0 : YF) (s1 : YF) (s5 : Int) : Option Bool := ZpJ n (s0, s1, s5, ()) ()
theorem Znp (n : Nat) (a0 : YF) (a1 : YF) : Jb n a0 a1 =
  bif !decide ((↑(List.length a0) : Int) = (↑(List.length a1) : Int)) then some false
 else Uq n a0 a1 (0 : Int) := by kernel_rfl
theorem JV (n : Nat) (s0 : YF) (s1 : YF) (s5 : Int) : Uq (n + 1) s0 s1 s5 =
  bif decide (s5 < (↑(List.length s0) : Int)) then
 if (0 : Int) ≤ s5 then
 (nth s0 s5.toNat).bind fun y =>
 if (0 : Int) ≤ s5 then
 (nth s1 s5.toNat).bind fun y_1 =>
 bif !decide (y = y_1) then some false else Uq n s0 s1 (IntKind.i64.wrap (s5 + (1 : Int)))
 else none
 else none
 else some true := by kernel_rfl
end Go.Sx.Tryz
set_option maxRecDepth 100000
namespace Go.Sx.Tryz
open Go Go.Sx Go.Proofs
noncomputable def QJ : List (Nat × Con) := []
theorem Zjr : ∀ q ∈ QJ, Zo Tryz.prog q.1 q.2 := Tryz.cons_nil
abbrev Vz : List Wa × List BK := ([.ro ZB, .ro ZB, .drop, .drop, .drop, .ro Za, .drop, .drop, .drop, .drop, .drop, .drop, .drop, .drop, .drop, .drop, .drop, .drop, .drop, .drop, .drop, .drop, .drop, .drop, .drop, .drop], [])
def ZdS : KP := [(4, Vz)]
noncomputable def Zgg (n : Nat) (x : YI [ZB, ZB]) := evX (false, false, []) QJ ZdS [none] Tryz.f26 (shV ZE) n (YV [ZB, ZB] x)
noncomputable def Zgh : Con := roS [ZB, ZB] true (shV ZE) (Zgg big)
theorem Zjs : Zo Tryz.prog 26 Zgh := ZI ⟨Tryz.f26, by kernel_rfl, rfl, by decide⟩ fun _ _ h => Zw Zjr (f := Tryz.f26) (by kernel_rfl) rfl (by kernel_rfl) (by kernel_rfl) big h
noncomputable def ZaM (n : Nat) (a0 : ZH) (a1 : ZH) : Option Bool := Zgg n (a0, a1, ())
noncomputable def Znq (n : Nat) (x : KD Vz.1) (y : BD Vz.2) := Yh (env (false, false, []) QJ) ZdS (body Tryz.f26) (VV (false, false, []) QJ [none] Tryz.f26 (shV ZE) [.val ZB (ZT ZB), .val ZB (ZT ZB)]) n 4 Vz x y
noncomputable def VA (n : Nat) (s0 : ZH) (s1 : ZH) (s5 : Int) : Option Bool := Znq n (s0, s1, s5, ()) ()
theorem Zjt (n : Nat) (a0 : ZH) (a1 : ZH) : ZaM n a0 a1 =
  bif !decide ((↑(List.length a0) : Int) = (↑(List.length a1) : Int)) then some false
 else VA n a0 a1 (0 : Int) := by kernel_rfl
theorem Jc (n : Nat) (s0 : ZH) (s1 : ZH) (s5 : Int) : VA (n + 1) s0 s1 s5 =
  bif decide (s5 < (↑(List.length s0) : Int)) then
 if (0 : Int) ≤ s5 then
 (nth s0 s5.toNat).bind fun y =>
 if (0 : Int) ≤ s5 then
 (nth s1 s5.toNat).bind fun y_1 =>
 bif !eqD W3 y y_1 then some false else VA n s0 s1 (IntKind.i64.wrap (s5 + (1 : Int)))
 else none
 else none
 else some true := by kernel_rfl
end Go.Sx.Tryz
set_option maxRecDepth 100000
namespace Go.Sx.Tryz
open Go Go.Sx Go.Proofs
noncomputable def QK : List (Nat × Con) := []
theorem Zju : ∀ q ∈ QK, Zo Tryz.prog q.1 q.2 := Tryz.cons_nil
abbrev VB : List Wa × List BK := ([.ro Yo, .ro Yo, .drop, .drop, .drop, .ro Za, .drop, .drop, .drop, .drop, .drop, .drop, .drop, .drop, .drop, .drop, .drop, .drop, .drop, .drop, .drop, .drop, .drop, .drop, .drop, .drop], [])
def ZdT : KP := [(4, VB)]
noncomputable def Zgi (n : Nat) (x : YI [Yo, Yo]) := evX (false, false, []) QK ZdT [none] Tryz.f71 (shV ZE) n (YV [Yo, Yo] x)
noncomputable def Zgj : Con := roS [Yo, Yo] true (shV ZE) (Zgi big)
theorem Zjv : Zo Tryz.prog 71 Zgj := ZI ⟨Tryz.f71, by kernel_rfl, rfl, by decide⟩ fun _ _ h => Zw Zju (f := Tryz.f71) (by kernel_rfl) rfl (by kernel_rfl) (by kernel_rfl) big h
noncomputable def ZaN (n : Nat) (a0 : Yv) (a1 : Yv) : Option Bool := Zgi n (a0, a1, ())
noncomputable def Znr (n : Nat) (x : KD VB.1) (y : BD VB.2) := Yh (env (false, false, []) QK) ZdT (body Tryz.f71) (VV (false, false, []) QK [none] Tryz.f71 (shV ZE) [.val Yo (ZT Yo), .val Yo (ZT Yo)]) n 4 VB x y
noncomputable def VC (n : Nat) (s0 : Yv) (s1 : Yv) (s5 : Int) : Option Bool := Znr n (s0, s1, s5, ()) ()
theorem Zjw (n : Nat) (a0 : Yv) (a1 : Yv) : ZaN n a0 a1 =
  bif !decide ((↑(List.length a0) : Int) = (↑(List.length a1) : Int)) then some false
 else VC n a0 a1 (0 : Int) := by kernel_rfl
theorem Jd (n : Nat) (s0 : Yv) (s1 : Yv) (s5 : Int) : VC (n + 1) s0 s1 s5 =
  bif decide (s5 < (↑(List.length s0) : Int)) then
 if (0 : Int) ≤ s5 then
 (nth s0 s5.toNat).bind fun y =>
 if (0 : Int) ≤ s5 then
 (nth s1 s5.toNat).bind fun y_1 =>
 bif !eqD W4 y y_1 then some false else VC n s0 s1 (IntKind.i64.wrap (s5 + (1 : Int)))
 else none
 else none
 else some true := by kernel_rfl
end Go.Sx.Tryz
set_option maxRecDepth 100000
namespace Go.Sx.Tryz
open Go Go.Sx Go.Proofs
noncomputable def QL : List (Nat × Con) := []
theorem Zjx : ∀ q ∈ QL, Zo Tryz.prog q.1 q.2 := Tryz.cons_nil
abbrev VD : List Wa × List BK := ([.ro ZM, .ro ZM, .drop, .drop, .drop, .ro Za, .drop, .drop, .drop, .drop, .drop, .drop, .drop, .drop, .drop, .drop, .drop, .drop, .drop, .drop, .drop, .drop, .drop, .drop, .drop, .drop], [])
def ZdU : KP := [(4, VD)]
noncomputable def Zgk (n : Nat) (x : YI [ZM, ZM]) := evX (false, false, []) QL ZdU [none] Tryz.f72 (shV ZE) n (YV [ZM, ZM] x)
noncomputable def Zgl : Con := roS [ZM, ZM] true (shV ZE) (Zgk big)
theorem Zjy : Zo Tryz.prog 72 Zgl := ZI ⟨Tryz.f72, by kernel_rfl, rfl, by decide⟩ fun _ _ h => Zw Zjx (f := Tryz.f72) (by kernel_rfl) rfl (by kernel_rfl) (by kernel_rfl) big h
noncomputable def ZaO (n : Nat) (a0 : Z6) (a1 : Z6) : Option Bool := Zgk n (a0, a1, ())
noncomputable def Zns (n : Nat) (x : KD VD.1) (y : BD VD.2) := Yh (env (false, false, []) QL) ZdU (body Tryz.f72) (VV (false, false, []) QL [none] Tryz.f72 (shV ZE) [.val ZM (ZT ZM), .val ZM (ZT ZM)]) n 4 VD x y
noncomputable def VE (n : Nat) (s0 : Z6) (s1 : Z6) (s5 : Int) : Option Bool := Zns n (s0, s1, s5, ()) ()
theorem Zjz (n : Nat) (a0 : Z6) (a1 : Z6) : ZaO n a0 a1 =
  bif !decide ((↑(List.length a0) : Int) = (↑(List.length a1) : Int)) then some false
 else VE n a0 a1 (0 : Int) := by kernel_rfl
theorem Je (n : Nat) (s0 : Z6) (s1 : Z6) (s5 : Int) : VE (n + 1) s0 s1 s5 =
  bif decide (s5 < (↑(List.length s0) : Int)) then
 if (0 : Int) ≤ s5 then
 (nth s0 s5.toNat).bind fun y =>
 if (0 : Int) ≤ s5 then
 (nth s1 s5.toNat).bind fun y_1 =>
 bif !eqD ZV y y_1 then some false else VE n s0 s1 (IntKind.i64.wrap (s5 + (1 : Int)))
 else none
 else none
 else some true := by kernel_rfl
end Go.Sx.Tryz
set_option maxRecDepth 100000
namespace Go.Sx.Tryz
open Go Go.Sx Go.Proofs
noncomputable def VF : List (Nat × Con) := []
theorem Zgm : ∀ q ∈ VF, Zo Tryz.prog q.1 q.2 := Tryz.cons_nil
abbrev Wv : List Wa × List BK := ([.ro ZG, .ro ZG, .drop, .drop, .drop, .ro Za, .drop, .drop, .drop, .drop, .drop, .drop, .drop, .drop, .drop, .drop, .drop, .drop, .drop, .drop, .drop, .drop, .drop, .drop, .drop, .drop], [])
def Zbb : KP := [(4, Wv)]
noncomputable def Zct (n : Nat) (x : YI [ZG, ZG]) := evX (false, false, []) VF Zbb [none] Tryz.f73 (shV ZE) n (YV [ZG, ZG] x)
noncomputable def Zcu : Con := roS [ZG, ZG] true (shV ZE) (Zct big)
theorem Zgn : Zo Tryz.prog 73 Zcu := ZI ⟨Tryz.f73, by kernel_rfl, rfl, by decide⟩ fun _ _ h => Zw Zgm (f := Tryz.f73) (by kernel_rfl) rfl (by kernel_rfl) (by kernel_rfl) big h
noncomputable def Kj (n : Nat) (a0 : ZO) (a1 : ZO) : Option Bool := Zct n (a0, a1, ())
noncomputable def Zhf (n : Nat) (x : KD Wv.1) (y : BD Wv.2) := Yh (env (false, false, []) VF) Zbb (body Tryz.f73) (VV (false, false, []) VF [none] Tryz.f73 (shV ZE) [.val ZG (ZT ZG), .val ZG (ZT ZG)]) n 4 Wv x y
noncomputable def Ww (n : Nat) (s0 : ZO) (s1 : ZO) (s5 : Int) : Option Bool := Zhf n (s0, s1, s5, ()) ()
theorem Zgo (n : Nat) (a0 : ZO) (a1 : ZO) : Kj n a0 a1 =
  bif !decide ((↑(List.length a0) : Int) = (↑(List.length a1) : Int)) then some false
 else Ww n a0 a1 (0 : Int) := by kernel_rfl
theorem UT (n : Nat) (s0 : ZO) (s1 : ZO) (s5 : Int) : Ww (n + 1) s0 s1 s5 =
  bif decide (s5 < (↑(List.length s0) : Int)) then
 if (0 : Int) ≤ s5 then
 (nth s0 s5.toNat).bind fun y =>
 if (0 : Int) ≤ s5 then
 (nth s1 s5.toNat).bind fun y_1 =>
 bif !eqD ZD y y_1 then some false else Ww n s0 s1 (IntKind.i64.wrap (s5 + (1 : Int)))
 else none
 else none
 else some true := by kernel_rfl
end Go.Sx.Tryz
set_option maxRecDepth 100000
namespace Go.Sx.Tryz
open Go Go.Sx Go.Proofs
noncomputable def ZiO : List (Nat × Con) := [(29, ZiN), (26, Zgh), (71, Zgj), (72, Zgl), (73, Zcu)]
theorem Znt : ∀ q ∈ ZiO, Zo Tryz.prog q.1 q.2 := Tryz.cons_cons Zno (Tryz.cons_cons Zjs (Tryz.cons_cons Zjv (Tryz.cons_cons Zjy (Tryz.cons_cons Zgn (Tryz.cons_nil)))))
def Ztx : KP := []
noncomputable def ZiP (n : Nat) (x : YI [ZP, ZP]) := evX (false, false, [2, 3, 5, 7, 11, 13, 18, 20, 25, 27, 32, 34, 39, 41, 46, 48, 53, 55, 60, 62, 67, 69, 74, 76, 81, 83]) ZiO Ztx [none] Tryz.f21 (shV ZE) n (YV [ZP, ZP] x)
noncomputable def ZiQ : Con := roS [ZP, ZP] true (shV ZE) (ZiP big)
theorem Znu : Zo Tryz.prog 21 ZiQ := ZI ⟨Tryz.f21, by kernel_rfl, rfl, by decide⟩ fun _ _ h => Zw Znt (f := Tryz.f21) (by kernel_rfl) rfl (by kernel_rfl) (by kernel_rfl) big h
noncomputable def Zcv (n : Nat) (a0 : Zq) (a1 : Zq) : Option Bool := ZiP n (a0, a1, ())
theorem Znv (n : Nat) (a0 : Zq) (a1 : Zq) : Zcv n a0 a1 =
  bif decide (a0.1 = a1.1) then
 bif decide (a0.2.1 = a1.2.1) then
 bif eqD X3 a0.2.2.1 a1.2.2.1 then
 bif eqD X3 a0.2.2.2.1 a1.2.2.2.1 then
 bif eqD ZV a0.2.2.2.2.1 a1.2.2.2.2.1 then
 (Jb big a0.2.2.2.2.2.1 a1.2.2.2.2.2.1).bind fun y =>
 bif y then
 (ZaM big a0.2.2.2.2.2.2.1 a1.2.2.2.2.2.2.1).bind fun y =>
 bif y then
 (Jb big a0.2.2.2.2.2.2.2.1 a1.2.2.2.2.2.2.2.1).bind
 fun y =>
 bif y then
 (ZaN big a0.2.2.2.2.2.2.2.2.1
 a1.2.2.2.2.2.2.2.2.1).bind
 fun y =>
 bif y then
 (ZaO big a0.2.2.2.2.2.2.2.2.2.1
 a1.2.2.2.2.2.2.2.2.2.1).bind
 fun y =>
 bif y then
 (Kj big a0.2.2.2.2.2.2.2.2.2.2.1
 a1.2.2.2.2.2.2.2.2.2.2.1).bind
 fun y =>
 bif y then
 some
 (decide
 (a0.2.2.2.2.2.2.2.2.2.2.2.1 =
 a1.2.2.2.2.2.2.2.2.2.2.2.1))
 else some false
 else some false
 else some false
 else some false
 else some false
 else some false
 else some false
 else some false
 else some false
 else some false
 else some false := by kernel_rfl
end Go.Sx.Tryz
set_option maxRecDepth 100000
namespace Go.Sx.Tryz
open Go Go.Sx Go.Proofs
noncomputable def Znw : List (Nat × Con) := [(60, ZaL)]
theorem ZpK : ∀ q ∈ Znw, Zo Tryz.prog q.1 q.2 := Tryz.cons_cons Zba (Tryz.cons_nil)
def Zwe : KP := []
noncomputable def Znx (n : Nat) (x : YI [ZP, Zn]) := evX (false, false, [2, 5, 9]) Znw Zwe [some ZC] Tryz.f36 (shF ZC) n (YV [ZP, Zn] x)
noncomputable def Zny : Con := roS [ZP, Zn] true (shF ZC) (Znx big)
theorem ZpL : Zo Tryz.prog 36 Zny := ZI ⟨Tryz.f36, by kernel_rfl, rfl, by decide⟩ fun _ _ h => Zw ZpK (f := Tryz.f36) (by kernel_rfl) rfl (by kernel_rfl) (by kernel_rfl) big h
noncomputable def ZeK (n : Nat) (a0 : Zq) (a1 : Int) : Option Zq := Znx n (a0, a1, ())
theorem ZpM (n : Nat) (a0 : Zq) (a1 : Int) : ZeK n a0 a1 =
  (Vy big a0).bind fun y =>
 bif decide (a0.2.1 < a1) then
 bif decide (a1 ≤ (900 : Int)) then
 some
 (y.1, a1, y.2.2.1, y.2.2.2.1, y.2.2.2.2.1, y.2.2.2.2.2.1,
 y.2.2.2.2.2.2.1, y.2.2.2.2.2.2.2.1, y.2.2.2.2.2.2.2.2.1, [],
 [], y.2.2.2.2.2.2.2.2.2.2.2)
 else some y
 else some y := by kernel_rfl
end Go.Sx.Tryz
set_option maxRecDepth 100000
namespace Go.Sx.Tryz
open Go Go.Sx Go.Proofs
noncomputable def ZDb : List (Nat × Con) := []
theorem ZBa : ∀ q ∈ ZDb, Zo Tryz.prog q.1 q.2 := Tryz.cons_nil
def ZDX : KP := []
noncomputable def ZDc (n : Nat) (x : YI [Zn, Zn, Zn]) := evX (false, false, []) ZDb ZDX [none] Tryz.f64 (shV ZE) n (YV [Zn, Zn, Zn] x)
noncomputable def ZDd : Con := roS [Zn, Zn, Zn] true (shV ZE) (ZDc big)
theorem ZBb : Zo Tryz.prog 64 ZDd := ZI ⟨Tryz.f64, by kernel_rfl, rfl, by decide⟩ fun _ _ h => Zw ZBa (f := Tryz.f64) (by kernel_rfl) rfl (by kernel_rfl) (by kernel_rfl) big h
noncomputable def ZBc (n : Nat) (a0 : Int) (a1 : Int) (a2 : Int) : Option Bool := ZDc n (a0, a1, a2, ())
theorem ZBd (n : Nat) (a0 : Int) (a1 : Int) (a2 : Int) : ZBc n a0 a1 a2 =
  bif decide (a1 ≤ a0) then some (decide (a0 ≤ a2)) else some false := by kernel_rfl
end Go.Sx.Tryz
set_option maxRecDepth 100000
namespace Go.Sx.Tryz
open Go Go.Sx Go.Proofs
noncomputable def ZiR : List (Nat × Con) := []
theorem Znz : ∀ q ∈ ZiR, Zo Tryz.prog q.1 q.2 := Tryz.cons_nil
def Zty : KP := []
noncomputable def ZiS (n : Nat) (x : YI [Zn, Zn]) := evX (false, false, []) ZiR Zty [none] Tryz.f66 (shV Zn) n (YV [Zn, Zn] x)
noncomputable def ZiT : Con := roS [Zn, Zn] true (shV Zn) (ZiS big)
theorem ZnA : Zo Tryz.prog 66 ZiT := ZI ⟨Tryz.f66, by kernel_rfl, rfl, by decide⟩ fun _ _ h => Zw Znz (f := Tryz.f66) (by kernel_rfl) rfl (by kernel_rfl) (by kernel_rfl) big h
noncomputable def Zcw (n : Nat) (a0 : Int) (a1 : Int) : Option Int := ZiS n (a0, a1, ())
theorem ZnB (n : Nat) (a0 : Int) (a1 : Int) : Zcw n a0 a1 =
  bif decide (a1 < (1 : Int)) then some (0 : Int)
 else
 bif decide (a0 < (0 : Int)) then some (0 : Int)
 else if a1 = (0 : Int) then none else some ((IntKind.i64.wrap (a0.tdiv (4 : Int))).tmod a1) := by kernel_rfl
end Go.Sx.Tryz
set_option maxRecDepth 100000
namespace Go.Sx.Tryz
open Go Go.Sx Go.Proofs
noncomputable def ZiU : List (Nat × Con) := []
theorem ZnC : ∀ q ∈ ZiU, Zo Tryz.prog q.1 q.2 := Tryz.cons_nil
def Ztz : KP := []
noncomputable def Zwf (n : Nat) (x : YI [ZP, Zn, Zn, X3, ZV]) := evX (false, false, [5, 8, 9, 14, 17, 22, 25]) ZiU Ztz [none] Tryz.f65 (shV ZD) n (YV [ZP, Zn, Zn, X3, ZV] x)
noncomputable def ZiV : Con := roS [ZP, Zn, Zn, X3, ZV] true (shV ZD) (Zwf big)
theorem ZnD : Zo Tryz.prog 65 ZiV := ZI ⟨Tryz.f65, by kernel_rfl, rfl, by decide⟩ fun _ _ h => Zw ZnC (f := Tryz.f65) (by kernel_rfl) rfl (by kernel_rfl) (by kernel_rfl) big h
end Go.Sx.Tryz
set_option maxRecDepth 100000
namespace Go.Sx.Tryz
open Go Go.Sx Go.Proofs
noncomputable def ZiW : List (Nat × Con) := [(64, ZDd), (60, ZaL), (36, Zny), (66, ZiT), (65, ZiV)]
theorem ZnE : ∀ q ∈ ZiW, Zo Tryz.prog q.1 q.2 := Tryz.cons_cons ZBb (Tryz.cons_cons Zba (Tryz.cons_cons ZpL (Tryz.cons_cons ZnA (Tryz.cons_cons ZnD (Tryz.cons_nil)))))
def ZtA : KP := []
noncomputable def ZiX (n : Nat) (x : YI [ZP, Zn]) := evX (false, false, [2, 7, 8, 20, 26, 30]) ZiW ZtA [some ZC, none, none] Tryz.f17 (shT [(true, ZC), (false, ZD), (false, ZE)]) n (YV [ZP, Zn] x)
noncomputable def ZiY : Con := roS [ZP, Zn] true (shT [(true, ZC), (false, ZD), (false, ZE)]) (ZiX big)
theorem ZnF : Zo Tryz.prog 17 ZiY := ZI ⟨Tryz.f17, by kernel_rfl, rfl, by decide⟩ fun _ _ h => Zw ZnE (f := Tryz.f17) (by kernel_rfl) rfl (by kernel_rfl) (by kernel_rfl) big h
noncomputable def UG (n : Nat) (a0 : Zq) (a1 : Int) : Option (Zq × Zs × Bool × Unit) := ZiX n (a0, a1, ())
theorem Zcx (n : Nat) (a0 : Zq) (a1 : Int) : UG n a0 a1 =
  bif decide ((900 : Int) ≤ a0.2.1) then
 (Vy big a0).bind fun y =>
 some
 (y,
 ((0 : Int), (0 : Int), (0 : Int), (0 : Int), (0 : Int),
 ((0 : Int), (0 : Int), (0 : Int), (0 : Int), ()),
 ((0 : Int), (0 : Int), (0 : Int), (0 : Int), ()), ()),
 false, ())
 else
 (ZBc big a1 (1 : Int) (7 : Int)).bind fun y =>
 bif !y then
 (Vy big a0).bind fun y =>
 some
 (y,
 ((0 : Int), (0 : Int), (0 : Int), (0 : Int), (0 : Int),
 ((0 : Int), (0 : Int), (0 : Int), (0 : Int), ()),
 ((0 : Int), (0 : Int), (0 : Int), (0 : Int), ()), ()),
 false, ())
 else
 (ZeK big a0 (IntKind.i64.wrap (a0.2.1 + (1 : Int)))).bind fun y =>
 (Zcw big y.2.1 a1).bind fun y_1 =>
 some
 (y,
 ((4 : Int), y.1, y_1, y.2.1, (0 : Int), y.2.2.1,
 ((0 : Int), (0 : Int), (0 : Int), (0 : Int), ()), ()),
 true, ()) := by kernel_rfl
end Go.Sx.Tryz
set_option maxRecDepth 100000
namespace Go.Sx.Tryz
open Go Go.Sx Go.Proofs
noncomputable def Zbc : List (Nat × Con) := [(57, ZcP), (62, XV), (61, Zri), (63, Zab), (59, YG)]
theorem ZeL : ∀ q ∈ Zbc, Zo Tryz.prog q.1 q.2 := Tryz.cons_cons Zaa (Tryz.cons_cons XE (Tryz.cons_cons Ztv (Tryz.cons_cons Jj (Tryz.cons_cons Ym (Tryz.cons_nil)))))
def Zhg : KP := []
noncomputable def Zbd (n : Nat) (x : YI [Ya]) := evX (false, false, [7]) Zbc Zhg [some ZC, none] Tryz.f16 (shT [(true, ZC), (false, Zn)]) n (YV [Ya] x)
noncomputable def Zbe : Con := roS [Ya] true (shT [(true, ZC), (false, Zn)]) (Zbd big)
theorem ZeM : Zo Tryz.prog 16 Zbe := ZI ⟨Tryz.f16, by kernel_rfl, rfl, by decide⟩ fun _ _ h => Zw ZeL (f := Tryz.f16) (by kernel_rfl) rfl (by kernel_rfl) (by kernel_rfl) big h
noncomputable def UN (n : Nat) (a0 : YZ) : Option (Zq × Int × Unit) := Zbd n (a0, ())
theorem ZeN (n : Nat) (a0 : YZ) : UN n a0 =
  (JG big a0).bind fun y =>
 (Xe big y [(4 : Int), (4 : Int), (4 : Int), (0 : Int), (8 : Int)]).bind fun y =>
 (Zhe big y.2.1).bind fun y_1 =>
 (Q3 big y_1.2.1 (8 : Int)).bind fun y_2 =>
 bif y_2.1 then
 (ZY big y_2.2.1 (3 : Int)).bind fun y_3 =>
 some
 ((y_1.1.2.1.1, IntKind.i64.wrap ((899 : Int) + y_3.1), y_1.1.2.1.2.2), y.1,
 ())
 else some (y_1.1.2.1, y.1, ()) := by kernel_rfl
end Go.Sx.Tryz
set_option maxRecDepth 100000
namespace Go.Sx.Tryz
open Go Go.Sx Go.Proofs
noncomputable def UU : List (Nat × Con) := [(57, ZcP), (70, Zhc)]
theorem ZaP : ∀ q ∈ UU, Zo Tryz.prog q.1 q.2 := Tryz.cons_cons Zaa (Tryz.cons_cons ZfY (Tryz.cons_nil))
def Zcy : KP := []
noncomputable def UV (n : Nat) (x : YI [Ya]) := evX (false, false, [3, 7]) UU Zcy [some ZjI] Tryz.f19 (shF ZjI) n (YV [Ya] x)
noncomputable def UW : Con := roS [Ya] true (shF ZjI) (UV big)
theorem ZaQ : Zo Tryz.prog 19 UW := ZI ⟨Tryz.f19, by kernel_rfl, rfl, by decide⟩ fun _ _ h => Zw ZaP (f := Tryz.f19) (by kernel_rfl) rfl (by kernel_rfl) (by kernel_rfl) big h
noncomputable def WC (n : Nat) (a0 : YZ) : Option WM := UV n (a0, ())
theorem ZaR (n : Nat) (a0 : YZ) : WC n a0 =
  (JG big a0).bind fun y => (Zc6 big y (20 : Int)).bind fun y => some y.1.2.2.2.2.1 := by kernel_rfl
end Go.Sx.Tryz
set_option maxRecDepth 100000
namespace Go.Sx.Tryz
open Go Go.Sx Go.Proofs
noncomputable def WQ : List (Nat × Con) := []
theorem ZeO : ∀ q ∈ WQ, Zo Tryz.prog q.1 q.2 := Tryz.cons_nil
abbrev X9 : List Wa × List BK := ([.drop, .drop, .drop, .ro Za, .drop, .drop, .ro YL, .ro Za, .ro Za, .drop, .drop, .drop, .drop, .drop, .drop, .drop, .drop, .drop, .drop, .drop, .drop, .drop, .drop, .drop, .drop], [])
def JW : KP := [(3, X9)]
noncomputable def Zbf (n : Nat) (x : YI [YL]) := evX (false, false, [5, 16, 21]) WQ JW [none] Tryz.f20 (shV Zn) n (YV [YL] x)
noncomputable def Zbg : Con := roS [YL] true (shV Zn) (Zbf big)
theorem ZeP : Zo Tryz.prog 20 Zbg := ZI ⟨Tryz.f20, by kernel_rfl, rfl, by decide⟩ fun _ _ h => Zw ZeO (f := Tryz.f20) (by kernel_rfl) rfl (by kernel_rfl) (by kernel_rfl) big h
noncomputable def UO (n : Nat) (a0 : WM) : Option Int := Zbf n (a0, ())
noncomputable def Zgp (n : Nat) (x : KD X9.1) (y : BD X9.2) := Yh (env (false, false, [5, 16, 21]) WQ) JW (body Tryz.f20) (VV (false, false, [5, 16, 21]) WQ [none] Tryz.f20 (shV Zn) [.val YL (ZT YL)]) n 3 X9 x y
noncomputable def Y6 (n : Nat) (s3 : Int) (s6 : WM) (s7 : Int) (s8 : Int) : Option Int := Zgp n (s3, s6, s7, s8, ()) ()
theorem ZeQ (n : Nat) (a0 : WM) : UO n a0 =
  Y6 n (0 : Int) a0 (↑(List.length a0) : Int) (0 : Int) := by kernel_rfl
theorem Xu (n : Nat) (s3 : Int) (s6 : WM) (s7 : Int) (s8 : Int) : Y6 (n + 1) s3 s6 s7 s8 =
  bif decide (s8 < s7) then
 if (0 : Int) ≤ s8 then
 (nth s6 s8.toNat).bind fun y =>
 bif decide (s8 = (0 : Int)) then Y6 n y.2.1 s6 s7 (IntKind.i64.wrap (s8 + (1 : Int)))
 else
 bif decide (s3 < y.2.1) then Y6 n y.2.1 s6 s7 (IntKind.i64.wrap (s8 + (1 : Int)))
 else Y6 n s3 s6 s7 (IntKind.i64.wrap (s8 + (1 : Int)))
 else none
 else some s3 := by kernel_rfl
end Go.Sx.Tryz
set_option maxRecDepth 100000
namespace Go.Sx.Tryz
open Go Go.Sx Go.Proofs
noncomputable def ZBe : List (Nat × Con) := []
theorem ZzA : ∀ q ∈ ZBe, Zo Tryz.prog q.1 q.2 := Tryz.cons_nil
def ZCC : KP := []
noncomputable def ZDY (n : Nat) (x : YI [Ya]) := evX (false, false, []) ZBe ZCC [none] Tryz.f9 (shV ZE) n (YV [Ya] x)
noncomputable def ZBf : Con := roS [Ya] true (shV ZE) (ZDY big)
theorem ZzB : Zo Tryz.prog 9 ZBf := ZI ⟨Tryz.f9, by kernel_rfl, rfl, by decide⟩ fun _ _ h => Zw ZzA (f := Tryz.f9) (by kernel_rfl) rfl (by kernel_rfl) (by kernel_rfl) big h
end Go.Sx.Tryz
set_option maxRecDepth 100000
namespace Go.Sx.Tryz
open Go Go.Sx Go.Proofs
noncomputable def ZaS : List (Nat × Con) := [(9, ZBf), (16, Zbe), (17, ZiY), (18, ZbV), (19, UW), (20, Zbg), (10, ZiL), (21, ZiQ), (22, Xs), (23, UM)]
theorem ZpN : ∀ q ∈ ZaS, Zo Tryz.prog q.1 q.2 := Tryz.cons_cons ZzB (Tryz.cons_cons ZeM (Tryz.cons_cons ZnF (Tryz.cons_cons ZbW (Tryz.cons_cons ZaQ (Tryz.cons_cons ZeP (Tryz.cons_cons Znj (Tryz.cons_cons Znu (Tryz.cons_cons Y0 (Tryz.cons_cons Ke (Tryz.cons_nil))))))))))
abbrev QM : List Wa × List BK := ([.ro Ya, .drop, .drop, .drop, .drop, .is (.ptr 13 0), .is (.ptr 14 0), .ro ZE, .is (.ptr 21 0), .is (.ptr 22 0), .ro ZE, .is (.own 23 0), .ro Za, .ro Za, .drop, .drop, .drop, .drop, .drop, .drop, .drop, .drop, .drop, .drop, .drop, .drop, .drop, .drop, .drop, .drop, .drop, .drop, .drop, .drop, .drop, .drop, .drop, .drop, .drop, .drop, .drop, .drop, .drop, .drop, .drop, .drop, .drop, .drop, .drop, .drop, .drop, .drop, .drop, .drop, .drop, .drop, .drop, .drop, .drop, .drop, .drop, .drop, .drop, .drop, .drop, .drop, .drop, .drop, .drop, .drop, .drop, .drop, .drop, .drop, .drop, .drop, .drop, .drop, .drop, .drop, .drop, .drop, .drop, .drop, .drop, .drop, .drop, .drop, .drop, .drop, .drop, .drop, .drop, .drop, .drop, .drop, .drop, .drop, .drop, .drop, .drop, .drop, .drop, .drop, .drop, .drop, .drop, .drop, .drop, .drop, .drop, .drop, .drop, .drop, .drop, .drop, .drop, .drop, .drop, .drop, .drop, .drop, .drop, .drop, .drop, .drop, .drop, .drop, .drop, .drop, .drop], [.drop, .drop, .drop, .drop, .drop, .drop, .drop, .drop, .drop, .drop, .drop, .drop, .drop, .vars [.ro Za, .ro Za, .ro Za, .ro Za, .ro Za, .ro Za, .ro Za, .ro Za, .ro Za, .ro Za, .ro Za, .ro Za, .ro Za, .ro Za, .own Za, .own Zt, .own Za, .own Zy, .own Zk, .own Zg, .ro Za], .vars [.ro Za, .ro Za, .ro Za, .ro Za, .ro Za, .ro Za, .ro Za, .ro Za, .ro Za, .ro Za, .ro Za, .ro Za, .ro Za], .drop, .drop, .drop, .drop, .drop, .drop, .vars [.ro Za, .ro Za, .ro Za, .ro Za, .ro Za, .ro Za, .ro Za, .ro Za, .ro Za, .ro Za, .ro Za, .ro Za, .ro Za, .ro Za, .own Za, .own Zt, .own Za, .own Zy, .own Zk, .own Zg, .ro Za], .vars [.ro Za, .ro Za, .ro Za, .ro Za, .ro Za, .ro Za, .ro Za, .ro Za, .ro Za, .ro Za, .ro Za, .ro Za, .ro Za], .arr ZW])
def ZiZ : KP := [(9, QM)]
noncomputable def ZnG (n : Nat) (x : YI [Ya]) := evX (false, false, [3, 5, 6, 8, 9, 15, 16, 17, 85, 87, 93, 98, 100, 106, 108, 113, 119, 121]) ZaS ZiZ [none] Tryz.f4 (shV ZE) n (YV [Ya] x)
noncomputable def ZeR (n : Nat) (a0 : YZ) : Option Bool := ZnG n (a0, ())
noncomputable def ZtB (n : Nat) (x : KD QM.1) (y : BD QM.2) := Yh (env (false, false, [3, 5, 6, 8, 9, 15, 16, 17, 85, 87, 93, 98, 100, 106, 108, 113, 119, 121]) ZaS) ZiZ (body Tryz.f4) (VV (false, false, [3, 5, 6, 8, 9, 15, 16, 17, 85, 87, 93, 98, 100, 106, 108, 113, 119, 121]) ZaS [none] Tryz.f4 (shV ZE) [.val Ya (ZT Ya)]) n 9 QM x y
noncomputable def VG (n : Nat) (s0 : YZ) (s7 : Bool) (s10 : Bool) (s12 : Int) (s13 : Int) (b13_0 : Int) (b13_1 : Int) (b13_2 : Int) (b13_3 : Int) (b13_4 : Int) (b13_5 : Int) (b13_6 : Int) (b13_7 : Int) (b13_8 : Int) (b13_9 : Int) (b13_10 : Int) (b13_11 : Int) (b13_12 : Int) (b13_13 : Int) (b13_14 : (List Int)) (b13_15 : (List Zf)) (b13_16 : (List Int)) (b13_17 : (List Zi)) (b13_18 : (List Ze)) (b13_19 : (List Zc)) (b13_20 : Int) (b14_0 : Int) (b14_1 : Int) (b14_2 : Int) (b14_3 : Int) (b14_4 : Int) (b14_5 : Int) (b14_6 : Int) (b14_7 : Int) (b14_8 : Int) (b14_9 : Int) (b14_10 : Int) (b14_11 : Int) (b14_12 : Int) (b21_0 : Int) (b21_1 : Int) (b21_2 : Int) (b21_3 : Int) (b21_4 : Int) (b21_5 : Int) (b21_6 : Int) (b21_7 : Int) (b21_8 : Int) (b21_9 : Int) (b21_10 : Int) (b21_11 : Int) (b21_12 : Int) (b21_13 : Int) (b21_14 : (List Int)) (b21_15 : (List Zf)) (b21_16 : (List Int)) (b21_17 : (List Zi)) (b21_18 : (List Ze)) (b21_19 : (List Zc)) (b21_20 : Int) (b22_0 : Int) (b22_1 : Int) (b22_2 : Int) (b22_3 : Int) (b22_4 : Int) (b22_5 : Int) (b22_6 : Int) (b22_7 : Int) (b22_8 : Int) (b22_9 : Int) (b22_10 : Int) (b22_11 : Int) (b22_12 : Int) (b23 : (List Zu)) : Option Bool := ZtB n (s0, s7, s10, s12, s13, ()) ((b13_0, b13_1, b13_2, b13_3, b13_4, b13_5, b13_6, b13_7, b13_8, b13_9, b13_10, b13_11, b13_12, b13_13, b13_14, b13_15, b13_16, b13_17, b13_18, b13_19, b13_20, ()), (b14_0, b14_1, b14_2, b14_3, b14_4, b14_5, b14_6, b14_7, b14_8, b14_9, b14_10, b14_11, b14_12, ()), (b21_0, b21_1, b21_2, b21_3, b21_4, b21_5, b21_6, b21_7, b21_8, b21_9, b21_10, b21_11, b21_12, b21_13, b21_14, b21_15, b21_16, b21_17, b21_18, b21_19, b21_20, ()), (b22_0, b22_1, b22_2, b22_3, b22_4, b22_5, b22_6, b22_7, b22_8, b22_9, b22_10, b22_11, b22_12, ()), b23, ())
theorem ZpO (n : Nat) (a0 : YZ) : ZeR n a0 =
  bif decide ((1048576 : Int) < (↑(List.length a0) : Int)) then some true
 else
 (UN big a0).bind fun y =>
 (UG big y.1 y.2.1).bind fun y_1 =>
 (Uz big y.1 y.2.1).bind fun y =>
 (WC big a0).bind fun y_2 =>
 (UO big y_2).bind fun y_3 =>
 VG n a0 y_1.2.2.1 y.2.2.1 y_3 (0 : Int) y_1.1.1 y_1.1.2.1
 y_1.1.2.2.1.1 y_1.1.2.2.1.2.1 y_1.1.2.2.1.2.2.1
 y_1.1.2.2.1.2.2.2.1 y_1.1.2.2.2.1.1 y_1.1.2.2.2.1.2.1
 y_1.1.2.2.2.1.2.2.1 y_1.1.2.2.2.1.2.2.2.1
 y_1.1.2.2.2.2.1.1 y_1.1.2.2.2.2.1.2.1
 y_1.1.2.2.2.2.1.2.2.1 y_1.1.2.2.2.2.1.2.2.2.1
 y_1.1.2.2.2.2.2.1 y_1.1.2.2.2.2.2.2.1
 y_1.1.2.2.2.2.2.2.2.1 y_1.1.2.2.2.2.2.2.2.2.1
 y_1.1.2.2.2.2.2.2.2.2.2.1 y_1.1.2.2.2.2.2.2.2.2.2.2.1
 y_1.1.2.2.2.2.2.2.2.2.2.2.2.1 y_1.2.1.1 y_1.2.1.2.1
 y_1.2.1.2.2.1 y_1.2.1.2.2.2.1 y_1.2.1.2.2.2.2.1
 y_1.2.1.2.2.2.2.2.1.1 y_1.2.1.2.2.2.2.2.1.2.1
 y_1.2.1.2.2.2.2.2.1.2.2.1 y_1.2.1.2.2.2.2.2.1.2.2.2.1
 y_1.2.1.2.2.2.2.2.2.1.1 y_1.2.1.2.2.2.2.2.2.1.2.1
 y_1.2.1.2.2.2.2.2.2.1.2.2.1
 y_1.2.1.2.2.2.2.2.2.1.2.2.2.1 y.1.1 y.1.2.1 y.1.2.2.1.1
 y.1.2.2.1.2.1 y.1.2.2.1.2.2.1 y.1.2.2.1.2.2.2.1
 y.1.2.2.2.1.1 y.1.2.2.2.1.2.1 y.1.2.2.2.1.2.2.1
 y.1.2.2.2.1.2.2.2.1 y.1.2.2.2.2.1.1 y.1.2.2.2.2.1.2.1
 y.1.2.2.2.2.1.2.2.1 y.1.2.2.2.2.1.2.2.2.1
 y.1.2.2.2.2.2.1 y.1.2.2.2.2.2.2.1 y.1.2.2.2.2.2.2.2.1
 y.1.2.2.2.2.2.2.2.2.1 y.1.2.2.2.2.2.2.2.2.2.1
 y.1.2.2.2.2.2.2.2.2.2.2.1 y.1.2.2.2.2.2.2.2.2.2.2.2.1
 y.2.1.1 y.2.1.2.1 y.2.1.2.2.1 y.2.1.2.2.2.1
 y.2.1.2.2.2.2.1 y.2.1.2.2.2.2.2.1.1
 y.2.1.2.2.2.2.2.1.2.1 y.2.1.2.2.2.2.2.1.2.2.1
 y.2.1.2.2.2.2.2.1.2.2.2.1 y.2.1.2.2.2.2.2.2.1.1
 y.2.1.2.2.2.2.2.2.1.2.1 y.2.1.2.2.2.2.2.2.1.2.2.1
 y.2.1.2.2.2.2.2.2.1.2.2.2.1 y_2 := by kernel_rfl
theorem Zbh (n : Nat) (s0 : YZ) (s7 : Bool) (s10 : Bool) (s12 : Int) (s13 : Int) (b13_0 : Int) (b13_1 : Int) (b13_2 : Int) (b13_3 : Int) (b13_4 : Int) (b13_5 : Int) (b13_6 : Int) (b13_7 : Int) (b13_8 : Int) (b13_9 : Int) (b13_10 : Int) (b13_11 : Int) (b13_12 : Int) (b13_13 : Int) (b13_14 : (List Int)) (b13_15 : (List Zf)) (b13_16 : (List Int)) (b13_17 : (List Zi)) (b13_18 : (List Ze)) (b13_19 : (List Zc)) (b13_20 : Int) (b14_0 : Int) (b14_1 : Int) (b14_2 : Int) (b14_3 : Int) (b14_4 : Int) (b14_5 : Int) (b14_6 : Int) (b14_7 : Int) (b14_8 : Int) (b14_9 : Int) (b14_10 : Int) (b14_11 : Int) (b14_12 : Int) (b21_0 : Int) (b21_1 : Int) (b21_2 : Int) (b21_3 : Int) (b21_4 : Int) (b21_5 : Int) (b21_6 : Int) (b21_7 : Int) (b21_8 : Int) (b21_9 : Int) (b21_10 : Int) (b21_11 : Int) (b21_12 : Int) (b21_13 : Int) (b21_14 : (List Int)) (b21_15 : (List Zf)) (b21_16 : (List Int)) (b21_17 : (List Zi)) (b21_18 : (List Ze)) (b21_19 : (List Zc)) (b21_20 : Int) (b22_0 : Int) (b22_1 : Int) (b22_2 : Int) (b22_3 : Int) (b22_4 : Int) (b22_5 : Int) (b22_6 : Int) (b22_7 : Int) (b22_8 : Int) (b22_9 : Int) (b22_10 : Int) (b22_11 : Int) (b22_12 : Int) (b23 : (List Zu)) : VG (n + 1) s0 s7 s10 s12 s13 b13_0 b13_1 b13_2 b13_3 b13_4 b13_5 b13_6 b13_7 b13_8 b13_9 b13_10 b13_11 b13_12 b13_13 b13_14 b13_15 b13_16 b13_17 b13_18 b13_19 b13_20 b14_0 b14_1 b14_2 b14_3 b14_4 b14_5 b14_6 b14_7 b14_8 b14_9 b14_10 b14_11 b14_12 b21_0 b21_1 b21_2 b21_3 b21_4 b21_5 b21_6 b21_7 b21_8 b21_9 b21_10 b21_11 b21_12 b21_13 b21_14 b21_15 b21_16 b21_17 b21_18 b21_19 b21_20 b22_0 b22_1 b22_2 b22_3 b22_4 b22_5 b22_6 b22_7 b22_8 b22_9 b22_10 b22_11 b22_12 b23 =
  bif decide (s13 < (↑b23.length : Int)) then
 if (0 : Int) ≤ s13 then
 if s13 < (↑b23.length : Int) then
 (nth b23 s13.toNat).bind fun y =>
 bif decide (s12 < y.2.1) then some false
 else
 VG n s0 s7 s10 s12 (IntKind.i64.wrap (s13 + (1 : Int))) b13_0 b13_1 b13_2 b13_3 b13_4 b13_5 b13_6
 b13_7 b13_8 b13_9 b13_10 b13_11 b13_12 b13_13 b13_14 b13_15 b13_16 b13_17 b13_18 b13_19 b13_20 b14_0 b14_1
 b14_2 b14_3 b14_4 b14_5 b14_6 b14_7 b14_8 b14_9 b14_10 b14_11 b14_12 b21_0 b21_1 b21_2 b21_3 b21_4 b21_5
 b21_6 b21_7 b21_8 b21_9 b21_10 b21_11 b21_12 b21_13 b21_14 b21_15 b21_16 b21_17 b21_18 b21_19 b21_20 b22_0
 b22_1 b22_2 b22_3 b22_4 b22_5 b22_6 b22_7 b22_8 b22_9 b22_10 b22_11 b22_12 b23
 else none
 else none
 else
 (Zcj big s0).bind fun y =>
 (UG big y.2.1 (4 : Int)).bind fun y_1 =>
 bif s7 == s10 then
 (Zcv big
 (b13_0, b13_1, (b13_2, b13_3, b13_4, b13_5, ()), (b13_6, b13_7, b13_8, b13_9, ()),
 (b13_10, b13_11, b13_12, b13_13, ()), b13_14, b13_15, b13_16, b13_17, b13_18, b13_19, b13_20, ())
 (b21_0, b21_1, (b21_2, b21_3, b21_4, b21_5, ()), (b21_6, b21_7, b21_8, b21_9, ()),
 (b21_10, b21_11, b21_12, b21_13, ()), b21_14, b21_15, b21_16, b21_17, b21_18, b21_19, b21_20,
 ())).bind
 fun y_2 =>
 bif y_2 then
 bif
 eqD ZD
 (b14_0, b14_1, b14_2, b14_3, b14_4, (b14_5, b14_6, b14_7, b14_8, ()),
 (b14_9, b14_10, b14_11, b14_12, ()), ())
 (b22_0, b22_1, b22_2, b22_3, b22_4, (b22_5, b22_6, b22_7, b22_8, ()),
 (b22_9, b22_10, b22_11, b22_12, ()), ()) then
 bif y_1.2.2.1 then
 bif decide (y_1.1.2.1 = IntKind.i64.wrap (y.2.1.2.1 + (1 : Int))) then
 bif decide (y_1.2.1.1 = (4 : Int)) then
 (YA big y_1.1.2.1 (4 : Int)).bind fun y_3 =>
 bif decide (y_1.2.1.2.2.1 = y_3) then
 bif eqD X3 y_1.2.1.2.2.2.2.2.1 y.2.1.2.2.1 then
 bif
 decide
 ((↑(List.length y_1.1.2.2.2.2.2.2.2.2.2.1) : Int) =
 (0 : Int)) then
 bif eqD ZV y_1.1.2.2.2.2.1 y.2.1.2.2.2.2.1 then
 (XS big b23).bind fun y => some (decide (s12 = y))
 else some false
 else some false
 else some false
 else some false
 else some false
 else some false
 else some false
 else some false
 else some false
 else some false := by kernel_rfl
end Go.Sx.Tryz
