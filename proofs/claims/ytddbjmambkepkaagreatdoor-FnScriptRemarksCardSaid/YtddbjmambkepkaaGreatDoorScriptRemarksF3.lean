/- The functions of the seat: what each comes to. -/
import Derived.Test.YtddbjmambkepkaaGreatDoorTypes
import Derived.Test.YtddbjmambkepkaaGreatDoorScriptRemarksF1
import Derived.Test.YtddbjmambkepkaaGreatDoorScriptRemarksF2
set_option linter.unusedVariables false
set_option linter.unusedSimpArgs false
set_option maxRecDepth 100000
namespace Go.Sx.Tryz
open Go Go.Sx Go.Proofs
open Go.IntKind renaming i64 → K6
noncomputable section
def shI : Sh Res := ⟨id, some, fun r x h => by cases h; exact Zmz.of_eq rfl⟩
def ZeO (n : Nat) (args : List SV) : Option Res := bif Ag args [] then evX (false, false, []) [] [] [none] Tryz.f143 shI n args else none
def ZnY (v3 v4 v5 v6 v7 : Value) (x : Zi) : SV := .mr [.val Zk x.1, .val ZA x.2.1, .val Zk x.2.2.1, .vl v3 Zj x.2.2.2.1, .vl v4 XL x.2.2.2.2.1, .vl v5 ZN x.2.2.2.2.2.1, .vl v6 Z4 x.2.2.2.2.2.2.1, .vl v7 YA x.2.2.2.2.2.2.2.1]
abbrev cX (v3 v4 v6 v7 : Value) (e : SV) (x : Zi) : List SV := [.val Zk x.1, .val ZA x.2.1, .val Zk x.2.2.1, .vl v3 Zj x.2.2.2.1, .vl v4 XL x.2.2.2.2.1, e, .vl v6 Z4 x.2.2.2.2.2.2.1, .vl v7 YA x.2.2.2.2.2.2.2.1]
theorem Zj6 (v3 v4 v5 v6 v7 : Value) (x : Zi) (l : Yh) (n : Nat) : ZeO n [ZnY v3 v4 v5 v6 v7 x, .val ZN l] =
  bif decide ((60 : Int) < K6.wrap ((↑(List.length x.2.2.2.2.2.1) : Int) + (↑(List.length l) : Int))) then some (.val .bool false, [cX v3 v4 v6 v7 (.vl v5 ZN x.2.2.2.2.2.1) x])
  else if 0 + List.length x.2.2.2.2.2.1 ≤ lim then if List.length x.2.2.2.2.2.1 + List.length l ≤ lim then some (.val .bool true, [cX v3 v4 v6 v7 (.fr ZJ (List.append x.2.2.2.2.2.1 l)) x]) else none else none := by kernel_rfl
def unV (t : Ty) (l : List SV) : Option (t.den × List SV) := match l with
 | .val s x :: r => (match toS s t x with | some y => some (y, r) | none => none)
 | _ => none
def unX (t : Ty) (l : List SV) : Option (Value × t.den × List SV) := match l with
 | .vl c s x :: r => (match toS s t x with | some y => some (c, y, r) | none => none)
 | _ => none
theorem ZlF {t : Ty} {l : List SV} {x : t.den} {r : List SV} (h : unV t l = some (x, r)) : l = .val t x :: r := by
 unfold unV at h
 split at h
 ·split at h
  ·rename_i hy
   cases h
   obtain ⟨e, h2⟩ := Ez hy
   subst e; subst h2
   rfl
  ·cases h
 ·cases h
theorem Zgz {t : Ty} {l : List SV} {c : Value} {x : t.den} {r : List SV} (h : unX t l = some (c, x, r)) : l = .vl c t x :: r := by
 unfold unX at h
 split at h
 ·split at h
  ·rename_i hy
   cases h
   obtain ⟨e, h2⟩ := Ez hy
   subst e; subst h2
   rfl
  ·cases h
 ·cases h
abbrev XD : Type := (Value × Value × Value × Value × Value) × Zi × Yh
def ZrS (l0 : List SV) : Option ((Value × Value × Value × Value × Value) × Zi) :=
 (unV Zk l0).bind fun q1 => (unV ZA q1.2).bind fun q2 => (unV Zk q2.2).bind fun q3 => (unX Zj q3.2).bind fun q4 => (unX XL q4.2.2).bind fun q5 => (unX ZN q5.2.2).bind fun q6 =>
  (unX Z4 q6.2.2).bind fun q7 => (unX YA q7.2.2).bind fun q8 => match q8.2.2 with
  | [] => some ((q4.1, q5.1, q6.1, q7.1, q8.1), (q1.1, q2.1, q3.1, q4.2.1, q5.2.1, q6.2.1, q7.2.1, q8.2.1, ()))
  | _ :: _ => none
def ZrT (args : List SV) : Option XD := match args with
 | [.mr l0, .val t9 l] => (ZrS l0).bind fun q => (toS t9 ZN l).bind fun y => some (q.1, q.2, y)
 | _ => none
theorem ZoO {l0 : List SV} {q : (Value × Value × Value × Value × Value) × Zi} (h : ZrS l0 = some q) : SV.mr l0 = ZnY q.1.1 q.1.2.1 q.1.2.2.1 q.1.2.2.2.1 q.1.2.2.2.2 q.2 := by
 unfold ZrS at h
 obtain ⟨q1, h1, h⟩ := Option.bind_eq_some_iff.1 h
 obtain ⟨q2, h2, h⟩ := Option.bind_eq_some_iff.1 h
 obtain ⟨q3, h3, h⟩ := Option.bind_eq_some_iff.1 h
 obtain ⟨q4, h4, h⟩ := Option.bind_eq_some_iff.1 h
 obtain ⟨q5, h5, h⟩ := Option.bind_eq_some_iff.1 h
 obtain ⟨q6, h6, h⟩ := Option.bind_eq_some_iff.1 h
 obtain ⟨q7, h7, h⟩ := Option.bind_eq_some_iff.1 h
 obtain ⟨q8, h8, h⟩ := Option.bind_eq_some_iff.1 h
 split at h
 ·rename_i h9
  simp only [Option.some.injEq] at h
  subst h
  have e8 := Zgz h8
  rw [h9] at e8
  rw [ZlF h1, ZlF h2, ZlF h3, Zgz h4, Zgz h5, Zgz h6, Zgz h7, e8]
  rfl
 ·cases h
theorem ZoP {args : List SV} {q : XD} (h : ZrT args = some q) : args = [ZnY q.1.1 q.1.2.1 q.1.2.2.1 q.1.2.2.2.1 q.1.2.2.2.2 q.2.1, .val ZN q.2.2] := by
 unfold ZrT at h
 split at h
 ·obtain ⟨q1, h1, h⟩ := Option.bind_eq_some_iff.1 h
  obtain ⟨y, h2, h⟩ := Option.bind_eq_some_iff.1 h
  simp only [Option.some.injEq] at h
  subst h
  obtain ⟨e, h3⟩ := Ez h2
  subst e; subst h3
  rw [ZoO h1]
 ·cases h
def ZrU {R : Type} (q : XD) (K : SV → List (List SV) → Option R) : Option R :=
 bif decide ((60 : Int) < K6.wrap ((↑(List.length q.2.1.2.2.2.2.2.1) : Int) + (↑(List.length q.2.2) : Int))) then K (.val .bool false) [cX q.1.1 q.1.2.1 q.1.2.2.2.1 q.1.2.2.2.2 (.vl q.1.2.2.1 ZN q.2.1.2.2.2.2.2.1) q.2.1]
 else if 0 + List.length q.2.1.2.2.2.2.2.1 ≤ lim then if List.length q.2.1.2.2.2.2.2.1 + List.length q.2.2 ≤ lim then K (.val .bool true) [cX q.1.1 q.1.2.1 q.1.2.2.2.1 q.1.2.2.2.2 (.fr ZJ (List.append q.2.1.2.2.2.2.2.1 q.2.2)) q.2.1] else none else none
def S8 : Con := ⟨[.mref, .ro ZN], fun _ args K => (ZrT args).bind fun q => ZrU q K, false⟩
theorem ZlG (n : Nat) (args : List SV) (r0 : Res) (hb : Ag args [] = true) (h1 : evX (false, false, []) [] [] [none] Tryz.f143 shI n args = some r0) : Jl Tryz.prog 143 args (shI.sh r0).1 (shI.sh r0).2 :=
 Zf8 H6 (by kernel_rfl) rfl (by kernel_rfl) hb n h1
theorem Zj7 (args : List SV) (r0 : Res) (h1 : ZeO big args = some r0) : Jl Tryz.prog 143 args r0.1 r0.2 := by
 unfold ZeO at h1
 cases hb : Ag args [] with
 | false => rw [hb] at h1; cases h1
 | true =>
  rw [hb, cond_true] at h1
  exact ZlG big args r0 hb h1
theorem Zj8 {R : Type} {P : SV → List (List SV) → Prop} {o : Option Res} (fin : ∀ r0 : Res, o = some r0 → P r0.1 r0.2) {c1 : Bool} {c2 c3 : Prop} [Decidable c2] [Decidable c3] {a b : SV} {x y : List (List SV)}
  (hp : o = bif c1 then some (a, x) else if c2 then if c3 then some (b, y) else none else none) {K : SV → List (List SV) → Option R} {r : R} (h : (bif c1 then K a x else if c2 then if c3 then K b y else none else none) = some r) : ∃ sv outs, P sv outs ∧ K sv outs = some r := by
 cases c1 with
 | true => exact ⟨a, x, fin (a, x) hp, h⟩
 | false =>
  simp only [cond_false] at h hp
  split at h
  ·rename_i g1
   rw [if_pos g1] at hp
   split at h
   ·rename_i g2
    rw [if_pos g2] at hp
    exact ⟨b, y, fin (b, y) hp, h⟩
   ·cases h
  ·cases h
theorem ZlH {R : Type} {c1 : Bool} {c2 c3 : Prop} [Decidable c2] [Decidable c3] {a b : SV} {x y : List (List SV)} {K K' : SV → List (List SV) → Option R} {r : R} (hk : ∀ sv outs, K sv outs = some r → K' sv outs = some r)
  (h : (bif c1 then K a x else if c2 then if c3 then K b y else none else none) = some r) : (bif c1 then K' a x else if c2 then if c3 then K' b y else none else none) = some r := by
 cases c1 with
 | true => exact hk _ _ h
 | false =>
  simp only [cond_false] at h ⊢
  split at h
  ·split at h
   ·rename_i g1 g2; rw [if_pos g1, if_pos g2]; exact hk _ _ h
   ·cases h
  ·cases h
theorem ZgA : KW Tryz.prog 143 S8 := by
 refine ⟨⟨Tryz.f143, by kernel_rfl, rfl, by decide⟩, fun R args K r he => ?_, fun R args K K' r hk he => ?_⟩
 ·obtain ⟨q, h1, h2⟩ := Option.bind_eq_some_iff.1 he
  have hp := Zj6 q.1.1 q.1.2.1 q.1.2.2.1 q.1.2.2.2.1 q.1.2.2.2.2 q.2.1 q.2.2 big
  rw [← ZoP h1] at hp
  have fin := fun r0 => Zj7 args r0
  generalize ZeO big args = o at hp fin
  exact Zj8 fin hp h2
 ·obtain ⟨q, h1, h2⟩ := Option.bind_eq_some_iff.1 he
  exact Option.bind_eq_some_iff.2 ⟨q, h1, ZlH hk h2⟩
def ZeP (n : Nat) (v3 v4 v5 v6 v7 : Value) (x : Zi) (k : Int) : Option Res := evX (false, false, []) [(37, H8), (143, S8)] [] [none] Tryz.f99 shI n [ZnY v3 v4 v5 v6 v7 x, .val Zk k]
abbrev twL (x : Zi) (k : Int) : List Zo := List.take ((K6.wrap (k + 1)).toNat - k.toNat) (List.drop k.toNat x.2.2.2.2.2.1)
theorem Zic (v3 v4 v5 v6 v7 : Value) (x : Zi) (k : Int) (n : Nat) : ZeP n v3 v4 v5 v6 v7 x k =
  (ZB big k 0 (K6.wrap ((↑(List.length x.2.2.2.2.2.1) : Int) - 1))).bind fun y => bif !y then some (.val .bool false, [cX v3 v4 v6 v7 (.vl v5 ZN x.2.2.2.2.2.1) x]) else
  if 0 ≤ K6.wrap (k + 1) then if K6.wrap (k + 1) ≤ (↑(List.length x.2.2.2.2.2.1) : Int) then if 0 ≤ k then if k ≤ K6.wrap (k + 1) then
  bif decide ((60 : Int) < K6.wrap ((↑(List.length x.2.2.2.2.2.1) : Int) + (↑(List.length (twL x k)) : Int))) then some (.val .bool false, [cX v3 v4 v6 v7 (.vl v5 ZN x.2.2.2.2.2.1) x])
  else if 0 + List.length x.2.2.2.2.2.1 ≤ lim then if List.length x.2.2.2.2.2.1 + List.length (twL x k) ≤ lim then some (.val .bool true, [cX v3 v4 v6 v7 (.fr ZJ (List.append x.2.2.2.2.2.1 (twL x k))) x]) else none else none
  else none else none else none else none := by kernel_rfl
theorem Xy {im : Nat → Prop} {w : World} {x : SV} {l : List SV} {cs : List Value} {S : List Nat} (h : CVL im w (x :: l) cs S []) : ∃ c r S1 S2, cs = c :: r ∧ S = S1 ++ S2 ∧ CV im w x c S1 [] ∧ CVL im w l r S2 [] := by
 simp only [CVL] at h
 obtain ⟨c, r, S1, S2, B1, B2, h1, h2, h3, h4, h5⟩ := h
 obtain ⟨rfl, rfl⟩ := List.append_eq_nil_iff.1 h3.symm
 exact ⟨c, r, S1, S2, h1, h2, h4, h5⟩
theorem ZlI {im : Nat → Prop} {w : World} {cs : List Value} {S : List Nat} (h : CVL im w [] cs S []) : cs = [] ∧ S = [] := by
 simp only [CVL] at h; exact ⟨h.1, h.2.1⟩
theorem US {im : Nat → Prop} {w : World} {x : SV} {l : List SV} {c : Value} {r : List Value} {S1 S2 : List Nat} (h4 : CV im w x c S1 []) (h5 : CVL im w l r S2 []) : CVL im w (x :: l) (c :: r) (S1 ++ S2) [] := by
 simp only [CVL]; exact ⟨c, r, S1, S2, [], [], rfl, rfl, rfl, h4, h5⟩
theorem ZlJ {im : Nat → Prop} {w : World} : CVL im w [] [] [] [] := by simp [CVL]
theorem ZgB {im : Nat → Prop} {w : World} {n : Int} {c : Value} {S : List Nat} {B : List LC} (h : CV im w (.val Zk n) c S B) : S = [] ∧ B = [] ∧ ∀ (im' : Nat → Prop) (w' : World), CV im' w' (.val Zk n) c [] [] := by
 simp only [CV] at h
 obtain ⟨rfl, rfl, cs, h1, rfl⟩ := h
 exact ⟨rfl, rfl, fun im' w' => by simp only [CV]; exact ⟨trivial, trivial, cs, h1, rfl⟩⟩
theorem Zid {im : Nat → Prop} {w : World} {n : Bool} {c : Value} {S : List Nat} {B : List LC} (h : CV im w (.val ZA n) c S B) : S = [] ∧ B = [] ∧ ∀ (im' : Nat → Prop) (w' : World), CV im' w' (.val ZA n) c [] [] := by
 simp only [CV] at h
 obtain ⟨rfl, rfl, cs, h1, rfl⟩ := h
 exact ⟨rfl, rfl, fun im' w' => by simp only [CV]; exact ⟨trivial, trivial, cs, h1, rfl⟩⟩
theorem Zj9 {im : Nat → Prop} {w : World} {t : Ty} {y : List t.den} {c : Value} {S : List Nat} (h : CV im w (.fr t y) c S []) : 0 < t.size ∧ TR im w true (.sl true t) y [c] S := by
 simp only [CV] at h; exact h.2
theorem ZlK {im : Nat → Prop} {w : World} {t : Ty} {y : t.den} {c c0 : Value} {S : List Nat} (h : CV im w (.vl c0 t y) c S []) : S = [] ∧ c = c0 := by
 simp only [CV] at h; exact ⟨h.1, h.2.2.1⟩
theorem vlB {p p2 : Nat → Prop} {w : World} {S : List Nat} {c : Value} {y : List ZL} (h1 : ∀ k, p k → p2 k) (h2 : ∀ k ∈ S, p2 k) (h : TR p w true (.sl true Vn) y [c] S) : CV p2 w (.vl c Zj y) c [] [] := by
 simp only [CV]
 exact ⟨trivial, trivial, trivial, [c], TR.weak h1 (.sl true Vn) y [c] S true h2 h, rfl⟩
theorem vlP {p p2 : Nat → Prop} {w : World} {S : List Nat} {c : Value} {y : List Zw} (h1 : ∀ k, p k → p2 k) (h2 : ∀ k ∈ S, p2 k) (h : TR p w true (.sl true ZQ) y [c] S) : CV p2 w (.vl c XL y) c [] [] := by
 simp only [CV]
 exact ⟨trivial, trivial, trivial, [c], TR.weak h1 (.sl true ZQ) y [c] S true h2 h, rfl⟩
theorem vlL {p p2 : Nat → Prop} {w : World} {S : List Nat} {c : Value} {y : List Zo} (h1 : ∀ k, p k → p2 k) (h2 : ∀ k ∈ S, p2 k) (h : TR p w true (.sl true ZJ) y [c] S) : CV p2 w (.vl c ZN y) c [] [] := by
 simp only [CV]
 exact ⟨trivial, trivial, trivial, [c], TR.weak h1 (.sl true ZJ) y [c] S true h2 h, rfl⟩
theorem vlV {p p2 : Nat → Prop} {w : World} {S : List Nat} {c : Value} {y : List Z3} (h1 : ∀ k, p k → p2 k) (h2 : ∀ k ∈ S, p2 k) (h : TR p w true (.sl true Z8) y [c] S) : CV p2 w (.vl c Z4 y) c [] [] := by
 simp only [CV]
 exact ⟨trivial, trivial, trivial, [c], TR.weak h1 (.sl true Z8) y [c] S true h2 h, rfl⟩
theorem vlC {p p2 : Nat → Prop} {w : World} {S : List Nat} {c : Value} {y : List VX} (h1 : ∀ k, p k → p2 k) (h2 : ∀ k ∈ S, p2 k) (h : TR p w true (.sl true W1) y [c] S) : CV p2 w (.vl c YA y) c [] [] := by
 simp only [CV]
 exact ⟨trivial, trivial, trivial, [c], TR.weak h1 (.sl true W1) y [c] S true h2 h, rfl⟩
abbrev muC (x : Zi) (l : List Zo) : List SV := [.val Zk x.1, .val ZA x.2.1, .val Zk x.2.2.1, .fr Vn x.2.2.2.1, .fr ZQ x.2.2.2.2.1, .fr ZJ l, .fr Z8 x.2.2.2.2.2.2.1, .fr W1 x.2.2.2.2.2.2.2.1]
def ZrV (v5 : Value) (x : Zi) : Option (List Zo) → SV
 | none => .vl v5 ZN x.2.2.2.2.2.1
 | some y => .fr ZJ y
set_option maxHeartbeats 4000000 in
theorem ZoQ (x : Zi) (k : Int) (b : Bool) (o : Option (List Zo))
  (h : ∀ v3 v4 v5 v6 v7, Jl Tryz.prog 99 [ZnY v3 v4 v5 v6 v7 x, .val Zk k] (.val .bool b) [cX v3 v4 v6 v7 (ZrV v5 x o) x]) :
  Jl Tryz.prog 99 [.mr (muC x x.2.2.2.2.2.1), .val Zk k] (.val .bool b) [muC x (o.getD x.2.2.2.2.2.1)] := by
 intro p w cargs S B hcv hnd hS hp hnt
 simp only [CVL] at hcv
 obtain ⟨c, r, S0, S9, B0, B9, rfl, rfl, rfl, hc, c9, r9, Sa, Sb, Ba, Bb, rfl, rfl, rfl, hk, rfl, rfl, rfl⟩ := hcv
 simp only [CV] at hc
 obtain ⟨blk, cs, e, S', rfl, rfl, rfl, hheap, hcells⟩ := hc
 obtain ⟨rfl, rfl, hk'⟩ := ZgB hk
 obtain ⟨c0, r0, T0, U0, rfl, rfl, h0, hcells⟩ := Xy hcells
 obtain ⟨c1, r1, T1, U1, rfl, rfl, h1, hcells⟩ := Xy hcells
 obtain ⟨c2, r2, T2, U2, rfl, rfl, h2, hcells⟩ := Xy hcells
 obtain ⟨c3, r3, S3, U3, rfl, rfl, h3, hcells⟩ := Xy hcells
 obtain ⟨c4, r4, S4, U4, rfl, rfl, h4, hcells⟩ := Xy hcells
 obtain ⟨c5, r5, S5, U5, rfl, rfl, h5, hcells⟩ := Xy hcells
 obtain ⟨c6, r6, S6, U6, rfl, rfl, h6, hcells⟩ := Xy hcells
 obtain ⟨c7, r7, S7, U7, rfl, rfl, h7, hcells⟩ := Xy hcells
 obtain ⟨rfl, rfl⟩ := ZlI hcells
 obtain ⟨rfl, _, k0⟩ := ZgB h0
 obtain ⟨rfl, _, k1⟩ := Zid h1
 obtain ⟨rfl, _, k2⟩ := ZgB h2
 obtain ⟨p3, t3⟩ := Zj9 h3
 obtain ⟨p4, t4⟩ := Zj9 h4
 obtain ⟨p5, t5⟩ := Zj9 h5
 obtain ⟨p6, t6⟩ := Zj9 h6
 obtain ⟨p7, t7⟩ := Zj9 h7
 simp only [List.nil_append, List.append_nil] at hnd hS ⊢
 -- what the lists are read from
 let p2 : Nat → Prop := fun k => p k ∨ k ∈ S3 ++ (S4 ++ (S5 ++ (S6 ++ S7)))
 obtain ⟨hnb, hnl⟩ := List.nodup_cons.1 hnd
 have lt : ∀ k ∈ S3 ++ (S4 ++ (S5 ++ (S6 ++ S7))), ¬ p k ∧ k < w.heap.size := fun k hk => hS k (List.mem_cons_of_mem _ hk)
 have hb := hS blk (List.mem_cons_self ..)
 have q1 : ∀ k, p k → p2 k := fun k hk => .inl hk
 have q3 : ∀ k ∈ S3, p2 k := fun k hk => .inr (by simp [hk])
 have q4 : ∀ k ∈ S4, p2 k := fun k hk => .inr (by simp [hk])
 have q5 : ∀ k ∈ S5, p2 k := fun k hk => .inr (by simp [hk])
 have q6 : ∀ k ∈ S6, p2 k := fun k hk => .inr (by simp [hk])
 have q7 : ∀ k ∈ S7, p2 k := fun k hk => .inr (by simp [hk])
 have hX : CVL p2 w [ZnY c3 c4 c5 c6 c7 x, .val Zk k] [.pointer (some ⟨blk, 0, none⟩), c9] [blk] [.box blk] := by
  simp only [CVL]
  refine ⟨_, _, [blk], [], [.box blk], [], rfl, rfl, rfl, ?_, _, _, [], [], [], [], rfl, rfl, rfl, hk' p2 w, rfl, rfl, rfl⟩
  unfold ZnY
  simp only [CV]
  refine ⟨blk, _, e, [], rfl, rfl, rfl, hheap, ?_⟩
  exact US (S1 := []) (k0 p2 w) (US (S1 := []) (k1 p2 w) (US (S1 := []) (k2 p2 w) (US (S1 := []) (vlB q1 q3 t3) (US (S1 := []) (vlP q1 q4 t4) (US (S1 := []) (vlL q1 q5 t5) (US (S1 := []) (vlV q1 q6 t6) (US (S1 := []) (vlC q1 q7 t7) ZlJ)))))))
 refine (h c3 c4 c5 c6 c7 p2 w _ [blk] [.box blk] hX (by simp) (fun k hk => ?_) (fun k hk => ?_) (fun t ht => ⟨q1 _ (hnt t ht).1, (hnt t ht).2⟩)).mono ?_
 ·simp only [List.mem_singleton] at hk
  subst hk
  exact ⟨fun hc => hc.elim hb.1 hnb, hb.2⟩
 ·rcases hk with hk | hk
  ·exact hp k hk
  ·exact (lt k hk).2
 rintro e' w' ⟨cr, S1, S2, he, hnd2, hrg, hkept, hcr, houts⟩
 obtain ⟨rfl, _, kb⟩ := Zid hcr
 simp only [UO] at houts
 obtain ⟨cells, e2, V1, V2, rfl, hheap', hc', rfl⟩ := houts
 simp only [List.nil_append, List.append_nil] at hnd2 hrg hc'
 obtain ⟨d0, r0, T0, U0, rfl, rfl, g0, hc'⟩ := Xy hc'
 obtain ⟨d1, r1, T1, U1, rfl, rfl, g1, hc'⟩ := Xy hc'
 obtain ⟨d2, r2, T2, U2, rfl, rfl, g2, hc'⟩ := Xy hc'
 obtain ⟨d3, r3, T3, U3, rfl, rfl, g3, hc'⟩ := Xy hc'
 obtain ⟨d4, r4, T4, U4, rfl, rfl, g4, hc'⟩ := Xy hc'
 obtain ⟨d5, r5, T5, U5, rfl, rfl, g5, hc'⟩ := Xy hc'
 obtain ⟨d6, r6, T6, U6, rfl, rfl, g6, hc'⟩ := Xy hc'
 obtain ⟨d7, r7, T7, U7, rfl, rfl, g7, hc'⟩ := Xy hc'
 obtain ⟨rfl, rfl⟩ := ZlI hc'
 obtain ⟨rfl, _, k0⟩ := ZgB g0
 obtain ⟨rfl, _, k1⟩ := Zid g1
 obtain ⟨rfl, _, k2⟩ := ZgB g2
 obtain ⟨rfl, rfl⟩ := ZlK g3
 obtain ⟨rfl, rfl⟩ := ZlK g4
 obtain ⟨rfl, rfl⟩ := ZlK g6
 obtain ⟨rfl, rfl⟩ := ZlK g7
 simp only [List.nil_append, List.append_nil] at hnd2 hrg
 obtain ⟨hn5, hnd5⟩ := List.nodup_cons.1 hnd2
 -- the letters' blocks behind the call
 have hT5 : ∀ k ∈ T5, w.heap.size ≤ k := fun k hk => by
  rcases (hrg k (List.mem_cons_of_mem _ hk)).1 with e | e
  ·simp only [List.mem_singleton] at e; subst e; exact absurd hk hn5
  ·exact e
 have same : ∀ k, k < w.heap.size → k ≠ blk → w'.heap[k]? = w.heap[k]? := fun k hk hne => hkept.same k hk (by simpa using hne)
 obtain ⟨S5', hS5, h5'⟩ : ∃ S5' : List Nat, (S5' = S5 ∨ S5' = T5) ∧ ∀ im' : Nat → Prop, (∀ b, p b → im' b) → CV im' w' (.fr ZJ (o.getD x.2.2.2.2.2.1)) d5 S5' [] := by
  cases o with
  | none =>
   obtain ⟨rfl, rfl⟩ := ZlK (show CV _ w' (.vl c5 ZN x.2.2.2.2.2.1) d5 T5 [] from g5)
   refine ⟨S5, .inl rfl, fun im' hi => ?_⟩
   simp only [CV, Option.getD]
   refine ⟨trivial, p5, t5.mono (fun b hb2 => ⟨hi b hb2, same b (hp b hb2) (fun e => hb.1 (e ▸ hb2))⟩) _ _ _ _ _ (fun b hb2 => same b (lt b (by simp [hb2])).2 (fun e => hnb (e ▸ by simp [hb2])))⟩
  | some y =>
   obtain ⟨q, tq⟩ := Zj9 (show CV _ w' (.fr ZJ y) d5 T5 [] from g5)
   refine ⟨T5, .inr rfl, fun im' _ => ?_⟩
   simp only [CV, Option.getD]
   exact ⟨trivial, q, tq.noRo rfl⟩
 have m5 : ∀ k ∈ S5', (k ∈ S5 ∨ w.heap.size ≤ k) ∧ k < w'.heap.size ∧ k ≠ blk := fun k hk => by
  rcases hS5 with e | e
  ·subst e
   have := (lt k (by simp [hk])).2
   exact ⟨.inl hk, by have := hkept.size; omega, fun e => hnb (e ▸ by simp [hk])⟩
  ·subst e
   exact ⟨.inr (hT5 k hk), (hrg k (List.mem_cons_of_mem _ hk)).2, fun e => hn5 (e ▸ hk)⟩
 have n5 : S5'.Nodup := by
  rcases hS5 with e | e
  ·subst e
   exact (List.nodup_append.1 (List.nodup_append.1 (List.nodup_append.1 hnl).2.1).2.1).1
  ·subst e; exact hnd5
 obtain ⟨a3, ar3, ad3⟩ := List.nodup_append.1 hnl
 obtain ⟨a4, ar4, ad4⟩ := List.nodup_append.1 ar3
 obtain ⟨a5, ar5, ad5⟩ := List.nodup_append.1 ar4
 have d5 : ∀ a ∈ S5', ∀ b ∈ S6 ++ S7, a ≠ b := fun a ha b hb2 => by
  rcases (m5 a ha).1 with q | q
  ·exact ad5 a q b hb2
  ·have := (lt b (List.mem_append.2 (.inr (List.mem_append.2 (.inr (List.mem_append.2 (.inr hb2))))))).2
   omega
 have d4 : ∀ a ∈ S4, ∀ b ∈ S5' ++ (S6 ++ S7), a ≠ b := fun a ha b hb2 => by
  rcases List.mem_append.1 hb2 with hb2 | hb2
  ·rcases (m5 b hb2).1 with q | q
   ·exact ad4 a ha b (List.mem_append.2 (.inl q))
   ·have := (lt a (by simp [ha])).2
    omega
  ·exact ad4 a ha b (List.mem_append.2 (.inr hb2))
 have d3 : ∀ a ∈ S3, ∀ b ∈ S4 ++ (S5' ++ (S6 ++ S7)), a ≠ b := fun a ha b hb2 => by
  rcases List.mem_append.1 hb2 with hb2 | hb2
  ·exact ad3 a ha b (List.mem_append.2 (.inl hb2))
  ·rcases List.mem_append.1 hb2 with hb2 | hb2
   ·rcases (m5 b hb2).1 with q | q
    ·exact ad3 a ha b (List.mem_append.2 (.inr (List.mem_append.2 (.inl q))))
    ·have := (lt a (by simp [ha])).2
     omega
   ·exact ad3 a ha b (List.mem_append.2 (.inr (List.mem_append.2 (.inr hb2))))
 have old : ∀ k, (k ∈ S3 ∨ k ∈ S4 ∨ k ∈ S6 ∨ k ∈ S7) → k ∈ S3 ++ (S4 ++ (S5 ++ (S6 ++ S7))) := fun k hk => by
  simp only [List.mem_append]
  rcases hk with q | q | q | q
  ·exact .inl q
  ·exact .inr (.inl q)
  ·exact .inr (.inr (.inr (.inl q)))
  ·exact .inr (.inr (.inr (.inr q)))
 have split : ∀ k, k ∈ S3 ++ (S4 ++ (S5' ++ (S6 ++ S7))) → k ∈ S5' ∨ (k ∈ S3 ∨ k ∈ S4 ∨ k ∈ S6 ∨ k ∈ S7) := fun k hk => by
  simp only [List.mem_append] at hk
  rcases hk with q | q | q | q | q
  ·exact .inr (.inl q)
  ·exact .inr (.inr (.inl q))
  ·exact .inl q
  ·exact .inr (.inr (.inr (.inl q)))
  ·exact .inr (.inr (.inr (.inr q)))
 have hnb' : blk ∉ S3 ++ (S4 ++ (S5' ++ (S6 ++ S7))) := fun hm => by
  rcases split blk hm with q | q
  ·exact (m5 blk q).2.2 rfl
  ·exact hnb (old blk q)
 have hsz := hkept.size
 have hi : ∀ b, p b → after p (blk :: (S3 ++ (S4 ++ (S5 ++ (S6 ++ S7))))) ([] ++ blk :: (S3 ++ (S4 ++ (S5' ++ (S6 ++ S7))))) w w' b := fun b hb2 => by
  have hlt := hp b hb2
  refine ⟨.inl hb2, by omega, fun hm => ?_⟩
  rcases List.mem_cons.1 hm with q | q
  ·exact hb.1 (q ▸ hb2)
  ·rcases split b q with q | q
   ·rcases (m5 b q).1 with q | q
    ·exact (lt b (by simp [q])).1 hb2
    ·omega
   ·exact (lt b (old b q)).1 hb2
 have keep : ∀ {t : Ty} {y : List t.den} {c : Value} {S : List Nat}, 0 < t.size → (∀ k ∈ S, k ∈ S3 ++ (S4 ++ (S5 ++ (S6 ++ S7)))) → TR p w true (.sl true t) y [c] S →
   CV (after p (blk :: (S3 ++ (S4 ++ (S5 ++ (S6 ++ S7))))) ([] ++ blk :: (S3 ++ (S4 ++ (S5' ++ (S6 ++ S7))))) w w') w' (.fr t y) c S [] := by
  intro t y c S hq hs ht
  simp only [CV]
  exact ⟨trivial, hq, ht.mono (fun b hb2 => ⟨hi b hb2, same b (hp b hb2) (fun e => hb.1 (e ▸ hb2))⟩) _ _ _ _ _ (fun b hb2 => same b (lt b (hs b hb2)).2 (fun e => hnb (e ▸ hs b hb2)))⟩
 refine ⟨cr, [], blk :: (S3 ++ (S4 ++ (S5' ++ (S6 ++ S7)))), he, ?_, fun k hk => ?_, ⟨hsz, fun k hk hn => hkept.same k hk (fun hm => hn (by simp only [List.mem_singleton] at hm; simp [hm])), hkept.frz⟩, kb _ _, ?_⟩
 ·exact List.nodup_cons.2 ⟨hnb', List.nodup_append.2 ⟨a3, List.nodup_append.2 ⟨a4, List.nodup_append.2 ⟨n5, ar5, d5⟩, d4⟩, d3⟩⟩
 ·rcases List.mem_cons.1 (show k ∈ blk :: (S3 ++ (S4 ++ (S5' ++ (S6 ++ S7)))) from hk) with q | q
  ·subst q
   exact ⟨.inl (List.mem_cons_self ..), by have := hb.2; omega⟩
  ·rcases split k q with q | q
   ·refine ⟨?_, (m5 k q).2.1⟩
    rcases (m5 k q).1 with q | q
    ·exact .inl (List.mem_cons_of_mem _ (by simp [q]))
    ·exact .inr q
   ·exact ⟨.inl (List.mem_cons_of_mem _ (old k q)), by have := (lt k (old k q)).2; omega⟩
 ·simp only [UO]
  refine ⟨_, e2, S3 ++ (S4 ++ (S5' ++ (S6 ++ S7))), [], by simp, hheap', ?_, rfl⟩
  have hc := US (S1 := []) (k0 (after p (blk :: (S3 ++ (S4 ++ (S5 ++ (S6 ++ S7))))) ([] ++ blk :: (S3 ++ (S4 ++ (S5' ++ (S6 ++ S7))))) w w') w') (US (S1 := []) (k1 _ w') (US (S1 := []) (k2 _ w')
   (US (keep p3 (fun k hk => old k (.inl hk)) t3) (US (keep p4 (fun k hk => old k (.inr (.inl hk))) t4) (US (h5' _ hi)
   (US (keep p6 (fun k hk => old k (.inr (.inr (.inl hk)))) t6) (US (keep p7 (fun k hk => old k (.inr (.inr (.inr hk)))) t7) ZlJ)))))))
  simp only [List.nil_append, List.append_nil] at hc
  simpa only [List.nil_append] using hc
def twF (x : Zi) (k : Int) : Option (Bool × Option (List Zo)) :=
 (ZB big k 0 (K6.wrap ((↑(List.length x.2.2.2.2.2.1) : Int) - 1))).bind fun y => bif !y then some (false, none) else
  if 0 ≤ K6.wrap (k + 1) then if K6.wrap (k + 1) ≤ (↑(List.length x.2.2.2.2.2.1) : Int) then if 0 ≤ k then if k ≤ K6.wrap (k + 1) then
  bif decide ((60 : Int) < K6.wrap ((↑(List.length x.2.2.2.2.2.1) : Int) + (↑(List.length (twL x k)) : Int))) then some (false, none)
  else if 0 + List.length x.2.2.2.2.2.1 ≤ lim then if List.length x.2.2.2.2.2.1 + List.length (twL x k) ≤ lim then some (true, some (List.append x.2.2.2.2.2.1 (twL x k))) else none else none
  else none else none else none else none
theorem ZoR {α β : Type} {g : α → β} (c : Bool) (a : α) (y : Option α) : (bif c then some (g a) else y.map g) = (bif c then some a else y).map g := by cases c <;> rfl
theorem Zqv {α β : Type} {g : α → β} (c : Prop) [Decidable c] (y : Option α) : (if c then y.map g else none) = (if c then y else none).map g := by split <;> rfl
theorem Zqw (v3 v4 v5 v6 v7 : Value) (x : Zi) (k : Int) : ZeP big v3 v4 v5 v6 v7 x k = (twF x k).map fun r => (SV.val .bool r.1, [cX v3 v4 v6 v7 (ZrV v5 x r.2) x]) := by
 rw [Zic]
 unfold twF
 cases ZB big k 0 (K6.wrap ((↑(List.length x.2.2.2.2.2.1) : Int) - 1)) with
 | none => rfl
 | some y =>
  simp only [Option.bind_some]
  cases y with
  | false => rfl
  | true =>
   simp only [Bool.not_true, cond_false, ← Zqv, ← ZoR]
   rfl
theorem ZoS (n : Nat) (args : List SV) (r0 : Res) (hb : Ag args [] = true) (h1 : evX (false, false, []) [(37, H8), (143, S8)] [] [none] Tryz.f99 shI n args = some r0) : Jl Tryz.prog 99 args (shI.sh r0).1 (shI.sh r0).2 :=
 Zf8 (cons_cons Ni (cons_cons ZgA H6)) (by kernel_rfl) rfl (by kernel_rfl) hb n h1
theorem ZoT {x : Zi} {k : Int} {r : Bool × Option (List Zo)} (h : twF x k = some r) (v3 v4 v5 v6 v7 : Value) : Jl Tryz.prog 99 [ZnY v3 v4 v5 v6 v7 x, .val Zk k] (.val .bool r.1) [cX v3 v4 v6 v7 (ZrV v5 x r.2) x] := by
 have h1 := Zqw v3 v4 v5 v6 v7 x k
 rw [h, Option.map_some] at h1
 unfold ZeP at h1
 exact ZoS big _ _ (by kernel_rfl) h1
def Uv (_n : Nat) (x : AP.denL [.mu Zz, .ro Zk]) : Option (Bool × Zi × Unit) :=
 (twF x.1 x.2.1).bind fun r => some (r.1, (x.1.1, x.1.2.1, x.1.2.2.1, x.1.2.2.2.1, x.1.2.2.2.2.1, r.2.getD x.1.2.2.2.2.2.1, x.1.2.2.2.2.2.2.1, x.1.2.2.2.2.2.2.2.1, ()), ())
def N3 : Con := apS [.mu Zz, .ro Zk] true (shO (shV ZA) [.mu Zz]) (Uv big)
theorem Ta : KW Tryz.prog 99 N3 := ZnU ⟨Tryz.f99, by kernel_rfl, rfl, by decide⟩ fun xs v h => by
 obtain ⟨x, k, u⟩ := xs
 cases u
 unfold Uv at h
 obtain ⟨r, h1, h2⟩ := Option.bind_eq_some_iff.1 h
 cases h2
 have h3 := ZoQ x k r.1 r.2 (ZoT h1)
 exact h3
def N4 (n : Nat) (a0 : Zi) (a1 : Int) : Option (Bool × Zi × Unit) := Uv n (a0, a1, ())
def Dh : Yf := (99, N3) :: SZ
theorem Di : Yg Dh := cons_cons Ta ZbG
abbrev N5 : W0 := (.ro Zc :: dp 2 (.own WN :: dp 18 []), [])
def Mv := FX.mk (false, false, []) Dh [(2, N5)] [none] Tryz.f214 (shV Zf)
def Zde : Con := cR Mv [Zk] true
theorem ZeQ : CO 214 Zde := ZI Di
def JM (n : Nat) (a0 : Int) : Option ByteArray := qR Mv [Zk] n (a0, ())
def Ky (n : Nat) (s0 : Int) (s3 : List Int) : Option ByteArray := rR Mv (zs [Zk]) 2 N5 n (s0, s3, ()) ()
theorem ZeR (n : Nat) (a0) : JM n a0 = Ky n a0 [] := by kernel_rfl
theorem QO (n : Nat) (s0 s3) : Ky (n + 1) s0 s3 = bif decide (127 < s0) then if s3.length + [IntKind.u8.wrap (K6.wrap (s0.tmod 128 + 128))].length ≤ lim then Ky n (K6.wrap (s0.tdiv 128)) (s3.append [IntKind.u8.wrap (K6.wrap (s0.tmod 128 + 128))]) else none else if s3.length + [IntKind.u8.wrap s0].length ≤ lim then some (ByteArray.mk (List.map (fun n => UInt8.ofNat n.toNat) (s3.append [IntKind.u8.wrap s0])).toArray) else none := by kernel_rfl
def Mw : Yf := (214, Zde) :: Dh
theorem II : Yg Mw := cons_cons ZeQ Di
def Zdf := FX.mk (false, false, []) Mw [] [none] Tryz.f211 (shV Zf)
def Zdg : Con := cR Zdf [Zk] true
theorem ZeS : CO 211 Zdg := ZI II
def Xd (n : Nat) (a0 : Int) : Option ByteArray := qR Zdf [Zk] n (a0, ())
theorem ZeT (n : Nat) (a0) : Xd n a0 = bif decide (a0 < 0) then some (ByteArray.mk (List.map (fun n => UInt8.ofNat n.toNat) [IntKind.u8.wrap 0]).toArray) else (JM big a0).bind fun y => some y := by kernel_rfl
def Mx : Yf := (211, Zdg) :: Mw
theorem IJ : Yg Mx := cons_cons ZeS II
def Zdh := FX.mk (false, false, [1, 3, 6, 10, 14]) Mx [] [none] Tryz.f212 (shV Zf)
def Zdi : Con := cR Zdh [Qc] true
theorem ZeU : CO 212 Zdi := ZI IJ
def Eg (n : Nat) (a0 : H5) : Option ByteArray := qR Zdh [Qc] n (a0, ())
theorem ZeV (n : Nat) (a0) : Eg n a0 = (Xd big a0.1).bind fun y => (Xd big a0.2.1).bind fun a => if ByteArray.size y + ByteArray.size a ≤ lim then (Xd big a0.2.2.1).bind fun b => if (y ++ a).size + ByteArray.size b ≤ lim then (Xd big a0.2.2.2.1).bind fun c => if (y ++ a ++ b).size + ByteArray.size c ≤ lim then some (y ++ a ++ b ++ c) else none else none else none := by kernel_rfl
def My : Yf := (212, Zdi) :: Mx
theorem IK : Yg My := cons_cons ZeU IJ
def N6 := FX.mk (false, false, [1, 3, 6, 10, 14]) My [] [none] Tryz.f213 (shV Zf)
def N7 : Con := cR N6 [Z8] true
theorem Tb : CO 213 N7 := ZI IK
def Dj (n : Nat) (a0 : Z3) : Option ByteArray := qR N6 [Z8] n (a0, ())
theorem Tc (n : Nat) (a0) : Dj n a0 = (Xd big a0.1).bind fun y => (Xd big a0.2.1).bind fun a => if ByteArray.size y + ByteArray.size a ≤ lim then (Xd big a0.2.2.1).bind fun b => if (y ++ a).size + ByteArray.size b ≤ lim then (Xd big a0.2.2.2.1).bind fun c => if (y ++ a ++ b).size + ByteArray.size c ≤ lim then some (y ++ a ++ b ++ c) else none else none else none := by kernel_rfl
def Dk : Yf := (213, N7) :: My
theorem Dl : Yg Dk := cons_cons Tb IK
abbrev IL : W0 := (.ro Xg :: .ro Zf :: dp 3 (.ro Zc :: dp 27 []), [])
abbrev IM : W0 := (.ro Xg :: .ro Zf :: dp 3 (.ro Zc :: .ro Zc :: dp 26 []), [])
def AE := FX.mk (false, false, []) Dk [(2, IL), (6, IM)] [none] Tryz.f321 (shV Xg)
def Td : Con := cR AE [Xg, Zf] true
theorem ZbH : CO 321 Td := ZI Dl
def Te (n : Nat) (a0 : Int) (a1 : ByteArray) : Option Int := qR AE [Xg, Zf] n (a0, a1, ())
def Vx (n : Nat) (s0 : Int) (s1 : ByteArray) (s5 : Int) : Option Int := rR AE (zs [Xg, Zf]) 2 IL n (s0, s1, s5, ()) ()
def Vy (n : Nat) (s0 : Int) (s1 : ByteArray) (s5 s6 : Int) : Option Int := rR AE (zs [Xg, Zf]) 6 IM n (s0, s1, s5, s6, ()) ()
theorem ZbI (n : Nat) (a0 a1) : Te n a0 a1 = Vx n a0 a1 0 := by kernel_rfl
theorem Bk (n : Nat) (s0 s1 s5) : Vx (n + 1) s0 s1 s5 = bif decide (s5 < (↑s1.size : Int)) then if 0 ≤ s5 then (nth s1.data.toList s5.toNat).bind fun y => Vy n (IntKind.u32.wrap (↑(BitVec.ofInt IntKind.u32.bits s0 ^^^ BitVec.ofInt IntKind.u32.bits (IntKind.u32.wrap (↑y.toNat : Int))).toNat : Int)) s1 s5 0 else none else some s0 := by kernel_rfl
theorem Bl (n : Nat) (s0 s1 s5 s6) : Vy (n + 1) s0 s1 s5 s6 = bif decide (s6 < 8) then bif decide (s0.tmod 2 = 1) then Vy n (IntKind.u32.wrap (↑(BitVec.ofInt IntKind.u32.bits (IntKind.u32.wrap (s0.tdiv 2)) ^^^ BitVec.ofInt IntKind.u32.bits 3558460437).toNat : Int)) s1 s5 (K6.wrap (s6 + 1)) else Vy n (IntKind.u32.wrap (s0.tdiv 2)) s1 s5 (K6.wrap (s6 + 1)) else Vx n s0 s1 (K6.wrap (s5 + 1)) := by kernel_rfl
def GM : Yf := (321, Td) :: Dk
theorem Ff : Yg GM := cons_cons ZbH Dl
def ZgC := FX.mk (false, false, []) GM [] [none] Tryz.f280 (shV Xg)
def ZgD : Con := cR ZgC [Zf] true
theorem ZgE : CO 280 ZgD := ZI Ff
def IN (n : Nat) (a0 : ByteArray) : Option Int := qR ZgC [Zf] n (a0, ())
theorem ZgF (n : Nat) (a0) : IN n a0 = (Te big 4294967295 a0).bind fun y => some y := by kernel_rfl
def Tf : Yf := (280, ZgD) :: GM
theorem N8 : Yg Tf := cons_cons ZgE Ff
def Zie := FX.mk (false, false, []) Tf [] [none] Tryz.f279 (shV Zf)
def Tg : Con := cR Zie [Xg] true
theorem ZbJ : CO 279 Tg := ZI N8
def GN : Yf := (279, Tg) :: Tf
theorem Fg : Yg GN := cons_cons ZbJ N8
def Zdj := FX.mk (false, false, []) GN [] [none, none] Tryz.f215 (shT [(false, Zf), (false, ZA)])
def Zdk : Con := cR Zdj [Zf] true
theorem ZeW : CO 215 Zdk := ZI Fg
def Mz (n : Nat) (a0 : ByteArray) : Option (ByteArray × Bool × Unit) := qR Zdj [Zf] n (a0, ())
theorem ZeX (n : Nat) (a0) : Mz n a0 = bif decide (20000 < (↑a0.size : Int)) then some (ByteArray.mk #[], false, ()) else (IN big a0).bind fun y => if a0.size + (ByteArray.mk (List.map (fun n => UInt8.ofNat n.toNat) [IntKind.u8.wrap (Int.fdiv y (2 ^ min (Int.toNat 24) IntKind.u32.bits)), IntKind.u8.wrap (Int.fdiv y (2 ^ min (Int.toNat 16) IntKind.u32.bits)), IntKind.u8.wrap (Int.fdiv y (2 ^ min (Int.toNat 8) IntKind.u32.bits)), IntKind.u8.wrap y]).toArray).size ≤ lim then some (a0 ++ ByteArray.mk (List.map (fun n => UInt8.ofNat n.toNat) [IntKind.u8.wrap (Int.fdiv y (2 ^ min (Int.toNat 24) IntKind.u32.bits)), IntKind.u8.wrap (Int.fdiv y (2 ^ min (Int.toNat 16) IntKind.u32.bits)), IntKind.u8.wrap (Int.fdiv y (2 ^ min (Int.toNat 8) IntKind.u32.bits)), IntKind.u8.wrap y]).toArray, true, ()) else none := by kernel_rfl
def MA : Yf := (215, Zdk) :: GN
theorem IP : Yg MA := cons_cons ZeW Fg
def N9 := FX.mk (false, false, []) MA [] [none, none] Tryz.f207 (shT [(false, Zf), (false, ZA)])
def Oa : Con := cR N9 [Zf] true
theorem Th : CO 207 Oa := ZI IP
def Dm (n : Nat) (a0 : ByteArray) : Option (ByteArray × Bool × Unit) := qR N9 [Zf] n (a0, ())
theorem Ti (n : Nat) (a0) : Dm n a0 = bif decide (K6.wrap ((↑a0.size : Int) - 4) < 0) then some (ByteArray.mk #[], false, ()) else bif decide (20000 < K6.wrap ((↑a0.size : Int) - 4)) then some (ByteArray.mk #[], false, ()) else if 0 ≤ K6.wrap ((↑a0.size : Int) - 4) then if K6.wrap ((↑a0.size : Int) - 4) ≤ (↑a0.size : Int) then if 0 ≤ K6.wrap ((↑a0.size : Int) - 4) then if K6.wrap ((↑a0.size : Int) - 4) ≤ (↑a0.size : Int) then (IN big (a0.extract (0 : Nat) (K6.wrap ((↑a0.size : Int) - 4)).toNat)).bind fun y => bif !decide (a0.extract (K6.wrap ((↑a0.size : Int) - 4)).toNat a0.size = ByteArray.mk (List.map (fun n => UInt8.ofNat n.toNat) [IntKind.u8.wrap (Int.fdiv y (2 ^ min (Int.toNat 24) IntKind.u32.bits)), IntKind.u8.wrap (Int.fdiv y (2 ^ min (Int.toNat 16) IntKind.u32.bits)), IntKind.u8.wrap (Int.fdiv y (2 ^ min (Int.toNat 8) IntKind.u32.bits)), IntKind.u8.wrap y]).toArray) then some (ByteArray.mk #[], false, ()) else if 0 ≤ K6.wrap ((↑a0.size : Int) - 4) then if K6.wrap ((↑a0.size : Int) - 4) ≤ (↑a0.size : Int) then some (a0.extract (0 : Nat) (K6.wrap ((↑a0.size : Int) - 4)).toNat, true, ()) else none else none else none else none else none else none := by kernel_rfl
def Dn : Yf := (207, Oa) :: MA
theorem Do : Yg Dn := cons_cons Th IP
abbrev Fh : W0 := (.drop :: .is (.ptr 0 0) :: .drop :: .ro Zf :: .ro Zc :: dp 47 [], [.vars (rp 14 Zc [.ro WE, .ro ZO, .ro WE, .ro Wx, .ro Z4, .ro ZN, .ro Zc])])
def Dp := FX.mk (false, false, [1, 7, 10, 14, 18, 22, 26, 32, 39]) Dn [(3, Fh)] [none] Tryz.f150 (shV Zf)
def Ob : Con := cR Dp [Yo] true
theorem Tj : CO 150 Ob := ZI Do
def Uw (n : Nat) (a0 : Zw) : Option ByteArray := qR Dp [Yo] n (a0, ())
def Uh (n : Nat) (s3 : ByteArray) (s4 aa ab ac ad ae af ag ah ai aj ak al am an : Int) (ao : WO) (ap : Z6) (aq : WO) (ar : Qd) (au : Wb) (av : Yh) (aw : Int) : Option ByteArray := rR Dp (zs [Yo]) 3 Fh n (s3, s4, ()) ((aa, ab, ac, ad, ae, af, ag, ah, ai, aj, ak, al, am, an, ao, ap, aq, ar, au, av, aw, ()), ())
theorem Tk (n : Nat) (a0) : Uw n a0 = (Xd big a0.1).bind fun y => (Xd big a0.2.1).bind fun a => if ByteArray.size y + ByteArray.size a ≤ lim then (Eg big a0.2.2.1).bind fun b => if (y ++ a).size + ByteArray.size b ≤ lim then (Eg big a0.2.2.2.1).bind fun c => if (y ++ a ++ b).size + ByteArray.size c ≤ lim then (Dj big a0.2.2.2.2.1).bind fun d => if (y ++ a ++ b ++ c).size + ByteArray.size d ≤ lim then (JM big (↑(List.length a0.2.2.2.2.2.1) : Int)).bind fun e => if (y ++ a ++ b ++ c ++ d).size + ByteArray.size e ≤ lim then Uh n (y ++ a ++ b ++ c ++ d ++ e) 0 a0.1 a0.2.1 a0.2.2.1.1 a0.2.2.1.2.1 a0.2.2.1.2.2.1 a0.2.2.1.2.2.2.1 a0.2.2.2.1.1 a0.2.2.2.1.2.1 a0.2.2.2.1.2.2.1 a0.2.2.2.1.2.2.2.1 a0.2.2.2.2.1.1 a0.2.2.2.2.1.2.1 a0.2.2.2.2.1.2.2.1 a0.2.2.2.2.1.2.2.2.1 a0.2.2.2.2.2.1 a0.2.2.2.2.2.2.1 a0.2.2.2.2.2.2.2.1 a0.2.2.2.2.2.2.2.2.1 a0.2.2.2.2.2.2.2.2.2.1 a0.2.2.2.2.2.2.2.2.2.2.1 a0.2.2.2.2.2.2.2.2.2.2.2.1 else none else none else none else none else none := by kernel_rfl
theorem JN (n : Nat) (s3 s4 aa ab ac ad ae af ag ah ai aj ak al am an ao ap aq ar au av aw) : Uh (n + 1) s3 s4 aa ab ac ad ae af ag ah ai aj ak al am an ao ap aq ar au av aw = bif decide (s4 < (↑(List.length ao) : Int)) then if 0 ≤ s4 then (nth ao s4.toNat).bind fun y => (Xd big y).bind fun y => if s3.size + ByteArray.size y ≤ lim then Uh n (s3 ++ y) (K6.wrap (s4 + 1)) aa ab ac ad ae af ag ah ai aj ak al am an ao ap aq ar au av aw else none else none else (Mz big s3).bind fun y => some y.1 := by kernel_rfl
def Dq : Yf := (150, Ob) :: Dn
theorem Dr : Yg Dq := cons_cons Tj Do
abbrev IQ : W0 := (.ro Zf :: .ro Zc :: dp 5 (.ro Zc :: .ro Zc :: .ro Zc :: dp 48 []), [])
def GO := FX.mk (false, false, []) Dq [(6, IQ)] [none, none, none] Tryz.f281 (shT [(false, Zk), (false, Zk), (false, ZA)])
def Tl : Con := cR GO [Zf, Zk] true
theorem ZbK : CO 281 Tl := ZI Dr
def GP (n : Nat) (a0 : ByteArray) (a1 : Int) : Option (Int × Int × Bool × Unit) := qR GO [Zf, Zk] n (a0, a1, ())
def Qo (n : Nat) (s0 : ByteArray) (s1 s7 s8 s9 : Int) : Option (Int × Int × Bool × Unit) := rR GO (zs [Zf, Zk]) 6 IQ n (s0, s1, s7, s8, s9, ()) ()
theorem ZbL (n : Nat) (a0 a1) : GP n a0 a1 = (ZB big a1 0 (↑a0.size : Int)).bind fun y => bif !y then some (0, 0, false, ()) else Qo n a0 a1 0 1 a1 := by kernel_rfl
theorem Bm (n : Nat) (s0 s1 s7 s8 s9) : Qo (n + 1) s0 s1 s7 s8 s9 = bif decide (s9 < (↑s0.size : Int)) then bif decide (s9 < K6.wrap (s1 + 5)) then if 0 ≤ s9 then (nth s0.data.toList s9.toNat).bind fun y => if 0 ≤ s9 then (nth s0.data.toList s9.toNat).bind fun a => (fun zC0 => bif decide ((↑a.toNat : Int) < 128) then bif decide (1000000000 < K6.wrap zC0) then some (0, 0, false, ()) else if 0 ≤ K6.wrap (s9 + 1) then if K6.wrap (s9 + 1) ≤ (↑s0.size : Int) then if 0 ≤ s1 then if s1 ≤ K6.wrap (s9 + 1) then (JM big (K6.wrap zC0)).bind fun b => bif !decide (b = s0.extract s1.toNat (K6.wrap (s9 + 1)).toNat) then some (0, 0, false, ()) else some (K6.wrap zC0, K6.wrap (s9 + 1), true, ()) else none else none else none else none else Qo n s0 s1 (K6.wrap zC0) (K6.wrap (s8 * 128)) (K6.wrap (s9 + 1))) (s7 + K6.wrap ((K6.wrap (↑y.toNat : Int)).tmod 128 * s8)) else none else none else some (0, 0, false, ()) else some (0, 0, false, ()) := by kernel_rfl
def GQ : Yf := (281, Tl) :: Dq
theorem Fi : Yg GQ := cons_cons ZbK Dr
def Zdl := FX.mk (false, false, [7, 8, 9, 11, 12, 13, 19, 20, 21, 27, 28, 30, 32]) GQ [] [none] Tryz.f208 (shO (shV Zk) [.mu Vo])
def Zdm : Con := cA Zdl [.mu Vo] true
theorem ZeY : CO 208 Zdm := Vr Fi
def Y1 (n : Nat) (a0 : Wc) : Option (Int × Wc × Unit) := qA Zdl [.mu Vo] n (a0, ())
theorem ZeZ (n : Nat) (a0) : Y1 n a0 = (GP big a0.1 a0.2.1).bind fun y => bif a0.2.2.1 then some (0, (a0.1, a0.2.1, true, ()), ()) else bif !y.2.2.1 then some (0, (a0.1, a0.2.1, true, ()), ()) else some (y.1, (a0.1, y.2.1, a0.2.2), ()) := by kernel_rfl
def MB : Yf := (208, Zdm) :: GQ
theorem IR : Yg MB := cons_cons ZeY Fi
def ZgG := FX.mk (false, false, [3]) MB [] [none] Tryz.f209 (shO (shV Qc) [.mu Vo])
def ZgH : Con := cA ZgG [.mu Vo] true
theorem ZgI : CO 209 ZgH := Vr IR
def IS (n : Nat) (a0 : Wc) : Option (H5 × Wc × Unit) := qA ZgG [.mu Vo] n (a0, ())
theorem ZgJ (n : Nat) (a0) : IS n a0 = (Y1 big a0).bind fun y => (Y1 big y.2.1).bind fun a => (Y1 big a.2.1).bind fun c => (Y1 big c.2.1).bind fun b => some ((y.1, a.1, c.1, b.1, ()), b.2) := by kernel_rfl
def Tm : Yf := (209, ZgH) :: MB
theorem Oc : Yg Tm := cons_cons ZgI IR
def Tn := FX.mk (false, false, [3]) Tm [] [none] Tryz.f210 (shO (shV Z8) [.mu Vo])
def To : Con := cA Tn [.mu Vo] true
theorem ZbM : CO 210 To := Vr Oc
def GR (n : Nat) (a0 : Wc) : Option (Z3 × Wc × Unit) := qA Tn [.mu Vo] n (a0, ())
theorem ZbN (n : Nat) (a0) : GR n a0 = (Y1 big a0).bind fun y => (Y1 big y.2.1).bind fun a => (Y1 big a.2.1).bind fun c => (Y1 big c.2.1).bind fun b => some ((y.1, a.1, c.1, b.1, ()), b.2) := by kernel_rfl
def GS : Yf := (210, To) :: Tm
theorem Fj : Yg GS := cons_cons ZbM Oc
abbrev Ds : W0 := (.ro Zf :: .drop :: .is (.ptr 0 0) :: dp 3 (.is (.ptr 1 0) :: .is (.ptr 2 0) :: .ro Zc :: .ro Zc :: dp 58 []), [.vars (rp 14 Zc [.own Zk, .own Jy, .own Zk, .own Jz, .own Z8, .own ZJ, .ro Zc]), .vars [.ro Zf, .ro Zc, .ro ZA], .vars (rp 14 Zc [.own Zk, .own Jy, .own Zk, .own Jz, .own Z8, .own ZJ, .ro Zc])])
def Dt := FX.mk (false, false, [7, 41, 42, 43, 49, 56, 57, 58]) GS [(10, Ds)] [some ZQ, none] Tryz.f149 (shT [(true, ZQ), (false, ZA)])
def Od : Con := cR Dt [Zf] true
theorem Tp : CO 149 Od := ZI Fj
def Du (n : Nat) (a0 : ByteArray) : Option (Zw × Bool × Unit) := qR Dt [Zf] n (a0, ())
def Vz (n : Nat) (s0 : ByteArray) (s8 s9 aa ab ac ad ae af ag ah ai aj ak al am an : Int) (ao : List Int) (ap : List Ys) (aq : List Int) (ar : List Xv) (au : List Z3) (av : List Zo) (aw : Int) (ax : ByteArray) (ay : Int) (az : Bool) (ba bb bc bd be bf bg bh bi bj bk bl bm bn : Int) (bo : List Int) (bp : List Ys) (bq : List Int) (br : List Xv) (bs : List Z3) (bt : List Zo) (bu : Int) : Option (Zw × Bool × Unit) := rR Dt (zs [Zf]) 10 Ds n (s0, s8, s9, ()) ((aa, ab, ac, ad, ae, af, ag, ah, ai, aj, ak, al, am, an, ao, ap, aq, ar, au, av, aw, ()), (ax, ay, az, ()), (ba, bb, bc, bd, be, bf, bg, bh, bi, bj, bk, bl, bm, bn, bo, bp, bq, br, bs, bt, bu, ()), ())
theorem Tq (n : Nat) (a0) : Du n a0 = (Dm big a0).bind fun y => (Y1 big (y.1, 0, !y.2.1, ())).bind fun y => (Y1 big y.2.1).bind fun e => (IS big e.2.1).bind fun c => (IS big c.2.1).bind fun a => (GR big a.2.1).bind fun b => (Y1 big b.2.1).bind fun d => Vz n a0 d.1 0 0 0 0 0 0 0 0 0 0 0 0 0 0 0 [] [] [] [] [] [] 0 d.2.1.1 d.2.1.2.1 d.2.1.2.2.1 y.1 e.1 c.1.1 c.1.2.1 c.1.2.2.1 c.1.2.2.2.1 a.1.1 a.1.2.1 a.1.2.2.1 a.1.2.2.2.1 b.1.1 b.1.2.1 b.1.2.2.1 b.1.2.2.2.1 [] [] [] [] [] [] 0 := by kernel_rfl
theorem Kz (n : Nat) (s0 s8 s9 aa ab ac ad ae af ag ah ai aj ak al am an ao ap aq ar au av aw ax ay az ba bb bc bd be bf bg bh bi bj bk bl bm bn bo bp bq br bs bt bu) : Vz (n + 1) s0 s8 s9 aa ab ac ad ae af ag ah ai aj ak al am an ao ap aq ar au av aw ax ay az ba bb bc bd be bf bg bh bi bj bk bl bm bn bo bp bq br bs bt bu = (fun zC0 => (fun zC0 => bif decide (s9 < s8) then bif !az then (fun zB => (fun zB => Wf (Wf zB zB) zB) (zB)) ((Y1 big (ax, ay, az, ())).bind fun y => if bo.length + (1 : Nat) ≤ lim then Vz n s0 s8 (K6.wrap (s9 + 1)) aa ab ac ad ae af ag ah ai aj ak al am an ao ap aq ar au av aw y.2.1.1 y.2.1.2.1 y.2.1.2.2.1 ba bb bc bd be bf bg bh bi bj bk bl bm bn (bo.append [y.1]) bp bq br bs bt bu else none) else zC0 else zC0) (bif az then zC0 else (Uw big (ba, bb, (bc, bd, be, bf, ()), (bg, bh, bi, bj, ()), (bk, bl, bm, bn, ()), bo, bp, bq, br, bs, bt, bu, ())).bind fun y => bif !decide (y = s0) then zC0 else some ((ba, bb, (bc, bd, be, bf, ()), (bg, bh, bi, bj, ()), (bk, bl, bm, bn, ()), bo, bp, bq, br, bs, bt, bu, ()), true, ()))) (some ((0, 0, (0, 0, 0, 0, ()), (0, 0, 0, 0, ()), (0, 0, 0, 0, ()), [], [], [], [], [], [], 0, ()), false, ())) := by kernel_rfl
def Dv : Yf := (149, Od) :: GS
theorem Dw : Yg Dv := cons_cons Tp Fj
def Zdn := FX.mk (false, false, [3, 5, 15, 19]) Dv [] [some ZQ] Tryz.f101 (shF ZQ)
def Zdo : Con := cR Zdn [Zj, Yo] true
theorem Ze0 : CO 101 Zdo := ZI Dw
def MC (n : Nat) (a0 : ZE) (a1 : Zw) : Option Zw := qR Zdn [Zj, Yo] n (a0, a1, ())
theorem Ze1 (n : Nat) (a0 a1) : MC n a0 a1 = (Uw big a1).bind fun y => (Du big y).bind fun y => bif !y.2.1 then some (a1.1, 1, (0, 0, 0, 0, ()), (0, 0, 0, 0, ()), (0, 0, 0, 0, ()), [], [], [], [], [], [], 0, ()) else (C1 big a0 y.1.2.2.2.2.2.1).bind fun a => some (y.1.1, y.1.2.1, y.1.2.2.1, y.1.2.2.2.1, y.1.2.2.2.2.1, y.1.2.2.2.2.2.1, a, y.1.2.2.2.2.2.2.2) := by kernel_rfl
def MD : Yf := (101, Zdo) :: Dv
theorem IT : Yg MD := cons_cons Ze0 Dw
abbrev Tr : W0 := (.drop :: .ro Zc :: .ro Zc :: .is (.ptr 0 0) :: dp 2 (.is (.ptr 1 0) :: .drop :: .ro Zc :: .own Zh :: .ro Zc :: dp 48 []), [.vars [.ro Zc, .ro ZA, .ro Zc, .ro Zj, .ro XL, .ro ZN, .ro Z4, .ro YA], .vars (rp 4 Zc [])])
def Ts := FX.mk (false, false, [3, 12, 19, 26, 30, 54]) MD [(6, Tr)] [none, none] Tryz.f155 (shT [(false, Qc), (false, ZA)])
def ZgK : Con := cR Ts [Xf, Zk, Zk] true
theorem ZgL : CO 155 ZgK := ZI IT
def QP (n : Nat) (a0 : Zi) (a1 a2 : Int) : Option (H5 × Bool × Unit) := qR Ts [Xf, Zk, Zk] n (a0, a1, a2, ())
def QQ (n : Nat) (s1 s2 s8 : Int) (s9 : List Zl) (s10 aa : Int) (ab : Bool) (ac : Int) (ad : ZE) (ae : Pi) (af : Yh) (ag : Wb) (ah : VY) (ai aj ak al : Int) : Option (H5 × Bool × Unit) := rR Ts (zs [Xf, Zk, Zk]) 6 Tr n (s1, s2, s8, s9, s10, ()) ((aa, ab, ac, ad, ae, af, ag, ah, ()), (ai, aj, ak, al, ()), ())
theorem ZgM (n : Nat) (a0 a1 a2) : QP n a0 a1 a2 = (ZB big a2 1 (K6.wrap ((↑(List.length a0.2.2.2.1) : Int) - 1))).bind fun y => bif !y then some ((0, 0, 0, 0, ()), false, ()) else if 0 ≤ a2 then (nth a0.2.2.2.1 a2.toNat).bind fun y => if (0 : Nat) + List.length a0.2.2.2.2.2.2.1 ≤ lim then QQ n a1 a2 y.2.1 a0.2.2.2.2.2.2.1 0 a0.1 a0.2.1 a0.2.2.1 a0.2.2.2.1 a0.2.2.2.2.1 a0.2.2.2.2.2.1 a0.2.2.2.2.2.2.1 a0.2.2.2.2.2.2.2.1 0 0 0 0 else none else none := by kernel_rfl
theorem Fk (n : Nat) (s1 s2 s8 s9 s10 aa ab ac ad ae af ag ah ai aj ak al) : QQ (n + 1) s1 s2 s8 s9 s10 aa ab ac ad ae af ag ah ai aj ak al = bif decide (s10 < aa) then bif decide (s10 < 7) then (WA big (aa, ab, ac, ad, ae, af, ag, ah, ()) s10).bind fun y => bif y then if s9.length + [(s1, s8, s2, s10, ())].length ≤ lim then QQ n s1 s2 s8 (s9.append [(s1, s8, s2, s10, ())]) (K6.wrap (s10 + 1)) aa ab ac ad ae af ag ah ai aj ak al else none else QQ n s1 s2 s8 s9 (K6.wrap (s10 + 1)) aa ab ac ad ae af ag ah ai aj ak al else (Ap big s9 s1 s8 s2 aa).bind fun y => some y else (Ap big s9 s1 s8 s2 aa).bind fun y => some y := by kernel_rfl
def Tt : Yf := (155, ZgK) :: MD
theorem Oe : Yg Tt := cons_cons ZgL IT
def Tu := FX.mk (false, false, [2, 3, 5, 7, 14, 20, 22, 24, 29, 34, 35]) Tt [] [none] Tryz.f217 (shV ZA)
def Tv : Con := cR Tu [Xf, ZJ] true
theorem ZbO : CO 217 Tv := ZI Oe
def GT (n : Nat) (a0 : Zi) (a1 : Zo) : Option Bool := qR Tu [Xf, ZJ] n (a0, a1, ())
theorem ZbP (n : Nat) (a0 a1) : GT n a0 a1 = (Vh big a0.2.2.2.1 a0.1 a1).bind fun y => bif !y then some false else (WA big a0 a1.2.1).bind fun y => bif !y then some false else (Vf big a0.2.2.2.2.2.2.1 a1.2.2.2.2.2.1 a0.2.2.1).bind fun y => bif !y then some false else bif !decide (a1.1 = 2) then some true else (WA big a0 a1.2.2.2.2.2.2.1.2.2.2.1).bind fun y => some y := by kernel_rfl
def GU : Yf := (217, Tv) :: Tt
theorem Fm : Yg GU := cons_cons ZbO Oe
def Tw := FX.mk (false, false, [3, 5, 6]) GU [] [none] Tryz.f152 (shO (shV ZA) [.mu Zz])
def Tx : Con := cA Tw [.mu Zz, .ro ZJ] true
theorem ZbQ : CO 152 Tx := Vr Fm
def Xs (n : Nat) (a0 : Zi) (a1 : Zo) : Option (Bool × Zi × Unit) := qA Tw [.mu Zz, .ro ZJ] n (a0, a1, ())
theorem ZbR (n : Nat) (a0 a1) : Xs n a0 a1 = (GT big a0 a1).bind fun y => bif !y then some (false, a0, ()) else (W4 big a0 [a1]).bind fun y => some y := by kernel_rfl
def GV : Yf := (152, Tx) :: GU
theorem Fn : Yg GV := cons_cons ZbQ Fm
def Of := FX.mk (false, false, [2, 5]) GV [] [none] Tryz.f154 (shV Zk)
def Og : Con := cR Of [Xf, Zk] true
theorem Tz : CO 154 Og := ZI Fn
def KA (n : Nat) (a0 : Zi) (a1 : Int) : Option Int := qR Of [Xf, Zk] n (a0, a1, ())
theorem TA (n : Nat) (a0 a1) : KA n a0 a1 = bif a0.2.1 then some 4 else some (K6.wrap (1 + a1.tmod 3)) := by kernel_rfl
def Dx : Yf := (154, Og) :: GV
theorem Dy : Yg Dx := cons_cons Tz Fn
abbrev KB : W0 := (.ro XL :: dp 2 (.ro Zc :: .ro Zc :: dp 19 []), [])
def UE := FX.mk (false, false, []) Dx [(3, KB)] [none] Tryz.f219 (shV Zk)
def Bn : Con := cR UE [XL] true
theorem GW : CO 219 Bn := ZI Dy
def UF (n : Nat) (a0 : Pi) : Option Int := qR UE [XL] n (a0, ())
def Xq (n : Nat) (s0 : Pi) (s3 s4 : Int) : Option Int := rR UE (zs [XL]) 3 KB n (s0, s3, s4, ()) ()
theorem GX (n : Nat) (a0) : UF n a0 = Xq n a0 0 0 := by kernel_rfl
theorem Ux (n : Nat) (s0 s3 s4) : Xq (n + 1) s0 s3 s4 = bif decide (s4 < (↑(List.length s0) : Int)) then if 0 ≤ s4 then (nth s0 s4.toNat).bind fun y => bif decide (s3 < y.2.1) then if 0 ≤ s4 then (nth s0 s4.toNat).bind fun y => Xq n s0 y.2.1 (K6.wrap (s4 + 1)) else none else Xq n s0 s3 (K6.wrap (s4 + 1)) else none else some s3 := by kernel_rfl
def UG : Yf := (219, Bn) :: Dx
theorem QR : Yg UG := cons_cons GW Dy
def Oh := FX.mk (false, false, [3, 8, 10, 14, 16, 17, 18, 22, 23, 24, 28, 32, 33, 34, 41, 42, 43, 46, 47, 62, 67, 68, 70, 75, 76, 77, 79, 80, 81, 83, 89, 90, 91, 93, 95, 96, 97, 103, 104, 105, 113, 114, 115, 117, 119, 122, 124, 132, 134]) UG [] [none] Tryz.f156 (shO (shV ZA) [.mu Zz])
def Oi : Con := cA Oh [.mu Zz, .ro Yz] true
theorem TB : CO 156 Oi := Vr QR
def Dz (n : Nat) (a0 : Zi) (a1 : Yl) : Option (Bool × Zi × Unit) := qA Oh [.mu Zz, .ro Yz] n (a0, a1, ())
theorem TC (n : Nat) (a0 a1) : Dz n a0 a1 = if (↑(List.length a0.2.2.2.1) : Int) = 0 then none else (UF big a0.2.2.2.2.1).bind fun y => bif decide (Int.tmod a1.2.2.2.1 2 = 1) then if 0 ≤ Int.tmod a1.2.2.2.1 (↑(List.length a0.2.2.2.1) : Int) then if Int.tmod a1.2.2.2.1 (↑(List.length a0.2.2.2.1) : Int) < (↑(List.length a0.2.2.2.1) : Int) then (nth a0.2.2.2.1 (Int.tmod a1.2.2.2.1 (↑(List.length a0.2.2.2.1) : Int)).toNat).bind fun y => bif a0.2.1 then (QP big a0 4 (Int.tmod a1.2.2.2.1 (↑(List.length a0.2.2.2.1) : Int))).bind fun a => (fun zC0 => bif !a.2.1 then bif !decide (Int.tmod a1.2.2.2.1 (↑(List.length a0.2.2.2.1) : Int) = 0) then some (false, a0, ()) else zC0 else zC0) ((WA big a0 a1.2.1).bind fun e => bif !e then some (false, a0, ()) else (Xr big a0.2.2.2.1 a0.1 a.1).bind fun c => bif !c then some (false, a0, ()) else (Vf big a0.2.2.2.2.2.2.1 a.1 a0.2.2.1).bind fun d => bif !d then some (false, a0, ()) else (XH big a0.2.2.2.1 (Int.tmod a1.2.2.2.1 (↑(List.length a0.2.2.2.1) : Int), K6.wrap (y.2.1 + 1), [a1.2.2.2.2.1], a.1, ())).bind fun b => bif decide (b.2.1 < 0) then some (false, a0, ()) else (Xs big (a0.1, a0.2.1, a0.2.2.1, b.1, a0.2.2.2.2) (1, a1.2.1, a1.2.2.1, K6.wrap (y.2.1 + 1), b.2.1, a.1, (0, 0, 0, 0, ()), ())).bind fun y => bif !y.1 then some (false, (y.2.1.1, y.2.1.2.1, y.2.1.2.2.1, a0.2.2.2.1, y.2.1.2.2.2.2), ()) else some (true, y.2)) else (QP big a0 1 (Int.tmod a1.2.2.2.1 (↑(List.length a0.2.2.2.1) : Int))).bind fun a => (fun zC1 => bif !a.2.1 then bif !decide (Int.tmod a1.2.2.2.1 (↑(List.length a0.2.2.2.1) : Int) = 0) then some (false, a0, ()) else zC1 else zC1) ((WA big a0 a1.2.1).bind fun e => bif !e then some (false, a0, ()) else (Xr big a0.2.2.2.1 a0.1 a.1).bind fun c => bif !c then some (false, a0, ()) else (Vf big a0.2.2.2.2.2.2.1 a.1 a0.2.2.1).bind fun d => bif !d then some (false, a0, ()) else (XH big a0.2.2.2.1 (Int.tmod a1.2.2.2.1 (↑(List.length a0.2.2.2.1) : Int), K6.wrap (y.2.1 + 1), [a1.2.2.2.2.1], a.1, ())).bind fun b => bif decide (b.2.1 < 0) then some (false, a0, ()) else (Xs big (a0.1, a0.2.1, a0.2.2.1, b.1, a0.2.2.2.2) (1, a1.2.1, a1.2.2.1, K6.wrap (y.2.1 + 1), b.2.1, a.1, (0, 0, 0, 0, ()), ())).bind fun y => bif !y.1 then some (false, (y.2.1.1, y.2.1.2.1, y.2.1.2.2.1, a0.2.2.2.1, y.2.1.2.2.2.2), ()) else some (true, y.2)) else none else none else bif a0.2.1 then (QP big a0 4 (Int.tmod a1.2.2.2.1 (↑(List.length a0.2.2.2.1) : Int))).bind fun a => (fun zC2 => bif !a.2.1 then bif !decide (Int.tmod a1.2.2.2.1 (↑(List.length a0.2.2.2.1) : Int) = 0) then some (false, a0, ()) else zC2 else zC2) ((WA big a0 a1.2.1).bind fun e => bif !e then some (false, a0, ()) else (Xr big a0.2.2.2.1 a0.1 a.1).bind fun c => bif !c then some (false, a0, ()) else (Vf big a0.2.2.2.2.2.2.1 a.1 a0.2.2.1).bind fun d => bif !d then some (false, a0, ()) else (XH big a0.2.2.2.1 (Int.tmod a1.2.2.2.1 (↑(List.length a0.2.2.2.1) : Int), K6.wrap (y + 1), [a1.2.2.2.2.1], a.1, ())).bind fun b => bif decide (b.2.1 < 0) then some (false, a0, ()) else (Xs big (a0.1, a0.2.1, a0.2.2.1, b.1, a0.2.2.2.2) (1, a1.2.1, a1.2.2.1, K6.wrap (y + 1), b.2.1, a.1, (0, 0, 0, 0, ()), ())).bind fun y => bif !y.1 then some (false, (y.2.1.1, y.2.1.2.1, y.2.1.2.2.1, a0.2.2.2.1, y.2.1.2.2.2.2), ()) else some (true, y.2)) else (QP big a0 1 (Int.tmod a1.2.2.2.1 (↑(List.length a0.2.2.2.1) : Int))).bind fun a => (fun zC3 => bif !a.2.1 then bif !decide (Int.tmod a1.2.2.2.1 (↑(List.length a0.2.2.2.1) : Int) = 0) then some (false, a0, ()) else zC3 else zC3) ((WA big a0 a1.2.1).bind fun e => bif !e then some (false, a0, ()) else (Xr big a0.2.2.2.1 a0.1 a.1).bind fun c => bif !c then some (false, a0, ()) else (Vf big a0.2.2.2.2.2.2.1 a.1 a0.2.2.1).bind fun d => bif !d then some (false, a0, ()) else (XH big a0.2.2.2.1 (Int.tmod a1.2.2.2.1 (↑(List.length a0.2.2.2.1) : Int), K6.wrap (y + 1), [a1.2.2.2.2.1], a.1, ())).bind fun b => bif decide (b.2.1 < 0) then some (false, a0, ()) else (Xs big (a0.1, a0.2.1, a0.2.2.1, b.1, a0.2.2.2.2) (1, a1.2.1, a1.2.2.1, K6.wrap (y + 1), b.2.1, a.1, (0, 0, 0, 0, ()), ())).bind fun y => bif !y.1 then some (false, (y.2.1.1, y.2.1.2.1, y.2.1.2.2.1, a0.2.2.2.1, y.2.1.2.2.2.2), ()) else some (true, y.2)) := by kernel_rfl
def DA : Yf := (156, Oi) :: UG
theorem DB : Yg DA := cons_cons TB QR
def Zdp := FX.mk (false, false, [3, 6, 8, 9, 10, 15, 16, 18, 23, 25, 26, 27, 31, 36, 37, 39, 41, 43, 44, 46, 55, 56, 58, 59, 61, 71, 73, 75, 86, 88, 90, 999999]) DA [] [none] Tryz.f102 (shO (shV ZA) [.mu Zz])
def Zdq : Con := cA Zdp [.mu Zz, .ro Yz] true
theorem Ze2 : CO 102 Zdq := Vr DB
def ME (n : Nat) (a0 : Zi) (a1 : Yl) : Option (Bool × Zi × Unit) := qA Zdp [.mu Zz, .ro Yz] n (a0, a1, ())
theorem Ze3 (n : Nat) (a0 a1) : ME n a0 a1 = bif decide ((↑(List.length a0.2.2.2.1) : Int) = 0) then some (false, a0, ()) else (WA big a0 a1.2.1).bind fun y => bif !y then some (false, a0, ()) else if (↑(List.length a0.2.2.2.1) : Int) = 0 then none else bif decide (a1.1 = 8) then (KA big a0 a1.2.2.2.1).bind fun y => (Gv big a0 a1.2.1 a1.2.2.1 y (Int.tmod a1.2.2.2.1 (↑(List.length a0.2.2.2.1) : Int))).bind fun y => (Xs big a0 y).bind fun y => some y else bif decide (a1.1 = 9) then (KA big a0 a1.2.2.2.1).bind fun y => (QP big a0 y (Int.tmod a1.2.2.2.1 (↑(List.length a0.2.2.2.1) : Int))).bind fun y => bif !y.2.1 then some (false, a0, ()) else (Xs big a0 (3, a1.2.1, a1.2.2.1, y.1.2.1, 0, y.1, (0, 0, 0, 0, ()), ())).bind fun y => some y else bif decide (a1.1 = 10) then (Dz big a0 a1).bind fun y => some y else (Xs big a0 (4, a1.2.1, a1.2.2.1, K6.wrap (Int.tmod a1.2.2.2.1 900 + 1), 0, (0, 0, 0, 0, ()), (0, 0, 0, 0, ()), ())).bind fun y => some y := by kernel_rfl
def MF : Yf := (102, Zdq) :: DA
theorem IU : Yg MF := cons_cons Ze2 DB
abbrev Fo : W0 := ([.is (.ptr 0 0), .drop, .drop, .is (.ptr 6 0), .is (.ptr 7 0), .ro Zc, .ro Zc, .ro Zc, .drop, .drop, .drop, .drop, .drop, .drop, .drop, .drop, .drop, .drop, .drop, .drop, .drop, .drop, .drop, .drop, .drop, .drop, .drop, .drop, .drop, .drop, .drop, .drop, .drop, .drop, .drop, .drop, .drop, .drop, .drop, .drop, .drop, .drop, .drop, .drop, .drop, .drop, .drop, .drop, .drop, .drop, .drop, .drop, .drop, .drop, .drop, .drop, .drop, .drop, .drop, .drop, .drop, .drop, .drop, .drop, .drop, .drop, .drop, .drop, .drop, .drop, .drop, .drop, .drop, .drop, .drop, .drop, .drop, .drop, .drop, .drop, .drop, .drop, .drop, .drop, .drop, .drop, .drop, .drop, .drop, .drop, .drop, .drop, .drop, .drop, .drop, .drop, .drop, .drop, .drop, .drop, .drop, .drop, .drop, .drop, .drop, .drop, .drop, .drop, .drop, .drop, .drop, .drop, .drop, .drop, .drop, .drop], [.vars [.ro Z9, .ro Zc, .ro Zc], .arr Vn, .arr ZQ, .arr ZJ, .arr Z8, .arr W1, .vars [.ro Zc, .ro ZA, .ro Zc, .is (.own 1 0), .is (.own 2 0), .is (.own 3 0), .is (.own 4 0), .is (.own 5 0)], .vars (rp 5 Zc [.ro Zf, .ro Zc])])
abbrev DC : W0 := ([.drop, .drop, .drop, .is (.ptr 6 0), .is (.ptr 7 0), .drop, .drop, .drop, .ro Zc, .drop, .drop, .drop, .drop, .drop, .drop, .drop, .drop, .drop, .drop, .drop, .drop, .drop, .drop, .drop, .drop, .drop, .drop, .drop, .drop, .drop, .drop, .drop, .drop, .drop, .drop, .drop, .drop, .drop, .drop, .drop, .drop, .drop, .drop, .drop, .drop, .drop, .drop, .drop, .drop, .drop, .drop, .drop, .drop, .drop, .drop, .drop, .drop, .drop, .drop, .drop, .drop, .drop, .drop, .drop, .drop, .drop, .drop, .drop, .drop, .drop, .drop, .drop, .drop, .drop, .drop, .drop, .drop, .drop, .drop, .drop, .drop, .drop, .drop, .drop, .drop, .drop, .drop, .drop, .drop, .drop, .drop, .drop, .drop, .drop, .drop, .drop, .drop, .drop, .drop, .drop, .drop, .drop, .drop, .drop, .drop, .drop, .drop, .drop, .drop, .drop, .drop, .drop, .drop, .drop, .drop, .drop], [.vars [.ro Z9, .ro Zc, .ro Zc], .arr Vn, .arr ZQ, .arr ZJ, .arr Z8, .arr W1, .vars [.ro Zc, .ro ZA, .ro Zc, .is (.own 1 0), .is (.own 2 0), .is (.own 3 0), .is (.own 4 0), .is (.own 5 0)], .vars (rp 5 Zc [.ro Zf, .ro Zc])])
def KC := FX.mk (false, true, [3, 15, 34, 44, 49, 51, 61, 70]) MF [(4, Fo), (12, DC)] [none] Tryz.f50 (shO (shV Yz) [.mr Yd, .mo Zz])
def Oj : Con := cA KC [.mr Yd, .mo Zz] false
theorem TD : CO 50 Oj := Vr IU
def DD (n : Nat) (a0 : Ya) (a1 : Zi) : Option (Yl × Ya × (Unit × Unit × Unit × (List ZL) × (List Zw) × (List Zo) × (List Z3) × (List VX) × Unit) × Unit) := qA KC [.mr Yd, .mo Zz] n (a0, a1, ())
def WR (n : Nat) (s5 s6 s7 : Int) (aa : Vq) (ab ac : Int) (b1 : List ZL) (b2 : List Zw) (b3 : List Zo) (b4 : List Z3) (b5 : List VX) (ad : Int) (ae : Bool) (af ag ah ai aj ak : Int) (al : ByteArray) (am : Int) : Option (Yl × Ya × (Unit × Unit × Unit × (List ZL) × (List Zw) × (List Zo) × (List Z3) × (List VX) × Unit) × Unit) := rR KC [AP.enc (.mr Yd) (WI Yd), AP.enc (.mo Zz) (WI Zz)] 4 Fo n (s5, s6, s7, ()) ((aa, ab, ac, ()), b1, b2, b3, b4, b5, (ad, ae, af, ()), (ag, ah, ai, aj, ak, al, am, ()), ())
def Wt (n : Nat) (s8 : Int) (aa : Vq) (ab ac : Int) (b1 : List ZL) (b2 : List Zw) (b3 : List Zo) (b4 : List Z3) (b5 : List VX) (ad : Int) (ae : Bool) (af ag ah ai aj ak : Int) (al : ByteArray) (am : Int) : Option (Yl × Ya × (Unit × Unit × Unit × (List ZL) × (List Zw) × (List Zo) × (List Z3) × (List VX) × Unit) × Unit) := rR KC [AP.enc (.mr Yd) (WI Yd), AP.enc (.mo Zz) (WI Zz)] 12 DC n (s8, ()) ((aa, ab, ac, ()), b1, b2, b3, b4, b5, (ad, ae, af, ()), (ag, ah, ai, aj, ak, al, am, ()), ())
theorem TE (n : Nat) (a0 a1) : DD n a0 a1 =
  (Ym big a0 (20 : Int)).bind fun y =>
 WR n y.1 (0 : Int) (0 : Int) y.2.1.1 y.2.1.2.1 y.2.1.2.2.1 a1.2.2.2.1
 a1.2.2.2.2.1 a1.2.2.2.2.2.1 a1.2.2.2.2.2.2.1
 a1.2.2.2.2.2.2.2.1 a1.1 a1.2.1 a1.2.2.1 (0 : Int) (0 : Int) (0 : Int) (0 : Int)
 (0 : Int) ByteArray.empty (0 : Int) := by kernel_rfl
theorem JO (n : Nat) (s5 s6 s7 aa ab ac b1 b2 b3 b4 b5 ad ae af ag ah ai aj ak al am) : WR (n + 1) s5 s6 s7 aa ab ac b1 b2 b3 b4 b5 ad ae af ag ah ai aj ak al am =
  bif decide (s7 < ad) then
 (WA big (ad, ae, af, b1, b2, b3, b4, b5, ()) s7).bind fun y =>
 bif y then
 WR n s5 s7 (K6.wrap (s7 + (1 : Int))) aa ab ac b1 b2 b3 b4 b5 ad ae af ag
 ah ai aj ak al am
 else
 WR n s5 s6 (K6.wrap (s7 + (1 : Int))) aa ab ac b1 b2 b3 b4 b5 ad ae af ag
 ah ai aj ak al am
 else
 bif decide (s5 = (0 : Int)) then
 (Eb big (aa, ab, ac, ())).bind fun y =>
 some
 (((1 : Int), (0 : Int), (0 : Int), (0 : Int), y.1, PUnit.unit), y.2.1,
 (PUnit.unit, PUnit.unit, PUnit.unit, b1, b2, b3, b4, b5, PUnit.unit), PUnit.unit)
 else
 bif decide (s5 < (4 : Int)) then
 Wt n (0 : Int) aa ab ac b1 b2 b3 b4 b5 ad ae af ag ah ai aj ak al am
 else
 bif decide (s5 < (14 : Int)) then
 bif decide ((0 : Int) < (↑b3.length : Int)) then
 (Ai big (aa, ab, ac, ()) (3 : Int)).bind fun y =>
 bif y.1 then
 (Ym big y.2.1 (↑b3.length : Int)).bind fun y =>
 some
 (((3 : Int), y.1, (0 : Int), (0 : Int), ((0 : Int), ByteArray.empty, (0 : Int), PUnit.unit),
 PUnit.unit),
 y.2.1, (PUnit.unit, PUnit.unit, PUnit.unit, b1, b2, b3, b4, b5, PUnit.unit), PUnit.unit)
 else
 some
 (((3 : Int), (0 : Int), (0 : Int), (0 : Int), ((0 : Int), ByteArray.empty, (0 : Int), PUnit.unit),
 PUnit.unit),
 y.2.1, (PUnit.unit, PUnit.unit, PUnit.unit, b1, b2, b3, b4, b5, PUnit.unit), PUnit.unit)
 else
 some
 (((3 : Int), (0 : Int), (0 : Int), (0 : Int), ((0 : Int), ByteArray.empty, (0 : Int), PUnit.unit),
 PUnit.unit),
 (aa, ab, ac, PUnit.unit), (PUnit.unit, PUnit.unit, PUnit.unit, b1, b2, b3, b4, b5, PUnit.unit),
 PUnit.unit)
 else
 bif decide (s5 = (14 : Int)) then
 (XY big (aa, ab, ac, ()) [(4 : Int), (5 : Int)]).bind fun y =>
 (Ym big y.2.1 (4 : Int)).bind fun a =>
 some
 ((y.1, a.1, (0 : Int), (0 : Int), ((0 : Int), ByteArray.empty, (0 : Int), PUnit.unit),
 PUnit.unit),
 a.2.1, (PUnit.unit, PUnit.unit, PUnit.unit, b1, b2, b3, b4, b5, PUnit.unit), PUnit.unit)
 else
 bif decide (s5 = (15 : Int)) then
 (Ym big (aa, ab, ac, ()) (4 : Int)).bind fun y =>
 some
 (((6 : Int), y.1, (0 : Int), (0 : Int), ((0 : Int), ByteArray.empty, (0 : Int), PUnit.unit),
 PUnit.unit),
 y.2.1, (PUnit.unit, PUnit.unit, PUnit.unit, b1, b2, b3, b4, b5, PUnit.unit), PUnit.unit)
 else
 bif decide (s5 = (16 : Int)) then
 (Ym big (aa, ab, ac, ()) (4 : Int)).bind fun y =>
 some
 (((7 : Int), y.1, (0 : Int), (0 : Int), ((0 : Int), ByteArray.empty, (0 : Int), PUnit.unit),
 PUnit.unit),
 y.2.1, (PUnit.unit, PUnit.unit, PUnit.unit, b1, b2, b3, b4, b5, PUnit.unit), PUnit.unit)
 else
 (Ym big (aa, ab, ac, ()) (30 : Int)).bind fun y =>
 (Ym big y.2.1 (4 : Int)).bind fun a =>
 bif decide (s5 = (17 : Int)) then
 (Eb big a.2.1).bind fun b =>
 some
 (((10 : Int), s6, a.1, y.1, b.1, PUnit.unit), b.2.1,
 (PUnit.unit, PUnit.unit, PUnit.unit, b1, b2, b3, b4, b5, PUnit.unit), PUnit.unit)
 else
 (XY big a.2.1 [(8 : Int), (9 : Int), (11 : Int), (8 : Int)]).bind fun b =>
 some
 ((b.1, s6, a.1, y.1, ((0 : Int), ByteArray.empty, (0 : Int), PUnit.unit),
 PUnit.unit),
 b.2.1, (PUnit.unit, PUnit.unit, PUnit.unit, b1, b2, b3, b4, b5, PUnit.unit),
 PUnit.unit) := by kernel_rfl
theorem KE (n : Nat) (s8 aa ab ac b1 b2 b3 b4 b5 ad ae af ag ah ai aj ak al am) : Wt (n + 1) s8 aa ab ac b1 b2 b3 b4 b5 ad ae af ag ah ai aj ak al am =
  bif decide (s8 < (↑b2.length : Int)) then
 (XM big (ad, ae, af, b1, b2, b3, b4, b5, ()) s8).bind fun y =>
 bif y then
 if (0 : Int) ≤ s8 then
 if s8 < (↑b2.length : Int) then
 (nth b2 s8.toNat).bind fun y =>
 (Is big y ad ae).bind fun a =>
 (Ei b2 s8.toNat y).bind fun y =>
 bif a then
 some
 (((2 : Int), s8, (0 : Int), (0 : Int), ((0 : Int), ByteArray.empty, (0 : Int), PUnit.unit),
 PUnit.unit),
 (aa, ab, ac, PUnit.unit),
 (PUnit.unit, PUnit.unit, PUnit.unit, b1, y, b3, b4, b5, PUnit.unit), PUnit.unit)
 else
 Wt n (K6.wrap (s8 + (1 : Int))) aa ab ac b1 y b3 b4 b5 ad ae af
 ag ah ai aj ak al am
 else none
 else none
 else
 Wt n (K6.wrap (s8 + (1 : Int))) aa ab ac b1 b2 b3 b4 b5 ad ae af ag ah
 ai aj ak al am
 else
 some
 (((3 : Int), (0 : Int), (0 : Int), (0 : Int), ((0 : Int), ByteArray.empty, (0 : Int), PUnit.unit), PUnit.unit),
 (aa, ab, ac, PUnit.unit), (PUnit.unit, PUnit.unit, PUnit.unit, b1, b2, b3, b4, b5, PUnit.unit),
 PUnit.unit) := by kernel_rfl
def DE : Yf := (50, Oj) :: MF
theorem DF : Yg DE := cons_cons TD IU
abbrev QS : W0 := (.is (.ptr 5 0) :: .ro Zc :: dp 3 (.ro Zc :: .own Zr :: .is (.ptr 26 0) :: .ro Zc :: dp 103 []), [.drop, .drop, .drop, .drop, .drop, .vars [.ro Zc, .ro ZA, .ro Zc, .own Zr, .own ZR, .own Zd, .own Zh, .own ZH], .drop, .drop, .drop, .drop, .drop, .drop, .drop, .drop, .drop, .drop, .drop, .drop, .drop, .drop, .drop, .drop, .drop, .drop, .drop, .drop, .vars (rp 14 Zc [.own Zc, .own Zn, .own Zc, .own Zv, .own Zh, .own Zd, .ro Zc])])
def GY := FX.mk (true, true, [7, 9, 10, 16, 17, 18, 23, 24, 25, 27, 28, 29, 35, 36, 37, 40, 41, 42, 47, 48, 49, 55, 56, 57, 59, 60, 61, 67, 68, 69, 80, 82, 84, 85, 86, 91, 93, 94, 95, 100, 106, 107, 108, 999999, 999995]) DE [(5000007, QS)] [none] Tryz.f96 (shO (shV ZA) [.mu Zz])
def TF : Con := cA GY [.mu Zz, .ro Zk] true
theorem ZbS : CO 96 TF := Vr DF
def GZ (n : Nat) (a0 : Zi) (a1 : Int) : Option (Bool × Zi × Unit) := qA GY [.mu Zz, .ro Zk] n (a0, a1, ())
def ZU (n : Nat) (s1 s5 : Int) (s6 : List Zt) (s8 aa : Int) (ab : Bool) (ac : Int) (ad : List Zt) (ae : List ZS) (af : List Zg) (ag : List Zl) (ah : List Z5) (ai aj ak al am an ao ap aq ar au av aw ax : Int) (ay : List Int) (az : List Zu) (ba : List Int) (bb : List ZC) (bc : List Zl) (bd : List Zg) (be : Int) : Option (Bool × Zi × Unit) := rR GY [AP.enc (.mu Zz) (WI Zz), AP.enc (.ro Zk) (WI Zk)] 5000007 QS n (s1, s5, s6, s8, ()) ((aa, ab, ac, ad, ae, af, ag, ah, ()), (ai, aj, ak, al, am, an, ao, ap, aq, ar, au, av, aw, ax, ay, az, ba, bb, bc, bd, be, ()), ())
theorem ZbT (n : Nat) (a0 a1) : GZ n a0 a1 = (XM big a0 a1).bind fun y => bif !y then some (false, a0, ()) else if 0 ≤ a1 then if a1 < (↑(List.length a0.2.2.2.2.1) : Int) then (nth a0.2.2.2.2.1 a1.toNat).bind fun y => (Is big y a0.1 a0.2.1).bind fun c => (Ei a0.2.2.2.2.1 a1.toNat y).bind fun y => (fun zC8 => (fun zC2 => (fun zC4 => (fun zC0 => (fun zC3 => (fun zC5 => (fun zC1 => (fun zC6 => (fun zC7 => bif !c then some (false, (a0.1, a0.2.1, a0.2.2.1, a0.2.2.2.1, y, a0.2.2.2.2.2), ()) else bif decide (60 < K6.wrap ((↑(List.length a0.2.2.2.2.2.1) : Int) + a0.1)) then some (false, (a0.1, a0.2.1, a0.2.2.1, a0.2.2.2.1, y, a0.2.2.2.2.2), ()) else bif decide (4 < (↑(List.length a0.2.2.2.2.2.2.2.1) : Int)) then Wf (if 0 ≤ a1 then if a1 < (↑y.length : Int) then Wf ((nth y a1.toNat).bind fun b => (fun zB => Wf zB zB) (if 4 ≤ (↑(List.length a0.2.2.2.2.2.2.2.1) : Int) then if (0 : Nat) + (List.take (Int.toNat 4 - (0 : Nat)) (List.drop (0 : Nat) a0.2.2.2.2.2.2.2.1)).length ≤ lim then (Wq big a0.2.2.2.1 b (List.take (Int.toNat 4 - (0 : Nat)) (List.drop (0 : Nat) a0.2.2.2.2.2.2.2.1))).bind fun a => (Ei y a1.toNat b).bind fun y => ZU n a1 4 a.1 a.2.2.1 a0.1 a0.2.1 a0.2.2.1 a0.2.2.2.1 y a0.2.2.2.2.2.1 a0.2.2.2.2.2.2.1 a0.2.2.2.2.2.2.2.1 a.2.1.1 a.2.1.2.1 a.2.1.2.2.1.1 a.2.1.2.2.1.2.1 a.2.1.2.2.1.2.2.1 a.2.1.2.2.1.2.2.2.1 a.2.1.2.2.2.1.1 a.2.1.2.2.2.1.2.1 a.2.1.2.2.2.1.2.2.1 a.2.1.2.2.2.1.2.2.2.1 a.2.1.2.2.2.2.1.1 a.2.1.2.2.2.2.1.2.1 a.2.1.2.2.2.2.1.2.2.1 a.2.1.2.2.2.2.1.2.2.2.1 a.2.1.2.2.2.2.2.1 a.2.1.2.2.2.2.2.2.1 a.2.1.2.2.2.2.2.2.2.1 a.2.1.2.2.2.2.2.2.2.2.1 a.2.1.2.2.2.2.2.2.2.2.2.1 a.2.1.2.2.2.2.2.2.2.2.2.2.1 a.2.1.2.2.2.2.2.2.2.2.2.2.2.1 else none else none)) (Wf (Wf zC7 (if 4 ≤ (↑(List.length a0.2.2.2.2.2.2.2.1) : Int) then zC1 else none)) (if 4 ≤ (↑(List.length a0.2.2.2.2.2.2.2.1) : Int) then (fun zB0 zB1 => Wf zB0 (Wf zB0 zB1)) zC5 (if (0 : Nat) + (List.take (Int.toNat 4 - (0 : Nat)) (List.drop (0 : Nat) a0.2.2.2.2.2.2.2.1)).length ≤ lim then zC3 else none) else none)) else none else none) (Wf (Wf (if 0 ≤ a1 then if a1 < (↑y.length : Int) then Wf zC7 (if 4 ≤ (↑(List.length a0.2.2.2.2.2.2.2.1) : Int) then zC1 else none) else none else none) (if 4 ≤ (↑(List.length a0.2.2.2.2.2.2.2.1) : Int) then Wf (if 0 ≤ a1 then if a1 < (↑y.length : Int) then zC1 else none else none) (if (0 : Nat) + (List.take (Int.toNat 4 - (0 : Nat)) (List.drop (0 : Nat) a0.2.2.2.2.2.2.2.1)).length ≤ lim then if 0 ≤ a1 then if a1 < (↑y.length : Int) then zC3 else none else none else none) else none)) (if 4 ≤ (↑(List.length a0.2.2.2.2.2.2.2.1) : Int) then Wf (if 0 ≤ a1 then if a1 < (↑y.length : Int) then (fun zB0 zB1 => Wf zB0 (Wf zB0 zB1)) zC5 (if (0 : Nat) + (List.take (Int.toNat 4 - (0 : Nat)) (List.drop (0 : Nat) a0.2.2.2.2.2.2.2.1)).length ≤ lim then zC3 else none) else none else none) (Wf (if 0 ≤ a1 then if a1 < (↑y.length : Int) then zC1 else none else none) (if (0 : Nat) + (List.take (Int.toNat 4 - (0 : Nat)) (List.drop (0 : Nat) a0.2.2.2.2.2.2.2.1)).length ≤ lim then if 0 ≤ a1 then if a1 < (↑y.length : Int) then zC3 else none else none else none)) else none)) else Wf (if 0 ≤ a1 then if a1 < (↑y.length : Int) then Wf ((nth y a1.toNat).bind fun b => (fun zB => Wf zB zB) (if (↑(List.length a0.2.2.2.2.2.2.2.1) : Int) ≤ (↑(List.length a0.2.2.2.2.2.2.2.1) : Int) then if (0 : Nat) + (List.take zC8 (List.drop (0 : Nat) a0.2.2.2.2.2.2.2.1)).length ≤ lim then (Wq big a0.2.2.2.1 b (List.take zC8 (List.drop (0 : Nat) a0.2.2.2.2.2.2.2.1))).bind fun a => (Ei y a1.toNat b).bind fun y => ZU n a1 (↑(List.length a0.2.2.2.2.2.2.2.1) : Int) a.1 a.2.2.1 a0.1 a0.2.1 a0.2.2.1 a0.2.2.2.1 y a0.2.2.2.2.2.1 a0.2.2.2.2.2.2.1 a0.2.2.2.2.2.2.2.1 a.2.1.1 a.2.1.2.1 a.2.1.2.2.1.1 a.2.1.2.2.1.2.1 a.2.1.2.2.1.2.2.1 a.2.1.2.2.1.2.2.2.1 a.2.1.2.2.2.1.1 a.2.1.2.2.2.1.2.1 a.2.1.2.2.2.1.2.2.1 a.2.1.2.2.2.1.2.2.2.1 a.2.1.2.2.2.2.1.1 a.2.1.2.2.2.2.1.2.1 a.2.1.2.2.2.2.1.2.2.1 a.2.1.2.2.2.2.1.2.2.2.1 a.2.1.2.2.2.2.2.1 a.2.1.2.2.2.2.2.2.1 a.2.1.2.2.2.2.2.2.2.1 a.2.1.2.2.2.2.2.2.2.2.1 a.2.1.2.2.2.2.2.2.2.2.2.1 a.2.1.2.2.2.2.2.2.2.2.2.2.1 a.2.1.2.2.2.2.2.2.2.2.2.2.2.1 else none else none)) (Wf (Wf zC6 (if (↑(List.length a0.2.2.2.2.2.2.2.1) : Int) ≤ (↑(List.length a0.2.2.2.2.2.2.2.1) : Int) then zC0 else none)) (if (↑(List.length a0.2.2.2.2.2.2.2.1) : Int) ≤ (↑(List.length a0.2.2.2.2.2.2.2.1) : Int) then (fun zB0 zB1 => Wf zB0 (Wf zB0 zB1)) zC4 (if (0 : Nat) + (List.take zC8 (List.drop (0 : Nat) a0.2.2.2.2.2.2.2.1)).length ≤ lim then zC2 else none) else none)) else none else none) (Wf (Wf (if 0 ≤ a1 then if a1 < (↑y.length : Int) then Wf zC6 (if (↑(List.length a0.2.2.2.2.2.2.2.1) : Int) ≤ (↑(List.length a0.2.2.2.2.2.2.2.1) : Int) then zC0 else none) else none else none) (if (↑(List.length a0.2.2.2.2.2.2.2.1) : Int) ≤ (↑(List.length a0.2.2.2.2.2.2.2.1) : Int) then Wf (if 0 ≤ a1 then if a1 < (↑y.length : Int) then zC0 else none else none) (if (0 : Nat) + (List.take zC8 (List.drop (0 : Nat) a0.2.2.2.2.2.2.2.1)).length ≤ lim then if 0 ≤ a1 then if a1 < (↑y.length : Int) then zC2 else none else none else none) else none)) (if (↑(List.length a0.2.2.2.2.2.2.2.1) : Int) ≤ (↑(List.length a0.2.2.2.2.2.2.2.1) : Int) then Wf (if 0 ≤ a1 then if a1 < (↑y.length : Int) then (fun zB0 zB1 => Wf zB0 (Wf zB0 zB1)) zC4 (if (0 : Nat) + (List.take zC8 (List.drop (0 : Nat) a0.2.2.2.2.2.2.2.1)).length ≤ lim then zC2 else none) else none else none) (Wf (if 0 ≤ a1 then if a1 < (↑y.length : Int) then zC0 else none else none) (if (0 : Nat) + (List.take zC8 (List.drop (0 : Nat) a0.2.2.2.2.2.2.2.1)).length ≤ lim then if 0 ≤ a1 then if a1 < (↑y.length : Int) then zC2 else none else none else none)) else none))) ((nth y a1.toNat).bind fun b => if 4 ≤ (↑(List.length a0.2.2.2.2.2.2.2.1) : Int) then if (0 : Nat) + (List.take (Int.toNat 4 - (0 : Nat)) (List.drop (0 : Nat) a0.2.2.2.2.2.2.2.1)).length ≤ lim then (Wq big a0.2.2.2.1 b (List.take (Int.toNat 4 - (0 : Nat)) (List.drop (0 : Nat) a0.2.2.2.2.2.2.2.1))).bind fun a => (Ei y a1.toNat b).bind fun y => ZU n a1 4 a.1 a.2.2.1 a0.1 a0.2.1 a0.2.2.1 a0.2.2.2.1 y a0.2.2.2.2.2.1 a0.2.2.2.2.2.2.1 a0.2.2.2.2.2.2.2.1 a.2.1.1 a.2.1.2.1 a.2.1.2.2.1.1 a.2.1.2.2.1.2.1 a.2.1.2.2.1.2.2.1 a.2.1.2.2.1.2.2.2.1 a.2.1.2.2.2.1.1 a.2.1.2.2.2.1.2.1 a.2.1.2.2.2.1.2.2.1 a.2.1.2.2.2.1.2.2.2.1 a.2.1.2.2.2.2.1.1 a.2.1.2.2.2.2.1.2.1 a.2.1.2.2.2.2.1.2.2.1 a.2.1.2.2.2.2.1.2.2.2.1 a.2.1.2.2.2.2.2.1 a.2.1.2.2.2.2.2.2.1 a.2.1.2.2.2.2.2.2.2.1 a.2.1.2.2.2.2.2.2.2.2.1 a.2.1.2.2.2.2.2.2.2.2.2.1 a.2.1.2.2.2.2.2.2.2.2.2.2.1 a.2.1.2.2.2.2.2.2.2.2.2.2.2.1 else none else none)) ((nth y a1.toNat).bind fun b => if (↑(List.length a0.2.2.2.2.2.2.2.1) : Int) ≤ (↑(List.length a0.2.2.2.2.2.2.2.1) : Int) then if (0 : Nat) + (List.take zC8 (List.drop (0 : Nat) a0.2.2.2.2.2.2.2.1)).length ≤ lim then (Wq big a0.2.2.2.1 b (List.take zC8 (List.drop (0 : Nat) a0.2.2.2.2.2.2.2.1))).bind fun a => (Ei y a1.toNat b).bind fun y => ZU n a1 (↑(List.length a0.2.2.2.2.2.2.2.1) : Int) a.1 a.2.2.1 a0.1 a0.2.1 a0.2.2.1 a0.2.2.2.1 y a0.2.2.2.2.2.1 a0.2.2.2.2.2.2.1 a0.2.2.2.2.2.2.2.1 a.2.1.1 a.2.1.2.1 a.2.1.2.2.1.1 a.2.1.2.2.1.2.1 a.2.1.2.2.1.2.2.1 a.2.1.2.2.1.2.2.2.1 a.2.1.2.2.2.1.1 a.2.1.2.2.2.1.2.1 a.2.1.2.2.2.1.2.2.1 a.2.1.2.2.2.1.2.2.2.1 a.2.1.2.2.2.2.1.1 a.2.1.2.2.2.2.1.2.1 a.2.1.2.2.2.2.1.2.2.1 a.2.1.2.2.2.2.1.2.2.2.1 a.2.1.2.2.2.2.2.1 a.2.1.2.2.2.2.2.2.1 a.2.1.2.2.2.2.2.2.2.1 a.2.1.2.2.2.2.2.2.2.2.1 a.2.1.2.2.2.2.2.2.2.2.2.1 a.2.1.2.2.2.2.2.2.2.2.2.2.1 a.2.1.2.2.2.2.2.2.2.2.2.2.2.1 else none else none)) (Wf zC5 (if (0 : Nat) + (List.take (Int.toNat 4 - (0 : Nat)) (List.drop (0 : Nat) a0.2.2.2.2.2.2.2.1)).length ≤ lim then zC3 else none))) ((nth y a1.toNat).bind fun b => if (0 : Nat) + (List.take (Int.toNat 4 - (0 : Nat)) (List.drop (0 : Nat) a0.2.2.2.2.2.2.2.1)).length ≤ lim then (Wq big a0.2.2.2.1 b (List.take (Int.toNat 4 - (0 : Nat)) (List.drop (0 : Nat) a0.2.2.2.2.2.2.2.1))).bind fun a => (Ei y a1.toNat b).bind fun y => ZU n a1 4 a.1 a.2.2.1 a0.1 a0.2.1 a0.2.2.1 a0.2.2.2.1 y a0.2.2.2.2.2.1 a0.2.2.2.2.2.2.1 a0.2.2.2.2.2.2.2.1 a.2.1.1 a.2.1.2.1 a.2.1.2.2.1.1 a.2.1.2.2.1.2.1 a.2.1.2.2.1.2.2.1 a.2.1.2.2.1.2.2.2.1 a.2.1.2.2.2.1.1 a.2.1.2.2.2.1.2.1 a.2.1.2.2.2.1.2.2.1 a.2.1.2.2.2.1.2.2.2.1 a.2.1.2.2.2.2.1.1 a.2.1.2.2.2.2.1.2.1 a.2.1.2.2.2.2.1.2.2.1 a.2.1.2.2.2.2.1.2.2.2.1 a.2.1.2.2.2.2.2.1 a.2.1.2.2.2.2.2.2.1 a.2.1.2.2.2.2.2.2.2.1 a.2.1.2.2.2.2.2.2.2.2.1 a.2.1.2.2.2.2.2.2.2.2.2.1 a.2.1.2.2.2.2.2.2.2.2.2.2.1 a.2.1.2.2.2.2.2.2.2.2.2.2.2.1 else none)) ((nth y a1.toNat).bind fun b => (Wq big a0.2.2.2.1 b (List.take (Int.toNat 4 - (0 : Nat)) (List.drop (0 : Nat) a0.2.2.2.2.2.2.2.1))).bind fun a => (Ei y a1.toNat b).bind fun y => ZU n a1 4 a.1 a.2.2.1 a0.1 a0.2.1 a0.2.2.1 a0.2.2.2.1 y a0.2.2.2.2.2.1 a0.2.2.2.2.2.2.1 a0.2.2.2.2.2.2.2.1 a.2.1.1 a.2.1.2.1 a.2.1.2.2.1.1 a.2.1.2.2.1.2.1 a.2.1.2.2.1.2.2.1 a.2.1.2.2.1.2.2.2.1 a.2.1.2.2.2.1.1 a.2.1.2.2.2.1.2.1 a.2.1.2.2.2.1.2.2.1 a.2.1.2.2.2.1.2.2.2.1 a.2.1.2.2.2.2.1.1 a.2.1.2.2.2.2.1.2.1 a.2.1.2.2.2.2.1.2.2.1 a.2.1.2.2.2.2.1.2.2.2.1 a.2.1.2.2.2.2.2.1 a.2.1.2.2.2.2.2.2.1 a.2.1.2.2.2.2.2.2.2.1 a.2.1.2.2.2.2.2.2.2.2.1 a.2.1.2.2.2.2.2.2.2.2.2.1 a.2.1.2.2.2.2.2.2.2.2.2.2.1 a.2.1.2.2.2.2.2.2.2.2.2.2.2.1)) (Wf zC4 (if (0 : Nat) + (List.take zC8 (List.drop (0 : Nat) a0.2.2.2.2.2.2.2.1)).length ≤ lim then zC2 else none))) ((nth y a1.toNat).bind fun b => if (0 : Nat) + (List.take zC8 (List.drop (0 : Nat) a0.2.2.2.2.2.2.2.1)).length ≤ lim then (Wq big a0.2.2.2.1 b (List.take zC8 (List.drop (0 : Nat) a0.2.2.2.2.2.2.2.1))).bind fun a => (Ei y a1.toNat b).bind fun y => ZU n a1 (↑(List.length a0.2.2.2.2.2.2.2.1) : Int) a.1 a.2.2.1 a0.1 a0.2.1 a0.2.2.1 a0.2.2.2.1 y a0.2.2.2.2.2.1 a0.2.2.2.2.2.2.1 a0.2.2.2.2.2.2.2.1 a.2.1.1 a.2.1.2.1 a.2.1.2.2.1.1 a.2.1.2.2.1.2.1 a.2.1.2.2.1.2.2.1 a.2.1.2.2.1.2.2.2.1 a.2.1.2.2.2.1.1 a.2.1.2.2.2.1.2.1 a.2.1.2.2.2.1.2.2.1 a.2.1.2.2.2.1.2.2.2.1 a.2.1.2.2.2.2.1.1 a.2.1.2.2.2.2.1.2.1 a.2.1.2.2.2.2.1.2.2.1 a.2.1.2.2.2.2.1.2.2.2.1 a.2.1.2.2.2.2.2.1 a.2.1.2.2.2.2.2.2.1 a.2.1.2.2.2.2.2.2.2.1 a.2.1.2.2.2.2.2.2.2.2.1 a.2.1.2.2.2.2.2.2.2.2.2.1 a.2.1.2.2.2.2.2.2.2.2.2.2.1 a.2.1.2.2.2.2.2.2.2.2.2.2.2.1 else none)) ((nth y a1.toNat).bind fun b => (Wq big a0.2.2.2.1 b (List.take zC8 (List.drop (0 : Nat) a0.2.2.2.2.2.2.2.1))).bind fun a => (Ei y a1.toNat b).bind fun y => ZU n a1 (↑(List.length a0.2.2.2.2.2.2.2.1) : Int) a.1 a.2.2.1 a0.1 a0.2.1 a0.2.2.1 a0.2.2.2.1 y a0.2.2.2.2.2.1 a0.2.2.2.2.2.2.1 a0.2.2.2.2.2.2.2.1 a.2.1.1 a.2.1.2.1 a.2.1.2.2.1.1 a.2.1.2.2.1.2.1 a.2.1.2.2.1.2.2.1 a.2.1.2.2.1.2.2.2.1 a.2.1.2.2.2.1.1 a.2.1.2.2.2.1.2.1 a.2.1.2.2.2.1.2.2.1 a.2.1.2.2.2.1.2.2.2.1 a.2.1.2.2.2.2.1.1 a.2.1.2.2.2.2.1.2.1 a.2.1.2.2.2.2.1.2.2.1 a.2.1.2.2.2.2.1.2.2.2.1 a.2.1.2.2.2.2.2.1 a.2.1.2.2.2.2.2.2.1 a.2.1.2.2.2.2.2.2.2.1 a.2.1.2.2.2.2.2.2.2.2.1 a.2.1.2.2.2.2.2.2.2.2.2.1 a.2.1.2.2.2.2.2.2.2.2.2.2.1 a.2.1.2.2.2.2.2.2.2.2.2.2.2.1)) ((↑(List.length a0.2.2.2.2.2.2.2.1) : Int).toNat - (0 : Nat)) else none else none := by kernel_rfl
theorem BM (n : Nat) (s1 s5 s6 s8 aa ab ac ad ae af ag ah ai aj ak al am an ao ap aq ar au av aw ax ay az ba bb bc bd be) : ZU (n + 1) s1 s5 s6 s8 aa ab ac ad ae af ag ah ai aj ak al am an ao ap aq ar au av aw ax ay az ba bb bc bd be = bif decide (s8 < 0) then some (false, (aa, ab, ac, ad, ae, af, ag, ah, ()), ()) else if 0 ≤ s1 then if s1 < (↑ae.length : Int) then (nth ae s1.toNat).bind fun y => if 0 ≤ s5 then if s5 ≤ (↑ah.length : Int) then if (0 : Nat) + (List.take (ah.length - s5.toNat) (List.drop s5.toNat ah)).length ≤ lim then (Gs big s6 (ai, aj, (ak, al, am, an, ()), (ao, ap, aq, ar, ()), (au, av, aw, ax, ()), ay, az, ba, bb, bc, bd, be, ()) s8 aa).bind fun y => (Ei ae s1.toNat (ai, aj, (ak, al, am, an, ()), (ao, ap, aq, ar, ()), (au, av, aw, ax, ()), ay, az, ba, bb, bc, bd, be, ())).bind fun c => (W4 big (aa, ab, ac, s6, c, af, ag, List.take (ah.length - s5.toNat) (List.drop s5.toNat ah), ()) y).bind fun y => some (true, y.2) else none else none else none else none else none := by kernel_rfl
def G0 : Yf := (96, TF) :: DE
theorem Fp : Yg G0 := cons_cons ZbS DF
def ZgN := FX.mk (true, true, [3, 7, 11, 12, 13, 17, 19, 20, 21, 24, 28, 33, 39, 46, 55, 61, 66, 67, 69, 73, 74, 75, 77, 79, 80, 81, 83, 84, 85, 87]) G0 [] [none] Tryz.f51 (shO (shV ZA) [.mu Zz])
def ZgO : Con := cA ZgN [.mu Zz, .ro Yz] true
theorem ZgP : CO 51 ZgO := Vr Fp
def TG (n : Nat) (a0 : Zi) (a1 : Yl) : Option (Bool × Zi × Unit) := qA ZgN [.mu Zz, .ro Yz] n (a0, a1, ())
theorem ZgQ (n : Nat) (a0 a1) : TG n a0 a1 =
  bif decide (a1.1 = (1 : Int)) then
 bif decide ((8 : Int) ≤ (↑(List.length a0.2.2.2.2.2.2.2.1) : Int)) then some (false, a0, PUnit.unit)
 else
 Wf
 (Wf
 (if (0 : Nat) + List.length a0.2.2.2.2.2.2.2.1 ≤ lim then
 if List.length a0.2.2.2.2.2.2.2.1 + [a1.2.2.2.2.1].length ≤ lim then
 some
 (true,
 (a0.1, a0.2.1, a0.2.2.1, a0.2.2.2.1, a0.2.2.2.2.1,
 a0.2.2.2.2.2.1, a0.2.2.2.2.2.2.1,
 List.append a0.2.2.2.2.2.2.2.1 [a1.2.2.2.2.1], PUnit.unit),
 PUnit.unit)
 else none
 else none)
 (if (0 : Nat) + List.length a0.2.2.2.2.2.2.2.1 ≤ lim then
 if List.length a0.2.2.2.2.2.2.2.1 + [a1.2.2.2.2.1].length ≤ lim then
 some
 (true,
 (a0.1, a0.2.1, a0.2.2.1, a0.2.2.2.1, a0.2.2.2.2.1,
 a0.2.2.2.2.2.1, a0.2.2.2.2.2.2.1,
 List.append a0.2.2.2.2.2.2.2.1 [a1.2.2.2.2.1], PUnit.unit),
 PUnit.unit)
 else none
 else none))
 (if (0 : Nat) + List.length a0.2.2.2.2.2.2.2.1 ≤ lim then
 if List.length a0.2.2.2.2.2.2.2.1 + [a1.2.2.2.2.1].length ≤ lim then
 some
 (true,
 (a0.1, a0.2.1, a0.2.2.1, a0.2.2.2.1, a0.2.2.2.2.1,
 a0.2.2.2.2.2.1, a0.2.2.2.2.2.2.1,
 List.append a0.2.2.2.2.2.2.2.1 [a1.2.2.2.2.1], PUnit.unit),
 PUnit.unit)
 else none
 else none)
 else
 bif decide (a1.1 = (2 : Int)) then (GZ big a0 a1.2.1).bind fun y => some y
 else
 bif decide (a1.1 = (3 : Int)) then (De big a0 a1.2.1).bind fun y => some y
 else
 bif decide (a1.1 = (4 : Int)) then (Ef big a0 a1.2.1).bind fun y => some (y.1.2.1, y.2)
 else
 bif decide (a1.1 = (5 : Int)) then (N4 big a0 a1.2.1).bind fun y => some y
 else
 bif decide (a1.1 = (6 : Int)) then (GL big a0 a1.2.1).bind fun y => some y
 else
 bif decide (a1.1 = (7 : Int)) then
 (XM big a0 a1.2.1).bind fun y =>
 bif !y then some (false, a0, PUnit.unit)
 else
 if (0 : Int) ≤ a1.2.1 then
 if a1.2.1 < (↑(List.length a0.2.2.2.2.1) : Int) then
 (nth a0.2.2.2.2.1 (Int.toNat a1.2.1)).bind fun y =>
 (MC big a0.2.2.2.1 y).bind fun a =>
 (Ei a0.2.2.2.2.1 (Int.toNat a1.2.1) y).bind fun y =>
 if (0 : Int) ≤ a1.2.1 then
 if a1.2.1 < (↑y.length : Int) then
 (nth y (Int.toNat a1.2.1)).bind fun b =>
 (Ei y (Int.toNat a1.2.1) a).bind fun y =>
 some
 (true,
 (a0.1, a0.2.1, a0.2.2.1, a0.2.2.2.1, y,
 a0.2.2.2.2.2),
 PUnit.unit)
 else none
 else none
 else none
 else none
 else (ME big a0 a1).bind fun y => some y := by kernel_rfl
def TH : Yf := (51, ZgO) :: G0
theorem Ol : Yg TH := cons_cons ZgP Fp
abbrev DG : W0 := ([.drop, .drop, .drop, .drop, .drop, .is (.ptr 0 0), .ro ZA, .ro Zc, .ro Zc, .is (.ptr 7 0), .drop, .own Zy, .drop, .drop, .drop, .drop, .drop, .drop, .drop, .drop, .drop, .drop, .drop, .drop, .drop, .drop, .drop, .drop, .drop, .drop, .drop, .drop, .drop, .drop, .drop, .drop, .drop, .drop, .drop, .drop, .drop, .drop, .drop, .drop, .drop, .drop, .drop, .drop, .drop], [.vars [.ro Z9, .ro Zc, .ro Zc], .drop, .drop, .drop, .drop, .drop, .drop, .vars [.ro Zc, .ro ZA, .ro Zc, .own Zr, .own ZR, .own Zd, .own Zh, .own ZH]])
def AF := FX.mk (false, false, [9, 12]) TH [(9, DG)] [none, none, some Re] Tryz.f24 (shT [(false, ZA), (false, Zk), (true, Re)])
def IV : Con := cR AF [Z9] true
theorem OQ : CO 24 IV := ZI Ol
def AG (n : Nat) (a0 : Vq) : Option (Bool × Int × Rg × Unit) := qR AF [Z9] n (a0, ())
def XB (n : Nat) (s6 : Bool) (s7 s8 : Int) (s11 : List Zs) (aa : Vq) (ab ac ad : Int) (ae : Bool) (af : Int) (ag : List Zt) (ah : List ZS) (ai : List Zg) (aj : List Zl) (ak : List Z5) : Option (Bool × Int × Rg × Unit) := rR AF (zs [Z9]) 9 DG n (s6, s7, s8, s11, ()) ((aa, ab, ac, ()), (ad, ae, af, ag, ah, ai, aj, ak, ()), ())
theorem OR (n : Nat) (a0) : AG n a0 =
  (Ea big a0).bind fun y =>
 (Ai big y (2 : Int)).bind fun y =>
 (XY big y.2.1 [(0 : Int), (8 : Int), (8 : Int), (1 : Int), (2 : Int)]).bind fun a =>
 bif
 decide
 ((110 : Int) <
 K6.wrap ((24 : Int) + K6.wrap ((↑(List.length a0) : Int).tdiv (2 : Int)))) then
 (Xa big (4 : Int) y.1 a.1).bind fun b =>
 XB n y.1 a.1 (110 : Int) [] a.2.1.1 a.2.1.2.1 a.2.1.2.2.1
 b.1.1 b.1.2.1 b.1.2.2.1 b.1.2.2.2.1 b.1.2.2.2.2.1
 b.1.2.2.2.2.2.1 b.1.2.2.2.2.2.2.1
 b.1.2.2.2.2.2.2.2.1
 else
 (Xa big (4 : Int) y.1 a.1).bind fun b =>
 XB n y.1 a.1
 (K6.wrap ((24 : Int) + K6.wrap ((↑(List.length a0) : Int).tdiv (2 : Int)))) []
 a.2.1.1 a.2.1.2.1 a.2.1.2.2.1 b.1.1 b.1.2.1
 b.1.2.2.1 b.1.2.2.2.1 b.1.2.2.2.2.1 b.1.2.2.2.2.2.1
 b.1.2.2.2.2.2.2.1 b.1.2.2.2.2.2.2.2.1 := by kernel_rfl
theorem KF (n : Nat) (s6 s7 s8 s11 aa ab ac ad ae af ag ah ai aj ak) : XB (n + 1) s6 s7 s8 s11 aa ab ac ad ae af ag ah ai aj ak =
  bif decide ((↑s11.length : Int) < s8) then
 (DD big (aa, ab, ac, ()) (ad, ae, af, ag, ah, ai, aj, ak, ())).bind fun y =>
 (TG big (ad, ae, af, y.2.2.1.2.2.2) y.1).bind fun a =>
 if s11.length + (1 : Nat) ≤ lim then
 XB n s6 s7 s8 (s11.append [y.1]) y.2.1.1 y.2.1.2.1 y.2.1.2.2.1
 a.2.1.1 a.2.1.2.1 a.2.1.2.2.1 a.2.1.2.2.2.1
 a.2.1.2.2.2.2.1 a.2.1.2.2.2.2.2.1 a.2.1.2.2.2.2.2.2.1
 a.2.1.2.2.2.2.2.2.2.1
 else none
 else some (s6, s7, s11, PUnit.unit) := by kernel_rfl
def IW : Yf := (24, IV) :: TH
theorem OS : Yg IW := cons_cons OQ Ol
end
end Go.Sx.Tryz
