/- That a run goes through: a calculus; and the draws. -/
import Derived.Test.YtocddfdkknhgcaaGreatM8
import Derived.Test.YtocddfdkknhgcaaGreatTypes
import Derived.Test.YtocddfdkknhgcaaGreatPacesF1
import Derived.Test.YtocddfdkknhgcaaGreatPacesF2
set_option linter.unusedVariables false
set_option linter.unusedSimpArgs false
set_option maxRecDepth 100000
namespace Go.Sx.Tryz
open Go Go.Sx Go.Proofs
def Ok {α : Type} (x : Option α) (P : α → Prop) : Prop := ∃ r, x = some r ∧ P r
theorem Zb {α : Type} {P : α → Prop} {r : α} (h : P r) : Ok (some r) P := ⟨r, rfl, h⟩
theorem Zd {α β : Type} {x : Option α} {f : α → Option β} {Q : α → Prop} {P : β → Prop} (h : Ok x Q) (k : ∀ r, Q r → Ok (f r) P) : Ok (x.bind f) P := by
 obtain ⟨r, rfl, hq⟩ := h
 exact k r hq
theorem ZA {α : Type} {c : Prop} [Decidable c] {x : Option α} {P : α → Prop} (hc : c) (h : Ok x P) : Ok (if c then x else none) P := by rw [if_pos hc]; exact h
theorem Zbi {α : Type} {c : Prop} [Decidable c] {x : Option α} {P : α → Prop} (hc : ¬ c) (h : Ok x P) : Ok (if c then none else x) P := by rw [if_neg hc]; exact h
theorem Yf {α : Type} {b : Bool} {x y : Option α} {P : α → Prop} (h1 : b = true → Ok x P) (h0 : b = false → Ok y P) : Ok (bif b then x else y) P := by
 cases b with
 | true => exact h1 rfl
 | false => exact h0 rfl
theorem Zj {α : Type} {p : Prop} [Decidable p] {x y : Option α} {P : α → Prop} (h1 : p → Ok x P) (h0 : ¬ p → Ok y P) : Ok (bif decide p then x else y) P :=
 Yf (fun h => h1 (of_decide_eq_true h)) (fun h => h0 (of_decide_eq_false h))
theorem Yw {α : Type} {p : Prop} [Decidable p] {x y : Option α} {P : α → Prop} (h1 : ¬ p → Ok x P) (h0 : p → Ok y P) : Ok (bif !decide p then x else y) P :=
 Yf (fun h => h1 (of_decide_eq_false (by simpa using h))) (fun h => h0 (of_decide_eq_true (by simpa using h)))
theorem Z7 {α : Type} {b : Bool} {x y : Option α} {P : α → Prop} (h1 : b = false → Ok x P) (h0 : b = true → Ok y P) : Ok (bif !b then x else y) P := by
 cases b with
 | true => exact h0 rfl
 | false => exact h1 rfl
theorem ZS {α β : Type} {l : List α} {i : Nat} {f : α → Option β} {P : β → Prop} (hi : i < l.length) (k : ∀ y, y ∈ l → Ok (f y) P) : Ok ((nth l i).bind f) P := by
 rw [Wy hi]
 exact k _ (List.getElem_mem hi)
theorem ZdV {α β : Type} {l : List α} {i : Nat} {y : α} {f : List α → Option β} {P : β → Prop} (hi : i < l.length) (k : Ok (f (upd l i y)) P) : Ok ((Zdf l i y).bind f) P := by
 rw [Zxb hi]
 exact k
theorem VH {α : Type} {x : Option α} {P Q : α → Prop} (h : Ok x P) (k : ∀ r, P r → Q r) : Ok x Q := by
 obtain ⟨r, e, h⟩ := h; exact ⟨r, e, k r h⟩
/-! ### The draws -/
structure Zde (c : ZF) : Prop where
 lo : 0 ≤ c.2.1
 hi : c.2.1 ≤ (List.length c.1 : Int)
 len : List.length c.1 ≤ 1099511627776
theorem Zyp (z : Int) : 0 ≤ IntKind.i64.wrap ((BitVec.ofInt IntKind.i64.bits z &&& BitVec.ofInt IntKind.i64.bits 255).toNat : Int) ∧ IntKind.i64.wrap ((BitVec.ofInt IntKind.i64.bits z &&& BitVec.ofInt IntKind.i64.bits 255).toNat : Int) ≤ 255 := by
 have h : (BitVec.ofInt IntKind.i64.bits z &&& BitVec.ofInt IntKind.i64.bits 255).toNat ≤ 255 := by
  rw [BitVec.toNat_and]
  exact Nat.le_trans Nat.and_le_right (by decide)
 rw [ZK (by omega) (by omega)]
 omega
theorem Zwg {c : ZF} (h : Zde c) : Ok (WU big c) fun r => 0 ≤ r.1 ∧ r.1 ≤ 255 ∧ Zde r.2.1 := by
 rw [Zoa]
 have hlo := h.lo; have hhi := h.hi; have hlen := h.len
 refine Zj (fun hc => ?_) (fun hc => ?_)
 ·refine ZA hlo (ZS (by omega) fun y _ => Zb ?_)
  refine ⟨(Zyp _).1, (Zyp _).2, ?_, ?_, hlen⟩
  ·show 0 ≤ IntKind.i64.wrap (c.2.1 + 1)
   rw [ZK (by omega) (by omega)]; omega
  ·show IntKind.i64.wrap (c.2.1 + 1) ≤ (List.length c.1 : Int)
   rw [ZK (by omega) (by omega)]; omega
 ·exact Zb ⟨(Zyp _).1, (Zyp _).2, hlo, hhi, hlen⟩
theorem ZtC {a n : Int} (ha : 0 ≤ a) (hn : 0 < n) : 0 ≤ Int.tmod a n ∧ Int.tmod a n < n := ⟨Int.tmod_nonneg _ ha, Int.tmod_lt_of_pos _ hn⟩
theorem Xd {c : ZF} (h : Zde c) (n : Int) : Ok (ZY big c n) fun r => 0 ≤ r.1 ∧ (0 < n → r.1 < n) ∧ (n ≤ 0 → r.1 = 0) ∧ Zde r.2.1 := by
 rw [ZkK]
 refine Zj (fun hc => Zb ⟨Int.le_refl _, fun h2 => by omega, fun _ => rfl, h⟩) (fun hc => ?_)
 refine Zj (fun hc2 => ?_) (fun hc2 => ?_)
 ·refine Zd (Zwg h) fun y hy => ?_
  refine Zbi (by omega) (Zb ?_)
  have := ZtC hy.1 (show 0 < n by omega)
  exact ⟨this.1, fun _ => this.2, fun h2 => by omega, hy.2.2⟩
 ·refine Zd (Zwg h) fun y hy => Zd (Zwg hy.2.2) fun y1 hy1 => Zd (Zwg hy1.2.2) fun y2 hy2 => Zd (Zwg hy2.2.2) fun y3 hy3 => ?_
  refine Zbi (by omega) (Zb ?_)
  obtain ⟨a1, a2, _⟩ := hy; obtain ⟨b1, b2, _⟩ := hy1; obtain ⟨c1, c2, _⟩ := hy2; obtain ⟨d1, d2, hd⟩ := hy3
  have e : 0 ≤ IntKind.i64.wrap (IntKind.i64.wrap (IntKind.i64.wrap (IntKind.i64.wrap (y.1 * 16777216) + IntKind.i64.wrap (y1.1 * 65536)) + IntKind.i64.wrap (y2.1 * 256)) + y3.1) := by
   rw [ZK (n := y.1 * 16777216) (by omega) (by omega), ZK (n := y1.1 * 65536) (by omega) (by omega), ZK (n := y2.1 * 256) (by omega) (by omega),
    ZK (n := y.1 * 16777216 + y1.1 * 65536) (by omega) (by omega), ZK (n := y.1 * 16777216 + y1.1 * 65536 + y2.1 * 256) (by omega) (by omega), ZK (by omega) (by omega)]
   omega
  have := ZtC e (show 0 < n by omega)
  exact ⟨this.1, fun _ => this.2, fun h2 => by omega, hd⟩
theorem ZBg {c : ZF} (h : Zde c) (n : Int) : Ok (Q3 big c n) fun r => Zde r.2.1 := by
 rw [Zoc]
 exact Zd (Xd h n) fun y hy => Zb hy.2.2.2
theorem JX {c : ZF} (h : Zde c) (l : List Int) (hl : 0 < l.length) : Ok (Xe big c l) fun r => r.1 ∈ l ∧ Zde r.2.1 := by
 rw [ZgP]
 refine Zd (Xd h _) fun y hy => ZA hy.1 ?_
 have := hy.2.1 (by omega)
 exact ZS (by omega) fun z hz => Zb ⟨hz, hy.2.2.2⟩
theorem ZFa {c : ZF} (h : Zde c) (l : List ByteArray) (hl : 0 < l.length) : Ok (Zeh big c l) fun r => r.1 ∈ l ∧ Zde r.2.1 := by
 rw [Zof]
 refine Zd (Xd h _) fun y hy => ZA hy.1 ?_
 have := hy.2.1 (by omega)
 exact ZS (by omega) fun z hz => Zb ⟨hz, hy.2.2.2⟩
theorem Zyq (code : List Int) (hl : code.length ≤ 1099511627776) : ∀ (k n : Nat) (a i : Int), 0 ≤ i → (code.length : Int) ≤ i + k → k < n → i ≤ code.length → Ok (Kw n code a i) fun c => c = (code, 0, c.2.2.1, ())
 | k, 0, a, i, _, _, h, _ => by omega
 | k, n + 1, a, i, h0, h1, h2, h3 => by
  rw [ZkF]
  refine Zj (fun hc => ?_) (fun _ => Zb rfl)
  refine Zj (fun _ => ?_) (fun _ => Zb rfl)
  refine ZA h0 (ZS (by omega) fun y _ => ?_)
  rw [ZK (n := i + 1) (by omega) (by omega)]
  cases k with
  | zero => omega
  | succ k => exact Zyq code hl k n _ _ (by omega) (by omega) (by omega) (by omega)
theorem ZDZ (code : List Int) (hl : code.length ≤ 1099511627776) : Ok (JG big code) fun c => Zde c := by
 rw [Zr0]
 refine VH (Zyq code hl code.length big _ 0 (by omega) (by omega) (by unfold big; omega) (by omega)) fun c hc => ?_
 rw [hc]
 exact ⟨Int.le_refl _, by show (0 : Int) ≤ _; omega, hl⟩
theorem Zgu (a lo hi : Int) : ZQ big a lo hi = some (decide (lo ≤ a) && decide (a ≤ hi)) := by
 rw [ZhC]
 cases decide (lo ≤ a) <;> rfl
end Go.Sx.Tryz
set_option maxRecDepth 100000
namespace Go.Sx.Tryz
open Go Go.Sx Go.Proofs
theorem Zi0 (x : Int) : ¬ IntKind.u64.wrap x < 0 := by
 unfold IntKind.wrap
 simp only [IntKind.bits, IntKind.signed]
 have : (0 : Int) < 2 ^ 64 := by decide
 have := Int.emod_nonneg x (show (2 : Int) ^ 64 ≠ 0 by decide)
 simp
 omega
theorem ZnH (s : Int) : Ok (Xh big s) fun _ => True := by
 rw [WH]
 have loop : ∀ (k n : Nat) (a i : Int), 0 ≤ i → i ≤ 7 → 7 ≤ i + k → k < n → Ok (Qh n s a i) fun _ => True := by
  intro k
  induction k with
  | zero =>
   intro n a i h0 h1 h2 h3
   obtain ⟨n, rfl⟩ : ∃ m, n = m + 1 := ⟨n - 1, by omega⟩
   rw [Xl]
   exact Zj (fun hc => by omega) (fun _ => Zb trivial)
  | succ k ih =>
   intro n a i h0 h1 h2 h3
   obtain ⟨n, rfl⟩ : ∃ m, n = m + 1 := ⟨n - 1, by omega⟩
   rw [Xl]
   refine Zj (fun hc => Zj (fun _ => Zbi (Zi0 _) ?_) (fun _ => Zb trivial)) (fun _ => Zb trivial)
   rw [ZK (n := i + 1) (by omega) (by omega)]
   exact ih n _ _ (by omega) (by omega) (by omega) (by omega)
 exact loop 7 big 0 0 (by omega) (by omega) (by omega) (by unfold big; omega)
theorem ZCD (n : Int) : Ok (JH big n) fun _ => True := by
 rw [Zfo]
 exact Zj (fun _ => Zb trivial) (fun _ => Zb trivial)
theorem ZjK (n : Int) : Ok (QR big n) fun _ => True := by
 rw [Zsb]
 exact Zd (ZCD n) fun _ _ => Zb trivial
theorem Wx (v n : Int) : Ok (YA big v n) fun _ => True := by
 rw [ZbF]
 exact Zj (fun _ => Zb trivial) fun h => Zj (fun _ => Zb trivial) fun _ => Zbi (by omega) (Zb trivial)
theorem ZnI (x : Zl) (i : Int) : Ok (Ws big x i) fun _ => True := by
 rw [Zxi]
 refine Zj (fun _ => ?_) (fun _ => Zb trivial)
 rw [Zgu]
 refine Zd (Zb (P := fun _ => True) trivial) fun y _ => Yf (fun _ => Zj (fun _ => Zbi (Zi0 _) (Zb trivial)) (fun _ => Zb trivial)) (fun _ => Zb trivial)
theorem Zgq (x : Zl) (i : Int) (hl : List.length x.2.2.2.2.1 ≤ 1000) : Ok (XM big x i) fun b => b = true → 0 ≤ i ∧ i < (List.length x.2.2.2.2.1 : Int) := by
 rw [Zi4, Zgu]
 rw [ZK (n := (List.length x.2.2.2.2.1 : Int) - 1) (by omega) (by omega)]
 simp only [Option.bind_some]
 refine Yf (fun h => ?_) (fun _ => Zb fun h => by cases h)
 simp only [Bool.and_eq_true, decide_eq_true_eq] at h
 rw [Zgu]
 simp only [Option.bind_some]
 exact Yf (fun _ => Zd (ZnI x i) fun _ _ => Zb fun _ => ⟨h.1, by omega⟩) (fun _ => Zb fun h => by cases h)
theorem ZaT (a b : Zbm) : Ok (Xt big a b) fun r => r = a ∨ r = b := by
 rw [ZkU]
 exact Zj (fun _ => Zb (.inr rfl)) (fun _ => Zb (.inl rfl))
theorem ZCE (p : Zq) (a b : Int) : Ok (VX big p a b) fun _ => True := by
 rw [Zow]
 exact Zj (fun _ => Zb trivial) fun _ => Zj (fun _ => Zb trivial) (fun _ => Zb trivial)
/-! ### A loop with a counter that goes up -/
theorem ZBh {α : Type} {P : α → Prop} {L : Nat} (hL : L ≤ 4294967296) {I : Int → Prop} {f : Nat → Int → Option α}
  (step : ∀ (n : Nat) (i : Int), 0 ≤ i → i < L → I i → (∀ i', i' = i + 1 → I i' → Ok (f n i') P) → Ok (f (n + 1) i) P)
  (done : ∀ n : Nat, I L → Ok (f (n + 1) L) P) : ∀ (k n : Nat) (i : Int), 0 ≤ i → i ≤ L → (L : Int) ≤ i + k → k < n → I i → Ok (f n i) P
 | k, 0, i, _, _, _, h, _ => by omega
 | 0, n + 1, i, h0, h1, h2, _, hi => by
  have : i = L := by omega
  subst this
  exact done n hi
 | k + 1, n + 1, i, h0, h1, h2, h3, hi => by
  rcases Int.lt_or_le i L with hl | hl
  ·exact step n i h0 hl hi fun i' e hi' => ZBh hL step done k n i' (by omega) (by omega) (by omega) (by omega) hi'
  ·have : i = L := by omega
   subst this
   exact done n hi
theorem up0 {α : Type} {P : α → Prop} {L : Nat} (hL : L ≤ 4294967296) {f : Nat → Int → Option α}
  (step : ∀ (n : Nat) (i : Int), 0 ≤ i → i < L → (∀ i', i' = i + 1 → Ok (f n i') P) → Ok (f (n + 1) i) P)
  (done : ∀ n : Nat, Ok (f (n + 1) L) P) : Ok (f big 0) P :=
 ZBh (I := fun _ => True) hL (fun n i h0 h1 _ k => step n i h0 h1 fun i' e => k i' e trivial) (fun n _ => done n) L big 0 (by omega) (by omega) (by omega) (by unfold big; omega) trivial
theorem ZGi (l : List ZX) (v : ZX) (hl : l.length ≤ 4294967296) : Ok (ZgT big l v) fun _ => True := by
 rw [Zsq]
 refine up0 (L := l.length) hl (f := fun n i => W6 n l i v.1 v.2.1 v.2.2.1 v.2.2.2.1) (fun n i h0 h1 k => ?_) (fun n => ?_)
 ·rw [ZbN, ZK (n := i + 1) (by omega) (by omega)]
  refine Zj (fun _ => ZA h0 (ZS (by omega) fun y _ => Zj (fun _ => ZA h0 (ZS (by omega) fun y _ => Zj (fun _ => ZA h0 (ZS (by omega) fun y _ => Zj (fun _ => Zb trivial) (fun _ => k _ rfl))) (fun _ => k _ rfl))) (fun _ => k _ rfl))) (fun h => by omega)
 ·rw [ZbN]
  exact Zj (fun h => by omega) (fun _ => Zb trivial)
theorem ZxG (s : ByteArray) (hs : s.size ≤ 4294967296) : Ok (ZbK big s) fun _ => True := by
 rw [ZuM]
 have hl : s.data.toList.length = s.size := by rw [Array.length_toList]; rfl
 refine up0 (L := s.size) hs (f := fun n i => Zai n s i) (fun n i h0 h1 k => ?_) (fun n => ?_)
 ·rw [Zdt, ZK (n := i + 1) (by omega) (by omega)]
  refine Zj (fun _ => ZA h0 (ZS (by omega) fun y _ => Zj (fun _ => Zb trivial) fun _ => ZA h0 (ZS (by omega) fun y _ => Zj (fun _ => Zb trivial) fun _ => k _ rfl))) (fun h => by omega)
 ·rw [Zdt, Zgu]
  exact Zj (fun h => by omega) (fun _ => Zb trivial)
end Go.Sx.Tryz
set_option maxRecDepth 100000
namespace Go.Sx.Tryz
open Go Go.Sx Go.Proofs
structure ZFb (l : List Vc) : Prop where
 len : l.length ≤ 4
 key : ∀ c ∈ l, ByteArray.size c.2.1 ≤ 1000
structure XT (t : List ZN) : Prop where
 lo : 1 ≤ t.length
 hi : t.length ≤ 60
 cmds : ∀ b ∈ t, ZFb b.2.2.1
 view : ∀ b ∈ t, 0 ≤ b.2.1 ∧ b.2.1 ≤ 900
inductive Up (t : List ZN) : Int → Prop
 | zero : Up t 0
 | step {k : Int} {b : ZN} : 0 < k → k < t.length → nth t k.toNat = some b → 0 ≤ b.1 → b.1 < k → Up t b.1 → Up t k
theorem Zhh {t : List ZN} (ht : XT t) (k : Int) : Ok (Uy big t k) fun h => (0 ≤ h → Up t k) ∧ (k = 0 → h ≤ 0) := by
 have hlo := ht.lo; have hhi := ht.hi
 rw [Zlm]
 have loop : ∀ (m n : Nat) (k a : Int), k ≤ m → m < n → Ok (Ua n t k a) fun h => (0 ≤ h → Up t k) ∧ (k = 0 → h = a) := by
  intro m
  induction m with
  | zero =>
   intro n k a h1 h2
   obtain ⟨n, rfl⟩ : ∃ m, n = m + 1 := ⟨n - 1, by omega⟩
   rw [VY, Zgu]
   refine Yw (fun hk => ?_) (fun hk => ?_)
   ·simp only [Option.bind_some]
    have : (decide (0 ≤ k) && decide (k ≤ IntKind.i64.wrap ((↑(List.length t) : Int) - 1))) = false := by
     rw [decide_eq_false (by omega)]; rfl
    rw [this]
    exact Zb ⟨fun h => by omega, fun h => absurd h hk⟩
   ·subst hk
    exact Zj (fun h => by omega) (fun _ => Zb ⟨fun _ => .zero, fun _ => rfl⟩)
  | succ m ih =>
   intro n k a h1 h2
   obtain ⟨n, rfl⟩ : ∃ m, n = m + 1 := ⟨n - 1, by omega⟩
   rw [VY, Zgu, ZK (n := (↑(List.length t) : Int) - 1) (by omega) (by omega)]
   refine Yw (fun hk => ?_) (fun hk => ?_)
   ·simp only [Option.bind_some]
    refine Z7 (fun _ => Zb ⟨fun h => by omega, fun h => absurd h hk⟩) (fun hc => ?_)
    simp only [Bool.and_eq_true, decide_eq_true_eq] at hc
    have hlt : k.toNat < t.length := by omega
    have hn : nth t k.toNat = some t[k.toNat] := Wy hlt
    rw [hn]
    simp only [Option.bind_some, Zgu]
    refine ZA hc.1 (Z7 (fun _ => Zb ⟨fun h => by omega, fun h => absurd h hk⟩) (fun hd => ZA hc.1 ?_))
    rw [ZK (n := k - 1) (by omega) (by omega)] at hd
    simp only [Bool.and_eq_true, decide_eq_true_eq] at hd
    refine VH (ih n _ _ (by omega) (by omega)) fun h hh => ⟨fun h0 => .step (by omega) (by omega) hn hd.1 (by omega) (hh.1 h0), fun e => absurd e hk⟩
   ·subst hk
    exact Zj (fun h => by omega) (fun _ => Zb ⟨fun _ => .zero, fun _ => rfl⟩)
 rcases Int.lt_or_le 60 k with hk | hk
 ·obtain ⟨n, hn⟩ : ∃ n, big = n + 1 := ⟨big - 1, rfl⟩
  rw [hn, VY, Zgu, ZK (n := (↑(List.length t) : Int) - 1) (by omega) (by omega)]
  refine Yw (fun _ => ?_) (fun h => by omega)
  simp only [Option.bind_some]
  refine Z7 (fun _ => Zb ⟨fun h => by omega, fun h => by omega⟩) (fun hc => ?_)
  simp only [Bool.and_eq_true, decide_eq_true_eq] at hc
  omega
 ·exact VH (loop 60 big k 0 (by omega) (by unfold big; omega)) fun h hh => ⟨hh.1, fun e => by have := hh.2 e; omega⟩
theorem Up.lt {t : List ZN} {k : Int} (h : Up t k) (ht : 1 ≤ t.length) : 0 ≤ k ∧ k < t.length := by
 cases h with
 | zero => exact ⟨Int.le_refl _, by omega⟩
 | step h1 h2 _ _ _ _ => exact ⟨by omega, h2⟩
theorem ZnJ {t : List ZN} (ht : XT t) (k u : Int) : Ok (Q6 big t k u) fun b => b = true → Up t k := by
 have hlo := ht.lo; have hhi := ht.hi
 rw [Zoz]
 have loop : ∀ {k : Int}, Up t k → ∀ n : Nat, k < n → Ok (Qs n t k u) fun _ => True := by
  intro k hk
  induction hk with
  | zero =>
   intro n h2
   obtain ⟨n, rfl⟩ : ∃ m, n = m + 1 := ⟨n - 1, by omega⟩
   rw [ZaZ]
   exact Zj (fun h => by omega) (fun _ => Zb trivial)
  | step h1 h2 h3 h4 h5 _ ih =>
   intro n hn
   obtain ⟨n, rfl⟩ : ∃ m, n = m + 1 := ⟨n - 1, by omega⟩
   rw [ZaZ, h3]
   simp only [Option.bind_some]
   exact Zj (fun _ => Yw (fun _ => ZA (by omega) (ih n (by omega))) (fun _ => Zb trivial)) (fun h => by omega)
 refine Zd (Zhh ht k) fun h hh => Zj (fun _ => Zb fun e => by cases e) (fun hc => ?_)
 have hu := hh.1 (by omega)
 exact VH (loop hu big (by have := (hu.lt hlo).2; unfold big; omega)) fun _ _ _ => hu
theorem ZD0 {t : List ZN} (ht : XT t) (k : Int) : Ok (ZlA big t k) fun l => l.length ≤ 60 ∧ ∀ x ∈ l, 0 ≤ x ∧ x < t.length := by
 have hlo := ht.lo; have hhi := ht.hi
 rw [Zu8]
 have loop : ∀ {k : Int}, Up t k → ∀ (n : Nat) (l : List Int), k < n → (l.length : Int) + k ≤ 60 → (∀ x ∈ l, 0 ≤ x ∧ x < t.length) → Ok (Zap n t k l) fun l => l.length ≤ 60 ∧ ∀ x ∈ l, 0 ≤ x ∧ x < t.length := by
  intro k hk
  induction hk with
  | zero =>
   intro n l h2 hl hx
   obtain ⟨n, rfl⟩ : ∃ m, n = m + 1 := ⟨n - 1, by omega⟩
   rw [ZdD]
   exact Zj (fun h => by omega) (fun _ => Zb ⟨by omega, hx⟩)
  | @step k b h1 h2 h3 h4 h5 _ ih =>
   intro n l hn hl hx
   obtain ⟨n, rfl⟩ : ∃ m, n = m + 1 := ⟨n - 1, by omega⟩
   rw [ZdD, h3]
   simp only [Option.bind_some]
   refine Zj (fun _ => ZA (by simp only [List.length_singleton]; unfold lim; omega) (ZA (by omega) (ih n (k :: l) (by omega) (by simp only [List.length_cons]; omega) ?_))) (fun h => by omega)
   intro x hm
   rcases List.mem_cons.1 hm with rfl | hm
   ·exact ⟨by omega, h2⟩
   ·exact hx x hm
 refine Zd (Zhh ht k) fun h hh => Zj (fun _ => Zb ⟨by simp, by simp⟩) (fun hc => ?_)
 have hu := hh.1 (by omega)
 have := (hu.lt hlo).2
 exact loop hu big [] (by unfold big; omega) (by simp only [List.length_nil]; omega) (by simp)
theorem Zrj {t : List ZN} (ht : XT t) (k u : Int) : Ok (KJ big t k u) fun l => l.length ≤ 60 ∧ ∀ x ∈ l, 0 ≤ x ∧ x < t.length := by
 rw [ZlC]
 refine Zd (ZnJ ht k u) fun b _ => Z7 (fun _ => Zb ⟨by simp, by simp⟩) (fun _ => Zd (ZD0 ht k) fun row hrow => ?_)
 have loop : ∀ (m n : Nat) (i : Int) (l : List Int), 0 ≤ i → i ≤ row.length → (row.length : Int) ≤ i + m → m < n → (l.length : Int) ≤ i → (∀ x ∈ l, 0 ≤ x ∧ x < t.length) →
   Ok (WI n u l i row) fun l => l.length ≤ 60 ∧ ∀ x ∈ l, 0 ≤ x ∧ x < t.length := by
  have hr := hrow.1
  intro m
  induction m with
  | zero =>
   intro n i l h0 h1 h2 h3 h4 h5
   obtain ⟨n, rfl⟩ : ∃ m, n = m + 1 := ⟨n - 1, by omega⟩
   rw [JJ]
   exact Zj (fun h => by omega) (fun _ => Zb ⟨by omega, h5⟩)
  | succ m ih =>
   intro n i l h0 h1 h2 h3 h4 h5
   obtain ⟨n, rfl⟩ : ∃ m, n = m + 1 := ⟨n - 1, by omega⟩
   rw [JJ, ZK (n := i + 1) (by omega) (by omega)]
   refine Zj (fun hc => ZA h0 (ZA hc (ZS (by omega) fun y hy => Zj (fun _ => ZA h0 (ZA hc (ZS (by omega) fun y hy => ZA (by simp only [List.length_singleton]; unfold lim; omega) ?_))) (fun _ => ?_)))) (fun _ => Zb ⟨by omega, h5⟩)
   ·refine ih n (i + 1) _ (by omega) (by omega) (by omega) (by omega) (by rw [List.append_eq, List.length_append]; simp only [List.length_singleton]; omega) ?_
    intro x hx
    rcases List.mem_append.1 (show x ∈ l ++ [y] from hx) with hx | hx
    ·exact h5 x hx
    ·simp only [List.mem_singleton] at hx; subst hx; exact hrow.2 _ hy
   ·exact ih n (i + 1) l (by omega) (by omega) (by omega) (by omega) (by omega) h5
 exact loop row.length big 0 [] (by omega) (by omega) (by omega) (by have := hrow.1; unfold big; omega) (by simp) (by simp)
theorem ZBi {t : List ZN} (ht : XT t) (k : Int) : Ok (KH big t k) fun r => r.2.2.2.1 = true → (0 ≤ k ∧ k < t.length) ∧ (0 ≤ r.1 ∧ r.1 < t.length) ∧ (0 ≤ r.2.1 ∧ r.2.1 < t.length) ∧ (0 ≤ r.2.2.1 ∧ r.2.2.1 < t.length) := by
 have hlo := ht.lo; have hhi := ht.hi
 rw [Zlp]
 refine Zd (Zhh ht k) fun h hh => Zj (fun _ => Zb fun e => by cases e) (fun hc => ?_)
 have hu := (hh.1 (by omega)).lt hlo
 refine ZA hu.1 (ZS (by omega) fun b _ => ?_)
 simp only [Zgu, Option.bind_some, ZK (n := k - 1) (by omega) (by omega), ZK (n := (↑(List.length t) : Int) - 1) (by omega) (by omega)]
 refine Z7 (fun _ => Zb fun e => by cases e) (fun h1 => ?_)
 simp only [Bool.and_eq_true, decide_eq_true_eq] at h1
 refine ZA h1.1 (ZS (by omega) fun b2 _ => Z7 (fun _ => Zb fun e => by cases e) (fun h2 => ?_))
 simp only [Bool.and_eq_true, decide_eq_true_eq] at h2
 refine ZA h2.1 (ZS (by omega) fun b3 _ => Z7 (fun _ => Zb fun e => by cases e) (fun h3 => Zb fun _ => ?_))
 simp only [Bool.and_eq_true, decide_eq_true_eq] at h3
 dsimp only
 exact ⟨hu, ⟨h1.1, by omega⟩, ⟨h2.1, by omega⟩, h3.1, by omega⟩
end Go.Sx.Tryz
set_option maxRecDepth 100000
namespace Go.Sx.Tryz
open Go Go.Sx Go.Proofs
theorem ZD1 (l : List ZX) (hl : l.length ≤ 4294967296) (a b c : Int) : ∀ (m : Nat) (n : Nat) (i acc : Int), 0 ≤ i → i ≤ 7 → (7 : Int) ≤ i + m → m * (l.length + 2) + 1 ≤ n → Ok (Wk n l a b c acc i) fun _ => True := by
 intro m
 induction m with
 | zero =>
  intro n i acc h0 h1 h2 h3
  obtain ⟨n, rfl⟩ : ∃ m, n = m + 1 := ⟨n - 1, by omega⟩
  rw [KC]
  exact Zj (fun h => by omega) (fun _ => Zb trivial)
 | succ m ih =>
  intro n i acc h0 h1 h2 h3
  obtain ⟨n, rfl⟩ : ∃ m, n = m + 1 := ⟨n - 1, by omega⟩
  rw [KC]
  refine Zj (fun hc => ?_) (fun _ => Zb trivial)
  have h3' : m * (l.length + 2) + (l.length + 2) ≤ n := by rw [Nat.succ_mul] at h3; omega
  have inner : ∀ (q : Nat) (n : Nat) (j : Int), 0 ≤ j → j ≤ l.length → (l.length : Int) ≤ j + q → m * (l.length + 2) + 1 + q + 1 ≤ n → Ok (Y1 n l a b c acc i j) fun _ => True := by
   intro q
   induction q with
   | zero =>
    intro n j g0 g1 g2 g3
    obtain ⟨n, rfl⟩ : ∃ m, n = m + 1 := ⟨n - 1, by omega⟩
    rw [KE, ZK (n := i + 1) (by omega) (by omega)]
    exact Zj (fun h => by omega) (fun _ => ih n _ _ (by omega) (by omega) (by omega) (by omega))
   | succ q ihq =>
    intro n j g0 g1 g2 g3
    obtain ⟨n, rfl⟩ : ∃ m, n = m + 1 := ⟨n - 1, by omega⟩
    rw [KE, ZK (n := i + 1) (by omega) (by omega), ZK (n := j + 1) (by omega) (by omega)]
    refine Zj (fun hj => ?_) (fun _ => ih n _ _ (by omega) (by omega) (by omega) (by omega))
    have next : Ok (Y1 n l a b c acc i (j + 1)) fun _ => True := ihq n (j + 1) (by omega) (by omega) (by omega) (by omega)
    exact ZA g0 (ZS (by omega) fun y _ => Zj (fun _ => Zj (fun _ => Zj (fun _ => Zj (fun _ => Zbi (Zi0 _) (ih n _ _ (by omega) (by omega) (by omega) (by omega))) (fun _ => next)) (fun _ => next)) (fun _ => next)) (fun _ => next))
  exact inner l.length n 0 (by omega) (by omega) (by omega) (by omega)
theorem ZnK (l : List ZX) (hl : l.length ≤ 4294967296) (a b c : Int) : Ok (Vl big l a b c) fun _ => True := by
 rw [Zi9]
 exact ZD1 l hl a b c 7 big 0 0 (by omega) (by omega) (by omega) (by unfold big; omega)
theorem Zwh (l : List ZX) (hl : l.length ≤ 4294967296) (a b c n : Int) : Ok (Zfy big l a b c n) fun r => r.1.2.1 = 0 ∨ r.1.2.1 = b := by
 rw [Zxm]
 exact Zd (ZnK l hl a b c) fun y _ => Zd (ZnH y) fun _ _ => Zd (ZjK n) fun _ _ => Zj (fun _ => Zb (.inl rfl)) (fun _ => Zb (.inr rfl))
theorem Zyr (l : List ZX) (hl : l.length ≤ 4294967296) (q : Zbm) (z : Int) : Ok (W7 big l q z) fun _ => True := by
 rw [Zsx]
 refine Zj (fun _ => Zb trivial) fun _ => Zd (ZnK l hl _ _ _) fun y _ => ?_
 refine up0 (L := 7) (by decide) (f := fun n i => W8 n z y i q.1 q.2.1 q.2.2.1 q.2.2.2.1) (fun n i h0 h1 k => ?_) (fun n => ?_)
 ·rw [ZbU, ZK (n := i + 1) (by omega) (by omega)]
  refine Zj (fun _ => Zbi (Zi0 _) ?_) (fun h => by omega)
  repeat' first
   | exact k _ rfl
   | exact Zb trivial
   | exact Zi0 _
   | refine Zbi (Zi0 _) ?_
   | refine Yw (fun _ => ?_) (fun _ => ?_)
   | refine Zj (fun _ => ?_) (fun _ => ?_)
   | refine Z7 (fun _ => ?_) (fun _ => ?_)
   | refine Yf (fun _ => ?_) (fun _ => ?_)
 ·rw [ZbU]
  refine Zj (fun h => by omega) (fun _ => ?_)
  repeat' first
   | exact Zb trivial
   | refine Zj (fun _ => ?_) (fun _ => ?_)
theorem ZtD {t : List ZN} (ht : XT t) (n : Int) (v : ZX) : Ok (ZcS big t n v) fun _ => True := by
 have hlo := ht.lo; have hhi := ht.hi
 rw [Zsn]
 simp only [Zgu, Option.bind_some, ZK (n := (↑(List.length t) : Int) - 1) (by omega) (by omega)]
 refine Yf (fun _ => Yf (fun _ => Yf (fun _ => Yf (fun h => ?_) (fun _ => Zb trivial)) (fun _ => Zb trivial)) (fun _ => Zb trivial)) (fun _ => Zb trivial)
 simp only [Bool.and_eq_true, decide_eq_true_eq] at h
 exact ZA (by omega) (ZS (by omega) fun y _ => Zj (fun _ => Zb trivial) (fun _ => Zb trivial))
theorem ZnL {t : List ZN} (ht : XT t) (n : Int) (q : Zbm) : Ok (Xv big t n q) fun _ => True := by
 rw [Zot]
 refine Yf (fun _ => Zb trivial) (fun _ => Zd (ZtD ht n _) fun y _ => Z7 (fun _ => Zb trivial) fun _ => Zbi (Zi0 _) ?_)
 simp only [Zgu, Option.bind_some]
 exact Yf (fun _ => Zd (ZnH _) fun _ _ => Zd (ZjK n) fun _ _ => Zb trivial) (fun _ => Zb trivial)
theorem ZBj (p : Zq) (n : Int) (c : Bool) : Ok (ZfC big p n c) fun _ => True := by
 rw [Zu1]
 exact Zd (Wx _ _) fun _ _ => Yw (fun _ => Zb trivial) fun _ => Zj (fun _ => Zb trivial) fun _ => Zd (ZjK n) fun _ _ => Zj (fun _ => Zb trivial) fun _ => Zj (fun _ => Zb trivial) fun _ => Yf (fun _ => Zb trivial) (fun _ => Zb trivial)
theorem ZBk {t : List ZN} {b c : Int} (hb : 0 ≤ b ∧ b < t.length) (hc : 0 ≤ c ∧ c < t.length) : Ok (Q7 big t b c) fun _ => True := by
 rw [ZoC]
 exact Yw (fun _ => Yw (fun _ => ZA hb.1 (ZS (by omega) fun _ _ => ZA hc.1 (ZS (by omega) fun _ _ => Zb trivial))) (fun _ => Zb trivial)) (fun _ => Zb trivial)
theorem ZzC {t : List ZN} (ht : XT t) (k : Int) : Ok (ZbQ big t k) fun _ => True := by
 rw [Zlu]
 refine Zd (ZBi ht k) fun y hy => Z7 (fun _ => Zb trivial) fun hc => ?_
 obtain ⟨_, h1, h2, h3⟩ := hy hc
 exact Zd (ZBk h1 h2) fun _ _ => Z7 (fun _ => Zb trivial) fun _ => ZA h2.1 (ZS (by omega) fun _ _ => ZA h3.1 (ZS (by omega) fun _ _ => Yw (fun _ => Zb trivial) (fun _ => Zb trivial)))
theorem ZDe {t : List ZN} (ht : XT t) (q : Zbm) (k : Int) : Ok (Qt big t q k) fun _ => True := by
 have hlo := ht.lo; have hhi := ht.hi
 rw [Zjb]
 simp only [Zgu, Option.bind_some, ZK (n := (↑(List.length t) : Int) - 1) (by omega) (by omega)]
 refine Z7 (fun _ => Zb trivial) fun h => ?_
 simp only [Bool.and_eq_true, decide_eq_true_eq] at h
 exact Zd (ZnJ ht k _) fun _ _ => Yf (fun _ => Zb trivial) (fun _ => ZA h.1 (ZS (by omega) fun _ _ => Zb trivial))
end Go.Sx.Tryz
set_option maxRecDepth 100000
namespace Go.Sx.Tryz
open Go Go.Sx Go.Proofs
theorem ZBl (b : ZN) (h : List.length b.2.2.1 ≤ 4294967296) : Kz big b = some b := by
 rw [ZkX, if_pos (by unfold lim; omega)]
theorem ZFc {t : List ZN} (h1 : t.length ≤ 1000) (h2 : ∀ b ∈ t, List.length b.2.2.1 ≤ 4294967296) : Zei big t = some t := by
 rw [Zok]
 have loop : ∀ (m n i : Nat), t.length ≤ i + m → m < n → i ≤ t.length → Qk n t (t.take i) (i : Int) = some t := by
  intro m
  induction m with
  | zero =>
   intro n i g0 g1 g2
   obtain ⟨n, rfl⟩ : ∃ m, n = m + 1 := ⟨n - 1, by omega⟩
   rw [UK, decide_eq_false (by omega), cond_false, List.take_of_length_le (by omega)]
  | succ m ih =>
   intro n i g0 g1 g2
   obtain ⟨n, rfl⟩ : ∃ m, n = m + 1 := ⟨n - 1, by omega⟩
   rcases Nat.lt_or_ge i t.length with hi | hi
   ·rw [UK, decide_eq_true (by omega), cond_true, if_pos (by omega), Int.toNat_natCast, Wy hi, Option.bind_some, ZBl _ (h2 _ (List.getElem_mem hi)), Option.bind_some,
     if_pos (by rw [List.length_take]; simp only [List.length_singleton]; unfold lim; omega), ZAZ (by omega)]
    have e : (t.take i).append [t[i]] = t.take (i + 1) := by
     rw [List.append_eq, List.take_succ_eq_append_getElem hi]
    rw [e]
    exact ih n (i + 1) (by omega) (by omega) (by omega)
   ·rw [UK, decide_eq_false (by omega), cond_false, List.take_of_length_le (by omega)]
 have := loop t.length big 0 (by omega) (by unfold big; omega) (by omega)
 rw [List.take_zero] at this
 exact this
theorem ZFd (a b : ZN) (h : List.length a.2.2.1 ≤ 4294967296) : Ok (Zaf big a b) fun _ => True := by
 rw [Zi7]
 refine Yw (fun _ => Zb trivial) fun _ => Yw (fun _ => Zb trivial) fun _ => Z7 (fun _ => Zb trivial) fun _ => Yw (fun _ => Zb trivial) fun he => ?_
 refine up0 (L := List.length a.2.2.1) h (f := fun n i => Vi n i a.1 a.2.1 a.2.2.1 a.2.2.2.1.1 a.2.2.2.1.2.1 a.2.2.2.1.2.2.1 a.2.2.2.1.2.2.2.1 b.1 b.2.1 b.2.2.1 b.2.2.2.1.1 b.2.2.2.1.2.1 b.2.2.2.1.2.2.1 b.2.2.2.1.2.2.2.1) (fun n i h0 h1 k => ?_) (fun n => ?_)
 ·rw [KA, ZK (n := i + 1) (by omega) (by omega)]
  exact Zj (fun _ => ZA h0 (ZS (by omega) fun _ _ => ZA h0 (ZS (by omega) fun _ _ => Z7 (fun _ => Zb trivial) fun _ => k _ rfl))) (fun h => by omega)
 ·rw [KA]
  exact Zj (fun h => by omega) (fun _ => Zb trivial)
theorem ZBm {t : List ZN} (ht : XT t) (b : ZN) : Ok (Zej big t b) fun r => -1 ≤ r ∧ r < t.length := by
 have hlo := ht.lo; have hhi := ht.hi
 rw [Zon]
 refine up0 (L := t.length) (by omega) (f := fun n i => Qn n t i b.1 b.2.1 b.2.2.1 b.2.2.2.1.1 b.2.2.2.1.2.1 b.2.2.2.1.2.2.1 b.2.2.2.1.2.2.2.1) (fun n i h0 h1 k => ?_) (fun n => ?_)
 ·rw [ZaX, ZK (n := i + 1) (by omega) (by omega)]
  exact Zj (fun _ => ZA h0 (ZS (by omega) fun y hy => Zd (ZFd y _ (by have := (ht.cmds y hy).len; omega)) fun _ _ => Yf (fun _ => Zb ⟨by omega, h1⟩) (fun _ => k _ rfl))) (fun h => by omega)
 ·rw [ZaX]
  exact Zj (fun h => by omega) (fun _ => Zb ⟨by omega, by omega⟩)
theorem ZBn (c : Vc) (h : ByteArray.size c.2.1 ≤ 4294967296) : Ok (Zfv big c) fun _ => True := by
 rw [ZuQ]
 simp only [Zgu, Option.bind_some]
 exact Yf (fun _ => Zd (ZxG _ h) fun _ _ => Yf (fun _ => Zb trivial) (fun _ => Zb trivial)) (fun _ => Zb trivial)
theorem ZBo {t : List ZN} (ht : XT t) (b : ZN) (hb : ∀ c ∈ b.2.2.1, ByteArray.size c.2.1 ≤ 1000) : Ok (Zek big t b) fun r => r = true → List.length b.2.2.1 ≤ 4 ∧ 0 ≤ b.2.1 ∧ b.2.1 ≤ 900 := by
 have hlo := ht.lo; have hhi := ht.hi
 rw [Zoq]
 simp only [Zgu, Option.bind_some, ZK (n := (↑(List.length t) : Int) - 1) (by omega) (by omega)]
 refine Z7 (fun _ => Zb fun e => by cases e) fun h => ?_
 simp only [Bool.and_eq_true, decide_eq_true_eq] at h
 refine ZA h.1 (ZS (by omega) fun y hy => Zj (fun _ => Zb fun e => by cases e) fun g1 => Zj (fun _ => Zb fun e => by cases e) fun g2 => Zj (fun _ => Zb fun e => by cases e) fun g3 => ?_)
 have hv := ht.view y hy
 have fin : List.length b.2.2.1 ≤ 4 ∧ 0 ≤ b.2.1 ∧ b.2.1 ≤ 900 := ⟨by omega, by omega, by omega⟩
 refine up0 (L := List.length b.2.2.1) (by omega) (f := fun n i => Qp n t i b.1 b.2.1 b.2.2.1 b.2.2.2.1.1 b.2.2.2.1.2.1 b.2.2.2.1.2.2.1 b.2.2.2.1.2.2.2.1) (fun n i h0 h1 k => ?_) (fun n => ?_)
 ·rw [ZaY, ZK (n := i + 1) (by omega) (by omega)]
  exact Zj (fun _ => ZA h0 (ZS (by omega) fun c hc => Zd (ZBn c (by have := hb c hc; omega)) fun _ _ => Z7 (fun _ => Zb fun e => by cases e) fun _ => k _ rfl)) (fun h => by omega)
 ·rw [ZaY]
  exact Zj (fun h => by omega) (fun _ => Zj (fun _ => ZA h.1 (ZS (by omega) fun _ _ => Zb fun _ => fin)) (fun _ => Zb fun e => by cases e))
theorem Zrk {t : List ZN} (ht : XT t) (b : ZN) (hb : ∀ c ∈ b.2.2.1, ByteArray.size c.2.1 ≤ 1000) (hl : List.length b.2.2.1 ≤ 4294967296) : Ok (XH big t b) fun r => XT r.1 ∧ t.length ≤ List.length r.1 ∧ r.2.1 < List.length r.1 ∧ -1 ≤ r.2.1 ∧ ∀ V : Int, (∀ x ∈ t, x.2.1 ≤ V) → b.2.1 ≤ V → ∀ x ∈ r.1, x.2.1 ≤ V := by
 have hlo := ht.lo; have hhi := ht.hi
 rw [Zk7, ZFc (by omega) (fun b hb => by have := (ht.cmds b hb).len; omega)]
 simp only [Option.bind_some]
 refine Zd (ZBm ht b) fun k hk => Zj (fun _ => Zb ⟨ht, Nat.le_refl _, hk.2, hk.1, fun V h _ => h⟩) fun _ => Zd (ZBo ht b hb) fun y hy => Z7 (fun _ => Zb ⟨ht, Nat.le_refl _, by show (-1 : Int) < _; omega, by show (-1 : Int) ≤ -1; omega, fun V h _ => h⟩) fun hok => Zj (fun _ => Zb ⟨ht, Nat.le_refl _, by show (-1 : Int) < _; omega, by show (-1 : Int) ≤ -1; omega, fun V h _ => h⟩) fun hm => ?_
 obtain ⟨g1, g2⟩ := hy hok
 rw [ZBl b hl]
 simp only [Option.bind_some]
 refine ZA (by simp only [List.length_singleton]; unfold lim; omega) (Zb ?_)
 have hlen : (List.append t [b]).length = t.length + 1 := by rw [List.append_eq, List.length_append]; rfl
 refine ⟨⟨by rw [hlen]; omega, by rw [hlen]; omega, fun x hx => ?_, fun x hx => ?_⟩, by rw [hlen]; omega, by show (t.length : Int) < _; rw [hlen]; omega, by show (-1 : Int) ≤ t.length; omega, fun V h hb x hx => ?_⟩
 ·rcases List.mem_append.1 (show x ∈ t ++ [b] from hx) with hx | hx
  ·exact ht.cmds x hx
  ·simp only [List.mem_singleton] at hx; subst hx; exact ⟨g1, hb⟩
 ·rcases List.mem_append.1 (show x ∈ t ++ [b] from hx) with hx | hx
  ·exact ht.view x hx
  ·simp only [List.mem_singleton] at hx; subst hx; exact g2
 ·rcases List.mem_append.1 (show x ∈ t ++ [b] from hx) with hx | hx
  ·exact h x hx
  ·simp only [List.mem_singleton] at hx; subst hx; exact hb
/-! ### Replicas -/
structure YX (l : List Yj) : Prop where
 len : l.length ≤ 25
 key : ∀ c ∈ l, ByteArray.size c.1 ≤ 1000
structure Zys (l : List YW) : Prop where
 len : l.length ≤ 240
 key : ∀ c ∈ l, ByteArray.size c.1 ≤ 1000
structure Yt (B : Nat) (V : Int) (p : Zq) : Prop where
 row : List.length p.2.2.2.2.2.1 ≤ B
 cells : YX p.2.2.2.2.2.2.1
 early : List.length p.2.2.2.2.2.2.2.1 ≤ 60
 undos : Zys p.2.2.2.2.2.2.2.2.1
 votes : List.length p.2.2.2.2.2.2.2.2.2.1 ≤ B
 news : List.length p.2.2.2.2.2.2.2.2.2.2.1 ≤ B
 view : 1 ≤ p.2.1 ∧ p.2.1 ≤ V
 top : V ≤ 900
theorem Yt.mono {B B' : Nat} {V : Int} {p : Zq} (h : Yt B V p) (hb : B ≤ B') : Yt B' V p := ⟨Nat.le_trans h.row hb, h.cells, h.early, h.undos, Nat.le_trans h.votes hb, Nat.le_trans h.news hb, h.view, h.top⟩
theorem Yt.up {B : Nat} {V V' : Int} {p : Zq} (h : Yt B V p) (hv : V ≤ V') (ht : V' ≤ 900) : Yt B V' p := ⟨h.row, h.cells, h.early, h.undos, h.votes, h.news, ⟨h.view.1, Int.le_trans h.view.2 hv⟩, ht⟩
def idv (p : Zq) : Int × Int := (p.1, p.2.1)
theorem Zyt {p q : Zq} (h : idv p = idv q) : p.1 = q.1 := by
 have := congrArg Prod.fst h
 exact this
theorem Zcz {B : Nat} {V : Int} (hB : B ≤ 1000000000) {p : Zq} (h : Yt B V p) : YD big p = some p := by
 obtain ⟨h1, h2, h3, h4, h5, h6, _⟩ := h
 have h2 := h2.len
 have h4 := h4.len
 rw [Zdu, if_pos (by unfold lim; omega), if_pos (by unfold lim; omega), if_pos (by unfold lim; omega), if_pos (by unfold lim; omega), if_pos (by unfold lim; omega), if_pos (by unfold lim; omega)]
theorem UH {B : Nat} {V : Int} (hB : B ≤ 1000000000) {p : Zq} (h : Yt B V p) (v : Int) (hv : v ≤ V) : Ok (Xw big p v) fun r => Yt B V r ∧ r.1 = p.1 := by
 rw [Zdw, Zcz hB h]
 simp only [Option.bind_some]
 refine Zj (fun h1 => Zj (fun h2 => Zb ⟨⟨h.row, h.cells, h.early, h.undos, Nat.zero_le _, Nat.zero_le _, ?_, h.top⟩, rfl⟩) (fun _ => Zb ⟨h, rfl⟩)) (fun _ => Zb ⟨h, rfl⟩)
 have := h.view
 exact ⟨by show 1 ≤ v; omega, hv⟩
end Go.Sx.Tryz
set_option maxRecDepth 100000
namespace Go.Sx.Tryz
open Go Go.Sx Go.Proofs
theorem Zwi {l : List Yj} (h : YX l) : Ok (Zat big l) fun b => b = true → l.length ≤ 12 := by
 have hl := h.len
 rw [ZoT]
 refine up0 (L := l.length) (by omega) (f := fun n i => Vo n l i) (fun n i h0 h1 k => ?_) (fun n => ?_)
 ·rw [Za2, ZK (n := i + 1) (by omega) (by omega), ZK (n := i - 1) (by omega) (by omega)]
  simp only [Zgu, Option.bind_some]
  refine Zj (fun _ => ZA h0 (ZS (by omega) fun y hy => Zd (ZxG _ (by have := h.key y hy; omega)) fun _ _ => Z7 (fun _ => Zb fun e => by cases e) fun _ => ZA h0 (ZS (by omega) fun _ _ => Z7 (fun _ => Zb fun e => by cases e) fun _ => Zj (fun hp => ?_) (fun _ => k _ rfl)))) (fun h => by omega)
  exact ZA (by omega) (ZS (by omega) fun _ _ => ZA h0 (ZS (by omega) fun _ _ => Z7 (fun _ => Zb fun e => by cases e) fun _ => k _ rfl))
 ·rw [Za2]
  exact Zj (fun h => by omega) (fun _ => Zb fun e => by have := of_decide_eq_true e; omega)
theorem Zgr {l : List Yj} {y : Yj} (h : ∀ c ∈ l, ByteArray.size c.1 ≤ 1000) (hy : ByteArray.size y.1 ≤ 1000) : ∀ c ∈ List.append l [y], ByteArray.size c.1 ≤ 1000 := fun c hc => by
 rcases List.mem_append.1 (show c ∈ l ++ [y] from hc) with hc | hc
 ·exact h c hc
 ·simp only [List.mem_singleton] at hc; subst hc; exact hy
theorem Y7 {α : Type} {l : List α} {y : α} : (List.append l [y]).length = l.length + 1 := by rw [List.append_eq, List.length_append]; rfl
theorem ZD2 {l : List Yj} (hl : l.length ≤ 12) (hk : ∀ c ∈ l, ByteArray.size c.1 ≤ 1000) (x : Yj) (hx : ByteArray.size x.1 ≤ 1000) : Ok (XF big l x) YX := by
 rw [ZsC]
 have second : ∀ (m n : Nat) (i : Int) (a : List Yj), 0 ≤ i → i ≤ l.length → (l.length : Int) ≤ i + m → m < n → (a.length : Int) ≤ 13 + i → (∀ c ∈ a, ByteArray.size c.1 ≤ 1000) → Ok (UB n l a i x.1 x.2.1) YX := by
  intro m
  induction m with
  | zero =>
   intro n i a h0 h1 h2 h3 h4 h5
   obtain ⟨n, rfl⟩ : ∃ m, n = m + 1 := ⟨n - 1, by omega⟩
   rw [ZbZ]
   exact Zj (fun h => by omega) (fun _ => Zb ⟨by omega, h5⟩)
  | succ m ih =>
   intro n i a h0 h1 h2 h3 h4 h5
   obtain ⟨n, rfl⟩ : ∃ m, n = m + 1 := ⟨n - 1, by omega⟩
   rw [ZbZ, ZK (n := i + 1) (by omega) (by omega)]
   refine Zj (fun _ => ZA h0 (ZS (by omega) fun y hy => Z7 (fun _ => ZA h0 (ZS (by omega) fun y hy => ZA (by simp only [List.length_singleton]; unfold lim; omega) ?_)) (fun _ => ?_))) (fun _ => Zb ⟨by omega, h5⟩)
   ·exact ih n (i + 1) _ (by omega) (by omega) (by omega) (by omega) (by rw [Y7]; omega) (Zgr h5 (hk y hy))
   ·exact ih n (i + 1) a (by omega) (by omega) (by omega) (by omega) (by omega) h5
 have first : ∀ (m n : Nat) (i : Int) (a : List Yj), 0 ≤ i → i ≤ l.length → (l.length : Int) ≤ i + m → m + 20 < n → (a.length : Int) ≤ i → (∀ c ∈ a, ByteArray.size c.1 ≤ 1000) → Ok (UA n l a i x.1 x.2.1) YX := by
  intro m
  induction m with
  | zero =>
   intro n i a h0 h1 h2 h3 h4 h5
   obtain ⟨n, rfl⟩ : ∃ m, n = m + 1 := ⟨n - 1, by omega⟩
   rw [ZbY]
   exact Zj (fun h => by omega) (fun _ => ZA (by simp only [List.length_singleton]; unfold lim; omega) (second l.length n 0 _ (by omega) (by omega) (by omega) (by omega) (by rw [Y7]; omega) (Zgr h5 hx)))
  | succ m ih =>
   intro n i a h0 h1 h2 h3 h4 h5
   obtain ⟨n, rfl⟩ : ∃ m, n = m + 1 := ⟨n - 1, by omega⟩
   rw [ZbY, ZK (n := i + 1) (by omega) (by omega)]
   refine Zj (fun _ => ZA h0 (ZS (by omega) fun y hy => Yf (fun _ => ZA h0 (ZS (by omega) fun y hy => ZA (by simp only [List.length_singleton]; unfold lim; omega) ?_)) (fun _ => ?_))) (fun _ => ZA (by simp only [List.length_singleton]; unfold lim; omega) (second l.length n 0 _ (by omega) (by omega) (by omega) (by omega) (by rw [Y7]; omega) (Zgr h5 hx)))
   ·exact ih n (i + 1) _ (by omega) (by omega) (by omega) (by omega) (by rw [Y7]; omega) (Zgr h5 (hk y hy))
   ·exact ih n (i + 1) a (by omega) (by omega) (by omega) (by omega) (by omega) h5
 exact first l.length big 0 [] (by omega) (by omega) (by omega) (by unfold big; omega) (by simp) (by simp)
theorem Zyu {l : List Yj} (h : l.length ≤ 4294967296) (s : ByteArray) : Ok (ZcW big l s) fun r => r < l.length := by
 rw [ZsE]
 refine up0 (L := l.length) h (f := fun n i => KO n l s i) (fun n i h0 h1 k => ?_) (fun n => ?_)
 ·rw [Zb0, ZK (n := i + 1) (by omega) (by omega)]
  exact Zj (fun _ => ZA h0 (ZS (by omega) fun _ _ => Zj (fun _ => Zb h1) (fun _ => k _ rfl))) (fun h => by omega)
 ·rw [Zb0]
  exact Zj (fun h => by omega) (fun _ => Zb (by omega))
set_option maxHeartbeats 4000000 in
theorem ZDf {l : List Yj} (h : YX l) (c : Vc) (hc : ByteArray.size c.2.1 ≤ 1000) : Ok (ZjJ big l c) fun r => YX r.1 := by
 have hl := h.len
 rw [Zxr]
 simp only [Zgu, Option.bind_some]
 refine ZA (by unfold lim; omega) (Zd (Zwi h) fun b hb => Z7 (fun _ => Zb h) fun h1 => Zd (ZBn c (by omega)) fun _ _ => Z7 (fun _ => Zb h) fun _ => Zd (Zyu (by omega) _) fun k hk => ?_)
 have put : ∀ n : Int, Ok ((XF big l (c.2.1, n, ())).bind fun y => some (y, (0 : Int), PUnit.unit)) fun r => YX r.1 := fun n => Zd (ZD2 (hb h1) h.key _ hc) fun y hy => Zb hy
 have put2 : Ok ((XF big l c.2).bind fun y => some (y, (0 : Int), PUnit.unit)) fun r => YX r.1 := Zd (ZD2 (hb h1) h.key _ hc) fun y hy => Zb hy
 have tail : ∀ (b2 : Bool) (n : Int) (K : Option (List Yj × Int × Unit)), Ok K (fun r => YX r.1) → Ok (bif !b2 then some (l, (2 : Int), PUnit.unit) else bif decide (k < 0) then bif decide ((12 : Int) ≤ (↑(List.length l) : Int)) then some (l, (2 : Int), PUnit.unit) else K else K) fun r => YX r.1 := fun b2 n K hK =>
  Z7 (fun _ => Zb h) fun _ => Zj (fun _ => Zj (fun _ => Zb h) fun _ => hK) fun _ => hK
 refine Yw (fun _ => Zj (fun _ => Zb h) fun hk0 => ZA (by omega) (ZS (by omega) fun y _ => Zj (fun _ => ZA (by omega) (ZS (by omega) fun y2 _ => tail _ 0 _ (put _))) fun _ => tail _ 0 _ (put _))) fun _ => tail _ 0 _ put2
end Go.Sx.Tryz
set_option maxRecDepth 100000
namespace Go.Sx.Tryz
open Go Go.Sx Go.Proofs
theorem Zwj {l : List Yj} (h : YX l) {cs : List Vc} (hc : ∀ c ∈ cs, ByteArray.size c.2.1 ≤ 1000) (hn : cs.length ≤ 1000) : Ok (Zav big l cs) fun r => YX r.1 := by
 have hl := h.len
 rw [ZoV]
 refine ZA (by unfold lim; omega) ?_
 have loop : ∀ (m n : Nat) (i : Int) (l : List Yj) (a : List Int), 0 ≤ i → i ≤ cs.length → (cs.length : Int) ≤ i + m → m < n → YX l → (a.length : Int) ≤ i → Ok (Qx n cs l a i) fun r => YX r.1 := by
  intro m
  induction m with
  | zero =>
   intro n i l a h0 h1 h2 h3 h4 h5
   obtain ⟨n, rfl⟩ : ∃ m, n = m + 1 := ⟨n - 1, by omega⟩
   rw [Za3]
   exact Zj (fun h => by omega) (fun _ => Zb h4)
  | succ m ih =>
   intro n i l a h0 h1 h2 h3 h4 h5
   obtain ⟨n, rfl⟩ : ∃ m, n = m + 1 := ⟨n - 1, by omega⟩
   rw [Za3, ZK (n := i + 1) (by omega) (by omega)]
   exact Zj (fun _ => ZA h0 (ZS (by omega) fun c hm => Zd (ZDf h4 c (hc c hm)) fun y hy => ZA (by unfold lim; omega) (ih n (i + 1) _ _ (by omega) (by omega) (by omega) (by omega) hy (by rw [Y7]; omega)))) (fun _ => Zb h4)
 exact loop cs.length big 0 l [] (by omega) (by omega) (by omega) (by unfold big; omega) h (by simp)
theorem ZCF {l : List Yj} (h : YX l) (s : ByteArray) : Ok (Zg2 big l s) fun u => u.1 = s := by
 have hl := h.len
 rw [ZsJ]
 exact Zd (Zyu (by omega) s) fun k hk => Zj (fun _ => Zb rfl) (fun _ => ZA (by omega) (ZS (by omega) fun _ _ => Zb rfl))
theorem ZCG {l : List Yj} (h : YX l) (u : YW) (hu : ByteArray.size u.1 ≤ 1000) : Ok (Zg3 big l u) YX := by
 have hl := h.len
 rw [ZsM]
 simp only [Zgu, Option.bind_some]
 have same : Ok (if 0 + List.length l ≤ lim then some l else none) YX := ZA (by unfold lim; omega) (Zb h)
 refine Zd (Zwi h) fun b hb => Z7 (fun _ => same) fun h1 => Zd (ZxG _ (by omega)) fun _ _ => Z7 (fun _ => same) fun _ => Z7 (fun _ => same) fun _ => Yf (fun _ => Zd (ZD2 (hb h1) h.key _ hu) fun y hy => Zb hy) fun _ => ?_
 have loop : ∀ (m n : Nat) (i : Int) (a : List Yj), 0 ≤ i → i ≤ l.length → (l.length : Int) ≤ i + m → m < n → (a.length : Int) ≤ i → (∀ c ∈ a, ByteArray.size c.1 ≤ 1000) → Ok (UC n l a i u.1 u.2.1 u.2.2.1) YX := by
  intro m
  induction m with
  | zero =>
   intro n i a h0 h1 h2 h3 h4 h5
   obtain ⟨n, rfl⟩ : ∃ m, n = m + 1 := ⟨n - 1, by omega⟩
   rw [Zb1]
   exact Zj (fun h => by omega) (fun _ => Zb ⟨by omega, h5⟩)
  | succ m ih =>
   intro n i a h0 h1 h2 h3 h4 h5
   obtain ⟨n, rfl⟩ : ∃ m, n = m + 1 := ⟨n - 1, by omega⟩
   rw [Zb1, ZK (n := i + 1) (by omega) (by omega)]
   refine Zj (fun _ => ZA h0 (ZS (by omega) fun y hy => Yw (fun _ => ZA h0 (ZS (by omega) fun y hy => ZA (by simp only [List.length_singleton]; unfold lim; omega) ?_)) (fun _ => ?_))) (fun _ => Zb ⟨by omega, h5⟩)
   ·exact ih n (i + 1) _ (by omega) (by omega) (by omega) (by omega) (by rw [Y7]; omega) (Zgr h5 (h.key y hy))
   ·exact ih n (i + 1) a (by omega) (by omega) (by omega) (by omega) (by omega) h5
 exact loop l.length big 0 [] (by omega) (by omega) (by omega) (by unfold big; omega) (by simp) (by simp)
theorem ZxH {l : List Yj} (h : YX l) {us : List YW} (hu : Zys us) : Ok (Zaw big l us) YX := by
 have hl := h.len; have hun := hu.len
 rw [Zjf, ZK (n := (↑(List.length us) : Int) - 1) (by omega) (by omega)]
 refine ZA (by unfold lim; omega) ?_
 have loop : ∀ (m n : Nat) (i : Int) (l : List Yj), i < us.length → i + 1 ≤ m → -1 ≤ i → m < n → YX l → Ok (Vq n us l i) YX := by
  intro m
  induction m with
  | zero =>
   intro n i l h0 h1 h2 h3 h4
   obtain ⟨n, rfl⟩ : ∃ m, n = m + 1 := ⟨n - 1, by omega⟩
   rw [KR]
   exact Zj (fun h => by omega) (fun _ => Zb h4)
  | succ m ih =>
   intro n i l h0 h1 h2 h3 h4
   obtain ⟨n, rfl⟩ : ∃ m, n = m + 1 := ⟨n - 1, by omega⟩
   rw [KR, ZK (n := i - 1) (by omega) (by omega)]
   exact Zj (fun hc => ZA hc (ZS (by omega) fun u hm => Zd (ZCG h4 u (hu.key u hm)) fun y hy => ih n (i - 1) y (by omega) (by omega) (by omega) (by omega) hy)) (fun _ => Zb h4)
 exact loop us.length big _ l (by omega) (by omega) (by omega) (by unfold big; omega) h
theorem ZzD {l : List Yj} (h : YX l) {cs : List Vc} (hc : ZFb cs) : Ok (Zb2 big l cs) fun r => YX r.1 ∧ List.length r.2.1 ≤ 4 ∧ ∀ u ∈ r.2.1, ByteArray.size u.1 ≤ 1000 := by
 have hl := h.len; have hcl := hc.len
 rw [ZlX]
 refine ZA (by unfold lim; omega) ?_
 have loop : ∀ (m n : Nat) (i : Int) (l : List Yj) (a : List YW), 0 ≤ i → i ≤ cs.length → (cs.length : Int) ≤ i + m → m < n → YX l → (a.length : Int) ≤ i → (∀ u ∈ a, ByteArray.size u.1 ≤ 1000) →
   Ok (Ue n cs l a i) fun r => YX r.1 ∧ List.length r.2.1 ≤ 4 ∧ ∀ u ∈ r.2.1, ByteArray.size u.1 ≤ 1000 := by
  intro m
  induction m with
  | zero =>
   intro n i l a h0 h1 h2 h3 h4 h5 h6
   obtain ⟨n, rfl⟩ : ∃ m, n = m + 1 := ⟨n - 1, by omega⟩
   rw [JK]
   exact Zj (fun h => by omega) (fun _ => Zb ⟨h4, by show a.length ≤ 4; omega, h6⟩)
  | succ m ih =>
   intro n i l a h0 h1 h2 h3 h4 h5 h6
   obtain ⟨n, rfl⟩ : ∃ m, n = m + 1 := ⟨n - 1, by omega⟩
   rw [JK, ZK (n := i + 1) (by omega) (by omega)]
   refine Zj (fun _ => ZA h0 (ZS (by omega) fun c hm => Zd (ZCF h4 c.2.1) fun u hu => ZA (by simp only [List.length_singleton]; unfold lim; omega) (ZA h0 (ZS (by omega) fun c2 hm2 => Zd (ZDf h4 c2 (hc.key c2 hm2)) fun y hy => ?_)))) (fun _ => Zb ⟨h4, by show a.length ≤ 4; omega, h6⟩)
   refine ih n (i + 1) _ _ (by omega) (by omega) (by omega) (by omega) hy (by rw [Y7]; omega) fun v hv => ?_
   rcases List.mem_append.1 (show v ∈ a ++ [u] from hv) with hv | hv
   ·exact h6 v hv
   ·simp only [List.mem_singleton] at hv; subst hv; rw [hu]; exact hc.key c hm
 exact loop cs.length big 0 l [] (by omega) (by omega) (by omega) (by unfold big; omega) h (by simp) (by simp)
theorem ZDg {B : Nat} {V : Int} {p : Zq} (h : Yt B V p) : Ok (Zax big p) fun r => Yt B V r.2.1 ∧ idv r.2.1 = idv p ∧ r.2.1.2.2.2.2.2.2.2.1 = [] ∧ r.2.1.2.2.2.2.2.2.2.2.1 = [] ∧ r.2.1.2.2.2.2.2.1 = p.2.2.2.2.2.1 := by
 rw [ZoY]
 exact Zd (ZxH h.cells h.undos) fun y hy => Zb ⟨⟨h.row, hy, Nat.zero_le _, ⟨Nat.zero_le _, by simp⟩, h.votes, h.news, h.view, h.top⟩, rfl, rfl, rfl, rfl⟩
theorem ZBp {B : Nat} {V : Int} (hB : B ≤ 1000000000) {p : Zq} (h : Yt B V p) : Ok (Q9 big p) fun _ => True := by
 have := h.row
 rw [ZoJ, ZK (n := (↑(List.length p.2.2.2.2.2.1) : Int) - 1) (by omega) (by omega)]
 exact Zj (fun _ => Zb trivial) (fun _ => ZA (by omega) (ZS (by omega) fun _ _ => Zb trivial))
theorem ZzE {t : List ZN} (ht : XT t) {row : List Int} (hr : row.length ≤ 1000000000) : Ok (Zb3 big t row) YX := by
 have hlo := ht.lo; have hhi := ht.hi
 rw [Zl7]
 have loop : ∀ (m n : Nat) (i : Int) (l : List Yj), 0 ≤ i → i ≤ row.length → (row.length : Int) ≤ i + m → m < n → YX l → Ok (WJ n t row l i) YX := by
  intro m
  induction m with
  | zero =>
   intro n i l h0 h1 h2 h3 h4
   obtain ⟨n, rfl⟩ : ∃ m, n = m + 1 := ⟨n - 1, by omega⟩
   rw [JM]
   exact Zj (fun h => by omega) (fun _ => Zb h4)
  | succ m ih =>
   intro n i l h0 h1 h2 h3 h4
   obtain ⟨n, rfl⟩ : ∃ m, n = m + 1 := ⟨n - 1, by omega⟩
   rw [JM, ZK (n := i + 1) (by omega) (by omega), ZK (n := (↑(List.length t) : Int) - 1) (by omega) (by omega)]
   refine Zj (fun hi => ?_) (fun _ => Zb h4)
   have hlt : i.toNat < row.length := by omega
   rw [Wy hlt]
   simp only [Zgu, Option.bind_some]
   refine ZA h0 (Yf (fun hc => ?_) (fun _ => ih n (i + 1) l (by omega) (by omega) (by omega) (by omega) h4))
   simp only [Bool.and_eq_true, decide_eq_true_eq] at hc
   exact ZA h0 (ZA hc.1 (ZS (by omega) fun b hb => Zd (Zwj h4 (ht.cmds b hb).key (by have := (ht.cmds b hb).len; omega)) fun y hy => ih n (i + 1) _ (by omega) (by omega) (by omega) (by omega) hy))
 exact loop row.length big 0 [] (by omega) (by omega) (by omega) (by unfold big; omega) ⟨by simp, by simp⟩
end Go.Sx.Tryz
set_option maxRecDepth 100000
namespace Go.Sx.Tryz
open Go Go.Sx Go.Proofs
theorem ZD3 {t : List ZN} (ht : XT t) {more : List Int} (hm : more.length ≤ 60) (hx : ∀ x ∈ more, 0 ≤ x ∧ x < t.length) (z0 : Int) (z1 : Int) (z2 : Int) (z3 : Int) (z4 : Int) (z5 : Int) (z6 : Int) (z7 : Int) (z8 : Int) (z9 : Int) (z10 : Int) (z11 : Int) (z12 : Int) (z13 : Int) (z14 : List Int) (z15 : List Yj) (z16 : List Int) (z17 : List YW) (z18 : List ZX) (z19 : List Zs) (z20 : Int) (c0 : Int) (c1 : Int) (c2 : Int) (c3 : Int) (c4 : Int) (c5 : Int) (c6 : Int) (c7 : Int) (c8 : Int) (c9 : Int) (c10 : Int) (c11 : Int) (c12 : Int) (c13 : Int) (c16 : List Int) (c17 : List YW) (c18 : List ZX) (c19 : List Zs) (c20 : Int) :
  ∀ (m n : Nat) (i : Int) (row : List Int) (cells : List Yj), 0 ≤ i → i ≤ more.length → (more.length : Int) ≤ i + m → m < n → YX cells → (row.length : Int) ≤ 1100000000 + i →
   Ok (QA n t i z0 z1 z2 z3 z4 z5 z6 z7 z8 z9 z10 z11 z12 z13 z14 z15 z16 z17 z18 z19 z20 c0 c1 c2 c3 c4 c5 c6 c7 c8 c9 c10 c11 c12 c13 row cells c16 c17 c18 c19 c20 more) fun r => ∃ (row' : List Int) (cells' : List Yj), r = (c0, c1, (c2, c3, c4, c5, ()), (c6, c7, c8, c9, ()), (c10, c11, c12, c13, ()), row', cells', c16, c17, c18, c19, c20, ()) ∧ (row'.length : Int) ≤ row.length + more.length - i ∧ YX cells' := by
 intro m
 induction m with
 | zero =>
  intro n i row cells h0 h1 h2 h3 h4 h5
  obtain ⟨n, rfl⟩ : ∃ m, n = m + 1 := ⟨n - 1, by omega⟩
  rw [Za4]
  exact Zj (fun h => by omega) (fun _ => Zb ⟨row, cells, rfl, by omega, h4⟩)
 | succ m ih =>
  intro n i row cells h0 h1 h2 h3 h4 h5
  obtain ⟨n, rfl⟩ : ∃ m, n = m + 1 := ⟨n - 1, by omega⟩
  rw [Za4, ZK (n := i + 1) (by omega) (by omega)]
  refine Zj (fun hi => ZA h0 (ZA hi (ZS (by omega) fun y hy => ZA (by simp only [List.length_singleton]; unfold lim; omega) (ZA h0 (ZA hi (ZS (by omega) fun k hk => ZA (hx k hk).1 (ZS (by have := hx k hk; omega) fun b hb => Zd (Zwj h4 (ht.cmds b hb).key (by have := (ht.cmds b hb).len; omega)) fun q hq => ?_))))))) (fun _ => Zb ⟨row, cells, rfl, by omega, h4⟩)
  refine VH (ih n (i + 1) _ _ (by omega) (by omega) (by omega) (by omega) hq (by rw [Y7]; omega)) fun r hr => ?_
  obtain ⟨row', cells', e, g1, g2⟩ := hr
  exact ⟨row', cells', e, by rw [Y7] at g1; omega, g2⟩
theorem Zwk {B : Nat} {V : Int} (hB : B ≤ 900000000) {t : List ZN} (ht : XT t) {p : Zq} (h : Yt B V p) (k : Int) : Ok (Zaz big t p k) fun r => Yt (B + 60) V r ∧ idv r = idv p := by
 rw [Zo0, Zcz (by omega) h]
 simp only [Option.bind_some]
 refine Zd (ZBp (by omega) h) fun l _ => Zd (ZnJ ht k l) fun e _ => Z7 (fun _ => Zb ⟨h.mono (by omega), rfl⟩) fun _ => Zd (ZDg h) fun y hy => Zd (ZBp (by omega) h) fun l2 _ => Zd (Zrj ht k l2) fun more hmore => ?_
 obtain ⟨hp, hid, _, _, _⟩ := hy
 have hr := hp.row
 refine VH (ZD3 ht hmore.1 hmore.2 _ _ _ _ _ _ _ _ _ _ _ _ _ _ _ _ _ _ _ _ _ _ _ _ _ _ _ _ _ _ _ _ _ _ _ _ _ _ _ _ more.length big 0 _ _ (by omega) (by omega) (by omega) (by have := hmore.1; unfold big; omega) hp.cells (by omega)) fun r hr2 => ?_
 obtain ⟨row', cells', e, g1, g2⟩ := hr2
 subst e
 have := hmore.1
 exact ⟨⟨by show row'.length ≤ B + 60; omega, g2, hp.early, hp.undos, Nat.le_trans hp.votes (by omega), Nat.le_trans hp.news (by omega), hp.view, hp.top⟩, hid⟩
theorem ZD4 {t : List ZN} (ht : XT t) {more : List Int} (hm : more.length ≤ 60) (hx : ∀ x ∈ more, 0 ≤ x ∧ x < t.length) (z0 : Int) (z1 : Int) (z2 : Int) (z3 : Int) (z4 : Int) (z5 : Int) (z6 : Int) (z7 : Int) (z8 : Int) (z9 : Int) (z10 : Int) (z11 : Int) (z12 : Int) (z13 : Int) (z14 : List Int) (z15 : List Yj) (z16 : List Int) (z17 : List YW) (z18 : List ZX) (z19 : List Zs) (z20 : Int) (c0 : Int) (c1 : Int) (c2 : Int) (c3 : Int) (c4 : Int) (c5 : Int) (c6 : Int) (c7 : Int) (c8 : Int) (c9 : Int) (c10 : Int) (c11 : Int) (c12 : Int) (c13 : Int) (c14 : List Int) (c18 : List ZX) (c19 : List Zs) (c20 : Int) :
  ∀ (m n : Nat) (i : Int) (cells : List Yj) (early : List Int) (undos : List YW), 0 ≤ i → i ≤ more.length → (more.length : Int) ≤ i + m → m < n → YX cells → (early.length : Int) ≤ i → (undos.length : Int) ≤ 4 * i → (∀ u ∈ undos, ByteArray.size u.1 ≤ 1000) →
   Ok (Ug n t i z0 z1 z2 z3 z4 z5 z6 z7 z8 z9 z10 z11 z12 z13 z14 z15 z16 z17 z18 z19 z20 c0 c1 c2 c3 c4 c5 c6 c7 c8 c9 c10 c11 c12 c13 c14 cells early undos c18 c19 c20 more) fun r => ∃ (cells' : List Yj) (early' : List Int) (undos' : List YW), r = (c0, c1, (c2, c3, c4, c5, ()), (c6, c7, c8, c9, ()), (c10, c11, c12, c13, ()), c14, cells', early', undos', c18, c19, c20, ()) ∧ YX cells' ∧ early'.length ≤ 60 ∧ Zys undos' := by
 intro m
 induction m with
 | zero =>
  intro n i cells early undos h0 h1 h2 h3 h4 h5 h6 h7
  obtain ⟨n, rfl⟩ : ∃ m, n = m + 1 := ⟨n - 1, by omega⟩
  rw [JL]
  exact Zj (fun h => by omega) (fun _ => Zb ⟨cells, early, undos, rfl, h4, by omega, ⟨by omega, h7⟩⟩)
 | succ m ih =>
  intro n i cells early undos h0 h1 h2 h3 h4 h5 h6 h7
  obtain ⟨n, rfl⟩ : ∃ m, n = m + 1 := ⟨n - 1, by omega⟩
  rw [JL, ZK (n := i + 1) (by omega) (by omega)]
  refine Zj (fun hi => ZA h0 (ZA hi (ZS (by omega) fun k hk => ZA (hx k hk).1 (ZS (by have := hx k hk; omega) fun b hb => Zd (ZzD h4 (ht.cmds b hb)) fun q hq => ZA h0 (ZA hi (ZS (by omega) fun k2 hk2 => ZA (by simp only [List.length_singleton]; unfold lim; omega) (ZA (by have := hq.2.1; unfold lim; omega) ?_))))))) (fun _ => Zb ⟨cells, early, undos, rfl, h4, by omega, ⟨by omega, h7⟩⟩)
  refine ih n (i + 1) _ _ _ (by omega) (by omega) (by omega) (by omega) hq.1 (by rw [Y7]; omega) (by rw [List.append_eq, List.length_append]; have := hq.2.1; omega) fun u hu => ?_
  rcases List.mem_append.1 (show u ∈ undos ++ q.2.1 from hu) with hu | hu
  ·exact h7 u hu
  ·exact hq.2.2 u hu
theorem Zrl {B : Nat} {V : Int} (hB : B ≤ 900000000) {t : List ZN} (ht : XT t) {p : Zq} (h : Yt B V p) (k : Int) : Ok (KU big t p k) fun r => Yt B V r ∧ idv r = idv p := by
 rw [Zl3, Zcz (by omega) h]
 simp only [Option.bind_some]
 refine Zd (ZDg h) fun y hy => Zd (ZBp (by omega) h) fun l2 _ => Zd (Zrj ht k l2) fun more hmore => ?_
 obtain ⟨hp, hid, he, hu, _⟩ := hy
 refine VH (ZD4 ht hmore.1 hmore.2 _ _ _ _ _ _ _ _ _ _ _ _ _ _ _ _ _ _ _ _ _ _ _ _ _ _ _ _ _ _ _ _ _ _ _ _ _ _ _ more.length big 0 _ _ _ (by omega) (by omega) (by omega) (by have := hmore.1; unfold big; omega) hp.cells (by rw [he]; simp) (by rw [hu]; simp) (by rw [hu]; simp)) fun r hr2 => ?_
 obtain ⟨cells', early', undos', e, g1, g2, g3⟩ := hr2
 subst e
 exact ⟨⟨hp.row, g1, g2, g3, hp.votes, hp.news, hp.view, hp.top⟩, hid⟩
theorem ZBq {B : Nat} {V : Int} (hB : B ≤ 800000000) {t : List ZN} (ht : XT t) {p : Zq} (h : Yt B V p) (k : Int) : Ok (XX big t p k) fun r => Yt (B + 60) V r ∧ idv r = idv p := by
 rw [Zg6, Zcz (by omega) h]
 simp only [Option.bind_some]
 refine Zd (ZBi ht k) fun y hy => Z7 (fun _ => Zb ⟨h.mono (by omega), rfl⟩) fun hc => ?_
 obtain ⟨h0, h1, h2, h3⟩ := hy hc
 refine ZA h0.1 (ZS (by omega) fun b _ => Zd (ZaT _ _) fun q1 _ => ZA h1.1 (ZS (by omega) fun b2 _ => Zd (ZaT _ _) fun q2 _ => Zd (ZzC ht k) fun d _ => ?_))
 have hp : Yt B V (p.1, p.2.1, q1, q2, p.2.2.2.2) := ⟨h.row, h.cells, h.early, h.undos, h.votes, h.news, h.view, h.top⟩
 refine Yf (fun _ => Zd (Zwk (by omega) ht hp d.1) fun r hr => Zd (ZBk h1 h2) fun _ _ => Yf (fun _ => Zd (Zrl (by omega) ht hr.1 _) fun s hs => Zb ⟨hs.1, hs.2.trans hr.2⟩) (fun _ => Zb hr))
  (fun _ => Zd (ZBk h1 h2) fun _ _ => Yf (fun _ => Zd (Zrl (by omega) ht hp _) fun s hs => Zb ⟨hs.1.mono (by omega), hs.2⟩) (fun _ => Zb ⟨hp.mono (by omega), rfl⟩))
end Go.Sx.Tryz
set_option maxRecDepth 100000
namespace Go.Sx.Tryz
open Go Go.Sx Go.Proofs
def Lv (V : Int) (l : List Zs) : Prop := ∀ x ∈ l, 0 ≤ x.2.2.2.1 ∧ x.2.2.2.1 ≤ V
theorem Zbj {V : Int} : Lv V [] := fun x hx => by cases hx
theorem Zwl {V : Int} {x : Zs} (h : 0 ≤ x.2.2.2.1 ∧ x.2.2.2.1 ≤ V) : Lv V [x] := fun y hy => by rw [List.mem_singleton.1 hy]; exact h
theorem Lv.up {V V' : Int} {l : List Zs} (h : Lv V l) (hv : V ≤ V') : Lv V' l := fun x hx => ⟨(h x hx).1, Int.le_trans (h x hx).2 hv⟩
theorem Lv.snoc {V : Int} {l : List Zs} {x : Zs} (h : Lv V l) (hx : 0 ≤ x.2.2.2.1 ∧ x.2.2.2.1 ≤ V) : Lv V (List.append l [x]) := fun y hy => by
 rcases List.mem_append.1 hy with hy | hy
 ·exact h y hy
 ·rw [List.mem_singleton.1 hy]; exact hx
theorem ZD5 {B : Nat} {V : Int} (hB : B ≤ 1000000000) {p : Zq} (h : Yt B V p) (a b c : Int) : Ok (ZlG big p a b c) fun r => Yt B V r.1 ∧ r.1.1 = p.1 ∧ r.2.1.2.1 = b := by
 rw [Zvg, Zcz hB h]
 simp only [Option.bind_some, Xm]
 exact Zb ⟨⟨h.row, h.cells, h.early, h.undos, h.votes, h.news, h.view, h.top⟩, rfl, rfl⟩
theorem Zyv {B : Nat} {V : Int} (hB : B ≤ 1000000000) {p : Zq} (h : Yt B V p) (a b c d : Int) (hv : 0 ≤ b ∧ b ≤ V) : Ok (VZ big p a b c d) fun r => Yt B V r.2.1 ∧ r.2.1.1 = p.1 ∧ List.length r.1 ≤ 1 ∧ Lv V r.1 := by
 rw [ZoL]
 exact Zd (ZD5 hB h a b c) fun y hy => Zb ⟨hy.1, hy.2.1, Nat.le_refl _, Zwl (by show 0 ≤ y.2.1.2.1 ∧ y.2.1.2.1 ≤ V; rw [hy.2.2]; exact hv)⟩
theorem ZzF {B : Nat} {V : Int} (hB : B ≤ 1000000000) {p : Zq} (h : Yt B V p) (hV : V + 1 ≤ 900) (n : Int) : Ok (Uz big p n) fun r => Yt B (V + 1) r.1 ∧ r.1.1 = p.1 ∧ Lv (V + 1) [r.2.1] := by
 have hv := h.view
 have stay : Yt B (V + 1) p ∧ p.1 = p.1 ∧ Lv (V + 1) [((0 : Int), (0 : Int), (0 : Int), (0 : Int), (0 : Int), ((0 : Int), (0 : Int), (0 : Int), (0 : Int), ()), ((0 : Int), (0 : Int), (0 : Int), (0 : Int), ()), ())] := ⟨h.up (by omega) hV, rfl, Zwl (by show (0 : Int) ≤ 0 ∧ (0 : Int) ≤ _; omega)⟩
 rw [ZbX, Zcz hB h, ZK (n := p.2.1 + 1) (by omega) (by omega)]
 simp only [Zgu, Option.bind_some]
 exact Zj (fun _ => Zb stay) fun _ => Z7 (fun _ => Zb stay) fun _ => Zd (UH hB (h.up (by omega) hV) _ (by omega)) fun y hy => Zd (Wx _ _) fun _ _ => Zb ⟨hy.1, hy.2, Zwl ⟨by have := hy.1.view.1; show 0 ≤ y.2.1; omega, hy.1.view.2⟩⟩
theorem ZGI {B : Nat} {V : Int} (hB : B ≤ 800000000) {t : List ZN} (ht : XT t) {p : Zq} (h0 : Yt B V p) (hV : V + 1 ≤ 900) (n : Int) (l : Zs) (hl : 0 ≤ l.2.2.2.1 ∧ l.2.2.2.1 ≤ V) : Ok (Zma big t n p l) fun r => Yt (B + 60) (V + 1) r.2.1 ∧ r.2.1.1 = p.1 ∧ List.length r.1 ≤ 1 ∧ Lv (V + 1) r.1 := by
 have h := h0.up (V' := V + 1) (by omega) hV
 rw [Zvz, ZK (n := l.2.2.2.1 + 1) (by omega) (by omega)]
 refine Zd (UH (by omega) h _ (by omega)) fun y hy => ?_
 obtain ⟨hp, hid⟩ := hy
 have stay : ∀ q : Zq, Yt B (V + 1) q → q.1 = p.1 → Yt (B + 60) (V + 1) q ∧ q.1 = p.1 ∧ List.length ([] : List Zs) ≤ 1 ∧ Lv (V + 1) [] := fun q hq e => ⟨hq.mono (by omega), e, Nat.zero_le _, Zbj⟩
 refine Zj (fun _ => Zd (ZaT _ _) fun q _ => ?_) fun _ => Zj (fun _ => Zd (ZaT _ _) fun q _ => ?_) fun _ => Zj (fun _ => Zd (Zwk (by omega) ht hp _) fun z hz => Zd (UH (by omega) hz.1 _ (by omega)) fun z2 hz2 => Zd (Wx _ _) fun _ _ => Zb ⟨hz2.1, hz2.2.trans ((Zyt hz.2).trans hid), Nat.le_refl _, Zwl ⟨by have := hz2.1.view.1; show 0 ≤ z2.2.1; omega, hz2.1.view.2⟩⟩) fun _ => Zb (stay y hp hid)
 ·have hq : Yt B (V + 1) (y.1, y.2.1, q, y.2.2.2) := ⟨hp.row, hp.cells, hp.early, hp.undos, hp.votes, hp.news, hp.view, hp.top⟩
  exact Zd (ZCE _ _ _) fun _ _ => Z7 (fun _ => Zb (stay _ hq hid)) fun _ => Zd (Zyv (by omega) hq _ _ _ _ (by omega)) fun z hz => Zb ⟨hz.1.mono (by omega), hz.2.1.trans hid, hz.2.2⟩
 ·have hq : Yt B (V + 1) (y.1, y.2.1, y.2.2.1, q, y.2.2.2.2) := ⟨hp.row, hp.cells, hp.early, hp.undos, hp.votes, hp.news, hp.view, hp.top⟩
  exact Zd (ZCE _ _ _) fun _ _ => Z7 (fun _ => Zb (stay _ hq hid)) fun _ => Zd (Zyv (by omega) hq _ _ _ _ (by omega)) fun z hz => Zb ⟨hz.1.mono (by omega), hz.2.1.trans hid, hz.2.2⟩
set_option maxHeartbeats 16000000 in
theorem Zc7 {t : List ZN} (ht : XT t) (n : Int) (l : Zs) : Ok (W9 big t n l) fun _ => True := by
 have hlo := ht.lo; have hhi := ht.hi
 have hW : IntKind.i64.wrap ((↑(List.length t) : Int) - 1) = (↑(List.length t) : Int) - 1 := ZK (by omega) (by omega)
 rw [Zl9]
 simp only [Zgu, Option.bind_some, hW]
 by_cases hb : (1 : Int) ≤ l.2.2.2.2.1 ∧ l.2.2.2.2.1 ≤ (↑(List.length t) : Int) - 1
 ·have e1 : (decide ((1 : Int) ≤ l.2.2.2.2.1) && decide (l.2.2.2.2.1 ≤ (↑(List.length t) : Int) - 1)) = true := by
   rw [decide_eq_true hb.1, decide_eq_true hb.2]; rfl
  have hb0 : (0 : Int) ≤ l.2.2.2.2.1 := by omega
  have hb1 : Int.toNat l.2.2.2.2.1 < t.length := by omega
  simp only [e1, cond_true]
  repeat' with_reducible first
   | exact Zb trivial
   | refine Yf (fun _ => ?_) (fun _ => ?_)
   | refine ZA hb0 ?_
   | refine ZS hb1 fun _ _ => ?_
   | refine Zd (ZtD ht _ _) fun _ _ => ?_
   | refine Zd (ZnL ht _ _) fun _ _ => ?_
 ·have e1 : (decide ((1 : Int) ≤ l.2.2.2.2.1) && decide (l.2.2.2.2.1 ≤ (↑(List.length t) : Int) - 1)) = false := by
   rw [← Bool.not_eq_true]
   intro h
   simp only [Bool.and_eq_true, decide_eq_true_eq] at h
   exact hb h
  simp only [e1, cond_false]
  repeat' with_reducible first
   | exact Zb trivial
   | refine Yf (fun _ => ?_) (fun _ => ?_)
   | refine Zd (ZtD ht _ _) fun _ _ => ?_
   | refine Zd (ZnL ht _ _) fun _ _ => ?_
end Go.Sx.Tryz
set_option maxRecDepth 100000
namespace Go.Sx.Tryz
open Go Go.Sx Go.Proofs
theorem ZBr {B : Nat} {V : Int} (hB : B ≤ 1000000000) (b0 : Int) (b1 : Int) (b2 : Int) (b3 : Int) (b4 : Int) (b5 : Int) (b6 : Int) (b7 : Int) (b8 : Int) (b9 : Int) (b10 : Int) (b11 : Int) (b12 : Int) (b13 : Int) (b14 : List Int) (b15 : List Yj) (b16 : List Int) (b17 : List YW) (b18 : List ZX) (b19 : List Zs) (b20 : Int) (h : Yt B V (b0, b1, (b2, b3, b4, b5, ()), (b6, b7, b8, b9, ()), (b10, b11, b12, b13, ()), b14, b15, b16, b17, b18, b19, b20, ())) (c0 c1 c2 c3 c4 c5 c6 c7 c8 c9 c10 c11 c12 : Int) :
  ∀ (m n : Nat) (i : Int), 0 ≤ i → i ≤ b19.length → (b19.length : Int) ≤ i + m → m < n →
   Ok (Wm n i b0 b1 b2 b3 b4 b5 b6 b7 b8 b9 b10 b11 b12 b13 b14 b15 b16 b17 b18 b19 b20 c0 c1 c2 c3 c4 c5 c6 c7 c8 c9 c10 c11 c12) fun r => Yt (B + 1) V r.2.1 ∧ r.2.1.1 = b0 := by
 have hn : b19.length ≤ B := h.news
 have fin : ∀ n : Nat, Ok (Wm (n + 1) b19.length b0 b1 b2 b3 b4 b5 b6 b7 b8 b9 b10 b11 b12 b13 b14 b15 b16 b17 b18 b19 b20 c0 c1 c2 c3 c4 c5 c6 c7 c8 c9 c10 c11 c12) fun r => Yt (B + 1) V r.2.1 ∧ r.2.1.1 = b0 := by
  intro n
  rw [Zb4]
  refine Zj (fun h => by omega) (fun _ => ?_)
  simp only [Xm]
  refine ZA (by unfold lim; omega) (ZA (by simp only [List.length_singleton]; unfold lim; omega) (Zb ⟨⟨Nat.le_trans h.row (by omega), h.cells, h.early, h.undos, Nat.le_trans h.votes (by omega), ?_, h.view, h.top⟩, rfl⟩))
  show (b19 ++ _).length ≤ B + 1
  simp only [List.length_append, List.length_singleton]; omega
 intro m
 induction m with
 | zero =>
  intro n i h0 h1 h2 h3
  obtain ⟨n, rfl⟩ : ∃ m, n = m + 1 := ⟨n - 1, by omega⟩
  obtain rfl : i = b19.length := by omega
  exact fin n
 | succ m ih =>
  intro n i h0 h1 h2 h3
  obtain ⟨n, rfl⟩ : ∃ m, n = m + 1 := ⟨n - 1, by omega⟩
  rcases Int.lt_or_le i b19.length with hl | hl
  ·rw [Zb4, ZK (n := i + 1) (by omega) (by omega)]
   exact Zj (fun hi => ZA h0 (ZA hi (ZS (by omega) fun y hy => Zj (fun _ => Zb ⟨h.mono (by omega), rfl⟩) (fun _ => ih n (i + 1) (by omega) (by omega) (by omega) (by omega))))) (fun h => by omega)
  ·obtain rfl : i = b19.length := by omega
   exact fin n
theorem ZD6 {B : Nat} {V : Int} (hB : B ≤ 1000000000) (b0 : Int) (b1 : Int) (b2 : Int) (b3 : Int) (b4 : Int) (b5 : Int) (b6 : Int) (b7 : Int) (b8 : Int) (b9 : Int) (b10 : Int) (b11 : Int) (b12 : Int) (b13 : Int) (b14 : List Int) (b15 : List Yj) (b16 : List Int) (b17 : List YW) (b18 : List ZX) (b19 : List Zs) (b20 : Int) (h : Yt B V (b0, b1, (b2, b3, b4, b5, ()), (b6, b7, b8, b9, ()), (b10, b11, b12, b13, ()), b14, b15, b16, b17, b18, b19, b20, ())) (c0 c1 c2 c3 c4 c5 c6 c7 c8 c9 c10 c11 c12 : Int) : Ok (Wm big 0 b0 b1 b2 b3 b4 b5 b6 b7 b8 b9 b10 b11 b12 b13 b14 b15 b16 b17 b18 b19 b20 c0 c1 c2 c3 c4 c5 c6 c7 c8 c9 c10 c11 c12) fun r => Yt (B + 1) V r.2.1 ∧ r.2.1.1 = b0 := by
 have hn : b19.length ≤ B := h.news
 exact ZBr hB _ _ _ _ _ _ _ _ _ _ _ _ _ _ _ _ _ _ _ _ _ h _ _ _ _ _ _ _ _ _ _ _ _ _ b19.length big 0 (by omega) (by omega) (by omega) (by unfold big; omega)
theorem ZD7 {B : Nat} {V : Int} (hB : B ≤ 1000000000) {p : Zq} (h : Yt B V p) (hV : V + 1 ≤ 900) (n : Int) (l : Zs) : Ok (Zg7 big p n l) fun r => Yt (B + 1) (V + 1) r.2.1 ∧ r.2.1.1 = p.1 := by
 have hv := h.view
 have h1 := h.up (V' := V + 1) (by omega) hV
 rw [ZsR, ZK (n := p.2.1 + 1) (by omega) (by omega)]
 have go : ∀ y : Zq, Yt B (V + 1) y ∧ y.1 = p.1 → ∀ c0 c1 c2 c3 c4 c5 c6 c7 c8 c9 c10 c11 c12 : Int, Ok (Wm big 0 y.1 y.2.1 y.2.2.1.1 y.2.2.1.2.1 y.2.2.1.2.2.1 y.2.2.1.2.2.2.1 y.2.2.2.1.1 y.2.2.2.1.2.1 y.2.2.2.1.2.2.1 y.2.2.2.1.2.2.2.1 y.2.2.2.2.1.1 y.2.2.2.2.1.2.1 y.2.2.2.2.1.2.2.1 y.2.2.2.2.1.2.2.2.1 y.2.2.2.2.2.1 y.2.2.2.2.2.2.1 y.2.2.2.2.2.2.2.1 y.2.2.2.2.2.2.2.2.1 y.2.2.2.2.2.2.2.2.2.1 y.2.2.2.2.2.2.2.2.2.2.1 y.2.2.2.2.2.2.2.2.2.2.2.1 c0 c1 c2 c3 c4 c5 c6 c7 c8 c9 c10 c11 c12) fun r => Yt (B + 1) (V + 1) r.2.1 ∧ r.2.1.1 = p.1 := by
  intro y hy c0 c1 c2 c3 c4 c5 c6 c7 c8 c9 c10 c11 c12
  rw [← hy.2]
  exact ZD6 hB _ _ _ _ _ _ _ _ _ _ _ _ _ _ _ _ _ _ _ _ _ hy.1 _ _ _ _ _ _ _ _ _ _ _ _ _
 refine Zd (Wx _ _) fun z _ => ?_
 have stay : Yt (B + 1) (V + 1) p ∧ p.1 = p.1 := ⟨h1.mono (by omega), rfl⟩
 refine Yw (fun _ => Zb stay) fun _ => Yw (fun _ => Yw (fun _ => Zb stay) fun e => ?_) fun e => ?_
 ·exact Zd (UH hB h1 _ (by omega)) fun y hy => go y hy _ _ _ _ _ _ _ _ _ _ _ _ _
 ·exact Zd (UH hB h1 _ (by omega)) fun y hy => go y hy _ _ _ _ _ _ _ _ _ _ _ _ _
theorem ZBs {B : Nat} {V : Int} (b0 : Int) (b1 : Int) (b2 : Int) (b3 : Int) (b4 : Int) (b5 : Int) (b6 : Int) (b7 : Int) (b8 : Int) (b9 : Int) (b10 : Int) (b11 : Int) (b12 : Int) (b13 : Int) (b14 : List Int) (b15 : List Yj) (b16 : List Int) (b17 : List YW) (b18 : List ZX) (b19 : List Zs) (b20 : Int) (h : Yt B V (b0, b1, (b2, b3, b4, b5, ()), (b6, b7, b8, b9, ()), (b10, b11, b12, b13, ()), b14, b15, b16, b17, b18, b19, b20, ())) (s1 : Int) (hs : s1 ≤ 7) (c0 c1 c2 c3 : Int) :
  ∀ (m n : Nat) (i : Int) (l : List Zs), 0 ≤ i → i ≤ 7 → (7 : Int) ≤ i + m → m < n → (l.length : Int) ≤ i → Lv V l →
   Ok (Uj n s1 l i b0 b1 b2 b3 b4 b5 b6 b7 b8 b9 b10 b11 b12 b13 b14 b15 b16 b17 b18 b19 b20 c0 c1 c2 c3) fun r => Yt B V r.2.1 ∧ r.2.1.1 = b0 ∧ List.length r.1 ≤ 7 ∧ Lv V r.1 := by
 intro m
 induction m with
 | zero =>
  intro n i l h0 h1 h2 h3 h4 h5
  obtain ⟨n, rfl⟩ : ∃ m, n = m + 1 := ⟨n - 1, by omega⟩
  rw [JN]
  exact Zj (fun h => by omega) (fun _ => Zb ⟨h, rfl, by show l.length ≤ 7; omega, h5⟩)
 | succ m ih =>
  intro n i l h0 h1 h2 h3 h4 h5
  obtain ⟨n, rfl⟩ : ∃ m, n = m + 1 := ⟨n - 1, by omega⟩
  rw [JN, ZK (n := i + 1) (by omega) (by omega)]
  exact Zj (fun hi => ZA (by simp only [List.length_singleton]; unfold lim; omega) (ih n (i + 1) _ (by omega) (by omega) (by omega) (by omega) (by rw [Y7]; omega) (h5.snoc ⟨by have h9 : 1 ≤ b1 := h.view.1; show 0 ≤ b1; omega, h.view.2⟩))) (fun _ => Zb ⟨h, rfl, by show l.length ≤ 7; omega, h5⟩)
theorem ZjL {B : Nat} {V : Int} (hB : B ≤ 1000000000) (b0 : Int) (b1 : Int) (b2 : Int) (b3 : Int) (b4 : Int) (b5 : Int) (b6 : Int) (b7 : Int) (b8 : Int) (b9 : Int) (b10 : Int) (b11 : Int) (b12 : Int) (b13 : Int) (b14 : List Int) (b15 : List Yj) (b16 : List Int) (b17 : List YW) (b18 : List ZX) (b19 : List Zs) (b20 : Int) (h : Yt B V (b0, b1, (b2, b3, b4, b5, ()), (b6, b7, b8, b9, ()), (b10, b11, b12, b13, ()), b14, b15, b16, b17, b18, b19, b20, ())) (s1 : Int) (hs : s1 ≤ 7) (s8 : Int) (c0 c1 c2 c3 : Int) (n : Nat) (hn : 8 < n) :
  Ok (Xi n s1 [] s8 b0 b1 b2 b3 b4 b5 b6 b7 b8 b9 b10 b11 b12 b13 b14 b15 b16 b17 b18 b19 b20 c0 c1 c2 c3) fun r => Yt (B + 1) V r.2.1 ∧ r.2.1.1 = b0 ∧ List.length r.1 ≤ 7 ∧ Lv V r.1 := by
 obtain ⟨n, rfl⟩ : ∃ m, n = m + 1 := ⟨n - 1, by omega⟩
 rw [Zbn]
 simp only [Xm]
 have hv : b18.length ≤ B := h.votes
 have e : List.length (List.append b18 [(c0, c1, c2, c3, ())]) = b18.length + 1 := by show List.length (b18 ++ _) = _; simp only [List.length_append, List.length_singleton]
 have stay : Yt (B + 1) V (b0, b1, (b2, b3, b4, b5, ()), (b6, b7, b8, b9, ()), (b10, b11, b12, b13, ()), b14, b15, b16, b17, b18, b19, b20, ()) ∧ b0 = b0 ∧ List.length ([] : List Zs) ≤ 7 ∧ Lv V [] := ⟨h.mono (by omega), rfl, by decide, Zbj⟩
 have put : ∀ q : Zbm, Yt (B + 1) V (b0, b1, q, (b6, b7, b8, b9, ()), (b10, b11, b12, b13, ()), b14, b15, b16, b17, List.append b18 [(c0, c1, c2, c3, ())], b19, b20, ()) := fun q =>
  ⟨Nat.le_trans h.row (by omega), h.cells, h.early, h.undos, by show List.length (List.append b18 [(c0, c1, c2, c3, ())]) ≤ _; omega, Nat.le_trans h.news (by omega), h.view, h.top⟩
 refine Yw (fun _ => Zb stay) fun _ => Zd (Wx _ _) fun _ _ => Yw (fun _ => Zb stay) fun _ => Zd (ZGi _ _ (by omega)) fun _ _ => Yf (fun _ => Zb stay) fun _ => ZA (by unfold lim; omega) (ZA (by simp only [List.length_singleton]; unfold lim; omega) (Zd (ZnK _ (by omega) _ _ _) fun _ _ => Zd (ZnH _) fun _ _ => Zd (ZjK _) fun _ _ => Yw (fun _ => Zb ⟨put _, rfl, stay.2.2⟩) fun _ => Zd (Zwh _ (by omega) _ _ _ _) fun q _ => Zj (fun _ => Zd (ZaT _ _) fun q _ => Zb ⟨put q, rfl, stay.2.2⟩) fun _ => ?_))
 exact ZBs _ _ _ _ _ _ _ _ _ _ _ _ _ _ _ _ _ _ _ _ b20 (put _) s1 hs _ _ _ _ 7 n 0 [] (by omega) (by omega) (by omega) (by omega) (by decide) Zbj
theorem ZFe {B : Nat} {V : Int} (hB : B ≤ 1000000000) {p : Zq} (h0 : Yt B V p) (hV : V + 1 ≤ 900) (n : Int) (hn : n ≤ 7) (v : ZX) : Ok (Zew big p n v) fun r => Yt (B + 1) (V + 1) r.2.1 ∧ r.2.1.1 = p.1 ∧ List.length r.1 ≤ 7 ∧ Lv (V + 1) r.1 := by
 have hv := h0.view
 have h := h0.up (V' := V + 1) (by omega) hV
 rw [Zo6, ZK (n := p.2.1 + 1) (by omega) (by omega)]
 have hb : 8 < big := by decide
 refine Zj (fun _ => Zd (Wx _ _) fun _ _ => Zj (fun _ => Zj (fun e => Zd (UH hB h _ (by omega)) fun y hy => ?_) (fun _ => ?_)) (fun _ => ?_)) (fun _ => ?_)
 ·rw [← hy.2]; exact ZjL hB _ _ _ _ _ _ _ _ _ _ _ _ _ _ _ _ _ _ _ _ _ hy.1 n hn _ _ _ _ _ big hb
 ·exact ZjL hB _ _ _ _ _ _ _ _ _ _ _ _ _ _ _ _ _ _ _ _ _ h n hn _ _ _ _ _ big hb
 ·exact ZjL hB _ _ _ _ _ _ _ _ _ _ _ _ _ _ _ _ _ _ _ _ _ h n hn _ _ _ _ _ big hb
 ·exact ZjL hB _ _ _ _ _ _ _ _ _ _ _ _ _ _ _ _ _ _ _ _ _ h n hn _ _ _ _ _ big hb
theorem ZBt {B : Nat} {V : Int} (hB : B ≤ 1000000000) {p : Zq} (h : Yt B V p) (hV : V + 1 ≤ 900) (n : Int) (hn : n ≤ 7) (v : ZX) : Ok (Zb6 big p n v) fun r => Yt (B + 1) (V + 1) r.1 ∧ r.1.1 = p.1 ∧ List.length r.2.1 ≤ 7 ∧ Lv (V + 1) r.2.1 := by
 rw [Zmg]
 exact Zd (ZFe hB h hV n hn v) fun y hy => Zb hy
def ZtE (B : Nat) (V : Int) (p : Zq) (r : Zq × List Zs × Unit) : Prop := Yt B V r.1 ∧ r.1.1 = p.1 ∧ List.length r.2.1 ≤ 7 ∧ Lv V r.2.1
theorem ZBu {B : Nat} {V : Int} (hB : B ≤ 1000000000) {t : List ZN} (ht : XT t) {p : Zq} (h : Yt B V p) (hV : V + 1 ≤ 900) (n : Int) (hn : n ≤ 7) (l : Zs) : Ok (Wn big t n p l) (ZtE (B + 1) (V + 1) p) := by
 rw [Zmi, Zcz hB h]
 simp only [Option.bind_some]
 have stay : ZtE (B + 1) (V + 1) p (p, [], ()) := ⟨(h.up (by omega) hV).mono (by omega), rfl, Nat.zero_le _, Zbj⟩
 exact Zd (Zc7 ht _ _) fun _ _ => Z7 (fun _ => Zb stay) fun _ => Yw (fun _ => Zb stay) fun _ => Zj (fun _ => Zd (ZBt hB h hV n hn _) fun y hy => Zb hy) fun _ => Zj (fun _ => Zd (ZD7 hB h hV n l) fun y hy => Zb ⟨hy.1, hy.2, Nat.zero_le _, Zbj⟩) fun _ => Zb stay
theorem ZGj {B : Nat} {V : Int} (hB : B ≤ 800000000) {t : List ZN} (ht : XT t) {p : Zq} (h : Yt B V p) (hV : V + 1 ≤ 900) (n : Int) (hn : n ≤ 7) (l : Zs) (hl : 0 ≤ l.2.2.2.1 ∧ l.2.2.2.1 ≤ V) : Ok (ZaA big t n p l) (ZtE (B + 60) (V + 1) p) := by
 have h1 := h.up (V' := V + 1) (by omega) hV
 rw [Zo9, Zcz (by omega) h]
 simp only [Option.bind_some]
 have stay : ∀ q : Zq, Yt B (V + 1) q ∧ q.1 = p.1 → ZtE (B + 60) (V + 1) p (q, [], ()) := fun q h => ⟨h.1.mono (by omega), h.2, Nat.zero_le _, Zbj⟩
 have lead : Ok ((Wn big t n p l).bind fun y => some y) (ZtE (B + 60) (V + 1) p) := Zd (ZBu (by omega) ht h hV n hn l) fun y hy => Zb ⟨hy.1.mono (by omega), hy.2⟩
 exact Zd (Zc7 ht _ _) fun _ _ => Z7 (fun _ => Zb (stay p ⟨h1, rfl⟩)) fun _ => Yw (fun _ => Zb (stay p ⟨h1, rfl⟩)) fun _ => Zj (fun _ => lead) fun _ => Zj (fun _ => lead) fun _ => Zd (Wx _ _) fun _ _ => Yw (fun _ => Zb (stay p ⟨h1, rfl⟩)) fun _ => Zj (fun _ => Zb (stay p ⟨h1, rfl⟩)) fun _ =>
  Zj (fun _ => Zd (ZGI hB ht h hV n l hl) fun y hy => Zb ⟨hy.1, hy.2.1, by show List.length y.1 ≤ 7; have := hy.2.2.1; omega, hy.2.2.2⟩) fun _ => Zd (UH (by omega) h1 _ (by omega)) fun y hy => Zd (ZCE _ _ _) fun _ _ => Z7 (fun _ => Zb (stay y hy)) fun _ => Zd (ZDe ht _ _) fun _ _ => Z7 (fun _ => Zb (stay y hy)) fun _ =>
  Zd (Zyv (by omega) hy.1 _ _ _ _ (by omega)) fun z hz => Zb ⟨hz.1.mono (by omega), hz.2.1.trans hy.2, by show List.length z.1 ≤ 7; have := hz.2.2.1; omega, hz.2.2.2⟩
theorem ZD8 {B : Nat} {V : Int} (hB : B ≤ 800000000) {t : List ZN} (ht : XT t) {p : Zq} (h : Yt B V p) (hV : V + 1 ≤ 900) (n : Int) (hn : n ≤ 7) (l : Zs) (hl : 0 ≤ l.2.2.2.1 ∧ l.2.2.2.1 ≤ V) : Ok (QB big t n p l) (ZtE (B + 60) (V + 1) p) := by
 have h1 := h.up (V' := V + 1) (by omega) hV
 rw [Zji, Zcz (by omega) h, ZK (n := l.2.2.2.1 + 1) (by omega) (by omega)]
 simp only [Option.bind_some]
 have stay : ∀ q : Zq, Yt B V q ∧ q.1 = p.1 → ZtE (B + 60) (V + 1) p (q, [], ()) := fun q h => ⟨(h.1.up (by omega) hV).mono (by omega), h.2, Nat.zero_le _, Zbj⟩
 have high : ∀ q : Zbm, Yt B V (p.1, p.2.1, q, p.2.2.2) := fun q => ⟨h.row, h.cells, h.early, h.undos, h.votes, h.news, h.view, h.top⟩
 have learn : Ok ((XX big t p l.2.2.2.2.1).bind fun y => some (y, ([] : List Zs), ())) (ZtE (B + 60) (V + 1) p) := Zd (ZBq hB ht h _) fun y hy => Zb ⟨hy.1.up (by omega) hV, Zyt hy.2, Nat.zero_le _, Zbj⟩
 exact Zd (Zc7 ht _ _) fun _ _ => Z7 (fun _ => Zb (stay p ⟨h, rfl⟩)) fun _ => Yw (fun _ => Zb (stay p ⟨h, rfl⟩)) fun _ =>
  Zj (fun _ => Zd (ZBu (by omega) ht h hV n hn l) fun y hy => Zb ⟨hy.1.mono (by omega), hy.2⟩) fun _ =>
  Zj (fun _ => Zd (ZaT _ _) fun q _ => Zd (ZBu (by omega) ht (high q) hV n hn l) fun y hy => Zb ⟨hy.1.mono (by omega), hy.2⟩) fun _ =>
  Zj (fun _ => Zb (stay p ⟨h, rfl⟩)) fun _ => Zd (Wx _ _) fun _ _ => Yw (fun _ => Zb (stay p ⟨h, rfl⟩)) fun _ => Zd (ZCE _ _ _) fun _ _ =>
  Yf (fun _ => Zd (ZDe ht _ _) fun _ _ => Yf (fun _ => Zd (ZBq hB ht h _) fun y hy => Yw (fun _ => Zb ⟨hy.1.up (by omega) hV, Zyt hy.2, Nat.zero_le _, Zbj⟩) fun _ => Zd (Wx _ _) fun _ _ => Zd (Zyv (by omega) (hy.1.up (V' := V + 1) (by omega) hV) _ _ _ _ (by omega)) fun z hz => Zd (UH (by omega) hz.1 _ (by omega)) fun w hw => Zb ⟨hw.1, hw.2.trans (hz.2.1.trans (Zyt hy.2)), by show List.length z.1 ≤ 7; have := hz.2.2.1; omega, hz.2.2.2⟩) (fun _ => learn)) (fun _ => learn)
end Go.Sx.Tryz
set_option maxRecDepth 100000
namespace Go.Sx.Tryz
open Go Go.Sx Go.Proofs
def Ko (B : Nat) (V : Int) (p : Zq) : Prop := Yt B V p ∧ 0 ≤ p.1 ∧ p.1 ≤ 1000
theorem Ko.mono {B B' : Nat} {V : Int} {p : Zq} (h : Ko B V p) (hb : B ≤ B') : Ko B' V p := ⟨h.1.mono hb, h.2⟩
theorem Ko.up {B : Nat} {V V' : Int} {p : Zq} (h : Ko B V p) (hv : V ≤ V') (ht : V' ≤ 900) : Ko B V' p := ⟨h.1.up hv ht, h.2⟩
theorem Ko.of {B B' : Nat} {V V' : Int} {p q : Zq} (h : Ko B V p) (k : Yt B' V' q) (e : q.1 = p.1) : Ko B' V' q := ⟨k, by rw [e]; exact h.2⟩
structure ClI (B S : Nat) (V : Int) (x : Zl) : Prop where
 n : x.1 = 4
 tree : XT x.2.2.2.1
 peers : List.length x.2.2.2.2.1 = 4
 peer : ∀ p ∈ x.2.2.2.2.1, Ko B V p
 net : List.length x.2.2.2.2.2.1 ≤ 60
 said : List.length x.2.2.2.2.2.2.1 ≤ S
 pend : List.length x.2.2.2.2.2.2.2.1 ≤ 8
 key : ∀ c ∈ x.2.2.2.2.2.2.2.1, ByteArray.size c.2.1 ≤ 1000
 lv : Lv V x.2.2.2.2.2.1
 tv : ∀ b ∈ x.2.2.2.1, b.2.1 ≤ V
theorem ClI.mono {B B' S S' : Nat} {V : Int} {x : Zl} (h : ClI B S V x) (hb : B ≤ B') (hs : S ≤ S') : ClI B' S' V x :=
 ⟨h.n, h.tree, h.peers, fun p hp => (h.peer p hp).mono hb, h.net, Nat.le_trans h.said hs, h.pend, h.key, h.lv, h.tv⟩
theorem ClI.up {B S : Nat} {V V' : Int} {x : Zl} (h : ClI B S V x) (hv : V ≤ V') (ht : V' ≤ 900) : ClI B S V' x :=
 ⟨h.n, h.tree, h.peers, fun p hp => (h.peer p hp).up hv ht, h.net, h.said, h.pend, h.key, h.lv.up hv, fun b hb => Int.le_trans (h.tv b hb) hv⟩
theorem Kk {α : Type} {P : α → Prop} {y : α} (hy : P y) : ∀ {l : List α} {i : Nat}, (∀ x ∈ l, P x) → ∀ x ∈ upd l i y, P x
 | [], _, h, x, hx => h x hx
 | a :: l, 0, h, x, hx => by
  rcases List.mem_cons.1 hx with rfl | hx
  ·exact hy
  ·exact h x (List.mem_cons_of_mem _ hx)
 | a :: l, i + 1, h, x, hx => by
  rcases List.mem_cons.1 hx with rfl | hx
  ·exact h _ List.mem_cons_self
  ·exact Kk hy (fun z hz => h z (List.mem_cons_of_mem _ hz)) x hx
theorem Lv.app {V : Int} {a b : List Zs} (h : Lv V a) (k : Lv V b) : Lv V (List.append a b) := fun y hy => by
 rcases List.mem_append.1 hy with hy | hy
 ·exact h y hy
 ·exact k y hy
theorem Lv.sub {V : Int} {l : List Zs} (h : Lv V l) (a b : Nat) : Lv V (List.take a (List.drop b l)) := fun y hy => h y (List.mem_of_mem_drop (List.mem_of_mem_take hy))
theorem ZFf {B S : Nat} {V : Int} {x : Zl} (h : ClI B S V x) (k : Int) : Ok (ZcZ big x k) fun r => ClI B S V r.2.1 ∧ (r.1.2.1 = true → 0 ≤ r.1.1.2.2.2.1 ∧ r.1.1.2.2.2.1 ≤ V) := by
 obtain ⟨n, ch, li, tr, ps, ne, sa, pe, ⟨⟩⟩ := x
 have hn : List.length ne ≤ 60 := h.net
 rw [ZsV]
 dsimp only
 have hW : IntKind.i64.wrap ((↑(List.length ne) : Int) - 1) = (↑(List.length ne) : Int) - 1 := ZK (by omega) (by omega)
 simp only [Zgu, Option.bind_some, hW]
 by_cases hk : 0 ≤ k ∧ k ≤ (↑(List.length ne) : Int) - 1
 ·have e : (decide (0 ≤ k) && decide (k ≤ (↑(List.length ne) : Int) - 1)) = true := by simp only [hk.1, hk.2, decide_true, Bool.and_self]
  have w : IntKind.i64.wrap (k + 1) = k + 1 := ZK (by omega) (by omega)
  have g4 : 0 + (List.take (k.toNat - 0) (List.drop 0 ne)).length ≤ lim := by simp only [List.length_take, List.length_drop]; unfold lim; omega
  have g7 : (List.take (k.toNat - 0) (List.drop 0 ne)).length + (List.take (List.length ne - (k + 1).toNat) (List.drop (k + 1).toNat ne)).length ≤ lim := by simp only [List.length_take, List.length_drop]; unfold lim; omega
  have g7' : (List.append (List.take (k.toNat - 0) (List.drop 0 ne)) (List.take (List.length ne - (k + 1).toNat) (List.drop (k + 1).toNat ne))).length ≤ 60 := by
   show List.length (_ ++ _ : List Zs) ≤ 60
   simp only [List.length_append, List.length_take, List.length_drop]; omega
  simp only [e, Bool.not_true, cond_false, w, if_pos hk.1, if_pos (show k < (↑(List.length ne) : Int) by omega), if_pos (show k ≤ (↑(List.length ne) : Int) by omega), if_pos (show 0 ≤ k + 1 by omega), if_pos (show k + 1 ≤ (↑(List.length ne) : Int) by omega), if_pos g4, if_pos g7, Xm]
  refine ZS (by omega) fun y hy => Zb ⟨⟨h.n, h.tree, h.peers, h.peer, g7', h.said, h.pend, h.key, fun x hx => ?_, h.tv⟩, fun _ => h.lv y hy⟩
  rcases List.mem_append.1 hx with hx | hx
  ·exact h.lv x (List.mem_of_mem_drop (List.mem_of_mem_take hx))
  ·exact h.lv x (List.mem_of_mem_drop (List.mem_of_mem_take hx))
 ·have e : (decide (0 ≤ k) && decide (k ≤ (↑(List.length ne) : Int) - 1)) = false := by
   rw [← Bool.not_eq_true]
   intro h
   simp only [Bool.and_eq_true, decide_eq_true_eq] at h
   exact hk h
  simp only [e, Bool.not_false, cond_true]
  exact Zb ⟨h, fun h => by cases h⟩
theorem Zwm {B S : Nat} {V : Int} {x : Zl} (h : ClI B S V x) (l : List Zs) (hl : l.length ≤ 1000000) (hv : Lv V l) : Ok (WW big x l) fun r => ClI B S V r.2.1 := by
 have hn := h.net
 rw [Zpc, ZK (by omega) (by omega)]
 refine Zj (fun _ => Zb h) fun hc => ZA (by unfold lim; omega) (ZA (by unfold lim; omega) (Zb ⟨h.n, h.tree, h.peers, h.peer, ?_, h.said, h.pend, h.key, h.lv.app hv, h.tv⟩))
 show (List.append x.2.2.2.2.2.1 l).length ≤ 60
 show List.length (_ ++ _ : List Zs) ≤ 60
 rw [List.length_append]; omega
theorem ZFg {B S : Nat} {V : Int} (hS : S ≤ 1000000000) {x : Zl} (h : ClI B S V x) (v : ZX) : Ok (Zey big x v) fun r => ClI B (S + 1) V r.2.1 := by
 obtain ⟨n, ch, li, tr, ps, ne, sa, pe, ⟨⟩⟩ := x
 obtain ⟨v0, v1, v2, v3, ⟨⟩⟩ := v
 have hn : List.length sa ≤ S := h.said
 rw [Zpf]
 dsimp only
 refine up0 (L := List.length sa) (by omega) (f := fun m i => QD m i n ch li tr ps ne sa pe v0 v1 v2 v3) (fun m i h0 h1 nx => ?_) (fun m => ?_)
 ·rw [Za5, ZK (n := i + 1) (by omega) (by omega)]
  exact Zj (fun hi => ZA h0 (ZA hi (ZS (by omega) fun y hy => Yf (fun _ => Zb (h.mono (Nat.le_refl _) (by omega))) fun _ => nx _ rfl))) (fun h => by omega)
 ·rw [Za5]
  refine Zj (fun h => by omega) fun _ => ?_
  simp only [Xm]
  refine ZA (by unfold lim; omega) (ZA (by simp only [List.length_singleton]; unfold lim; omega) (Zb ⟨h.n, h.tree, h.peers, h.peer, h.net, ?_, h.pend, h.key, h.lv, h.tv⟩))
  show (List.append sa [(v0, v1, v2, v3, ())]).length ≤ S + 1
  rw [Y7]; omega
theorem ZzG {B S : Nat} {V : Int} (hS : S ≤ 900000000) (l : List Zs) (hl : l.length ≤ 7) (hv : Lv V l) : ∀ (m n : Nat) (i : Nat) (c : Zl), i ≤ l.length → l.length ≤ i + m → m < n → ClI B (S + i) V c →
  Ok (Ys n (i : Int) c.1 c.2.1 c.2.2.1 c.2.2.2.1 c.2.2.2.2.1 c.2.2.2.2.2.1 c.2.2.2.2.2.2.1 c.2.2.2.2.2.2.2.1 l) fun r => ClI B (S + 7) V r.2.1 := by
 intro m
 induction m with
 | zero =>
  intro n i c h1 h2 h3 h
  obtain ⟨n, rfl⟩ : ∃ m, n = m + 1 := ⟨n - 1, by omega⟩
  rw [KY]
  exact Zj (fun h => by omega) fun _ => Zb (h.mono (Nat.le_refl _) (by omega))
 | succ m ih =>
  intro n i c h1 h2 h3 h
  obtain ⟨n, rfl⟩ : ∃ m, n = m + 1 := ⟨n - 1, by omega⟩
  rw [KY, ZK (n := (i : Int) + 1) (by omega) (by omega)]
  refine Zj (fun hi => ?_) fun _ => Zb (h.mono (Nat.le_refl _) (by omega))
  have h0 : (0 : Int) ≤ (i : Int) := by omega
  have e1 : ((i : Int) + 1) = ((i + 1 : Nat) : Int) := by omega
  have ht : (List.take (((i : Int) + 1).toNat - (i : Int).toNat) (List.drop (i : Int).toNat l)).length ≤ 1000000 := by simp only [List.length_take, List.length_drop]; omega
  have go : ∀ c' : Zl, ClI B (S + (i + 1)) V c' → Ok (Ys n ((i : Int) + 1) c'.1 c'.2.1 c'.2.2.1 c'.2.2.2.1 c'.2.2.2.2.1 c'.2.2.2.2.2.1 c'.2.2.2.2.2.2.1 c'.2.2.2.2.2.2.2.1 l) fun r => ClI B (S + 7) V r.2.1 := fun c' hc => by
   rw [e1]
   exact ih n (i + 1) c' (by omega) (by omega) (by omega) hc
  refine ZA h0 (ZA hi (ZS (by omega) fun y _ => Zj (fun _ => ZA h0 (ZA hi (ZS (by omega) fun y _ => Zd (ZFg (by omega) h _) fun z hz => ?_))) fun _ => ?_))
  ·have hz' : ClI B (S + (i + 1)) V z.2.1 := hz.mono (Nat.le_refl _) (by omega)
   exact Zj (fun _ => ZA (by omega) (ZA (by omega) (ZA h0 (ZA (by omega) (Zd (Zwm hz' _ ht (hv.sub _ _)) fun w hw => go _ hw))))) fun _ => go _ hz'
  ·have h' : ClI B (S + (i + 1)) V c := h.mono (Nat.le_refl _) (by omega)
   exact Zj (fun _ => ZA (by omega) (ZA (by omega) (ZA h0 (ZA (by omega) (Zd (Zwm h' _ ht (hv.sub _ _)) fun w hw => go _ hw))))) fun _ => go _ h'
theorem ZD9 {B S : Nat} {V : Int} (hB : B ≤ 800000000) (hS : S ≤ 900000000) (hV : V + 1 ≤ 900) {x : Zl} (h : ClI B S V x) (k : Int) : Ok (Zb9 big x k) fun r => ClI (B + 60) (S + 7) (V + 1) r.2.1 := by
 rw [Zmt]
 refine Zd (ZFf h k) fun y hyl => ?_
 obtain ⟨hy, hlv⟩ := hyl
 obtain ⟨⟨l, b, ⟨⟩⟩, y, ⟨⟩⟩ := y
 obtain ⟨n, ch, li, tr, ps, ne, sa, pe, ⟨⟩⟩ := y
 have hn : n = 4 := hy.n
 have hp : List.length ps = 4 := hy.peers
 have hq := hy.peer
 have ht := hy.tree
 have stay := (hy.up (V' := V + 1) (by omega) hV).mono (B' := B + 60) (S' := S + 7) (by omega) (by omega)
 dsimp only at hy hq ht stay hlv ⊢
 refine Z7 (fun _ => Zb stay) fun hb0 => Zd (Zgq _ _ (by show List.length ps ≤ 1000; omega)) fun b hb => Z7 (fun _ => Zb stay) fun hb1 => ?_
 have hi := hb hb1
 have hl2 := hlv hb0
 dsimp only at hi
 have hu : ∀ y, (upd ps (Int.toNat l.2.2.1) y).length = List.length ps := fun y => Z0 _ _ _
 have fin : ∀ z z3 : Zq, Ko B V z → Ko (B + 60) (V + 1) z3 → ∀ l' : List Zs, l'.length ≤ 7 → Lv (V + 1) l' →
   Ok (Ys big 0 n ch li tr (upd (upd ps (Int.toNat l.2.2.1) z) (Int.toNat l.2.2.1) z3) ne sa pe l') fun r => ClI (B + 60) (S + 7) (V + 1) r.2.1 := fun z z3 hz hz3 l' hl' hlv' => by
  have hc : ClI (B + 60) (S + 0) (V + 1) (n, ch, li, tr, upd (upd ps (Int.toNat l.2.2.1) z) (Int.toNat l.2.2.1) z3, ne, sa, pe, ()) :=
   ⟨hn, ht, by show (upd (upd ps _ z) _ z3).length = 4; rw [Z0, Z0]; exact hp, Kk hz3 (Kk ((hz.up (by omega) hV).mono (by omega)) fun p hp => ((hq p hp).up (by omega) hV).mono (by omega)), hy.net, hy.said, hy.pend, hy.key, hy.lv.up (by omega), fun b hb => by have := hy.tv b hb; omega⟩
  have := ZzG hS l' hl' hlv' 7 big 0 _ (by omega) (by omega) (by unfold big; omega) hc
  exact this
 have mid : ∀ (z : Zq) (f : Zq → Option (Zq × List Zs × Unit)), Ko B V z → (∀ z, Yt B V z → Ok (f z) (ZtE (B + 60) (V + 1) z)) → Ok ((f z).bind fun y_3 => (Zdf ps (Int.toNat l.2.2.1) z).bind fun y_4 => if (0 : Int) ≤ l.2.2.1 then if l.2.2.1 < (↑(List.length y_4) : Int) then (nth y_4 (Int.toNat l.2.2.1)).bind fun y_5 => (Zdf y_4 (Int.toNat l.2.2.1) y_3.1).bind fun y_6 => Ys big (0 : Int) n ch li tr y_6 ne sa pe y_3.2.1 else none else none) fun r => ClI (B + 60) (S + 7) (V + 1) r.2.1 := fun z f hz hf => by
  refine Zd (hf z hz.1) fun y3 hy3 => ZdV (by omega) ?_
  exact ZA hi.1 (ZA (by rw [hu]; exact hi.2) (ZS (by rw [hu]; omega) fun _ _ => ZdV (by rw [hu]; omega) (fin _ _ hz (hz.of hy3.1 hy3.2.1) _ hy3.2.2.1 hy3.2.2.2)))
 refine Yf (fun _ => ZA hi.1 (ZA hi.2 (ZS (by omega) fun y hy1 => ?_))) (fun _ => ZA hi.1 (ZA hi.2 (ZS (by omega) fun y hy1 => ?_)))
 ·exact mid y (fun p => QB big tr n p l) (hq y hy1) fun z hz => ZD8 hB ht hz hV n (by omega) l hl2
 ·exact mid y (fun p => ZaA big tr n p l) (hq y hy1) fun z hz => ZGj hB ht hz hV n (by omega) l hl2
theorem ZFh {B S : Nat} {V : Int} (hB : B ≤ 800000000) (hV : V + 1 ≤ 900) {x : Zl} (h0 : ClI B S V x) (k : Int) : Ok (Zez big x k) fun r => ClI B S (V + 1) r.2.1 := by
 have h := h0.up (V' := V + 1) (by omega) hV
 rw [Zpi]
 have hp : List.length x.2.2.2.2.1 = 4 := h.peers
 refine Zd (Zgq _ _ (by omega)) fun b hb => Z7 (fun _ => Zb h) fun hb1 => ?_
 have hi := hb hb1
 have hu : ∀ y, (upd x.2.2.2.2.1 k.toNat y).length = List.length x.2.2.2.2.1 := fun y => Z0 _ _ _
 refine ZA hi.1 (ZA hi.2 (ZS (by omega) fun y hy => Zd (ZzF (by omega) (h0.peer y hy).1 hV _) fun z hz => ZdV (by omega) ?_))
 simp only [Xm]
 have one : ∀ z, Ko B (V + 1) z → ClI B S (V + 1) (x.1, x.2.1, x.2.2.1, x.2.2.2.1, upd x.2.2.2.2.1 k.toNat z, x.2.2.2.2.2) := fun z hz =>
  ⟨h.n, h.tree, by show (upd _ _ _).length = 4; rw [hu]; exact hp, Kk hz h.peer, h.net, h.said, h.pend, h.key, h.lv, h.tv⟩
 have two : ∀ z, Ko B (V + 1) z → ClI B S (V + 1) (x.1, x.2.1, x.2.2.1, x.2.2.2.1, upd (upd x.2.2.2.2.1 k.toNat y) k.toNat z, x.2.2.2.2.2) := fun z hz =>
  ⟨h.n, h.tree, by show (upd (upd _ _ _) _ _).length = 4; rw [Z0, hu]; exact hp, Kk hz (Kk (h.peer y hy) h.peer), h.net, h.said, h.pend, h.key, h.lv, h.tv⟩
 exact Z7 (fun _ => Zb (one y (h.peer y hy))) fun _ => ZA hi.1 (ZA (by rw [hu]; exact hi.2) (ZS (by rw [hu]; omega) fun _ _ => ZdV (by rw [hu]; omega) (Zd (Zwm (two z.1 ((h0.peer y hy).of hz.1 hz.2.1)) _ (by simp only [List.length_singleton]; omega) hz.2.2) fun w hw => Zb hw)))
theorem ZEa {B S : Nat} {V : Int} {x : Zl} (h : ClI B S V x) (k : Int) : Ok (Zin big x k) fun r => ClI B S V r.2.1 := by
 obtain ⟨n, ch, li, tr, ps, ne, sa, pe, ⟨⟩⟩ := x
 have hn : List.length ne ≤ 60 := h.net
 show Ok (UE big _) _
 unfold UE twF twL
 dsimp only
 have hW : IntKind.i64.wrap ((↑(List.length ne) : Int) - 1) = (↑(List.length ne) : Int) - 1 := ZK (by omega) (by omega)
 simp only [Zgu, Option.bind_some, hW]
 by_cases hk : 0 ≤ k ∧ k ≤ (↑(List.length ne) : Int) - 1
 ·have e : (decide (0 ≤ k) && decide (k ≤ (↑(List.length ne) : Int) - 1)) = true := by simp only [hk.1, hk.2, decide_true, Bool.and_self]
  have w : IntKind.i64.wrap (k + 1) = k + 1 := ZK (by omega) (by omega)
  have hl : (List.take ((k + 1).toNat - k.toNat) (List.drop k.toNat ne)).length ≤ 60 := by simp only [List.length_take, List.length_drop]; omega
  simp only [e, Bool.not_true, cond_false, w]
  refine Zd (Q := fun r => List.length (r.2.getD ne) ≤ 60 ∧ Lv V (r.2.getD ne)) ?_ fun r hr => Zb ⟨h.n, h.tree, h.peers, h.peer, hr.1, h.said, h.pend, h.key, hr.2, h.tv⟩
  rw [ZK (n := (↑(List.length ne) : Int) + (↑(List.length (List.take ((k + 1).toNat - k.toNat) (List.drop k.toNat ne))) : Int)) (by omega) (by omega)]
  refine ZA (by omega) (ZA (by omega) (ZA hk.1 (ZA (by omega) (Zj (fun _ => Zb ⟨hn, h.lv⟩) fun hc => ZA (by unfold lim; omega) (ZA (by unfold lim; omega) (Zb ⟨?_, h.lv.app (h.lv.sub _ _)⟩))))))
  show (List.append ne _).length ≤ 60
  show List.length (_ ++ _ : List Zs) ≤ 60
  rw [List.length_append]; omega
 ·have e : (decide (0 ≤ k) && decide (k ≤ (↑(List.length ne) : Int) - 1)) = false := by
   rw [← Bool.not_eq_true]
   intro h
   simp only [Bool.and_eq_true, decide_eq_true_eq] at h
   exact hk h
  simp only [e, Bool.not_false, cond_true, Option.bind_some]
  exact Zb h
end Go.Sx.Tryz
set_option maxRecDepth 100000
namespace Go.Sx.Tryz
open Go Go.Sx Go.Proofs
def bL (l : List UInt8) : ByteArray := ByteArray.mk l.toArray
theorem ZcA (l : List UInt8) : (bL l).size = l.length := by simp [bL, ByteArray.size]
theorem ZtF (s : ByteArray) : s.data.toList.length = s.size := by rw [Array.length_toList]; rfl
theorem ZFi (s : ByteArray) (b i : Nat) : s.extract b i = bL ((s.data.toList.drop b).take (i - b)) := by
 apply ByteArray.ext
 apply Array.toList_inj.1
 simp [bL, ByteArray.data_extract, List.extract_eq_take_drop]
theorem ZEb (s : ByteArray) : bL s.data.toList = s := by
 apply ByteArray.ext
 simp [bL]
def enc (n : Nat) : List UInt8 := if n ≤ 127 then [UInt8.ofNat n] else UInt8.ofNat (n % 128 + 128) :: enc (n / 128)
termination_by n
decreasing_by omega
theorem Zrm {n : Nat} (h : n ≤ 127) : enc n = [UInt8.ofNat n] := by rw [enc, if_pos h]
theorem Zwn {n : Nat} (h : ¬ n ≤ 127) : enc n = UInt8.ofNat (n % 128 + 128) :: enc (n / 128) := by rw [enc, if_neg h]
theorem ZxI : ∀ (k n : Nat), n < 128 ^ (k + 1) → (enc n).length ≤ k + 1
 | 0, n, h => by rw [Zrm (by omega)]; exact Nat.le_refl _
 | k + 1, n, h => by
  by_cases h1 : n ≤ 127
  ·rw [Zrm h1]; show 1 ≤ _; omega
  ·rw [Zwn h1, List.length_cons]
   have := ZxI k (n / 128) (by rw [Nat.pow_succ] at h; omega)
   omega
theorem ZBv (n : Nat) : 1 ≤ (enc n).length := by
 by_cases h1 : n ≤ 127
 ·rw [Zrm h1]; exact Nat.le_refl _
 ·rw [Zwn h1, List.length_cons]; omega
abbrev fB (n : Int) : UInt8 := UInt8.ofNat n.toNat
theorem w8 {m : Nat} (h : m < 256) : IntKind.u8.wrap (m : Int) = (m : Int) := by rw [IntKind.wrap_u8]; omega
theorem ZFj (l : List Int) (x : Int) : ByteArray.mk (List.map (fun n => UInt8.ofNat n.toNat) (List.append l [x])).toArray = bL (l.map fB ++ [fB x]) := by
 show bL (List.map fB (l ++ [x])) = _
 rw [List.map_append]; rfl
theorem ZtG : ∀ (k n m : Nat) (l : List Int), m < 128 ^ (k + 1) → m < 9223372036854775808 → k < n → l.length + k ≤ 1000 → K2 n (m : Int) l = some (bL (l.map fB ++ enc m))
 | k, 0, m, l, _, _, h, _ => by omega
 | k, n + 1, m, l, h1, h2, h3, h4 => by
  rw [Kb]
  by_cases h0 : m ≤ 127
  ·rw [decide_eq_false (by omega), cond_false, if_pos (by simp only [List.length_singleton]; unfold lim; omega), ZFj, Zrm h0, w8 (by omega)]
   rfl
  ·have e1 : ((m : Int)).tmod 128 = ((m % 128 : Nat) : Int) := (Int.ofNat_tmod m 128).symm
   have e2 : ((m : Int)).tdiv 128 = ((m / 128 : Nat) : Int) := (Int.ofNat_tdiv m 128).symm
   rw [decide_eq_true (by omega), cond_true, if_pos (by simp only [List.length_singleton]; unfold lim; omega), e1, e2, ZK (n := ((m / 128 : Nat) : Int)) (by omega) (by omega), ZK (n := ((m % 128 : Nat) : Int) + 128) (by omega) (by omega)]
   cases k with
   | zero => omega
   | succ k =>
    have e3 : IntKind.u8.wrap (((m % 128 : Nat) : Int) + 128) = ((m % 128 + 128 : Nat) : Int) := by
     have : ((m % 128 : Nat) : Int) + 128 = ((m % 128 + 128 : Nat) : Int) := by omega
     rw [this, w8 (by omega)]
    rw [ZtG k n (m / 128) _ (by rw [Nat.pow_succ] at h1; omega) (by omega) (by omega) (by show (l ++ _).length + k ≤ 1000; rw [List.length_append, List.length_singleton]; omega), e3, Zwn h0]
    show some (bL (List.map fB (l ++ _) ++ _)) = _
    rw [List.map_append, List.append_assoc]
    rfl
theorem ZEc (n : Int) : Ok (JO big n) fun t => 1 ≤ t.size ∧ t.size ≤ 12 ∧ (0 ≤ n → n < 9223372036854775808 → t = bL (enc n.toNat)) := by
 rw [Zs0]
 by_cases hn : 0 ≤ n ∧ n < 9223372036854775808
 ·obtain ⟨m, rfl⟩ : ∃ m : Nat, n = m := ⟨n.toNat, by omega⟩
  rw [ZtG 8 big m [] (by omega) (by omega) (by unfold big; omega) (by decide)]
  refine Zb ⟨?_, ?_, fun _ _ => by rw [Int.toNat_natCast]; rfl⟩
  ·rw [ZcA, List.map_nil, List.nil_append]; exact ZBv m
  ·rw [ZcA, List.map_nil, List.nil_append]
   have := ZxI 8 m (by omega)
   omega
 ·obtain ⟨b, hb⟩ : ∃ b, big = b + 1 := ⟨big - 1, by decide⟩
  obtain ⟨c, hc⟩ : ∃ c, b = c + 1 := ⟨big - 2, by rw [show big = big - 2 + 2 by decide] at hb; omega⟩
  have h10 : 10 < big := by decide
  have hc8 : 8 < c + 1 := by omega
  rw [hb, Kb]
  refine Zj (fun h1 => ZA (by simp only [List.length_nil, List.length_singleton]; unfold lim; omega) ?_) fun h1 => ZA (by simp only [List.length_nil, List.length_singleton]; unfold lim; omega) (Zb ⟨?_, ?_, fun h2 h3 => absurd ⟨h2, h3⟩ hn⟩)
  ·generalize IntKind.u8.wrap (IntKind.i64.wrap (n.tmod 128 + 128)) = x
   have hw := IntKind.wrap_i64 (n.tdiv 128)
   have hr : -9223372036854775808 ≤ IntKind.i64.wrap (n.tdiv 128) ∧ IntKind.i64.wrap (n.tdiv 128) < 9223372036854775808 := by
    rw [hw]; omega
   revert hr
   generalize IntKind.i64.wrap (n.tdiv 128) = w
   intro hr
   by_cases hw0 : 0 ≤ w
   ·obtain ⟨m, rfl⟩ : ∃ m : Nat, w = m := ⟨w.toNat, by omega⟩
    rw [hc, ZtG 8 (c + 1) m _ (by omega) (by omega) hc8 (by simp only [List.append_eq, List.nil_append, List.length_singleton]; omega)]
    have := ZxI 8 m (by omega)
    have := ZBv m
    have e : (List.map fB (List.append [] [x])).length = 1 := by rw [List.length_map]; rfl
    exact Zb ⟨by rw [ZcA, List.length_append, e]; omega, by rw [ZcA, List.length_append, e]; omega, fun h2 h3 => absurd ⟨h2, h3⟩ hn⟩
   ·rw [hc, Kb]
    refine Zj (fun h => by omega) fun _ => ZA (by simp only [List.append_eq, List.nil_append, List.length_singleton]; unfold lim; omega) (Zb ⟨?_, ?_, fun h2 h3 => absurd ⟨h2, h3⟩ hn⟩)
    ·rw [ZFj, ZcA]; simp only [List.append_eq, List.nil_append, List.map_cons, List.map_nil, List.length_append, List.length_singleton]; omega
    ·rw [ZFj, ZcA]; simp only [List.append_eq, List.nil_append, List.map_cons, List.map_nil, List.length_append, List.length_singleton]; omega
  ·rw [ZFj, ZcA]; simp only [List.map_nil, List.nil_append, List.length_singleton]; omega
  ·rw [ZFj, ZcA]; simp only [List.map_nil, List.nil_append, List.length_singleton]; omega
theorem ZnM (n : Int) : Ok (Xf big n) fun t => 1 ≤ t.size ∧ t.size ≤ 12 ∧ (0 ≤ n → n < 9223372036854775808 → t = bL (enc n.toNat)) := by
 rw [Zs2]
 exact Zj (fun h => Zb ⟨by decide, by decide, fun h1 => by omega⟩) fun _ => Zd (ZEc n) fun t ht => Zb ht
theorem Zyw (q : Zbm) : Ok (Zc3 big q) fun t => t.size ≤ 48 := by
 rw [Zs5]
 exact Zd (ZnM _) fun a ha => Zd (ZnM _) fun b hb => ZA (by unfold lim; omega) (Zd (ZnM _) fun c hc => ZA (by simp only [ByteArray.size_append]; unfold lim; omega) (Zd (ZnM _) fun d hd => ZA (by simp only [ByteArray.size_append]; unfold lim; omega) (Zb (by simp only [ByteArray.size_append]; omega))))
theorem ZzH (q : ZX) : Ok (Zca big q) fun t => t.size ≤ 48 := by
 rw [ZmC]
 exact Zd (ZnM _) fun a ha => Zd (ZnM _) fun b hb => ZA (by unfold lim; omega) (Zd (ZnM _) fun c hc => ZA (by simp only [ByteArray.size_append]; unfold lim; omega) (Zd (ZnM _) fun d hd => ZA (by simp only [ByteArray.size_append]; unfold lim; omega) (Zb (by simp only [ByteArray.size_append]; omega))))
theorem ZBw (s : ByteArray) (i : Int) {P : Int → Prop} : ∀ (m n : Nat) (k a : Int), 0 ≤ k → k ≤ 8 → (8 : Int) ≤ k + m → m < n → (∀ n' a', n ≤ n' + m + 1 → Ok (Vt n' a' s (IntKind.i64.wrap (i + 1))) P) → Ok (Vu n a s i k) P
 | m, 0, k, a, _, _, _, h, _ => by omega
 | 0, n + 1, k, a, h0, h1, h2, h3, go => by
  rw [Za7]
  exact Zj (fun h => by omega) fun _ => go n _ (by omega)
 | m + 1, n + 1, k, a, h0, h1, h2, h3, go => by
  rw [Za7, ZK (n := k + 1) (by omega) (by omega)]
  refine Zj (fun h => ?_) fun _ => go n _ (by omega)
  exact Zj (fun _ => ZBw s i m n (k + 1) _ (by omega) (by omega) (by omega) (by omega) fun n' a' h => go n' a' (by omega)) (fun _ => ZBw s i m n (k + 1) _ (by omega) (by omega) (by omega) (by omega) fun n' a' h => go n' a' (by omega))
theorem Zyx (s : ByteArray) (hs : s.size ≤ 1000000) : ∀ (m n : Nat) (i a : Int), 0 ≤ i → i ≤ s.size → (s.size : Int) ≤ i + m → m * 10 < n → Ok (Vt n a s i) fun _ => True
 | m, 0, i, a, _, _, _, h => by omega
 | 0, n + 1, i, a, h0, h1, h2, h3 => by
  rw [Za6]
  exact Zj (fun h => by omega) fun _ => Zb trivial
 | m + 1, n + 1, i, a, h0, h1, h2, h3 => by
  have hl := ZtF s
  rw [Za6]
  refine Zj (fun h => ZA h0 (ZS (by omega) fun y _ => ?_)) fun _ => Zb trivial
  refine ZBw s i 8 n 0 _ (by omega) (by omega) (by omega) (by omega) fun n' a' hn => ?_
  rw [ZK (n := i + 1) (by omega) (by omega)]
  exact Zyx s hs m n' (i + 1) a' (by omega) (by omega) (by omega) (by omega)
theorem ZBx (s : ByteArray) (hs : s.size ≤ 1000000) : Ok (ZfS big s) fun _ => True := by
 rw [ZvL, Zpl]
 exact Zd (Zyx s hs s.size big 0 _ (by omega) (by omega) (by omega) (by unfold big; omega)) fun _ _ => Zb trivial
theorem ZBy (s f : ByteArray) : (s ++ f).extract 0 s.size = s := by
 rw [ZFi, List.drop_zero, Nat.sub_zero, ByteArray.data_append, Array.toList_append, List.take_left' (ZtF s), ZEb]
theorem Zyy (s : ByteArray) : Ok (Zg9 big s) fun r => r.1.size ≤ 20004 ∧ (4 ≤ r.1.size → r.1.extract 0 (r.1.size - 4) = s) := by
 rw [Ztb]
 refine Zj (fun _ => Zb ⟨by decide, fun h => absurd h (by decide)⟩) fun hs => Zd (ZBx s (by omega)) fun y _ => ?_
 generalize hf : ByteArray.mk (List.map (fun n => UInt8.ofNat n.toNat) [IntKind.u8.wrap (Int.fdiv y ((2 : Int) ^ min (Int.toNat (24 : Int)) IntKind.u32.bits)), IntKind.u8.wrap (Int.fdiv y ((2 : Int) ^ min (Int.toNat (16 : Int)) IntKind.u32.bits)), IntKind.u8.wrap (Int.fdiv y ((2 : Int) ^ min (Int.toNat (8 : Int)) IntKind.u32.bits)), IntKind.u8.wrap y]).toArray = f
 have h4 : f.size = 4 := by rw [← hf]; rfl
 refine ZA (by unfold lim; omega) (Zb ⟨by simp only [ByteArray.size_append]; omega, fun _ => ?_⟩)
 show (s ++ f).extract 0 ((s ++ f).size - 4) = s
 rw [ByteArray.size_append, h4, Nat.add_sub_cancel]
 exact ZBy s f
theorem ZzI (s : ByteArray) (hs : s.size ≤ 1000000) : Ok (Zcc big s) fun r => r.1.size ≤ 20000 ∧ (r.2.1 = true → 4 ≤ s.size ∧ r.1 = s.extract 0 (s.size - 4)) := by
 rw [ZmK, ZK (n := (s.size : Int) - 4) (by omega) (by omega)]
 have no : (ByteArray.mk #[]).size ≤ 20000 ∧ (false = true → 4 ≤ s.size ∧ ByteArray.mk #[] = s.extract 0 (s.size - 4)) := ⟨by decide, fun h => by cases h⟩
 refine Zj (fun _ => Zb no) fun h1 => Zj (fun _ => Zb no) fun h2 => ZA (by omega) (ZA (by omega) (ZA (by omega) (ZA (by omega) ?_)))
 have e : ((s.size : Int) - 4).toNat = s.size - 4 := by omega
 rw [e]
 refine Zd (ZBx _ (by rw [ByteArray.size_extract]; omega)) fun y _ => Yw (fun _ => Zb no) fun _ => ZA (by omega) (ZA (by omega) (Zb ⟨?_, fun _ => ⟨by omega, rfl⟩⟩))
 show (s.extract 0 (s.size - 4)).size ≤ 20000
 rw [ByteArray.size_extract]; omega
theorem ZBz (b0 : Int) (b1 : Int) (b2 : Int) (b3 : Int) (b4 : Int) (b5 : Int) (b6 : Int) (b7 : Int) (b8 : Int) (b9 : Int) (b10 : Int) (b11 : Int) (b12 : Int) (b13 : Int) (b14 : List Int) (b15 : List Yj) (b16 : List Int) (b17 : List YW) (b18 : List ZX) (b19 : List Zs) (b20 : Int) (hr : b14.length ≤ 100000000) : ∀ (m n : Nat) (i : Int) (s : ByteArray), 0 ≤ i → i ≤ b14.length → (b14.length : Int) ≤ i + m → m < n → s.size ≤ 1000 + 12 * i.toNat →
  Ok (Um n s i b0 b1 b2 b3 b4 b5 b6 b7 b8 b9 b10 b11 b12 b13 b14 b15 b16 b17 b18 b19 b20) fun t => t.size ≤ 20004 ∧ (4 ≤ t.size → ∃ e, t.extract 0 (t.size - 4) = s ++ e) := by
 intro m
 induction m with
 | zero =>
  intro n i s h0 h1 h2 h3 h4
  obtain ⟨n, rfl⟩ : ∃ m, n = m + 1 := ⟨n - 1, by omega⟩
  rw [JP]
  exact Zj (fun h => by omega) fun _ => Zd (Zyy s) fun y hy => Zb ⟨hy.1, fun h => ⟨bL [], by rw [hy.2 h]; exact (ByteArray.append_empty).symm⟩⟩
 | succ m ih =>
  intro n i s h0 h1 h2 h3 h4
  obtain ⟨n, rfl⟩ : ∃ m, n = m + 1 := ⟨n - 1, by omega⟩
  rw [JP, ZK (n := i + 1) (by omega) (by omega)]
  refine Zj (fun h => ZA h0 (ZS (by omega) fun y _ => Zd (ZnM y) fun z hz => ZA (by unfold lim; omega) ?_)) fun _ => Zd (Zyy s) fun y hy => Zb ⟨hy.1, fun h => ⟨bL [], by rw [hy.2 h]; exact (ByteArray.append_empty).symm⟩⟩
  refine VH (ih n (i + 1) (s ++ z) (by omega) (by omega) (by omega) (by omega) (by rw [ByteArray.size_append]; omega)) fun t ht => ⟨ht.1, fun h => ?_⟩
  obtain ⟨e, he⟩ := ht.2 h
  exact ⟨z ++ e, by rw [he, ByteArray.append_assoc]⟩
theorem Zrn (p : Zq) (hr : List.length p.2.2.2.2.2.1 ≤ 100000000) : Ok (UF big p) fun t => t.size ≤ 20004 ∧
  (4 ≤ t.size → (0 ≤ p.1 ∧ p.1 ≤ 1000) → (0 ≤ p.2.1 ∧ p.2.1 ≤ 1000) → ∃ e, t.extract 0 (t.size - 4) = bL (enc p.1.toNat) ++ bL (enc p.2.1.toNat) ++ e) := by
 rw [ZmM]
 refine Zd (ZnM _) fun a ha => Zd (ZnM _) fun b hb => ZA (by unfold lim; omega) (Zd (Zyw _) fun c hc => ZA (by simp only [ByteArray.size_append]; unfold lim; omega) (Zd (Zyw _) fun d hd => ZA (by simp only [ByteArray.size_append]; unfold lim; omega)
  (Zd (ZzH _) fun f hf => ZA (by simp only [ByteArray.size_append]; unfold lim; omega) (Zd (ZEc _) fun g hg => ZA (by simp only [ByteArray.size_append]; unfold lim; omega) ?_))))
 refine VH (ZBz _ _ _ _ _ _ _ _ _ _ _ _ _ _ _ _ _ _ _ _ _ hr (List.length p.2.2.2.2.2.1) big 0 _ (by omega) (by omega) (by omega) (by unfold big; omega) (by simp only [ByteArray.size_append]; omega)) fun t ht => ⟨ht.1, fun h h1 h2 => ?_⟩
 obtain ⟨e, he⟩ := ht.2 h
 refine ⟨c ++ d ++ f ++ g ++ e, ?_⟩
 rw [he, ha.2.2 h1.1 (by omega), hb.2.2 h2.1 (by omega)]
 simp only [ByteArray.append_assoc]
end Go.Sx.Tryz
set_option maxRecDepth 100000
namespace Go.Sx.Tryz
open Go Go.Sx Go.Proofs
def RdP (s : ByteArray) (i v w : Nat) (r : Int × Int × Bool × Unit) : Prop :=
 r.2.2.1 = true → (i : Int) < r.2.1 ∧ r.2.1 ≤ s.size ∧ 0 ≤ r.1 ∧ r.1 ≤ 1000000000 ∧ ∀ m rest, s.data.toList.drop i = enc m ++ rest → r.1 = ((v + m * w : Nat) : Int) ∧ r.2.1 = ((i + (enc m).length : Nat) : Int)
theorem ZjM {m : Nat} (h : m < 256) : (UInt8.ofNat m).toNat = m := by
 have : (UInt8.ofNat m).toNat = m % 256 := rfl
 omega
theorem ZEd (s : ByteArray) (hs : s.size ≤ 1000000) (a : Nat) : ∀ (k n v w i : Nat), i + k = a + 5 → a ≤ i → i ≤ s.size → k < n → w * 128 ^ k ≤ 34359738368 → v ≤ w →
  Ok (QH n s (a : Int) (v : Int) (w : Int) (i : Int)) (RdP s i v w) := by
 have no : ∀ i v w, RdP s i v w ((0 : Int), (0 : Int), false, ()) := fun i v w h => by cases h
 have hl := ZtF s
 intro k
 induction k with
 | zero =>
  intro n v w i h1 h2 h3 h4 h5 h6
  obtain ⟨n, rfl⟩ : ∃ m, n = m + 1 := ⟨n - 1, by omega⟩
  rw [Za8, ZK (n := (a : Int) + 5) (by omega) (by omega)]
  exact Zj (fun _ => Zj (fun h => by omega) fun _ => Zb (no _ _ _)) fun _ => Zb (no _ _ _)
 | succ k ih =>
  intro n v w i h1 h2 h3 h4 h5 h6
  obtain ⟨n, rfl⟩ : ∃ m, n = m + 1 := ⟨n - 1, by omega⟩
  have hw : w * 128 ≤ 34359738368 := by
   have h128 : 1 ≤ 128 ^ k := Nat.pow_pos (by decide)
   rw [Nat.pow_succ, ← Nat.mul_assoc, Nat.mul_right_comm] at h5
   exact Nat.le_trans (Nat.le_mul_of_pos_right _ h128) h5
  have h5' : w * 128 * 128 ^ k ≤ 34359738368 := by
   rw [Nat.pow_succ, ← Nat.mul_assoc, Nat.mul_right_comm] at h5
   exact h5
  rw [Za8, ZK (n := (a : Int) + 5) (by omega) (by omega)]
  refine Zj (fun hi => Zj (fun hi5 => ZA (by omega) ?_) fun _ => Zb (no _ _ _)) fun _ => Zb (no _ _ _)
  have hi' : i < s.data.toList.length := by omega
  have hd := List.drop_eq_getElem_cons hi'
  rw [Int.toNat_natCast, Wy hi', Option.bind_some]
  generalize s.data.toList[i] = b at hd
  have hb : b.toNat < 256 := UInt8.toNat_lt _
  refine ZA (by omega) ?_
  rw [Option.bind_some]
  have hx : b.toNat % 128 * w ≤ 127 * w := Nat.mul_le_mul_right _ (by omega)
  have ev : IntKind.i64.wrap ((v : Int) + IntKind.i64.wrap ((IntKind.i64.wrap (b.toNat : Int)).tmod 128 * (w : Int))) = ((v + b.toNat % 128 * w : Nat) : Int) := by
   have e1 : IntKind.i64.wrap (b.toNat : Int) = (b.toNat : Int) := ZK (by omega) (by omega)
   have e2 : ((b.toNat : Int)).tmod 128 = ((b.toNat % 128 : Nat) : Int) := (Int.ofNat_tmod b.toNat 128).symm
   have e3 : ((b.toNat % 128 : Nat) : Int) * (w : Int) = ((b.toNat % 128 * w : Nat) : Int) := (Int.natCast_mul _ _).symm
   rw [e1, e2, e3, ZK (n := ((b.toNat % 128 * w : Nat) : Int)) (by omega) (by omega), ← Int.natCast_add, ZK (by omega) (by omega)]
  have ei : IntKind.i64.wrap ((i : Int) + 1) = ((i + 1 : Nat) : Int) := by rw [ZK (by omega) (by omega)]; omega
  have ew : IntKind.i64.wrap ((w : Int) * 128) = ((w * 128 : Nat) : Int) := by rw [ZK (by omega) (by omega)]; omega
  rw [ev, ei, ew]
  refine Zj (fun hc => Zj (fun _ => Zb (no _ _ _)) fun hv => ZA (by omega) (ZA (by omega) (ZA (by omega) (ZA (by omega) (Zd (ZEc _) fun y _ => Yw (fun _ => Zb (no _ _ _)) fun _ => Zb fun _ => ⟨?_, ?_, ?_, ?_, fun m rest hm => ?_⟩))))) fun hc => ?_
  ·show (i : Int) < ((i + 1 : Nat) : Int); omega
  ·show ((i + 1 : Nat) : Int) ≤ _; omega
  ·show (0 : Int) ≤ ((v + b.toNat % 128 * w : Nat) : Int); omega
  ·show ((v + b.toNat % 128 * w : Nat) : Int) ≤ _; omega
  ·rw [hd] at hm
   by_cases h7 : m ≤ 127
   ·rw [Zrm h7] at hm ⊢
    have hbm : b = UInt8.ofNat m := (List.cons.inj hm).1
    have : b.toNat % 128 = m := by rw [hbm, ZjM (by omega)]; omega
    rw [this]
    exact ⟨rfl, rfl⟩
   ·rw [Zwn h7] at hm
    have hbm : b = UInt8.ofNat (m % 128 + 128) := (List.cons.inj hm).1
    rw [hbm, ZjM (by omega)] at hc
    omega
  ·refine VH (ih n (v + b.toNat % 128 * w) (w * 128) (i + 1) (by omega) (by omega) (by omega) (by omega) h5' (by omega)) fun r hr h => ?_
   obtain ⟨g1, g2, g3, g4, g5⟩ := hr h
   refine ⟨by omega, g2, g3, g4, fun m rest hm => ?_⟩
   rw [hd] at hm
   by_cases h7 : m ≤ 127
   ·rw [Zrm h7] at hm
    have hbm : b = UInt8.ofNat m := (List.cons.inj hm).1
    rw [hbm, ZjM (by omega)] at hc
    omega
   ·rw [Zwn h7] at hm ⊢
    have hbm : b = UInt8.ofNat (m % 128 + 128) := (List.cons.inj hm).1
    obtain ⟨q1, q2⟩ := g5 (m / 128) rest (List.cons.inj hm).2
    have hbx : b.toNat % 128 = m % 128 := by rw [hbm, ZjM (by omega)]; omega
    refine ⟨?_, by rw [q2, List.length_cons]; congr 1; omega⟩
    rw [q1, hbx]
    congr 1
    have e1 : m / 128 * (w * 128) = m / 128 * 128 * w := by rw [Nat.mul_comm w 128, Nat.mul_assoc]
    have e2 : m * w = (m / 128 * 128 + m % 128) * w := by congr 1; omega
    rw [e1, e2, Nat.add_mul]; omega
theorem ZBA (s : ByteArray) (hs : s.size ≤ 1000000) (a : Int) : Ok (ZeB big s a) fun r => r.2.2.1 = true → 0 ≤ a ∧ a < r.2.1 ∧ r.2.1 ≤ s.size ∧ 0 ≤ r.1 ∧ r.1 ≤ 1000000000 ∧
  ∀ m rest, s.data.toList.drop a.toNat = enc m ++ rest → r.1 = (m : Int) ∧ r.2.1 = a + ((enc m).length : Int) := by
 rw [Zpq, Zgu, Option.bind_some]
 refine Z7 (fun _ => Zb fun h => by cases h) fun h => ?_
 simp only [Bool.and_eq_true, decide_eq_true_eq] at h
 obtain ⟨m, rfl⟩ : ∃ m : Nat, a = m := ⟨a.toNat, by omega⟩
 have := ZEd s hs m 5 big 0 1 m (by omega) (by omega) (by omega) (by unfold big; omega) (by decide) (by omega)
 refine VH this fun r hr h1 => ?_
 obtain ⟨g1, g2, g3, g4, g5⟩ := hr h1
 refine ⟨h.1, g1, g2, g3, g4, fun k rest hk => ?_⟩
 obtain ⟨q1, q2⟩ := g5 k rest hk
 exact ⟨by rw [q1]; congr 1; omega, by rw [q2]; omega⟩
def Adv (c c' : Xr) : Prop := c'.1 = c.1 ∧ (c'.2.2.1 = false → c.2.2.1 = false ∧ 0 ≤ c.2.1 ∧ c.2.1 < c'.2.1 ∧ c'.2.1 ≤ (ByteArray.size c.1 : Int))
theorem Adv.trans {a b c : Xr} (h : Adv a b) (k : Adv b c) : Adv a c := ⟨k.1.trans h.1, fun e => by
 obtain ⟨k1, k2, k3, k4⟩ := k.2 e
 obtain ⟨h1, h2, h3, h4⟩ := h.2 k1
 rw [h.1] at k4
 exact ⟨h1, h2, by omega, k4⟩⟩
theorem Zbk (c : Xr) (hs : ByteArray.size c.1 ≤ 1000000) : Ok (Y4 big c) fun r => Adv c r.2.1 ∧ (r.2.1.2.2.1 = false → 0 ≤ r.1 ∧ r.1 ≤ 1000000000 ∧
  ∀ m rest, c.1.data.toList.drop (Int.toNat c.2.1) = enc m ++ rest → r.1 = (m : Int) ∧ r.2.1.2.1 = c.2.1 + ((enc m).length : Int)) := by
 rw [Ztf]
 refine Zd (ZBA c.1 hs c.2.1) fun y hy => Yf (fun _ => Zb ⟨⟨rfl, fun h => by cases h⟩, fun h => by cases h⟩) fun hb => Z7 (fun _ => Zb ⟨⟨rfl, fun h => by cases h⟩, fun h => by cases h⟩) fun ho => ?_
 obtain ⟨g1, g2, g3, g4, g5, g6⟩ := hy ho
 exact Zb ⟨⟨rfl, fun h => ⟨hb, g1, g2, g3⟩⟩, fun h => ⟨g4, g5, g6⟩⟩
theorem ZFk (c : Xr) (hs : ByteArray.size c.1 ≤ 1000000) : Ok (ZfU big c) fun r => Adv c r.2.1 := by
 rw [ZvS]
 refine Zd (Zbk c hs) fun y hy => Zd (Zbk y.2.1 (by rw [hy.1.1]; exact hs)) fun y1 hy1 => ?_
 have h1 := hy.1.trans hy1.1
 refine Zd (Zbk y1.2.1 (by rw [h1.1]; exact hs)) fun y2 hy2 => ?_
 have h2 := h1.trans hy2.1
 exact Zd (Zbk y2.2.1 (by rw [h2.1]; exact hs)) fun y3 hy3 => Zb (h2.trans hy3.1)
theorem ZEe (c : Xr) (hs : ByteArray.size c.1 ≤ 1000000) : Ok (ZeC big c) fun r => Adv c r.2.1 := by
 rw [Zpt]
 refine Zd (Zbk c hs) fun y hy => Zd (Zbk y.2.1 (by rw [hy.1.1]; exact hs)) fun y1 hy1 => ?_
 have h1 := hy.1.trans hy1.1
 refine Zd (Zbk y1.2.1 (by rw [h1.1]; exact hs)) fun y2 hy2 => ?_
 have h2 := h1.trans hy2.1
 exact Zd (Zbk y2.2.1 (by rw [h2.1]; exact hs)) fun y3 hy3 => Zb (h2.trans hy3.1)
theorem ZEf (t u : ByteArray) (hu : u.size ≤ 20000) (s8 : Int) (c0 : Int) (c1 : Int) (c2 : Int) (c3 : Int) (c4 : Int) (c5 : Int) (c6 : Int) (c7 : Int) (c8 : Int) (c9 : Int) (c10 : Int) (c11 : Int) (c12 : Int) (c13 : Int) (c14 : List Int) (c15 : List Yj) (c16 : List Int) (c17 : List YW) (c18 : List ZX) (c19 : List Zs) (c20 : Int) (b0 : Int) (b1 : Int) (b2 : Int) (b3 : Int) (b4 : Int) (b5 : Int) (b6 : Int) (b7 : Int) (b8 : Int) (b9 : Int) (b10 : Int) (b11 : Int) (b12 : Int) (b13 : Int) (b14 : List Int) (b15 : List Yj) (b16 : List Int) (b17 : List YW) (b18 : List ZX) (b19 : List Zs) (b20 : Int) : ∀ (m n : Nat) (i : Int) (q : Xr) (row : List Int), q.1 = u →
  (q.2.2.1 = false → 0 ≤ q.2.1 ∧ q.2.1 ≤ u.size ∧ (u.size : Int) + 1 ≤ q.2.1 + m ∧ (row.length : Int) ≤ q.2.1) → row.length ≤ 20001 → m < n →
  Ok (Vw n t s8 i c0 c1 c2 c3 c4 c5 c6 c7 c8 c9 c10 c11 c12 c13 c14 c15 c16 c17 c18 c19 c20 q.1 q.2.1 q.2.2.1 b0 b1 b2 b3 b4 b5 b6 b7 b8 b9 b10 b11 b12 b13 row b15 b16 b17 b18 b19 b20) fun r => r.2.1 = true → q.2.2.1 = false ∧
   ∃ row' : List Int, row'.length ≤ 20001 ∧ r.1 = (b0, b1, (b2, b3, b4, b5, ()), (b6, b7, b8, b9, ()), (b10, b11, b12, b13, ()), row', b15, b16, b17, b18, b19, b20, ()) := by
 have fin : ∀ (n : Nat) (i : Int) (q : Xr) (row : List Int), row.length ≤ 20001 → Ok (bif q.2.2.1 then some (((0 : Int), (0 : Int), ((0 : Int), (0 : Int), (0 : Int), (0 : Int), PUnit.unit), ((0 : Int), (0 : Int), (0 : Int), (0 : Int), PUnit.unit), ((0 : Int), (0 : Int), (0 : Int), (0 : Int), PUnit.unit), ([] : List Int), ([] : List Yj), ([] : List Int), ([] : List YW), ([] : List ZX), ([] : List Zs), (0 : Int), PUnit.unit), false, PUnit.unit) else (UF big (b0, b1, (b2, b3, b4, b5, ()), (b6, b7, b8, b9, ()), (b10, b11, b12, b13, ()), row, b15, b16, b17, b18, b19, b20, ())).bind fun y => bif !decide (y = t) then some (((0 : Int), (0 : Int), ((0 : Int), (0 : Int), (0 : Int), (0 : Int), PUnit.unit), ((0 : Int), (0 : Int), (0 : Int), (0 : Int), PUnit.unit), ((0 : Int), (0 : Int), (0 : Int), (0 : Int), PUnit.unit), ([] : List Int), ([] : List Yj), ([] : List Int), ([] : List YW), ([] : List ZX), ([] : List Zs), (0 : Int), PUnit.unit), false, PUnit.unit) else some ((b0, b1, (b2, b3, b4, b5, PUnit.unit), (b6, b7, b8, b9, PUnit.unit), (b10, b11, b12, b13, PUnit.unit), row, b15, b16, b17, b18, b19, b20, PUnit.unit), true, PUnit.unit))
   (fun r : Zq × Bool × Unit => r.2.1 = true → q.2.2.1 = false ∧ ∃ row' : List Int, row'.length ≤ 20001 ∧ r.1 = (b0, b1, (b2, b3, b4, b5, ()), (b6, b7, b8, b9, ()), (b10, b11, b12, b13, ()), row', b15, b16, b17, b18, b19, b20, ())) := fun n i q row hr =>
  Yf (fun _ => Zb (fun h => by cases h)) fun hb => Zd (Zrn _ (by show row.length ≤ _; omega)) fun y _ => Yw (fun _ => Zb (fun h => by cases h)) fun _ => Zb fun _ => ⟨hb, row, hr, rfl⟩
 intro m
 induction m with
 | zero =>
  intro n i q row hq h1 h2 h3
  obtain ⟨n, rfl⟩ : ∃ m, n = m + 1 := ⟨n - 1, by omega⟩
  rw [K5]
  simp only [Xm]
  refine Zj (fun _ => Z7 (fun hb => ?_) fun _ => fin n i q row h2) fun _ => fin n i q row h2
  have := h1 hb
  omega
 | succ m ih =>
  intro n i q row hq h1 h2 h3
  obtain ⟨n, rfl⟩ : ∃ m, n = m + 1 := ⟨n - 1, by omega⟩
  rw [K5]
  simp only [Xm]
  refine Zj (fun _ => Z7 (fun hb => ?_) fun _ => fin n i q row h2) fun _ => fin n i q row h2
  obtain ⟨g1, g2, g3, g4⟩ := h1 hb
  refine Zd (Zbk (q.1, q.2.1, q.2.2.1, ()) (by show ByteArray.size q.1 ≤ _; rw [hq]; omega)) fun y hy => ZA (by unfold lim; omega) ?_
  obtain ⟨⟨hy1, hy2⟩, _⟩ := hy
  refine VH (ih n _ y.2.1 (List.append row [y.1]) (hy1.trans hq) (fun e => ?_) (by rw [Y7]; omega) (by omega)) fun r hr h => ⟨hb, (hr h).2⟩
  obtain ⟨k1, k2, k3, k4⟩ := hy2 e
  have k3 : q.2.1 < y.2.1.2.1 := k3
  have k4 : y.2.1.2.1 ≤ (ByteArray.size q.1 : Int) := k4
  rw [hq] at k4
  rw [Y7]
  exact ⟨by omega, k4, by omega, by omega⟩
theorem ZzJ (t : ByteArray) (ht : t.size ≤ 1000000) : Ok (Zcf big t) fun r => r.2.1 = true → 4 ≤ t.size ∧ (∀ a b e, t.extract 0 (t.size - 4) = bL (enc a) ++ bL (enc b) ++ e → r.1.1 = (a : Int) ∧ r.1.2.1 = (b : Int)) ∧
  List.length r.1.2.2.2.2.2.1 ≤ 20001 ∧ r.1.2.2.2.2.2.2 = ([], [], [], [], [], 0, ()) := by
 rw [ZmV]
 refine Zd (ZzI t ht) fun u hu => ?_
 refine Zd (Zbk (u.1, 0, !u.2.1, ()) (by show ByteArray.size u.1 ≤ _; have := hu.1; omega)) fun y hy => ?_
 have hs : ByteArray.size u.1 ≤ 1000000 := by have := hu.1; omega
 refine Zd (Zbk y.2.1 (by rw [hy.1.1]; exact hs)) fun y1 hy1 => ?_
 have h1 := hy.1.trans hy1.1
 refine Zd (ZFk y1.2.1 (by rw [h1.1]; exact hs)) fun y2 hy2 => ?_
 have h2 := h1.trans hy2
 refine Zd (ZFk y2.2.1 (by rw [h2.1]; exact hs)) fun y3 hy3 => ?_
 have h3 := h2.trans hy3
 refine Zd (ZEe y3.2.1 (by rw [h3.1]; exact hs)) fun y4 hy4 => ?_
 have h4 := h3.trans hy4
 refine Zd (Zbk y4.2.1 (by rw [h4.1]; exact hs)) fun y5 hy5 => ?_
 have h5 := h4.trans hy5.1
 refine VH (ZEf t u.1 hu.1 y5.1 _ _ _ _ _ _ _ _ _ _ _ _ _ _ _ _ _ _ _ _ _ y.1 y1.1 y2.1.1 y2.1.2.1 y2.1.2.2.1 y2.1.2.2.2.1 y3.1.1 y3.1.2.1 y3.1.2.2.1 y3.1.2.2.2.1 y4.1.1 y4.1.2.1 y4.1.2.2.1 y4.1.2.2.2.1 [] [] [] [] [] [] 0 (ByteArray.size u.1 + 1) big 0 y5.2.1 [] h5.1 (fun e => ?_) (by decide) (by unfold big; omega)) fun r hr h => ?_
 ·obtain ⟨k1, k2, k3, k4⟩ := h5.2 e
  have k3 : (0 : Int) < y5.2.1.2.1 := k3
  exact ⟨by omega, k4, by omega, by show (0 : Int) ≤ _; omega⟩
 ·obtain ⟨hb, row, hrow, e⟩ := hr h
  have b4 := (hy5.1.2 hb).1
  have b3 := (hy4.2 b4).1
  have b2 := (hy3.2 b3).1
  have b1 := (hy2.2 b2).1
  have b0 := (hy1.1.2 b1).1
  have bu := (hy.1.2 b0).1
  have bu' : u.2.1 = true := by
   cases hc : u.2.1 with
   | true => rfl
   | false => rw [show ((u.1, (0 : Int), !u.2.1, ()) : Xr).2.2.1 = !u.2.1 from rfl, hc] at bu; cases bu
  obtain ⟨q1, q2⟩ := hu.2 bu'
  rw [e]
  refine ⟨q1, fun a b f hf => ?_, hrow, rfl⟩
  have hd : u.1.data.toList = enc a ++ (enc b ++ f.data.toList) := by
   rw [q2, hf]
   simp only [ByteArray.data_append, Array.toList_append, bL, List.append_assoc]
  obtain ⟨_, _, z1⟩ := hy.2 b0
  obtain ⟨z2, z3⟩ := z1 a (enc b ++ f.data.toList) hd
  obtain ⟨_, _, w1⟩ := hy1.2 b1
  have hy11 : y.2.1.1 = u.1 := hy.1.1
  have z3 : y.2.1.2.1 = 0 + ((enc a).length : Int) := z3
  obtain ⟨w2, _⟩ := w1 b f.data.toList (by
   rw [hy11, z3, hd, show (0 + ((enc a).length : Int)).toNat = (enc a).length by omega, List.drop_left])
  exact ⟨z2, w2⟩
theorem ZCH {B : Nat} {V : Int} (h0 : 30000 ≤ B) (hB : B ≤ 100000000) {t : List ZN} (ht : XT t) {p : Zq} (h : Yt B V p) (hi : 0 ≤ p.1 ∧ p.1 ≤ 1000) : Ok (Zha big t p) fun r => Yt B V r ∧ r.1 = p.1 := by
 have hv := h.view
 have hto := h.top
 rw [Zti]
 refine Zd (Zrn p (Nat.le_trans h.row hB)) fun y hy => Zd (ZzJ y (by have := hy.1; omega)) fun z hz => Z7 (fun _ => Zb ⟨⟨Nat.zero_le _, ⟨Nat.zero_le _, fun c hc => by cases hc⟩, Nat.zero_le _, ⟨Nat.zero_le _, fun c hc => by cases hc⟩, Nat.zero_le _, Nat.zero_le _, by have := h.top; show (1 : Int) ≤ 1 ∧ (1 : Int) ≤ V; omega, h.top⟩, rfl⟩) fun ho => ?_
 obtain ⟨g1, g2, g3, g4⟩ := hz ho
 obtain ⟨e, he⟩ := hy.2 g1 hi (by omega)
 obtain ⟨k1, k2⟩ := g2 _ _ _ he
 refine Zd (ZzE ht (by omega)) fun cs hcs => Zb ⟨⟨?_, hcs, ?_, ⟨?_, ?_⟩, ?_, ?_, ?_, h.top⟩, ?_⟩
 ·show List.length z.1.2.2.2.2.2.1 ≤ B; omega
 ·show List.length z.1.2.2.2.2.2.2.2.1 ≤ 60; rw [g4]; exact Nat.zero_le _
 ·show List.length z.1.2.2.2.2.2.2.2.2.1 ≤ 240; rw [g4]; exact Nat.zero_le _
 ·show ∀ c ∈ z.1.2.2.2.2.2.2.2.2.1, _; rw [g4]; exact fun c hc => by cases hc
 ·show List.length z.1.2.2.2.2.2.2.2.2.2.1 ≤ B; rw [g4]; exact Nat.zero_le _
 ·show List.length z.1.2.2.2.2.2.2.2.2.2.2.1 ≤ B; rw [g4]; exact Nat.zero_le _
 ·show 1 ≤ z.1.2.1 ∧ z.1.2.1 ≤ V; rw [k2]; omega
 ·show z.1.1 = p.1; rw [k1]; omega
end Go.Sx.Tryz
set_option maxRecDepth 100000
namespace Go.Sx.Tryz
open Go Go.Sx Go.Proofs
theorem ZBB {x : Zl} (ht : XT x.2.2.2.1) {V : Int} (hv : 0 ≤ V) (hx : ∀ b ∈ x.2.2.2.1, b.2.1 ≤ V) (a b c k : Int) : Ok (Zeq big x a b c k) fun r => 0 ≤ r.2.2.2.1 ∧ r.2.2.2.1 ≤ V := by
 have hlo := ht.lo; have hhi := ht.hi
 rw [ZoR, Zgu, Option.bind_some, ZK (n := (↑(List.length x.2.2.2.1) : Int) - 1) (by omega) (by omega)]
 refine Yf (fun h => ?_) fun _ => Zb ⟨Int.le_refl 0, hv⟩
 simp only [Bool.and_eq_true, decide_eq_true_eq] at h
 exact ZA h.1 (ZS (by omega) fun y hy => Zb ⟨(ht.view y hy).1, hx y hy⟩)
theorem ZzK {S : Nat} (hS : S ≤ 1000000000) (n0 : Int) (ch : Bool) (li : Int) (tr : List ZN) (ps : List Zq) (ne : List Zs) (sa : List ZX) (pe : List Vc) (s1 s2 s8 z0 z1 z2 z3 : Int) :
  ∀ (m n : Nat) (i : Int) (l : List ZX), 0 ≤ i → i ≤ 7 → (7 : Int) ≤ i + m → m < n → (l.length : Int) ≤ S + i → Ok (Kd n s1 s2 s8 l i n0 ch li tr ps ne sa pe z0 z1 z2 z3) fun r => r.1.2.1 = 0 ∨ r.1.2.1 = s8 := by
 intro m
 induction m with
 | zero =>
  intro n i l h0 h1 h2 h3 h4
  obtain ⟨n, rfl⟩ : ∃ m, n = m + 1 := ⟨n - 1, by omega⟩
  rw [ZdO]
  exact Zj (fun _ => Zj (fun h => by omega) fun _ => Zd (Zwh l (by omega) _ _ _ _) fun _ hq => Zb hq) fun _ => Zd (Zwh l (by omega) _ _ _ _) fun _ hq => Zb hq
 | succ m ih =>
  intro n i l h0 h1 h2 h3 h4
  obtain ⟨n, rfl⟩ : ∃ m, n = m + 1 := ⟨n - 1, by omega⟩
  rw [ZdO]
  refine Zj (fun _ => Zj (fun h => ?_) fun _ => Zd (Zwh l (by omega) _ _ _ _) fun _ hq => Zb hq) fun _ => Zd (Zwh l (by omega) _ _ _ _) fun _ hq => Zb hq
  rw [ZK (n := i + 1) (by omega) (by omega)]
  exact Zd (ZnI _ _) fun _ _ => Yf (fun _ => ZA (by simp only [List.length_singleton]; unfold lim; omega) (ih n (i + 1) _ (by omega) (by omega) (by omega) (by omega) (by rw [Y7]; omega))) fun _ => ih n (i + 1) _ (by omega) (by omega) (by omega) (by omega) (by omega)
theorem ZnN {B S : Nat} {V : Int} (hS : S ≤ 1000000000) {x : Zl} (h : ClI B S V x) (hv : 0 ≤ V) (a k : Int) : Ok (Kc big x a k) fun r => 0 ≤ r.1.2.1 ∧ r.1.2.1 ≤ V := by
 have ht := h.tree
 have hlo := ht.lo; have hhi := ht.hi
 have hsa := h.said
 rw [ZvW, Zgu, Option.bind_some, ZK (n := (↑(List.length x.2.2.2.1) : Int) - 1) (by omega) (by omega)]
 refine Z7 (fun _ => Zb ⟨Int.le_refl 0, hv⟩) fun hk => ?_
 simp only [Bool.and_eq_true, decide_eq_true_eq] at hk
 refine ZA (by omega) (ZS (by omega) fun y hy => ZA (by unfold lim; omega) (VH (ZzK hS _ _ _ _ _ _ _ _ _ _ _ _ _ _ _ 7 big 0 _ (by omega) (by omega) (by omega) (by unfold big; omega) (by omega)) fun r hr => ?_))
 have h1 := (ht.view y hy).1
 have h2 := h.tv y hy
 omega
theorem ZBC {B S : Nat} {V : Int} (hS : S ≤ 1000000000) {x : Zl} (h : ClI B S V x) (l : Zs) : Ok (ZeD big x l) fun _ => True := by
 have hsa := h.said
 rw [Zpw]
 exact Zd (Zc7 h.tree _ _) fun _ _ => Z7 (fun _ => Zb trivial) fun _ => Zd (ZnI _ _) fun _ _ => Z7 (fun _ => Zb trivial) fun _ => Zd (Zyr _ (by omega) _ _) fun _ _ => Z7 (fun _ => Zb trivial) fun _ => Yw (fun _ => Zb trivial) fun _ => Zd (ZnI _ _) fun _ _ => Zb trivial
theorem Zyz {B S : Nat} {V : Int} (hS : S ≤ 1000000000) {x : Zl} (h : ClI B S V x) (l : Zs) (hl : 0 ≤ l.2.2.2.1 ∧ l.2.2.2.1 ≤ V) : Ok (Xx big x l) fun r => ClI B S V r.2.1 := by
 rw [Zpy]
 exact Zd (ZBC hS h l) fun _ _ => Z7 (fun _ => Zb h) fun _ => Zd (Zwm h _ (by simp only [List.length_singleton]; omega) (Zwl hl)) fun y hy => Zb hy
theorem ZBD (x : Zl) (k : Int) : Ok (K6 big x k) fun _ => True := by
 rw [Zm4]
 exact Yf (fun _ => Zb trivial) fun _ => Zb trivial
theorem ZtH (l : List Zq) (hl : l.length ≤ 1000) {V : Int} (hv : ∀ p ∈ l, 0 ≤ p.2.1 ∧ p.2.1 ≤ V) : ∀ (m n : Nat) (a i : Int), 0 ≤ i → i ≤ l.length → (l.length : Int) ≤ i + m → m < n → (0 ≤ a ∧ a ≤ V) → Ok (Y5 n l a i) fun r => 0 ≤ r ∧ r ≤ V
 | m, 0, a, i, _, _, _, h, _ => by omega
 | 0, n + 1, a, i, h0, h1, h2, h3, h4 => by
  rw [YH]
  exact Zj (fun h => by omega) fun _ => Zb h4
 | m + 1, n + 1, a, i, h0, h1, h2, h3, h4 => by
  rw [YH, ZK (n := i + 1) (by omega) (by omega)]
  exact Zj (fun hi => ZA h0 (ZS (by omega) fun y _ => Zj (fun _ => ZA h0 (ZS (by omega) fun z hz => ZtH l hl hv m n _ (i + 1) (by omega) (by omega) (by omega) (by omega) (hv z hz))) fun _ => ZtH l hl hv m n _ (i + 1) (by omega) (by omega) (by omega) (by omega) h4)) fun _ => Zb h4
theorem ZzL (l : List Zq) (hl : l.length ≤ 1000) {V : Int} (h0 : 0 ≤ V) (hv : ∀ p ∈ l, 0 ≤ p.2.1 ∧ p.2.1 ≤ V) : Ok (XS big l) fun r => 0 ≤ r ∧ r ≤ V := by
 rw [Kf]
 exact ZtH l hl hv l.length big 0 0 (by omega) (by omega) (by omega) (by unfold big; omega) ⟨Int.le_refl 0, h0⟩
structure EvI (e : WT) : Prop where
 num : 0 ≤ e.2.2.2.1
 less : e.2.2.2.1 ≤ 29
 key : ByteArray.size e.2.2.2.2.1.2.1 ≤ 1000
theorem Jf {B S : Nat} {V : Int} (hS : S ≤ 1000000000) {x : Zl} (h : ClI B S V x) {e : WT} (he : EvI e) (k view : Int) (hvw : 0 ≤ view ∧ view ≤ V) (q : Zbm) : Ok
  ((Ws big x e.2.1).bind fun y_2 => bif !y_2 then some (false, x, PUnit.unit) else (Xv big x.2.2.2.1 x.1 q).bind fun y_3 => bif !y_3 then some (false, x, PUnit.unit) else (W7 big x.2.2.2.2.2.2.1 q x.2.2.1).bind fun y_4 => bif !y_4 then some (false, x, PUnit.unit) else
   (XH big x.2.2.2.1 (k, view, [e.2.2.2.2.1], q, ())).bind fun y_5 => bif decide (y_5.2.1 < (0 : Int)) then some (false, x, PUnit.unit) else (Xx big (x.1, x.2.1, x.2.2.1, y_5.1, x.2.2.2.2) ((1 : Int), e.2.1, e.2.2.1, view, y_5.2.1, q, ((0 : Int), (0 : Int), (0 : Int), (0 : Int), ()), ())).bind fun y =>
   bif !y.1 then some (false, (y.2.1.1, y.2.1.2.1, y.2.1.2.2.1, x.2.2.2.1, y.2.1.2.2.2.2), PUnit.unit) else some (true, y.2))
  fun r : Bool × Zl × Unit => ClI B S V r.2.1 := by
 have hsa := h.said
 refine Zd (ZnI _ _) fun _ _ => Z7 (fun _ => Zb h) fun _ => Zd (ZnL h.tree _ _) fun _ _ => Z7 (fun _ => Zb h) fun _ => Zd (Zyr _ (by omega) _ _) fun _ _ => Z7 (fun _ => Zb h) fun _ =>
  Zd (Zrk h.tree (k, view, [e.2.2.2.2.1], q, ()) (fun c hc => by rw [List.mem_singleton.1 hc]; exact he.key) (by show List.length [_] ≤ _; simp only [List.length_singleton]; omega)) fun y5 hy5 => Zj (fun _ => Zb h) fun _ => ?_
 have h5 : ClI B S V (x.1, x.2.1, x.2.2.1, y5.1, x.2.2.2.2) := ⟨h.n, hy5.1, h.peers, h.peer, h.net, h.said, h.pend, h.key, h.lv, hy5.2.2.2.2 V h.tv hvw.2⟩
 refine Zd (Zyz hS h5 _ hvw) fun y hy => Z7 (fun _ => Zb ⟨hy.n, h.tree, hy.peers, hy.peer, hy.net, hy.said, hy.pend, hy.key, hy.lv, h.tv⟩) fun _ => Zb hy
set_option maxHeartbeats 4000000 in
theorem ZEg {B S : Nat} {V : Int} (hS : S ≤ 1000000000) (h30 : 30 ≤ V) (hV : V + 1 ≤ 900) {x : Zl} (h0 : ClI B S V x) {e : WT} (he : EvI e) : Ok (Zcg big x e) fun r => ClI B S (V + 1) r.2.1 := by
 have h := h0.up (V' := V + 1) (by omega) hV
 have ht := h.tree
 have hlo := ht.lo; have hhi := ht.hi
 have hp := h.peers
 have hm := ZtC he.num (show (0 : Int) < (↑(List.length x.2.2.2.1) : Int) by omega)
 rw [Zm7]
 refine Zbi (by omega) (Zd (ZzL _ (by omega) (V := V) (by omega) fun p hp => by have := (h0.peer p hp).1.view; omega) fun y hy => ?_)
 have wy : IntKind.i64.wrap (y + 1) = y + 1 := ZK (by omega) (by omega)
 refine Zj (fun _ => ZA hm.1 (ZA hm.2 (ZS (by omega) fun z hz => ?_))) fun _ => Yf (fun _ => ?_) fun _ => ?_
 ·have z1 := (ht.view z hz).1
  have z2 := h0.tv z hz
  have wz : IntKind.i64.wrap (z.2.1 + 1) = z.2.1 + 1 := ZK (by omega) (by omega)
  rw [wz]
  refine Yf (fun _ => ?_) fun _ => ?_
  ·exact Zd (ZnN hS h (by omega) _ _) fun q _ => Z7 (fun _ => Yw (fun _ => Zb h) fun _ => Jf hS h he _ _ (by omega) q.1) fun _ => Jf hS h he _ _ (by omega) q.1
  ·exact Zd (ZnN hS h (by omega) _ _) fun q _ => Z7 (fun _ => Yw (fun _ => Zb h) fun _ => Jf hS h he _ _ (by omega) q.1) fun _ => Jf hS h he _ _ (by omega) q.1
 ·rw [wy]
  exact Zd (ZnN hS h (by omega) _ _) fun q _ => Z7 (fun _ => Yw (fun _ => Zb h) fun _ => Jf hS h he _ _ (by omega) q.1) fun _ => Jf hS h he _ _ (by omega) q.1
 ·rw [wy]
  exact Zd (ZnN hS h (by omega) _ _) fun q _ => Z7 (fun _ => Yw (fun _ => Zb h) fun _ => Jf hS h he _ _ (by omega) q.1) fun _ => Jf hS h he _ _ (by omega) q.1
theorem ZGk {B S : Nat} {V : Int} (hS : S ≤ 1000000000) (h30 : 30 ≤ V) (hV : V + 1 ≤ 900) {x : Zl} (h0 : ClI B S V x) {e : WT} (he : EvI e) : Ok (Zhb big x e) fun r => ClI B S (V + 1) r.2.1 := by
 have h := h0.up (V' := V + 1) (by omega) hV
 have ht := h.tree
 have hlo := ht.lo; have hhi := ht.hi
 have hn := he.num; have hn2 := he.less
 have e9 : Int.tmod e.2.2.2.1 900 = e.2.2.2.1 := Int.tmod_eq_of_lt hn (by omega)
 rw [Ztn, e9, ZK (n := e.2.2.2.1 + 1) (by omega) (by omega)]
 refine Zj (fun _ => Zb h) fun _ => Zd (ZnI _ _) fun _ _ => Z7 (fun _ => Zb h) fun _ => Zbi (by omega) (Zj (fun _ => Zd (ZBD _ _) fun y _ => Zd (ZBB ht (by omega) h.tv _ _ _ _) fun z hz => Zd (Zyz hS h z hz) fun w hw => Zb hw) fun _ =>
  Zj (fun _ => Zd (ZBD _ _) fun y _ => Zd (ZnN hS h (by omega) _ _) fun z hz => Z7 (fun _ => Zb h) fun _ => Zd (Zyz hS h _ hz) fun w hw => Zb hw) fun _ =>
  Zj (fun _ => Zd (ZEg hS h30 hV h0 he) fun w hw => Zb hw) fun _ => Zd (Zyz hS h _ ⟨by show 0 ≤ e.2.2.2.1 + 1; omega, by show e.2.2.2.1 + 1 ≤ V + 1; omega⟩) fun w hw => Zb hw)
end Go.Sx.Tryz
set_option maxRecDepth 100000
namespace Go.Sx.Tryz
open Go Go.Sx Go.Proofs
theorem ZDh {c : ZF} (h : Zde c) : Ok (ZcQ big c) fun r => Zde r.2.1 ∧ ByteArray.size r.1.2.1 ≤ 1000 := by
 rw [Zr7]
 refine Zd (Xd h 3) fun y hy => ?_
 refine Zd (Q := fun r => Zde r.2.1 ∧ ByteArray.size r.1 ≤ 1000) ?_ fun y1 hy1 => ?_
 ·rw [Zr4]
  refine Zd (ZFa hy.2.2.2 _ (by decide)) fun z hz => Zb ⟨hz.2, ?_⟩
  have h1 := hz.1
  simp only [List.mem_cons, List.not_mem_nil, or_false] at h1
  rcases h1 with h1 | h1 | h1 | h1 <;> rw [h1] <;> decide
 ·exact Zd (JX hy1.1 _ (by decide)) fun z hz => Zb ⟨hz.2, hy1.2⟩
theorem ZGJ (n : Nat) : Xh (n + 8) 0 = some 0 := by
 rw [WH]
 simp only [Xl]
 kernel_rfl
theorem ZGK (n : Nat) : Xh (n + 8) 1 = some 1 := by
 rw [WH]
 simp only [Xl]
 kernel_rfl
theorem ZGL (n : Nat) : Xh (n + 8) 2 = some 1 := by
 rw [WH]
 simp only [Xl]
 kernel_rfl
theorem ZGM (n : Nat) : Xh (n + 8) 8 = some 1 := by
 rw [WH]
 simp only [Xl]
 kernel_rfl
theorem ZGl {l : Int} (h : l = 0 ∨ l = 8 ∨ l = 1 ∨ l = 2) : ∃ v, Xh big l = some v ∧ ¬ (1 : Int) < v := by
 have hb : big = (big - 8) + 8 := by decide
 rw [hb]
 rcases h with rfl | rfl | rfl | rfl
 ·exact ⟨_, ZGJ _, by decide⟩
 ·exact ⟨_, ZGM _, by decide⟩
 ·exact ⟨_, ZGK _, by decide⟩
 ·exact ⟨_, ZGL _, by decide⟩
theorem ZBE : JH big 4 = some 1 := by
 rw [Zfo]
 rfl
theorem ZCI {V : Int} (hV : 1 ≤ V ∧ V ≤ 900) (i : Int) (h : 0 ≤ i ∧ i ≤ 1000) : Ko 0 V (i, (1 : Int), ((0 : Int), (0 : Int), (0 : Int), (0 : Int), ()), ((0 : Int), (0 : Int), (0 : Int), (0 : Int), ()), ((0 : Int), (0 : Int), (0 : Int), (0 : Int), ()), [], [], [], [], [], [], (0 : Int), ()) :=
 ⟨⟨Nat.le_refl _, ⟨Nat.zero_le _, fun c hc => by cases hc⟩, Nat.zero_le _, ⟨Nat.zero_le _, fun c hc => by cases hc⟩, Nat.le_refl _, Nat.le_refl _, by show (1 : Int) ≤ 1 ∧ (1 : Int) ≤ V; omega, hV.2⟩, h⟩
theorem ZCJ : XT [((-1 : Int), (0 : Int), [], ((0 : Int), (0 : Int), (0 : Int), (0 : Int), ()), ())] :=
 ⟨Nat.le_refl _, by decide, fun b hb => by rw [List.mem_singleton.1 hb]; exact ⟨Nat.zero_le _, fun c hc => by cases hc⟩, fun b hb => by rw [List.mem_singleton.1 hb]; show (0 : Int) ≤ 0 ∧ (0 : Int) ≤ 900; decide⟩
theorem ZBF {V : Int} (hV : 1 ≤ V ∧ V ≤ 900) (ch : Bool) (li : Int) : ∀ (m n i : Nat) (ps : List Zq), i ≤ 4 → 4 ≤ i + m → m < n → ps.length = i → (∀ p ∈ ps, Ko 0 V p) →
  Ok (WO n 4 (i : Int) 0 false 0 [] [] [] [] [] 4 ch li [((-1 : Int), (0 : Int), [], ((0 : Int), (0 : Int), (0 : Int), (0 : Int), PUnit.unit), PUnit.unit)] ps [] [] []) fun r => ClI 0 0 V r.1 := by
 intro m
 have fin : ∀ ps : List Zq, ps.length = 4 → (∀ p ∈ ps, Ko 0 V p) → ClI 0 0 V ((4 : Int), ch, li, [((-1 : Int), (0 : Int), [], ((0 : Int), (0 : Int), (0 : Int), (0 : Int), ()), ())], ps, [], [], [], ()) := fun ps h1 h2 =>
  ⟨rfl, ZCJ, h1, h2, Nat.zero_le _, Nat.le_refl _, Nat.zero_le _, fun c hc => (by cases hc), Zbj, fun b hb => by rw [List.mem_singleton.1 hb]; show (0 : Int) ≤ V; omega⟩
 induction m with
 | zero =>
  intro n i ps h0 h1 h2 h3 h4
  obtain ⟨n, rfl⟩ : ∃ m, n = m + 1 := ⟨n - 1, by omega⟩
  rw [Q8]
  exact Zj (fun h => by omega) fun _ => Zb (fin ps (by omega) h4)
 | succ m ih =>
  intro n i ps h0 h1 h2 h3 h4
  obtain ⟨n, rfl⟩ : ∃ m, n = m + 1 := ⟨n - 1, by omega⟩
  rw [Q8, ZK (n := (i : Int) + 1) (by omega) (by omega)]
  refine Zj (fun h => ZA (by unfold lim; omega) ?_) fun _ => Zb (fin ps (by omega) h4)
  have e : (i : Int) + 1 = ((i + 1 : Nat) : Int) := by omega
  rw [e]
  refine ih n (i + 1) _ (by omega) (by omega) (by omega) (by rw [Y7]; omega) fun p hp => ?_
  rcases List.mem_append.1 hp with hp | hp
  ·exact h4 p hp
  ·rw [List.mem_singleton.1 hp]; exact ZCI hV i (by omega)
theorem ZFl {V : Int} (hV : 1 ≤ V ∧ V ≤ 900) (ch : Bool) {l : Int} (h : l = 0 ∨ l = 8 ∨ l = 1 ∨ l = 2) : Ok (Jn big 4 ch l) fun r => ClI 0 0 V r.1 := by
 rw [ZgY, Zgu, Option.bind_some, show (decide ((1 : Int) ≤ 4) && decide ((4 : Int) ≤ 7)) = true from by decide, Bool.not_true, cond_false]
 refine Zbi (Zi0 4) ?_
 have e : IntKind.i64.wrap (IntKind.i64.wrap ((1 : Int) * (2 : Int) ^ min (IntKind.u64.wrap 4).toNat IntKind.i64.bits) - (1 : Int)) = 15 := by decide
 have e2 : (decide ((0 : Int) ≤ l) && decide (l ≤ 15)) = true := by rcases h with rfl | rfl | rfl | rfl <;> decide
 rw [Zgu, e, e2, Option.bind_some, Bool.not_true, cond_false]
 obtain ⟨v, hv, hv1⟩ := ZGl h
 rw [hv, Option.bind_some, ZBE, Option.bind_some]
 refine Zj (fun hc => absurd hc hv1) fun _ => ?_
 have := ZBF hV ch l 4 big 0 [] (by decide) (by decide) (by decide) rfl (fun p hp => by cases hp)
 exact this
def EvR (x : Zl) (r : WT × ZF × (Unit × Unit × Unit × List ZN × List Zq × List Zs × List ZX × List Vc × Unit) × Unit) : Prop :=
 EvI r.1 ∧ Zde r.2.1 ∧ r.2.2.1 = ((), (), (), x.2.2.2.1, x.2.2.2.2.1, x.2.2.2.2.2.1, x.2.2.2.2.2.2.1, x.2.2.2.2.2.2.2.1, ())
theorem ZCK (a b c : Int) (n : Int) (hn : 0 ≤ n ∧ n ≤ 29) : EvI (a, b, c, n, ((0 : Int), ByteArray.empty, (0 : Int), ()), ()) := ⟨hn.1, hn.2, by show ByteArray.size ByteArray.empty ≤ 1000; decide⟩
theorem ZGN (x : Zl) (hx : List.length x.2.2.2.2.1 ≤ 1000) (c : ZF) (hc : Zde c) (z0 z1 z2 z3 z4 : Int) (z5 : ByteArray) (z6 : Int) : ∀ (m n : Nat) (i : Int), 0 ≤ i → i ≤ List.length x.2.2.2.2.1 → (List.length x.2.2.2.2.1 : Int) ≤ i + m → m < n →
  Ok (Wo n i c.1 c.2.1 c.2.2.1 x.2.2.2.1 x.2.2.2.2.1 x.2.2.2.2.2.1 x.2.2.2.2.2.2.1 x.2.2.2.2.2.2.2.1 x.1 x.2.1 x.2.2.1 z0 z1 z2 z3 z4 z5 z6) (EvR x) := by
 have fin : EvR x (((3 : Int), (0 : Int), (0 : Int), (0 : Int), ((0 : Int), ByteArray.empty, (0 : Int), PUnit.unit), PUnit.unit), (c.1, c.2.1, c.2.2.1, PUnit.unit), (PUnit.unit, PUnit.unit, PUnit.unit, x.2.2.2.1, x.2.2.2.2.1, x.2.2.2.2.2.1, x.2.2.2.2.2.2.1, x.2.2.2.2.2.2.2.1, PUnit.unit), PUnit.unit) := ⟨ZCK _ _ _ _ (by decide), hc, rfl⟩
 intro m
 induction m with
 | zero =>
  intro n i h0 h1 h2 h3
  obtain ⟨n, rfl⟩ : ∃ m, n = m + 1 := ⟨n - 1, by omega⟩
  rw [K7]
  exact Zj (fun h => by omega) fun _ => Zb fin
 | succ m ih =>
  intro n i h0 h1 h2 h3
  obtain ⟨n, rfl⟩ : ∃ m, n = m + 1 := ⟨n - 1, by omega⟩
  rw [K7, ZK (n := i + 1) (by omega) (by omega)]
  refine Zj (fun hi => ?_) fun _ => Zb fin
  refine Zd (Zgq (x.1, x.2.1, x.2.2.1, x.2.2.2.1, x.2.2.2.2.1, x.2.2.2.2.2.1, x.2.2.2.2.2.2.1, x.2.2.2.2.2.2.2.1, ()) i hx) fun b _ => Yf (fun _ => ZA h0 (ZA hi ?_)) fun _ => ih n (i + 1) (by omega) (by omega) (by omega) (by omega)
  have hin : i.toNat < List.length x.2.2.2.2.1 := by omega
  rw [Wy hin, Option.bind_some]
  refine Zd (ZBj _ _ _) fun y _ => ZdV hin ?_
  rw [Ze8 (Wy hin)]
  refine Yf (fun _ => Zb ⟨ZCK _ _ _ _ (by decide), hc, rfl⟩) fun _ => ih n (i + 1) (by omega) (by omega) (by omega) (by omega)
theorem ev4 (x : Zl) (hx : List.length x.2.2.2.2.1 ≤ 1000) (h4 : x.1 = 4) (c : ZF) (hc : Zde c) (s5 : Int) (z0 z1 z2 z3 z4 : Int) (z5 : ByteArray) (z6 : Int) : ∀ (m n : Nat) (s6 i : Int), 0 ≤ i → i ≤ 4 → (4 : Int) ≤ i + m → m + 1001 < n →
  Ok (WK n s5 s6 i c.1 c.2.1 c.2.2.1 x.2.2.2.1 x.2.2.2.2.1 x.2.2.2.2.2.1 x.2.2.2.2.2.2.1 x.2.2.2.2.2.2.2.1 x.1 x.2.1 x.2.2.1 z0 z1 z2 z3 z4 z5 z6) (EvR x) := by
 intro m
 have hc' : Zde (c.1, c.2.1, c.2.2.1, ()) := hc
 induction m with
 | zero =>
  intro n s6 i h0 h1 h2 h3
  obtain ⟨n, rfl⟩ : ∃ m, n = m + 1 := ⟨n - 1, by omega⟩
  rw [JR]
  refine Zj (fun h => by omega) fun _ => Zj (fun _ => Zd (ZDh hc') fun y hy => Zb ⟨⟨by show (0 : Int) ≤ 0; decide, by show (0 : Int) ≤ 29; decide, hy.2⟩, hy.1, rfl⟩) fun _ =>
   Zj (fun _ => ZGN x hx c hc _ _ _ _ _ _ _ (List.length x.2.2.2.2.1) n 0 (by omega) (by omega) (by omega) (by omega)) fun _ =>
   Zj (fun _ => Zj (fun _ => Zd (ZBg hc' 3) fun y hy => Yf (fun _ => Zd (Xd hy _) fun z hz => Zb ⟨ZCK _ _ _ _ (by decide), hz.2.2.2, rfl⟩) fun _ => Zb ⟨ZCK _ _ _ _ (by decide), hy, rfl⟩) fun _ => Zb ⟨ZCK _ _ _ _ (by decide), hc, rfl⟩) fun _ =>
   Zj (fun _ => Zd (JX hc' _ (by decide)) fun y hy => Zd (Xd hy.2 _) fun z hz => Zb ⟨ZCK _ _ _ _ (by decide), hz.2.2.2, rfl⟩) fun _ =>
   Zj (fun _ => Zd (Xd hc' _) fun z hz => Zb ⟨ZCK _ _ _ _ (by decide), hz.2.2.2, rfl⟩) fun _ =>
   Zj (fun _ => Zd (Xd hc' _) fun z hz => Zb ⟨ZCK _ _ _ _ (by decide), hz.2.2.2, rfl⟩) fun _ =>
   Zd (Xd hc' _) fun y hy => Zd (Xd hy.2.2.2 _) fun z hz => Zj (fun _ => Zd (ZDh hz.2.2.2) fun w hw => Zb ⟨⟨hy.1, by have := hy.2.1 (by decide); show y.1 ≤ 29; omega, hw.2⟩, hw.1, rfl⟩) fun _ => Zd (JX hz.2.2.2 _ (by decide)) fun w hw => Zb ⟨ZCK _ _ _ _ ⟨hy.1, by have := hy.2.1 (by decide); omega⟩, hw.2, rfl⟩
 | succ m ih =>
  intro n s6 i h0 h1 h2 h3
  rcases Int.lt_or_le i 4 with hi | hi
  ·obtain ⟨n, rfl⟩ : ∃ m, n = m + 1 := ⟨n - 1, by omega⟩
   rw [JR, ZK (n := i + 1) (by omega) (by omega)]
   refine Zj (fun h => Zd (ZnI _ _) fun _ _ => Yf (fun _ => ih n _ (i + 1) (by omega) (by omega) (by omega) (by omega)) fun _ => ih n _ (i + 1) (by omega) (by omega) (by omega) (by omega)) fun h => by omega
  ·exact ih n s6 i h0 h1 (by omega) (by omega)
theorem ZEh (x : Zl) (hx : List.length x.2.2.2.2.1 ≤ 1000) (h4 : x.1 = 4) (c : ZF) (hc : Zde c) : Ok (Zch big c x) (EvR x) := by
 rw [Znb]
 exact Zd (Xd hc 20) fun y hy => ev4 x hx h4 y.2.1 hy.2.2.2 _ _ _ _ _ _ _ _ 4 big 0 0 (by omega) (by omega) (by omega) (by unfold big; omega)
end Go.Sx.Tryz
set_option maxRecDepth 100000
namespace Go.Sx.Tryz
open Go Go.Sx Go.Proofs
theorem ZBG (b0 : Int) (b1 : Int) (b2 : Int) (b3 : Int) (b4 : Int) (b5 : Int) (b6 : Int) (b7 : Int) (b8 : Int) (b9 : Int) (b10 : Int) (b11 : Int) (b12 : Int) (b13 : Int) (b14 : List Int) (b15 : List Yj) (b16 : List Int) (b17 : List YW) (b18 : List ZX) (b19 : List Zs) (b20 : Int) (hn : b19.length ≤ 1000000000) (z0 z1 z2 z3 : Int) : ∀ (m n : Nat) (i y0 y1 y2 y3 : Int), 0 ≤ i → i ≤ b19.length → (b19.length : Int) ≤ i + m → m < n →
  Ok (Ky n i b0 b1 b2 b3 b4 b5 b6 b7 b8 b9 b10 b11 b12 b13 b14 b15 b16 b17 b18 b19 b20 z0 z1 z2 z3 y0 y1 y2 y3) fun _ => True := by
 intro m
 induction m with
 | zero =>
  intro n i y0 y1 y2 y3 h0 h1 h2 h3
  obtain ⟨n, rfl⟩ : ∃ m, n = m + 1 := ⟨n - 1, by omega⟩
  rw [ZbG]
  exact Zj (fun h => by omega) fun _ => Zb trivial
 | succ m ih =>
  intro n i y0 y1 y2 y3 h0 h1 h2 h3
  obtain ⟨n, rfl⟩ : ∃ m, n = m + 1 := ⟨n - 1, by omega⟩
  rw [ZbG, ZK (n := i + 1) (by omega) (by omega)]
  exact Zj (fun hi => ZA h0 (ZS (by omega) fun y _ => Zd (ZaT _ _) fun z _ => ih n (i + 1) _ _ _ _ (by omega) (by omega) (by omega) (by omega))) fun _ => Zb trivial
theorem ZFm {p : Zq} (h : List.length p.2.2.2.2.2.2.2.2.2.2.1 ≤ 1000000000) : Ok (ZgR big p) fun _ => True := by
 rw [Zsg]
 exact ZBG _ _ _ _ _ _ _ _ _ _ _ _ _ _ _ _ _ _ _ _ _ h _ _ _ _ (List.length p.2.2.2.2.2.2.2.2.2.2.1) big 0 _ _ _ _ (by omega) (by omega) (by omega) (by unfold big; omega)
theorem ZEi {B : Nat} {V : Int} (hB : B ≤ 1000000000) {t : List ZN} (ht : XT t) {p : Zq} (h : Yt B V p) (l : List Vc) (hl : l.length ≤ 1000) (hk : ∀ c ∈ l, ByteArray.size c.2.1 ≤ 1000) :
  Ok (Wl big t p l) fun r => XT r.1 ∧ Yt B V r.2.1 ∧ r.2.1.1 = p.1 ∧ ((∀ x ∈ t, x.2.1 ≤ V) → ∀ x ∈ r.1, x.2.1 ≤ V) := by
 rw [Zvn]
 refine Zd (ZFm (Nat.le_trans h.news hB)) fun q _ => Zd (Zrk ht (q.2.2.1, p.2.1, l, q, ()) hk (by show l.length ≤ _; omega)) fun y hy => ?_
 rw [Zcz hB h, Option.bind_some]
 have tv : (∀ x ∈ t, x.2.1 ≤ V) → ∀ x ∈ y.1, x.2.1 ≤ V := fun k => hy.2.2.2.2 V k h.view.2
 exact Zj (fun _ => Zb ⟨hy.1, h, rfl, tv⟩) fun _ => Zb ⟨hy.1, ⟨h.row, h.cells, h.early, h.undos, h.votes, h.news, h.view, h.top⟩, rfl, tv⟩
theorem Zro {V : Int} (b0 : Int) (b1 : Int) (b2 : Int) (b3 : Int) (b4 : Int) (b5 : Int) (b6 : Int) (b7 : Int) (b8 : Int) (b9 : Int) (b10 : Int) (b11 : Int) (b12 : Int) (b13 : Int) (b14 : List Int) (b15 : List Yj) (b16 : List Int) (b17 : List YW) (b18 : List ZX) (b19 : List Zs) (b20 : Int) (hb1 : 0 ≤ b1 ∧ b1 ≤ V) (s2 s3 z0 z1 z2 z3 : Int) : ∀ (m n : Nat) (i : Int) (l : List Zs), 0 ≤ i → i ≤ 7 → (7 : Int) ≤ i + m → m < n → (l.length : Int) ≤ i → Lv V l →
  Ok (Vn n s2 s3 l i b0 b1 b2 b3 b4 b5 b6 b7 b8 b9 b10 b11 b12 b13 b14 b15 b16 b17 b18 b19 b20 z0 z1 z2 z3) fun r => List.length r ≤ 7 ∧ Lv V r := by
 intro m
 induction m with
 | zero =>
  intro n i l h0 h1 h2 h3 h4 h5
  obtain ⟨n, rfl⟩ : ∃ m, n = m + 1 := ⟨n - 1, by omega⟩
  rw [Za1]
  exact Zj (fun _ => Zj (fun h => by omega) fun _ => Zb ⟨by omega, h5⟩) fun _ => Zb ⟨by omega, h5⟩
 | succ m ih =>
  intro n i l h0 h1 h2 h3 h4 h5
  obtain ⟨n, rfl⟩ : ∃ m, n = m + 1 := ⟨n - 1, by omega⟩
  rw [Za1, ZK (n := i + 1) (by omega) (by omega)]
  exact Zj (fun _ => Zj (fun h => ZA (by simp only [List.length_singleton]; unfold lim; omega) (ih n (i + 1) _ (by omega) (by omega) (by omega) (by omega) (by rw [Y7]; omega) (h5.snoc hb1))) fun _ => Zb ⟨by omega, h5⟩) fun _ => Zb ⟨by omega, h5⟩
theorem ZBH {V : Int} {t : List ZN} (ht : XT t) (p : Zq) (hp : 0 ≤ p.2.1 ∧ p.2.1 ≤ V) (k n : Int) : Ok (Zep big t p k n) fun r => List.length r ≤ 7 ∧ Lv V r := by
 have hlo := ht.lo; have hhi := ht.hi
 rw [ZoO, Zgu, Option.bind_some, ZK (n := (↑(List.length t) : Int) - 1) (by omega) (by omega)]
 refine Yf (fun h => ?_) fun _ => Zro _ _ _ _ _ _ _ _ _ _ _ _ _ _ _ _ _ _ _ _ _ hp _ _ _ _ _ _ 7 big 0 [] (by omega) (by omega) (by omega) (by unfold big; omega) (by decide) Zbj
 simp only [Bool.and_eq_true, decide_eq_true_eq] at h
 exact ZA h.1 (ZS (by omega) fun y _ => Zro _ _ _ _ _ _ _ _ _ _ _ _ _ _ _ _ _ _ _ _ _ hp _ _ _ _ _ _ 7 big 0 [] (by omega) (by omega) (by omega) (by unfold big; omega) (by decide) Zbj)
end Go.Sx.Tryz
set_option maxRecDepth 100000
namespace Go.Sx.Tryz
open Go Go.Sx Go.Proofs
theorem ZCL {B S : Nat} {V : Int} {x : Zl} (h : ClI B S V x) (i : Int) (hi : 0 ≤ i ∧ i < (List.length x.2.2.2.2.1 : Int)) (k : Int) (hk : 0 ≤ k ∧ k ≤ (List.length x.2.2.2.2.2.2.2.1 : Int)) {t : List ZN} (ht : XT t) (htv : ∀ b ∈ t, b.2.1 ≤ V) (at_ : Int) (b0 : Int) (b1 : Int) (b2 : Int) (b3 : Int) (b4 : Int) (b5 : Int) (b6 : Int) (b7 : Int) (b8 : Int) (b9 : Int) (b10 : Int) (b11 : Int) (b12 : Int) (b13 : Int) (b14 : List Int) (b15 : List Yj) (b16 : List Int) (b17 : List YW) (b18 : List ZX) (b19 : List Zs) (b20 : Int) (hp : Ko B V (b0, b1, (b2, b3, b4, b5, ()), (b6, b7, b8, b9, ()), (b10, b11, b12, b13, ()), b14, b15, b16, b17, b18, b19, b20, ())) (n : Nat) (hn : 0 < n) :
  Ok (Z9 n i k t at_ x.1 x.2.1 x.2.2.1 x.2.2.2.1 x.2.2.2.2.1 x.2.2.2.2.2.1 x.2.2.2.2.2.2.1 x.2.2.2.2.2.2.2.1 b0 b1 b2 b3 b4 b5 b6 b7 b8 b9 b10 b11 b12 b13 b14 b15 b16 b17 b18 b19 b20) fun r => ClI B S V r.2.1 := by
 obtain ⟨n, rfl⟩ : ∃ m, n = m + 1 := ⟨n - 1, by omega⟩
 have hpe := h.pend
 rw [Zbo]
 refine Zj (fun _ => Zb h) fun _ => ZA hi.1 (ZA hi.2 (ZS (by omega) fun _ _ => ZA hk.1 (ZA hk.2 (ZA (by simp only [List.length_take, List.length_drop]; unfold lim; omega) (Zd (ZBH (V := V) ht _ ⟨by have h9 : 1 ≤ b1 := hp.1.view.1; show 0 ≤ b1; omega, hp.1.view.2⟩ _ _) fun l hl => ZdV (by omega) ?_)))))
 have h2 : ClI B S V (x.1, x.2.1, x.2.2.1, t, upd x.2.2.2.2.1 i.toNat (b0, b1, (b2, b3, b4, b5, ()), (b6, b7, b8, b9, ()), (b10, b11, b12, b13, ()), b14, b15, b16, b17, b18, b19, b20, ()), x.2.2.2.2.2.1, x.2.2.2.2.2.2.1, List.take (List.length x.2.2.2.2.2.2.2.1 - k.toNat) (List.drop k.toNat x.2.2.2.2.2.2.2.1), ()) := by
  refine ⟨h.n, ht, ?_, Kk hp h.peer, h.net, h.said, ?_, fun c hc => ?_, h.lv, htv⟩
  ·show List.length (upd x.2.2.2.2.1 i.toNat (b0, b1, (b2, b3, b4, b5, ()), (b6, b7, b8, b9, ()), (b10, b11, b12, b13, ()), b14, b15, b16, b17, b18, b19, b20, ())) = 4
   rw [Z0]; exact h.peers
  ·show List.length (List.take (List.length x.2.2.2.2.2.2.2.1 - k.toNat) (List.drop k.toNat x.2.2.2.2.2.2.2.1)) ≤ 8
   simp only [List.length_take, List.length_drop]; omega
  ·exact h.key c (List.mem_of_mem_drop (List.mem_of_mem_take hc))
 exact Zd (Zwm h2 l (by omega) hl.2) fun w hw => Zb hw
set_option maxHeartbeats 16000000 in
theorem ZFn {B S : Nat} {V : Int} (hB : B ≤ 1000000000) {x : Zl} (h : ClI B S V x) (i : Int) : Ok (ZeG big x i) fun r => ClI B S V r.2.1 := by
 have hp : List.length x.2.2.2.2.1 = 4 := h.peers
 have hpe := h.pend
 have hu : ∀ y, (upd x.2.2.2.2.1 i.toNat y).length = List.length x.2.2.2.2.1 := fun y => Z0 _ _ _
 rw [ZpC]
 refine Zd (Zgq _ _ (by omega)) fun b hb => Z7 (fun _ => Zb h) fun hb1 => ?_
 have hi := hb hb1
 refine ZA hi.1 (ZA hi.2 ?_)
 have hin : i.toNat < List.length x.2.2.2.2.1 := by omega
 have hy := h.peer _ (List.getElem_mem hin)
 rw [Wy hin, Option.bind_some]
 generalize x.2.2.2.2.1[i.toNat] = y0 at hy
 refine Zd (ZBj _ _ _) fun y _ => ZdV hin ?_
 have one : ∀ z, Ko B V z → ClI B S V (x.1, x.2.1, x.2.2.1, x.2.2.2.1, upd x.2.2.2.2.1 i.toNat z, x.2.2.2.2.2) := fun z hz =>
  ⟨h.n, h.tree, by show (upd _ _ _).length = 4; rw [hu]; exact hp, Kk hz h.peer, h.net, h.said, h.pend, h.key, h.lv, h.tv⟩
 have h1 := one y0 hy
 have hl : (upd x.2.2.2.2.1 i.toNat y0).length = 4 := by rw [hu]; exact hp
 refine Z7 (fun _ => Zb h1) fun _ => Zj (fun _ => Zb h1) fun _ => ?_
 generalize upd x.2.2.2.2.1 i.toNat y0 = ps at h1 hl
 have hi2 : i < (ps.length : Int) := by omega
 have fin : ∀ (k : Int), 0 ≤ k → k ≤ (List.length x.2.2.2.2.2.2.2.1 : Int) → Ok ((nth ps i.toNat).bind fun y_2 => (Wl big x.2.2.2.1 y_2 (List.take (k.toNat - (0 : Nat)) (List.drop (0 : Nat) x.2.2.2.2.2.2.2.1))).bind fun y_3 => (Zdf ps i.toNat y_2).bind fun y =>
   Z9 big i k y_3.1 y_3.2.2.1 x.1 x.2.1 x.2.2.1 x.2.2.2.1 y x.2.2.2.2.2.1 x.2.2.2.2.2.2.1 x.2.2.2.2.2.2.2.1 y_3.2.1.1 y_3.2.1.2.1 y_3.2.1.2.2.1.1 y_3.2.1.2.2.1.2.1 y_3.2.1.2.2.1.2.2.1 y_3.2.1.2.2.1.2.2.2.1 y_3.2.1.2.2.2.1.1 y_3.2.1.2.2.2.1.2.1 y_3.2.1.2.2.2.1.2.2.1 y_3.2.1.2.2.2.1.2.2.2.1 y_3.2.1.2.2.2.2.1.1 y_3.2.1.2.2.2.2.1.2.1 y_3.2.1.2.2.2.2.1.2.2.1 y_3.2.1.2.2.2.2.1.2.2.2.1 y_3.2.1.2.2.2.2.2.1 y_3.2.1.2.2.2.2.2.2.1 y_3.2.1.2.2.2.2.2.2.2.1 y_3.2.1.2.2.2.2.2.2.2.2.1 y_3.2.1.2.2.2.2.2.2.2.2.2.1 y_3.2.1.2.2.2.2.2.2.2.2.2.2.1 y_3.2.1.2.2.2.2.2.2.2.2.2.2.2.1)
   fun r : Bool × Zl × Unit => ClI B S V r.2.1 := fun k h0 hk => by
  refine ZS (by omega) fun z hz => Zd (ZEi hB h.tree (h1.peer z hz).1 _ (by simp only [List.length_take, List.length_drop]; omega) fun c hc => h.key c (List.mem_of_mem_drop (List.mem_of_mem_take hc))) fun w hw => ZdV (by omega) ?_
  have h2 : ClI B S V (x.1, x.2.1, x.2.2.1, x.2.2.2.1, upd ps i.toNat z, x.2.2.2.2.2) := ⟨h.n, h.tree, by show (upd _ _ _).length = 4; rw [Z0]; exact hl, Kk (h1.peer z hz) h1.peer, h.net, h.said, h.pend, h.key, h.lv, h.tv⟩
  have := ZCL h2 i ⟨hi.1, by show i < ((upd ps i.toNat z).length : Int); rw [Z0]; exact hi2⟩ k ⟨h0, hk⟩ hw.1 (hw.2.2.2 h.tv) w.2.2.1 w.2.1.1 w.2.1.2.1 w.2.1.2.2.1.1 w.2.1.2.2.1.2.1 w.2.1.2.2.1.2.2.1 w.2.1.2.2.1.2.2.2.1 w.2.1.2.2.2.1.1 w.2.1.2.2.2.1.2.1 w.2.1.2.2.2.1.2.2.1 w.2.1.2.2.2.1.2.2.2.1 w.2.1.2.2.2.2.1.1 w.2.1.2.2.2.2.1.2.1 w.2.1.2.2.2.2.1.2.2.1 w.2.1.2.2.2.2.1.2.2.2.1 w.2.1.2.2.2.2.2.1 w.2.1.2.2.2.2.2.2.1 w.2.1.2.2.2.2.2.2.2.1 w.2.1.2.2.2.2.2.2.2.2.1 w.2.1.2.2.2.2.2.2.2.2.2.1 w.2.1.2.2.2.2.2.2.2.2.2.2.1 w.2.1.2.2.2.2.2.2.2.2.2.2.2.1 ((h1.peer z hz).of hw.2.1 hw.2.2.1) big (by decide)
  exact this
 refine Zj (fun hc => ?_) fun hc => ?_
 ·have := fin 4 (by decide) (by omega)
  have g4 : 0 + (List.take (Int.toNat (4 : Int) - (0 : Nat)) (List.drop (0 : Nat) x.2.2.2.2.2.2.2.1)).length ≤ lim := by simp only [List.length_take, List.length_drop]; unfold lim; omega
  simp only [if_pos hi.1, if_pos hi2, if_pos (show (4 : Int) ≤ (↑(List.length x.2.2.2.2.2.2.2.1) : Int) by omega), if_pos g4, Xm]
  exact this
 ·have := fin (↑(List.length x.2.2.2.2.2.2.2.1) : Int) (by omega) (by omega)
  have g4 : 0 + (List.take (Int.toNat (↑(List.length x.2.2.2.2.2.2.2.1) : Int) - (0 : Nat)) (List.drop (0 : Nat) x.2.2.2.2.2.2.2.1)).length ≤ lim := by simp only [List.length_take, List.length_drop]; unfold lim; omega
  simp only [if_pos hi.1, if_pos hi2, if_pos g4, Xm, if_pos (show (0 : Int) ≤ (↑(List.length x.2.2.2.2.2.2.2.1) : Int) by omega), if_pos (Int.le_refl (↑(List.length x.2.2.2.2.2.2.2.1) : Int))]
  exact this
theorem ZGO {B S : Nat} {V : Int} (h0 : 30000 ≤ B) (hB : B ≤ 100000000) (hS : S ≤ 900000000) (h30 : 30 ≤ V) (hV : V + 1 ≤ 900) {x : Zl} (h : ClI B S V x) {e : WT} (he : EvI e) : Ok (Zne big x e) fun r => ClI (B + 60) (S + 7) (V + 1) r.2.1 := by
 have hpe := h.pend
 have hp : List.length x.2.2.2.2.1 = 4 := h.peers
 have up : ∀ {y : Zl}, ClI B S V y → ClI (B + 60) (S + 7) (V + 1) y := fun hy => (hy.up (by omega) hV).mono (by omega) (by omega)
 have up1 : ∀ {y : Zl}, ClI B S (V + 1) y → ClI (B + 60) (S + 7) (V + 1) y := fun hy => hy.mono (by omega) (by omega)
 rw [Zv4]
 simp only [Xm]
 refine Zj (fun _ => Zj (fun _ => Zb (up h)) fun hc => ZA (by unfold lim; omega) (ZA (by simp only [List.length_singleton]; unfold lim; omega) (Zb ?_))) fun _ => ?_
 ·refine up ⟨h.n, h.tree, h.peers, h.peer, h.net, h.said, ?_, fun c hc => ?_, h.lv, h.tv⟩
  ·show (List.append _ [_]).length ≤ 8
   rw [Y7]; omega
  ·rcases List.mem_append.1 hc with hc | hc
   ·exact h.key c hc
   ·rw [List.mem_singleton.1 hc]; exact he.key
 refine Zj (fun _ => Zd (ZFn (by omega) h _) fun y hy => Zb (up hy)) fun _ => Zj (fun _ => Zd (ZD9 (by omega) (by omega) hV h _) fun y hy => Zb hy) fun _ => Zj (fun _ => Zd (ZFf h _) fun y hy => Zb (up hy.1)) fun _ =>
  Zj (fun _ => Zd (ZEa h _) fun y hy => Zb (up hy)) fun _ => Zj (fun _ => Zd (ZFh (by omega) hV h _) fun y hy => Zb (up1 hy)) fun _ => Zj (fun _ => ?_) fun _ => Zd (ZGk (by omega) h30 hV h he) fun y hy => Zb (up1 hy)
 refine Zd (Zgq _ _ (by omega)) fun b hb => Z7 (fun _ => Zb (up h)) fun hb1 => ?_
 have hi := hb hb1
 have hu : ∀ y, (upd x.2.2.2.2.1 (Int.toNat e.2.1) y).length = List.length x.2.2.2.2.1 := fun y => Z0 _ _ _
 refine ZA hi.1 (ZA hi.2 (ZS (by omega) fun y hy => Zd (ZCH h0 hB h.tree (h.peer y hy).1 (h.peer y hy).2) fun z hz => ZdV (by omega) (ZA hi.1 (ZA (by rw [hu]; exact hi.2) (ZS (by rw [hu]; omega) fun _ _ => ZdV (by rw [hu]; omega) (Zb (up ?_)))))))
 exact ⟨h.n, h.tree, by show (upd (upd _ _ _) _ _).length = 4; rw [Z0, hu]; exact hp, Kk ((h.peer y hy).of hz.1 hz.2) (Kk (h.peer y hy) h.peer), h.net, h.said, h.pend, h.key, h.lv, h.tv⟩
end Go.Sx.Tryz
set_option maxRecDepth 100000
namespace Go.Sx.Tryz
open Go Go.Sx Go.Proofs
theorem ZCM {most : Int} (hm : 0 < most ∧ most ≤ 26) (z0 : Int) (z1 : Bool) (z2 : Int) (z3 : List ZN) (z4 : List Zq) (z5 : List Zs) (z6 : List ZX) (z7 : List Vc) : ∀ (m n i : Nat) (c : ZF) (x : Zl), i ≤ 30 → 30 ≤ i + m → m < n → Zde c → ClI (30000 + 60 * i) (7 * i) (40 + i) x →
  Ok (K9 n most (i : Int) c.1 c.2.1 c.2.2.1 z0 z1 z2 z3 z4 z5 z6 z7 x.1 x.2.1 x.2.2.1 x.2.2.2.1 x.2.2.2.2.1 x.2.2.2.2.2.1 x.2.2.2.2.2.2.1 x.2.2.2.2.2.2.2.1) fun r => ClI 40000 1000 100 r.1 ∧ Zde r.2.1 := by
 intro m
 induction m with
 | zero =>
  intro n i c x h0 h1 h2 hc hx
  obtain ⟨n, rfl⟩ : ∃ m, n = m + 1 := ⟨n - 1, by omega⟩
  rw [Zci]
  refine Zd (Xd (c := (c.1, c.2.1, c.2.2.1, ())) hc most) fun y hy => ?_
  have h26 := hy.2.1 hm.1
  rw [ZK (n := 4 + y.1) (by omega) (by omega)]
  exact Zj (fun h => by omega) fun _ => Zb ⟨(hx.up (by omega) (by decide)).mono (by omega) (by omega), hy.2.2.2⟩
 | succ m ih =>
  intro n i c x h0 h1 h2 hc hx
  obtain ⟨n, rfl⟩ : ∃ m, n = m + 1 := ⟨n - 1, by omega⟩
  rw [Zci]
  refine Zd (Xd (c := (c.1, c.2.1, c.2.2.1, ())) hc most) fun y hy => ?_
  have h26 := hy.2.1 hm.1
  have hp : List.length x.2.2.2.2.1 = 4 := hx.peers
  rw [ZK (n := 4 + y.1) (by omega) (by omega), ZK (n := (i : Int) + 1) (by omega) (by omega)]
  refine Zj (fun h => ?_) fun _ => Zb ⟨(hx.up (by omega) (by decide)).mono (by omega) (by omega), hy.2.2.2⟩
  refine Zd (ZEh (x.1, x.2.1, x.2.2.1, x.2.2.2.1, x.2.2.2.2.1, x.2.2.2.2.2.1, x.2.2.2.2.2.2.1, x.2.2.2.2.2.2.2.1, ()) (by show List.length x.2.2.2.2.1 ≤ 1000; omega) hx.n y.2.1 hy.2.2.2) fun z hz => ?_
  obtain ⟨e1, e2, e3⟩ := hz
  rw [e3]
  refine Zd (ZGO (by omega) (by omega) (by omega) (by omega) (by omega) (x := x) hx e1) fun w hw => ?_
  have e : (i : Int) + 1 = ((i + 1 : Nat) : Int) := by omega
  rw [e]
  exact ih n (i + 1) z.2.1 w.2.1 (by omega) (by omega) (by omega) e2 ((hw.up (by omega) (by omega)).mono (by omega) (by omega))
theorem ZFo {c : ZF} (hc : Zde c) {most : Int} (hm : 0 < most ∧ most ≤ 26) : Ok (Zc6 big c most) fun r => ClI 40000 1000 100 r.1 ∧ Zde r.2.1 := by
 rw [Ztp]
 refine Zd (ZBg hc 2) fun y hy => Zd (JX hy _ (by decide)) fun z hz => ?_
 have hl : z.1 = 0 ∨ z.1 = 8 ∨ z.1 = 1 ∨ z.1 = 2 := by
  have h1 := hz.1
  simp only [List.mem_cons, List.not_mem_nil, or_false] at h1
  omega
 refine Zd (ZFl (V := 40) (by decide) y.1 hl) fun w hw => ?_
 exact ZCM hm _ _ _ _ _ _ _ _ 30 big 0 z.2.1 w.1 (by decide) (by decide) (by decide) hz.2 (hw.mono (by decide) (by decide))
theorem ZDi {c : ZF} (hc : Zde c) : Ok (ZaJ big c) fun r => XT r.1.1 ∧ Ko 40000 100 r.1.2.1 ∧ Zde r.2.1 := by
 rw [ZpE]
 refine Zd (ZFo hc (by decide)) fun y hy => ?_
 simp only [Xm]
 have hp : List.length y.1.2.2.2.2.1 = 4 := hy.1.peers
 refine Zd (Xd hy.2 _) fun z hz => ?_
 have := hz.2.1 (by omega)
 exact ZA hz.1 (ZA this (ZS (by omega) fun w hw => Zb ⟨hy.1.tree, hy.1.peer w hw, hz.2.2.2⟩))
theorem ZzM (code : List Int) (hl : code.length ≤ 1099511627776) : Ok (Zcj big code) fun r => XT r.1 ∧ Ko 40000 100 r.2.1 := by
 rw [Znk]
 exact Zd (ZDZ code hl) fun c hc => Zd (ZDi hc) fun y hy => Zb ⟨hy.1, hy.2.1⟩
/-! ### Spoilt ones -/
theorem ZyA {c : ZF} (hc : Zde c) {t : List ZN} (ht : XT t) : Ok (ZaK big c t) fun r => Zde r.2.1 ∧ r.2.2.1 = t := by
 have hlo := ht.lo; have hhi := ht.hi
 rw [ZpG]
 refine Zd (Xd hc 4) fun y hy => Zd (Xd hy.2.2.2 4) fun z hz => Zd (Xd hz.2.2.2 _) fun w hw => ?_
 have := hw.2.1 (by omega)
 exact ZA hw.1 (ZA this (ZS (by omega) fun _ _ => Zb ⟨hw.2.2.2, rfl⟩))
theorem ZDj {c : ZF} (hc : Zde c) {t : List ZN} (ht : XT t) : Ok (ZfZ big c t) fun r => Zde r.2.1 ∧ r.2.2.1 = t := by
 rw [Zwd]
 refine Zd (Xd hc 10) fun y hy => Zd (Xd hy.2.2.2 60) fun z hz => Zd (ZyA hz.2.2.2 ht) fun w hw => Zd (JX hw.1 _ (by decide)) fun v hv => ?_
 have hm := ZtC hz.1 (show (0 : Int) < 5 by decide)
 exact Zj (fun _ => Zb ⟨hv.2, hw.2⟩) fun _ => Zj (fun _ => ZA hm.1 (ZA hm.2 (ZS (by show (Int.tmod z.1 5).toNat < 5; omega) fun _ _ => Zb ⟨hv.2, hw.2⟩))) fun _ => Zj (fun _ => Zb ⟨hv.2, hw.2⟩) fun _ => Zj (fun _ => Zb ⟨hv.2, hw.2⟩) fun _ => Zb ⟨hv.2, hw.2⟩
theorem ZEj {c : ZF} (hc : Zde c) {t : List ZN} (ht : XT t) : Ok (Zhd big c t) fun r => Zde r.2.1 ∧ r.2.2.1 = t := by
 rw [Ztt]
 exact Zd (Xd hc 10) fun y hy => Zd (Xd hy.2.2.2 60) fun z hz => Zd (ZyA hz.2.2.2 ht) fun w hw => Zj (fun _ => Zb hw) fun _ => Zj (fun _ => Zb hw) fun _ => Zj (fun _ => Zb hw) fun _ => Zj (fun _ => Zb hw) fun _ => Zb hw
structure ZCN (p : Zq) : Prop where
 row : List.length p.2.2.2.2.2.1 ≤ 40001
 cells : YX p.2.2.2.2.2.2.1
 early : List.length p.2.2.2.2.2.2.2.1 ≤ 61
 undos : Zys p.2.2.2.2.2.2.2.2.1
 votes : List.length p.2.2.2.2.2.2.2.2.2.1 ≤ 40000
 news : List.length p.2.2.2.2.2.2.2.2.2.2.1 ≤ 40000
 view : 0 ≤ p.2.1 ∧ p.2.1 ≤ 900
theorem ZCN.lens {p : Zq} (h : ZCN p) : List.length p.2.2.2.2.2.1 ≤ 16777216 ∧ List.length p.2.2.2.2.2.2.1 ≤ 16777216 ∧ List.length p.2.2.2.2.2.2.2.1 ≤ 16777216 ∧ List.length p.2.2.2.2.2.2.2.2.1 ≤ 16777216 ∧ List.length p.2.2.2.2.2.2.2.2.2.1 ≤ 16777216 ∧ List.length p.2.2.2.2.2.2.2.2.2.2.1 ≤ 16777216 :=
 ⟨Nat.le_trans h.row (by decide), Nat.le_trans h.cells.len (by decide), Nat.le_trans h.early (by decide), Nat.le_trans h.undos.len (by decide), Nat.le_trans h.votes (by decide), Nat.le_trans h.news (by decide)⟩
theorem Yt.a {p : Zq} (h : Yt 40000 100 p) : ZCN p := ⟨Nat.le_trans h.row (by decide), h.cells, Nat.le_trans h.early (by decide), h.undos, h.votes, h.news, by have := h.view; omega⟩
theorem ZEk {c : ZF} (hc : Zde c) : Ok (Zhe big c) fun r => XT r.1.1 ∧ ZCN r.1.2.1 ∧ Zde r.2.1 := by
 rw [Ztw]
 refine Zd (Xd hc 14) fun y hy => Zd (Xd hy.2.2.2 60) fun z hz => Zd (ZDi hz.2.2.2) fun w hw => ?_
 obtain ⟨ht, hp, hcu⟩ := hw
 rw [Zcz (by decide) hp.1, Option.bind_some]
 have h := hp.1.a
 have hr := hp.1.row
 have he := hp.1.early
 have h60 := hz.2.1 (by decide)
 refine Zj (fun _ => Zb ⟨ht, ⟨h.row, h.cells, h.early, h.undos, h.votes, h.news, h.view⟩, hcu⟩) fun _ => Zj (fun _ => Zb ⟨ht, ⟨h.row, h.cells, h.early, h.undos, h.votes, h.news, ?_⟩, hcu⟩) fun _ =>
  Zj (fun _ => Zd (ZDj hcu ht) fun v hv => Zb ⟨by rw [hv.2]; exact ht, ⟨h.row, h.cells, h.early, h.undos, h.votes, h.news, h.view⟩, hv.1⟩) fun _ =>
  Zj (fun _ => Zd (ZDj hcu ht) fun v hv => Zb ⟨by rw [hv.2]; exact ht, ⟨h.row, h.cells, h.early, h.undos, h.votes, h.news, h.view⟩, hv.1⟩) fun _ =>
  Zj (fun _ => Zd (ZEj hcu ht) fun v hv => Zb ⟨by rw [hv.2]; exact ht, ⟨h.row, h.cells, h.early, h.undos, h.votes, h.news, h.view⟩, hv.1⟩) fun _ =>
  Zj (fun _ => ZA (by unfold lim; omega) (Zb ⟨ht, ⟨?_, h.cells, h.early, h.undos, h.votes, h.news, h.view⟩, hcu⟩)) fun _ =>
  Zj (fun _ => ZA (by unfold lim; omega) (Zb ⟨ht, ⟨h.row, h.cells, ?_, h.undos, h.votes, h.news, h.view⟩, hcu⟩)) fun _ => Zb ⟨ht, h, hcu⟩
 ·show 0 ≤ z.1 ∧ z.1 ≤ 900; omega
 ·show (List.append _ [_]).length ≤ 40001; rw [Y7]; omega
 ·show (List.append _ [_]).length ≤ 61; rw [Y7]; omega
end Go.Sx.Tryz
set_option maxRecDepth 100000
namespace Go.Sx.Tryz
open Go Go.Sx Go.Proofs
theorem Zgs {α : Type} (xs : List α) (h : xs.length ≤ 16777216) : (ZxP xs fun b => bif b then some [] else if (0 : Nat) + List.length xs ≤ lim then some xs else none) = some xs := by
 cases xs with
 | nil => exact Xm _
 | cons x l =>
  simp only [ZxP, cond_false]
  rw [if_pos (by unfold lim; omega)]
theorem Zrp (x : YF) (h : x.length ≤ 16777216) : QI big x = some x := by rw [Zjl]; exact Zgs x h
theorem Zwo (x : ZH) (h : x.length ≤ 16777216) : Kg big x = some x := by rw [Zf5]; exact Zgs x h
theorem Zwp (x : Yv) (h : x.length ≤ 16777216) : Kh big x = some x := by rw [Zf8]; exact Zgs x h
theorem Zwq (x : Z6) (h : x.length ≤ 16777216) : Ki big x = some x := by rw [Zgb]; exact Zgs x h
theorem ZpP (x : ZO) (h : x.length ≤ 16777216) : V4 big x = some x := by rw [Zdd]; exact Zgs x h
structure Zgt (x : Zq) : Prop where
 row : List.length x.2.2.2.2.2.1 ≤ 16777216
 cells : List.length x.2.2.2.2.2.2.1 ≤ 16777216
 early : List.length x.2.2.2.2.2.2.2.1 ≤ 16777216
 undos : List.length x.2.2.2.2.2.2.2.2.1 ≤ 16777216
 votes : List.length x.2.2.2.2.2.2.2.2.2.1 ≤ 16777216
 news : List.length x.2.2.2.2.2.2.2.2.2.2.1 ≤ 16777216
theorem Zgt.of {x : Zq} (h : Bg ZP x) : Zgt x :=
 ⟨h.2.2.2.2.2.1.1, h.2.2.2.2.2.2.1.1, h.2.2.2.2.2.2.2.1.1, h.2.2.2.2.2.2.2.2.1.1, h.2.2.2.2.2.2.2.2.2.1.1, h.2.2.2.2.2.2.2.2.2.2.1.1⟩
theorem ZnO (x : Zq) (h : Zgt x) : Vy big x = some x := by
 rw [Zjq]
 simp only [Zrp _ h.row, Zwo _ h.cells, Zrp _ h.early, Zwp _ h.undos, Zwq _ h.votes, ZpP _ h.news, Option.bind_some]
theorem Zwr (x : Zq) (h : Zgt x) : YD big x = some x := by
 rw [Zdu]
 have := h.row; have := h.cells; have := h.early; have := h.undos; have := h.votes; have := h.news
 unfold lim
 repeat rw [if_pos (by omega)]
end Go.Sx.Tryz
set_option maxRecDepth 100000
namespace Go.Sx.Tryz
open Go Go.Sx Go.Proofs
theorem JY {α : Type} {l : List α} (hl : l.length ≤ 16777216) {f : Nat → Int → Option Bool} (step : ∀ (n : Nat) (i : Int), 0 ≤ i → i < l.length → f n (i + 1) = some true → f (n + 1) i = some true) (done : ∀ n : Nat, f (n + 1) l.length = some true) :
  ∀ (m n i : Nat), i ≤ l.length → l.length ≤ i + m → m < n → f n (i : Int) = some true
 | m, 0, i, _, _, h => by omega
 | 0, n + 1, i, h0, h1, h2 => by
  obtain rfl : i = l.length := by omega
  exact done n
 | m + 1, n + 1, i, h0, h1, h2 => by
  by_cases hi : i < l.length
  ·exact step n i (by omega) (by omega) (by
    have := JY hl step done m n (i + 1) (by omega) (by omega) (by omega)
    rw [show ((i : Int) + 1) = ((i + 1 : Nat) : Int) by omega]; exact this)
  ·obtain rfl : i = l.length := by omega
   exact done n
theorem ZBI (x : Yj) : eqD W3 x x = true := by simp [eqD]
theorem ZBJ (x : YW) : eqD W4 x x = true := by simp [eqD]
theorem ZnP (x : ZX) : eqD ZV x x = true := by simp [eqD]
theorem ZnQ (x : Zs) : eqD ZD x x = true := by simp [eqD]
theorem ZBK (x : Zbm) : eqD X3 x x = true := by simp [eqD]
theorem Zrq (l : YF) (hl : List.length l ≤ 16777216) : Jb big l l = some true := by
 rw [Znp, decide_eq_true rfl, Bool.not_true, cond_false]
 refine JY (f := fun n i => Uq n l l i) hl (fun n i h0 h1 h => ?_) (fun n => ?_) (List.length l) big 0 (by omega) (by omega) (by unfold big; omega)
 ·have hi : i.toNat < List.length l := by omega
  rw [JV, decide_eq_true h1, cond_true, if_pos h0, Wy hi, Option.bind_some, if_pos h0, Option.bind_some, decide_eq_true rfl, Bool.not_true, cond_false, ZK (n := i + 1) (by omega) (by omega)]
  exact h
 ·rw [JV, decide_eq_false (by omega), cond_false]
theorem ZxJ (l : ZH) (hl : List.length l ≤ 16777216) : ZaM big l l = some true := by
 rw [Zjt, decide_eq_true rfl, Bool.not_true, cond_false]
 refine JY (f := fun n i => VA n l l i) hl (fun n i h0 h1 h => ?_) (fun n => ?_) (List.length l) big 0 (by omega) (by omega) (by unfold big; omega)
 ·have hi : i.toNat < List.length l := by omega
  rw [Jc, decide_eq_true h1, cond_true, if_pos h0, Wy hi, Option.bind_some, if_pos h0, Option.bind_some, ZBI, Bool.not_true, cond_false, ZK (n := i + 1) (by omega) (by omega)]
  exact h
 ·rw [Jc, decide_eq_false (by omega), cond_false]
theorem ZxK (l : Yv) (hl : List.length l ≤ 16777216) : ZaN big l l = some true := by
 rw [Zjw, decide_eq_true rfl, Bool.not_true, cond_false]
 refine JY (f := fun n i => VC n l l i) hl (fun n i h0 h1 h => ?_) (fun n => ?_) (List.length l) big 0 (by omega) (by omega) (by unfold big; omega)
 ·have hi : i.toNat < List.length l := by omega
  rw [Jd, decide_eq_true h1, cond_true, if_pos h0, Wy hi, Option.bind_some, if_pos h0, Option.bind_some, ZBJ, Bool.not_true, cond_false, ZK (n := i + 1) (by omega) (by omega)]
  exact h
 ·rw [Jd, decide_eq_false (by omega), cond_false]
theorem ZxL (l : Z6) (hl : List.length l ≤ 16777216) : ZaO big l l = some true := by
 rw [Zjz, decide_eq_true rfl, Bool.not_true, cond_false]
 refine JY (f := fun n i => VE n l l i) hl (fun n i h0 h1 h => ?_) (fun n => ?_) (List.length l) big 0 (by omega) (by omega) (by unfold big; omega)
 ·have hi : i.toNat < List.length l := by omega
  rw [Je, decide_eq_true h1, cond_true, if_pos h0, Wy hi, Option.bind_some, if_pos h0, Option.bind_some, ZnP, Bool.not_true, cond_false, ZK (n := i + 1) (by omega) (by omega)]
  exact h
 ·rw [Je, decide_eq_false (by omega), cond_false]
theorem ZtI (l : ZO) (hl : List.length l ≤ 16777216) : Kj big l l = some true := by
 rw [Zgo, decide_eq_true rfl, Bool.not_true, cond_false]
 refine JY (f := fun n i => Ww n l l i) hl (fun n i h0 h1 h => ?_) (fun n => ?_) (List.length l) big 0 (by omega) (by omega) (by unfold big; omega)
 ·have hi : i.toNat < List.length l := by omega
  rw [UT, decide_eq_true h1, cond_true, if_pos h0, Wy hi, Option.bind_some, if_pos h0, Option.bind_some, ZnQ, Bool.not_true, cond_false, ZK (n := i + 1) (by omega) (by omega)]
  exact h
 ·rw [UT, decide_eq_false (by omega), cond_false]
theorem ZzN (x : Zq) (h : Zgt x) : Zcv big x x = some true := by
 rw [Znv]
 simp only [decide_true, cond_true, ZBK, ZnP, Zrq _ h.row, ZxJ _ h.cells, Zrq _ h.early, ZxK _ h.undos, ZxL _ h.votes, ZtI _ h.news, Option.bind_some]
end Go.Sx.Tryz
set_option maxRecDepth 100000
namespace Go.Sx.Tryz
open Go Go.Sx Go.Proofs
def ZaU (x : Zq) (v : Int) : Zq :=
 bif decide (x.2.1 < v) then (bif decide (v ≤ 900) then (x.1, v, x.2.2.1, x.2.2.2.1, x.2.2.2.2.1, x.2.2.2.2.2.1, x.2.2.2.2.2.2.1, x.2.2.2.2.2.2.2.1, x.2.2.2.2.2.2.2.2.1, [], [], x.2.2.2.2.2.2.2.2.2.2.2) else x) else x
theorem ZCO {x : Zq} (h : Zgt x) (v : Int) : Zgt (ZaU x v) := by
 unfold ZaU
 cases decide (x.2.1 < v) with
 | false => exact h
 | true =>
  cases decide (v ≤ 900) with
  | false => exact h
  | true => exact ⟨h.row, h.cells, h.early, h.undos, Nat.zero_le _, Nat.zero_le _⟩
theorem ZnR (x : Zq) (h : Zgt x) (v : Int) : ZeK big x v = some (ZaU x v) := by
 rw [ZpM, ZnO x h]
 simp only [Option.bind_some, ZkC]
 rfl
theorem ZxM (x : Zq) (h : Zgt x) (v : Int) : Xw big x v = some (ZaU x v) := by
 rw [Zdw, Zwr x h]
 simp only [Option.bind_some, ZkC]
 rfl
end Go.Sx.Tryz
set_option maxRecDepth 100000
namespace Go.Sx.Tryz
open Go Go.Sx Go.Proofs
theorem Zrr (v n : Int) : ∃ l, Zcw big v n = some l ∧ YA big v n = some l := by
 rw [ZnB, ZbF]
 by_cases h1 : n < 1
 ·rw [decide_eq_true h1]; exact ⟨_, rfl, rfl⟩
 ·rw [decide_eq_false h1, if_neg (show ¬ n = 0 by omega)]
  simp only [cond_false, ZkC]
  exact ⟨_, rfl, rfl⟩
theorem ZGs (x a b : Int) : ZBc big x a b = some (decide (a ≤ x) && decide (x ≤ b)) := by
 rw [ZBd]
 cases decide (a ≤ x) <;> rfl
theorem ZEl (x a b : Int) : ZQ big x a b = some (decide (a ≤ x) && decide (x ≤ b)) := by
 rw [ZhC]
 cases decide (a ≤ x) <;> rfl
theorem ZzO (x : Zq) (hx : Zgt x) (n : Int) : ∃ r, UG big x n = some r ∧ Uz big x n = some r ∧ Zgt r.1 := by
 rw [Zcx, ZbX, ZGs, ZEl, ZnO x hx, Zwr x hx]
 simp only [Option.bind_some]
 cases decide (900 ≤ x.2.1) with
 | true => exact ⟨_, rfl, rfl, hx⟩
 | false =>
  simp only [cond_false]
  cases (decide ((1 : Int) ≤ n) && decide (n ≤ 7)) with
  | false => exact ⟨_, rfl, rfl, hx⟩
  | true =>
   simp only [Bool.not_true, cond_false]
   rw [ZnR x hx, ZxM x hx]
   simp only [Option.bind_some]
   obtain ⟨l, h1, h2⟩ := Zrr (ZaU x (IntKind.wrap .i64 (x.2.1 + 1))).2.1 n
   rw [h1, h2]
   exact ⟨_, rfl, rfl, ZCO hx _⟩
end Go.Sx.Tryz
set_option maxRecDepth 100000
namespace Go.Sx.Tryz
open Go Go.Sx Go.Proofs
theorem ZpQ (code : List Int) (hl : code.length ≤ 1099511627776) : Ok (UN big code) fun r => Zgt r.1 := by
 rw [ZeN]
 refine Zd (ZDZ code hl) fun c hc => Zd (JX hc _ (by decide)) fun y hy => Zd (ZEk hy.2) fun w hw => Zd (ZBg hw.2.2 8) fun z hz => ?_
 obtain ⟨h1, h2, h3, h4, h5, h6⟩ := hw.2.1.lens
 exact Yf (fun _ => Zd (Xd hz 3) fun v _ => Zb ⟨h1, h2, h3, h4, h5, h6⟩) fun _ => Zb ⟨h1, h2, h3, h4, h5, h6⟩
theorem ZBL (code : List Int) (hl : code.length ≤ 1099511627776) : Ok (WC big code) fun r => List.length r = 4 ∧ ∀ p ∈ r, 1 ≤ p.2.1 := by
 rw [ZaR]
 exact Zd (ZDZ code hl) fun c hc => Zd (ZFo hc (by decide)) fun y hy => Zb ⟨hy.1.peers, fun p hp => (hy.1.peer p hp).1.view.1⟩
theorem ZCP (l : List Zq) (hl : l.length ≤ 1000) : ∀ (m n n' i : Nat) (a : Int), 1 ≤ i → i ≤ l.length → l.length ≤ i + m → m < n → m < n' →
  ∃ r, Y6 n a l (↑(List.length l) : Int) (i : Int) = some r ∧ Y5 n' l a (i : Int) = some r ∧ a ≤ r ∧ ∀ (j : Nat) (y : Zq), i ≤ j → nth l j = some y → y.2.1 ≤ r := by
 intro m
 induction m with
 | zero =>
  intro n n' i a h0 h1 h2 h3 h4
  obtain ⟨n, rfl⟩ : ∃ m, n = m + 1 := ⟨n - 1, by omega⟩
  obtain ⟨n', rfl⟩ : ∃ m, n' = m + 1 := ⟨n' - 1, by omega⟩
  refine ⟨a, ?_, ?_, Int.le_refl _, fun j y hj hy => absurd (Zbq hy) (by omega)⟩
  ·rw [Xu, decide_eq_false (by omega)]; rfl
  ·rw [YH, decide_eq_false (by omega)]; rfl
 | succ m ih =>
  intro n n' i a h0 h1 h2 h3 h4
  obtain ⟨n, rfl⟩ : ∃ m, n = m + 1 := ⟨n - 1, by omega⟩
  obtain ⟨n', rfl⟩ : ∃ m, n' = m + 1 := ⟨n' - 1, by omega⟩
  by_cases hi : i < l.length
  ·have e : (i : Int) + 1 = ((i + 1 : Nat) : Int) := by omega
   rw [Xu, YH, decide_eq_true (show (i : Int) < (↑(List.length l) : Int) by omega), if_pos (by omega), if_pos (by omega), ZK (n := (i : Int) + 1) (by omega) (by omega), e, Int.toNat_natCast, Wy hi]
   simp only [cond_true, Option.bind_some]
   rw [decide_eq_false (show ¬ (i : Int) = 0 by omega), cond_false]
   by_cases ha : a < (l[i]).2.1
   ·rw [decide_eq_true ha]
    simp only [cond_true]
    rw [if_pos (by omega)]
    obtain ⟨r, g1, g2, g3, g4⟩ := ih n n' (i + 1) (l[i]).2.1 (by omega) (by omega) (by omega) (by omega) (by omega)
    refine ⟨r, g1, g2, by omega, fun j y hj hy => ?_⟩
    by_cases hji : j = i
    ·subst hji
     rw [Wy hi] at hy
     cases hy
     exact g3
    ·exact g4 j y (by omega) hy
   ·rw [decide_eq_false ha]
    simp only [cond_false]
    obtain ⟨r, g1, g2, g3, g4⟩ := ih n n' (i + 1) a (by omega) (by omega) (by omega) (by omega) (by omega)
    refine ⟨r, g1, g2, g3, fun j y hj hy => ?_⟩
    by_cases hji : j = i
    ·subst hji
     rw [Wy hi] at hy
     cases hy
     omega
    ·exact g4 j y (by omega) hy
  ·refine ⟨a, ?_, ?_, Int.le_refl _, fun j y hj hy => absurd (Zbq hy) (by omega)⟩
   ·rw [Xu, decide_eq_false (by omega)]; rfl
   ·rw [YH, decide_eq_false (by omega)]; rfl
theorem ZEm (l : List Zq) (hl : l.length = 4) (hv : ∀ p ∈ l, 1 ≤ p.2.1) : ∃ r, UO big l = some r ∧ XS big l = some r ∧ ∀ (j : Nat) (y : Zq), nth l j = some y → y.2.1 ≤ r := by
 have h0 : 0 < l.length := by omega
 have hb : big = (big - 1) + 1 := by decide
 have hb4 : 4 < big - 1 := by decide
 obtain ⟨r, g1, g2, g3, g4⟩ := ZCP l (by omega) 4 (big - 1) (big - 1) 1 (l[0]).2.1 (by omega) (by omega) (by omega) hb4 hb4
 have h1 := hv _ (List.getElem_mem h0)
 refine ⟨r, ?_, ?_, fun j y hy => ?_⟩
 ·rw [ZeQ, hb, Xu, decide_eq_true (show (0 : Int) < (↑(List.length l) : Int) by omega), if_pos (by omega), show Int.toNat 0 = 0 from rfl, Wy h0, ZK (n := (0 : Int) + 1) (by omega) (by omega)]
  simp only [cond_true, Option.bind_some, decide_true]
  exact g1
 ·rw [Kf, hb, YH, decide_eq_true (show (0 : Int) < (↑(List.length l) : Int) by omega), if_pos (by omega), show Int.toNat 0 = 0 from rfl, Wy h0, ZK (n := (0 : Int) + 1) (by omega) (by omega)]
  simp only [cond_true, Option.bind_some]
  rw [decide_eq_true (show (0 : Int) < (l[0]).2.1 by omega), cond_true, if_pos (by omega)]
  exact g2
 ·by_cases hj : j = 0
  ·subst hj
   rw [Wy h0] at hy
   cases hy
   exact g3
  ·exact g4 j y (by omega) hy
theorem ZBM (code : List Int) (s7 s10 : Bool) (m : Int) (b0 : Int) (b1 : Int) (b2 : Int) (b3 : Int) (b4 : Int) (b5 : Int) (b6 : Int) (b7 : Int) (b8 : Int) (b9 : Int) (b10 : Int) (b11 : Int) (b12 : Int) (b13 : Int) (b14 : List Int) (b15 : List Yj) (b16 : List Int) (b17 : List YW) (b18 : List ZX) (b19 : List Zs) (b20 : Int) (c0 c1 c2 c3 c4 c5 c6 c7 c8 c9 c10 c11 c12 : Int) (d0 : Int) (d1 : Int) (d2 : Int) (d3 : Int) (d4 : Int) (d5 : Int) (d6 : Int) (d7 : Int) (d8 : Int) (d9 : Int) (d10 : Int) (d11 : Int) (d12 : Int) (d13 : Int) (d14 : List Int) (d15 : List Yj) (d16 : List Int) (d17 : List YW) (d18 : List ZX) (d19 : List Zs) (d20 : Int) (e0 e1 e2 e3 e4 e5 e6 e7 e8 e9 e10 e11 e12 : Int) (l : List Zq) (hl : l.length = 4) (hv : ∀ (j : Nat) (y : Zq), nth l j = some y → y.2.1 ≤ m)
  (fin : ∀ n : Nat, VG (n + 1) code s7 s10 m 4 b0 b1 b2 b3 b4 b5 b6 b7 b8 b9 b10 b11 b12 b13 b14 b15 b16 b17 b18 b19 b20 c0 c1 c2 c3 c4 c5 c6 c7 c8 c9 c10 c11 c12 d0 d1 d2 d3 d4 d5 d6 d7 d8 d9 d10 d11 d12 d13 d14 d15 d16 d17 d18 d19 d20 e0 e1 e2 e3 e4 e5 e6 e7 e8 e9 e10 e11 e12 l = some true) : ∀ (k n i : Nat), i ≤ 4 → 4 ≤ i + k → k < n → VG n code s7 s10 m (i : Int) b0 b1 b2 b3 b4 b5 b6 b7 b8 b9 b10 b11 b12 b13 b14 b15 b16 b17 b18 b19 b20 c0 c1 c2 c3 c4 c5 c6 c7 c8 c9 c10 c11 c12 d0 d1 d2 d3 d4 d5 d6 d7 d8 d9 d10 d11 d12 d13 d14 d15 d16 d17 d18 d19 d20 e0 e1 e2 e3 e4 e5 e6 e7 e8 e9 e10 e11 e12 l = some true
 | k, 0, i, _, _, h => by omega
 | 0, n + 1, i, h0, h1, h2 => by
  obtain rfl : i = 4 := by omega
  exact fin n
 | k + 1, n + 1, i, h0, h1, h2 => by
  by_cases hi : i < 4
  ·have hi' : i < l.length := by omega
   have e : (i : Int) + 1 = ((i + 1 : Nat) : Int) := by omega
   rw [Zbh, decide_eq_true (show (i : Int) < (↑(List.length l) : Int) by omega), cond_true, if_pos (by omega), if_pos (by omega), Int.toNat_natCast, Wy hi', Option.bind_some, decide_eq_false (show ¬ m < (l[i]).2.1 by have := hv i _ (Wy hi'); omega), cond_false, ZK (n := (i : Int) + 1) (by omega) (by omega), e]
   exact ZBM code s7 s10 m _ _ _ _ _ _ _ _ _ _ _ _ _ _ _ _ _ _ _ _ _ _ _ _ _ _ _ _ _ _ _ _ _ _ _ _ _ _ _ _ _ _ _ _ _ _ _ _ _ _ _ _ _ _ _ _ _ _ _ _ _ _ _ _ _ _ _ _ l hl hv fin k n (i + 1) (by omega) (by omega) (by omega)
  ·obtain rfl : i = 4 := by omega
   exact fin n
theorem Yt.b {p : Zq} (h : Yt 40000 100 p) : Zgt p :=
 ⟨Nat.le_trans h.row (by decide), Nat.le_trans h.cells.len (by decide), Nat.le_trans h.early (by decide), Nat.le_trans h.undos.len (by decide), Nat.le_trans h.votes (by decide), Nat.le_trans h.news (by decide)⟩
theorem ZFp (p : Zq) (hp : Zgt p) (hv : 1 ≤ p.2.1 ∧ p.2.1 ≤ 100) : ∃ l, YA big (p.2.1 + 1) 4 = some l ∧ UG big p 4 = some ((p.1, p.2.1 + 1, p.2.2.1, p.2.2.2.1, p.2.2.2.2.1, p.2.2.2.2.2.1, p.2.2.2.2.2.2.1, p.2.2.2.2.2.2.2.1, p.2.2.2.2.2.2.2.2.1, [], [], p.2.2.2.2.2.2.2.2.2.2.2), (4, p.1, l, p.2.1 + 1, 0, p.2.2.1, (0, 0, 0, 0, ()), ()), true, ()) := by
 obtain ⟨l, h1, h2⟩ := Zrr (p.2.1 + 1) 4
 refine ⟨l, h2, ?_⟩
 have w : IntKind.i64.wrap (p.2.1 + 1) = p.2.1 + 1 := ZK (by omega) (by omega)
 have en : ZaU p (p.2.1 + 1) = (p.1, p.2.1 + 1, p.2.2.1, p.2.2.2.1, p.2.2.2.2.1, p.2.2.2.2.2.1, p.2.2.2.2.2.2.1, p.2.2.2.2.2.2.2.1, p.2.2.2.2.2.2.2.2.1, [], [], p.2.2.2.2.2.2.2.2.2.2.2) := by
  unfold ZaU
  rw [decide_eq_true (by omega), decide_eq_true (by omega)]; rfl
 rw [Zcx, decide_eq_false (show ¬ (900 : Int) ≤ p.2.1 by omega), cond_false, ZGs, show (decide ((1 : Int) ≤ 4) && decide ((4 : Int) ≤ 7)) = true from by decide, w, ZnR p hp, en]
 simp only [Option.bind_some, Bool.not_true, cond_false, h1]
set_option maxHeartbeats 4000000 in
theorem ZBN (code : List Int) : ZeR big code = some true := by
 rw [ZpO]
 by_cases hc : (1048576 : Int) < (↑(List.length code) : Int)
 ·rw [decide_eq_true hc]; rfl
 rw [decide_eq_false hc, cond_false]
 have hl : code.length ≤ 1099511627776 := by omega
 obtain ⟨⟨q, n, ⟨⟩⟩, e1, hq⟩ := ZpQ code hl
 obtain ⟨l, e2, hl4, hlv⟩ := ZBL code hl
 obtain ⟨⟨t, p, ⟨⟩⟩, e3, ht, hp⟩ := ZzM code hl
 obtain ⟨⟨x, k, ok, ⟨⟩⟩, f1, f2, hx⟩ := ZzO q hq n
 obtain ⟨m, g1, g2, g3⟩ := ZEm l hl4 hlv
 simp only [e1, e2, f1, f2, g1, Option.bind_some]
 have hv : 1 ≤ p.2.1 ∧ p.2.1 ≤ 100 := hp.1.view
 obtain ⟨ld, k1, k2⟩ := ZFp p hp.1.b hv
 have w : IntKind.i64.wrap (p.2.1 + 1) = p.2.1 + 1 := ZK (by omega) (by omega)
 have := ZBM code ok ok m x.1 x.2.1 x.2.2.1.1 x.2.2.1.2.1 x.2.2.1.2.2.1 x.2.2.1.2.2.2.1 x.2.2.2.1.1 x.2.2.2.1.2.1 x.2.2.2.1.2.2.1 x.2.2.2.1.2.2.2.1 x.2.2.2.2.1.1 x.2.2.2.2.1.2.1 x.2.2.2.2.1.2.2.1 x.2.2.2.2.1.2.2.2.1 x.2.2.2.2.2.1 x.2.2.2.2.2.2.1 x.2.2.2.2.2.2.2.1 x.2.2.2.2.2.2.2.2.1 x.2.2.2.2.2.2.2.2.2.1 x.2.2.2.2.2.2.2.2.2.2.1 x.2.2.2.2.2.2.2.2.2.2.2.1 k.1 k.2.1 k.2.2.1 k.2.2.2.1 k.2.2.2.2.1 k.2.2.2.2.2.1.1 k.2.2.2.2.2.1.2.1 k.2.2.2.2.2.1.2.2.1 k.2.2.2.2.2.1.2.2.2.1 k.2.2.2.2.2.2.1.1 k.2.2.2.2.2.2.1.2.1 k.2.2.2.2.2.2.1.2.2.1 k.2.2.2.2.2.2.1.2.2.2.1 x.1 x.2.1 x.2.2.1.1 x.2.2.1.2.1 x.2.2.1.2.2.1 x.2.2.1.2.2.2.1 x.2.2.2.1.1 x.2.2.2.1.2.1 x.2.2.2.1.2.2.1 x.2.2.2.1.2.2.2.1 x.2.2.2.2.1.1 x.2.2.2.2.1.2.1 x.2.2.2.2.1.2.2.1 x.2.2.2.2.1.2.2.2.1 x.2.2.2.2.2.1 x.2.2.2.2.2.2.1 x.2.2.2.2.2.2.2.1 x.2.2.2.2.2.2.2.2.1 x.2.2.2.2.2.2.2.2.2.1 x.2.2.2.2.2.2.2.2.2.2.1 x.2.2.2.2.2.2.2.2.2.2.2.1 k.1 k.2.1 k.2.2.1 k.2.2.2.1 k.2.2.2.2.1 k.2.2.2.2.2.1.1 k.2.2.2.2.2.1.2.1 k.2.2.2.2.2.1.2.2.1 k.2.2.2.2.2.1.2.2.2.1 k.2.2.2.2.2.2.1.1 k.2.2.2.2.2.2.1.2.1 k.2.2.2.2.2.2.1.2.2.1 k.2.2.2.2.2.2.1.2.2.2.1 l hl4 g3 (fun n => by
  rw [Zbh, decide_eq_false (show ¬ (4 : Int) < (↑(List.length l) : Int) by omega), cond_false, e3, Option.bind_some]
  dsimp only
  rw [k2, Option.bind_some, beq_self_eq_true, cond_true]
  have hs := ZzN x hx
  rw [show (x.1, x.2.1, (x.2.2.1.1, x.2.2.1.2.1, x.2.2.1.2.2.1, x.2.2.1.2.2.2.1, ()), (x.2.2.2.1.1, x.2.2.2.1.2.1, x.2.2.2.1.2.2.1, x.2.2.2.1.2.2.2.1, ()), (x.2.2.2.2.1.1, x.2.2.2.2.1.2.1, x.2.2.2.2.1.2.2.1, x.2.2.2.2.1.2.2.2.1, ()), x.2.2.2.2.2.1, x.2.2.2.2.2.2.1, x.2.2.2.2.2.2.2.1, x.2.2.2.2.2.2.2.2.1, x.2.2.2.2.2.2.2.2.2.1, x.2.2.2.2.2.2.2.2.2.2.1, x.2.2.2.2.2.2.2.2.2.2.2.1, ()) = x from rfl, hs]
  simp only [Option.bind_some, cond_true, ZnQ, w, decide_true, k1, ZBK, ZnP, List.length_nil, g2, Int.natCast_zero]) 4 big 0 (by decide) (by decide) (by decide)
 exact this
end Go.Sx.Tryz
