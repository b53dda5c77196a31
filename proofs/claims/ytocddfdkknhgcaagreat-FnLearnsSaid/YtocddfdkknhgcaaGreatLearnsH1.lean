/- That a run goes through: a calculus; and the draws. -/
import Derived.Test.YtocddfdkknhgcaaGreatM8
import Derived.Test.YtocddfdkknhgcaaGreatTypes
import Derived.Test.YtocddfdkknhgcaaGreatLearnsF1
import Derived.Test.YtocddfdkknhgcaaGreatLearnsF2
import Derived.Test.YtocddfdkknhgcaaGreatLearnsF3
set_option linter.unusedVariables false
set_option linter.unusedSimpArgs false
set_option maxRecDepth 100000
namespace Go.Sx.Tryz
open Go Go.Sx Go.Proofs
def Ok {α : Type} (x : Option α) (P : α → Prop) : Prop := ∃ r, x = some r ∧ P r
theorem Za {α : Type} {P : α → Prop} {r : α} (h : P r) : Ok (some r) P := ⟨r, rfl, h⟩
theorem Zd {α β : Type} {x : Option α} {f : α → Option β} {Q : α → Prop} {P : β → Prop} (h : Ok x Q) (k : ∀ r, Q r → Ok (f r) P) : Ok (x.bind f) P := by
 obtain ⟨r, rfl, hq⟩ := h;exact k r hq
theorem ZB {α : Type} {c : Prop} [Decidable c] {x : Option α} {P : α → Prop} (hc : c) (h : Ok x P) : Ok (if c then x else none) P := by rw [if_pos hc]; exact h
theorem Do {α : Type} {c : Prop} [Decidable c] {x : Option α} {P : α → Prop} (hc : ¬ c) (h : Ok x P) : Ok (if c then none else x) P := by rw [if_neg hc]; exact h
theorem Ym {α : Type} {b : Bool} {x y : Option α} {P : α → Prop} (h1 : b = true → Ok x P) (h0 : b = false → Ok y P) : Ok (bif b then x else y) P := by
 cases b with
 | true => exact h1 rfl
 | false => exact h0 rfl
theorem Zl {α : Type} {p : Prop} [Decidable p] {x y : Option α} {P : α → Prop} (h1 : p → Ok x P) (h0 : ¬ p → Ok y P) : Ok (bif decide p then x else y) P :=
 Ym (fun h => h1 (of_decide_eq_true h)) (fun h => h0 (of_decide_eq_false h))
theorem YM {α : Type} {p : Prop} [Decidable p] {x y : Option α} {P : α → Prop} (h1 : ¬ p → Ok x P) (h0 : p → Ok y P) : Ok (bif !decide p then x else y) P :=
 Ym (fun h => h1 (of_decide_eq_false (by simpa using h))) (fun h => h0 (of_decide_eq_true (by simpa using h)))
theorem Yb {α : Type} {b : Bool} {x y : Option α} {P : α → Prop} (h1 : b = false → Ok x P) (h0 : b = true → Ok y P) : Ok (bif !b then x else y) P := by
 cases b with
 | true => exact h0 rfl
 | false => exact h1 rfl
theorem ZZ {α β : Type} {l : List α} {i : Nat} {f : α → Option β} {P : β → Prop} (hi : i < l.length) (k : ∀ y, y ∈ l → Ok (f y) P) : Ok ((nth l i).bind f) P := by
 rw [ZY hi];exact k _ (List.getElem_mem hi)
theorem GG {α β : Type} {l : List α} {i : Nat} {y : α} {f : List α → Option β} {P : β → Prop} (hi : i < l.length) (k : Ok (f (upd l i y)) P) : Ok ((Dv l i y).bind f) P := by
 rw [G2 hi];exact k
theorem VT {α : Type} {x : Option α} {P Q : α → Prop} (h : Ok x P) (k : ∀ r, P r → Q r) : Ok x Q := by
 obtain ⟨r, e, h⟩ := h; exact ⟨r, e, k r h⟩
structure FL (c : ZM) : Prop where
 lo : 0 ≤ c.2.1
 hi : c.2.1 ≤ (List.length c.1 : Int)
 len : List.length c.1 ≤ 1099511627776
theorem Zo4 (z : Int) : 0 ≤ IntKind.i64.wrap ((BitVec.ofInt IntKind.i64.bits z &&& BitVec.ofInt IntKind.i64.bits 255).toNat : Int) ∧ IntKind.i64.wrap ((BitVec.ofInt IntKind.i64.bits z &&& BitVec.ofInt IntKind.i64.bits 255).toNat : Int) ≤ 255 := by
 have h : (BitVec.ofInt IntKind.i64.bits z &&& BitVec.ofInt IntKind.i64.bits 255).toNat ≤ 255 := by
  rw [BitVec.toNat_and];exact Nat.le_trans Nat.and_le_right (by decide)
 rw [ZH (by omega) (by omega)];omega
theorem Zmi {c : ZM} (h : FL c) : Ok (VM big c) fun r => 0 ≤ r.1 ∧ r.1 ≤ 255 ∧ FL r.2.1 := by
 rw [ZcN];have hlo := h.lo; have hhi := h.hi; have hlen := h.len;refine Zl (fun hc => ?_) (fun hc => ?_)
 ·refine ZB hlo (ZZ (by omega) fun y _ => Za ?_)
  refine ⟨(Zo4 _).1, (Zo4 _).2, ?_, ?_, hlen⟩
  ·show 0 ≤ IntKind.i64.wrap (c.2.1 + 1)
   rw [ZH (by omega) (by omega)]; omega
  ·show IntKind.i64.wrap (c.2.1 + 1) ≤ (List.length c.1 : Int)
   rw [ZH (by omega) (by omega)]; omega
 ·exact Za ⟨(Zo4 _).1, (Zo4 _).2, hlo, hhi, hlen⟩
theorem Zi3 {a n : Int} (ha : 0 ≤ a) (hn : 0 < n) : 0 ≤ Int.tmod a n ∧ Int.tmod a n < n := ⟨Int.tmod_nonneg _ ha, Int.tmod_lt_of_pos _ hn⟩
theorem Xw {c : ZM} (h : FL c) (n : Int) : Ok (ZA big c n) fun r => 0 ≤ r.1 ∧ (0 < n → r.1 < n) ∧ (n ≤ 0 → r.1 = 0) ∧ FL r.2.1 := by
 rw [Sg];refine Zl (fun hc => Za ⟨Int.le_refl _, fun h2 => by omega, fun _ => rfl, h⟩) (fun hc => ?_);refine Zl (fun hc2 => ?_) (fun hc2 => ?_)
 ·refine Zd (Zmi h) fun y hy => ?_
  refine Do (by omega) (Za ?_);have := Zi3 hy.1 (show 0 < n by omega);exact ⟨this.1, fun _ => this.2, fun h2 => by omega, hy.2.2⟩
 ·refine Zd (Zmi h) fun y hy => Zd (Zmi hy.2.2) fun y1 hy1 => Zd (Zmi hy1.2.2) fun y2 hy2 => Zd (Zmi hy2.2.2) fun y3 hy3 => ?_
  refine Do (by omega) (Za ?_);obtain ⟨a1, a2, _⟩ := hy; obtain ⟨b1, b2, _⟩ := hy1; obtain ⟨c1, c2, _⟩ := hy2; obtain ⟨d1, d2, hd⟩ := hy3;have e : 0 ≤ IntKind.i64.wrap (IntKind.i64.wrap (IntKind.i64.wrap (IntKind.i64.wrap (y.1 * 16777216) + IntKind.i64.wrap (y1.1 * 65536)) + IntKind.i64.wrap (y2.1 * 256)) + y3.1) := by
   rw [ZH (n := y.1 * 16777216) (by omega) (by omega), ZH (n := y1.1 * 65536) (by omega) (by omega), ZH (n := y2.1 * 256) (by omega) (by omega),
    ZH (n := y.1 * 16777216 + y1.1 * 65536) (by omega) (by omega), ZH (n := y.1 * 16777216 + y1.1 * 65536 + y2.1 * 256) (by omega) (by omega), ZH (by omega) (by omega)]
   omega
  have := Zi3 e (show 0 < n by omega);exact ⟨this.1, fun _ => this.2, fun h2 => by omega, hd⟩
theorem Zsu {c : ZM} (h : FL c) (n : Int) : Ok (Jv big c n) fun r => FL r.2.1 := by
 rw [ZcP];exact Zd (Xw h n) fun y hy => Za hy.2.2.2
theorem EV {c : ZM} (h : FL c) (l : List Int) (hl : 0 < l.length) : Ok (XT big c l) fun r => r.1 ∈ l ∧ FL r.2.1 := by
 rw [Ms];refine Zd (Xw h _) fun y hy => ZB hy.1 ?_;have := hy.2.1 (by omega);exact ZZ (by omega) fun z hz => Za ⟨hz, hy.2.2.2⟩
theorem ZwT {c : ZM} (h : FL c) (l : List ByteArray) (hl : 0 < l.length) : Ok (G3 big c l) fun r => r.1 ∈ l ∧ FL r.2.1 := by
 rw [ZcS];refine Zd (Xw h _) fun y hy => ZB hy.1 ?_;have := hy.2.1 (by omega);exact ZZ (by omega) fun z hz => Za ⟨hz, hy.2.2.2⟩
theorem Zo5 (code : List Int) (hl : code.length ≤ 1099511627776) : ∀ (k n : Nat) (a i : Int), 0 ≤ i → (code.length : Int) ≤ i + k → k < n → i ≤ code.length → Ok (J4 n code a i) fun c => c = (code, 0, c.2.2.1, ())
 | k, 0, a, i, _, _, h, _ => by omega
 | k, n + 1, a, i, h0, h1, h2, h3 => by
  rw [R9];refine Zl (fun hc => ?_) (fun _ => Za rfl);refine Zl (fun _ => ?_) (fun _ => Za rfl);refine ZB h0 (ZZ (by omega) fun y _ => ?_);rw [ZH (n := i + 1) (by omega) (by omega)];cases k with
  | zero => omega
  | succ k => exact Zo5 code hl k n _ _ (by omega) (by omega) (by omega) (by omega)
theorem Zx5 (code : List Int) (hl : code.length ≤ 1099511627776) : Ok (Mq big code) fun c => FL c := by
 rw [Zhe];refine VT (Zo5 code hl code.length big _ 0 (by omega) (by omega) (by unfold big; omega) (by omega)) fun c hc => ?_;rw [hc];exact ⟨Int.le_refl _, by show (0 : Int) ≤ _; omega, hl⟩
theorem LZ (a lo hi : Int) : ZT big a lo hi = some (decide (lo ≤ a) && decide (a ≤ hi)) := by
 rw [Np];cases decide (lo ≤ a) <;> rfl
theorem O4 (x : Int) : ¬ IntKind.u64.wrap x < 0 := by
 unfold IntKind.wrap;simp only [IntKind.bits, IntKind.signed];have : (0 : Int) < 2 ^ 64 := by decide
 have := Int.emod_nonneg x (show (2 : Int) ^ 64 ≠ 0 by decide);simp;omega
theorem Zb7 (s : Int) : Ok (XC big s) fun _ => True := by
 rw [Vs];have loop : ∀ (k n : Nat) (a i : Int), 0 ≤ i → i ≤ 7 → 7 ≤ i + k → k < n → Ok (Kx n s a i) fun _ => True := by
  intro k
  induction k with
  | zero =>
   intro n a i h0 h1 h2 h3;obtain ⟨n, rfl⟩ : ∃ m, n = m + 1 := ⟨n - 1, by omega⟩
   rw [XI];exact Zl (fun hc => by omega) (fun _ => Za trivial)
  | succ k ih =>
   intro n a i h0 h1 h2 h3;obtain ⟨n, rfl⟩ : ∃ m, n = m + 1 := ⟨n - 1, by omega⟩
   rw [XI];refine Zl (fun hc => Zl (fun _ => Do (O4 _) ?_) (fun _ => Za trivial)) (fun _ => Za trivial);rw [ZH (n := i + 1) (by omega) (by omega)];exact ih n _ _ (by omega) (by omega) (by omega) (by omega)
 exact loop 7 big 0 0 (by omega) (by omega) (by omega) (by unfold big; omega)
theorem Zt8 (n : Int) : Ok (By big n) fun _ => True := by
 rw [Ip];exact Zl (fun _ => Za trivial) (fun _ => Za trivial)
theorem Ra (n : Int) : Ok (Ji big n) fun _ => True := by
 rw [Zhp];exact Zd (Zt8 n) fun _ _ => Za trivial
theorem Vk (v n : Int) : Ok (Xj big v n) fun _ => True := by
 rw [Sq];exact Zl (fun _ => Za trivial) fun h => Zl (fun _ => Za trivial) fun _ => Do (by omega) (Za trivial)
theorem Zb8 (x : Zp) (i : Int) : Ok (W8 big x i) fun _ => True := by
 rw [Znz];refine Zl (fun _ => ?_) (fun _ => Za trivial);rw [LZ];refine Zd (Za (P := fun _ => True) trivial) fun y _ => Ym (fun _ => Zl (fun _ => Do (O4 _) (Za trivial)) (fun _ => Za trivial)) (fun _ => Za trivial)
theorem L0 (x : Zp) (i : Int) (hl : List.length x.2.2.2.2.1 ≤ 1000) : Ok (Wn big x i) fun b => b = true → 0 ≤ i ∧ i < (List.length x.2.2.2.2.1 : Int) := by
 rw [Pe, LZ];rw [ZH (n := (List.length x.2.2.2.2.1 : Int) - 1) (by omega) (by omega)];simp only [Option.bind_some];refine Ym (fun h => ?_) (fun _ => Za fun h => by cases h);simp only [Bool.and_eq_true, decide_eq_true_eq] at h;rw [LZ];simp only [Option.bind_some];exact Ym (fun _ => Zd (Zb8 x i) fun _ _ => Za fun _ => ⟨h.1, by omega⟩) (fun _ => Za fun h => by cases h)
theorem Zo6 (a b : Bw) : Xx big a b = some (bif decide (a.2.1 < b.2.1) then b else a) := by
 rw [Ss];cases decide (a.2.1 < b.2.1) <;> rfl
theorem CS (a b : Bw) : Ok (Xx big a b) fun r => (r = a ∨ r = b) ∧ a.2.1 ≤ r.2.1 := by
 rw [Zo6]
 by_cases h : a.2.1 < b.2.1
 ·rw [decide_eq_true h]; exact Za ⟨.inr rfl, Int.le_of_lt h⟩
 ·rw [decide_eq_false h]; exact Za ⟨.inl rfl, Int.le_refl _⟩
theorem Zt9 (p : Zn) (a b : Int) : Ok (Qk big p a b) fun _ => True := by
 rw [Zda];exact Zl (fun _ => Za trivial) fun _ => Zl (fun _ => Za trivial) (fun _ => Za trivial)
theorem Zsv {α : Type} {P : α → Prop} {L : Nat} (hL : L ≤ 4294967296) {I : Int → Prop} {f : Nat → Int → Option α}
  (step : ∀ (n : Nat) (i : Int), 0 ≤ i → i < L → I i → (∀ i', i' = i + 1 → I i' → Ok (f n i') P) → Ok (f (n + 1) i) P)
  (done : ∀ n : Nat, I L → Ok (f (n + 1) L) P) : ∀ (k n : Nat) (i : Int), 0 ≤ i → i ≤ L → (L : Int) ≤ i + k → k < n → I i → Ok (f n i) P
 | k, 0, i, _, _, _, h, _ => by omega
 | 0, n + 1, i, h0, h1, h2, _, hi => by
  have : i = L := by omega
  subst this;exact done n hi
 | k + 1, n + 1, i, h0, h1, h2, h3, hi => by
  rcases Int.lt_or_le i L with hl | hl
  ·exact step n i h0 hl hi fun i' e hi' => Zsv hL step done k n i' (by omega) (by omega) (by omega) (by omega) hi'
  ·have : i = L := by omega
   subst this;exact done n hi
theorem up0 {α : Type} {P : α → Prop} {L : Nat} (hL : L ≤ 4294967296) {f : Nat → Int → Option α}
  (step : ∀ (n : Nat) (i : Int), 0 ≤ i → i < L → (∀ i', i' = i + 1 → Ok (f n i') P) → Ok (f (n + 1) i) P)
  (done : ∀ n : Nat, Ok (f (n + 1) L) P) : Ok (f big 0) P :=
 Zsv (I := fun _ => True) hL (fun n i h0 h1 _ k => step n i h0 h1 fun i' e => k i' e trivial) (fun n _ => done n) L big 0 (by omega) (by omega) (by omega) (by unfold big; omega) trivial
theorem Zx6 (l : List Z3) (v : Z3) (hl : l.length ≤ 4294967296) : Ok (Mw big l v) fun _ => True := by
 rw [ZhE];refine up0 (L := l.length) hl (f := fun n i => V3 n l i v.1 v.2.1 v.2.2.1 v.2.2.2.1) (fun n i h0 h1 k => ?_) (fun n => ?_)
 ·rw [DT, ZH (n := i + 1) (by omega) (by omega)]
  refine Zl (fun _ => ZB h0 (ZZ (by omega) fun y _ => Zl (fun _ => ZB h0 (ZZ (by omega) fun y _ => Zl (fun _ => ZB h0 (ZZ (by omega) fun y _ => Zl (fun _ => Za trivial) (fun _ => k _ rfl))) (fun _ => k _ rfl))) (fun _ => k _ rfl))) (fun h => by omega)
 ·rw [DT]
  exact Zl (fun h => by omega) (fun _ => Za trivial)
theorem Zn3 (s : ByteArray) (hs : s.size ≤ 4294967296) : Ok (BA big s) fun _ => True := by
 rw [Nz];have hl : s.data.toList.length = s.size := by rw [Array.length_toList]; rfl
 refine up0 (L := s.size) hs (f := fun n i => Jx n s i) (fun n i h0 h1 k => ?_) (fun n => ?_)
 ·rw [Qw, ZH (n := i + 1) (by omega) (by omega)]
  refine Zl (fun _ => ZB h0 (ZZ (by omega) fun y _ => Zl (fun _ => Za trivial) fun _ => ZB h0 (ZZ (by omega) fun y _ => Zl (fun _ => Za trivial) fun _ => k _ rfl))) (fun h => by omega)
 ·rw [Qw, LZ]
  exact Zl (fun h => by omega) (fun _ => Za trivial)
structure ZwU (l : List Xd) : Prop where
 len : l.length ≤ 4
 key : ∀ c ∈ l, ByteArray.size c.2.1 ≤ 1000
structure Xl (t : List Zv) : Prop where
 lo : 1 ≤ t.length
 hi : t.length ≤ 60
 cmds : ∀ b ∈ t, ZwU b.2.2.1
 view : ∀ b ∈ t, 0 ≤ b.2.1 ∧ b.2.1 ≤ 900
 first : ∀ b, nth t 0 = some b → b.2.2.2.1.2.1 = 0 ∧ b.2.2.2.1.2.2.1 = 0
 just : ∀ (k : Nat) b, nth t k = some b → 0 < k → 0 ≤ b.1 ∧ b.1 < (k : Int) ∧ b.2.2.2.1.2.2.1 = b.1
inductive Up (t : List Zv) : Int → Prop
 | zero : Up t 0
 | step {k : Int} {b : Zv} : 0 < k → k < t.length → nth t k.toNat = some b → 0 ≤ b.1 → b.1 < k → Up t b.1 → Up t k
theorem FC {t : List Zv} (ht : Xl t) (k : Int) : Ok (Wf big t k) fun h => (0 ≤ h → Up t k) ∧ (k = 0 → h ≤ 0) := by
 have hlo := ht.lo; have hhi := ht.hi;rw [DU];have loop : ∀ (m n : Nat) (k a : Int), k ≤ m → m < n → Ok (Vt n t k a) fun h => (0 ≤ h → Up t k) ∧ (k = 0 → h = a) := by
  intro m
  induction m with
  | zero =>
   intro n k a h1 h2;obtain ⟨n, rfl⟩ : ∃ m, n = m + 1 := ⟨n - 1, by omega⟩
   rw [XA, LZ];refine YM (fun hk => ?_) (fun hk => ?_)
   ·simp only [Option.bind_some]
    have : (decide (0 ≤ k) && decide (k ≤ IntKind.i64.wrap ((↑(List.length t) : Int) - 1))) = false := by
     rw [decide_eq_false (by omega)]; rfl
    rw [this];exact Za ⟨fun h => by omega, fun h => absurd h hk⟩
   ·subst hk
    exact Zl (fun h => by omega) (fun _ => Za ⟨fun _ => .zero, fun _ => rfl⟩)
  | succ m ih =>
   intro n k a h1 h2;obtain ⟨n, rfl⟩ : ∃ m, n = m + 1 := ⟨n - 1, by omega⟩
   rw [XA, LZ, ZH (n := (↑(List.length t) : Int) - 1) (by omega) (by omega)];refine YM (fun hk => ?_) (fun hk => ?_)
   ·simp only [Option.bind_some]
    refine Yb (fun _ => Za ⟨fun h => by omega, fun h => absurd h hk⟩) (fun hc => ?_);simp only [Bool.and_eq_true, decide_eq_true_eq] at hc;have hlt : k.toNat < t.length := by omega
    have hn : nth t k.toNat = some t[k.toNat] := ZY hlt;rw [hn];simp only [Option.bind_some, LZ];refine ZB hc.1 (Yb (fun _ => Za ⟨fun h => by omega, fun h => absurd h hk⟩) (fun hd => ZB hc.1 ?_));rw [ZH (n := k - 1) (by omega) (by omega)] at hd;simp only [Bool.and_eq_true, decide_eq_true_eq] at hd;refine VT (ih n _ _ (by omega) (by omega)) fun h hh => ⟨fun h0 => .step (by omega) (by omega) hn hd.1 (by omega) (hh.1 h0), fun e => absurd e hk⟩
   ·subst hk
    exact Zl (fun h => by omega) (fun _ => Za ⟨fun _ => .zero, fun _ => rfl⟩)
 rcases Int.lt_or_le 60 k with hk | hk
 ·obtain ⟨n, hn⟩ : ∃ n, big = n + 1 := ⟨big - 1, rfl⟩
  rw [hn, XA, LZ, ZH (n := (↑(List.length t) : Int) - 1) (by omega) (by omega)];refine YM (fun _ => ?_) (fun h => by omega);simp only [Option.bind_some];refine Yb (fun _ => Za ⟨fun h => by omega, fun h => by omega⟩) (fun hc => ?_);simp only [Bool.and_eq_true, decide_eq_true_eq] at hc;omega
 ·exact VT (loop 60 big k 0 (by omega) (by unfold big; omega)) fun h hh => ⟨hh.1, fun e => by have := hh.2 e; omega⟩
theorem Up.lt {t : List Zv} {k : Int} (h : Up t k) (ht : 1 ≤ t.length) : 0 ≤ k ∧ k < t.length := by
 cases h with
 | zero => exact ⟨Int.le_refl _, by omega⟩
 | step h1 h2 _ _ _ _ => exact ⟨by omega, h2⟩
theorem Zb9 {t : List Zv} (ht : Xl t) (k u : Int) : Ok (Ql big t k u) fun b => b = true → Up t k := by
 have hlo := ht.lo; have hhi := ht.hi;rw [F0];have loop : ∀ {k : Int}, Up t k → ∀ n : Nat, k < n → Ok (Uv n t k u) fun _ => True := by
  intro k hk
  induction hk with
  | zero =>
   intro n h2;obtain ⟨n, rfl⟩ : ∃ m, n = m + 1 := ⟨n - 1, by omega⟩
   rw [Kb];exact Zl (fun h => by omega) (fun _ => Za trivial)
  | step h1 h2 h3 h4 h5 _ ih =>
   intro n hn;obtain ⟨n, rfl⟩ : ∃ m, n = m + 1 := ⟨n - 1, by omega⟩
   rw [Kb, h3];simp only [Option.bind_some];exact Zl (fun _ => YM (fun _ => ZB (by omega) (ih n (by omega))) (fun _ => Za trivial)) (fun h => by omega)
 refine Zd (FC ht k) fun h hh => Zl (fun _ => Za fun e => by cases e) (fun hc => ?_);have hu := hh.1 (by omega);exact VT (loop hu big (by have := (hu.lt hlo).2; unfold big; omega)) fun _ _ _ => hu
theorem ZvB {t : List Zv} (ht : Xl t) (k : Int) : Ok (IE big t k) fun l => l.length ≤ 60 ∧ ∀ x ∈ l, 0 ≤ x ∧ x < t.length := by
 have hlo := ht.lo; have hhi := ht.hi;rw [NO];have loop : ∀ {k : Int}, Up t k → ∀ (n : Nat) (l : List Int), k < n → (l.length : Int) + k ≤ 60 → (∀ x ∈ l, 0 ≤ x ∧ x < t.length) → Ok (JB n t k l) fun l => l.length ≤ 60 ∧ ∀ x ∈ l, 0 ≤ x ∧ x < t.length := by
  intro k hk
  induction hk with
  | zero =>
   intro n l h2 hl hx;obtain ⟨n, rfl⟩ : ∃ m, n = m + 1 := ⟨n - 1, by omega⟩
   rw [A9];exact Zl (fun h => by omega) (fun _ => Za ⟨by omega, hx⟩)
  | @step k b h1 h2 h3 h4 h5 _ ih =>
   intro n l hn hl hx;obtain ⟨n, rfl⟩ : ∃ m, n = m + 1 := ⟨n - 1, by omega⟩
   rw [A9, h3];simp only [Option.bind_some];refine Zl (fun _ => ZB (by simp only [List.length_singleton]; unfold lim; omega) (ZB (by omega) (ih n (k :: l) (by omega) (by simp only [List.length_cons]; omega) ?_))) (fun h => by omega);intro x hm;rcases List.mem_cons.1 hm with rfl | hm
   ·exact ⟨by omega, h2⟩
   ·exact hx x hm
 refine Zd (FC ht k) fun h hh => Zl (fun _ => Za ⟨by simp, by simp⟩) (fun hc => ?_);have hu := hh.1 (by omega);have := (hu.lt hlo).2;exact loop hu big [] (by unfold big; omega) (by simp only [List.length_nil]; omega) (by simp)
theorem Zgq {t : List Zv} (ht : Xl t) (k u : Int) : Ok (QX big t k u) fun l => l.length ≤ 60 ∧ ∀ x ∈ l, 0 ≤ x ∧ x < t.length := by
 rw [D4];refine Zd (Zb9 ht k u) fun b _ => Yb (fun _ => Za ⟨by simp, by simp⟩) (fun _ => Zd (ZvB ht k) fun row hrow => ?_);have loop : ∀ (m n : Nat) (i : Int) (l : List Int), 0 ≤ i → i ≤ row.length → (row.length : Int) ≤ i + m → m < n → (l.length : Int) ≤ i → (∀ x ∈ l, 0 ≤ x ∧ x < t.length) →
   Ok (Wx n u l i row) fun l => l.length ≤ 60 ∧ ∀ x ∈ l, 0 ≤ x ∧ x < t.length := by
  have hr := hrow.1;intro m
  induction m with
  | zero =>
   intro n i l h0 h1 h2 h3 h4 h5;obtain ⟨n, rfl⟩ : ∃ m, n = m + 1 := ⟨n - 1, by omega⟩
   rw [Vb];exact Zl (fun h => by omega) (fun _ => Za ⟨by omega, h5⟩)
  | succ m ih =>
   intro n i l h0 h1 h2 h3 h4 h5;obtain ⟨n, rfl⟩ : ∃ m, n = m + 1 := ⟨n - 1, by omega⟩
   rw [Vb, ZH (n := i + 1) (by omega) (by omega)];refine Zl (fun hc => ZB h0 (ZB hc (ZZ (by omega) fun y hy => Zl (fun _ => ZB h0 (ZB hc (ZZ (by omega) fun y hy => ZB (by simp only [List.length_singleton]; unfold lim; omega) ?_))) (fun _ => ?_)))) (fun _ => Za ⟨by omega, h5⟩)
   ·refine ih n (i + 1) _ (by omega) (by omega) (by omega) (by omega) (by rw [List.append_eq, List.length_append]; simp only [List.length_singleton]; omega) ?_
    intro x hx;rcases List.mem_append.1 (show x ∈ l ++ [y] from hx) with hx | hx
    ·exact h5 x hx
    ·simp only [List.mem_singleton] at hx; subst hx; exact hrow.2 _ hy
   ·exact ih n (i + 1) l (by omega) (by omega) (by omega) (by omega) (by omega) h5
 exact loop row.length big 0 [] (by omega) (by omega) (by omega) (by have := hrow.1; unfold big; omega) (by simp) (by simp)
theorem Zsw {t : List Zv} (ht : Xl t) (k : Int) : Ok (V4 big t k) fun r => r.2.2.2.1 = true → (0 ≤ k ∧ k < t.length) ∧ (0 ≤ r.1 ∧ r.1 < t.length) ∧ (0 ≤ r.2.1 ∧ r.2.1 < t.length) ∧ (0 ≤ r.2.2.1 ∧ r.2.2.1 < t.length) := by
 have hlo := ht.lo; have hhi := ht.hi;rw [Jz];refine Zd (FC ht k) fun h hh => Zl (fun _ => Za fun e => by cases e) (fun hc => ?_);have hu := (hh.1 (by omega)).lt hlo;refine ZB hu.1 (ZZ (by omega) fun b _ => ?_);simp only [LZ, Option.bind_some, ZH (n := k - 1) (by omega) (by omega), ZH (n := (↑(List.length t) : Int) - 1) (by omega) (by omega)];refine Yb (fun _ => Za fun e => by cases e) (fun h1 => ?_);simp only [Bool.and_eq_true, decide_eq_true_eq] at h1;refine ZB h1.1 (ZZ (by omega) fun b2 _ => Yb (fun _ => Za fun e => by cases e) (fun h2 => ?_));simp only [Bool.and_eq_true, decide_eq_true_eq] at h2;refine ZB h2.1 (ZZ (by omega) fun b3 _ => Yb (fun _ => Za fun e => by cases e) (fun h3 => Za fun _ => ?_));simp only [Bool.and_eq_true, decide_eq_true_eq] at h3;dsimp only;exact ⟨hu, ⟨h1.1, by omega⟩, ⟨h2.1, by omega⟩, h3.1, by omega⟩
theorem ZvC (l : List Z3) (hl : l.length ≤ 4294967296) (a b c : Int) : ∀ (m : Nat) (n : Nat) (i acc : Int), 0 ≤ i → i ≤ 7 → (7 : Int) ≤ i + m → m * (l.length + 2) + 1 ≤ n → Ok (WP n l a b c acc i) fun _ => True := by
 intro m
 induction m with
 | zero =>
  intro n i acc h0 h1 h2 h3;obtain ⟨n, rfl⟩ : ∃ m, n = m + 1 := ⟨n - 1, by omega⟩
  rw [Aa];exact Zl (fun h => by omega) (fun _ => Za trivial)
 | succ m ih =>
  intro n i acc h0 h1 h2 h3;obtain ⟨n, rfl⟩ : ∃ m, n = m + 1 := ⟨n - 1, by omega⟩
  rw [Aa];refine Zl (fun hc => ?_) (fun _ => Za trivial);have h3' : m * (l.length + 2) + (l.length + 2) ≤ n := by rw [Nat.succ_mul] at h3; omega
  have inner : ∀ (q : Nat) (n : Nat) (j : Int), 0 ≤ j → j ≤ l.length → (l.length : Int) ≤ j + q → m * (l.length + 2) + 1 + q + 1 ≤ n → Ok (WQ n l a b c acc i j) fun _ => True := by
   intro q
   induction q with
   | zero =>
    intro n j g0 g1 g2 g3;obtain ⟨n, rfl⟩ : ∃ m, n = m + 1 := ⟨n - 1, by omega⟩
    rw [Ab, ZH (n := i + 1) (by omega) (by omega)];exact Zl (fun h => by omega) (fun _ => ih n _ _ (by omega) (by omega) (by omega) (by omega))
   | succ q ihq =>
    intro n j g0 g1 g2 g3;obtain ⟨n, rfl⟩ : ∃ m, n = m + 1 := ⟨n - 1, by omega⟩
    rw [Ab, ZH (n := i + 1) (by omega) (by omega), ZH (n := j + 1) (by omega) (by omega)];refine Zl (fun hj => ?_) (fun _ => ih n _ _ (by omega) (by omega) (by omega) (by omega));have next : Ok (WQ n l a b c acc i (j + 1)) fun _ => True := ihq n (j + 1) (by omega) (by omega) (by omega) (by omega)
    exact ZB g0 (ZZ (by omega) fun y _ => Zl (fun _ => Zl (fun _ => Zl (fun _ => Zl (fun _ => Do (O4 _) (ih n _ _ (by omega) (by omega) (by omega) (by omega))) (fun _ => next)) (fun _ => next)) (fun _ => next)) (fun _ => next))
  exact inner l.length n 0 (by omega) (by omega) (by omega) (by omega)
theorem Zca (l : List Z3) (hl : l.length ≤ 4294967296) (a b c : Int) : Ok (Ut big l a b c) fun _ => True := by
 rw [Pj];exact ZvC l hl a b c 7 big 0 0 (by omega) (by omega) (by omega) (by unfold big; omega)
theorem Zmj (l : List Z3) (hl : l.length ≤ 4294967296) (a b c n : Int) : Ok (Iy big l a b c n) fun r => r.1.2.1 = 0 ∨ r.1.2.1 = b := by
 rw [ZnD];exact Zd (Zca l hl a b c) fun y _ => Zd (Zb7 y) fun _ _ => Zd (Ra n) fun _ _ => Zl (fun _ => Za (.inl rfl)) (fun _ => Za (.inr rfl))
theorem Zo7 (l : List Z3) (hl : l.length ≤ 4294967296) (q : Bw) (z : Int) : Ok (V5 big l q z) fun _ => True := by
 rw [ZhL];refine Zl (fun _ => Za trivial) fun _ => Zd (Zca l hl _ _ _) fun y _ => ?_;refine up0 (L := 7) (by decide) (f := fun n i => V6 n z y i q.1 q.2.1 q.2.2.1 q.2.2.2.1) (fun n i h0 h1 k => ?_) (fun n => ?_)
 ·rw [D5, ZH (n := i + 1) (by omega) (by omega)]
  refine Zl (fun _ => Do (O4 _) ?_) (fun h => by omega)
  repeat' first
   | exact k _ rfl
   | exact Za trivial
   | exact O4 _
   | refine Do (O4 _) ?_
   | refine YM (fun _ => ?_) (fun _ => ?_)
   | refine Zl (fun _ => ?_) (fun _ => ?_)
   | refine Yb (fun _ => ?_) (fun _ => ?_)
   | refine Ym (fun _ => ?_) (fun _ => ?_)
 ·rw [D5]
  refine Zl (fun h => by omega) (fun _ => ?_)
  repeat' first
   | exact Za trivial
   | refine Zl (fun _ => ?_) (fun _ => ?_)
theorem Zi4 {t : List Zv} (ht : Xl t) (n : Int) (v : Z3) : Ok (Fi big t n v) fun _ => True := by
 have hlo := ht.lo; have hhi := ht.hi;rw [ZhB];simp only [LZ, Option.bind_some, ZH (n := (↑(List.length t) : Int) - 1) (by omega) (by omega)];refine Ym (fun _ => Ym (fun _ => Ym (fun _ => Ym (fun h => ?_) (fun _ => Za trivial)) (fun _ => Za trivial)) (fun _ => Za trivial)) (fun _ => Za trivial);simp only [Bool.and_eq_true, decide_eq_true_eq] at h;exact ZB (by omega) (ZZ (by omega) fun y _ => Zl (fun _ => Za trivial) (fun _ => Za trivial))
theorem Zcb {t : List Zv} (ht : Xl t) (n : Int) (q : Bw) : Ok (XU big t n q) fun _ => True := by
 rw [Zc6];refine Ym (fun _ => Za trivial) (fun _ => Zd (Zi4 ht n _) fun y _ => Yb (fun _ => Za trivial) fun _ => Do (O4 _) ?_);simp only [LZ, Option.bind_some];exact Ym (fun _ => Zd (Zb7 _) fun _ _ => Zd (Ra n) fun _ _ => Za trivial) (fun _ => Za trivial)
theorem Zsx (p : Zn) (n : Int) (c : Bool) : Ok (IC big p n c) fun _ => True := by
 rw [ZkA];exact Zd (Vk _ _) fun _ _ => YM (fun _ => Za trivial) fun _ => Zl (fun _ => Za trivial) fun _ => Zd (Ra n) fun _ _ => Zl (fun _ => Za trivial) fun _ => Zl (fun _ => Za trivial) fun _ => Ym (fun _ => Za trivial) (fun _ => Za trivial)
theorem Zsy {t : List Zv} {b c : Int} (hb : 0 ≤ b ∧ b < t.length) (hc : 0 ≤ c ∧ c < t.length) : Ok (Qm big t b c) fun _ => True := by
 rw [F2];exact YM (fun _ => YM (fun _ => ZB hb.1 (ZZ (by omega) fun _ _ => ZB hc.1 (ZZ (by omega) fun _ _ => Za trivial))) (fun _ => Za trivial)) (fun _ => Za trivial)
theorem ZqF {t : List Zv} (ht : Xl t) (k : Int) : Ok (Ae big t k) fun _ => True := by
 rw [DX];refine Zd (Zsw ht k) fun y hy => Yb (fun _ => Za trivial) fun hc => ?_;obtain ⟨_, h1, h2, h3⟩ := hy hc;exact Zd (Zsy h1 h2) fun _ _ => Yb (fun _ => Za trivial) fun _ => ZB h2.1 (ZZ (by omega) fun _ _ => ZB h3.1 (ZZ (by omega) fun _ _ => YM (fun _ => Za trivial) (fun _ => Za trivial)))
theorem ZuL {t : List Zv} (ht : Xl t) (q : Bw) (k : Int) : Ok (KJ big t q k) fun _ => True := by
 have hlo := ht.lo; have hhi := ht.hi;rw [Pl];simp only [LZ, Option.bind_some, ZH (n := (↑(List.length t) : Int) - 1) (by omega) (by omega)];refine Yb (fun _ => Za trivial) fun h => ?_;simp only [Bool.and_eq_true, decide_eq_true_eq] at h;exact Zd (Zb9 ht k _) fun _ _ => Ym (fun _ => Za trivial) (fun _ => ZB h.1 (ZZ (by omega) fun _ _ => Za trivial))
theorem Zsz (b : Zv) (h : List.length b.2.2.1 ≤ 4294967296) : J7 big b = some b := by
 rw [Sw, if_pos (by unfold lim; omega)]
theorem ZwV {t : List Zv} (h1 : t.length ≤ 1000) (h2 : ∀ b ∈ t, List.length b.2.2.1 ≤ 4294967296) : G4 big t = some t := by
 rw [ZcX];have loop : ∀ (m n i : Nat), t.length ≤ i + m → m < n → i ≤ t.length → KA n t (t.take i) (i : Int) = some t := by
  intro m
  induction m with
  | zero =>
   intro n i g0 g1 g2;obtain ⟨n, rfl⟩ : ∃ m, n = m + 1 := ⟨n - 1, by omega⟩
   rw [Q9, decide_eq_false (by omega), cond_false, List.take_of_length_le (by omega)]
  | succ m ih =>
   intro n i g0 g1 g2;obtain ⟨n, rfl⟩ : ∃ m, n = m + 1 := ⟨n - 1, by omega⟩
   rcases Nat.lt_or_ge i t.length with hi | hi
   ·rw [Q9, decide_eq_true (by omega), cond_true, if_pos (by omega), Int.toNat_natCast, ZY hi, Option.bind_some, Zsz _ (h2 _ (List.getElem_mem hi)), Option.bind_some,
     if_pos (by rw [List.length_take]; simp only [List.length_singleton]; unfold lim; omega), Yk (by omega)]
    have e : (t.take i).append [t[i]] = t.take (i + 1) := by
     rw [List.append_eq, List.take_succ_eq_append_getElem hi]
    rw [e];exact ih n (i + 1) (by omega) (by omega) (by omega)
   ·rw [Q9, decide_eq_false (by omega), cond_false, List.take_of_length_le (by omega)]
 have := loop t.length big 0 (by omega) (by unfold big; omega) (by omega);rw [List.take_zero] at this;exact this
theorem ZwW (a b : Zv) (h : List.length a.2.2.1 ≤ 4294967296) : Ok (Cg big a b) fun _ => True := by
 rw [Ph];refine YM (fun _ => Za trivial) fun _ => YM (fun _ => Za trivial) fun _ => Yb (fun _ => Za trivial) fun _ => YM (fun _ => Za trivial) fun he => ?_;refine up0 (L := List.length a.2.2.1) h (f := fun n i => Uq n i a.1 a.2.1 a.2.2.1 a.2.2.2.1.1 a.2.2.2.1.2.1 a.2.2.2.1.2.2.1 a.2.2.2.1.2.2.2.1 b.1 b.2.1 b.2.2.1 b.2.2.2.1.1 b.2.2.2.1.2.1 b.2.2.2.1.2.2.1 b.2.2.2.1.2.2.2.1) (fun n i h0 h1 k => ?_) (fun n => ?_)
 ·rw [J8, ZH (n := i + 1) (by omega) (by omega)]
  exact Zl (fun _ => ZB h0 (ZZ (by omega) fun _ _ => ZB h0 (ZZ (by omega) fun _ _ => Yb (fun _ => Za trivial) fun _ => k _ rfl))) (fun h => by omega)
 ·rw [J8]
  exact Zl (fun h => by omega) (fun _ => Za trivial)
theorem ZsA {t : List Zv} (ht : Xl t) (b : Zv) : Ok (G5 big t b) fun r => -1 ≤ r ∧ r < t.length := by
 have hlo := ht.lo; have hhi := ht.hi;rw [Zc0];refine up0 (L := t.length) (by omega) (f := fun n i => KE n t i b.1 b.2.1 b.2.2.1 b.2.2.2.1.1 b.2.2.2.1.2.1 b.2.2.2.1.2.2.1 b.2.2.2.1.2.2.2.1) (fun n i h0 h1 k => ?_) (fun n => ?_)
 ·rw [CZ, ZH (n := i + 1) (by omega) (by omega)]
  exact Zl (fun _ => ZB h0 (ZZ (by omega) fun y hy => Zd (ZwW y _ (by have := (ht.cmds y hy).len; omega)) fun _ _ => Ym (fun _ => Za ⟨by omega, h1⟩) (fun _ => k _ rfl))) (fun h => by omega)
 ·rw [CZ]
  exact Zl (fun h => by omega) (fun _ => Za ⟨by omega, by omega⟩)
theorem ZsB (c : Xd) (h : ByteArray.size c.2.1 ≤ 4294967296) : Ok (DQ big c) fun _ => True := by
 rw [NB];simp only [LZ, Option.bind_some];exact Ym (fun _ => Zd (Zn3 _ h) fun _ _ => Ym (fun _ => Za trivial) (fun _ => Za trivial)) (fun _ => Za trivial)
theorem ZsC {t : List Zv} (ht : Xl t) (b : Zv) (hb : ∀ c ∈ b.2.2.1, ByteArray.size c.2.1 ≤ 1000) : Ok (G6 big t b) fun r => r = true → List.length b.2.2.1 ≤ 4 ∧ (0 ≤ b.2.1 ∧ b.2.1 ≤ 900) ∧ 0 ≤ b.1 ∧ b.1 < t.length ∧ b.2.2.2.1.2.2.1 = b.1 := by
 have hlo := ht.lo; have hhi := ht.hi;rw [Zc3];simp only [LZ, Option.bind_some, ZH (n := (↑(List.length t) : Int) - 1) (by omega) (by omega)];refine Yb (fun _ => Za fun e => by cases e) fun h => ?_;simp only [Bool.and_eq_true, decide_eq_true_eq] at h;refine ZB h.1 (ZZ (by omega) fun y hy => Zl (fun _ => Za fun e => by cases e) fun g1 => Zl (fun _ => Za fun e => by cases e) fun g2 => Zl (fun _ => Za fun e => by cases e) fun g3 => ?_);have hv := ht.view y hy;have fin : b.2.2.2.1.2.2.1 = b.1 → List.length b.2.2.1 ≤ 4 ∧ (0 ≤ b.2.1 ∧ b.2.1 ≤ 900) ∧ 0 ≤ b.1 ∧ b.1 < t.length ∧ b.2.2.2.1.2.2.1 = b.1 := fun e => ⟨by omega, by omega, h.1, by omega, e⟩
 refine up0 (L := List.length b.2.2.1) (by omega) (f := fun n i => KG n t i b.1 b.2.1 b.2.2.1 b.2.2.2.1.1 b.2.2.2.1.2.1 b.2.2.2.1.2.2.1 b.2.2.2.1.2.2.2.1) (fun n i h0 h1 k => ?_) (fun n => ?_)
 ·rw [C0, ZH (n := i + 1) (by omega) (by omega)]
  exact Zl (fun _ => ZB h0 (ZZ (by omega) fun c hc => Zd (ZsB c (by have := hb c hc; omega)) fun _ _ => Yb (fun _ => Za fun e => by cases e) fun _ => k _ rfl)) (fun h => by omega)
 ·rw [C0]
  exact Zl (fun h => by omega) (fun _ => Zl (fun e => ZB h.1 (ZZ (by omega) fun _ _ => Za fun _ => fin e)) (fun _ => Za fun e => by cases e))
theorem Zgr {t : List Zv} (ht : Xl t) (b : Zv) (hb : ∀ c ∈ b.2.2.1, ByteArray.size c.2.1 ≤ 1000) (hl : List.length b.2.2.1 ≤ 4294967296) : Ok (We big t b) fun r => Xl r.1 ∧ t.length ≤ List.length r.1 ∧ r.2.1 < List.length r.1 ∧ -1 ≤ r.2.1 ∧ ∀ V : Int, (∀ x ∈ t, x.2.1 ≤ V) → b.2.1 ≤ V → ∀ x ∈ r.1, x.2.1 ≤ V := by
 have hlo := ht.lo; have hhi := ht.hi;rw [SI, ZwV (by omega) (fun b hb => by have := (ht.cmds b hb).len; omega)];simp only [Option.bind_some];refine Zd (ZsA ht b) fun k hk => Zl (fun _ => Za ⟨ht, Nat.le_refl _, hk.2, hk.1, fun V h _ => h⟩) fun _ => Zd (ZsC ht b hb) fun y hy => Yb (fun _ => Za ⟨ht, Nat.le_refl _, by show (-1 : Int) < _; omega, by show (-1 : Int) ≤ -1; omega, fun V h _ => h⟩) fun hok => Zl (fun _ => Za ⟨ht, Nat.le_refl _, by show (-1 : Int) < _; omega, by show (-1 : Int) ≤ -1; omega, fun V h _ => h⟩) fun hm => ?_;obtain ⟨g1, g2, g3, g4, g5⟩ := hy hok;rw [Zsz b hl];simp only [Option.bind_some];refine ZB (by simp only [List.length_singleton]; unfold lim; omega) (Za ?_);have hlen : (List.append t [b]).length = t.length + 1 := by rw [List.append_eq, List.length_append]; rfl
 refine ⟨⟨by rw [hlen]; omega, by rw [hlen]; omega, fun x hx => ?_, fun x hx => ?_, fun x hx => ?_, fun k x hx hk => ?_⟩, by rw [hlen]; omega, by show (t.length : Int) < _; rw [hlen]; omega, by show (-1 : Int) ≤ t.length; omega, fun V h hb x hx => ?_⟩
 ·rcases List.mem_append.1 (show x ∈ t ++ [b] from hx) with hx | hx
  ·exact ht.cmds x hx
  ·simp only [List.mem_singleton] at hx; subst hx; exact ⟨g1, hb⟩
 ·rcases List.mem_append.1 (show x ∈ t ++ [b] from hx) with hx | hx
  ·exact ht.view x hx
  ·simp only [List.mem_singleton] at hx; subst hx; exact g2
 ·have : nth t 0 = some x := by
   rw [ZY (show 0 < t.length by omega)];rw [ZY (show 0 < (List.append t [b]).length by omega)] at hx;rw [← hx];exact congrArg some (List.getElem_append_left (bs := [b]) (show 0 < t.length by omega)).symm
  exact ht.first x this
 ·by_cases hkt : k < t.length
  ·have : nth t k = some x := by
    rw [ZY hkt];rw [ZY (show k < (List.append t [b]).length by omega)] at hx;rw [← hx];exact congrArg some (List.getElem_append_left (bs := [b]) hkt).symm
   exact ht.just k x this hk
  ·have hk1 : k < (List.append t [b]).length := CX hx
   have hk2 : k = t.length := by omega
   subst hk2;rw [ZY hk1] at hx;have e : (List.append t [b])[t.length] = b := List.getElem_concat_length rfl hk1;rw [e] at hx;cases hx;exact ⟨g3, g4, g5⟩
 ·rcases List.mem_append.1 (show x ∈ t ++ [b] from hx) with hx | hx
  ·exact h x hx
  ·simp only [List.mem_singleton] at hx; subst hx; exact hb
structure Xg (l : List ZL) : Prop where
 len : l.length ≤ 25
 key : ∀ c ∈ l, ByteArray.size c.1 ≤ 1000
structure Zo8 (l : List Yd) : Prop where
 len : l.length ≤ 240
 key : ∀ c ∈ l, ByteArray.size c.1 ≤ 1000
structure YO (B : Nat) (V : Int) (p : Zn) : Prop where
 row : List.length p.2.2.2.2.2.1 ≤ B
 cells : Xg p.2.2.2.2.2.2.1
 early : List.length p.2.2.2.2.2.2.2.1 ≤ 60
 undos : Zo8 p.2.2.2.2.2.2.2.2.1
 votes : List.length p.2.2.2.2.2.2.2.2.2.1 ≤ B
 news : List.length p.2.2.2.2.2.2.2.2.2.2.1 ≤ B
 view : 1 ≤ p.2.1 ∧ p.2.1 ≤ V
 top : V ≤ 900
 hq : 0 ≤ p.2.2.1.2.1 ∧ 0 ≤ p.2.2.2.1.2.1
theorem YO.mono {B B' : Nat} {V : Int} {p : Zn} (h : YO B V p) (hb : B ≤ B') : YO B' V p := ⟨Nat.le_trans h.row hb, h.cells, h.early, h.undos, Nat.le_trans h.votes hb, Nat.le_trans h.news hb, h.view, h.top, h.hq⟩
theorem YO.up {B : Nat} {V V' : Int} {p : Zn} (h : YO B V p) (hv : V ≤ V') (ht : V' ≤ 900) : YO B V' p := ⟨h.row, h.cells, h.early, h.undos, h.votes, h.news, ⟨h.view.1, Int.le_trans h.view.2 hv⟩, ht, h.hq⟩
def idv (p : Zn) : Int × Int := (p.1, p.2.1)
theorem Zo9 {p q : Zn} (h : idv p = idv q) : p.1 = q.1 := by
 have := congrArg Prod.fst h;exact this
theorem EW {B : Nat} {V : Int} (hB : B ≤ 1000000000) {p : Zn} (h : YO B V p) : YW big p = some p := by
 obtain ⟨h1, h2, h3, h4, h5, h6, _⟩ := h;have h2 := h2.len;have h4 := h4.len;rw [FY, if_pos (by unfold lim; omega), if_pos (by unfold lim; omega), if_pos (by unfold lim; omega), if_pos (by unfold lim; omega), if_pos (by unfold lim; omega), if_pos (by unfold lim; omega)]
theorem Q5 {B : Nat} {V : Int} (hB : B ≤ 1000000000) {p : Zn} (h : YO B V p) (v : Int) (hv : v ≤ V) : Ok (Wo big p v) fun r => YO B V r ∧ r.1 = p.1 := by
 rw [Zc8, EW hB h];simp only [Option.bind_some];refine Zl (fun h1 => Zl (fun h2 => Za ⟨⟨h.row, h.cells, h.early, h.undos, Nat.zero_le _, Nat.zero_le _, ?_, h.top, h.hq⟩, rfl⟩) (fun _ => Za ⟨h, rfl⟩)) (fun _ => Za ⟨h, rfl⟩);have := h.view;exact ⟨by show 1 ≤ v; omega, hv⟩
theorem Zmk {l : List ZL} (h : Xg l) : Ok (JC big l) fun b => b = true → l.length ≤ 12 := by
 have hl := h.len;rw [Gb];refine up0 (L := l.length) (by omega) (f := fun n i => Vc n l i) (fun n i h0 h1 k => ?_) (fun n => ?_)
 ·rw [VC, ZH (n := i + 1) (by omega) (by omega), ZH (n := i - 1) (by omega) (by omega)]
  simp only [LZ, Option.bind_some];refine Zl (fun _ => ZB h0 (ZZ (by omega) fun y hy => Zd (Zn3 _ (by have := h.key y hy; omega)) fun _ _ => Yb (fun _ => Za fun e => by cases e) fun _ => ZB h0 (ZZ (by omega) fun _ _ => Yb (fun _ => Za fun e => by cases e) fun _ => Zl (fun hp => ?_) (fun _ => k _ rfl)))) (fun h => by omega);exact ZB (by omega) (ZZ (by omega) fun _ _ => ZB h0 (ZZ (by omega) fun _ _ => Yb (fun _ => Za fun e => by cases e) fun _ => k _ rfl))
 ·rw [VC]
  exact Zl (fun h => by omega) (fun _ => Za fun e => by have := of_decide_eq_true e; omega)
theorem L3 {l : List ZL} {y : ZL} (h : ∀ c ∈ l, ByteArray.size c.1 ≤ 1000) (hy : ByteArray.size y.1 ≤ 1000) : ∀ c ∈ List.append l [y], ByteArray.size c.1 ≤ 1000 := fun c hc => by
 rcases List.mem_append.1 (show c ∈ l ++ [y] from hc) with hc | hc
 ·exact h c hc
 ·simp only [List.mem_singleton] at hc; subst hc; exact hy
theorem Xq {α : Type} {l : List α} {y : α} : (List.append l [y]).length = l.length + 1 := by rw [List.append_eq, List.length_append]; rfl
theorem ZvD {l : List ZL} (hl : l.length ≤ 12) (hk : ∀ c ∈ l, ByteArray.size c.1 ≤ 1000) (x : ZL) (hx : ByteArray.size x.1 ≤ 1000) : Ok (Xe big l x) Xg := by
 rw [II];have second : ∀ (m n : Nat) (i : Int) (a : List ZL), 0 ≤ i → i ≤ l.length → (l.length : Int) ≤ i + m → m < n → (a.length : Int) ≤ 13 + i → (∀ c ∈ a, ByteArray.size c.1 ≤ 1000) → Ok (V8 n l a i x.1 x.2.1) Xg := by
  intro m
  induction m with
  | zero =>
   intro n i a h0 h1 h2 h3 h4 h5;obtain ⟨n, rfl⟩ : ∃ m, n = m + 1 := ⟨n - 1, by omega⟩
   rw [Uy];exact Zl (fun h => by omega) (fun _ => Za ⟨by omega, h5⟩)
  | succ m ih =>
   intro n i a h0 h1 h2 h3 h4 h5;obtain ⟨n, rfl⟩ : ∃ m, n = m + 1 := ⟨n - 1, by omega⟩
   rw [Uy, ZH (n := i + 1) (by omega) (by omega)];refine Zl (fun _ => ZB h0 (ZZ (by omega) fun y hy => Yb (fun _ => ZB h0 (ZZ (by omega) fun y hy => ZB (by simp only [List.length_singleton]; unfold lim; omega) ?_)) (fun _ => ?_))) (fun _ => Za ⟨by omega, h5⟩)
   ·exact ih n (i + 1) _ (by omega) (by omega) (by omega) (by omega) (by rw [Xq]; omega) (L3 h5 (hk y hy))
   ·exact ih n (i + 1) a (by omega) (by omega) (by omega) (by omega) (by omega) h5
 have first : ∀ (m n : Nat) (i : Int) (a : List ZL), 0 ≤ i → i ≤ l.length → (l.length : Int) ≤ i + m → m + 20 < n → (a.length : Int) ≤ i → (∀ c ∈ a, ByteArray.size c.1 ≤ 1000) → Ok (V7 n l a i x.1 x.2.1) Xg := by
  intro m
  induction m with
  | zero =>
   intro n i a h0 h1 h2 h3 h4 h5;obtain ⟨n, rfl⟩ : ∃ m, n = m + 1 := ⟨n - 1, by omega⟩
   rw [Ux];exact Zl (fun h => by omega) (fun _ => ZB (by simp only [List.length_singleton]; unfold lim; omega) (second l.length n 0 _ (by omega) (by omega) (by omega) (by omega) (by rw [Xq]; omega) (L3 h5 hx)))
  | succ m ih =>
   intro n i a h0 h1 h2 h3 h4 h5;obtain ⟨n, rfl⟩ : ∃ m, n = m + 1 := ⟨n - 1, by omega⟩
   rw [Ux, ZH (n := i + 1) (by omega) (by omega)];refine Zl (fun _ => ZB h0 (ZZ (by omega) fun y hy => Ym (fun _ => ZB h0 (ZZ (by omega) fun y hy => ZB (by simp only [List.length_singleton]; unfold lim; omega) ?_)) (fun _ => ?_))) (fun _ => ZB (by simp only [List.length_singleton]; unfold lim; omega) (second l.length n 0 _ (by omega) (by omega) (by omega) (by omega) (by rw [Xq]; omega) (L3 h5 hx)))
   ·exact ih n (i + 1) _ (by omega) (by omega) (by omega) (by omega) (by rw [Xq]; omega) (L3 h5 (hk y hy))
   ·exact ih n (i + 1) a (by omega) (by omega) (by omega) (by omega) (by omega) h5
 exact first l.length big 0 [] (by omega) (by omega) (by omega) (by unfold big; omega) (by simp) (by simp)
theorem Zpa {l : List ZL} (h : l.length ≤ 4294967296) (s : ByteArray) : Ok (BB big l s) fun r => r < l.length := by
 rw [IK];refine up0 (L := l.length) h (f := fun n i => QY n l s i) (fun n i h0 h1 k => ?_) (fun n => ?_)
 ·rw [Uz, ZH (n := i + 1) (by omega) (by omega)]
  exact Zl (fun _ => ZB h0 (ZZ (by omega) fun _ _ => Zl (fun _ => Za h1) (fun _ => k _ rfl))) (fun h => by omega)
 ·rw [Uz]
  exact Zl (fun h => by omega) (fun _ => Za (by omega))
set_option maxHeartbeats 4000000 in
theorem ZuM {l : List ZL} (h : Xg l) (c : Xd) (hc : ByteArray.size c.2.1 ≤ 1000) : Ok (IL big l c) fun r => Xg r.1 := by
 have hl := h.len;rw [TB];simp only [LZ, Option.bind_some];refine ZB (by unfold lim; omega) (Zd (Zmk h) fun b hb => Yb (fun _ => Za h) fun h1 => Zd (ZsB c (by omega)) fun _ _ => Yb (fun _ => Za h) fun _ => Zd (Zpa (by omega) _) fun k hk => ?_);have put : ∀ n : Int, Ok ((Xe big l (c.2.1, n, ())).bind fun y => some (y, (0 : Int), PUnit.unit)) fun r => Xg r.1 := fun n => Zd (ZvD (hb h1) h.key _ hc) fun y hy => Za hy;have put2 : Ok ((Xe big l c.2).bind fun y => some (y, (0 : Int), PUnit.unit)) fun r => Xg r.1 := Zd (ZvD (hb h1) h.key _ hc) fun y hy => Za hy;have tail : ∀ (b2 : Bool) (n : Int) (K : Option (List ZL × Int × Unit)), Ok K (fun r => Xg r.1) → Ok (bif !b2 then some (l, (2 : Int), PUnit.unit) else bif decide (k < 0) then bif decide ((12 : Int) ≤ (↑(List.length l) : Int)) then some (l, (2 : Int), PUnit.unit) else K else K) fun r => Xg r.1 := fun b2 n K hK =>
  Yb (fun _ => Za h) fun _ => Zl (fun _ => Zl (fun _ => Za h) fun _ => hK) fun _ => hK
 refine YM (fun _ => Zl (fun _ => Za h) fun hk0 => ZB (by omega) (ZZ (by omega) fun y _ => Zl (fun _ => ZB (by omega) (ZZ (by omega) fun y2 _ => tail _ 0 _ (put _))) fun _ => tail _ 0 _ (put _))) fun _ => tail _ 0 _ put2
theorem Zml {l : List ZL} (h : Xg l) {cs : List Xd} (hc : ∀ c ∈ cs, ByteArray.size c.2.1 ≤ 1000) (hn : cs.length ≤ 1000) : Ok (JD big l cs) fun r => Xg r.1 := by
 have hl := h.len;rw [Gd];refine ZB (by unfold lim; omega) ?_;have loop : ∀ (m n : Nat) (i : Int) (l : List ZL) (a : List Int), 0 ≤ i → i ≤ cs.length → (cs.length : Int) ≤ i + m → m < n → Xg l → (a.length : Int) ≤ i → Ok (UA n cs l a i) fun r => Xg r.1 := by
  intro m
  induction m with
  | zero =>
   intro n i l a h0 h1 h2 h3 h4 h5;obtain ⟨n, rfl⟩ : ∃ m, n = m + 1 := ⟨n - 1, by omega⟩
   rw [VD];exact Zl (fun h => by omega) (fun _ => Za h4)
  | succ m ih =>
   intro n i l a h0 h1 h2 h3 h4 h5;obtain ⟨n, rfl⟩ : ∃ m, n = m + 1 := ⟨n - 1, by omega⟩
   rw [VD, ZH (n := i + 1) (by omega) (by omega)];exact Zl (fun _ => ZB h0 (ZZ (by omega) fun c hm => Zd (ZuM h4 c (hc c hm)) fun y hy => ZB (by unfold lim; omega) (ih n (i + 1) _ _ (by omega) (by omega) (by omega) (by omega) hy (by rw [Xq]; omega)))) (fun _ => Za h4)
 exact loop cs.length big 0 l [] (by omega) (by omega) (by omega) (by unfold big; omega) h (by simp)
theorem Zua {l : List ZL} (h : Xg l) (s : ByteArray) : Ok (Fn big l s) fun u => u.1 = s := by
 have hl := h.len;rw [IM];exact Zd (Zpa (by omega) s) fun k hk => Zl (fun _ => Za rfl) (fun _ => ZB (by omega) (ZZ (by omega) fun _ _ => Za rfl))
theorem Zub {l : List ZL} (h : Xg l) (u : Yd) (hu : ByteArray.size u.1 ≤ 1000) : Ok (Fp big l u) Xg := by
 have hl := h.len;rw [IN];simp only [LZ, Option.bind_some];have same : Ok (if 0 + List.length l ≤ lim then some l else none) Xg := ZB (by unfold lim; omega) (Za h);refine Zd (Zmk h) fun b hb => Yb (fun _ => same) fun h1 => Zd (Zn3 _ (by omega)) fun _ _ => Yb (fun _ => same) fun _ => Yb (fun _ => same) fun _ => Ym (fun _ => Zd (ZvD (hb h1) h.key _ hu) fun y hy => Za hy) fun _ => ?_;have loop : ∀ (m n : Nat) (i : Int) (a : List ZL), 0 ≤ i → i ≤ l.length → (l.length : Int) ≤ i + m → m < n → (a.length : Int) ≤ i → (∀ c ∈ a, ByteArray.size c.1 ≤ 1000) → Ok (V9 n l a i u.1 u.2.1 u.2.2.1) Xg := by
  intro m
  induction m with
  | zero =>
   intro n i a h0 h1 h2 h3 h4 h5;obtain ⟨n, rfl⟩ : ∃ m, n = m + 1 := ⟨n - 1, by omega⟩
   rw [UB];exact Zl (fun h => by omega) (fun _ => Za ⟨by omega, h5⟩)
  | succ m ih =>
   intro n i a h0 h1 h2 h3 h4 h5;obtain ⟨n, rfl⟩ : ∃ m, n = m + 1 := ⟨n - 1, by omega⟩
   rw [UB, ZH (n := i + 1) (by omega) (by omega)];refine Zl (fun _ => ZB h0 (ZZ (by omega) fun y hy => YM (fun _ => ZB h0 (ZZ (by omega) fun y hy => ZB (by simp only [List.length_singleton]; unfold lim; omega) ?_)) (fun _ => ?_))) (fun _ => Za ⟨by omega, h5⟩)
   ·exact ih n (i + 1) _ (by omega) (by omega) (by omega) (by omega) (by rw [Xq]; omega) (L3 h5 (h.key y hy))
   ·exact ih n (i + 1) a (by omega) (by omega) (by omega) (by omega) (by omega) h5
 exact loop l.length big 0 [] (by omega) (by omega) (by omega) (by unfold big; omega) (by simp) (by simp)
theorem Zn4 {l : List ZL} (h : Xg l) {us : List Yd} (hu : Zo8 us) : Ok (KO big l us) Xg := by
 have hl := h.len; have hun := hu.len;rw [C3, ZH (n := (↑(List.length us) : Int) - 1) (by omega) (by omega)];refine ZB (by unfold lim; omega) ?_;have loop : ∀ (m n : Nat) (i : Int) (l : List ZL), i < us.length → i + 1 ≤ m → -1 ≤ i → m < n → Xg l → Ok (WS n us l i) Xg := by
  intro m
  induction m with
  | zero =>
   intro n i l h0 h1 h2 h3 h4;obtain ⟨n, rfl⟩ : ∃ m, n = m + 1 := ⟨n - 1, by omega⟩
   rw [WE];exact Zl (fun h => by omega) (fun _ => Za h4)
  | succ m ih =>
   intro n i l h0 h1 h2 h3 h4;obtain ⟨n, rfl⟩ : ∃ m, n = m + 1 := ⟨n - 1, by omega⟩
   rw [WE, ZH (n := i - 1) (by omega) (by omega)];exact Zl (fun hc => ZB hc (ZZ (by omega) fun u hm => Zd (Zub h4 u (hu.key u hm)) fun y hy => ih n (i - 1) y (by omega) (by omega) (by omega) (by omega) hy)) (fun _ => Za h4)
 exact loop us.length big _ l (by omega) (by omega) (by omega) (by unfold big; omega) h
theorem ZqG {l : List ZL} (h : Xg l) {cs : List Xd} (hc : ZwU cs) : Ok (Am big l cs) fun r => Xg r.1 ∧ List.length r.2.1 ≤ 4 ∧ ∀ u ∈ r.2.1, ByteArray.size u.1 ≤ 1000 := by
 have hl := h.len; have hcl := hc.len;rw [D7];refine ZB (by unfold lim; omega) ?_;have loop : ∀ (m n : Nat) (i : Int) (l : List ZL) (a : List Yd), 0 ≤ i → i ≤ cs.length → (cs.length : Int) ≤ i + m → m < n → Xg l → (a.length : Int) ≤ i → (∀ u ∈ a, ByteArray.size u.1 ≤ 1000) →
   Ok (Vu n cs l a i) fun r => Xg r.1 ∧ List.length r.2.1 ≤ 4 ∧ ∀ u ∈ r.2.1, ByteArray.size u.1 ≤ 1000 := by
  intro m
  induction m with
  | zero =>
   intro n i l a h0 h1 h2 h3 h4 h5 h6;obtain ⟨n, rfl⟩ : ∃ m, n = m + 1 := ⟨n - 1, by omega⟩
   rw [Vd];exact Zl (fun h => by omega) (fun _ => Za ⟨h4, by show a.length ≤ 4; omega, h6⟩)
  | succ m ih =>
   intro n i l a h0 h1 h2 h3 h4 h5 h6;obtain ⟨n, rfl⟩ : ∃ m, n = m + 1 := ⟨n - 1, by omega⟩
   rw [Vd, ZH (n := i + 1) (by omega) (by omega)];refine Zl (fun _ => ZB h0 (ZZ (by omega) fun c hm => Zd (Zua h4 c.2.1) fun u hu => ZB (by simp only [List.length_singleton]; unfold lim; omega) (ZB h0 (ZZ (by omega) fun c2 hm2 => Zd (ZuM h4 c2 (hc.key c2 hm2)) fun y hy => ?_)))) (fun _ => Za ⟨h4, by show a.length ≤ 4; omega, h6⟩);refine ih n (i + 1) _ _ (by omega) (by omega) (by omega) (by omega) hy (by rw [Xq]; omega) fun v hv => ?_;rcases List.mem_append.1 (show v ∈ a ++ [u] from hv) with hv | hv
   ·exact h6 v hv
   ·simp only [List.mem_singleton] at hv; subst hv; rw [hu]; exact hc.key c hm
 exact loop cs.length big 0 l [] (by omega) (by omega) (by omega) (by unfold big; omega) h (by simp) (by simp)
theorem ZuN {B : Nat} {V : Int} {p : Zn} (h : YO B V p) : Ok (JE big p) fun r => YO B V r.2.1 ∧ idv r.2.1 = idv p ∧ r.2.1.2.2.2.2.2.2.2.1 = [] ∧ r.2.1.2.2.2.2.2.2.2.2.1 = [] ∧ r.2.1.2.2.2.2.2.1 = p.2.2.2.2.2.1 := by
 rw [Gg];exact Zd (Zn4 h.cells h.undos) fun y hy => Za ⟨⟨h.row, hy, Nat.zero_le _, ⟨Nat.zero_le _, by simp⟩, h.votes, h.news, h.view, h.top, h.hq⟩, rfl, rfl, rfl, rfl⟩
theorem ZsD {B : Nat} {V : Int} (hB : B ≤ 1000000000) {p : Zn} (h : YO B V p) : Ok (Qn big p) fun _ => True := by
 have := h.row;rw [F9, ZH (n := (↑(List.length p.2.2.2.2.2.1) : Int) - 1) (by omega) (by omega)];exact Zl (fun _ => Za trivial) (fun _ => ZB (by omega) (ZZ (by omega) fun _ _ => Za trivial))
theorem ZqH {t : List Zv} (ht : Xl t) {row : List Int} (hr : row.length ≤ 1000000000) : Ok (D9 big t row) Xg := by
 have hlo := ht.lo; have hhi := ht.hi;rw [TS];have loop : ∀ (m n : Nat) (i : Int) (l : List ZL), 0 ≤ i → i ≤ row.length → (row.length : Int) ≤ i + m → m < n → Xg l → Ok (Vw n t row l i) Xg := by
  intro m
  induction m with
  | zero =>
   intro n i l h0 h1 h2 h3 h4;obtain ⟨n, rfl⟩ : ∃ m, n = m + 1 := ⟨n - 1, by omega⟩
   rw [BE];exact Zl (fun h => by omega) (fun _ => Za h4)
  | succ m ih =>
   intro n i l h0 h1 h2 h3 h4;obtain ⟨n, rfl⟩ : ∃ m, n = m + 1 := ⟨n - 1, by omega⟩
   rw [BE, ZH (n := i + 1) (by omega) (by omega), ZH (n := (↑(List.length t) : Int) - 1) (by omega) (by omega)];refine Zl (fun hi => ?_) (fun _ => Za h4);have hlt : i.toNat < row.length := by omega
   rw [ZY hlt];simp only [LZ, Option.bind_some];refine ZB h0 (Ym (fun hc => ?_) (fun _ => ih n (i + 1) l (by omega) (by omega) (by omega) (by omega) h4));simp only [Bool.and_eq_true, decide_eq_true_eq] at hc;exact ZB h0 (ZB hc.1 (ZZ (by omega) fun b hb => Zd (Zml h4 (ht.cmds b hb).key (by have := (ht.cmds b hb).len; omega)) fun y hy => ih n (i + 1) _ (by omega) (by omega) (by omega) (by omega) hy))
 exact loop row.length big 0 [] (by omega) (by omega) (by omega) (by unfold big; omega) ⟨by simp, by simp⟩
theorem ZvE {t : List Zv} (ht : Xl t) {more : List Int} (hm : more.length ≤ 60) (hx : ∀ x ∈ more, 0 ≤ x ∧ x < t.length) (z0 : Int) (z1 : Int) (z2 : Int) (z3 : Int) (z4 : Int) (z5 : Int) (z6 : Int) (z7 : Int) (z8 : Int) (z9 : Int) (z10 : Int) (z11 : Int) (z12 : Int) (z13 : Int) (z14 : List Int) (z15 : List ZL) (z16 : List Int) (z17 : List Yd) (z18 : List Z3) (z19 : List Zy) (z20 : Int) (c0 : Int) (c1 : Int) (c2 : Int) (c3 : Int) (c4 : Int) (c5 : Int) (c6 : Int) (c7 : Int) (c8 : Int) (c9 : Int) (c10 : Int) (c11 : Int) (c12 : Int) (c13 : Int) (c16 : List Int) (c17 : List Yd) (c18 : List Z3) (c19 : List Zy) (c20 : Int) :
  ∀ (m n : Nat) (i : Int) (row : List Int) (cells : List ZL), 0 ≤ i → i ≤ more.length → (more.length : Int) ≤ i + m → m < n → Xg cells → (row.length : Int) ≤ 1100000000 + i →
   Ok (UD n t i z0 z1 z2 z3 z4 z5 z6 z7 z8 z9 z10 z11 z12 z13 z14 z15 z16 z17 z18 z19 z20 c0 c1 c2 c3 c4 c5 c6 c7 c8 c9 c10 c11 c12 c13 row cells c16 c17 c18 c19 c20 more) fun r => ∃ (row' : List Int) (cells' : List ZL), r = (c0, c1, (c2, c3, c4, c5, ()), (c6, c7, c8, c9, ()), (c10, c11, c12, c13, ()), row', cells', c16, c17, c18, c19, c20, ()) ∧ (row'.length : Int) ≤ row.length + more.length - i ∧ Xg cells' := by
 intro m
 induction m with
 | zero =>
  intro n i row cells h0 h1 h2 h3 h4 h5;obtain ⟨n, rfl⟩ : ∃ m, n = m + 1 := ⟨n - 1, by omega⟩
  rw [VE];exact Zl (fun h => by omega) (fun _ => Za ⟨row, cells, rfl, by omega, h4⟩)
 | succ m ih =>
  intro n i row cells h0 h1 h2 h3 h4 h5;obtain ⟨n, rfl⟩ : ∃ m, n = m + 1 := ⟨n - 1, by omega⟩
  rw [VE, ZH (n := i + 1) (by omega) (by omega)];refine Zl (fun hi => ZB h0 (ZB hi (ZZ (by omega) fun y hy => ZB (by simp only [List.length_singleton]; unfold lim; omega) (ZB h0 (ZB hi (ZZ (by omega) fun k hk => ZB (hx k hk).1 (ZZ (by have := hx k hk; omega) fun b hb => Zd (Zml h4 (ht.cmds b hb).key (by have := (ht.cmds b hb).len; omega)) fun q hq => ?_))))))) (fun _ => Za ⟨row, cells, rfl, by omega, h4⟩);refine VT (ih n (i + 1) _ _ (by omega) (by omega) (by omega) (by omega) hq (by rw [Xq]; omega)) fun r hr => ?_;obtain ⟨row', cells', e, g1, g2⟩ := hr;exact ⟨row', cells', e, by rw [Xq] at g1; omega, g2⟩
theorem Zmm {B : Nat} {V : Int} (hB : B ≤ 900000000) {t : List Zv} (ht : Xl t) {p : Zn} (h : YO B V p) (k : Int) : Ok (JF big t p k) fun r => YO (B + 60) V r ∧ idv r = idv p := by
 rw [Gi, EW (by omega) h];simp only [Option.bind_some];refine Zd (ZsD (by omega) h) fun l _ => Zd (Zb9 ht k l) fun e _ => Yb (fun _ => Za ⟨h.mono (by omega), rfl⟩) fun _ => Zd (ZuN h) fun y hy => Zd (ZsD (by omega) h) fun l2 _ => Zd (Zgq ht k l2) fun more hmore => ?_;obtain ⟨hp, hid, _, _, _⟩ := hy;have hr := hp.row;refine VT (ZvE ht hmore.1 hmore.2 _ _ _ _ _ _ _ _ _ _ _ _ _ _ _ _ _ _ _ _ _ _ _ _ _ _ _ _ _ _ _ _ _ _ _ _ _ _ _ _ more.length big 0 _ _ (by omega) (by omega) (by omega) (by have := hmore.1; unfold big; omega) hp.cells (by omega)) fun r hr2 => ?_;obtain ⟨row', cells', e, g1, g2⟩ := hr2;subst e;have := hmore.1;exact ⟨⟨by show row'.length ≤ B + 60; omega, g2, hp.early, hp.undos, Nat.le_trans hp.votes (by omega), Nat.le_trans hp.news (by omega), hp.view, hp.top, hp.hq⟩, hid⟩
theorem ZvF {t : List Zv} (ht : Xl t) {more : List Int} (hm : more.length ≤ 60) (hx : ∀ x ∈ more, 0 ≤ x ∧ x < t.length) (z0 : Int) (z1 : Int) (z2 : Int) (z3 : Int) (z4 : Int) (z5 : Int) (z6 : Int) (z7 : Int) (z8 : Int) (z9 : Int) (z10 : Int) (z11 : Int) (z12 : Int) (z13 : Int) (z14 : List Int) (z15 : List ZL) (z16 : List Int) (z17 : List Yd) (z18 : List Z3) (z19 : List Zy) (z20 : Int) (c0 : Int) (c1 : Int) (c2 : Int) (c3 : Int) (c4 : Int) (c5 : Int) (c6 : Int) (c7 : Int) (c8 : Int) (c9 : Int) (c10 : Int) (c11 : Int) (c12 : Int) (c13 : Int) (c14 : List Int) (c18 : List Z3) (c19 : List Zy) (c20 : Int) :
  ∀ (m n : Nat) (i : Int) (cells : List ZL) (early : List Int) (undos : List Yd), 0 ≤ i → i ≤ more.length → (more.length : Int) ≤ i + m → m < n → Xg cells → (early.length : Int) ≤ i → (undos.length : Int) ≤ 4 * i → (∀ u ∈ undos, ByteArray.size u.1 ≤ 1000) →
   Ok (Vv n t i z0 z1 z2 z3 z4 z5 z6 z7 z8 z9 z10 z11 z12 z13 z14 z15 z16 z17 z18 z19 z20 c0 c1 c2 c3 c4 c5 c6 c7 c8 c9 c10 c11 c12 c13 c14 cells early undos c18 c19 c20 more) fun r => ∃ (cells' : List ZL) (early' : List Int) (undos' : List Yd), r = (c0, c1, (c2, c3, c4, c5, ()), (c6, c7, c8, c9, ()), (c10, c11, c12, c13, ()), c14, cells', early', undos', c18, c19, c20, ()) ∧ Xg cells' ∧ early'.length ≤ 60 ∧ Zo8 undos' := by
 intro m
 induction m with
 | zero =>
  intro n i cells early undos h0 h1 h2 h3 h4 h5 h6 h7;obtain ⟨n, rfl⟩ : ∃ m, n = m + 1 := ⟨n - 1, by omega⟩
  rw [Ve];exact Zl (fun h => by omega) (fun _ => Za ⟨cells, early, undos, rfl, h4, by omega, ⟨by omega, h7⟩⟩)
 | succ m ih =>
  intro n i cells early undos h0 h1 h2 h3 h4 h5 h6 h7;obtain ⟨n, rfl⟩ : ∃ m, n = m + 1 := ⟨n - 1, by omega⟩
  rw [Ve, ZH (n := i + 1) (by omega) (by omega)];refine Zl (fun hi => ZB h0 (ZB hi (ZZ (by omega) fun k hk => ZB (hx k hk).1 (ZZ (by have := hx k hk; omega) fun b hb => Zd (ZqG h4 (ht.cmds b hb)) fun q hq => ZB h0 (ZB hi (ZZ (by omega) fun k2 hk2 => ZB (by simp only [List.length_singleton]; unfold lim; omega) (ZB (by have := hq.2.1; unfold lim; omega) ?_))))))) (fun _ => Za ⟨cells, early, undos, rfl, h4, by omega, ⟨by omega, h7⟩⟩);refine ih n (i + 1) _ _ _ (by omega) (by omega) (by omega) (by omega) hq.1 (by rw [Xq]; omega) (by rw [List.append_eq, List.length_append]; have := hq.2.1; omega) fun u hu => ?_;rcases List.mem_append.1 (show u ∈ undos ++ q.2.1 from hu) with hu | hu
  ·exact h7 u hu
  ·exact hq.2.2 u hu
theorem Zgs {B : Nat} {V : Int} (hB : B ≤ 900000000) {t : List Zv} (ht : Xl t) {p : Zn} (h : YO B V p) (k : Int) : Ok (QZ big t p k) fun r => YO B V r ∧ idv r = idv p := by
 rw [D8, EW (by omega) h];simp only [Option.bind_some];refine Zd (ZuN h) fun y hy => Zd (ZsD (by omega) h) fun l2 _ => Zd (Zgq ht k l2) fun more hmore => ?_;obtain ⟨hp, hid, he, hu, _⟩ := hy;refine VT (ZvF ht hmore.1 hmore.2 _ _ _ _ _ _ _ _ _ _ _ _ _ _ _ _ _ _ _ _ _ _ _ _ _ _ _ _ _ _ _ _ _ _ _ _ _ _ _ more.length big 0 _ _ _ (by omega) (by omega) (by omega) (by have := hmore.1; unfold big; omega) hp.cells (by rw [he]; simp) (by rw [hu]; simp) (by rw [hu]; simp)) fun r hr2 => ?_;obtain ⟨cells', early', undos', e, g1, g2, g3⟩ := hr2;subst e;exact ⟨⟨hp.row, g1, g2, g3, hp.votes, hp.news, hp.view, hp.top, hp.hq⟩, hid⟩
theorem ZsE {B : Nat} {V : Int} (hB : B ≤ 800000000) {t : List Zv} (ht : Xl t) {p : Zn} (h : YO B V p) (k : Int) : Ok (Xi big t p k) fun r => YO (B + 60) V r ∧ idv r = idv p := by
 rw [Vf, EW (by omega) h];simp only [Option.bind_some];refine Zd (Zsw ht k) fun y hy => Yb (fun _ => Za ⟨h.mono (by omega), rfl⟩) fun hc => ?_;obtain ⟨h0, h1, h2, h3⟩ := hy hc;refine ZB h0.1 (ZZ (by omega) fun b _ => Zd (CS _ _) fun q1 hq1 => ZB h1.1 (ZZ (by omega) fun b2 _ => Zd (CS _ _) fun q2 hq2 => Zd (ZqF ht k) fun d _ => ?_));have hp : YO B V (p.1, p.2.1, q1, q2, p.2.2.2.2) := ⟨h.row, h.cells, h.early, h.undos, h.votes, h.news, h.view, h.top, ⟨Int.le_trans h.hq.1 hq1.2, Int.le_trans h.hq.2 hq2.2⟩⟩
 refine Ym (fun _ => Zd (Zmm (by omega) ht hp d.1) fun r hr => Zd (Zsy h1 h2) fun _ _ => Ym (fun _ => Zd (Zgs (by omega) ht hr.1 _) fun s hs => Za ⟨hs.1, hs.2.trans hr.2⟩) (fun _ => Za hr))
  (fun _ => Zd (Zsy h1 h2) fun _ _ => Ym (fun _ => Zd (Zgs (by omega) ht hp _) fun s hs => Za ⟨hs.1.mono (by omega), hs.2⟩) (fun _ => Za ⟨hp.mono (by omega), rfl⟩))
def Lv (V : Int) (l : List Zy) : Prop := ∀ x ∈ l, 0 ≤ x.2.2.2.1 ∧ x.2.2.2.1 ≤ V
theorem Dp {V : Int} : Lv V [] := fun x hx => by cases hx
theorem Zmn {V : Int} {x : Zy} (h : 0 ≤ x.2.2.2.1 ∧ x.2.2.2.1 ≤ V) : Lv V [x] := fun y hy => by rw [List.mem_singleton.1 hy]; exact h
theorem Lv.up {V V' : Int} {l : List Zy} (h : Lv V l) (hv : V ≤ V') : Lv V' l := fun x hx => ⟨(h x hx).1, Int.le_trans (h x hx).2 hv⟩
theorem Lv.snoc {V : Int} {l : List Zy} {x : Zy} (h : Lv V l) (hx : 0 ≤ x.2.2.2.1 ∧ x.2.2.2.1 ≤ V) : Lv V (List.append l [x]) := fun y hy => by
 rcases List.mem_append.1 hy with hy | hy
 ·exact h y hy
 ·rw [List.mem_singleton.1 hy]; exact hx
theorem ZvG {B : Nat} {V : Int} (hB : B ≤ 1000000000) {p : Zn} (h : YO B V p) (a b c : Int) : Ok (Tm big p a b c) fun r => YO B V r.1 ∧ r.1.1 = p.1 ∧ r.2.1.2.1 = b := by
 rw [ZkO, EW hB h];simp only [Option.bind_some, XJ];exact Za ⟨⟨h.row, h.cells, h.early, h.undos, h.votes, h.news, h.view, h.top, h.hq⟩, rfl, rfl⟩
theorem Zpb {B : Nat} {V : Int} (hB : B ≤ 1000000000) {p : Zn} (h : YO B V p) (a b c d : Int) (hv : 0 ≤ b ∧ b ≤ V) : Ok (Qo big p a b c d) fun r => YO B V r.2.1 ∧ r.2.1.1 = p.1 ∧ List.length r.1 ≤ 1 ∧ Lv V r.1 := by
 rw [Zdm];exact Zd (ZvG hB h a b c) fun y hy => Za ⟨hy.1, hy.2.1, Nat.le_refl _, Zmn (by show 0 ≤ y.2.1.2.1 ∧ y.2.1.2.1 ≤ V; rw [hy.2.2]; exact hv)⟩
theorem ZqI {B : Nat} {V : Int} (hB : B ≤ 1000000000) {p : Zn} (h : YO B V p) (hV : V + 1 ≤ 900) (n : Int) : Ok (D6 big p n) fun r => YO B (V + 1) r.1 ∧ r.1.1 = p.1 ∧ Lv (V + 1) [r.2.1] := by
 have hv := h.view;have stay : YO B (V + 1) p ∧ p.1 = p.1 ∧ Lv (V + 1) [((0 : Int), (0 : Int), (0 : Int), (0 : Int), (0 : Int), ((0 : Int), (0 : Int), (0 : Int), (0 : Int), ()), ((0 : Int), (0 : Int), (0 : Int), (0 : Int), ()), ())] := ⟨h.up (by omega) hV, rfl, Zmn (by show (0 : Int) ≤ 0 ∧ (0 : Int) ≤ _; omega)⟩
 rw [Tr, EW hB h, ZH (n := p.2.1 + 1) (by omega) (by omega)];simp only [LZ, Option.bind_some];exact Zl (fun _ => Za stay) fun _ => Yb (fun _ => Za stay) fun _ => Zd (Q5 hB (h.up (by omega) hV) _ (by omega)) fun y hy => Zd (Vk _ _) fun _ _ => Za ⟨hy.1, hy.2, Zmn ⟨by have := hy.1.view.1; show 0 ≤ y.2.1; omega, hy.1.view.2⟩⟩
theorem Zyz {B : Nat} {V : Int} (hB : B ≤ 800000000) {t : List Zv} (ht : Xl t) {p : Zn} (h0 : YO B V p) (hV : V + 1 ≤ 900) (n : Int) (l : Zy) (hl : 0 ≤ l.2.2.2.1 ∧ l.2.2.2.1 ≤ V) : Ok (TV big t n p l) fun r => YO (B + 60) (V + 1) r.2.1 ∧ r.2.1.1 = p.1 ∧ List.length r.1 ≤ 1 ∧ Lv (V + 1) r.1 := by
 have h := h0.up (V' := V + 1) (by omega) hV;rw [Zk7, ZH (n := l.2.2.2.1 + 1) (by omega) (by omega)];refine Zd (Q5 (by omega) h _ (by omega)) fun y hy => ?_;obtain ⟨hp, hid⟩ := hy;have stay : ∀ q : Zn, YO B (V + 1) q → q.1 = p.1 → YO (B + 60) (V + 1) q ∧ q.1 = p.1 ∧ List.length ([] : List Zy) ≤ 1 ∧ Lv (V + 1) [] := fun q hq e => ⟨hq.mono (by omega), e, Nat.zero_le _, Dp⟩
 refine Zl (fun _ => Zd (CS _ _) fun q hq1 => ?_) fun _ => Zl (fun _ => Zd (CS _ _) fun q hq1 => ?_) fun _ => Zl (fun _ => Zd (Zmm (by omega) ht hp _) fun z hz => Zd (Q5 (by omega) hz.1 _ (by omega)) fun z2 hz2 => Zd (Vk _ _) fun _ _ => Za ⟨hz2.1, hz2.2.trans ((Zo9 hz.2).trans hid), Nat.le_refl _, Zmn ⟨by have := hz2.1.view.1; show 0 ≤ z2.2.1; omega, hz2.1.view.2⟩⟩) fun _ => Za (stay y hp hid)
 ·have hq : YO B (V + 1) (y.1, y.2.1, q, y.2.2.2) := ⟨hp.row, hp.cells, hp.early, hp.undos, hp.votes, hp.news, hp.view, hp.top, ⟨Int.le_trans hp.hq.1 hq1.2, hp.hq.2⟩⟩
  exact Zd (Zt9 _ _ _) fun _ _ => Yb (fun _ => Za (stay _ hq hid)) fun _ => Zd (Zpb (by omega) hq _ _ _ _ (by omega)) fun z hz => Za ⟨hz.1.mono (by omega), hz.2.1.trans hid, hz.2.2⟩
 ·have hq : YO B (V + 1) (y.1, y.2.1, y.2.2.1, q, y.2.2.2.2) := ⟨hp.row, hp.cells, hp.early, hp.undos, hp.votes, hp.news, hp.view, hp.top, ⟨hp.hq.1, Int.le_trans hp.hq.2 hq1.2⟩⟩
  exact Zd (Zt9 _ _ _) fun _ _ => Yb (fun _ => Za (stay _ hq hid)) fun _ => Zd (Zpb (by omega) hq _ _ _ _ (by omega)) fun z hz => Za ⟨hz.1.mono (by omega), hz.2.1.trans hid, hz.2.2⟩
set_option maxHeartbeats 16000000 in
theorem FD {t : List Zv} (ht : Xl t) (n : Int) (l : Zy) : Ok (Ua big t n l) fun _ => True := by
 have hlo := ht.lo; have hhi := ht.hi;have hW : IntKind.i64.wrap ((↑(List.length t) : Int) - 1) = (↑(List.length t) : Int) - 1 := ZH (by omega) (by omega);rw [TU];simp only [LZ, Option.bind_some, hW]
 by_cases hb : (1 : Int) ≤ l.2.2.2.2.1 ∧ l.2.2.2.2.1 ≤ (↑(List.length t) : Int) - 1
 ·have e1 : (decide ((1 : Int) ≤ l.2.2.2.2.1) && decide (l.2.2.2.2.1 ≤ (↑(List.length t) : Int) - 1)) = true := by
   rw [decide_eq_true hb.1, decide_eq_true hb.2]; rfl
  have hb0 : (0 : Int) ≤ l.2.2.2.2.1 := by omega
  have hb1 : Int.toNat l.2.2.2.2.1 < t.length := by omega
  simp only [e1, cond_true]
  repeat' with_reducible first
   | exact Za trivial
   | refine Ym (fun _ => ?_) (fun _ => ?_)
   | refine ZB hb0 ?_
   | refine ZZ hb1 fun _ _ => ?_
   | refine Zd (Zi4 ht _ _) fun _ _ => ?_
   | refine Zd (Zcb ht _ _) fun _ _ => ?_
 ·have e1 : (decide ((1 : Int) ≤ l.2.2.2.2.1) && decide (l.2.2.2.2.1 ≤ (↑(List.length t) : Int) - 1)) = false := by
   rw [← Bool.not_eq_true];intro h;simp only [Bool.and_eq_true, decide_eq_true_eq] at h;exact hb h
  simp only [e1, cond_false]
  repeat' with_reducible first
   | exact Za trivial
   | refine Ym (fun _ => ?_) (fun _ => ?_)
   | refine Zd (Zi4 ht _ _) fun _ _ => ?_
   | refine Zd (Zcb ht _ _) fun _ _ => ?_
theorem ZsF {B : Nat} {V : Int} (hB : B ≤ 1000000000) (b0 : Int) (b1 : Int) (b2 : Int) (b3 : Int) (b4 : Int) (b5 : Int) (b6 : Int) (b7 : Int) (b8 : Int) (b9 : Int) (b10 : Int) (b11 : Int) (b12 : Int) (b13 : Int) (b14 : List Int) (b15 : List ZL) (b16 : List Int) (b17 : List Yd) (b18 : List Z3) (b19 : List Zy) (b20 : Int) (h : YO B V (b0, b1, (b2, b3, b4, b5, ()), (b6, b7, b8, b9, ()), (b10, b11, b12, b13, ()), b14, b15, b16, b17, b18, b19, b20, ())) (c0 c1 c2 c3 c4 c5 c6 c7 c8 c9 c10 c11 c12 : Int) :
  ∀ (m n : Nat) (i : Int), 0 ≤ i → i ≤ b19.length → (b19.length : Int) ≤ i + m → m < n →
   Ok (WT n i b0 b1 b2 b3 b4 b5 b6 b7 b8 b9 b10 b11 b12 b13 b14 b15 b16 b17 b18 b19 b20 c0 c1 c2 c3 c4 c5 c6 c7 c8 c9 c10 c11 c12) fun r => YO (B + 1) V r.2.1 ∧ r.2.1.1 = b0 := by
 have hn : b19.length ≤ B := h.news;have fin : ∀ n : Nat, Ok (WT (n + 1) b19.length b0 b1 b2 b3 b4 b5 b6 b7 b8 b9 b10 b11 b12 b13 b14 b15 b16 b17 b18 b19 b20 c0 c1 c2 c3 c4 c5 c6 c7 c8 c9 c10 c11 c12) fun r => YO (B + 1) V r.2.1 ∧ r.2.1.1 = b0 := by
  intro n;rw [Ea];refine Zl (fun h => by omega) (fun _ => ?_);simp only [XJ];refine ZB (by unfold lim; omega) (ZB (by simp only [List.length_singleton]; unfold lim; omega) (Za ⟨⟨Nat.le_trans h.row (by omega), h.cells, h.early, h.undos, Nat.le_trans h.votes (by omega), ?_, h.view, h.top, h.hq⟩, rfl⟩));show (b19 ++ _).length ≤ B + 1;simp only [List.length_append, List.length_singleton]; omega
 intro m
 induction m with
 | zero =>
  intro n i h0 h1 h2 h3;obtain ⟨n, rfl⟩ : ∃ m, n = m + 1 := ⟨n - 1, by omega⟩
  obtain rfl : i = b19.length := by omega
  exact fin n
 | succ m ih =>
  intro n i h0 h1 h2 h3;obtain ⟨n, rfl⟩ : ∃ m, n = m + 1 := ⟨n - 1, by omega⟩
  rcases Int.lt_or_le i b19.length with hl | hl
  ·rw [Ea, ZH (n := i + 1) (by omega) (by omega)]
   exact Zl (fun hi => ZB h0 (ZB hi (ZZ (by omega) fun y hy => Zl (fun _ => Za ⟨h.mono (by omega), rfl⟩) (fun _ => ih n (i + 1) (by omega) (by omega) (by omega) (by omega))))) (fun h => by omega)
  ·obtain rfl : i = b19.length := by omega
   exact fin n
theorem ZvH {B : Nat} {V : Int} (hB : B ≤ 1000000000) (b0 : Int) (b1 : Int) (b2 : Int) (b3 : Int) (b4 : Int) (b5 : Int) (b6 : Int) (b7 : Int) (b8 : Int) (b9 : Int) (b10 : Int) (b11 : Int) (b12 : Int) (b13 : Int) (b14 : List Int) (b15 : List ZL) (b16 : List Int) (b17 : List Yd) (b18 : List Z3) (b19 : List Zy) (b20 : Int) (h : YO B V (b0, b1, (b2, b3, b4, b5, ()), (b6, b7, b8, b9, ()), (b10, b11, b12, b13, ()), b14, b15, b16, b17, b18, b19, b20, ())) (c0 c1 c2 c3 c4 c5 c6 c7 c8 c9 c10 c11 c12 : Int) : Ok (WT big 0 b0 b1 b2 b3 b4 b5 b6 b7 b8 b9 b10 b11 b12 b13 b14 b15 b16 b17 b18 b19 b20 c0 c1 c2 c3 c4 c5 c6 c7 c8 c9 c10 c11 c12) fun r => YO (B + 1) V r.2.1 ∧ r.2.1.1 = b0 := by
 have hn : b19.length ≤ B := h.news;exact ZsF hB _ _ _ _ _ _ _ _ _ _ _ _ _ _ _ _ _ _ _ _ _ h _ _ _ _ _ _ _ _ _ _ _ _ _ b19.length big 0 (by omega) (by omega) (by omega) (by unfold big; omega)
theorem ZvI {B : Nat} {V : Int} (hB : B ≤ 1000000000) {p : Zn} (h : YO B V p) (hV : V + 1 ≤ 900) (n : Int) (l : Zy) : Ok (MG big p n l) fun r => YO (B + 1) (V + 1) r.2.1 ∧ r.2.1.1 = p.1 := by
 have hv := h.view;have h1 := h.up (V' := V + 1) (by omega) hV;rw [Zh1, ZH (n := p.2.1 + 1) (by omega) (by omega)];have go : ∀ y : Zn, YO B (V + 1) y ∧ y.1 = p.1 → ∀ c0 c1 c2 c3 c4 c5 c6 c7 c8 c9 c10 c11 c12 : Int, Ok (WT big 0 y.1 y.2.1 y.2.2.1.1 y.2.2.1.2.1 y.2.2.1.2.2.1 y.2.2.1.2.2.2.1 y.2.2.2.1.1 y.2.2.2.1.2.1 y.2.2.2.1.2.2.1 y.2.2.2.1.2.2.2.1 y.2.2.2.2.1.1 y.2.2.2.2.1.2.1 y.2.2.2.2.1.2.2.1 y.2.2.2.2.1.2.2.2.1 y.2.2.2.2.2.1 y.2.2.2.2.2.2.1 y.2.2.2.2.2.2.2.1 y.2.2.2.2.2.2.2.2.1 y.2.2.2.2.2.2.2.2.2.1 y.2.2.2.2.2.2.2.2.2.2.1 y.2.2.2.2.2.2.2.2.2.2.2.1 c0 c1 c2 c3 c4 c5 c6 c7 c8 c9 c10 c11 c12) fun r => YO (B + 1) (V + 1) r.2.1 ∧ r.2.1.1 = p.1 := by
  intro y hy c0 c1 c2 c3 c4 c5 c6 c7 c8 c9 c10 c11 c12;rw [← hy.2];exact ZvH hB _ _ _ _ _ _ _ _ _ _ _ _ _ _ _ _ _ _ _ _ _ hy.1 _ _ _ _ _ _ _ _ _ _ _ _ _
 refine Zd (Vk _ _) fun z _ => ?_;have stay : YO (B + 1) (V + 1) p ∧ p.1 = p.1 := ⟨h1.mono (by omega), rfl⟩
 refine YM (fun _ => Za stay) fun _ => YM (fun _ => YM (fun _ => Za stay) fun e => ?_) fun e => ?_
 ·exact Zd (Q5 hB h1 _ (by omega)) fun y hy => go y hy _ _ _ _ _ _ _ _ _ _ _ _ _
 ·exact Zd (Q5 hB h1 _ (by omega)) fun y hy => go y hy _ _ _ _ _ _ _ _ _ _ _ _ _
theorem ZsG {B : Nat} {V : Int} (b0 : Int) (b1 : Int) (b2 : Int) (b3 : Int) (b4 : Int) (b5 : Int) (b6 : Int) (b7 : Int) (b8 : Int) (b9 : Int) (b10 : Int) (b11 : Int) (b12 : Int) (b13 : Int) (b14 : List Int) (b15 : List ZL) (b16 : List Int) (b17 : List Yd) (b18 : List Z3) (b19 : List Zy) (b20 : Int) (h : YO B V (b0, b1, (b2, b3, b4, b5, ()), (b6, b7, b8, b9, ()), (b10, b11, b12, b13, ()), b14, b15, b16, b17, b18, b19, b20, ())) (s1 : Int) (hs : s1 ≤ 7) (c0 c1 c2 c3 : Int) :
  ∀ (m n : Nat) (i : Int) (l : List Zy), 0 ≤ i → i ≤ 7 → (7 : Int) ≤ i + m → m < n → (l.length : Int) ≤ i → Lv V l →
   Ok (QE n s1 l i b0 b1 b2 b3 b4 b5 b6 b7 b8 b9 b10 b11 b12 b13 b14 b15 b16 b17 b18 b19 b20 c0 c1 c2 c3) fun r => YO B V r.2.1 ∧ r.2.1.1 = b0 ∧ List.length r.1 ≤ 7 ∧ Lv V r.1 := by
 intro m
 induction m with
 | zero =>
  intro n i l h0 h1 h2 h3 h4 h5;obtain ⟨n, rfl⟩ : ∃ m, n = m + 1 := ⟨n - 1, by omega⟩
  rw [BF];exact Zl (fun h => by omega) (fun _ => Za ⟨h, rfl, by show l.length ≤ 7; omega, h5⟩)
 | succ m ih =>
  intro n i l h0 h1 h2 h3 h4 h5;obtain ⟨n, rfl⟩ : ∃ m, n = m + 1 := ⟨n - 1, by omega⟩
  rw [BF, ZH (n := i + 1) (by omega) (by omega)];exact Zl (fun hi => ZB (by simp only [List.length_singleton]; unfold lim; omega) (ih n (i + 1) _ (by omega) (by omega) (by omega) (by omega) (by rw [Xq]; omega) (h5.snoc ⟨by have h9 : 1 ≤ b1 := h.view.1; show 0 ≤ b1; omega, h.view.2⟩))) (fun _ => Za ⟨h, rfl, by show l.length ≤ 7; omega, h5⟩)
theorem Rb {B : Nat} {V : Int} (hB : B ≤ 1000000000) (b0 : Int) (b1 : Int) (b2 : Int) (b3 : Int) (b4 : Int) (b5 : Int) (b6 : Int) (b7 : Int) (b8 : Int) (b9 : Int) (b10 : Int) (b11 : Int) (b12 : Int) (b13 : Int) (b14 : List Int) (b15 : List ZL) (b16 : List Int) (b17 : List Yd) (b18 : List Z3) (b19 : List Zy) (b20 : Int) (h : YO B V (b0, b1, (b2, b3, b4, b5, ()), (b6, b7, b8, b9, ()), (b10, b11, b12, b13, ()), b14, b15, b16, b17, b18, b19, b20, ())) (s1 : Int) (hs : s1 ≤ 7) (s8 : Int) (c0 c1 c2 c3 : Int) (n : Nat) (hn : 8 < n) :
  Ok (XF n s1 [] s8 b0 b1 b2 b3 b4 b5 b6 b7 b8 b9 b10 b11 b12 b13 b14 b15 b16 b17 b18 b19 b20 c0 c1 c2 c3) fun r => YO (B + 1) V r.2.1 ∧ r.2.1.1 = b0 ∧ List.length r.1 ≤ 7 ∧ Lv V r.1 := by
 obtain ⟨n, rfl⟩ : ∃ m, n = m + 1 := ⟨n - 1, by omega⟩
 rw [Ds];simp only [XJ];have hv : b18.length ≤ B := h.votes;have e : List.length (List.append b18 [(c0, c1, c2, c3, ())]) = b18.length + 1 := by show List.length (b18 ++ _) = _; simp only [List.length_append, List.length_singleton]
 have stay : YO (B + 1) V (b0, b1, (b2, b3, b4, b5, ()), (b6, b7, b8, b9, ()), (b10, b11, b12, b13, ()), b14, b15, b16, b17, b18, b19, b20, ()) ∧ b0 = b0 ∧ List.length ([] : List Zy) ≤ 7 ∧ Lv V [] := ⟨h.mono (by omega), rfl, by decide, Dp⟩
 have put : ∀ q : Bw, 0 ≤ q.2.1 → YO (B + 1) V (b0, b1, q, (b6, b7, b8, b9, ()), (b10, b11, b12, b13, ()), b14, b15, b16, b17, List.append b18 [(c0, c1, c2, c3, ())], b19, b20, ()) := fun q hq =>
  ⟨Nat.le_trans h.row (by omega), h.cells, h.early, h.undos, by show List.length (List.append b18 [(c0, c1, c2, c3, ())]) ≤ _; omega, Nat.le_trans h.news (by omega), h.view, h.top, ⟨hq, h.hq.2⟩⟩
 refine YM (fun _ => Za stay) fun _ => Zd (Vk _ _) fun _ _ => YM (fun _ => Za stay) fun _ => Zd (Zx6 _ _ (by omega)) fun _ _ => Ym (fun _ => Za stay) fun _ => ZB (by unfold lim; omega) (ZB (by simp only [List.length_singleton]; unfold lim; omega) (Zd (Zca _ (by omega) _ _ _) fun _ _ => Zd (Zb7 _) fun _ _ => Zd (Ra _) fun _ _ => YM (fun _ => Za ⟨put _ h.hq.1, rfl, stay.2.2⟩) fun _ => Zd (Zmj _ (by omega) _ _ _ _) fun q _ => Zl (fun _ => Zd (CS _ _) fun q hq => Za ⟨put q (Int.le_trans h.hq.1 hq.2), rfl, stay.2.2⟩) fun _ => ?_));exact ZsG _ _ _ _ _ _ _ _ _ _ _ _ _ _ _ _ _ _ _ _ b20 (put (b2, b3, b4, b5, ()) h.hq.1) s1 hs _ _ _ _ 7 n 0 [] (by omega) (by omega) (by omega) (by omega) (by decide) Dp
theorem ZwX {B : Nat} {V : Int} (hB : B ≤ 1000000000) {p : Zn} (h0 : YO B V p) (hV : V + 1 ≤ 900) (n : Int) (hn : n ≤ 7) (v : Z3) : Ok (Hi big p n v) fun r => YO (B + 1) (V + 1) r.2.1 ∧ r.2.1.1 = p.1 ∧ List.length r.1 ≤ 7 ∧ Lv (V + 1) r.1 := by
 have hv := h0.view;have h := h0.up (V' := V + 1) (by omega) hV;rw [ZdD, ZH (n := p.2.1 + 1) (by omega) (by omega)];have hb : 8 < big := by decide
 refine Zl (fun _ => Zd (Vk _ _) fun _ _ => Zl (fun _ => Zl (fun e => Zd (Q5 hB h _ (by omega)) fun y hy => ?_) (fun _ => ?_)) (fun _ => ?_)) (fun _ => ?_)
 ·rw [← hy.2]; exact Rb hB _ _ _ _ _ _ _ _ _ _ _ _ _ _ _ _ _ _ _ _ _ hy.1 n hn _ _ _ _ _ big hb
 ·exact Rb hB _ _ _ _ _ _ _ _ _ _ _ _ _ _ _ _ _ _ _ _ _ h n hn _ _ _ _ _ big hb
 ·exact Rb hB _ _ _ _ _ _ _ _ _ _ _ _ _ _ _ _ _ _ _ _ _ h n hn _ _ _ _ _ big hb
 ·exact Rb hB _ _ _ _ _ _ _ _ _ _ _ _ _ _ _ _ _ _ _ _ _ h n hn _ _ _ _ _ big hb
theorem ZsH {B : Nat} {V : Int} (hB : B ≤ 1000000000) {p : Zn} (h : YO B V p) (hV : V + 1 ≤ 900) (n : Int) (hn : n ≤ 7) (v : Z3) : Ok (Ec big p n v) fun r => YO (B + 1) (V + 1) r.1 ∧ r.1.1 = p.1 ∧ List.length r.2.1 ≤ 7 ∧ Lv (V + 1) r.2.1 := by
 rw [T9];exact Zd (ZwX hB h hV n hn v) fun y hy => Za hy
def Zi5 (B : Nat) (V : Int) (p : Zn) (r : Zn × List Zy × Unit) : Prop := YO B V r.1 ∧ r.1.1 = p.1 ∧ List.length r.2.1 ≤ 7 ∧ Lv V r.2.1
theorem ZsI {B : Nat} {V : Int} (hB : B ≤ 1000000000) {t : List Zv} (ht : Xl t) {p : Zn} (h : YO B V p) (hV : V + 1 ≤ 900) (n : Int) (hn : n ≤ 7) (l : Zy) : Ok (WU big t n p l) (Zi5 (B + 1) (V + 1) p) := by
 rw [Zab, EW hB h];simp only [Option.bind_some];have stay : Zi5 (B + 1) (V + 1) p (p, [], ()) := ⟨(h.up (by omega) hV).mono (by omega), rfl, Nat.zero_le _, Dp⟩
 exact Zd (FD ht _ _) fun _ _ => Yb (fun _ => Za stay) fun _ => YM (fun _ => Za stay) fun _ => Zl (fun _ => Zd (ZsH hB h hV n hn _) fun y hy => Za hy) fun _ => Zl (fun _ => Zd (ZvI hB h hV n l) fun y hy => Za ⟨hy.1, hy.2, Nat.zero_le _, Dp⟩) fun _ => Za stay
theorem Zx7 {B : Nat} {V : Int} (hB : B ≤ 800000000) {t : List Zv} (ht : Xl t) {p : Zn} (h : YO B V p) (hV : V + 1 ≤ 900) (n : Int) (hn : n ≤ 7) (l : Zy) (hl : 0 ≤ l.2.2.2.1 ∧ l.2.2.2.1 ≤ V) : Ok (Cu big t n p l) (Zi5 (B + 60) (V + 1) p) := by
 have h1 := h.up (V' := V + 1) (by omega) hV;rw [ZdG, EW (by omega) h];simp only [Option.bind_some];have stay : ∀ q : Zn, YO B (V + 1) q ∧ q.1 = p.1 → Zi5 (B + 60) (V + 1) p (q, [], ()) := fun q h => ⟨h.1.mono (by omega), h.2, Nat.zero_le _, Dp⟩
 have lead : Ok ((WU big t n p l).bind fun y => some y) (Zi5 (B + 60) (V + 1) p) := Zd (ZsI (by omega) ht h hV n hn l) fun y hy => Za ⟨hy.1.mono (by omega), hy.2⟩;exact Zd (FD ht _ _) fun _ _ => Yb (fun _ => Za (stay p ⟨h1, rfl⟩)) fun _ => YM (fun _ => Za (stay p ⟨h1, rfl⟩)) fun _ => Zl (fun _ => lead) fun _ => Zl (fun _ => lead) fun _ => Zd (Vk _ _) fun _ _ => YM (fun _ => Za (stay p ⟨h1, rfl⟩)) fun _ => Zl (fun _ => Za (stay p ⟨h1, rfl⟩)) fun _ =>
  Zl (fun _ => Zd (Zyz hB ht h hV n l hl) fun y hy => Za ⟨hy.1, hy.2.1, by show List.length y.1 ≤ 7; have := hy.2.2.1; omega, hy.2.2.2⟩) fun _ => Zd (Q5 (by omega) h1 _ (by omega)) fun y hy => Zd (Zt9 _ _ _) fun _ _ => Yb (fun _ => Za (stay y hy)) fun _ => Zd (ZuL ht _ _) fun _ _ => Yb (fun _ => Za (stay y hy)) fun _ =>
  Zd (Zpb (by omega) hy.1 _ _ _ _ (by omega)) fun z hz => Za ⟨hz.1.mono (by omega), hz.2.1.trans hy.2, by show List.length z.1 ≤ 7; have := hz.2.2.1; omega, hz.2.2.2⟩
theorem ZvJ {B : Nat} {V : Int} (hB : B ≤ 800000000) {t : List Zv} (ht : Xl t) {p : Zn} (h : YO B V p) (hV : V + 1 ≤ 900) (n : Int) (hn : n ≤ 7) (l : Zy) (hl : 0 ≤ l.2.2.2.1 ∧ l.2.2.2.1 ≤ V) : Ok (KR big t n p l) (Zi5 (B + 60) (V + 1) p) := by
 have h1 := h.up (V' := V + 1) (by omega) hV;rw [Pr, EW (by omega) h, ZH (n := l.2.2.2.1 + 1) (by omega) (by omega)];simp only [Option.bind_some];have stay : ∀ q : Zn, YO B V q ∧ q.1 = p.1 → Zi5 (B + 60) (V + 1) p (q, [], ()) := fun q h => ⟨(h.1.up (by omega) hV).mono (by omega), h.2, Nat.zero_le _, Dp⟩
 have high : ∀ q : Bw, 0 ≤ q.2.1 → YO B V (p.1, p.2.1, q, p.2.2.2) := fun q hq => ⟨h.row, h.cells, h.early, h.undos, h.votes, h.news, h.view, h.top, ⟨hq, h.hq.2⟩⟩
 have learn : Ok ((Xi big t p l.2.2.2.2.1).bind fun y => some (y, ([] : List Zy), ())) (Zi5 (B + 60) (V + 1) p) := Zd (ZsE hB ht h _) fun y hy => Za ⟨hy.1.up (by omega) hV, Zo9 hy.2, Nat.zero_le _, Dp⟩;exact Zd (FD ht _ _) fun _ _ => Yb (fun _ => Za (stay p ⟨h, rfl⟩)) fun _ => YM (fun _ => Za (stay p ⟨h, rfl⟩)) fun _ =>
  Zl (fun _ => Zd (ZsI (by omega) ht h hV n hn l) fun y hy => Za ⟨hy.1.mono (by omega), hy.2⟩) fun _ =>
  Zl (fun _ => Zd (CS _ _) fun q hq => Zd (ZsI (by omega) ht (high q (Int.le_trans h.hq.1 hq.2)) hV n hn l) fun y hy => Za ⟨hy.1.mono (by omega), hy.2⟩) fun _ =>
  Zl (fun _ => Za (stay p ⟨h, rfl⟩)) fun _ => Zd (Vk _ _) fun _ _ => YM (fun _ => Za (stay p ⟨h, rfl⟩)) fun _ => Zd (Zt9 _ _ _) fun _ _ =>
  Ym (fun _ => Zd (ZuL ht _ _) fun _ _ => Ym (fun _ => Zd (ZsE hB ht h _) fun y hy => YM (fun _ => Za ⟨hy.1.up (by omega) hV, Zo9 hy.2, Nat.zero_le _, Dp⟩) fun _ => Zd (Vk _ _) fun _ _ => Zd (Zpb (by omega) (hy.1.up (V' := V + 1) (by omega) hV) _ _ _ _ (by omega)) fun z hz => Zd (Q5 (by omega) hz.1 _ (by omega)) fun w hw => Za ⟨hw.1, hw.2.trans (hz.2.1.trans (Zo9 hy.2)), by show List.length z.1 ≤ 7; have := hz.2.2.1; omega, hz.2.2.2⟩) (fun _ => learn)) (fun _ => learn)
def Be (B : Nat) (V : Int) (p : Zn) : Prop := YO B V p ∧ 0 ≤ p.1 ∧ p.1 ≤ 1000
theorem Be.mono {B B' : Nat} {V : Int} {p : Zn} (h : Be B V p) (hb : B ≤ B') : Be B' V p := ⟨h.1.mono hb, h.2⟩
theorem Be.up {B : Nat} {V V' : Int} {p : Zn} (h : Be B V p) (hv : V ≤ V') (ht : V' ≤ 900) : Be B V' p := ⟨h.1.up hv ht, h.2⟩
theorem Be.of {B B' : Nat} {V V' : Int} {p q : Zn} (h : Be B V p) (k : YO B' V' q) (e : q.1 = p.1) : Be B' V' q := ⟨k, by rw [e]; exact h.2⟩
structure ClI (B S : Nat) (V : Int) (x : Zp) : Prop where
 n : x.1 = 4
 tree : Xl x.2.2.2.1
 peers : List.length x.2.2.2.2.1 = 4
 peer : ∀ p ∈ x.2.2.2.2.1, Be B V p
 net : List.length x.2.2.2.2.2.1 ≤ 60
 said : List.length x.2.2.2.2.2.2.1 ≤ S
 pend : List.length x.2.2.2.2.2.2.2.1 ≤ 8
 key : ∀ c ∈ x.2.2.2.2.2.2.2.1, ByteArray.size c.2.1 ≤ 1000
 lv : Lv V x.2.2.2.2.2.1
 tv : ∀ b ∈ x.2.2.2.1, b.2.1 ≤ V
theorem ClI.mono {B B' S S' : Nat} {V : Int} {x : Zp} (h : ClI B S V x) (hb : B ≤ B') (hs : S ≤ S') : ClI B' S' V x :=
 ⟨h.n, h.tree, h.peers, fun p hp => (h.peer p hp).mono hb, h.net, Nat.le_trans h.said hs, h.pend, h.key, h.lv, h.tv⟩
theorem ClI.up {B S : Nat} {V V' : Int} {x : Zp} (h : ClI B S V x) (hv : V ≤ V') (ht : V' ≤ 900) : ClI B S V' x :=
 ⟨h.n, h.tree, h.peers, fun p hp => (h.peer p hp).up hv ht, h.net, h.said, h.pend, h.key, h.lv.up hv, fun b hb => Int.le_trans (h.tv b hb) hv⟩
theorem JR {α : Type} {P : α → Prop} {y : α} (hy : P y) : ∀ {l : List α} {i : Nat}, (∀ x ∈ l, P x) → ∀ x ∈ upd l i y, P x
 | [], _, h, x, hx => h x hx
 | a :: l, 0, h, x, hx => by
  rcases List.mem_cons.1 hx with rfl | hx
  ·exact hy
  ·exact h x (List.mem_cons_of_mem _ hx)
 | a :: l, i + 1, h, x, hx => by
  rcases List.mem_cons.1 hx with rfl | hx
  ·exact h _ List.mem_cons_self
  ·exact JR hy (fun z hz => h z (List.mem_cons_of_mem _ hz)) x hx
theorem Lv.app {V : Int} {a b : List Zy} (h : Lv V a) (k : Lv V b) : Lv V (List.append a b) := fun y hy => by
 rcases List.mem_append.1 hy with hy | hy
 ·exact h y hy
 ·exact k y hy
theorem Lv.sub {V : Int} {l : List Zy} (h : Lv V l) (a b : Nat) : Lv V (List.take a (List.drop b l)) := fun y hy => h y (List.mem_of_mem_drop (List.mem_of_mem_take hy))
theorem ZwY {B S : Nat} {V : Int} {x : Zp} (h : ClI B S V x) (k : Int) : Ok (Fr big x k) fun r => ClI B S V r.2.1 ∧ (r.1.2.1 = true → 0 ≤ r.1.1.2.2.2.1 ∧ r.1.1.2.2.2.1 ≤ V) := by
 obtain ⟨n, ch, li, tr, ps, ne, sa, pe, ⟨⟩⟩ := x;have hn : List.length ne ≤ 60 := h.net;rw [Zh5];dsimp only;have hW : IntKind.i64.wrap ((↑(List.length ne) : Int) - 1) = (↑(List.length ne) : Int) - 1 := ZH (by omega) (by omega);simp only [LZ, Option.bind_some, hW]
 by_cases hk : 0 ≤ k ∧ k ≤ (↑(List.length ne) : Int) - 1
 ·have e : (decide (0 ≤ k) && decide (k ≤ (↑(List.length ne) : Int) - 1)) = true := by simp only [hk.1, hk.2, decide_true, Bool.and_self]
  have w : IntKind.i64.wrap (k + 1) = k + 1 := ZH (by omega) (by omega);have g4 : 0 + (List.take (k.toNat - 0) (List.drop 0 ne)).length ≤ lim := by simp only [List.length_take, List.length_drop]; unfold lim; omega
  have g7 : (List.take (k.toNat - 0) (List.drop 0 ne)).length + (List.take (List.length ne - (k + 1).toNat) (List.drop (k + 1).toNat ne)).length ≤ lim := by simp only [List.length_take, List.length_drop]; unfold lim; omega
  have g7' : (List.append (List.take (k.toNat - 0) (List.drop 0 ne)) (List.take (List.length ne - (k + 1).toNat) (List.drop (k + 1).toNat ne))).length ≤ 60 := by
   show List.length (_ ++ _ : List Zy) ≤ 60;simp only [List.length_append, List.length_take, List.length_drop]; omega
  simp only [e, Bool.not_true, cond_false, w, if_pos hk.1, if_pos (show k < (↑(List.length ne) : Int) by omega), if_pos (show k ≤ (↑(List.length ne) : Int) by omega), if_pos (show 0 ≤ k + 1 by omega), if_pos (show k + 1 ≤ (↑(List.length ne) : Int) by omega), if_pos g4, if_pos g7, XJ];refine ZZ (by omega) fun y hy => Za ⟨⟨h.n, h.tree, h.peers, h.peer, g7', h.said, h.pend, h.key, fun x hx => ?_, h.tv⟩, fun _ => h.lv y hy⟩;rcases List.mem_append.1 hx with hx | hx
  ·exact h.lv x (List.mem_of_mem_drop (List.mem_of_mem_take hx))
  ·exact h.lv x (List.mem_of_mem_drop (List.mem_of_mem_take hx))
 ·have e : (decide (0 ≤ k) && decide (k ≤ (↑(List.length ne) : Int) - 1)) = false := by
   rw [← Bool.not_eq_true];intro h;simp only [Bool.and_eq_true, decide_eq_true_eq] at h;exact hk h
  simp only [e, Bool.not_false, cond_true];exact Za ⟨h, fun h => by cases h⟩
theorem Zmo {B S : Nat} {V : Int} {x : Zp} (h : ClI B S V x) (l : List Zy) (hl : l.length ≤ 1000000) (hv : Lv V l) : Ok (VO big x l) fun r => ClI B S V r.2.1 := by
 have hn := h.net;rw [ZdJ, ZH (by omega) (by omega)];refine Zl (fun _ => Za h) fun hc => ZB (by unfold lim; omega) (ZB (by unfold lim; omega) (Za ⟨h.n, h.tree, h.peers, h.peer, ?_, h.said, h.pend, h.key, h.lv.app hv, h.tv⟩));show (List.append x.2.2.2.2.2.1 l).length ≤ 60;show List.length (_ ++ _ : List Zy) ≤ 60;rw [List.length_append]; omega
theorem ZwZ {B S : Nat} {V : Int} (hS : S ≤ 1000000000) {x : Zp} (h : ClI B S V x) (v : Z3) : Ok (Hk big x v) fun r => ClI B (S + 1) V r.2.1 := by
 obtain ⟨n, ch, li, tr, ps, ne, sa, pe, ⟨⟩⟩ := x;obtain ⟨v0, v1, v2, v3, ⟨⟩⟩ := v;have hn : List.length sa ≤ S := h.said;rw [ZdM];dsimp only;refine up0 (L := List.length sa) (by omega) (f := fun m i => KT m i n ch li tr ps ne sa pe v0 v1 v2 v3) (fun m i h0 h1 nx => ?_) (fun m => ?_)
 ·rw [C4, ZH (n := i + 1) (by omega) (by omega)]
  exact Zl (fun hi => ZB h0 (ZB hi (ZZ (by omega) fun y hy => Ym (fun _ => Za (h.mono (Nat.le_refl _) (by omega))) fun _ => nx _ rfl))) (fun h => by omega)
 ·rw [C4]
  refine Zl (fun h => by omega) fun _ => ?_;simp only [XJ];refine ZB (by unfold lim; omega) (ZB (by simp only [List.length_singleton]; unfold lim; omega) (Za ⟨h.n, h.tree, h.peers, h.peer, h.net, ?_, h.pend, h.key, h.lv, h.tv⟩));show (List.append sa [(v0, v1, v2, v3, ())]).length ≤ S + 1;rw [Xq]; omega
theorem ZqJ {B S : Nat} {V : Int} (hS : S ≤ 900000000) (l : List Zy) (hl : l.length ≤ 7) (hv : Lv V l) : ∀ (m n : Nat) (i : Nat) (c : Zp), i ≤ l.length → l.length ≤ i + m → m < n → ClI B (S + i) V c →
  Ok (YI n (i : Int) c.1 c.2.1 c.2.2.1 c.2.2.2.1 c.2.2.2.2.1 c.2.2.2.2.2.1 c.2.2.2.2.2.2.1 c.2.2.2.2.2.2.2.1 l) fun r => ClI B (S + 7) V r.2.1 := by
 intro m
 induction m with
 | zero =>
  intro n i c h1 h2 h3 h;obtain ⟨n, rfl⟩ : ∃ m, n = m + 1 := ⟨n - 1, by omega⟩
  rw [Ar];exact Zl (fun h => by omega) fun _ => Za (h.mono (Nat.le_refl _) (by omega))
 | succ m ih =>
  intro n i c h1 h2 h3 h;obtain ⟨n, rfl⟩ : ∃ m, n = m + 1 := ⟨n - 1, by omega⟩
  rw [Ar, ZH (n := (i : Int) + 1) (by omega) (by omega)];refine Zl (fun hi => ?_) fun _ => Za (h.mono (Nat.le_refl _) (by omega));have h0 : (0 : Int) ≤ (i : Int) := by omega
  have e1 : ((i : Int) + 1) = ((i + 1 : Nat) : Int) := by omega
  have ht : (List.take (((i : Int) + 1).toNat - (i : Int).toNat) (List.drop (i : Int).toNat l)).length ≤ 1000000 := by simp only [List.length_take, List.length_drop]; omega
  have go : ∀ c' : Zp, ClI B (S + (i + 1)) V c' → Ok (YI n ((i : Int) + 1) c'.1 c'.2.1 c'.2.2.1 c'.2.2.2.1 c'.2.2.2.2.1 c'.2.2.2.2.2.1 c'.2.2.2.2.2.2.1 c'.2.2.2.2.2.2.2.1 l) fun r => ClI B (S + 7) V r.2.1 := fun c' hc => by
   rw [e1];exact ih n (i + 1) c' (by omega) (by omega) (by omega) hc
  refine ZB h0 (ZB hi (ZZ (by omega) fun y _ => Zl (fun _ => ZB h0 (ZB hi (ZZ (by omega) fun y _ => Zd (ZwZ (by omega) h _) fun z hz => ?_))) fun _ => ?_))
  ·have hz' : ClI B (S + (i + 1)) V z.2.1 := hz.mono (Nat.le_refl _) (by omega)
   exact Zl (fun _ => ZB (by omega) (ZB (by omega) (ZB h0 (ZB (by omega) (Zd (Zmo hz' _ ht (hv.sub _ _)) fun w hw => go _ hw))))) fun _ => go _ hz'
  ·have h' : ClI B (S + (i + 1)) V c := h.mono (Nat.le_refl _) (by omega)
   exact Zl (fun _ => ZB (by omega) (ZB (by omega) (ZB h0 (ZB (by omega) (Zd (Zmo h' _ ht (hv.sub _ _)) fun w hw => go _ hw))))) fun _ => go _ h'
theorem ZvK {B S : Nat} {V : Int} (hB : B ≤ 800000000) (hS : S ≤ 900000000) (hV : V + 1 ≤ 900) {x : Zp} (h : ClI B S V x) (k : Int) : Ok (Ef big x k) fun r => ClI (B + 60) (S + 7) (V + 1) r.2.1 := by
 rw [Zam];refine Zd (ZwY h k) fun y hyl => ?_;obtain ⟨hy, hlv⟩ := hyl;obtain ⟨⟨l, b, ⟨⟩⟩, y, ⟨⟩⟩ := y;obtain ⟨n, ch, li, tr, ps, ne, sa, pe, ⟨⟩⟩ := y;have hn : n = 4 := hy.n;have hp : List.length ps = 4 := hy.peers;have hq := hy.peer;have ht := hy.tree;have stay := (hy.up (V' := V + 1) (by omega) hV).mono (B' := B + 60) (S' := S + 7) (by omega) (by omega);dsimp only at hy hq ht stay hlv ⊢;refine Yb (fun _ => Za stay) fun hb0 => Zd (L0 _ _ (by show List.length ps ≤ 1000; omega)) fun b hb => Yb (fun _ => Za stay) fun hb1 => ?_;have hi := hb hb1;have hl2 := hlv hb0;dsimp only at hi;have hu : ∀ y, (upd ps (Int.toNat l.2.2.1) y).length = List.length ps := fun y => ZU _ _ _;have fin : ∀ z z3 : Zn, Be B V z → Be (B + 60) (V + 1) z3 → ∀ l' : List Zy, l'.length ≤ 7 → Lv (V + 1) l' →
   Ok (YI big 0 n ch li tr (upd (upd ps (Int.toNat l.2.2.1) z) (Int.toNat l.2.2.1) z3) ne sa pe l') fun r => ClI (B + 60) (S + 7) (V + 1) r.2.1 := fun z z3 hz hz3 l' hl' hlv' => by
  have hc : ClI (B + 60) (S + 0) (V + 1) (n, ch, li, tr, upd (upd ps (Int.toNat l.2.2.1) z) (Int.toNat l.2.2.1) z3, ne, sa, pe, ()) :=
   ⟨hn, ht, by show (upd (upd ps _ z) _ z3).length = 4; rw [ZU, ZU]; exact hp, JR hz3 (JR ((hz.up (by omega) hV).mono (by omega)) fun p hp => ((hq p hp).up (by omega) hV).mono (by omega)), hy.net, hy.said, hy.pend, hy.key, hy.lv.up (by omega), fun b hb => by have := hy.tv b hb; omega⟩
  have := ZqJ hS l' hl' hlv' 7 big 0 _ (by omega) (by omega) (by unfold big; omega) hc;exact this
 have mid : ∀ (z : Zn) (f : Zn → Option (Zn × List Zy × Unit)), Be B V z → (∀ z, YO B V z → Ok (f z) (Zi5 (B + 60) (V + 1) z)) → Ok ((f z).bind fun y_3 => (Dv ps (Int.toNat l.2.2.1) z).bind fun y_4 => if (0 : Int) ≤ l.2.2.1 then if l.2.2.1 < (↑(List.length y_4) : Int) then (nth y_4 (Int.toNat l.2.2.1)).bind fun y_5 => (Dv y_4 (Int.toNat l.2.2.1) y_3.1).bind fun y_6 => YI big (0 : Int) n ch li tr y_6 ne sa pe y_3.2.1 else none else none) fun r => ClI (B + 60) (S + 7) (V + 1) r.2.1 := fun z f hz hf => by
  refine Zd (hf z hz.1) fun y3 hy3 => GG (by omega) ?_;exact ZB hi.1 (ZB (by rw [hu]; exact hi.2) (ZZ (by rw [hu]; omega) fun _ _ => GG (by rw [hu]; omega) (fin _ _ hz (hz.of hy3.1 hy3.2.1) _ hy3.2.2.1 hy3.2.2.2)))
 refine Ym (fun _ => ZB hi.1 (ZB hi.2 (ZZ (by omega) fun y hy1 => ?_))) (fun _ => ZB hi.1 (ZB hi.2 (ZZ (by omega) fun y hy1 => ?_)))
 ·exact mid y (fun p => KR big tr n p l) (hq y hy1) fun z hz => ZvJ hB ht hz hV n (by omega) l hl2
 ·exact mid y (fun p => Cu big tr n p l) (hq y hy1) fun z hz => Zx7 hB ht hz hV n (by omega) l hl2
theorem Zw0 {B S : Nat} {V : Int} (hB : B ≤ 800000000) (hV : V + 1 ≤ 900) {x : Zp} (h0 : ClI B S V x) (k : Int) : Ok (Hl big x k) fun r => ClI B S (V + 1) r.2.1 := by
 have h := h0.up (V' := V + 1) (by omega) hV;rw [ZdP];have hp : List.length x.2.2.2.2.1 = 4 := h.peers;refine Zd (L0 _ _ (by omega)) fun b hb => Yb (fun _ => Za h) fun hb1 => ?_;have hi := hb hb1;have hu : ∀ y, (upd x.2.2.2.2.1 k.toNat y).length = List.length x.2.2.2.2.1 := fun y => ZU _ _ _;refine ZB hi.1 (ZB hi.2 (ZZ (by omega) fun y hy => Zd (ZqI (by omega) (h0.peer y hy).1 hV _) fun z hz => GG (by omega) ?_));simp only [XJ];have one : ∀ z, Be B (V + 1) z → ClI B S (V + 1) (x.1, x.2.1, x.2.2.1, x.2.2.2.1, upd x.2.2.2.2.1 k.toNat z, x.2.2.2.2.2) := fun z hz =>
  ⟨h.n, h.tree, by show (upd _ _ _).length = 4; rw [hu]; exact hp, JR hz h.peer, h.net, h.said, h.pend, h.key, h.lv, h.tv⟩
 have two : ∀ z, Be B (V + 1) z → ClI B S (V + 1) (x.1, x.2.1, x.2.2.1, x.2.2.2.1, upd (upd x.2.2.2.2.1 k.toNat y) k.toNat z, x.2.2.2.2.2) := fun z hz =>
  ⟨h.n, h.tree, by show (upd (upd _ _ _) _ _).length = 4; rw [ZU, hu]; exact hp, JR hz (JR (h.peer y hy) h.peer), h.net, h.said, h.pend, h.key, h.lv, h.tv⟩
 exact Yb (fun _ => Za (one y (h.peer y hy))) fun _ => ZB hi.1 (ZB (by rw [hu]; exact hi.2) (ZZ (by rw [hu]; omega) fun _ _ => GG (by rw [hu]; omega) (Zd (Zmo (two z.1 ((h0.peer y hy).of hz.1 hz.2.1)) _ (by simp only [List.length_singleton]; omega) hz.2.2) fun w hw => Za hw)))
theorem ZvL {B S : Nat} {V : Int} {x : Zp} (h : ClI B S V x) (k : Int) : Ok (Oe big x k) fun r => ClI B S V r.2.1 := by
 obtain ⟨n, ch, li, tr, ps, ne, sa, pe, ⟨⟩⟩ := x;have hn : List.length ne ≤ 60 := h.net;show Ok (Q1 big _) _;unfold Q1 twF twL;dsimp only;have hW : IntKind.i64.wrap ((↑(List.length ne) : Int) - 1) = (↑(List.length ne) : Int) - 1 := ZH (by omega) (by omega);simp only [LZ, Option.bind_some, hW]
 by_cases hk : 0 ≤ k ∧ k ≤ (↑(List.length ne) : Int) - 1
 ·have e : (decide (0 ≤ k) && decide (k ≤ (↑(List.length ne) : Int) - 1)) = true := by simp only [hk.1, hk.2, decide_true, Bool.and_self]
  have w : IntKind.i64.wrap (k + 1) = k + 1 := ZH (by omega) (by omega);have hl : (List.take ((k + 1).toNat - k.toNat) (List.drop k.toNat ne)).length ≤ 60 := by simp only [List.length_take, List.length_drop]; omega
  simp only [e, Bool.not_true, cond_false, w];refine Zd (Q := fun r => List.length (r.2.getD ne) ≤ 60 ∧ Lv V (r.2.getD ne)) ?_ fun r hr => Za ⟨h.n, h.tree, h.peers, h.peer, hr.1, h.said, h.pend, h.key, hr.2, h.tv⟩;rw [ZH (n := (↑(List.length ne) : Int) + (↑(List.length (List.take ((k + 1).toNat - k.toNat) (List.drop k.toNat ne))) : Int)) (by omega) (by omega)];refine ZB (by omega) (ZB (by omega) (ZB hk.1 (ZB (by omega) (Zl (fun _ => Za ⟨hn, h.lv⟩) fun hc => ZB (by unfold lim; omega) (ZB (by unfold lim; omega) (Za ⟨?_, h.lv.app (h.lv.sub _ _)⟩))))));show (List.append ne _).length ≤ 60;show List.length (_ ++ _ : List Zy) ≤ 60;rw [List.length_append]; omega
 ·have e : (decide (0 ≤ k) && decide (k ≤ (↑(List.length ne) : Int) - 1)) = false := by
   rw [← Bool.not_eq_true];intro h;simp only [Bool.and_eq_true, decide_eq_true_eq] at h;exact hk h
  simp only [e, Bool.not_false, cond_true, Option.bind_some];exact Za h
def bL (l : List UInt8) : ByteArray := ByteArray.mk l.toArray
theorem EX (l : List UInt8) : (bL l).size = l.length := by simp [bL, ByteArray.size]
theorem Zi6 (s : ByteArray) : s.data.toList.length = s.size := by rw [Array.length_toList]; rfl
theorem Zw1 (s : ByteArray) (b i : Nat) : s.extract b i = bL ((s.data.toList.drop b).take (i - b)) := by
 apply ByteArray.ext;apply Array.toList_inj.1;simp [bL, ByteArray.data_extract, List.extract_eq_take_drop]
theorem ZvM (s : ByteArray) : bL s.data.toList = s := by
 apply ByteArray.ext;simp [bL]
def enc (n : Nat) : List UInt8 := if n ≤ 127 then [UInt8.ofNat n] else UInt8.ofNat (n % 128 + 128) :: enc (n / 128)
termination_by n
decreasing_by omega
theorem Zgt {n : Nat} (h : n ≤ 127) : enc n = [UInt8.ofNat n] := by rw [enc, if_pos h]
theorem Zmp {n : Nat} (h : ¬ n ≤ 127) : enc n = UInt8.ofNat (n % 128 + 128) :: enc (n / 128) := by rw [enc, if_neg h]
theorem Zn5 : ∀ (k n : Nat), n < 128 ^ (k + 1) → (enc n).length ≤ k + 1
 | 0, n, h => by rw [Zgt (by omega)]; exact Nat.le_refl _
 | k + 1, n, h => by
  by_cases h1 : n ≤ 127
  ·rw [Zgt h1]; show 1 ≤ _; omega
  ·rw [Zmp h1, List.length_cons]
   have := Zn5 k (n / 128) (by rw [Nat.pow_succ] at h; omega);omega
theorem ZsJ (n : Nat) : 1 ≤ (enc n).length := by
 by_cases h1 : n ≤ 127
 ·rw [Zgt h1]; exact Nat.le_refl _
 ·rw [Zmp h1, List.length_cons]; omega
abbrev fB (n : Int) : UInt8 := UInt8.ofNat n.toNat
theorem w8 {m : Nat} (h : m < 256) : IntKind.u8.wrap (m : Int) = (m : Int) := by rw [IntKind.wrap_u8]; omega
theorem Zw2 (l : List Int) (x : Int) : ByteArray.mk (List.map (fun n => UInt8.ofNat n.toNat) (List.append l [x])).toArray = bL (l.map fB ++ [fB x]) := by
 show bL (List.map fB (l ++ [x])) = _;rw [List.map_append]; rfl
theorem Zi7 : ∀ (k n m : Nat) (l : List Int), m < 128 ^ (k + 1) → m < 9223372036854775808 → k < n → l.length + k ≤ 1000 → Au n (m : Int) l = some (bL (l.map fB ++ enc m))
 | k, 0, m, l, _, _, h, _ => by omega
 | k, n + 1, m, l, h1, h2, h3, h4 => by
  rw [JH]
  by_cases h0 : m ≤ 127
  ·rw [decide_eq_false (by omega), cond_false, if_pos (by simp only [List.length_singleton]; unfold lim; omega), Zw2, Zgt h0, w8 (by omega)]
   rfl
  ·have e1 : ((m : Int)).tmod 128 = ((m % 128 : Nat) : Int) := (Int.ofNat_tmod m 128).symm
   have e2 : ((m : Int)).tdiv 128 = ((m / 128 : Nat) : Int) := (Int.ofNat_tdiv m 128).symm;rw [decide_eq_true (by omega), cond_true, if_pos (by simp only [List.length_singleton]; unfold lim; omega), e1, e2, ZH (n := ((m / 128 : Nat) : Int)) (by omega) (by omega), ZH (n := ((m % 128 : Nat) : Int) + 128) (by omega) (by omega)];cases k with
   | zero => omega
   | succ k =>
    have e3 : IntKind.u8.wrap (((m % 128 : Nat) : Int) + 128) = ((m % 128 + 128 : Nat) : Int) := by
     have : ((m % 128 : Nat) : Int) + 128 = ((m % 128 + 128 : Nat) : Int) := by omega
     rw [this, w8 (by omega)]
    rw [Zi7 k n (m / 128) _ (by rw [Nat.pow_succ] at h1; omega) (by omega) (by omega) (by show (l ++ _).length + k ≤ 1000; rw [List.length_append, List.length_singleton]; omega), e3, Zmp h0];show some (bL (List.map fB (l ++ _) ++ _)) = _;rw [List.map_append, List.append_assoc];rfl
theorem ZvN (n : Int) : Ok (BG big n) fun t => 1 ≤ t.size ∧ t.size ≤ 12 ∧ (0 ≤ n → n < 9223372036854775808 → t = bL (enc n.toNat)) := by
 rw [Zia]
 by_cases hn : 0 ≤ n ∧ n < 9223372036854775808
 ·obtain ⟨m, rfl⟩ : ∃ m : Nat, n = m := ⟨n.toNat, by omega⟩
  rw [Zi7 8 big m [] (by omega) (by omega) (by unfold big; omega) (by decide)];refine Za ⟨?_, ?_, fun _ _ => by rw [Int.toNat_natCast]; rfl⟩
  ·rw [EX, List.map_nil, List.nil_append]; exact ZsJ m
  ·rw [EX, List.map_nil, List.nil_append]
   have := Zn5 8 m (by omega);omega
 ·obtain ⟨b, hb⟩ : ∃ b, big = b + 1 := ⟨big - 1, by decide⟩
  obtain ⟨c, hc⟩ : ∃ c, b = c + 1 := ⟨big - 2, by rw [show big = big - 2 + 2 by decide] at hb; omega⟩
  have h10 : 10 < big := by decide
  have hc8 : 8 < c + 1 := by omega
  rw [hb, JH];refine Zl (fun h1 => ZB (by simp only [List.length_nil, List.length_singleton]; unfold lim; omega) ?_) fun h1 => ZB (by simp only [List.length_nil, List.length_singleton]; unfold lim; omega) (Za ⟨?_, ?_, fun h2 h3 => absurd ⟨h2, h3⟩ hn⟩)
  ·generalize IntKind.u8.wrap (IntKind.i64.wrap (n.tmod 128 + 128)) = x
   have hw := IntKind.wrap_i64 (n.tdiv 128);have hr : -9223372036854775808 ≤ IntKind.i64.wrap (n.tdiv 128) ∧ IntKind.i64.wrap (n.tdiv 128) < 9223372036854775808 := by
    rw [hw]; omega
   revert hr;generalize IntKind.i64.wrap (n.tdiv 128) = w;intro hr
   by_cases hw0 : 0 ≤ w
   ·obtain ⟨m, rfl⟩ : ∃ m : Nat, w = m := ⟨w.toNat, by omega⟩
    rw [hc, Zi7 8 (c + 1) m _ (by omega) (by omega) hc8 (by simp only [List.append_eq, List.nil_append, List.length_singleton]; omega)];have := Zn5 8 m (by omega);have := ZsJ m;have e : (List.map fB (List.append [] [x])).length = 1 := by rw [List.length_map]; rfl
    exact Za ⟨by rw [EX, List.length_append, e]; omega, by rw [EX, List.length_append, e]; omega, fun h2 h3 => absurd ⟨h2, h3⟩ hn⟩
   ·rw [hc, JH]
    refine Zl (fun h => by omega) fun _ => ZB (by simp only [List.append_eq, List.nil_append, List.length_singleton]; unfold lim; omega) (Za ⟨?_, ?_, fun h2 h3 => absurd ⟨h2, h3⟩ hn⟩)
    ·rw [Zw2, EX]; simp only [List.append_eq, List.nil_append, List.map_cons, List.map_nil, List.length_append, List.length_singleton]; omega
    ·rw [Zw2, EX]; simp only [List.append_eq, List.nil_append, List.map_cons, List.map_nil, List.length_append, List.length_singleton]; omega
  ·rw [Zw2, EX]; simp only [List.map_nil, List.nil_append, List.length_singleton]; omega
  ·rw [Zw2, EX]; simp only [List.map_nil, List.nil_append, List.length_singleton]; omega
theorem Zcc (n : Int) : Ok (XB big n) fun t => 1 ≤ t.size ∧ t.size ≤ 12 ∧ (0 ≤ n → n < 9223372036854775808 → t = bL (enc n.toNat)) := by
 rw [Zic];exact Zl (fun h => Za ⟨by decide, by decide, fun h1 => by omega⟩) fun _ => Zd (ZvN n) fun t ht => Za ht
theorem Zpc (q : Bw) : Ok (Fv big q) fun t => t.size ≤ 48 := by
 rw [Zif];exact Zd (Zcc _) fun a ha => Zd (Zcc _) fun b hb => ZB (by unfold lim; omega) (Zd (Zcc _) fun c hc => ZB (by simp only [ByteArray.size_append]; unfold lim; omega) (Zd (Zcc _) fun d hd => ZB (by simp only [ByteArray.size_append]; unfold lim; omega) (Za (by simp only [ByteArray.size_append]; omega))))
theorem ZqK (q : Z3) : Ok (Eg big q) fun t => t.size ≤ 48 := by
 rw [Zav];exact Zd (Zcc _) fun a ha => Zd (Zcc _) fun b hb => ZB (by unfold lim; omega) (Zd (Zcc _) fun c hc => ZB (by simp only [ByteArray.size_append]; unfold lim; omega) (Zd (Zcc _) fun d hd => ZB (by simp only [ByteArray.size_append]; unfold lim; omega) (Za (by simp only [ByteArray.size_append]; omega))))
theorem ZsK (s : ByteArray) (i : Int) {P : Int → Prop} : ∀ (m n : Nat) (k a : Int), 0 ≤ k → k ≤ 8 → (8 : Int) ≤ k + m → m < n → (∀ n' a', n ≤ n' + m + 1 → Ok (UG n' a' s (IntKind.i64.wrap (i + 1))) P) → Ok (UH n a s i k) P
 | m, 0, k, a, _, _, _, h, _ => by omega
 | 0, n + 1, k, a, h0, h1, h2, h3, go => by
  rw [C6];exact Zl (fun h => by omega) fun _ => go n _ (by omega)
 | m + 1, n + 1, k, a, h0, h1, h2, h3, go => by
  rw [C6, ZH (n := k + 1) (by omega) (by omega)];refine Zl (fun h => ?_) fun _ => go n _ (by omega);exact Zl (fun _ => ZsK s i m n (k + 1) _ (by omega) (by omega) (by omega) (by omega) fun n' a' h => go n' a' (by omega)) (fun _ => ZsK s i m n (k + 1) _ (by omega) (by omega) (by omega) (by omega) fun n' a' h => go n' a' (by omega))
theorem Zpd (s : ByteArray) (hs : s.size ≤ 1000000) : ∀ (m n : Nat) (i a : Int), 0 ≤ i → i ≤ s.size → (s.size : Int) ≤ i + m → m * 10 < n → Ok (UG n a s i) fun _ => True
 | m, 0, i, a, _, _, _, h => by omega
 | 0, n + 1, i, a, h0, h1, h2, h3 => by
  rw [C5];exact Zl (fun h => by omega) fun _ => Za trivial
 | m + 1, n + 1, i, a, h0, h1, h2, h3 => by
  have hl := Zi6 s;rw [C5];refine Zl (fun h => ZB h0 (ZZ (by omega) fun y _ => ?_)) fun _ => Za trivial;refine ZsK s i 8 n 0 _ (by omega) (by omega) (by omega) (by omega) fun n' a' hn => ?_;rw [ZH (n := i + 1) (by omega) (by omega)];exact Zpd s hs m n' (i + 1) a' (by omega) (by omega) (by omega) (by omega)
theorem ZsL (s : ByteArray) (hs : s.size ≤ 1000000) : Ok (I0 big s) fun _ => True := by
 rw [Zlj, ZdS];exact Zd (Zpd s hs s.size big 0 _ (by omega) (by omega) (by omega) (by unfold big; omega)) fun _ _ => Za trivial
theorem ZsM (s f : ByteArray) : (s ++ f).extract 0 s.size = s := by
 rw [Zw1, List.drop_zero, Nat.sub_zero, ByteArray.data_append, Array.toList_append, List.take_left' (Zi6 s), ZvM]
theorem Zpe (s : ByteArray) : Ok (MI big s) fun r => r.1.size ≤ 20004 ∧ (4 ≤ r.1.size → r.1.extract 0 (r.1.size - 4) = s) := by
 rw [Zil];refine Zl (fun _ => Za ⟨by decide, fun h => absurd h (by decide)⟩) fun hs => Zd (ZsL s (by omega)) fun y _ => ?_;generalize hf : ByteArray.mk (List.map (fun n => UInt8.ofNat n.toNat) [IntKind.u8.wrap (Int.fdiv y ((2 : Int) ^ min (Int.toNat (24 : Int)) IntKind.u32.bits)), IntKind.u8.wrap (Int.fdiv y ((2 : Int) ^ min (Int.toNat (16 : Int)) IntKind.u32.bits)), IntKind.u8.wrap (Int.fdiv y ((2 : Int) ^ min (Int.toNat (8 : Int)) IntKind.u32.bits)), IntKind.u8.wrap y]).toArray = f;have h4 : f.size = 4 := by rw [← hf]; rfl
 refine ZB (by unfold lim; omega) (Za ⟨by simp only [ByteArray.size_append]; omega, fun _ => ?_⟩);show (s ++ f).extract 0 ((s ++ f).size - 4) = s;rw [ByteArray.size_append, h4, Nat.add_sub_cancel];exact ZsM s f
theorem ZqL (s : ByteArray) (hs : s.size ≤ 1000000) : Ok (Ei big s) fun r => r.1.size ≤ 20000 ∧ (r.2.1 = true → 4 ≤ s.size ∧ r.1 = s.extract 0 (s.size - 4)) := by
 rw [ZaD, ZH (n := (s.size : Int) - 4) (by omega) (by omega)];have no : (ByteArray.mk #[]).size ≤ 20000 ∧ (false = true → 4 ≤ s.size ∧ ByteArray.mk #[] = s.extract 0 (s.size - 4)) := ⟨by decide, fun h => by cases h⟩
 refine Zl (fun _ => Za no) fun h1 => Zl (fun _ => Za no) fun h2 => ZB (by omega) (ZB (by omega) (ZB (by omega) (ZB (by omega) ?_)));have e : ((s.size : Int) - 4).toNat = s.size - 4 := by omega
 rw [e];refine Zd (ZsL _ (by rw [ByteArray.size_extract]; omega)) fun y _ => YM (fun _ => Za no) fun _ => ZB (by omega) (ZB (by omega) (Za ⟨?_, fun _ => ⟨by omega, rfl⟩⟩));show (s.extract 0 (s.size - 4)).size ≤ 20000;rw [ByteArray.size_extract]; omega
theorem ZsN (b0 : Int) (b1 : Int) (b2 : Int) (b3 : Int) (b4 : Int) (b5 : Int) (b6 : Int) (b7 : Int) (b8 : Int) (b9 : Int) (b10 : Int) (b11 : Int) (b12 : Int) (b13 : Int) (b14 : List Int) (b15 : List ZL) (b16 : List Int) (b17 : List Yd) (b18 : List Z3) (b19 : List Zy) (b20 : Int) (hr : b14.length ≤ 100000000) : ∀ (m n : Nat) (i : Int) (s : ByteArray), 0 ≤ i → i ≤ b14.length → (b14.length : Int) ≤ i + m → m < n → s.size ≤ 1000 + 12 * i.toNat →
  Ok (QH n s i b0 b1 b2 b3 b4 b5 b6 b7 b8 b9 b10 b11 b12 b13 b14 b15 b16 b17 b18 b19 b20) fun t => t.size ≤ 20004 ∧ (4 ≤ t.size → ∃ e, t.extract 0 (t.size - 4) = s ++ e) := by
 intro m
 induction m with
 | zero =>
  intro n i s h0 h1 h2 h3 h4;obtain ⟨n, rfl⟩ : ∃ m, n = m + 1 := ⟨n - 1, by omega⟩
  rw [BH];exact Zl (fun h => by omega) fun _ => Zd (Zpe s) fun y hy => Za ⟨hy.1, fun h => ⟨bL [], by rw [hy.2 h]; exact (ByteArray.append_empty).symm⟩⟩
 | succ m ih =>
  intro n i s h0 h1 h2 h3 h4;obtain ⟨n, rfl⟩ : ∃ m, n = m + 1 := ⟨n - 1, by omega⟩
  rw [BH, ZH (n := i + 1) (by omega) (by omega)];refine Zl (fun h => ZB h0 (ZZ (by omega) fun y _ => Zd (Zcc y) fun z hz => ZB (by unfold lim; omega) ?_)) fun _ => Zd (Zpe s) fun y hy => Za ⟨hy.1, fun h => ⟨bL [], by rw [hy.2 h]; exact (ByteArray.append_empty).symm⟩⟩;refine VT (ih n (i + 1) (s ++ z) (by omega) (by omega) (by omega) (by omega) (by rw [ByteArray.size_append]; omega)) fun t ht => ⟨ht.1, fun h => ?_⟩
  obtain ⟨e, he⟩ := ht.2 h;exact ⟨z ++ e, by rw [he, ByteArray.append_assoc]⟩
theorem Zgu (p : Zn) (hr : List.length p.2.2.2.2.2.1 ≤ 100000000) : Ok (Q2 big p) fun t => t.size ≤ 20004 ∧
  (4 ≤ t.size → (0 ≤ p.1 ∧ p.1 ≤ 1000) → (0 ≤ p.2.1 ∧ p.2.1 ≤ 1000) → ∃ e, t.extract 0 (t.size - 4) = bL (enc p.1.toNat) ++ bL (enc p.2.1.toNat) ++ e) := by
 rw [ZaF];refine Zd (Zcc _) fun a ha => Zd (Zcc _) fun b hb => ZB (by unfold lim; omega) (Zd (Zpc _) fun c hc => ZB (by simp only [ByteArray.size_append]; unfold lim; omega) (Zd (Zpc _) fun d hd => ZB (by simp only [ByteArray.size_append]; unfold lim; omega)
  (Zd (ZqK _) fun f hf => ZB (by simp only [ByteArray.size_append]; unfold lim; omega) (Zd (ZvN _) fun g hg => ZB (by simp only [ByteArray.size_append]; unfold lim; omega) ?_))))
 refine VT (ZsN _ _ _ _ _ _ _ _ _ _ _ _ _ _ _ _ _ _ _ _ _ hr (List.length p.2.2.2.2.2.1) big 0 _ (by omega) (by omega) (by omega) (by unfold big; omega) (by simp only [ByteArray.size_append]; omega)) fun t ht => ⟨ht.1, fun h h1 h2 => ?_⟩
 obtain ⟨e, he⟩ := ht.2 h;refine ⟨c ++ d ++ f ++ g ++ e, ?_⟩;rw [he, ha.2.2 h1.1 (by omega), hb.2.2 h2.1 (by omega)];simp only [ByteArray.append_assoc]
end Go.Sx.Tryz
