/- That a run goes through: a calculus; and the draws. -/
import Derived.Test.YtddbjmambkepkaaGreatDoorM8
import Derived.Test.YtddbjmambkepkaaGreatDoorTypes
import Derived.Test.YtddbjmambkepkaaGreatDoorScriptRemarksF1
import Derived.Test.YtddbjmambkepkaaGreatDoorScriptRemarksF2
import Derived.Test.YtddbjmambkepkaaGreatDoorScriptRemarksF3
set_option linter.unusedVariables false
set_option linter.unusedSimpArgs false
set_option maxRecDepth 100000
namespace Go.Sx.Tryz
open Go Go.Sx Go.Proofs
open Go.IntKind renaming i64 → K6
def Ok {α : Type} (x : Option α) (P : α → Prop) : Prop := ∃ r, x = some r ∧ P r
theorem Za {α : Type} {P : α → Prop} {r : α} (h : P r) : Ok (some r) P := ⟨r, rfl, h⟩
theorem Zb {α β : Type} {x : Option α} {f : α → Option β} {Q : α → Prop} {P : β → Prop} (h : Ok x Q) (k : ∀ r, Q r → Ok (f r) P) : Ok (x.bind f) P := by
 obtain ⟨r, rfl, hq⟩ := h;exact k r hq
theorem Zm {α : Type} {c : Prop} [Decidable c] {x : Option α} {P : α → Prop} (hc : c) (h : Ok x P) : Ok (if c then x else none) P := by rw [if_pos hc]; exact h
theorem BG {α : Type} {c : Prop} [Decidable c] {x : Option α} {P : α → Prop} (hc : ¬ c) (h : Ok x P) : Ok (if c then none else x) P := by rw [if_neg hc]; exact h
theorem Z1 {α : Type} {b : Bool} {x y : Option α} {P : α → Prop} (h1 : b = true → Ok x P) (h0 : b = false → Ok y P) : Ok (bif b then x else y) P := by
 cases b with
 | true => exact h1 rfl
 | false => exact h0 rfl
theorem Ze {α : Type} {p : Prop} [Decidable p] {x y : Option α} {P : α → Prop} (h1 : p → Ok x P) (h0 : ¬ p → Ok y P) : Ok (bif decide p then x else y) P :=
 Z1 (fun h => h1 (of_decide_eq_true h)) (fun h => h0 (of_decide_eq_false h))
theorem Yq {α : Type} {p : Prop} [Decidable p] {x y : Option α} {P : α → Prop} (h1 : ¬ p → Ok x P) (h0 : p → Ok y P) : Ok (bif !decide p then x else y) P :=
 Z1 (fun h => h1 (of_decide_eq_false (by simpa using h))) (fun h => h0 (of_decide_eq_true (by simpa using h)))
theorem ZT {α : Type} {b : Bool} {x y : Option α} {P : α → Prop} (h1 : b = false → Ok x P) (h0 : b = true → Ok y P) : Ok (bif !b then x else y) P := by
 cases b with
 | true => exact h0 rfl
 | false => exact h1 rfl
theorem ZD {α β : Type} {l : List α} {i : Nat} {f : α → Option β} {P : β → Prop} (hi : i < l.length) (k : ∀ y, y ∈ l → Ok (f y) P) : Ok ((nth l i).bind f) P := by
 rw [YV hi];exact k _ (List.getElem_mem hi)
theorem DU {α β : Type} {l : List α} {i : Nat} {y : α} {f : List α → Option β} {P : β → Prop} (hi : i < l.length) (k : Ok (f (upd l i y)) P) : Ok ((Ei l i y).bind f) P := by
 rw [Zh2 hi];exact k
theorem X7 {α : Type} {x : Option α} {P Q : α → Prop} (h : Ok x P) (k : ∀ r, P r → Q r) : Ok x Q := by
 obtain ⟨r, e, h⟩ := h; exact ⟨r, e, k r h⟩
structure Zdw (c : Ya) : Prop where
 lo : 0 ≤ c.2.1
 hi : c.2.1 ≤ (List.length c.1 : Int)
 len : List.length c.1 ≤ 1099511627776
theorem Zi7 (z : Int) : 0 ≤ K6.wrap ((BitVec.ofInt K6.bits z &&& BitVec.ofInt K6.bits 255).toNat : Int) ∧ K6.wrap ((BitVec.ofInt K6.bits z &&& BitVec.ofInt K6.bits 255).toNat : Int) ≤ 255 := by
 have h : (BitVec.ofInt K6.bits z &&& BitVec.ofInt K6.bits 255).toNat ≤ 255 := by
  rw [BitVec.toNat_and];exact Nat.le_trans Nat.and_le_right (by decide)
 rw [Zx (by omega) (by omega)];omega
theorem Zg5 {c : Ya} (h : Zdw c) : Ok (W2 big c) fun r => 0 ≤ r.1 ∧ r.1 ≤ 255 ∧ Zdw r.2.1 := by
 rw [ZaP];have hlo := h.lo; have hhi := h.hi; have hlen := h.len;refine Ze (fun hc => ?_) (fun hc => ?_)
 ·refine Zm hlo (ZD (by omega) fun y _ => Za ?_)
  refine ⟨(Zi7 _).1, (Zi7 _).2, ?_, ?_, hlen⟩
  ·show 0 ≤ K6.wrap (c.2.1 + 1)
   rw [Zx (by omega) (by omega)]; omega
  ·show K6.wrap (c.2.1 + 1) ≤ (List.length c.1 : Int)
   rw [Zx (by omega) (by omega)]; omega
 ·exact Za ⟨(Zi7 _).1, (Zi7 _).2, hlo, hhi, hlen⟩
theorem Hu {a n : Int} (ha : 0 ≤ a) (hn : 0 < n) : 0 ≤ Int.tmod a n ∧ Int.tmod a n < n := ⟨Int.tmod_nonneg _ ha, Int.tmod_lt_of_pos _ hn⟩
theorem V7 {c : Ya} (h : Zdw c) (n : Int) : Ok (Ym big c n) fun r => 0 ≤ r.1 ∧ (0 < n → r.1 < n) ∧ (n ≤ 0 → r.1 = 0) ∧ Zdw r.2.1 := by
 rw [Rl];refine Ze (fun hc => Za ⟨Int.le_refl _, fun h2 => by omega, fun _ => rfl, h⟩) (fun hc => ?_);refine Ze (fun hc2 => ?_) (fun hc2 => ?_)
 ·refine Zb (Zg5 h) fun y hy => ?_
  refine BG (by omega) (Za ?_);have := Hu hy.1 (show 0 < n by omega);exact ⟨this.1, fun _ => this.2, fun h2 => by omega, hy.2.2⟩
 ·refine Zb (Zg5 h) fun y hy => Zb (Zg5 hy.2.2) fun y1 hy1 => Zb (Zg5 hy1.2.2) fun y2 hy2 => Zb (Zg5 hy2.2.2) fun y3 hy3 => ?_
  refine BG (by omega) (Za ?_);obtain ⟨a1, a2, _⟩ := hy; obtain ⟨b1, b2, _⟩ := hy1; obtain ⟨c1, c2, _⟩ := hy2; obtain ⟨d1, d2, hd⟩ := hy3;have e : 0 ≤ K6.wrap (K6.wrap (K6.wrap (K6.wrap (y.1 * 16777216) + K6.wrap (y1.1 * 65536)) + K6.wrap (y2.1 * 256)) + y3.1) := by
   rw [Zx (n := y.1 * 16777216) (by omega) (by omega), Zx (n := y1.1 * 65536) (by omega) (by omega), Zx (n := y2.1 * 256) (by omega) (by omega),
    Zx (n := y.1 * 16777216 + y1.1 * 65536) (by omega) (by omega), Zx (n := y.1 * 16777216 + y1.1 * 65536 + y2.1 * 256) (by omega) (by omega), Zx (by omega) (by omega)]
   omega
  have := Hu e (show 0 < n by omega);exact ⟨this.1, fun _ => this.2, fun h2 => by omega, hd⟩
theorem Zn3 {c : Ya} (h : Zdw c) (n : Int) : Ok (Ai big c n) fun r => Zdw r.2.1 := by
 rw [ZaR];exact Zb (V7 h n) fun y hy => Za hy.2.2.2
theorem Lo {c : Ya} (h : Zdw c) (l : List Int) (hl : 0 < l.length) : Ok (XY big c l) fun r => r.1 ∈ l ∧ Zdw r.2.1 := by
 rw [LZ];refine Zb (V7 h _) fun y hy => Zm hy.1 ?_;have := hy.2.1 (by omega);exact ZD (by omega) fun z hz => Za ⟨hz, hy.2.2.2⟩
theorem Zqy {c : Ya} (h : Zdw c) (l : List ByteArray) (hl : 0 < l.length) : Ok (F2 big c l) fun r => r.1 ∈ l ∧ Zdw r.2.1 := by
 rw [ZaT];refine Zb (V7 h _) fun y hy => Zm hy.1 ?_;have := hy.2.1 (by omega);exact ZD (by omega) fun z hz => Za ⟨hz, hy.2.2.2⟩
theorem Lq (code : List Int) (hl : code.length ≤ 1099511627776) : ∀ (k n : Nat) (a i : Int), 0 ≤ i → (code.length : Int) ≤ i + k → k < n → i ≤ code.length → Ok (Km n code a i) fun c => c = (code, 0, c.2.2.1, ())
 | k, 0, a, i, _, _, h, _ => by omega
 | k, n + 1, a, i, h0, h1, h2, h3 => by
  rw [Rh];refine Ze (fun hc => ?_) (fun _ => Za rfl);refine Ze (fun _ => ?_) (fun _ => Za rfl);refine Zm h0 (ZD (by omega) fun y _ => ?_);rw [Zx (n := i + 1) (by omega) (by omega)];cases k with
  | zero => omega
  | succ k => exact Lq code hl k n _ _ (by omega) (by omega) (by omega) (by omega)
theorem Zqz (code : List Int) (hl : code.length ≤ 1099511627776) : Ok (Ea big code) fun c => Zdw c := by
 rw [Zej];refine X7 (Lq code hl code.length big _ 0 (by omega) (by omega) (by unfold big; omega) (by omega)) fun c hc => ?_;rw [hc];exact ⟨Int.le_refl _, by show (0 : Int) ≤ _; omega, hl⟩
theorem LB (a lo hi : Int) : ZB big a lo hi = some (decide (lo ≤ a) && decide (a ≤ hi)) := by
 rw [Nj];cases decide (lo ≤ a) <;> rfl
theorem Oy (x : Int) : ¬ IntKind.u64.wrap x < 0 := by
 unfold IntKind.wrap;simp only [IntKind.bits, IntKind.signed];have : (0 : Int) < 2 ^ 64 := by decide
 have := Int.emod_nonneg x (show (2 : Int) ^ 64 ≠ 0 by decide);simp;omega
theorem Zap (s : Int) : Ok (YB big s) fun _ => True := by
 rw [XZ];have loop : ∀ (k n : Nat) (a i : Int), 0 ≤ i → i ≤ 7 → 7 ≤ i + k → k < n → Ok (Vs n s a i) fun _ => True := by
  intro k
  induction k with
  | zero =>
   intro n a i h0 h1 h2 h3;obtain ⟨n, rfl⟩ : ∃ m, n = m + 1 := ⟨n - 1, by omega⟩
   rw [Y2];exact Ze (fun hc => by omega) (fun _ => Za trivial)
  | succ k ih =>
   intro n a i h0 h1 h2 h3;obtain ⟨n, rfl⟩ : ∃ m, n = m + 1 := ⟨n - 1, by omega⟩
   rw [Y2];refine Ze (fun hc => Ze (fun _ => BG (Oy _) ?_) (fun _ => Za trivial)) (fun _ => Za trivial);rw [Zx (n := i + 1) (by omega) (by omega)];exact ih n _ _ (by omega) (by omega) (by omega) (by omega)
 exact loop 7 big 0 0 (by omega) (by omega) (by omega) (by unfold big; omega)
theorem Znm (n : Int) : Ok (Qw big n) fun _ => True := by
 rw [Aj];exact Ze (fun _ => Za trivial) (fun _ => Za trivial)
theorem Pk (n : Int) : Ok (Vd big n) fun _ => True := by
 rw [Zeq];exact Zb (Znm n) fun _ _ => Za trivial
theorem WC (v n : Int) : Ok (YW big v n) fun _ => True := by
 rw [Ru];exact Ze (fun _ => Za trivial) fun h => Ze (fun _ => Za trivial) fun _ => BG (by omega) (Za trivial)
theorem Zaq (x : Zi) (i : Int) : Ok (WA big x i) fun _ => True := by
 rw [Zh5];refine Ze (fun _ => ?_) (fun _ => Za trivial);rw [LB];refine Zb (Za (P := fun _ => True) trivial) fun y _ => Z1 (fun _ => Ze (fun _ => BG (Oy _) (Za trivial)) (fun _ => Za trivial)) (fun _ => Za trivial)
theorem Lu (x : Zi) (i : Int) (hl : List.length x.2.2.2.2.1 ≤ 1000) : Ok (XM big x i) fun b => b = true → 0 ≤ i ∧ i < (List.length x.2.2.2.2.1 : Int) := by
 rw [OF, LB];rw [Zx (n := (List.length x.2.2.2.2.1 : Int) - 1) (by omega) (by omega)];simp only [Option.bind_some];refine Z1 (fun h => ?_) (fun _ => Za fun h => by cases h);simp only [Bool.and_eq_true, decide_eq_true_eq] at h;rw [LB];simp only [Option.bind_some];exact Z1 (fun _ => Zb (Zaq x i) fun _ _ => Za fun _ => ⟨h.1, by omega⟩) (fun _ => Za fun h => by cases h)
theorem Znn (a b : H5) : YO big a b = some (bif decide (a.2.1 < b.2.1) then b else a) := by
 rw [Rx];cases decide (a.2.1 < b.2.1) <;> rfl
theorem AU (a b : H5) : Ok (YO big a b) fun r => (r = a ∨ r = b) ∧ a.2.1 ≤ r.2.1 := by
 rw [Znn]
 by_cases h : a.2.1 < b.2.1
 ·rw [decide_eq_true h]; exact Za ⟨.inr rfl, Int.le_of_lt h⟩
 ·rw [decide_eq_false h]; exact Za ⟨.inl rfl, Int.le_refl _⟩
theorem Zno (p : Zw) (a b : Int) : Ok (VZ big p a b) fun _ => True := by
 rw [Za8];exact Ze (fun _ => Za trivial) fun _ => Ze (fun _ => Za trivial) (fun _ => Za trivial)
theorem ZlQ {α : Type} {P : α → Prop} {L : Nat} (hL : L ≤ 4294967296) {I : Int → Prop} {f : Nat → Int → Option α}
  (step : ∀ (n : Nat) (i : Int), 0 ≤ i → i < L → I i → (∀ i', i' = i + 1 → I i' → Ok (f n i') P) → Ok (f (n + 1) i) P)
  (done : ∀ n : Nat, I L → Ok (f (n + 1) L) P) : ∀ (k n : Nat) (i : Int), 0 ≤ i → i ≤ L → (L : Int) ≤ i + k → k < n → I i → Ok (f n i) P
 | k, 0, i, _, _, _, h, _ => by omega
 | 0, n + 1, i, h0, h1, h2, _, hi => by
  have : i = L := by omega
  subst this;exact done n hi
 | k + 1, n + 1, i, h0, h1, h2, h3, hi => by
  rcases Int.lt_or_le i L with hl | hl
  ·exact step n i h0 hl hi fun i' e hi' => ZlQ hL step done k n i' (by omega) (by omega) (by omega) (by omega) hi'
  ·have : i = L := by omega
   subst this;exact done n hi
theorem up0 {α : Type} {P : α → Prop} {L : Nat} (hL : L ≤ 4294967296) {f : Nat → Int → Option α}
  (step : ∀ (n : Nat) (i : Int), 0 ≤ i → i < L → (∀ i', i' = i + 1 → Ok (f n i') P) → Ok (f (n + 1) i) P)
  (done : ∀ n : Nat, Ok (f (n + 1) L) P) : Ok (f big 0) P :=
 ZlQ (I := fun _ => True) hL (fun n i h0 h1 _ k => step n i h0 h1 fun i' e => k i' e trivial) (fun n _ => done n) L big 0 (by omega) (by omega) (by omega) (by unfold big; omega) trivial
theorem ZrX (l : List Z3) (v : Z3) (hl : l.length ≤ 4294967296) : Ok (Mb big l v) fun _ => True := by
 rw [Zex];refine up0 (L := l.length) hl (f := fun n i => Ve n l i v.1 v.2.1 v.2.2.1 v.2.2.2.1) (fun n i h0 h1 k => ?_) (fun n => ?_)
 ·rw [Cs, Zx (n := i + 1) (by omega) (by omega)]
  refine Ze (fun _ => Zm h0 (ZD (by omega) fun y _ => Ze (fun _ => Zm h0 (ZD (by omega) fun y _ => Ze (fun _ => Zm h0 (ZD (by omega) fun y _ => Ze (fun _ => Za trivial) (fun _ => k _ rfl))) (fun _ => k _ rfl))) (fun _ => k _ rfl))) (fun h => by omega)
 ·rw [Cs]
  exact Ze (fun h => by omega) (fun _ => Za trivial)
theorem Zim (s : ByteArray) (hs : s.size ≤ 4294967296) : Ok (JC big s) fun _ => True := by
 rw [Ns];have hl : s.data.toList.length = s.size := by rw [Array.length_toList]; rfl
 refine up0 (L := s.size) hs (f := fun n i => QI n s i) (fun n i h0 h1 k => ?_) (fun n => ?_)
 ·rw [Ud, Zx (n := i + 1) (by omega) (by omega)]
  refine Ze (fun _ => Zm h0 (ZD (by omega) fun y _ => Ze (fun _ => Za trivial) fun _ => Zm h0 (ZD (by omega) fun y _ => Ze (fun _ => Za trivial) fun _ => k _ rfl))) (fun h => by omega)
 ·rw [Ud, LB]
  exact Ze (fun h => by omega) (fun _ => Za trivial)
structure ZqA (l : List VX) : Prop where
 len : l.length ≤ 4
 key : ∀ c ∈ l, ByteArray.size c.2.1 ≤ 1000
structure WU (t : List ZL) : Prop where
 lo : 1 ≤ t.length
 hi : t.length ≤ 60
 cmds : ∀ b ∈ t, ZqA b.2.2.1
 view : ∀ b ∈ t, 0 ≤ b.2.1 ∧ b.2.1 ≤ 900
 first : ∀ b, nth t 0 = some b → b.2.2.2.1.2.1 = 0 ∧ b.2.2.2.1.2.2.1 = 0
 just : ∀ (k : Nat) b, nth t k = some b → 0 < k → 0 ≤ b.1 ∧ b.1 < (k : Int) ∧ b.2.2.2.1.2.2.1 = b.1
inductive Up (t : List ZL) : Int → Prop
 | zero : Up t 0
 | step {k : Int} {b : ZL} : 0 < k → k < t.length → nth t k.toNat = some b → 0 ≤ b.1 → b.1 < k → Up t b.1 → Up t k
theorem MP {t : List ZL} (ht : WU t) (k : Int) : Ok (Ur big t k) fun h => (0 ≤ h → Up t k) ∧ (k = 0 → h ≤ 0) := by
 have hlo := ht.lo; have hhi := ht.hi;rw [RU];have loop : ∀ (m n : Nat) (k a : Int), k ≤ m → m < n → Ok (Ue n t k a) fun h => (0 ≤ h → Up t k) ∧ (k = 0 → h = a) := by
  intro m
  induction m with
  | zero =>
   intro n k a h1 h2;obtain ⟨n, rfl⟩ : ∃ m, n = m + 1 := ⟨n - 1, by omega⟩
   rw [V0, LB];refine Yq (fun hk => ?_) (fun hk => ?_)
   ·simp only [Option.bind_some]
    have : (decide (0 ≤ k) && decide (k ≤ K6.wrap ((↑(List.length t) : Int) - 1))) = false := by
     rw [decide_eq_false (by omega)]; rfl
    rw [this];exact Za ⟨fun h => by omega, fun h => absurd h hk⟩
   ·subst hk
    exact Ze (fun h => by omega) (fun _ => Za ⟨fun _ => .zero, fun _ => rfl⟩)
  | succ m ih =>
   intro n k a h1 h2;obtain ⟨n, rfl⟩ : ∃ m, n = m + 1 := ⟨n - 1, by omega⟩
   rw [V0, LB, Zx (n := (↑(List.length t) : Int) - 1) (by omega) (by omega)];refine Yq (fun hk => ?_) (fun hk => ?_)
   ·simp only [Option.bind_some]
    refine ZT (fun _ => Za ⟨fun h => by omega, fun h => absurd h hk⟩) (fun hc => ?_);simp only [Bool.and_eq_true, decide_eq_true_eq] at hc;have hlt : k.toNat < t.length := by omega
    have hn : nth t k.toNat = some t[k.toNat] := YV hlt;rw [hn];simp only [Option.bind_some, LB];refine Zm hc.1 (ZT (fun _ => Za ⟨fun h => by omega, fun h => absurd h hk⟩) (fun hd => Zm hc.1 ?_));rw [Zx (n := k - 1) (by omega) (by omega)] at hd;simp only [Bool.and_eq_true, decide_eq_true_eq] at hd;refine X7 (ih n _ _ (by omega) (by omega)) fun h hh => ⟨fun h0 => .step (by omega) (by omega) hn hd.1 (by omega) (hh.1 h0), fun e => absurd e hk⟩
   ·subst hk
    exact Ze (fun h => by omega) (fun _ => Za ⟨fun _ => .zero, fun _ => rfl⟩)
 rcases Int.lt_or_le 60 k with hk | hk
 ·obtain ⟨n, hn⟩ : ∃ n, big = n + 1 := ⟨big - 1, rfl⟩
  rw [hn, V0, LB, Zx (n := (↑(List.length t) : Int) - 1) (by omega) (by omega)];refine Yq (fun _ => ?_) (fun h => by omega);simp only [Option.bind_some];refine ZT (fun _ => Za ⟨fun h => by omega, fun h => by omega⟩) (fun hc => ?_);simp only [Bool.and_eq_true, decide_eq_true_eq] at hc;omega
 ·exact X7 (loop 60 big k 0 (by omega) (by unfold big; omega)) fun h hh => ⟨hh.1, fun e => by have := hh.2 e; omega⟩
theorem Up.lt {t : List ZL} {k : Int} (h : Up t k) (ht : 1 ≤ t.length) : 0 ≤ k ∧ k < t.length := by
 cases h with
 | zero => exact ⟨Int.le_refl _, by omega⟩
 | step h1 h2 _ _ _ _ => exact ⟨by omega, h2⟩
theorem Zar {t : List ZL} (ht : WU t) (k u : Int) : Ok (QK big t k u) fun b => b = true → Up t k := by
 have hlo := ht.lo; have hhi := ht.hi;rw [Zba];have loop : ∀ {k : Int}, Up t k → ∀ n : Nat, k < n → Ok (Qi n t k u) fun _ => True := by
  intro k hk
  induction hk with
  | zero =>
   intro n h2;obtain ⟨n, rfl⟩ : ∃ m, n = m + 1 := ⟨n - 1, by omega⟩
   rw [A8];exact Ze (fun h => by omega) (fun _ => Za trivial)
  | step h1 h2 h3 h4 h5 _ ih =>
   intro n hn;obtain ⟨n, rfl⟩ : ∃ m, n = m + 1 := ⟨n - 1, by omega⟩
   rw [A8, h3];simp only [Option.bind_some];exact Ze (fun _ => Yq (fun _ => Zm (by omega) (ih n (by omega))) (fun _ => Za trivial)) (fun h => by omega)
 refine Zb (MP ht k) fun h hh => Ze (fun _ => Za fun e => by cases e) (fun hc => ?_);have hu := hh.1 (by omega);exact X7 (loop hu big (by have := (hu.lt hlo).2; unfold big; omega)) fun _ _ _ => hu
theorem ZoW {t : List ZL} (ht : WU t) (k : Int) : Ok (R8 big t k) fun l => l.length ≤ 60 ∧ ∀ x ∈ l, 0 ≤ x ∧ x < t.length := by
 have hlo := ht.lo; have hhi := ht.hi;rw [Zgm];have loop : ∀ {k : Int}, Up t k → ∀ (n : Nat) (l : List Int), k < n → (l.length : Int) + k ≤ 60 → (∀ x ∈ l, 0 ≤ x ∧ x < t.length) → Ok (Ar n t k l) fun l => l.length ≤ 60 ∧ ∀ x ∈ l, 0 ≤ x ∧ x < t.length := by
  intro k hk
  induction hk with
  | zero =>
   intro n l h2 hl hx;obtain ⟨n, rfl⟩ : ∃ m, n = m + 1 := ⟨n - 1, by omega⟩
   rw [EV];exact Ze (fun h => by omega) (fun _ => Za ⟨by omega, hx⟩)
  | @step k b h1 h2 h3 h4 h5 _ ih =>
   intro n l hn hl hx;obtain ⟨n, rfl⟩ : ∃ m, n = m + 1 := ⟨n - 1, by omega⟩
   rw [EV, h3];simp only [Option.bind_some];refine Ze (fun _ => Zm (by simp only [List.length_singleton]; unfold lim; omega) (Zm (by omega) (ih n (k :: l) (by omega) (by simp only [List.length_cons]; omega) ?_))) (fun h => by omega);intro x hm;rcases List.mem_cons.1 hm with rfl | hm
   ·exact ⟨by omega, h2⟩
   ·exact hx x hm
 refine Zb (MP ht k) fun h hh => Ze (fun _ => Za ⟨by simp, by simp⟩) (fun hc => ?_);have hu := hh.1 (by omega);have := (hu.lt hlo).2;exact loop hu big [] (by unfold big; omega) (by simp only [List.length_nil]; omega) (by simp)
theorem Zdx {t : List ZL} (ht : WU t) (k u : Int) : Ok (Kt big t k u) fun l => l.length ≤ 60 ∧ ∀ x ∈ l, 0 ≤ x ∧ x < t.length := by
 rw [Sd];refine Zb (Zar ht k u) fun b _ => ZT (fun _ => Za ⟨by simp, by simp⟩) (fun _ => Zb (ZoW ht k) fun row hrow => ?_);have loop : ∀ (m n : Nat) (i : Int) (l : List Int), 0 ≤ i → i ≤ row.length → (row.length : Int) ≤ i + m → m < n → (l.length : Int) ≤ i → (∀ x ∈ l, 0 ≤ x ∧ x < t.length) →
   Ok (WP n u l i row) fun l => l.length ≤ 60 ∧ ∀ x ∈ l, 0 ≤ x ∧ x < t.length := by
  have hr := hrow.1;intro m
  induction m with
  | zero =>
   intro n i l h0 h1 h2 h3 h4 h5;obtain ⟨n, rfl⟩ : ∃ m, n = m + 1 := ⟨n - 1, by omega⟩
   rw [JG];exact Ze (fun h => by omega) (fun _ => Za ⟨by omega, h5⟩)
  | succ m ih =>
   intro n i l h0 h1 h2 h3 h4 h5;obtain ⟨n, rfl⟩ : ∃ m, n = m + 1 := ⟨n - 1, by omega⟩
   rw [JG, Zx (n := i + 1) (by omega) (by omega)];refine Ze (fun hc => Zm h0 (Zm hc (ZD (by omega) fun y hy => Ze (fun _ => Zm h0 (Zm hc (ZD (by omega) fun y hy => Zm (by simp only [List.length_singleton]; unfold lim; omega) ?_))) (fun _ => ?_)))) (fun _ => Za ⟨by omega, h5⟩)
   ·refine ih n (i + 1) _ (by omega) (by omega) (by omega) (by omega) (by rw [List.append_eq, List.length_append]; simp only [List.length_singleton]; omega) ?_
    intro x hx;rcases List.mem_append.1 (show x ∈ l ++ [y] from hx) with hx | hx
    ·exact h5 x hx
    ·simp only [List.mem_singleton] at hx; subst hx; exact hrow.2 _ hy
   ·exact ih n (i + 1) l (by omega) (by omega) (by omega) (by omega) (by omega) h5
 exact loop row.length big 0 [] (by omega) (by omega) (by omega) (by have := hrow.1; unfold big; omega) (by simp) (by simp)
theorem ZlR {t : List ZL} (ht : WU t) (k : Int) : Ok (Ks big t k) fun r => r.2.2.2.1 = true → (0 ≤ k ∧ k < t.length) ∧ (0 ≤ r.1 ∧ r.1 < t.length) ∧ (0 ≤ r.2.1 ∧ r.2.1 < t.length) ∧ (0 ≤ r.2.2.1 ∧ r.2.2.1 < t.length) := by
 have hlo := ht.lo; have hhi := ht.hi;rw [RX];refine Zb (MP ht k) fun h hh => Ze (fun _ => Za fun e => by cases e) (fun hc => ?_);have hu := (hh.1 (by omega)).lt hlo;refine Zm hu.1 (ZD (by omega) fun b _ => ?_);simp only [LB, Option.bind_some, Zx (n := k - 1) (by omega) (by omega), Zx (n := (↑(List.length t) : Int) - 1) (by omega) (by omega)];refine ZT (fun _ => Za fun e => by cases e) (fun h1 => ?_);simp only [Bool.and_eq_true, decide_eq_true_eq] at h1;refine Zm h1.1 (ZD (by omega) fun b2 _ => ZT (fun _ => Za fun e => by cases e) (fun h2 => ?_));simp only [Bool.and_eq_true, decide_eq_true_eq] at h2;refine Zm h2.1 (ZD (by omega) fun b3 _ => ZT (fun _ => Za fun e => by cases e) (fun h3 => Za fun _ => ?_));simp only [Bool.and_eq_true, decide_eq_true_eq] at h3;dsimp only;exact ⟨hu, ⟨h1.1, by omega⟩, ⟨h2.1, by omega⟩, h3.1, by omega⟩
theorem ZoX (l : List Z3) (hl : l.length ≤ 4294967296) (a b c : Int) : ∀ (m : Nat) (n : Nat) (i acc : Int), 0 ≤ i → i ≤ 7 → (7 : Int) ≤ i + m → m * (l.length + 2) + 1 ≤ n → Ok (Wp n l a b c acc i) fun _ => True := by
 intro m
 induction m with
 | zero =>
  intro n i acc h0 h1 h2 h3;obtain ⟨n, rfl⟩ : ∃ m, n = m + 1 := ⟨n - 1, by omega⟩
  rw [Kq];exact Ze (fun h => by omega) (fun _ => Za trivial)
 | succ m ih =>
  intro n i acc h0 h1 h2 h3;obtain ⟨n, rfl⟩ : ∃ m, n = m + 1 := ⟨n - 1, by omega⟩
  rw [Kq];refine Ze (fun hc => ?_) (fun _ => Za trivial);have h3' : m * (l.length + 2) + (l.length + 2) ≤ n := by rw [Nat.succ_mul] at h3; omega
  have inner : ∀ (q : Nat) (n : Nat) (j : Int), 0 ≤ j → j ≤ l.length → (l.length : Int) ≤ j + q → m * (l.length + 2) + 1 + q + 1 ≤ n → Ok (YX n l a b c acc i j) fun _ => True := by
   intro q
   induction q with
   | zero =>
    intro n j g0 g1 g2 g3;obtain ⟨n, rfl⟩ : ∃ m, n = m + 1 := ⟨n - 1, by omega⟩
    rw [Kr, Zx (n := i + 1) (by omega) (by omega)];exact Ze (fun h => by omega) (fun _ => ih n _ _ (by omega) (by omega) (by omega) (by omega))
   | succ q ihq =>
    intro n j g0 g1 g2 g3;obtain ⟨n, rfl⟩ : ∃ m, n = m + 1 := ⟨n - 1, by omega⟩
    rw [Kr, Zx (n := i + 1) (by omega) (by omega), Zx (n := j + 1) (by omega) (by omega)];refine Ze (fun hj => ?_) (fun _ => ih n _ _ (by omega) (by omega) (by omega) (by omega));have next : Ok (YX n l a b c acc i (j + 1)) fun _ => True := ihq n (j + 1) (by omega) (by omega) (by omega) (by omega)
    exact Zm g0 (ZD (by omega) fun y _ => Ze (fun _ => Ze (fun _ => Ze (fun _ => Ze (fun _ => BG (Oy _) (ih n _ _ (by omega) (by omega) (by omega) (by omega))) (fun _ => next)) (fun _ => next)) (fun _ => next)) (fun _ => next))
  exact inner l.length n 0 (by omega) (by omega) (by omega) (by omega)
theorem Zas (l : List Z3) (hl : l.length ≤ 4294967296) (a b c : Int) : Ok (XO big l a b c) fun _ => True := by
 rw [OJ];exact ZoX l hl a b c 7 big 0 0 (by omega) (by omega) (by omega) (by unfold big; omega)
theorem Zg6 (l : List Z3) (hl : l.length ≤ 4294967296) (a b c n : Int) : Ok (Ap big l a b c n) fun r => r.1.2.1 = 0 ∨ r.1.2.1 = b := by
 rw [Zh7];exact Zb (Zas l hl a b c) fun y _ => Zb (Zap y) fun _ _ => Zb (Pk n) fun _ _ => Ze (fun _ => Za (.inl rfl)) (fun _ => Za (.inr rfl))
theorem Zi8 (l : List Z3) (hl : l.length ≤ 4294967296) (q : H5) (z : Int) : Ok (Vf big l q z) fun _ => True := by
 rw [ZeA];refine Ze (fun _ => Za trivial) fun _ => Zb (Zas l hl _ _ _) fun y _ => ?_;refine up0 (L := 7) (by decide) (f := fun n i => Vg n z y i q.1 q.2.1 q.2.2.1 q.2.2.2.1) (fun n i h0 h1 k => ?_) (fun n => ?_)
 ·rw [CI, Zx (n := i + 1) (by omega) (by omega)]
  refine Ze (fun _ => BG (Oy _) ?_) (fun h => by omega)
  repeat' first
   | exact k _ rfl
   | exact Za trivial
   | exact Oy _
   | refine BG (Oy _) ?_
   | refine Yq (fun _ => ?_) (fun _ => ?_)
   | refine Ze (fun _ => ?_) (fun _ => ?_)
   | refine ZT (fun _ => ?_) (fun _ => ?_)
   | refine Z1 (fun _ => ?_) (fun _ => ?_)
 ·rw [CI]
  refine Ze (fun h => by omega) (fun _ => ?_)
  repeat' first
   | exact Za trivial
   | refine Ze (fun _ => ?_) (fun _ => ?_)
theorem Ze9 {t : List ZL} (ht : WU t) (n : Int) (v : Z3) : Ok (Ec big t n v) fun _ => True := by
 have hlo := ht.lo; have hhi := ht.hi;rw [Zev];simp only [LB, Option.bind_some, Zx (n := (↑(List.length t) : Int) - 1) (by omega) (by omega)];refine Z1 (fun _ => Z1 (fun _ => Z1 (fun _ => Z1 (fun h => ?_) (fun _ => Za trivial)) (fun _ => Za trivial)) (fun _ => Za trivial)) (fun _ => Za trivial);simp only [Bool.and_eq_true, decide_eq_true_eq] at h;exact Zm (by omega) (ZD (by omega) fun y _ => Ze (fun _ => Za trivial) (fun _ => Za trivial))
theorem Zat {t : List ZL} (ht : WU t) (n : Int) (q : H5) : Ok (Xr big t n q) fun _ => True := by
 rw [Za4];refine Z1 (fun _ => Za trivial) (fun _ => Zb (Ze9 ht n _) fun y _ => ZT (fun _ => Za trivial) fun _ => BG (Oy _) ?_);simp only [LB, Option.bind_some];exact Z1 (fun _ => Zb (Zap _) fun _ _ => Zb (Pk n) fun _ _ => Za trivial) (fun _ => Za trivial)
theorem ZlS (p : Zw) (n : Int) (c : Bool) : Ok (Is big p n c) fun _ => True := by
 rw [Zgj];exact Zb (WC _ _) fun _ _ => Yq (fun _ => Za trivial) fun _ => Ze (fun _ => Za trivial) fun _ => Zb (Pk n) fun _ _ => Ze (fun _ => Za trivial) fun _ => Ze (fun _ => Za trivial) fun _ => Z1 (fun _ => Za trivial) (fun _ => Za trivial)
theorem ZlT {t : List ZL} {b c : Int} (hb : 0 ≤ b ∧ b < t.length) (hc : 0 ≤ c ∧ c < t.length) : Ok (QL big t b c) fun _ => True := by
 rw [Zbc];exact Yq (fun _ => Yq (fun _ => Zm hb.1 (ZD (by omega) fun _ _ => Zm hc.1 (ZD (by omega) fun _ _ => Za trivial))) (fun _ => Za trivial)) (fun _ => Za trivial)
theorem Zkc {t : List ZL} (ht : WU t) (k : Int) : Ok (CC big t k) fun _ => True := by
 rw [R1];refine Zb (ZlR ht k) fun y hy => ZT (fun _ => Za trivial) fun hc => ?_;obtain ⟨_, h1, h2, h3⟩ := hy hc;exact Zb (ZlT h1 h2) fun _ _ => ZT (fun _ => Za trivial) fun _ => Zm h2.1 (ZD (by omega) fun _ _ => Zm h3.1 (ZD (by omega) fun _ _ => Yq (fun _ => Za trivial) (fun _ => Za trivial)))
theorem Zn4 {t : List ZL} (ht : WU t) (q : H5) (k : Int) : Ok (Qj big t q k) fun _ => True := by
 have hlo := ht.lo; have hhi := ht.hi;rw [OL];simp only [LB, Option.bind_some, Zx (n := (↑(List.length t) : Int) - 1) (by omega) (by omega)];refine ZT (fun _ => Za trivial) fun h => ?_;simp only [Bool.and_eq_true, decide_eq_true_eq] at h;exact Zb (Zar ht k _) fun _ _ => Z1 (fun _ => Za trivial) (fun _ => Zm h.1 (ZD (by omega) fun _ _ => Za trivial))
theorem ZlU (b : ZL) (h : List.length b.2.2.1 ≤ 4294967296) : Ko big b = some b := by
 rw [Rz, if_pos (by unfold lim; omega)]
theorem ZqB {t : List ZL} (h1 : t.length ≤ 1000) (h2 : ∀ b ∈ t, List.length b.2.2.1 ≤ 4294967296) : F7 big t = some t := by
 rw [ZaW];have loop : ∀ (m n i : Nat), t.length ≤ i + m → m < n → i ≤ t.length → Qe n t (t.take i) (i : Int) = some t := by
  intro m
  induction m with
  | zero =>
   intro n i g0 g1 g2;obtain ⟨n, rfl⟩ : ∃ m, n = m + 1 := ⟨n - 1, by omega⟩
   rw [UD, decide_eq_false (by omega), cond_false, List.take_of_length_le (by omega)]
  | succ m ih =>
   intro n i g0 g1 g2;obtain ⟨n, rfl⟩ : ∃ m, n = m + 1 := ⟨n - 1, by omega⟩
   rcases Nat.lt_or_ge i t.length with hi | hi
   ·rw [UD, decide_eq_true (by omega), cond_true, if_pos (by omega), Int.toNat_natCast, YV hi, Option.bind_some, ZlU _ (h2 _ (List.getElem_mem hi)), Option.bind_some,
     if_pos (by rw [List.length_take]; simp only [List.length_singleton]; unfold lim; omega), Xo (by omega)]
    have e : (t.take i).append [t[i]] = t.take (i + 1) := by
     rw [List.append_eq, List.take_succ_eq_append_getElem hi]
    rw [e];exact ih n (i + 1) (by omega) (by omega) (by omega)
   ·rw [UD, decide_eq_false (by omega), cond_false, List.take_of_length_le (by omega)]
 have := loop t.length big 0 (by omega) (by unfold big; omega) (by omega);rw [List.take_zero] at this;exact this
theorem ZqC (a b : ZL) (h : List.length a.2.2.1 ≤ 4294967296) : Ok (Am big a b) fun _ => True := by
 rw [OH];refine Yq (fun _ => Za trivial) fun _ => Yq (fun _ => Za trivial) fun _ => ZT (fun _ => Za trivial) fun _ => Yq (fun _ => Za trivial) fun he => ?_;refine up0 (L := List.length a.2.2.1) h (f := fun n i => Vt n i a.1 a.2.1 a.2.2.1 a.2.2.2.1.1 a.2.2.2.1.2.1 a.2.2.2.1.2.2.1 a.2.2.2.1.2.2.2.1 b.1 b.2.1 b.2.2.1 b.2.2.2.1.1 b.2.2.2.1.2.1 b.2.2.2.1.2.2.1 b.2.2.2.1.2.2.2.1) (fun n i h0 h1 k => ?_) (fun n => ?_)
 ·rw [Kp, Zx (n := i + 1) (by omega) (by omega)]
  exact Ze (fun _ => Zm h0 (ZD (by omega) fun _ _ => Zm h0 (ZD (by omega) fun _ _ => ZT (fun _ => Za trivial) fun _ => k _ rfl))) (fun h => by omega)
 ·rw [Kp]
  exact Ze (fun h => by omega) (fun _ => Za trivial)
theorem ZlV {t : List ZL} (ht : WU t) (b : ZL) : Ok (Ga big t b) fun r => -1 ≤ r ∧ r < t.length := by
 have hlo := ht.lo; have hhi := ht.hi;rw [ZaY];refine up0 (L := t.length) (by omega) (f := fun n i => Qf n t i b.1 b.2.1 b.2.2.1 b.2.2.2.1.1 b.2.2.2.1.2.1 b.2.2.2.1.2.2.1 b.2.2.2.1.2.2.2.1) (fun n i h0 h1 k => ?_) (fun n => ?_)
 ·rw [A5, Zx (n := i + 1) (by omega) (by omega)]
  exact Ze (fun _ => Zm h0 (ZD (by omega) fun y hy => Zb (ZqC y _ (by have := (ht.cmds y hy).len; omega)) fun _ _ => Z1 (fun _ => Za ⟨by omega, h1⟩) (fun _ => k _ rfl))) (fun h => by omega)
 ·rw [A5]
  exact Ze (fun h => by omega) (fun _ => Za ⟨by omega, by omega⟩)
theorem ZlW (c : VX) (h : ByteArray.size c.2.1 ≤ 4294967296) : Ok (QJ big c) fun _ => True := by
 rw [Nu];simp only [LB, Option.bind_some];exact Z1 (fun _ => Zb (Zim _ h) fun _ _ => Z1 (fun _ => Za trivial) (fun _ => Za trivial)) (fun _ => Za trivial)
theorem ZlX {t : List ZL} (ht : WU t) (b : ZL) (hb : ∀ c ∈ b.2.2.1, ByteArray.size c.2.1 ≤ 1000) : Ok (Gd big t b) fun r => r = true → List.length b.2.2.1 ≤ 4 ∧ (0 ≤ b.2.1 ∧ b.2.1 ≤ 900) ∧ 0 ≤ b.1 ∧ b.1 < t.length ∧ b.2.2.2.1.2.2.1 = b.1 := by
 have hlo := ht.lo; have hhi := ht.hi;rw [Za0];simp only [LB, Option.bind_some, Zx (n := (↑(List.length t) : Int) - 1) (by omega) (by omega)];refine ZT (fun _ => Za fun e => by cases e) fun h => ?_;simp only [Bool.and_eq_true, decide_eq_true_eq] at h;refine Zm h.1 (ZD (by omega) fun y hy => Ze (fun _ => Za fun e => by cases e) fun g1 => Ze (fun _ => Za fun e => by cases e) fun g2 => Ze (fun _ => Za fun e => by cases e) fun g3 => ?_);have hv := ht.view y hy;have fin : b.2.2.2.1.2.2.1 = b.1 → List.length b.2.2.1 ≤ 4 ∧ (0 ≤ b.2.1 ∧ b.2.1 ≤ 900) ∧ 0 ≤ b.1 ∧ b.1 < t.length ∧ b.2.2.2.1.2.2.1 = b.1 := fun e => ⟨by omega, by omega, h.1, by omega, e⟩
 refine up0 (L := List.length b.2.2.1) (by omega) (f := fun n i => Qg n t i b.1 b.2.1 b.2.2.1 b.2.2.2.1.1 b.2.2.2.1.2.1 b.2.2.2.1.2.2.1 b.2.2.2.1.2.2.2.1) (fun n i h0 h1 k => ?_) (fun n => ?_)
 ·rw [A6, Zx (n := i + 1) (by omega) (by omega)]
  exact Ze (fun _ => Zm h0 (ZD (by omega) fun c hc => Zb (ZlW c (by have := hb c hc; omega)) fun _ _ => ZT (fun _ => Za fun e => by cases e) fun _ => k _ rfl)) (fun h => by omega)
 ·rw [A6]
  exact Ze (fun h => by omega) (fun _ => Ze (fun e => Zm h.1 (ZD (by omega) fun _ _ => Za fun _ => fin e)) (fun _ => Za fun e => by cases e))
theorem Zdy {t : List ZL} (ht : WU t) (b : ZL) (hb : ∀ c ∈ b.2.2.1, ByteArray.size c.2.1 ≤ 1000) (hl : List.length b.2.2.1 ≤ 4294967296) : Ok (XH big t b) fun r => WU r.1 ∧ t.length ≤ List.length r.1 ∧ r.2.1 < List.length r.1 ∧ -1 ≤ r.2.1 ∧ ∀ V : Int, (∀ x ∈ t, x.2.1 ≤ V) → b.2.1 ≤ V → ∀ x ∈ r.1, x.2.1 ≤ V := by
 have hlo := ht.lo; have hhi := ht.hi;rw [RI, ZqB (by omega) (fun b hb => by have := (ht.cmds b hb).len; omega)];simp only [Option.bind_some];refine Zb (ZlV ht b) fun k hk => Ze (fun _ => Za ⟨ht, Nat.le_refl _, hk.2, hk.1, fun V h _ => h⟩) fun _ => Zb (ZlX ht b hb) fun y hy => ZT (fun _ => Za ⟨ht, Nat.le_refl _, by show (-1 : Int) < _; omega, by show (-1 : Int) ≤ -1; omega, fun V h _ => h⟩) fun hok => Ze (fun _ => Za ⟨ht, Nat.le_refl _, by show (-1 : Int) < _; omega, by show (-1 : Int) ≤ -1; omega, fun V h _ => h⟩) fun hm => ?_;obtain ⟨g1, g2, g3, g4, g5⟩ := hy hok;rw [ZlU b hl];simp only [Option.bind_some];refine Zm (by simp only [List.length_singleton]; unfold lim; omega) (Za ?_);have hlen : (List.append t [b]).length = t.length + 1 := by rw [List.append_eq, List.length_append]; rfl
 refine ⟨⟨by rw [hlen]; omega, by rw [hlen]; omega, fun x hx => ?_, fun x hx => ?_, fun x hx => ?_, fun k x hx hk => ?_⟩, by rw [hlen]; omega, by show (t.length : Int) < _; rw [hlen]; omega, by show (-1 : Int) ≤ t.length; omega, fun V h hb x hx => ?_⟩
 ·rcases List.mem_append.1 (show x ∈ t ++ [b] from hx) with hx | hx
  ·exact ht.cmds x hx
  ·simp only [List.mem_singleton] at hx; subst hx; exact ⟨g1, hb⟩
 ·rcases List.mem_append.1 (show x ∈ t ++ [b] from hx) with hx | hx
  ·exact ht.view x hx
  ·simp only [List.mem_singleton] at hx; subst hx; exact g2
 ·have : nth t 0 = some x := by
   rw [YV (show 0 < t.length by omega)];rw [YV (show 0 < (List.append t [b]).length by omega)] at hx;rw [← hx];exact congrArg some (List.getElem_append_left (bs := [b]) (show 0 < t.length by omega)).symm
  exact ht.first x this
 ·by_cases hkt : k < t.length
  ·have : nth t k = some x := by
    rw [YV hkt];rw [YV (show k < (List.append t [b]).length by omega)] at hx;rw [← hx];exact congrArg some (List.getElem_append_left (bs := [b]) hkt).symm
   exact ht.just k x this hk
  ·have hk1 : k < (List.append t [b]).length := BU hx
   have hk2 : k = t.length := by omega
   subst hk2;rw [YV hk1] at hx;have e : (List.append t [b])[t.length] = b := List.getElem_concat_length rfl hk1;rw [e] at hx;cases hx;exact ⟨g3, g4, g5⟩
 ·rcases List.mem_append.1 (show x ∈ t ++ [b] from hx) with hx | hx
  ·exact h x hx
  ·simp only [List.mem_singleton] at hx; subst hx; exact hb
structure YY (l : List Ys) : Prop where
 len : l.length ≤ 25
 key : ∀ c ∈ l, ByteArray.size c.1 ≤ 1000
structure ZlY (l : List Xv) : Prop where
 len : l.length ≤ 240
 key : ∀ c ∈ l, ByteArray.size c.1 ≤ 1000
structure Yu (B : Nat) (V : Int) (p : Zw) : Prop where
 row : List.length p.2.2.2.2.2.1 ≤ B
 cells : YY p.2.2.2.2.2.2.1
 early : List.length p.2.2.2.2.2.2.2.1 ≤ 60
 undos : ZlY p.2.2.2.2.2.2.2.2.1
 votes : List.length p.2.2.2.2.2.2.2.2.2.1 ≤ B
 news : List.length p.2.2.2.2.2.2.2.2.2.2.1 ≤ B
 view : 1 ≤ p.2.1 ∧ p.2.1 ≤ V
 top : V ≤ 900
 hq : 0 ≤ p.2.2.1.2.1 ∧ 0 ≤ p.2.2.2.1.2.1
theorem Yu.mono {B B' : Nat} {V : Int} {p : Zw} (h : Yu B V p) (hb : B ≤ B') : Yu B' V p := ⟨Nat.le_trans h.row hb, h.cells, h.early, h.undos, Nat.le_trans h.votes hb, Nat.le_trans h.news hb, h.view, h.top, h.hq⟩
theorem Yu.up {B : Nat} {V V' : Int} {p : Zw} (h : Yu B V p) (hv : V ≤ V') (ht : V' ≤ 900) : Yu B V' p := ⟨h.row, h.cells, h.early, h.undos, h.votes, h.news, ⟨h.view.1, Int.le_trans h.view.2 hv⟩, ht, h.hq⟩
def idv (p : Zw) : Int × Int := (p.1, p.2.1)
theorem Zi9 {p q : Zw} (h : idv p = idv q) : p.1 = q.1 := by
 have := congrArg Prod.fst h;exact this
theorem FG {B : Nat} {V : Int} (hB : B ≤ 1000000000) {p : Zw} (h : Yu B V p) : YS big p = some p := by
 obtain ⟨h1, h2, h3, h4, h5, h6, _⟩ := h;have h2 := h2.len;have h4 := h4.len;rw [Za2, if_pos (by unfold lim; omega), if_pos (by unfold lim; omega), if_pos (by unfold lim; omega), if_pos (by unfold lim; omega), if_pos (by unfold lim; omega), if_pos (by unfold lim; omega)]
theorem UA {B : Nat} {V : Int} (hB : B ≤ 1000000000) {p : Zw} (h : Yu B V p) (v : Int) (hv : v ≤ V) : Ok (XN big p v) fun r => Yu B V r ∧ r.1 = p.1 := by
 rw [Za6, FG hB h];simp only [Option.bind_some];refine Ze (fun h1 => Ze (fun h2 => Za ⟨⟨h.row, h.cells, h.early, h.undos, Nat.zero_le _, Nat.zero_le _, ?_, h.top, h.hq⟩, rfl⟩) (fun _ => Za ⟨h, rfl⟩)) (fun _ => Za ⟨h, rfl⟩);have := h.view;exact ⟨by show 1 ≤ v; omega, hv⟩
theorem Zg7 {l : List Ys} (h : YY l) : Ok (As big l) fun b => b = true → l.length ≤ 12 := by
 have hl := h.len;rw [Zbp];refine up0 (L := l.length) (by omega) (f := fun n i => Vv n l i) (fun n i h0 h1 k => ?_) (fun n => ?_)
 ·rw [Be, Zx (n := i + 1) (by omega) (by omega), Zx (n := i - 1) (by omega) (by omega)]
  simp only [LB, Option.bind_some];refine Ze (fun _ => Zm h0 (ZD (by omega) fun y hy => Zb (Zim _ (by have := h.key y hy; omega)) fun _ _ => ZT (fun _ => Za fun e => by cases e) fun _ => Zm h0 (ZD (by omega) fun _ _ => ZT (fun _ => Za fun e => by cases e) fun _ => Ze (fun hp => ?_) (fun _ => k _ rfl)))) (fun h => by omega);exact Zm (by omega) (ZD (by omega) fun _ _ => Zm h0 (ZD (by omega) fun _ _ => ZT (fun _ => Za fun e => by cases e) fun _ => k _ rfl))
 ·rw [Be]
  exact Ze (fun h => by omega) (fun _ => Za fun e => by have := of_decide_eq_true e; omega)
theorem Lw {l : List Ys} {y : Ys} (h : ∀ c ∈ l, ByteArray.size c.1 ≤ 1000) (hy : ByteArray.size y.1 ≤ 1000) : ∀ c ∈ List.append l [y], ByteArray.size c.1 ≤ 1000 := fun c hc => by
 rcases List.mem_append.1 (show c ∈ l ++ [y] from hc) with hc | hc
 ·exact h c hc
 ·simp only [List.mem_singleton] at hc; subst hc; exact hy
theorem Y9 {α : Type} {l : List α} {y : α} : (List.append l [y]).length = l.length + 1 := by rw [List.append_eq, List.length_append]; rfl
theorem ZoY {l : List Ys} (hl : l.length ≤ 12) (hk : ∀ c ∈ l, ByteArray.size c.1 ≤ 1000) (x : Ys) (hx : ByteArray.size x.1 ≤ 1000) : Ok (XA big l x) YY := by
 rw [ZeC];have second : ∀ (m n : Nat) (i : Int) (a : List Ys), 0 ≤ i → i ≤ l.length → (l.length : Int) ≤ i + m → m < n → (a.length : Int) ≤ 13 + i → (∀ c ∈ a, ByteArray.size c.1 ≤ 1000) → Ok (Ut n l a i x.1 x.2.1) YY := by
  intro m
  induction m with
  | zero =>
   intro n i a h0 h1 h2 h3 h4 h5;obtain ⟨n, rfl⟩ : ∃ m, n = m + 1 := ⟨n - 1, by omega⟩
   rw [CN];exact Ze (fun h => by omega) (fun _ => Za ⟨by omega, h5⟩)
  | succ m ih =>
   intro n i a h0 h1 h2 h3 h4 h5;obtain ⟨n, rfl⟩ : ∃ m, n = m + 1 := ⟨n - 1, by omega⟩
   rw [CN, Zx (n := i + 1) (by omega) (by omega)];refine Ze (fun _ => Zm h0 (ZD (by omega) fun y hy => ZT (fun _ => Zm h0 (ZD (by omega) fun y hy => Zm (by simp only [List.length_singleton]; unfold lim; omega) ?_)) (fun _ => ?_))) (fun _ => Za ⟨by omega, h5⟩)
   ·exact ih n (i + 1) _ (by omega) (by omega) (by omega) (by omega) (by rw [Y9]; omega) (Lw h5 (hk y hy))
   ·exact ih n (i + 1) a (by omega) (by omega) (by omega) (by omega) (by omega) h5
 have first : ∀ (m n : Nat) (i : Int) (a : List Ys), 0 ≤ i → i ≤ l.length → (l.length : Int) ≤ i + m → m + 20 < n → (a.length : Int) ≤ i → (∀ c ∈ a, ByteArray.size c.1 ≤ 1000) → Ok (Us n l a i x.1 x.2.1) YY := by
  intro m
  induction m with
  | zero =>
   intro n i a h0 h1 h2 h3 h4 h5;obtain ⟨n, rfl⟩ : ∃ m, n = m + 1 := ⟨n - 1, by omega⟩
   rw [CM];exact Ze (fun h => by omega) (fun _ => Zm (by simp only [List.length_singleton]; unfold lim; omega) (second l.length n 0 _ (by omega) (by omega) (by omega) (by omega) (by rw [Y9]; omega) (Lw h5 hx)))
  | succ m ih =>
   intro n i a h0 h1 h2 h3 h4 h5;obtain ⟨n, rfl⟩ : ∃ m, n = m + 1 := ⟨n - 1, by omega⟩
   rw [CM, Zx (n := i + 1) (by omega) (by omega)];refine Ze (fun _ => Zm h0 (ZD (by omega) fun y hy => Z1 (fun _ => Zm h0 (ZD (by omega) fun y hy => Zm (by simp only [List.length_singleton]; unfold lim; omega) ?_)) (fun _ => ?_))) (fun _ => Zm (by simp only [List.length_singleton]; unfold lim; omega) (second l.length n 0 _ (by omega) (by omega) (by omega) (by omega) (by rw [Y9]; omega) (Lw h5 hx)))
   ·exact ih n (i + 1) _ (by omega) (by omega) (by omega) (by omega) (by rw [Y9]; omega) (Lw h5 (hk y hy))
   ·exact ih n (i + 1) a (by omega) (by omega) (by omega) (by omega) (by omega) h5
 exact first l.length big 0 [] (by omega) (by omega) (by omega) (by unfold big; omega) (by simp) (by simp)
theorem Zja {l : List Ys} (h : l.length ≤ 4294967296) (s : ByteArray) : Ok (Ee big l s) fun r => r < l.length := by
 rw [ZeE];refine up0 (L := l.length) h (f := fun n i => Ku n l s i) (fun n i h0 h1 k => ?_) (fun n => ?_)
 ·rw [CP, Zx (n := i + 1) (by omega) (by omega)]
  exact Ze (fun _ => Zm h0 (ZD (by omega) fun _ _ => Ze (fun _ => Za h1) (fun _ => k _ rfl))) (fun h => by omega)
 ·rw [CP]
  exact Ze (fun h => by omega) (fun _ => Za (by omega))
set_option maxHeartbeats 4000000 in
theorem Zn5 {l : List Ys} (h : YY l) (c : VX) (hc : ByteArray.size c.2.1 ≤ 1000) : Ok (Pj big l c) fun r => YY r.1 := by
 have hl := h.len;rw [Zib];simp only [LB, Option.bind_some];refine Zm (by unfold lim; omega) (Zb (Zg7 h) fun b hb => ZT (fun _ => Za h) fun h1 => Zb (ZlW c (by omega)) fun _ _ => ZT (fun _ => Za h) fun _ => Zb (Zja (by omega) _) fun k hk => ?_);have put : ∀ n : Int, Ok ((XA big l (c.2.1, n, ())).bind fun y => some (y, (0 : Int), PUnit.unit)) fun r => YY r.1 := fun n => Zb (ZoY (hb h1) h.key _ hc) fun y hy => Za hy;have put2 : Ok ((XA big l c.2).bind fun y => some (y, (0 : Int), PUnit.unit)) fun r => YY r.1 := Zb (ZoY (hb h1) h.key _ hc) fun y hy => Za hy;have tail : ∀ (b2 : Bool) (n : Int) (K : Option (List Ys × Int × Unit)), Ok K (fun r => YY r.1) → Ok (bif !b2 then some (l, (2 : Int), PUnit.unit) else bif decide (k < 0) then bif decide ((12 : Int) ≤ (↑(List.length l) : Int)) then some (l, (2 : Int), PUnit.unit) else K else K) fun r => YY r.1 := fun b2 n K hK =>
  ZT (fun _ => Za h) fun _ => Ze (fun _ => Ze (fun _ => Za h) fun _ => hK) fun _ => hK
 refine Yq (fun _ => Ze (fun _ => Za h) fun hk0 => Zm (by omega) (ZD (by omega) fun y _ => Ze (fun _ => Zm (by omega) (ZD (by omega) fun y2 _ => tail _ 0 _ (put _))) fun _ => tail _ 0 _ (put _))) fun _ => tail _ 0 _ put2
theorem Zg8 {l : List Ys} (h : YY l) {cs : List VX} (hc : ∀ c ∈ cs, ByteArray.size c.2.1 ≤ 1000) (hn : cs.length ≤ 1000) : Ok (Au big l cs) fun r => YY r.1 := by
 have hl := h.len;rw [Zbr];refine Zm (by unfold lim; omega) ?_;have loop : ∀ (m n : Nat) (i : Int) (l : List Ys) (a : List Int), 0 ≤ i → i ≤ cs.length → (cs.length : Int) ≤ i + m → m < n → YY l → (a.length : Int) ≤ i → Ok (Qk n cs l a i) fun r => YY r.1 := by
  intro m
  induction m with
  | zero =>
   intro n i l a h0 h1 h2 h3 h4 h5;obtain ⟨n, rfl⟩ : ∃ m, n = m + 1 := ⟨n - 1, by omega⟩
   rw [Bf];exact Ze (fun h => by omega) (fun _ => Za h4)
  | succ m ih =>
   intro n i l a h0 h1 h2 h3 h4 h5;obtain ⟨n, rfl⟩ : ∃ m, n = m + 1 := ⟨n - 1, by omega⟩
   rw [Bf, Zx (n := i + 1) (by omega) (by omega)];exact Ze (fun _ => Zm h0 (ZD (by omega) fun c hm => Zb (Zn5 h4 c (hc c hm)) fun y hy => Zm (by unfold lim; omega) (ih n (i + 1) _ _ (by omega) (by omega) (by omega) (by omega) hy (by rw [Y9]; omega)))) (fun _ => Za h4)
 exact loop cs.length big 0 l [] (by omega) (by omega) (by omega) (by unfold big; omega) h (by simp)
theorem Znp {l : List Ys} (h : YY l) (s : ByteArray) : Ok (Mk big l s) fun u => u.1 = s := by
 have hl := h.len;rw [ZeH];exact Zb (Zja (by omega) s) fun k hk => Ze (fun _ => Za rfl) (fun _ => Zm (by omega) (ZD (by omega) fun _ _ => Za rfl))
theorem Znq {l : List Ys} (h : YY l) (u : Xv) (hu : ByteArray.size u.1 ≤ 1000) : Ok (Mn big l u) YY := by
 have hl := h.len;rw [ZeJ];simp only [LB, Option.bind_some];have same : Ok (if 0 + List.length l ≤ lim then some l else none) YY := Zm (by unfold lim; omega) (Za h);refine Zb (Zg7 h) fun b hb => ZT (fun _ => same) fun h1 => Zb (Zim _ (by omega)) fun _ _ => ZT (fun _ => same) fun _ => ZT (fun _ => same) fun _ => Z1 (fun _ => Zb (ZoY (hb h1) h.key _ hu) fun y hy => Za hy) fun _ => ?_;have loop : ∀ (m n : Nat) (i : Int) (a : List Ys), 0 ≤ i → i ≤ l.length → (l.length : Int) ≤ i + m → m < n → (a.length : Int) ≤ i → (∀ c ∈ a, ByteArray.size c.1 ≤ 1000) → Ok (Uu n l a i u.1 u.2.1 u.2.2.1) YY := by
  intro m
  induction m with
  | zero =>
   intro n i a h0 h1 h2 h3 h4 h5;obtain ⟨n, rfl⟩ : ∃ m, n = m + 1 := ⟨n - 1, by omega⟩
   rw [CQ];exact Ze (fun h => by omega) (fun _ => Za ⟨by omega, h5⟩)
  | succ m ih =>
   intro n i a h0 h1 h2 h3 h4 h5;obtain ⟨n, rfl⟩ : ∃ m, n = m + 1 := ⟨n - 1, by omega⟩
   rw [CQ, Zx (n := i + 1) (by omega) (by omega)];refine Ze (fun _ => Zm h0 (ZD (by omega) fun y hy => Yq (fun _ => Zm h0 (ZD (by omega) fun y hy => Zm (by simp only [List.length_singleton]; unfold lim; omega) ?_)) (fun _ => ?_))) (fun _ => Za ⟨by omega, h5⟩)
   ·exact ih n (i + 1) _ (by omega) (by omega) (by omega) (by omega) (by rw [Y9]; omega) (Lw h5 (h.key y hy))
   ·exact ih n (i + 1) a (by omega) (by omega) (by omega) (by omega) (by omega) h5
 exact loop l.length big 0 [] (by omega) (by omega) (by omega) (by unfold big; omega) (by simp) (by simp)
theorem Zin {l : List Ys} (h : YY l) {us : List Xv} (hu : ZlY us) : Ok (Aw big l us) YY := by
 have hl := h.len; have hun := hu.len;rw [ON, Zx (n := (↑(List.length us) : Int) - 1) (by omega) (by omega)];refine Zm (by unfold lim; omega) ?_;have loop : ∀ (m n : Nat) (i : Int) (l : List Ys), i < us.length → i + 1 ≤ m → -1 ≤ i → m < n → YY l → Ok (Vw n us l i) YY := by
  intro m
  induction m with
  | zero =>
   intro n i l h0 h1 h2 h3 h4;obtain ⟨n, rfl⟩ : ∃ m, n = m + 1 := ⟨n - 1, by omega⟩
   rw [Kv];exact Ze (fun h => by omega) (fun _ => Za h4)
  | succ m ih =>
   intro n i l h0 h1 h2 h3 h4;obtain ⟨n, rfl⟩ : ∃ m, n = m + 1 := ⟨n - 1, by omega⟩
   rw [Kv, Zx (n := i - 1) (by omega) (by omega)];exact Ze (fun hc => Zm hc (ZD (by omega) fun u hm => Zb (Znq h4 u (hu.key u hm)) fun y hy => ih n (i - 1) y (by omega) (by omega) (by omega) (by omega) hy)) (fun _ => Za h4)
 exact loop us.length big _ l (by omega) (by omega) (by omega) (by unfold big; omega) h
theorem Zkd {l : List Ys} (h : YY l) {cs : List VX} (hc : ZqA cs) : Ok (CT big l cs) fun r => YY r.1 ∧ List.length r.2.1 ≤ 4 ∧ ∀ u ∈ r.2.1, ByteArray.size u.1 ≤ 1000 := by
 have hl := h.len; have hcl := hc.len;rw [Sw];refine Zm (by unfold lim; omega) ?_;have loop : ∀ (m n : Nat) (i : Int) (l : List Ys) (a : List Xv), 0 ≤ i → i ≤ cs.length → (cs.length : Int) ≤ i + m → m < n → YY l → (a.length : Int) ≤ i → (∀ u ∈ a, ByteArray.size u.1 ≤ 1000) →
   Ok (Uf n cs l a i) fun r => YY r.1 ∧ List.length r.2.1 ≤ 4 ∧ ∀ u ∈ r.2.1, ByteArray.size u.1 ≤ 1000 := by
  intro m
  induction m with
  | zero =>
   intro n i l a h0 h1 h2 h3 h4 h5 h6;obtain ⟨n, rfl⟩ : ∃ m, n = m + 1 := ⟨n - 1, by omega⟩
   rw [JH];exact Ze (fun h => by omega) (fun _ => Za ⟨h4, by show a.length ≤ 4; omega, h6⟩)
  | succ m ih =>
   intro n i l a h0 h1 h2 h3 h4 h5 h6;obtain ⟨n, rfl⟩ : ∃ m, n = m + 1 := ⟨n - 1, by omega⟩
   rw [JH, Zx (n := i + 1) (by omega) (by omega)];refine Ze (fun _ => Zm h0 (ZD (by omega) fun c hm => Zb (Znp h4 c.2.1) fun u hu => Zm (by simp only [List.length_singleton]; unfold lim; omega) (Zm h0 (ZD (by omega) fun c2 hm2 => Zb (Zn5 h4 c2 (hc.key c2 hm2)) fun y hy => ?_)))) (fun _ => Za ⟨h4, by show a.length ≤ 4; omega, h6⟩);refine ih n (i + 1) _ _ (by omega) (by omega) (by omega) (by omega) hy (by rw [Y9]; omega) fun v hv => ?_;rcases List.mem_append.1 (show v ∈ a ++ [u] from hv) with hv | hv
   ·exact h6 v hv
   ·simp only [List.mem_singleton] at hv; subst hv; rw [hu]; exact hc.key c hm
 exact loop cs.length big 0 l [] (by omega) (by omega) (by omega) (by unfold big; omega) h (by simp) (by simp)
theorem Zn6 {B : Nat} {V : Int} {p : Zw} (h : Yu B V p) : Ok (Az big p) fun r => Yu B V r.2.1 ∧ idv r.2.1 = idv p ∧ r.2.1.2.2.2.2.2.2.2.1 = [] ∧ r.2.1.2.2.2.2.2.2.2.2.1 = [] ∧ r.2.1.2.2.2.2.2.1 = p.2.2.2.2.2.1 := by
 rw [Zbt];exact Zb (Zin h.cells h.undos) fun y hy => Za ⟨⟨h.row, hy, Nat.zero_le _, ⟨Nat.zero_le _, by simp⟩, h.votes, h.news, h.view, h.top, h.hq⟩, rfl, rfl, rfl, rfl⟩
theorem ZlZ {B : Nat} {V : Int} (hB : B ≤ 1000000000) {p : Zw} (h : Yu B V p) : Ok (QM big p) fun _ => True := by
 have := h.row;rw [Zbh, Zx (n := (↑(List.length p.2.2.2.2.2.1) : Int) - 1) (by omega) (by omega)];exact Ze (fun _ => Za trivial) (fun _ => Zm (by omega) (ZD (by omega) fun _ _ => Za trivial))
theorem Zke {t : List ZL} (ht : WU t) {row : List Int} (hr : row.length ≤ 1000000000) : Ok (C1 big t row) YY := by
 have hlo := ht.lo; have hhi := ht.hi;rw [SF];have loop : ∀ (m n : Nat) (i : Int) (l : List Ys), 0 ≤ i → i ≤ row.length → (row.length : Int) ≤ i + m → m < n → YY l → Ok (WQ n t row l i) YY := by
  intro m
  induction m with
  | zero =>
   intro n i l h0 h1 h2 h3 h4;obtain ⟨n, rfl⟩ : ∃ m, n = m + 1 := ⟨n - 1, by omega⟩
   rw [JK];exact Ze (fun h => by omega) (fun _ => Za h4)
  | succ m ih =>
   intro n i l h0 h1 h2 h3 h4;obtain ⟨n, rfl⟩ : ∃ m, n = m + 1 := ⟨n - 1, by omega⟩
   rw [JK, Zx (n := i + 1) (by omega) (by omega), Zx (n := (↑(List.length t) : Int) - 1) (by omega) (by omega)];refine Ze (fun hi => ?_) (fun _ => Za h4);have hlt : i.toNat < row.length := by omega
   rw [YV hlt];simp only [LB, Option.bind_some];refine Zm h0 (Z1 (fun hc => ?_) (fun _ => ih n (i + 1) l (by omega) (by omega) (by omega) (by omega) h4));simp only [Bool.and_eq_true, decide_eq_true_eq] at hc;exact Zm h0 (Zm hc.1 (ZD (by omega) fun b hb => Zb (Zg8 h4 (ht.cmds b hb).key (by have := (ht.cmds b hb).len; omega)) fun y hy => ih n (i + 1) _ (by omega) (by omega) (by omega) (by omega) hy))
 exact loop row.length big 0 [] (by omega) (by omega) (by omega) (by unfold big; omega) ⟨by simp, by simp⟩
theorem ZoZ {t : List ZL} (ht : WU t) {more : List Int} (hm : more.length ≤ 60) (hx : ∀ x ∈ more, 0 ≤ x ∧ x < t.length) (z0 : Int) (z1 : Int) (z2 : Int) (z3 : Int) (z4 : Int) (z5 : Int) (z6 : Int) (z7 : Int) (z8 : Int) (z9 : Int) (z10 : Int) (z11 : Int) (z12 : Int) (z13 : Int) (z14 : List Int) (z15 : List Ys) (z16 : List Int) (z17 : List Xv) (z18 : List Z3) (z19 : List Zo) (z20 : Int) (c0 : Int) (c1 : Int) (c2 : Int) (c3 : Int) (c4 : Int) (c5 : Int) (c6 : Int) (c7 : Int) (c8 : Int) (c9 : Int) (c10 : Int) (c11 : Int) (c12 : Int) (c13 : Int) (c16 : List Int) (c17 : List Xv) (c18 : List Z3) (c19 : List Zo) (c20 : Int) :
  ∀ (m n : Nat) (i : Int) (row : List Int) (cells : List Ys), 0 ≤ i → i ≤ more.length → (more.length : Int) ≤ i + m → m < n → YY cells → (row.length : Int) ≤ 1100000000 + i →
   Ok (Ql n t i z0 z1 z2 z3 z4 z5 z6 z7 z8 z9 z10 z11 z12 z13 z14 z15 z16 z17 z18 z19 z20 c0 c1 c2 c3 c4 c5 c6 c7 c8 c9 c10 c11 c12 c13 row cells c16 c17 c18 c19 c20 more) fun r => ∃ (row' : List Int) (cells' : List Ys), r = (c0, c1, (c2, c3, c4, c5, ()), (c6, c7, c8, c9, ()), (c10, c11, c12, c13, ()), row', cells', c16, c17, c18, c19, c20, ()) ∧ (row'.length : Int) ≤ row.length + more.length - i ∧ YY cells' := by
 intro m
 induction m with
 | zero =>
  intro n i row cells h0 h1 h2 h3 h4 h5;obtain ⟨n, rfl⟩ : ∃ m, n = m + 1 := ⟨n - 1, by omega⟩
  rw [Bh];exact Ze (fun h => by omega) (fun _ => Za ⟨row, cells, rfl, by omega, h4⟩)
 | succ m ih =>
  intro n i row cells h0 h1 h2 h3 h4 h5;obtain ⟨n, rfl⟩ : ∃ m, n = m + 1 := ⟨n - 1, by omega⟩
  rw [Bh, Zx (n := i + 1) (by omega) (by omega)];refine Ze (fun hi => Zm h0 (Zm hi (ZD (by omega) fun y hy => Zm (by simp only [List.length_singleton]; unfold lim; omega) (Zm h0 (Zm hi (ZD (by omega) fun k hk => Zm (hx k hk).1 (ZD (by have := hx k hk; omega) fun b hb => Zb (Zg8 h4 (ht.cmds b hb).key (by have := (ht.cmds b hb).len; omega)) fun q hq => ?_))))))) (fun _ => Za ⟨row, cells, rfl, by omega, h4⟩);refine X7 (ih n (i + 1) _ _ (by omega) (by omega) (by omega) (by omega) hq (by rw [Y9]; omega)) fun r hr => ?_;obtain ⟨row', cells', e, g1, g2⟩ := hr;exact ⟨row', cells', e, by rw [Y9] at g1; omega, g2⟩
theorem Zg9 {B : Nat} {V : Int} (hB : B ≤ 900000000) {t : List ZL} (ht : WU t) {p : Zw} (h : Yu B V p) (k : Int) : Ok (AA big t p k) fun r => Yu (B + 60) V r ∧ idv r = idv p := by
 rw [Zbv, FG (by omega) h];simp only [Option.bind_some];refine Zb (ZlZ (by omega) h) fun l _ => Zb (Zar ht k l) fun e _ => ZT (fun _ => Za ⟨h.mono (by omega), rfl⟩) fun _ => Zb (Zn6 h) fun y hy => Zb (ZlZ (by omega) h) fun l2 _ => Zb (Zdx ht k l2) fun more hmore => ?_;obtain ⟨hp, hid, _, _, _⟩ := hy;have hr := hp.row;refine X7 (ZoZ ht hmore.1 hmore.2 _ _ _ _ _ _ _ _ _ _ _ _ _ _ _ _ _ _ _ _ _ _ _ _ _ _ _ _ _ _ _ _ _ _ _ _ _ _ _ _ more.length big 0 _ _ (by omega) (by omega) (by omega) (by have := hmore.1; unfold big; omega) hp.cells (by omega)) fun r hr2 => ?_;obtain ⟨row', cells', e, g1, g2⟩ := hr2;subst e;have := hmore.1;exact ⟨⟨by show row'.length ≤ B + 60; omega, g2, hp.early, hp.undos, Nat.le_trans hp.votes (by omega), Nat.le_trans hp.news (by omega), hp.view, hp.top, hp.hq⟩, hid⟩
theorem Zo0 {t : List ZL} (ht : WU t) {more : List Int} (hm : more.length ≤ 60) (hx : ∀ x ∈ more, 0 ≤ x ∧ x < t.length) (z0 : Int) (z1 : Int) (z2 : Int) (z3 : Int) (z4 : Int) (z5 : Int) (z6 : Int) (z7 : Int) (z8 : Int) (z9 : Int) (z10 : Int) (z11 : Int) (z12 : Int) (z13 : Int) (z14 : List Int) (z15 : List Ys) (z16 : List Int) (z17 : List Xv) (z18 : List Z3) (z19 : List Zo) (z20 : Int) (c0 : Int) (c1 : Int) (c2 : Int) (c3 : Int) (c4 : Int) (c5 : Int) (c6 : Int) (c7 : Int) (c8 : Int) (c9 : Int) (c10 : Int) (c11 : Int) (c12 : Int) (c13 : Int) (c14 : List Int) (c18 : List Z3) (c19 : List Zo) (c20 : Int) :
  ∀ (m n : Nat) (i : Int) (cells : List Ys) (early : List Int) (undos : List Xv), 0 ≤ i → i ≤ more.length → (more.length : Int) ≤ i + m → m < n → YY cells → (early.length : Int) ≤ i → (undos.length : Int) ≤ 4 * i → (∀ u ∈ undos, ByteArray.size u.1 ≤ 1000) →
   Ok (Ug n t i z0 z1 z2 z3 z4 z5 z6 z7 z8 z9 z10 z11 z12 z13 z14 z15 z16 z17 z18 z19 z20 c0 c1 c2 c3 c4 c5 c6 c7 c8 c9 c10 c11 c12 c13 c14 cells early undos c18 c19 c20 more) fun r => ∃ (cells' : List Ys) (early' : List Int) (undos' : List Xv), r = (c0, c1, (c2, c3, c4, c5, ()), (c6, c7, c8, c9, ()), (c10, c11, c12, c13, ()), c14, cells', early', undos', c18, c19, c20, ()) ∧ YY cells' ∧ early'.length ≤ 60 ∧ ZlY undos' := by
 intro m
 induction m with
 | zero =>
  intro n i cells early undos h0 h1 h2 h3 h4 h5 h6 h7;obtain ⟨n, rfl⟩ : ∃ m, n = m + 1 := ⟨n - 1, by omega⟩
  rw [JI];exact Ze (fun h => by omega) (fun _ => Za ⟨cells, early, undos, rfl, h4, by omega, ⟨by omega, h7⟩⟩)
 | succ m ih =>
  intro n i cells early undos h0 h1 h2 h3 h4 h5 h6 h7;obtain ⟨n, rfl⟩ : ∃ m, n = m + 1 := ⟨n - 1, by omega⟩
  rw [JI, Zx (n := i + 1) (by omega) (by omega)];refine Ze (fun hi => Zm h0 (Zm hi (ZD (by omega) fun k hk => Zm (hx k hk).1 (ZD (by have := hx k hk; omega) fun b hb => Zb (Zkd h4 (ht.cmds b hb)) fun q hq => Zm h0 (Zm hi (ZD (by omega) fun k2 hk2 => Zm (by simp only [List.length_singleton]; unfold lim; omega) (Zm (by have := hq.2.1; unfold lim; omega) ?_))))))) (fun _ => Za ⟨cells, early, undos, rfl, h4, by omega, ⟨by omega, h7⟩⟩);refine ih n (i + 1) _ _ _ (by omega) (by omega) (by omega) (by omega) hq.1 (by rw [Y9]; omega) (by rw [List.append_eq, List.length_append]; have := hq.2.1; omega) fun u hu => ?_;rcases List.mem_append.1 (show u ∈ undos ++ q.2.1 from hu) with hu | hu
  ·exact h7 u hu
  ·exact hq.2.2 u hu
theorem Zdz {B : Nat} {V : Int} (hB : B ≤ 900000000) {t : List ZL} (ht : WU t) {p : Zw} (h : Yu B V p) (k : Int) : Ok (Kw big t p k) fun r => Yu B V r ∧ idv r = idv p := by
 rw [SD, FG (by omega) h];simp only [Option.bind_some];refine Zb (Zn6 h) fun y hy => Zb (ZlZ (by omega) h) fun l2 _ => Zb (Zdx ht k l2) fun more hmore => ?_;obtain ⟨hp, hid, he, hu, _⟩ := hy;refine X7 (Zo0 ht hmore.1 hmore.2 _ _ _ _ _ _ _ _ _ _ _ _ _ _ _ _ _ _ _ _ _ _ _ _ _ _ _ _ _ _ _ _ _ _ _ _ _ _ _ more.length big 0 _ _ _ (by omega) (by omega) (by omega) (by have := hmore.1; unfold big; omega) hp.cells (by rw [he]; simp) (by rw [hu]; simp) (by rw [hu]; simp)) fun r hr2 => ?_;obtain ⟨cells', early', undos', e, g1, g2, g3⟩ := hr2;subst e;exact ⟨⟨hp.row, g1, g2, g3, hp.votes, hp.news, hp.view, hp.top, hp.hq⟩, hid⟩
theorem Zl0 {B : Nat} {V : Int} (hB : B ≤ 800000000) {t : List ZL} (ht : WU t) {p : Zw} (h : Yu B V p) (k : Int) : Ok (X0 big t p k) fun r => Yu (B + 60) V r ∧ idv r = idv p := by
 rw [Mq, FG (by omega) h];simp only [Option.bind_some];refine Zb (ZlR ht k) fun y hy => ZT (fun _ => Za ⟨h.mono (by omega), rfl⟩) fun hc => ?_;obtain ⟨h0, h1, h2, h3⟩ := hy hc;refine Zm h0.1 (ZD (by omega) fun b _ => Zb (AU _ _) fun q1 hq1 => Zm h1.1 (ZD (by omega) fun b2 _ => Zb (AU _ _) fun q2 hq2 => Zb (Zkc ht k) fun d _ => ?_));have hp : Yu B V (p.1, p.2.1, q1, q2, p.2.2.2.2) := ⟨h.row, h.cells, h.early, h.undos, h.votes, h.news, h.view, h.top, ⟨Int.le_trans h.hq.1 hq1.2, Int.le_trans h.hq.2 hq2.2⟩⟩
 refine Z1 (fun _ => Zb (Zg9 (by omega) ht hp d.1) fun r hr => Zb (ZlT h1 h2) fun _ _ => Z1 (fun _ => Zb (Zdz (by omega) ht hr.1 _) fun s hs => Za ⟨hs.1, hs.2.trans hr.2⟩) (fun _ => Za hr))
  (fun _ => Zb (ZlT h1 h2) fun _ _ => Z1 (fun _ => Zb (Zdz (by omega) ht hp _) fun s hs => Za ⟨hs.1.mono (by omega), hs.2⟩) (fun _ => Za ⟨hp.mono (by omega), rfl⟩))
def Lv (V : Int) (l : List Zo) : Prop := ∀ x ∈ l, 0 ≤ x.2.2.2.1 ∧ x.2.2.2.1 ≤ V
theorem BH {V : Int} : Lv V [] := fun x hx => by cases hx
theorem Zha {V : Int} {x : Zo} (h : 0 ≤ x.2.2.2.1 ∧ x.2.2.2.1 ≤ V) : Lv V [x] := fun y hy => by rw [List.mem_singleton.1 hy]; exact h
theorem Lv.up {V V' : Int} {l : List Zo} (h : Lv V l) (hv : V ≤ V') : Lv V' l := fun x hx => ⟨(h x hx).1, Int.le_trans (h x hx).2 hv⟩
theorem Lv.snoc {V : Int} {l : List Zo} {x : Zo} (h : Lv V l) (hx : 0 ≤ x.2.2.2.1 ∧ x.2.2.2.1 ≤ V) : Lv V (List.append l [x]) := fun y hy => by
 rcases List.mem_append.1 hy with hy | hy
 ·exact h y hy
 ·rw [List.mem_singleton.1 hy]; exact hx
theorem Zo1 {B : Nat} {V : Int} (hB : B ≤ 1000000000) {p : Zw} (h : Yu B V p) (a b c : Int) : Ok (Sg big p a b c) fun r => Yu B V r.1 ∧ r.1.1 = p.1 ∧ r.2.1.2.1 = b := by
 rw [Zgq, FG hB h];simp only [Option.bind_some, Xe];exact Za ⟨⟨h.row, h.cells, h.early, h.undos, h.votes, h.news, h.view, h.top, h.hq⟩, rfl, rfl⟩
theorem Zjb {B : Nat} {V : Int} (hB : B ≤ 1000000000) {p : Zw} (h : Yu B V p) (a b c d : Int) (hv : 0 ≤ b ∧ b ≤ V) : Ok (V3 big p a b c d) fun r => Yu B V r.2.1 ∧ r.2.1.1 = p.1 ∧ List.length r.1 ≤ 1 ∧ Lv V r.1 := by
 rw [Zbj];exact Zb (Zo1 hB h a b c) fun y hy => Za ⟨hy.1, hy.2.1, Nat.le_refl _, Zha (by show 0 ≤ y.2.1.2.1 ∧ y.2.1.2.1 ≤ V; rw [hy.2.2]; exact hv)⟩
theorem Zkf {B : Nat} {V : Int} (hB : B ≤ 1000000000) {p : Zw} (h : Yu B V p) (hV : V + 1 ≤ 900) (n : Int) : Ok (CJ big p n) fun r => Yu B (V + 1) r.1 ∧ r.1.1 = p.1 ∧ Lv (V + 1) [r.2.1] := by
 have hv := h.view;have stay : Yu B (V + 1) p ∧ p.1 = p.1 ∧ Lv (V + 1) [((0 : Int), (0 : Int), (0 : Int), (0 : Int), (0 : Int), ((0 : Int), (0 : Int), (0 : Int), (0 : Int), ()), ((0 : Int), (0 : Int), (0 : Int), (0 : Int), ()), ())] := ⟨h.up (by omega) hV, rfl, Zha (by show (0 : Int) ≤ 0 ∧ (0 : Int) ≤ _; omega)⟩
 rw [Sm, FG hB h, Zx (n := p.2.1 + 1) (by omega) (by omega)];simp only [LB, Option.bind_some];exact Ze (fun _ => Za stay) fun _ => ZT (fun _ => Za stay) fun _ => Zb (UA hB (h.up (by omega) hV) _ (by omega)) fun y hy => Zb (WC _ _) fun _ _ => Za ⟨hy.1, hy.2, Zha ⟨by have := hy.1.view.1; show 0 ≤ y.2.1; omega, hy.1.view.2⟩⟩
theorem Zsx {B : Nat} {V : Int} (hB : B ≤ 800000000) {t : List ZL} (ht : WU t) {p : Zw} (h0 : Yu B V p) (hV : V + 1 ≤ 900) (n : Int) (l : Zo) (hl : 0 ≤ l.2.2.2.1 ∧ l.2.2.2.1 ≤ V) : Ok (SI big t n p l) fun r => Yu (B + 60) (V + 1) r.2.1 ∧ r.2.1.1 = p.1 ∧ List.length r.1 ≤ 1 ∧ Lv (V + 1) r.1 := by
 have h := h0.up (V' := V + 1) (by omega) hV;rw [Zgy, Zx (n := l.2.2.2.1 + 1) (by omega) (by omega)];refine Zb (UA (by omega) h _ (by omega)) fun y hy => ?_;obtain ⟨hp, hid⟩ := hy;have stay : ∀ q : Zw, Yu B (V + 1) q → q.1 = p.1 → Yu (B + 60) (V + 1) q ∧ q.1 = p.1 ∧ List.length ([] : List Zo) ≤ 1 ∧ Lv (V + 1) [] := fun q hq e => ⟨hq.mono (by omega), e, Nat.zero_le _, BH⟩
 refine Ze (fun _ => Zb (AU _ _) fun q hq1 => ?_) fun _ => Ze (fun _ => Zb (AU _ _) fun q hq1 => ?_) fun _ => Ze (fun _ => Zb (Zg9 (by omega) ht hp _) fun z hz => Zb (UA (by omega) hz.1 _ (by omega)) fun z2 hz2 => Zb (WC _ _) fun _ _ => Za ⟨hz2.1, hz2.2.trans ((Zi9 hz.2).trans hid), Nat.le_refl _, Zha ⟨by have := hz2.1.view.1; show 0 ≤ z2.2.1; omega, hz2.1.view.2⟩⟩) fun _ => Za (stay y hp hid)
 ·have hq : Yu B (V + 1) (y.1, y.2.1, q, y.2.2.2) := ⟨hp.row, hp.cells, hp.early, hp.undos, hp.votes, hp.news, hp.view, hp.top, ⟨Int.le_trans hp.hq.1 hq1.2, hp.hq.2⟩⟩
  exact Zb (Zno _ _ _) fun _ _ => ZT (fun _ => Za (stay _ hq hid)) fun _ => Zb (Zjb (by omega) hq _ _ _ _ (by omega)) fun z hz => Za ⟨hz.1.mono (by omega), hz.2.1.trans hid, hz.2.2⟩
 ·have hq : Yu B (V + 1) (y.1, y.2.1, y.2.2.1, q, y.2.2.2.2) := ⟨hp.row, hp.cells, hp.early, hp.undos, hp.votes, hp.news, hp.view, hp.top, ⟨hp.hq.1, Int.le_trans hp.hq.2 hq1.2⟩⟩
  exact Zb (Zno _ _ _) fun _ _ => ZT (fun _ => Za (stay _ hq hid)) fun _ => Zb (Zjb (by omega) hq _ _ _ _ (by omega)) fun z hz => Za ⟨hz.1.mono (by omega), hz.2.1.trans hid, hz.2.2⟩
set_option maxHeartbeats 16000000 in
theorem Eh {t : List ZL} (ht : WU t) (n : Int) (l : Zo) : Ok (Vh big t n l) fun _ => True := by
 have hlo := ht.lo; have hhi := ht.hi;have hW : K6.wrap ((↑(List.length t) : Int) - 1) = (↑(List.length t) : Int) - 1 := Zx (by omega) (by omega);rw [SH];simp only [LB, Option.bind_some, hW]
 by_cases hb : (1 : Int) ≤ l.2.2.2.2.1 ∧ l.2.2.2.2.1 ≤ (↑(List.length t) : Int) - 1
 ·have e1 : (decide ((1 : Int) ≤ l.2.2.2.2.1) && decide (l.2.2.2.2.1 ≤ (↑(List.length t) : Int) - 1)) = true := by
   rw [decide_eq_true hb.1, decide_eq_true hb.2]; rfl
  have hb0 : (0 : Int) ≤ l.2.2.2.2.1 := by omega
  have hb1 : Int.toNat l.2.2.2.2.1 < t.length := by omega
  simp only [e1, cond_true]
  repeat' with_reducible first
   | exact Za trivial
   | refine Z1 (fun _ => ?_) (fun _ => ?_)
   | refine Zm hb0 ?_
   | refine ZD hb1 fun _ _ => ?_
   | refine Zb (Ze9 ht _ _) fun _ _ => ?_
   | refine Zb (Zat ht _ _) fun _ _ => ?_
 ·have e1 : (decide ((1 : Int) ≤ l.2.2.2.2.1) && decide (l.2.2.2.2.1 ≤ (↑(List.length t) : Int) - 1)) = false := by
   rw [← Bool.not_eq_true];intro h;simp only [Bool.and_eq_true, decide_eq_true_eq] at h;exact hb h
  simp only [e1, cond_false]
  repeat' with_reducible first
   | exact Za trivial
   | refine Z1 (fun _ => ?_) (fun _ => ?_)
   | refine Zb (Ze9 ht _ _) fun _ _ => ?_
   | refine Zb (Zat ht _ _) fun _ _ => ?_
theorem Zl1 {B : Nat} {V : Int} (hB : B ≤ 1000000000) (b0 : Int) (b1 : Int) (b2 : Int) (b3 : Int) (b4 : Int) (b5 : Int) (b6 : Int) (b7 : Int) (b8 : Int) (b9 : Int) (b10 : Int) (b11 : Int) (b12 : Int) (b13 : Int) (b14 : List Int) (b15 : List Ys) (b16 : List Int) (b17 : List Xv) (b18 : List Z3) (b19 : List Zo) (b20 : Int) (h : Yu B V (b0, b1, (b2, b3, b4, b5, ()), (b6, b7, b8, b9, ()), (b10, b11, b12, b13, ()), b14, b15, b16, b17, b18, b19, b20, ())) (c0 c1 c2 c3 c4 c5 c6 c7 c8 c9 c10 c11 c12 : Int) :
  ∀ (m n : Nat) (i : Int), 0 ≤ i → i ≤ b19.length → (b19.length : Int) ≤ i + m → m < n →
   Ok (Wr n i b0 b1 b2 b3 b4 b5 b6 b7 b8 b9 b10 b11 b12 b13 b14 b15 b16 b17 b18 b19 b20 c0 c1 c2 c3 c4 c5 c6 c7 c8 c9 c10 c11 c12) fun r => Yu (B + 1) V r.2.1 ∧ r.2.1.1 = b0 := by
 have hn : b19.length ≤ B := h.news;have fin : ∀ n : Nat, Ok (Wr (n + 1) b19.length b0 b1 b2 b3 b4 b5 b6 b7 b8 b9 b10 b11 b12 b13 b14 b15 b16 b17 b18 b19 b20 c0 c1 c2 c3 c4 c5 c6 c7 c8 c9 c10 c11 c12) fun r => Yu (B + 1) V r.2.1 ∧ r.2.1.1 = b0 := by
  intro n;rw [C6];refine Ze (fun h => by omega) (fun _ => ?_);simp only [Xe];refine Zm (by unfold lim; omega) (Zm (by simp only [List.length_singleton]; unfold lim; omega) (Za ⟨⟨Nat.le_trans h.row (by omega), h.cells, h.early, h.undos, Nat.le_trans h.votes (by omega), ?_, h.view, h.top, h.hq⟩, rfl⟩));show (b19 ++ _).length ≤ B + 1;simp only [List.length_append, List.length_singleton]; omega
 intro m
 induction m with
 | zero =>
  intro n i h0 h1 h2 h3;obtain ⟨n, rfl⟩ : ∃ m, n = m + 1 := ⟨n - 1, by omega⟩
  obtain rfl : i = b19.length := by omega
  exact fin n
 | succ m ih =>
  intro n i h0 h1 h2 h3;obtain ⟨n, rfl⟩ : ∃ m, n = m + 1 := ⟨n - 1, by omega⟩
  rcases Int.lt_or_le i b19.length with hl | hl
  ·rw [C6, Zx (n := i + 1) (by omega) (by omega)]
   exact Ze (fun hi => Zm h0 (Zm hi (ZD (by omega) fun y hy => Ze (fun _ => Za ⟨h.mono (by omega), rfl⟩) (fun _ => ih n (i + 1) (by omega) (by omega) (by omega) (by omega))))) (fun h => by omega)
  ·obtain rfl : i = b19.length := by omega
   exact fin n
theorem Zo2 {B : Nat} {V : Int} (hB : B ≤ 1000000000) (b0 : Int) (b1 : Int) (b2 : Int) (b3 : Int) (b4 : Int) (b5 : Int) (b6 : Int) (b7 : Int) (b8 : Int) (b9 : Int) (b10 : Int) (b11 : Int) (b12 : Int) (b13 : Int) (b14 : List Int) (b15 : List Ys) (b16 : List Int) (b17 : List Xv) (b18 : List Z3) (b19 : List Zo) (b20 : Int) (h : Yu B V (b0, b1, (b2, b3, b4, b5, ()), (b6, b7, b8, b9, ()), (b10, b11, b12, b13, ()), b14, b15, b16, b17, b18, b19, b20, ())) (c0 c1 c2 c3 c4 c5 c6 c7 c8 c9 c10 c11 c12 : Int) : Ok (Wr big 0 b0 b1 b2 b3 b4 b5 b6 b7 b8 b9 b10 b11 b12 b13 b14 b15 b16 b17 b18 b19 b20 c0 c1 c2 c3 c4 c5 c6 c7 c8 c9 c10 c11 c12) fun r => Yu (B + 1) V r.2.1 ∧ r.2.1.1 = b0 := by
 have hn : b19.length ≤ B := h.news;exact Zl1 hB _ _ _ _ _ _ _ _ _ _ _ _ _ _ _ _ _ _ _ _ _ h _ _ _ _ _ _ _ _ _ _ _ _ _ b19.length big 0 (by omega) (by omega) (by omega) (by unfold big; omega)
theorem Zo3 {B : Nat} {V : Int} (hB : B ≤ 1000000000) {p : Zw} (h : Yu B V p) (hV : V + 1 ≤ 900) (n : Int) (l : Zo) : Ok (Ms big p n l) fun r => Yu (B + 1) (V + 1) r.2.1 ∧ r.2.1.1 = p.1 := by
 have hv := h.view;have h1 := h.up (V' := V + 1) (by omega) hV;rw [ZeL, Zx (n := p.2.1 + 1) (by omega) (by omega)];have go : ∀ y : Zw, Yu B (V + 1) y ∧ y.1 = p.1 → ∀ c0 c1 c2 c3 c4 c5 c6 c7 c8 c9 c10 c11 c12 : Int, Ok (Wr big 0 y.1 y.2.1 y.2.2.1.1 y.2.2.1.2.1 y.2.2.1.2.2.1 y.2.2.1.2.2.2.1 y.2.2.2.1.1 y.2.2.2.1.2.1 y.2.2.2.1.2.2.1 y.2.2.2.1.2.2.2.1 y.2.2.2.2.1.1 y.2.2.2.2.1.2.1 y.2.2.2.2.1.2.2.1 y.2.2.2.2.1.2.2.2.1 y.2.2.2.2.2.1 y.2.2.2.2.2.2.1 y.2.2.2.2.2.2.2.1 y.2.2.2.2.2.2.2.2.1 y.2.2.2.2.2.2.2.2.2.1 y.2.2.2.2.2.2.2.2.2.2.1 y.2.2.2.2.2.2.2.2.2.2.2.1 c0 c1 c2 c3 c4 c5 c6 c7 c8 c9 c10 c11 c12) fun r => Yu (B + 1) (V + 1) r.2.1 ∧ r.2.1.1 = p.1 := by
  intro y hy c0 c1 c2 c3 c4 c5 c6 c7 c8 c9 c10 c11 c12;rw [← hy.2];exact Zo2 hB _ _ _ _ _ _ _ _ _ _ _ _ _ _ _ _ _ _ _ _ _ hy.1 _ _ _ _ _ _ _ _ _ _ _ _ _
 refine Zb (WC _ _) fun z _ => ?_;have stay : Yu (B + 1) (V + 1) p ∧ p.1 = p.1 := ⟨h1.mono (by omega), rfl⟩
 refine Yq (fun _ => Za stay) fun _ => Yq (fun _ => Yq (fun _ => Za stay) fun e => ?_) fun e => ?_
 ·exact Zb (UA hB h1 _ (by omega)) fun y hy => go y hy _ _ _ _ _ _ _ _ _ _ _ _ _
 ·exact Zb (UA hB h1 _ (by omega)) fun y hy => go y hy _ _ _ _ _ _ _ _ _ _ _ _ _
theorem Zl2 {B : Nat} {V : Int} (b0 : Int) (b1 : Int) (b2 : Int) (b3 : Int) (b4 : Int) (b5 : Int) (b6 : Int) (b7 : Int) (b8 : Int) (b9 : Int) (b10 : Int) (b11 : Int) (b12 : Int) (b13 : Int) (b14 : List Int) (b15 : List Ys) (b16 : List Int) (b17 : List Xv) (b18 : List Z3) (b19 : List Zo) (b20 : Int) (h : Yu B V (b0, b1, (b2, b3, b4, b5, ()), (b6, b7, b8, b9, ()), (b10, b11, b12, b13, ()), b14, b15, b16, b17, b18, b19, b20, ())) (s1 : Int) (hs : s1 ≤ 7) (c0 c1 c2 c3 : Int) :
  ∀ (m n : Nat) (i : Int) (l : List Zo), 0 ≤ i → i ≤ 7 → (7 : Int) ≤ i + m → m < n → (l.length : Int) ≤ i → Lv V l →
   Ok (X3 n s1 l i b0 b1 b2 b3 b4 b5 b6 b7 b8 b9 b10 b11 b12 b13 b14 b15 b16 b17 b18 b19 b20 c0 c1 c2 c3) fun r => Yu B V r.2.1 ∧ r.2.1.1 = b0 ∧ List.length r.1 ≤ 7 ∧ Lv V r.1 := by
 intro m
 induction m with
 | zero =>
  intro n i l h0 h1 h2 h3 h4 h5;obtain ⟨n, rfl⟩ : ∃ m, n = m + 1 := ⟨n - 1, by omega⟩
  rw [JL];exact Ze (fun h => by omega) (fun _ => Za ⟨h, rfl, by show l.length ≤ 7; omega, h5⟩)
 | succ m ih =>
  intro n i l h0 h1 h2 h3 h4 h5;obtain ⟨n, rfl⟩ : ∃ m, n = m + 1 := ⟨n - 1, by omega⟩
  rw [JL, Zx (n := i + 1) (by omega) (by omega)];exact Ze (fun hi => Zm (by simp only [List.length_singleton]; unfold lim; omega) (ih n (i + 1) _ (by omega) (by omega) (by omega) (by omega) (by rw [Y9]; omega) (h5.snoc ⟨by have h9 : 1 ≤ b1 := h.view.1; show 0 ≤ b1; omega, h.view.2⟩))) (fun _ => Za ⟨h, rfl, by show l.length ≤ 7; omega, h5⟩)
theorem Pl {B : Nat} {V : Int} (hB : B ≤ 1000000000) (b0 : Int) (b1 : Int) (b2 : Int) (b3 : Int) (b4 : Int) (b5 : Int) (b6 : Int) (b7 : Int) (b8 : Int) (b9 : Int) (b10 : Int) (b11 : Int) (b12 : Int) (b13 : Int) (b14 : List Int) (b15 : List Ys) (b16 : List Int) (b17 : List Xv) (b18 : List Z3) (b19 : List Zo) (b20 : Int) (h : Yu B V (b0, b1, (b2, b3, b4, b5, ()), (b6, b7, b8, b9, ()), (b10, b11, b12, b13, ()), b14, b15, b16, b17, b18, b19, b20, ())) (s1 : Int) (hs : s1 ≤ 7) (s8 : Int) (c0 c1 c2 c3 : Int) (n : Nat) (hn : 8 < n) :
  Ok (YT n s1 [] s8 b0 b1 b2 b3 b4 b5 b6 b7 b8 b9 b10 b11 b12 b13 b14 b15 b16 b17 b18 b19 b20 c0 c1 c2 c3) fun r => Yu (B + 1) V r.2.1 ∧ r.2.1.1 = b0 ∧ List.length r.1 ≤ 7 ∧ Lv V r.1 := by
 obtain ⟨n, rfl⟩ : ∃ m, n = m + 1 := ⟨n - 1, by omega⟩
 rw [BL];simp only [Xe];have hv : b18.length ≤ B := h.votes;have e : List.length (List.append b18 [(c0, c1, c2, c3, ())]) = b18.length + 1 := by show List.length (b18 ++ _) = _; simp only [List.length_append, List.length_singleton]
 have stay : Yu (B + 1) V (b0, b1, (b2, b3, b4, b5, ()), (b6, b7, b8, b9, ()), (b10, b11, b12, b13, ()), b14, b15, b16, b17, b18, b19, b20, ()) ∧ b0 = b0 ∧ List.length ([] : List Zo) ≤ 7 ∧ Lv V [] := ⟨h.mono (by omega), rfl, by decide, BH⟩
 have put : ∀ q : H5, 0 ≤ q.2.1 → Yu (B + 1) V (b0, b1, q, (b6, b7, b8, b9, ()), (b10, b11, b12, b13, ()), b14, b15, b16, b17, List.append b18 [(c0, c1, c2, c3, ())], b19, b20, ()) := fun q hq =>
  ⟨Nat.le_trans h.row (by omega), h.cells, h.early, h.undos, by show List.length (List.append b18 [(c0, c1, c2, c3, ())]) ≤ _; omega, Nat.le_trans h.news (by omega), h.view, h.top, ⟨hq, h.hq.2⟩⟩
 refine Yq (fun _ => Za stay) fun _ => Zb (WC _ _) fun _ _ => Yq (fun _ => Za stay) fun _ => Zb (ZrX _ _ (by omega)) fun _ _ => Z1 (fun _ => Za stay) fun _ => Zm (by unfold lim; omega) (Zm (by simp only [List.length_singleton]; unfold lim; omega) (Zb (Zas _ (by omega) _ _ _) fun _ _ => Zb (Zap _) fun _ _ => Zb (Pk _) fun _ _ => Yq (fun _ => Za ⟨put _ h.hq.1, rfl, stay.2.2⟩) fun _ => Zb (Zg6 _ (by omega) _ _ _ _) fun q _ => Ze (fun _ => Zb (AU _ _) fun q hq => Za ⟨put q (Int.le_trans h.hq.1 hq.2), rfl, stay.2.2⟩) fun _ => ?_));exact Zl2 _ _ _ _ _ _ _ _ _ _ _ _ _ _ _ _ _ _ _ _ b20 (put (b2, b3, b4, b5, ()) h.hq.1) s1 hs _ _ _ _ 7 n 0 [] (by omega) (by omega) (by omega) (by omega) (by decide) BH
theorem ZqD {B : Nat} {V : Int} (hB : B ≤ 1000000000) {p : Zw} (h0 : Yu B V p) (hV : V + 1 ≤ 900) (n : Int) (hn : n ≤ 7) (v : Z3) : Ok (GE big p n v) fun r => Yu (B + 1) (V + 1) r.2.1 ∧ r.2.1.1 = p.1 ∧ List.length r.1 ≤ 7 ∧ Lv (V + 1) r.1 := by
 have hv := h0.view;have h := h0.up (V' := V + 1) (by omega) hV;rw [Zbx, Zx (n := p.2.1 + 1) (by omega) (by omega)];have hb : 8 < big := by decide
 refine Ze (fun _ => Zb (WC _ _) fun _ _ => Ze (fun _ => Ze (fun e => Zb (UA hB h _ (by omega)) fun y hy => ?_) (fun _ => ?_)) (fun _ => ?_)) (fun _ => ?_)
 ·rw [← hy.2]; exact Pl hB _ _ _ _ _ _ _ _ _ _ _ _ _ _ _ _ _ _ _ _ _ hy.1 n hn _ _ _ _ _ big hb
 ·exact Pl hB _ _ _ _ _ _ _ _ _ _ _ _ _ _ _ _ _ _ _ _ _ h n hn _ _ _ _ _ big hb
 ·exact Pl hB _ _ _ _ _ _ _ _ _ _ _ _ _ _ _ _ _ _ _ _ _ h n hn _ _ _ _ _ big hb
 ·exact Pl hB _ _ _ _ _ _ _ _ _ _ _ _ _ _ _ _ _ _ _ _ _ h n hn _ _ _ _ _ big hb
theorem Zl3 {B : Nat} {V : Int} (hB : B ≤ 1000000000) {p : Zw} (h : Yu B V p) (hV : V + 1 ≤ 900) (n : Int) (hn : n ≤ 7) (v : Z3) : Ok (C7 big p n v) fun r => Yu (B + 1) (V + 1) r.1 ∧ r.1.1 = p.1 ∧ List.length r.2.1 ≤ 7 ∧ Lv (V + 1) r.2.1 := by
 rw [SM];exact Zb (ZqD hB h hV n hn v) fun y hy => Za hy
def Zfa (B : Nat) (V : Int) (p : Zw) (r : Zw × List Zo × Unit) : Prop := Yu B V r.1 ∧ r.1.1 = p.1 ∧ List.length r.2.1 ≤ 7 ∧ Lv V r.2.1
theorem Zl4 {B : Nat} {V : Int} (hB : B ≤ 1000000000) {t : List ZL} (ht : WU t) {p : Zw} (h : Yu B V p) (hV : V + 1 ≤ 900) (n : Int) (hn : n ≤ 7) (l : Zo) : Ok (Ws big t n p l) (Zfa (B + 1) (V + 1) p) := by
 rw [SO, FG hB h];simp only [Option.bind_some];have stay : Zfa (B + 1) (V + 1) p (p, [], ()) := ⟨(h.up (by omega) hV).mono (by omega), rfl, Nat.zero_le _, BH⟩
 exact Zb (Eh ht _ _) fun _ _ => ZT (fun _ => Za stay) fun _ => Yq (fun _ => Za stay) fun _ => Ze (fun _ => Zb (Zl3 hB h hV n hn _) fun y hy => Za hy) fun _ => Ze (fun _ => Zb (Zo3 hB h hV n l) fun y hy => Za ⟨hy.1, hy.2, Nat.zero_le _, BH⟩) fun _ => Za stay
theorem ZrY {B : Nat} {V : Int} (hB : B ≤ 800000000) {t : List ZL} (ht : WU t) {p : Zw} (h : Yu B V p) (hV : V + 1 ≤ 900) (n : Int) (hn : n ≤ 7) (l : Zo) (hl : 0 ≤ l.2.2.2.1 ∧ l.2.2.2.1 ≤ V) : Ok (AC big t n p l) (Zfa (B + 60) (V + 1) p) := by
 have h1 := h.up (V' := V + 1) (by omega) hV;rw [Zbz, FG (by omega) h];simp only [Option.bind_some];have stay : ∀ q : Zw, Yu B (V + 1) q ∧ q.1 = p.1 → Zfa (B + 60) (V + 1) p (q, [], ()) := fun q h => ⟨h.1.mono (by omega), h.2, Nat.zero_le _, BH⟩
 have lead : Ok ((Ws big t n p l).bind fun y => some y) (Zfa (B + 60) (V + 1) p) := Zb (Zl4 (by omega) ht h hV n hn l) fun y hy => Za ⟨hy.1.mono (by omega), hy.2⟩;exact Zb (Eh ht _ _) fun _ _ => ZT (fun _ => Za (stay p ⟨h1, rfl⟩)) fun _ => Yq (fun _ => Za (stay p ⟨h1, rfl⟩)) fun _ => Ze (fun _ => lead) fun _ => Ze (fun _ => lead) fun _ => Zb (WC _ _) fun _ _ => Yq (fun _ => Za (stay p ⟨h1, rfl⟩)) fun _ => Ze (fun _ => Za (stay p ⟨h1, rfl⟩)) fun _ =>
  Ze (fun _ => Zb (Zsx hB ht h hV n l hl) fun y hy => Za ⟨hy.1, hy.2.1, by show List.length y.1 ≤ 7; have := hy.2.2.1; omega, hy.2.2.2⟩) fun _ => Zb (UA (by omega) h1 _ (by omega)) fun y hy => Zb (Zno _ _ _) fun _ _ => ZT (fun _ => Za (stay y hy)) fun _ => Zb (Zn4 ht _ _) fun _ _ => ZT (fun _ => Za (stay y hy)) fun _ =>
  Zb (Zjb (by omega) hy.1 _ _ _ _ (by omega)) fun z hz => Za ⟨hz.1.mono (by omega), hz.2.1.trans hy.2, by show List.length z.1 ≤ 7; have := hz.2.2.1; omega, hz.2.2.2⟩
theorem Zo4 {B : Nat} {V : Int} (hB : B ≤ 800000000) {t : List ZL} (ht : WU t) {p : Zw} (h : Yu B V p) (hV : V + 1 ≤ 900) (n : Int) (hn : n ≤ 7) (l : Zo) (hl : 0 ≤ l.2.2.2.1 ∧ l.2.2.2.1 ≤ V) : Ok (Qm big t n p l) (Zfa (B + 60) (V + 1) p) := by
 have h1 := h.up (V' := V + 1) (by omega) hV;rw [OP, FG (by omega) h, Zx (n := l.2.2.2.1 + 1) (by omega) (by omega)];simp only [Option.bind_some];have stay : ∀ q : Zw, Yu B V q ∧ q.1 = p.1 → Zfa (B + 60) (V + 1) p (q, [], ()) := fun q h => ⟨(h.1.up (by omega) hV).mono (by omega), h.2, Nat.zero_le _, BH⟩
 have high : ∀ q : H5, 0 ≤ q.2.1 → Yu B V (p.1, p.2.1, q, p.2.2.2) := fun q hq => ⟨h.row, h.cells, h.early, h.undos, h.votes, h.news, h.view, h.top, ⟨hq, h.hq.2⟩⟩
 have learn : Ok ((X0 big t p l.2.2.2.2.1).bind fun y => some (y, ([] : List Zo), ())) (Zfa (B + 60) (V + 1) p) := Zb (Zl0 hB ht h _) fun y hy => Za ⟨hy.1.up (by omega) hV, Zi9 hy.2, Nat.zero_le _, BH⟩;exact Zb (Eh ht _ _) fun _ _ => ZT (fun _ => Za (stay p ⟨h, rfl⟩)) fun _ => Yq (fun _ => Za (stay p ⟨h, rfl⟩)) fun _ =>
  Ze (fun _ => Zb (Zl4 (by omega) ht h hV n hn l) fun y hy => Za ⟨hy.1.mono (by omega), hy.2⟩) fun _ =>
  Ze (fun _ => Zb (AU _ _) fun q hq => Zb (Zl4 (by omega) ht (high q (Int.le_trans h.hq.1 hq.2)) hV n hn l) fun y hy => Za ⟨hy.1.mono (by omega), hy.2⟩) fun _ =>
  Ze (fun _ => Za (stay p ⟨h, rfl⟩)) fun _ => Zb (WC _ _) fun _ _ => Yq (fun _ => Za (stay p ⟨h, rfl⟩)) fun _ => Zb (Zno _ _ _) fun _ _ =>
  Z1 (fun _ => Zb (Zn4 ht _ _) fun _ _ => Z1 (fun _ => Zb (Zl0 hB ht h _) fun y hy => Yq (fun _ => Za ⟨hy.1.up (by omega) hV, Zi9 hy.2, Nat.zero_le _, BH⟩) fun _ => Zb (WC _ _) fun _ _ => Zb (Zjb (by omega) (hy.1.up (V' := V + 1) (by omega) hV) _ _ _ _ (by omega)) fun z hz => Zb (UA (by omega) hz.1 _ (by omega)) fun w hw => Za ⟨hw.1, hw.2.trans (hz.2.1.trans (Zi9 hy.2)), by show List.length z.1 ≤ 7; have := hz.2.2.1; omega, hz.2.2.2⟩) (fun _ => learn)) (fun _ => learn)
def J0 (B : Nat) (V : Int) (p : Zw) : Prop := Yu B V p ∧ 0 ≤ p.1 ∧ p.1 ≤ 1000
theorem J0.mono {B B' : Nat} {V : Int} {p : Zw} (h : J0 B V p) (hb : B ≤ B') : J0 B' V p := ⟨h.1.mono hb, h.2⟩
theorem J0.up {B : Nat} {V V' : Int} {p : Zw} (h : J0 B V p) (hv : V ≤ V') (ht : V' ≤ 900) : J0 B V' p := ⟨h.1.up hv ht, h.2⟩
theorem J0.of {B B' : Nat} {V V' : Int} {p q : Zw} (h : J0 B V p) (k : Yu B' V' q) (e : q.1 = p.1) : J0 B' V' q := ⟨k, by rw [e]; exact h.2⟩
structure ClI (B S : Nat) (V : Int) (x : Zi) : Prop where
 n : x.1 = 4
 tree : WU x.2.2.2.1
 peers : List.length x.2.2.2.2.1 = 4
 peer : ∀ p ∈ x.2.2.2.2.1, J0 B V p
 net : List.length x.2.2.2.2.2.1 ≤ 60
 said : List.length x.2.2.2.2.2.2.1 ≤ S
 pend : List.length x.2.2.2.2.2.2.2.1 ≤ 8
 key : ∀ c ∈ x.2.2.2.2.2.2.2.1, ByteArray.size c.2.1 ≤ 1000
 lv : Lv V x.2.2.2.2.2.1
 tv : ∀ b ∈ x.2.2.2.1, b.2.1 ≤ V
theorem ClI.mono {B B' S S' : Nat} {V : Int} {x : Zi} (h : ClI B S V x) (hb : B ≤ B') (hs : S ≤ S') : ClI B' S' V x :=
 ⟨h.n, h.tree, h.peers, fun p hp => (h.peer p hp).mono hb, h.net, Nat.le_trans h.said hs, h.pend, h.key, h.lv, h.tv⟩
theorem ClI.up {B S : Nat} {V V' : Int} {x : Zi} (h : ClI B S V x) (hv : V ≤ V') (ht : V' ≤ 900) : ClI B S V' x :=
 ⟨h.n, h.tree, h.peers, fun p hp => (h.peer p hp).up hv ht, h.net, h.said, h.pend, h.key, h.lv.up hv, fun b hb => Int.le_trans (h.tv b hb) hv⟩
theorem Q6 {α : Type} {P : α → Prop} {y : α} (hy : P y) : ∀ {l : List α} {i : Nat}, (∀ x ∈ l, P x) → ∀ x ∈ upd l i y, P x
 | [], _, h, x, hx => h x hx
 | a :: l, 0, h, x, hx => by
  rcases List.mem_cons.1 hx with rfl | hx
  ·exact hy
  ·exact h x (List.mem_cons_of_mem _ hx)
 | a :: l, i + 1, h, x, hx => by
  rcases List.mem_cons.1 hx with rfl | hx
  ·exact h _ List.mem_cons_self
  ·exact Q6 hy (fun z hz => h z (List.mem_cons_of_mem _ hz)) x hx
theorem Lv.app {V : Int} {a b : List Zo} (h : Lv V a) (k : Lv V b) : Lv V (List.append a b) := fun y hy => by
 rcases List.mem_append.1 hy with hy | hy
 ·exact h y hy
 ·exact k y hy
theorem Lv.sub {V : Int} {l : List Zo} (h : Lv V l) (a b : Nat) : Lv V (List.take a (List.drop b l)) := fun y hy => h y (List.mem_of_mem_drop (List.mem_of_mem_take hy))
theorem ZqE {B S : Nat} {V : Int} {x : Zi} (h : ClI B S V x) (k : Int) : Ok (Ef big x k) fun r => ClI B S V r.2.1 ∧ (r.1.2.1 = true → 0 ≤ r.1.1.2.2.2.1 ∧ r.1.1.2.2.2.1 ≤ V) := by
 obtain ⟨n, ch, li, tr, ps, ne, sa, pe, ⟨⟩⟩ := x;have hn : List.length ne ≤ 60 := h.net;rw [ZeN];dsimp only;have hW : K6.wrap ((↑(List.length ne) : Int) - 1) = (↑(List.length ne) : Int) - 1 := Zx (by omega) (by omega);simp only [LB, Option.bind_some, hW]
 by_cases hk : 0 ≤ k ∧ k ≤ (↑(List.length ne) : Int) - 1
 ·have e : (decide (0 ≤ k) && decide (k ≤ (↑(List.length ne) : Int) - 1)) = true := by simp only [hk.1, hk.2, decide_true, Bool.and_self]
  have w : K6.wrap (k + 1) = k + 1 := Zx (by omega) (by omega);have g4 : 0 + (List.take (k.toNat - 0) (List.drop 0 ne)).length ≤ lim := by simp only [List.length_take, List.length_drop]; unfold lim; omega
  have g7 : (List.take (k.toNat - 0) (List.drop 0 ne)).length + (List.take (List.length ne - (k + 1).toNat) (List.drop (k + 1).toNat ne)).length ≤ lim := by simp only [List.length_take, List.length_drop]; unfold lim; omega
  have g7' : (List.append (List.take (k.toNat - 0) (List.drop 0 ne)) (List.take (List.length ne - (k + 1).toNat) (List.drop (k + 1).toNat ne))).length ≤ 60 := by
   show List.length (_ ++ _ : List Zo) ≤ 60;simp only [List.length_append, List.length_take, List.length_drop]; omega
  simp only [e, Bool.not_true, cond_false, w, if_pos hk.1, if_pos (show k < (↑(List.length ne) : Int) by omega), if_pos (show k ≤ (↑(List.length ne) : Int) by omega), if_pos (show 0 ≤ k + 1 by omega), if_pos (show k + 1 ≤ (↑(List.length ne) : Int) by omega), if_pos g4, if_pos g7, Xe];refine ZD (by omega) fun y hy => Za ⟨⟨h.n, h.tree, h.peers, h.peer, g7', h.said, h.pend, h.key, fun x hx => ?_, h.tv⟩, fun _ => h.lv y hy⟩;rcases List.mem_append.1 hx with hx | hx
  ·exact h.lv x (List.mem_of_mem_drop (List.mem_of_mem_take hx))
  ·exact h.lv x (List.mem_of_mem_drop (List.mem_of_mem_take hx))
 ·have e : (decide (0 ≤ k) && decide (k ≤ (↑(List.length ne) : Int) - 1)) = false := by
   rw [← Bool.not_eq_true];intro h;simp only [Bool.and_eq_true, decide_eq_true_eq] at h;exact hk h
  simp only [e, Bool.not_false, cond_true];exact Za ⟨h, fun h => by cases h⟩
theorem Zhb {B S : Nat} {V : Int} {x : Zi} (h : ClI B S V x) (l : List Zo) (hl : l.length ≤ 1000000) (hv : Lv V l) : Ok (W4 big x l) fun r => ClI B S V r.2.1 := by
 have hn := h.net;rw [ZbB, Zx (by omega) (by omega)];refine Ze (fun _ => Za h) fun hc => Zm (by unfold lim; omega) (Zm (by unfold lim; omega) (Za ⟨h.n, h.tree, h.peers, h.peer, ?_, h.said, h.pend, h.key, h.lv.app hv, h.tv⟩));show (List.append x.2.2.2.2.2.1 l).length ≤ 60;show List.length (_ ++ _ : List Zo) ≤ 60;rw [List.length_append]; omega
theorem ZqF {B S : Nat} {V : Int} (hS : S ≤ 1000000000) {x : Zi} (h : ClI B S V x) (v : Z3) : Ok (GJ big x v) fun r => ClI B (S + 1) V r.2.1 := by
 obtain ⟨n, ch, li, tr, ps, ne, sa, pe, ⟨⟩⟩ := x;obtain ⟨v0, v1, v2, v3, ⟨⟩⟩ := v;have hn : List.length sa ≤ S := h.said;rw [ZbD];dsimp only;refine up0 (L := List.length sa) (by omega) (f := fun m i => Qn m i n ch li tr ps ne sa pe v0 v1 v2 v3) (fun m i h0 h1 nx => ?_) (fun m => ?_)
 ·rw [Bj, Zx (n := i + 1) (by omega) (by omega)]
  exact Ze (fun hi => Zm h0 (Zm hi (ZD (by omega) fun y hy => Z1 (fun _ => Za (h.mono (Nat.le_refl _) (by omega))) fun _ => nx _ rfl))) (fun h => by omega)
 ·rw [Bj]
  refine Ze (fun h => by omega) fun _ => ?_;simp only [Xe];refine Zm (by unfold lim; omega) (Zm (by simp only [List.length_singleton]; unfold lim; omega) (Za ⟨h.n, h.tree, h.peers, h.peer, h.net, ?_, h.pend, h.key, h.lv, h.tv⟩));show (List.append sa [(v0, v1, v2, v3, ())]).length ≤ S + 1;rw [Y9]; omega
theorem Zkg {B S : Nat} {V : Int} (hS : S ≤ 900000000) (l : List Zo) (hl : l.length ≤ 7) (hv : Lv V l) : ∀ (m n : Nat) (i : Nat) (c : Zi), i ≤ l.length → l.length ≤ i + m → m < n → ClI B (S + i) V c →
  Ok (Yn n (i : Int) c.1 c.2.1 c.2.2.1 c.2.2.2.1 c.2.2.2.2.1 c.2.2.2.2.2.1 c.2.2.2.2.2.2.1 c.2.2.2.2.2.2.2.1 l) fun r => ClI B (S + 7) V r.2.1 := by
 intro m
 induction m with
 | zero =>
  intro n i c h1 h2 h3 h;obtain ⟨n, rfl⟩ : ∃ m, n = m + 1 := ⟨n - 1, by omega⟩
  rw [Kx];exact Ze (fun h => by omega) fun _ => Za (h.mono (Nat.le_refl _) (by omega))
 | succ m ih =>
  intro n i c h1 h2 h3 h;obtain ⟨n, rfl⟩ : ∃ m, n = m + 1 := ⟨n - 1, by omega⟩
  rw [Kx, Zx (n := (i : Int) + 1) (by omega) (by omega)];refine Ze (fun hi => ?_) fun _ => Za (h.mono (Nat.le_refl _) (by omega));have h0 : (0 : Int) ≤ (i : Int) := by omega
  have e1 : ((i : Int) + 1) = ((i + 1 : Nat) : Int) := by omega
  have ht : (List.take (((i : Int) + 1).toNat - (i : Int).toNat) (List.drop (i : Int).toNat l)).length ≤ 1000000 := by simp only [List.length_take, List.length_drop]; omega
  have go : ∀ c' : Zi, ClI B (S + (i + 1)) V c' → Ok (Yn n ((i : Int) + 1) c'.1 c'.2.1 c'.2.2.1 c'.2.2.2.1 c'.2.2.2.2.1 c'.2.2.2.2.2.1 c'.2.2.2.2.2.2.1 c'.2.2.2.2.2.2.2.1 l) fun r => ClI B (S + 7) V r.2.1 := fun c' hc => by
   rw [e1];exact ih n (i + 1) c' (by omega) (by omega) (by omega) hc
  refine Zm h0 (Zm hi (ZD (by omega) fun y _ => Ze (fun _ => Zm h0 (Zm hi (ZD (by omega) fun y _ => Zb (ZqF (by omega) h _) fun z hz => ?_))) fun _ => ?_))
  ·have hz' : ClI B (S + (i + 1)) V z.2.1 := hz.mono (Nat.le_refl _) (by omega)
   exact Ze (fun _ => Zm (by omega) (Zm (by omega) (Zm h0 (Zm (by omega) (Zb (Zhb hz' _ ht (hv.sub _ _)) fun w hw => go _ hw))))) fun _ => go _ hz'
  ·have h' : ClI B (S + (i + 1)) V c := h.mono (Nat.le_refl _) (by omega)
   exact Ze (fun _ => Zm (by omega) (Zm (by omega) (Zm h0 (Zm (by omega) (Zb (Zhb h' _ ht (hv.sub _ _)) fun w hw => go _ hw))))) fun _ => go _ h'
theorem Zo5 {B S : Nat} {V : Int} (hB : B ≤ 800000000) (hS : S ≤ 900000000) (hV : V + 1 ≤ 900) {x : Zi} (h : ClI B S V x) (k : Int) : Ok (De big x k) fun r => ClI (B + 60) (S + 7) (V + 1) r.2.1 := by
 rw [SW];refine Zb (ZqE h k) fun y hyl => ?_;obtain ⟨hy, hlv⟩ := hyl;obtain ⟨⟨l, b, ⟨⟩⟩, y, ⟨⟩⟩ := y;obtain ⟨n, ch, li, tr, ps, ne, sa, pe, ⟨⟩⟩ := y;have hn : n = 4 := hy.n;have hp : List.length ps = 4 := hy.peers;have hq := hy.peer;have ht := hy.tree;have stay := (hy.up (V' := V + 1) (by omega) hV).mono (B' := B + 60) (S' := S + 7) (by omega) (by omega);dsimp only at hy hq ht stay hlv ⊢;refine ZT (fun _ => Za stay) fun hb0 => Zb (Lu _ _ (by show List.length ps ≤ 1000; omega)) fun b hb => ZT (fun _ => Za stay) fun hb1 => ?_;have hi := hb hb1;have hl2 := hlv hb0;dsimp only at hi;have hu : ∀ y, (upd ps (Int.toNat l.2.2.1) y).length = List.length ps := fun y => ZG _ _ _;have fin : ∀ z z3 : Zw, J0 B V z → J0 (B + 60) (V + 1) z3 → ∀ l' : List Zo, l'.length ≤ 7 → Lv (V + 1) l' →
   Ok (Yn big 0 n ch li tr (upd (upd ps (Int.toNat l.2.2.1) z) (Int.toNat l.2.2.1) z3) ne sa pe l') fun r => ClI (B + 60) (S + 7) (V + 1) r.2.1 := fun z z3 hz hz3 l' hl' hlv' => by
  have hc : ClI (B + 60) (S + 0) (V + 1) (n, ch, li, tr, upd (upd ps (Int.toNat l.2.2.1) z) (Int.toNat l.2.2.1) z3, ne, sa, pe, ()) :=
   ⟨hn, ht, by show (upd (upd ps _ z) _ z3).length = 4; rw [ZG, ZG]; exact hp, Q6 hz3 (Q6 ((hz.up (by omega) hV).mono (by omega)) fun p hp => ((hq p hp).up (by omega) hV).mono (by omega)), hy.net, hy.said, hy.pend, hy.key, hy.lv.up (by omega), fun b hb => by have := hy.tv b hb; omega⟩
  have := Zkg hS l' hl' hlv' 7 big 0 _ (by omega) (by omega) (by unfold big; omega) hc;exact this
 have mid : ∀ (z : Zw) (f : Zw → Option (Zw × List Zo × Unit)), J0 B V z → (∀ z, Yu B V z → Ok (f z) (Zfa (B + 60) (V + 1) z)) → Ok ((f z).bind fun y_3 => (Ei ps (Int.toNat l.2.2.1) z).bind fun y_4 => if (0 : Int) ≤ l.2.2.1 then if l.2.2.1 < (↑(List.length y_4) : Int) then (nth y_4 (Int.toNat l.2.2.1)).bind fun y_5 => (Ei y_4 (Int.toNat l.2.2.1) y_3.1).bind fun y_6 => Yn big (0 : Int) n ch li tr y_6 ne sa pe y_3.2.1 else none else none) fun r => ClI (B + 60) (S + 7) (V + 1) r.2.1 := fun z f hz hf => by
  refine Zb (hf z hz.1) fun y3 hy3 => DU (by omega) ?_;exact Zm hi.1 (Zm (by rw [hu]; exact hi.2) (ZD (by rw [hu]; omega) fun _ _ => DU (by rw [hu]; omega) (fin _ _ hz (hz.of hy3.1 hy3.2.1) _ hy3.2.2.1 hy3.2.2.2)))
 refine Z1 (fun _ => Zm hi.1 (Zm hi.2 (ZD (by omega) fun y hy1 => ?_))) (fun _ => Zm hi.1 (Zm hi.2 (ZD (by omega) fun y hy1 => ?_)))
 ·exact mid y (fun p => Qm big tr n p l) (hq y hy1) fun z hz => Zo4 hB ht hz hV n (by omega) l hl2
 ·exact mid y (fun p => AC big tr n p l) (hq y hy1) fun z hz => ZrY hB ht hz hV n (by omega) l hl2
theorem ZqG {B S : Nat} {V : Int} (hB : B ≤ 800000000) (hV : V + 1 ≤ 900) {x : Zi} (h0 : ClI B S V x) (k : Int) : Ok (GL big x k) fun r => ClI B S (V + 1) r.2.1 := by
 have h := h0.up (V' := V + 1) (by omega) hV;rw [ZbF];have hp : List.length x.2.2.2.2.1 = 4 := h.peers;refine Zb (Lu _ _ (by omega)) fun b hb => ZT (fun _ => Za h) fun hb1 => ?_;have hi := hb hb1;have hu : ∀ y, (upd x.2.2.2.2.1 k.toNat y).length = List.length x.2.2.2.2.1 := fun y => ZG _ _ _;refine Zm hi.1 (Zm hi.2 (ZD (by omega) fun y hy => Zb (Zkf (by omega) (h0.peer y hy).1 hV _) fun z hz => DU (by omega) ?_));simp only [Xe];have one : ∀ z, J0 B (V + 1) z → ClI B S (V + 1) (x.1, x.2.1, x.2.2.1, x.2.2.2.1, upd x.2.2.2.2.1 k.toNat z, x.2.2.2.2.2) := fun z hz =>
  ⟨h.n, h.tree, by show (upd _ _ _).length = 4; rw [hu]; exact hp, Q6 hz h.peer, h.net, h.said, h.pend, h.key, h.lv, h.tv⟩
 have two : ∀ z, J0 B (V + 1) z → ClI B S (V + 1) (x.1, x.2.1, x.2.2.1, x.2.2.2.1, upd (upd x.2.2.2.2.1 k.toNat y) k.toNat z, x.2.2.2.2.2) := fun z hz =>
  ⟨h.n, h.tree, by show (upd (upd _ _ _) _ _).length = 4; rw [ZG, hu]; exact hp, Q6 hz (Q6 (h.peer y hy) h.peer), h.net, h.said, h.pend, h.key, h.lv, h.tv⟩
 exact ZT (fun _ => Za (one y (h.peer y hy))) fun _ => Zm hi.1 (Zm (by rw [hu]; exact hi.2) (ZD (by rw [hu]; omega) fun _ _ => DU (by rw [hu]; omega) (Zb (Zhb (two z.1 ((h0.peer y hy).of hz.1 hz.2.1)) _ (by simp only [List.length_singleton]; omega) hz.2.2) fun w hw => Za hw)))
theorem Zo6 {B S : Nat} {V : Int} {x : Zi} (h : ClI B S V x) (k : Int) : Ok (N4 big x k) fun r => ClI B S V r.2.1 := by
 obtain ⟨n, ch, li, tr, ps, ne, sa, pe, ⟨⟩⟩ := x;have hn : List.length ne ≤ 60 := h.net;show Ok (Uv big _) _;unfold Uv twF twL;dsimp only;have hW : K6.wrap ((↑(List.length ne) : Int) - 1) = (↑(List.length ne) : Int) - 1 := Zx (by omega) (by omega);simp only [LB, Option.bind_some, hW]
 by_cases hk : 0 ≤ k ∧ k ≤ (↑(List.length ne) : Int) - 1
 ·have e : (decide (0 ≤ k) && decide (k ≤ (↑(List.length ne) : Int) - 1)) = true := by simp only [hk.1, hk.2, decide_true, Bool.and_self]
  have w : K6.wrap (k + 1) = k + 1 := Zx (by omega) (by omega);have hl : (List.take ((k + 1).toNat - k.toNat) (List.drop k.toNat ne)).length ≤ 60 := by simp only [List.length_take, List.length_drop]; omega
  simp only [e, Bool.not_true, cond_false, w];refine Zb (Q := fun r => List.length (r.2.getD ne) ≤ 60 ∧ Lv V (r.2.getD ne)) ?_ fun r hr => Za ⟨h.n, h.tree, h.peers, h.peer, hr.1, h.said, h.pend, h.key, hr.2, h.tv⟩;rw [Zx (n := (↑(List.length ne) : Int) + (↑(List.length (List.take ((k + 1).toNat - k.toNat) (List.drop k.toNat ne))) : Int)) (by omega) (by omega)];refine Zm (by omega) (Zm (by omega) (Zm hk.1 (Zm (by omega) (Ze (fun _ => Za ⟨hn, h.lv⟩) fun hc => Zm (by unfold lim; omega) (Zm (by unfold lim; omega) (Za ⟨?_, h.lv.app (h.lv.sub _ _)⟩))))));show (List.append ne _).length ≤ 60;show List.length (_ ++ _ : List Zo) ≤ 60;rw [List.length_append]; omega
 ·have e : (decide (0 ≤ k) && decide (k ≤ (↑(List.length ne) : Int) - 1)) = false := by
   rw [← Bool.not_eq_true];intro h;simp only [Bool.and_eq_true, decide_eq_true_eq] at h;exact hk h
  simp only [e, Bool.not_false, cond_true, Option.bind_some];exact Za h
def bL (l : List UInt8) : ByteArray := ByteArray.mk l.toArray
theorem Zhc (l r : List UInt8) : bL (l ++ r) = bL l ++ bL r := by
 apply ByteArray.ext;simp [bL]
theorem bL_size (l : List UInt8) : (bL l).size = l.length := by simp [bL, ByteArray.size]
theorem WD (s : ByteArray) : s.data.toList.length = s.size := by rw [Array.length_toList]; rfl
theorem ZdA (s : ByteArray) (b i : Nat) : s.extract b i = bL ((s.data.toList.drop b).take (i - b)) := by
 apply ByteArray.ext;apply Array.toList_inj.1;simp [bL, ByteArray.data_extract, List.extract_eq_take_drop]
theorem Zo7 (s : ByteArray) : bL s.data.toList = s := by
 apply ByteArray.ext;simp [bL]
def enc (n : Nat) : List UInt8 := if n ≤ 127 then [UInt8.ofNat n] else UInt8.ofNat (n % 128 + 128) :: enc (n / 128)
termination_by n
decreasing_by omega
theorem ZdB {n : Nat} (h : n ≤ 127) : enc n = [UInt8.ofNat n] := by rw [enc, if_pos h]
theorem Zhd {n : Nat} (h : ¬ n ≤ 127) : enc n = UInt8.ofNat (n % 128 + 128) :: enc (n / 128) := by rw [enc, if_neg h]
theorem Zio : ∀ (k n : Nat), n < 128 ^ (k + 1) → (enc n).length ≤ k + 1
 | 0, n, h => by rw [ZdB (by omega)]; exact Nat.le_refl _
 | k + 1, n, h => by
  by_cases h1 : n ≤ 127
  ·rw [ZdB h1]; show 1 ≤ _; omega
  ·rw [Zhd h1, List.length_cons]
   have := Zio k (n / 128) (by rw [Nat.pow_succ] at h; omega);omega
theorem Zl5 (n : Nat) : 1 ≤ (enc n).length := by
 by_cases h1 : n ≤ 127
 ·rw [ZdB h1]; exact Nat.le_refl _
 ·rw [Zhd h1, List.length_cons]; omega
abbrev fB (n : Int) : UInt8 := UInt8.ofNat n.toNat
theorem w8 {m : Nat} (h : m < 256) : IntKind.u8.wrap (m : Int) = (m : Int) := by rw [IntKind.wrap_u8]; omega
theorem ZqH (l : List Int) (x : Int) : ByteArray.mk (List.map (fun n => UInt8.ofNat n.toNat) (List.append l [x])).toArray = bL (l.map fB ++ [fB x]) := by
 show bL (List.map fB (l ++ [x])) = _;rw [List.map_append]; rfl
theorem Zfb : ∀ (k n m : Nat) (l : List Int), m < 128 ^ (k + 1) → m < 9223372036854775808 → k < n → l.length + k ≤ 1000 → Ky n (m : Int) l = some (bL (l.map fB ++ enc m))
 | k, 0, m, l, _, _, h, _ => by omega
 | k, n + 1, m, l, h1, h2, h3, h4 => by
  rw [QO]
  by_cases h0 : m ≤ 127
  ·rw [decide_eq_false (by omega), cond_false, if_pos (by simp only [List.length_singleton]; unfold lim; omega), ZqH, ZdB h0, w8 (by omega)]
   rfl
  ·have e1 : ((m : Int)).tmod 128 = ((m % 128 : Nat) : Int) := (Int.ofNat_tmod m 128).symm
   have e2 : ((m : Int)).tdiv 128 = ((m / 128 : Nat) : Int) := (Int.ofNat_tdiv m 128).symm;rw [decide_eq_true (by omega), cond_true, if_pos (by simp only [List.length_singleton]; unfold lim; omega), e1, e2, Zx (n := ((m / 128 : Nat) : Int)) (by omega) (by omega), Zx (n := ((m % 128 : Nat) : Int) + 128) (by omega) (by omega)];cases k with
   | zero => omega
   | succ k =>
    have e3 : IntKind.u8.wrap (((m % 128 : Nat) : Int) + 128) = ((m % 128 + 128 : Nat) : Int) := by
     have : ((m % 128 : Nat) : Int) + 128 = ((m % 128 + 128 : Nat) : Int) := by omega
     rw [this, w8 (by omega)]
    rw [Zfb k n (m / 128) _ (by rw [Nat.pow_succ] at h1; omega) (by omega) (by omega) (by show (l ++ _).length + k ≤ 1000; rw [List.length_append, List.length_singleton]; omega), e3, Zhd h0];show some (bL (List.map fB (l ++ _) ++ _)) = _;rw [List.map_append, List.append_assoc];rfl
theorem Zo8 (n : Int) : Ok (JM big n) fun t => 1 ≤ t.size ∧ t.size ≤ 12 ∧ (0 ≤ n → n < 9223372036854775808 → t = bL (enc n.toNat)) := by
 rw [ZeR]
 by_cases hn : 0 ≤ n ∧ n < 9223372036854775808
 ·obtain ⟨m, rfl⟩ : ∃ m : Nat, n = m := ⟨n.toNat, by omega⟩
  rw [Zfb 8 big m [] (by omega) (by omega) (by unfold big; omega) (by decide)];refine Za ⟨?_, ?_, fun _ _ => by rw [Int.toNat_natCast]; rfl⟩
  ·rw [bL_size, List.map_nil, List.nil_append]; exact Zl5 m
  ·rw [bL_size, List.map_nil, List.nil_append]
   have := Zio 8 m (by omega);omega
 ·obtain ⟨b, hb⟩ : ∃ b, big = b + 1 := ⟨big - 1, by decide⟩
  obtain ⟨c, hc⟩ : ∃ c, b = c + 1 := ⟨big - 2, by rw [show big = big - 2 + 2 by decide] at hb; omega⟩
  have h10 : 10 < big := by decide
  have hc8 : 8 < c + 1 := by omega
  rw [hb, QO];refine Ze (fun h1 => Zm (by simp only [List.length_nil, List.length_singleton]; unfold lim; omega) ?_) fun h1 => Zm (by simp only [List.length_nil, List.length_singleton]; unfold lim; omega) (Za ⟨?_, ?_, fun h2 h3 => absurd ⟨h2, h3⟩ hn⟩)
  ·generalize IntKind.u8.wrap (K6.wrap (n.tmod 128 + 128)) = x
   have hw := IntKind.wrap_i64 (n.tdiv 128);have hr : -9223372036854775808 ≤ K6.wrap (n.tdiv 128) ∧ K6.wrap (n.tdiv 128) < 9223372036854775808 := by
    rw [hw]; omega
   revert hr;generalize K6.wrap (n.tdiv 128) = w;intro hr
   by_cases hw0 : 0 ≤ w
   ·obtain ⟨m, rfl⟩ : ∃ m : Nat, w = m := ⟨w.toNat, by omega⟩
    rw [hc, Zfb 8 (c + 1) m _ (by omega) (by omega) hc8 (by simp only [List.append_eq, List.nil_append, List.length_singleton]; omega)];have := Zio 8 m (by omega);have := Zl5 m;have e : (List.map fB (List.append [] [x])).length = 1 := by rw [List.length_map]; rfl
    exact Za ⟨by rw [bL_size, List.length_append, e]; omega, by rw [bL_size, List.length_append, e]; omega, fun h2 h3 => absurd ⟨h2, h3⟩ hn⟩
   ·rw [hc, QO]
    refine Ze (fun h => by omega) fun _ => Zm (by simp only [List.append_eq, List.nil_append, List.length_singleton]; unfold lim; omega) (Za ⟨?_, ?_, fun h2 h3 => absurd ⟨h2, h3⟩ hn⟩)
    ·rw [ZqH, bL_size]; simp only [List.append_eq, List.nil_append, List.map_cons, List.map_nil, List.length_append, List.length_singleton]; omega
    ·rw [ZqH, bL_size]; simp only [List.append_eq, List.nil_append, List.map_cons, List.map_nil, List.length_append, List.length_singleton]; omega
  ·rw [ZqH, bL_size]; simp only [List.map_nil, List.nil_append, List.length_singleton]; omega
  ·rw [ZqH, bL_size]; simp only [List.map_nil, List.nil_append, List.length_singleton]; omega
theorem Zau (n : Int) : Ok (Xd big n) fun t => 1 ≤ t.size ∧ t.size ≤ 12 ∧ (0 ≤ n → n < 9223372036854775808 → t = bL (enc n.toNat)) := by
 rw [ZeT];exact Ze (fun h => Za ⟨by decide, by decide, fun h1 => by omega⟩) fun _ => Zb (Zo8 n) fun t ht => Za ht
theorem Zjc (q : H5) : Ok (Eg big q) fun t => t.size ≤ 48 := by
 rw [ZeV];exact Zb (Zau _) fun a ha => Zb (Zau _) fun b hb => Zm (by unfold lim; omega) (Zb (Zau _) fun c hc => Zm (by simp only [ByteArray.size_append]; unfold lim; omega) (Zb (Zau _) fun d hd => Zm (by simp only [ByteArray.size_append]; unfold lim; omega) (Za (by simp only [ByteArray.size_append]; omega))))
theorem Zkh (q : Z3) : Ok (Dj big q) fun t => t.size ≤ 48 := by
 rw [Tc];exact Zb (Zau _) fun a ha => Zb (Zau _) fun b hb => Zm (by unfold lim; omega) (Zb (Zau _) fun c hc => Zm (by simp only [ByteArray.size_append]; unfold lim; omega) (Zb (Zau _) fun d hd => Zm (by simp only [ByteArray.size_append]; unfold lim; omega) (Za (by simp only [ByteArray.size_append]; omega))))
theorem Zl6 (s : ByteArray) (i : Int) {P : Int → Prop} : ∀ (m n : Nat) (k a : Int), 0 ≤ k → k ≤ 8 → (8 : Int) ≤ k + m → m < n → (∀ n' a', n ≤ n' + m + 1 → Ok (Vx n' a' s (K6.wrap (i + 1))) P) → Ok (Vy n a s i k) P
 | m, 0, k, a, _, _, _, h, _ => by omega
 | 0, n + 1, k, a, h0, h1, h2, h3, go => by
  rw [Bl];exact Ze (fun h => by omega) fun _ => go n _ (by omega)
 | m + 1, n + 1, k, a, h0, h1, h2, h3, go => by
  rw [Bl, Zx (n := k + 1) (by omega) (by omega)];refine Ze (fun h => ?_) fun _ => go n _ (by omega);exact Ze (fun _ => Zl6 s i m n (k + 1) _ (by omega) (by omega) (by omega) (by omega) fun n' a' h => go n' a' (by omega)) (fun _ => Zl6 s i m n (k + 1) _ (by omega) (by omega) (by omega) (by omega) fun n' a' h => go n' a' (by omega))
theorem Zjd (s : ByteArray) (hs : s.size ≤ 1000000) : ∀ (m n : Nat) (i a : Int), 0 ≤ i → i ≤ s.size → (s.size : Int) ≤ i + m → m * 10 < n → Ok (Vx n a s i) fun _ => True
 | m, 0, i, a, _, _, _, h => by omega
 | 0, n + 1, i, a, h0, h1, h2, h3 => by
  rw [Bk];exact Ze (fun h => by omega) fun _ => Za trivial
 | m + 1, n + 1, i, a, h0, h1, h2, h3 => by
  have hl := WD s;rw [Bk];refine Ze (fun h => Zm h0 (ZD (by omega) fun y _ => ?_)) fun _ => Za trivial;refine Zl6 s i 8 n 0 _ (by omega) (by omega) (by omega) (by omega) fun n' a' hn => ?_;rw [Zx (n := i + 1) (by omega) (by omega)];exact Zjd s hs m n' (i + 1) a' (by omega) (by omega) (by omega) (by omega)
theorem Zl7 (s : ByteArray) (hs : s.size ≤ 1000000) : Ok (IN big s) fun _ => True := by
 rw [ZgF, ZbI];exact Zb (Zjd s hs s.size big 0 _ (by omega) (by omega) (by omega) (by unfold big; omega)) fun _ _ => Za trivial
theorem Zl8 (s f : ByteArray) : (s ++ f).extract 0 s.size = s := by
 rw [ZdA, List.drop_zero, Nat.sub_zero, ByteArray.data_append, Array.toList_append, List.take_left' (WD s), Zo7]
theorem Zje (s : ByteArray) : Ok (Mz big s) fun r => r.1.size ≤ 20004 ∧ (4 ≤ r.1.size → r.1.extract 0 (r.1.size - 4) = s) := by
 rw [ZeX];refine Ze (fun _ => Za ⟨by decide, fun h => absurd h (by decide)⟩) fun hs => Zb (Zl7 s (by omega)) fun y _ => ?_;generalize hf : ByteArray.mk (List.map (fun n => UInt8.ofNat n.toNat) [IntKind.u8.wrap (Int.fdiv y ((2 : Int) ^ min (Int.toNat (24 : Int)) IntKind.u32.bits)), IntKind.u8.wrap (Int.fdiv y ((2 : Int) ^ min (Int.toNat (16 : Int)) IntKind.u32.bits)), IntKind.u8.wrap (Int.fdiv y ((2 : Int) ^ min (Int.toNat (8 : Int)) IntKind.u32.bits)), IntKind.u8.wrap y]).toArray = f;have h4 : f.size = 4 := by rw [← hf]; rfl
 refine Zm (by unfold lim; omega) (Za ⟨by simp only [ByteArray.size_append]; omega, fun _ => ?_⟩);show (s ++ f).extract 0 ((s ++ f).size - 4) = s;rw [ByteArray.size_append, h4, Nat.add_sub_cancel];exact Zl8 s f
theorem Zki (s : ByteArray) (hs : s.size ≤ 1000000) : Ok (Dm big s) fun r => r.1.size ≤ 20000 ∧ (r.2.1 = true → 4 ≤ s.size ∧ r.1 = s.extract 0 (s.size - 4)) := by
 rw [Ti, Zx (n := (s.size : Int) - 4) (by omega) (by omega)];have no : (ByteArray.mk #[]).size ≤ 20000 ∧ (false = true → 4 ≤ s.size ∧ ByteArray.mk #[] = s.extract 0 (s.size - 4)) := ⟨by decide, fun h => by cases h⟩
 refine Ze (fun _ => Za no) fun h1 => Ze (fun _ => Za no) fun h2 => Zm (by omega) (Zm (by omega) (Zm (by omega) (Zm (by omega) ?_)));have e : ((s.size : Int) - 4).toNat = s.size - 4 := by omega
 rw [e];refine Zb (Zl7 _ (by rw [ByteArray.size_extract]; omega)) fun y _ => Yq (fun _ => Za no) fun _ => Zm (by omega) (Zm (by omega) (Za ⟨?_, fun _ => ⟨by omega, rfl⟩⟩));show (s.extract 0 (s.size - 4)).size ≤ 20000;rw [ByteArray.size_extract]; omega
theorem Zl9 (b0 : Int) (b1 : Int) (b2 : Int) (b3 : Int) (b4 : Int) (b5 : Int) (b6 : Int) (b7 : Int) (b8 : Int) (b9 : Int) (b10 : Int) (b11 : Int) (b12 : Int) (b13 : Int) (b14 : List Int) (b15 : List Ys) (b16 : List Int) (b17 : List Xv) (b18 : List Z3) (b19 : List Zo) (b20 : Int) (hr : b14.length ≤ 100000000) : ∀ (m n : Nat) (i : Int) (s : ByteArray), 0 ≤ i → i ≤ b14.length → (b14.length : Int) ≤ i + m → m < n → s.size ≤ 1000 + 12 * i.toNat →
  Ok (Uh n s i b0 b1 b2 b3 b4 b5 b6 b7 b8 b9 b10 b11 b12 b13 b14 b15 b16 b17 b18 b19 b20) fun t => t.size ≤ 20004 ∧ (4 ≤ t.size → ∃ e, t.extract 0 (t.size - 4) = s ++ e) := by
 intro m
 induction m with
 | zero =>
  intro n i s h0 h1 h2 h3 h4;obtain ⟨n, rfl⟩ : ∃ m, n = m + 1 := ⟨n - 1, by omega⟩
  rw [JN];exact Ze (fun h => by omega) fun _ => Zb (Zje s) fun y hy => Za ⟨hy.1, fun h => ⟨bL [], by rw [hy.2 h]; exact (ByteArray.append_empty).symm⟩⟩
 | succ m ih =>
  intro n i s h0 h1 h2 h3 h4;obtain ⟨n, rfl⟩ : ∃ m, n = m + 1 := ⟨n - 1, by omega⟩
  rw [JN, Zx (n := i + 1) (by omega) (by omega)];refine Ze (fun h => Zm h0 (ZD (by omega) fun y _ => Zb (Zau y) fun z hz => Zm (by unfold lim; omega) ?_)) fun _ => Zb (Zje s) fun y hy => Za ⟨hy.1, fun h => ⟨bL [], by rw [hy.2 h]; exact (ByteArray.append_empty).symm⟩⟩;refine X7 (ih n (i + 1) (s ++ z) (by omega) (by omega) (by omega) (by omega) (by rw [ByteArray.size_append]; omega)) fun t ht => ⟨ht.1, fun h => ?_⟩
  obtain ⟨e, he⟩ := ht.2 h;exact ⟨z ++ e, by rw [he, ByteArray.append_assoc]⟩
theorem ZdC (p : Zw) (hr : List.length p.2.2.2.2.2.1 ≤ 100000000) : Ok (Uw big p) fun t => t.size ≤ 20004 ∧
  (4 ≤ t.size → (0 ≤ p.1 ∧ p.1 ≤ 1000) → (0 ≤ p.2.1 ∧ p.2.1 ≤ 1000) → ∃ e, t.extract 0 (t.size - 4) = bL (enc p.1.toNat) ++ bL (enc p.2.1.toNat) ++ e) := by
 rw [Tk];refine Zb (Zau _) fun a ha => Zb (Zau _) fun b hb => Zm (by unfold lim; omega) (Zb (Zjc _) fun c hc => Zm (by simp only [ByteArray.size_append]; unfold lim; omega) (Zb (Zjc _) fun d hd => Zm (by simp only [ByteArray.size_append]; unfold lim; omega)
  (Zb (Zkh _) fun f hf => Zm (by simp only [ByteArray.size_append]; unfold lim; omega) (Zb (Zo8 _) fun g hg => Zm (by simp only [ByteArray.size_append]; unfold lim; omega) ?_))))
 refine X7 (Zl9 _ _ _ _ _ _ _ _ _ _ _ _ _ _ _ _ _ _ _ _ _ hr (List.length p.2.2.2.2.2.1) big 0 _ (by omega) (by omega) (by omega) (by unfold big; omega) (by simp only [ByteArray.size_append]; omega)) fun t ht => ⟨ht.1, fun h h1 h2 => ?_⟩
 obtain ⟨e, he⟩ := ht.2 h;refine ⟨c ++ d ++ f ++ g ++ e, ?_⟩;rw [he, ha.2.2 h1.1 (by omega), hb.2.2 h2.1 (by omega)];simp only [ByteArray.append_assoc]
end Go.Sx.Tryz
