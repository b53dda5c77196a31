/- That a run goes through: a calculus; and the draws. -/
import Derived.Test.YtocddfdkknhgcaaGreatM8
import Derived.Test.YtocddfdkknhgcaaGreatTypes
import Derived.Test.YtocddfdkknhgcaaGreatSafeToldF1
import Derived.Test.YtocddfdkknhgcaaGreatSafeToldF2
import Derived.Test.YtocddfdkknhgcaaGreatSafeToldF3
set_option linter.unusedVariables false
set_option linter.unusedSimpArgs false
set_option maxRecDepth 100000
namespace Go.Sx.Tryz
open Go Go.Sx Go.Proofs
def Ok {α : Type} (x : Option α) (P : α → Prop) : Prop := ∃ r, x = some r ∧ P r
theorem Za {α : Type} {P : α → Prop} {r : α} (h : P r) : Ok (some r) P := ⟨r, rfl, h⟩
theorem Zc {α β : Type} {x : Option α} {f : α → Option β} {Q : α → Prop} {P : β → Prop} (h : Ok x Q) (k : ∀ r, Q r → Ok (f r) P) : Ok (x.bind f) P := by
 obtain ⟨r, rfl, hq⟩ := h;exact k r hq
theorem ZA {α : Type} {c : Prop} [Decidable c] {x : Option α} {P : α → Prop} (hc : c) (h : Ok x P) : Ok (if c then x else none) P := by rw [if_pos hc]; exact h
theorem Dz {α : Type} {c : Prop} [Decidable c] {x : Option α} {P : α → Prop} (hc : ¬ c) (h : Ok x P) : Ok (if c then none else x) P := by rw [if_neg hc]; exact h
theorem Yp {α : Type} {b : Bool} {x y : Option α} {P : α → Prop} (h1 : b = true → Ok x P) (h0 : b = false → Ok y P) : Ok (bif b then x else y) P := by
 cases b with
 | true => exact h1 rfl
 | false => exact h0 rfl
theorem Zk {α : Type} {p : Prop} [Decidable p] {x y : Option α} {P : α → Prop} (h1 : p → Ok x P) (h0 : ¬ p → Ok y P) : Ok (bif decide p then x else y) P :=
 Yp (fun h => h1 (of_decide_eq_true h)) (fun h => h0 (of_decide_eq_false h))
theorem YO {α : Type} {p : Prop} [Decidable p] {x y : Option α} {P : α → Prop} (h1 : ¬ p → Ok x P) (h0 : p → Ok y P) : Ok (bif !decide p then x else y) P :=
 Yp (fun h => h1 (of_decide_eq_false (by simpa using h))) (fun h => h0 (of_decide_eq_true (by simpa using h)))
theorem Ye {α : Type} {b : Bool} {x y : Option α} {P : α → Prop} (h1 : b = false → Ok x P) (h0 : b = true → Ok y P) : Ok (bif !b then x else y) P := by
 cases b with
 | true => exact h0 rfl
 | false => exact h1 rfl
theorem ZW {α β : Type} {l : List α} {i : Nat} {f : α → Option β} {P : β → Prop} (hi : i < l.length) (k : ∀ y, y ∈ l → Ok (f y) P) : Ok ((nth l i).bind f) P := by
 rw [Z3 hi];exact k _ (List.getElem_mem hi)
theorem GV {α β : Type} {l : List α} {i : Nat} {y : α} {f : List α → Option β} {P : β → Prop} (hi : i < l.length) (k : Ok (f (upd l i y)) P) : Ok ((DH l i y).bind f) P := by
 rw [Hg hi];exact k
theorem VN {α : Type} {x : Option α} {P Q : α → Prop} (h : Ok x P) (k : ∀ r, P r → Q r) : Ok x Q := by
 obtain ⟨r, e, h⟩ := h; exact ⟨r, e, k r h⟩
structure DF (c : ZL) : Prop where
 lo : 0 ≤ c.2.1
 hi : c.2.1 ≤ (List.length c.1 : Int)
 len : List.length c.1 ≤ 1099511627776
theorem Zps (z : Int) : 0 ≤ IntKind.i64.wrap ((BitVec.ofInt IntKind.i64.bits z &&& BitVec.ofInt IntKind.i64.bits 255).toNat : Int) ∧ IntKind.i64.wrap ((BitVec.ofInt IntKind.i64.bits z &&& BitVec.ofInt IntKind.i64.bits 255).toNat : Int) ≤ 255 := by
 have h : (BitVec.ofInt IntKind.i64.bits z &&& BitVec.ofInt IntKind.i64.bits 255).toNat ≤ 255 := by
  rw [BitVec.toNat_and];exact Nat.le_trans Nat.and_le_right (by decide)
 rw [ZI (by omega) (by omega)];omega
theorem Zmz {c : ZL} (h : DF c) : Ok (VG big c) fun r => 0 ≤ r.1 ∧ r.1 ≤ 255 ∧ DF r.2.1 := by
 rw [Zc9];have hlo := h.lo; have hhi := h.hi; have hlen := h.len;refine Zk (fun hc => ?_) (fun hc => ?_)
 ·refine ZA hlo (ZW (by omega) fun y _ => Za ?_)
  refine ⟨(Zps _).1, (Zps _).2, ?_, ?_, hlen⟩
  ·show 0 ≤ IntKind.i64.wrap (c.2.1 + 1)
   rw [ZI (by omega) (by omega)]; omega
  ·show IntKind.i64.wrap (c.2.1 + 1) ≤ (List.length c.1 : Int)
   rw [ZI (by omega) (by omega)]; omega
 ·exact Za ⟨(Zps _).1, (Zps _).2, hlo, hhi, hlen⟩
theorem Zct {a n : Int} (ha : 0 ≤ a) (hn : 0 < n) : 0 ≤ Int.tmod a n ∧ Int.tmod a n < n := ⟨Int.tmod_nonneg _ ha, Int.tmod_lt_of_pos _ hn⟩
theorem Y0 {c : ZL} (h : DF c) (n : Int) : Ok (ZY big c n) fun r => 0 ≤ r.1 ∧ (0 < n → r.1 < n) ∧ (n ≤ 0 → r.1 = 0) ∧ DF r.2.1 := by
 rw [SK];refine Zk (fun hc => Za ⟨Int.le_refl _, fun h2 => by omega, fun _ => rfl, h⟩) (fun hc => ?_);refine Zk (fun hc2 => ?_) (fun hc2 => ?_)
 ·refine Zc (Zmz h) fun y hy => ?_
  refine Dz (by omega) (Za ?_);have := Zct hy.1 (show 0 < n by omega);exact ⟨this.1, fun _ => this.2, fun h2 => by omega, hy.2.2⟩
 ·refine Zc (Zmz h) fun y hy => Zc (Zmz hy.2.2) fun y1 hy1 => Zc (Zmz hy1.2.2) fun y2 hy2 => Zc (Zmz hy2.2.2) fun y3 hy3 => ?_
  refine Dz (by omega) (Za ?_);obtain ⟨a1, a2, _⟩ := hy; obtain ⟨b1, b2, _⟩ := hy1; obtain ⟨c1, c2, _⟩ := hy2; obtain ⟨d1, d2, hd⟩ := hy3;have e : 0 ≤ IntKind.i64.wrap (IntKind.i64.wrap (IntKind.i64.wrap (IntKind.i64.wrap (y.1 * 16777216) + IntKind.i64.wrap (y1.1 * 65536)) + IntKind.i64.wrap (y2.1 * 256)) + y3.1) := by
   rw [ZI (n := y.1 * 16777216) (by omega) (by omega), ZI (n := y1.1 * 65536) (by omega) (by omega), ZI (n := y2.1 * 256) (by omega) (by omega),
    ZI (n := y.1 * 16777216 + y1.1 * 65536) (by omega) (by omega), ZI (n := y.1 * 16777216 + y1.1 * 65536 + y2.1 * 256) (by omega) (by omega), ZI (by omega) (by omega)]
   omega
  have := Zct e (show 0 < n by omega);exact ⟨this.1, fun _ => this.2, fun h2 => by omega, hd⟩
theorem ZsM {c : ZL} (h : DF c) (n : Int) : Ok (Jv big c n) fun r => DF r.2.1 := by
 rw [Zdb];exact Zc (Y0 h n) fun y hy => Za hy.2.2.2
theorem JV {c : ZL} (h : DF c) (l : List Int) (hl : 0 < l.length) : Ok (Xy big c l) fun r => r.1 ∈ l ∧ DF r.2.1 := by
 rw [MR];refine Zc (Y0 h _) fun y hy => ZA hy.1 ?_;have := hy.2.1 (by omega);exact ZW (by omega) fun z hz => Za ⟨hz, hy.2.2.2⟩
theorem Zxc {c : ZL} (h : DF c) (l : List ByteArray) (hl : 0 < l.length) : Ok (Hi big c l) fun r => r.1 ∈ l ∧ DF r.2.1 := by
 rw [Zdd];refine Zc (Y0 h _) fun y hy => ZA hy.1 ?_;have := hy.2.1 (by omega);exact ZW (by omega) fun z hz => Za ⟨hz, hy.2.2.2⟩
theorem Zpt (code : List Int) (hl : code.length ≤ 1099511627776) : ∀ (k n : Nat) (a i : Int), 0 ≤ i → (code.length : Int) ≤ i + k → k < n → i ≤ code.length → Ok (J8 n code a i) fun c => c = (code, 0, c.2.2.1, ())
 | k, 0, a, i, _, _, h, _ => by omega
 | k, n + 1, a, i, h0, h1, h2, h3 => by
  rw [SF];refine Zk (fun hc => ?_) (fun _ => Za rfl);refine Zk (fun _ => ?_) (fun _ => Za rfl);refine ZA h0 (ZW (by omega) fun y _ => ?_);rw [ZI (n := i + 1) (by omega) (by omega)];cases k with
  | zero => omega
  | succ k => exact Zpt code hl k n _ _ (by omega) (by omega) (by omega) (by omega)
theorem ZvS (code : List Int) (hl : code.length ≤ 1099511627776) : Ok (BA big code) fun c => DF c := by
 rw [Zhx];refine VN (Zpt code hl code.length big _ 0 (by omega) (by omega) (by unfold big; omega) (by omega)) fun c hc => ?_;rw [hc];exact ⟨Int.le_refl _, by show (0 : Int) ≤ _; omega, hl⟩
theorem Mt (a lo hi : Int) : ZT big a lo hi = some (decide (lo ≤ a) && decide (a ≤ hi)) := by
 rw [NU];cases decide (lo ≤ a) <;> rfl
theorem Pu (x : Int) : ¬ IntKind.u64.wrap x < 0 := by
 unfold IntKind.wrap;simp only [IntKind.bits, IntKind.signed];have : (0 : Int) < 2 ^ 64 := by decide
 have := Int.emod_nonneg x (show (2 : Int) ^ 64 ≠ 0 by decide);simp;omega
theorem Zcu (s : Int) : Ok (XF big s) fun _ => True := by
 rw [Vq];have loop : ∀ (k n : Nat) (a i : Int), 0 ≤ i → i ≤ 7 → 7 ≤ i + k → k < n → Ok (Kt n s a i) fun _ => True := by
  intro k
  induction k with
  | zero =>
   intro n a i h0 h1 h2 h3;obtain ⟨n, rfl⟩ : ∃ m, n = m + 1 := ⟨n - 1, by omega⟩
   rw [XL];exact Zk (fun hc => by omega) (fun _ => Za trivial)
  | succ k ih =>
   intro n a i h0 h1 h2 h3;obtain ⟨n, rfl⟩ : ∃ m, n = m + 1 := ⟨n - 1, by omega⟩
   rw [XL];refine Zk (fun hc => Zk (fun _ => Dz (Pu _) ?_) (fun _ => Za trivial)) (fun _ => Za trivial);rw [ZI (n := i + 1) (by omega) (by omega)];exact ih n _ _ (by omega) (by omega) (by omega) (by omega)
 exact loop 7 big 0 0 (by omega) (by omega) (by omega) (by unfold big; omega)
theorem Zup (n : Int) : Ok (BB big n) fun _ => True := by
 rw [IL];exact Zk (fun _ => Za trivial) (fun _ => Za trivial)
theorem RB (n : Int) : Ok (Jf big n) fun _ => True := by
 rw [ZhH];exact Zc (Zup n) fun _ _ => Za trivial
theorem Vi (v n : Int) : Ok (Xl big v n) fun _ => True := by
 rw [SS];exact Zk (fun _ => Za trivial) fun h => Zk (fun _ => Za trivial) fun _ => Dz (by omega) (Za trivial)
theorem Zcv (x : Zp) (i : Int) : Ok (W7 big x i) fun _ => True := by
 rw [ZnU];refine Zk (fun _ => ?_) (fun _ => Za trivial);rw [Mt];refine Zc (Za (P := fun _ => True) trivial) fun y _ => Yp (fun _ => Zk (fun _ => Dz (Pu _) (Za trivial)) (fun _ => Za trivial)) (fun _ => Za trivial)
theorem Mu (x : Zp) (i : Int) (hl : List.length x.2.2.2.2.1 ≤ 1000) : Ok (Wp big x i) fun b => b = true → 0 ≤ i ∧ i < (List.length x.2.2.2.2.1 : Int) := by
 rw [PD, Mt];rw [ZI (n := (List.length x.2.2.2.2.1 : Int) - 1) (by omega) (by omega)];simp only [Option.bind_some];refine Yp (fun h => ?_) (fun _ => Za fun h => by cases h);simp only [Bool.and_eq_true, decide_eq_true_eq] at h;rw [Mt];simp only [Option.bind_some];exact Yp (fun _ => Zc (Zcv x i) fun _ _ => Za fun _ => ⟨h.1, by omega⟩) (fun _ => Za fun h => by cases h)
theorem Zuq (a b : B6) : Xz big a b = some (bif decide (a.2.1 < b.2.1) then b else a) := by
 rw [SU];cases decide (a.2.1 < b.2.1) <;> rfl
theorem C2 (a b : B6) : Ok (Xz big a b) fun r => (r = a ∨ r = b) ∧ a.2.1 ≤ r.2.1 := by
 rw [Zuq]
 by_cases h : a.2.1 < b.2.1
 ·rw [decide_eq_true h]; exact Za ⟨.inr rfl, Int.le_of_lt h⟩
 ·rw [decide_eq_false h]; exact Za ⟨.inl rfl, Int.le_refl _⟩
theorem Zur (p : Zo) (a b : Int) : Ok (Qg big p a b) fun _ => True := by
 rw [Zdt];exact Zk (fun _ => Za trivial) fun _ => Zk (fun _ => Za trivial) (fun _ => Za trivial)
theorem ZsN {α : Type} {P : α → Prop} {L : Nat} (hL : L ≤ 4294967296) {I : Int → Prop} {f : Nat → Int → Option α}
  (step : ∀ (n : Nat) (i : Int), 0 ≤ i → i < L → I i → (∀ i', i' = i + 1 → I i' → Ok (f n i') P) → Ok (f (n + 1) i) P)
  (done : ∀ n : Nat, I L → Ok (f (n + 1) L) P) : ∀ (k n : Nat) (i : Int), 0 ≤ i → i ≤ L → (L : Int) ≤ i + k → k < n → I i → Ok (f n i) P
 | k, 0, i, _, _, _, h, _ => by omega
 | 0, n + 1, i, h0, h1, h2, _, hi => by
  have : i = L := by omega
  subst this;exact done n hi
 | k + 1, n + 1, i, h0, h1, h2, h3, hi => by
  rcases Int.lt_or_le i L with hl | hl
  ·exact step n i h0 hl hi fun i' e hi' => ZsN hL step done k n i' (by omega) (by omega) (by omega) (by omega) hi'
  ·have : i = L := by omega
   subst this;exact done n hi
theorem up0 {α : Type} {P : α → Prop} {L : Nat} (hL : L ≤ 4294967296) {f : Nat → Int → Option α}
  (step : ∀ (n : Nat) (i : Int), 0 ≤ i → i < L → (∀ i', i' = i + 1 → Ok (f n i') P) → Ok (f (n + 1) i) P)
  (done : ∀ n : Nat, Ok (f (n + 1) L) P) : Ok (f big 0) P :=
 ZsN (I := fun _ => True) hL (fun n i h0 h1 _ k => step n i h0 h1 fun i' e => k i' e trivial) (fun n _ => done n) L big 0 (by omega) (by omega) (by omega) (by unfold big; omega) trivial
theorem Zyo (l : List Z4) (v : Z4) (hl : l.length ≤ 4294967296) : Ok (MV big l v) fun _ => True := by
 rw [ZhW];refine up0 (L := l.length) hl (f := fun n i => VX n l i v.1 v.2.1 v.2.2.1 v.2.2.2.1) (fun n i h0 h1 k => ?_) (fun n => ?_)
 ·rw [D0, ZI (n := i + 1) (by omega) (by omega)]
  refine Zk (fun _ => ZA h0 (ZW (by omega) fun y _ => Zk (fun _ => ZA h0 (ZW (by omega) fun y _ => Zk (fun _ => ZA h0 (ZW (by omega) fun y _ => Zk (fun _ => Za trivial) (fun _ => k _ rfl))) (fun _ => k _ rfl))) (fun _ => k _ rfl))) (fun h => by omega)
 ·rw [D0]
  exact Zk (fun h => by omega) (fun _ => Za trivial)
theorem Zoq (s : ByteArray) (hs : s.size ≤ 4294967296) : Ok (BE big s) fun _ => True := by
 rw [N4];have hl : s.data.toList.length = s.size := by rw [Array.length_toList]; rfl
 refine up0 (L := s.size) hs (f := fun n i => Jy n s i) (fun n i h0 h1 k => ?_) (fun n => ?_)
 ·rw [Qt, ZI (n := i + 1) (by omega) (by omega)]
  refine Zk (fun _ => ZA h0 (ZW (by omega) fun y _ => Zk (fun _ => Za trivial) fun _ => ZA h0 (ZW (by omega) fun y _ => Zk (fun _ => Za trivial) fun _ => k _ rfl))) (fun h => by omega)
 ·rw [Qt, Mt]
  exact Zk (fun h => by omega) (fun _ => Za trivial)
structure Zxd (l : List Xf) : Prop where
 len : l.length ≤ 4
 key : ∀ c ∈ l, ByteArray.size c.2.1 ≤ 1000
structure X5 (t : List Zy) : Prop where
 lo : 1 ≤ t.length
 hi : t.length ≤ 60
 cmds : ∀ b ∈ t, Zxd b.2.2.1
 view : ∀ b ∈ t, 0 ≤ b.2.1 ∧ b.2.1 ≤ 900
 first : ∀ b, nth t 0 = some b → b.2.2.2.1.2.1 = 0 ∧ b.2.2.2.1.2.2.1 = 0
 just : ∀ (k : Nat) b, nth t k = some b → 0 < k → 0 ≤ b.1 ∧ b.1 < (k : Int) ∧ b.2.2.2.1.2.2.1 = b.1
inductive Up (t : List Zy) : Int → Prop
 | zero : Up t 0
 | step {k : Int} {b : Zy} : 0 < k → k < t.length → nth t k.toNat = some b → 0 ≤ b.1 → b.1 < k → Up t b.1 → Up t k
theorem Nr {t : List Zy} (ht : X5 t) (k : Int) : Ok (VY big t k) fun h => (0 ≤ h → Up t k) ∧ (k = 0 → h ≤ 0) := by
 have hlo := ht.lo; have hhi := ht.hi;rw [D4];have loop : ∀ (m n : Nat) (k a : Int), k ≤ m → m < n → Ok (Vr n t k a) fun h => (0 ≤ h → Up t k) ∧ (k = 0 → h = a) := by
  intro m
  induction m with
  | zero =>
   intro n k a h1 h2;obtain ⟨n, rfl⟩ : ∃ m, n = m + 1 := ⟨n - 1, by omega⟩
   rw [XC, Mt];refine YO (fun hk => ?_) (fun hk => ?_)
   ·simp only [Option.bind_some]
    have : (decide (0 ≤ k) && decide (k ≤ IntKind.i64.wrap ((↑(List.length t) : Int) - 1))) = false := by
     rw [decide_eq_false (by omega)]; rfl
    rw [this];exact Za ⟨fun h => by omega, fun h => absurd h hk⟩
   ·subst hk
    exact Zk (fun h => by omega) (fun _ => Za ⟨fun _ => .zero, fun _ => rfl⟩)
  | succ m ih =>
   intro n k a h1 h2;obtain ⟨n, rfl⟩ : ∃ m, n = m + 1 := ⟨n - 1, by omega⟩
   rw [XC, Mt, ZI (n := (↑(List.length t) : Int) - 1) (by omega) (by omega)];refine YO (fun hk => ?_) (fun hk => ?_)
   ·simp only [Option.bind_some]
    refine Ye (fun _ => Za ⟨fun h => by omega, fun h => absurd h hk⟩) (fun hc => ?_);simp only [Bool.and_eq_true, decide_eq_true_eq] at hc;have hlt : k.toNat < t.length := by omega
    have hn : nth t k.toNat = some t[k.toNat] := Z3 hlt;rw [hn];simp only [Option.bind_some, Mt];refine ZA hc.1 (Ye (fun _ => Za ⟨fun h => by omega, fun h => absurd h hk⟩) (fun hd => ZA hc.1 ?_));rw [ZI (n := k - 1) (by omega) (by omega)] at hd;simp only [Bool.and_eq_true, decide_eq_true_eq] at hd;refine VN (ih n _ _ (by omega) (by omega)) fun h hh => ⟨fun h0 => .step (by omega) (by omega) hn hd.1 (by omega) (hh.1 h0), fun e => absurd e hk⟩
   ·subst hk
    exact Zk (fun h => by omega) (fun _ => Za ⟨fun _ => .zero, fun _ => rfl⟩)
 rcases Int.lt_or_le 60 k with hk | hk
 ·obtain ⟨n, hn⟩ : ∃ n, big = n + 1 := ⟨big - 1, rfl⟩
  rw [hn, XC, Mt, ZI (n := (↑(List.length t) : Int) - 1) (by omega) (by omega)];refine YO (fun _ => ?_) (fun h => by omega);simp only [Option.bind_some];refine Ye (fun _ => Za ⟨fun h => by omega, fun h => by omega⟩) (fun hc => ?_);simp only [Bool.and_eq_true, decide_eq_true_eq] at hc;omega
 ·exact VN (loop 60 big k 0 (by omega) (by unfold big; omega)) fun h hh => ⟨hh.1, fun e => by have := hh.2 e; omega⟩
theorem Up.lt {t : List Zy} {k : Int} (h : Up t k) (ht : 1 ≤ t.length) : 0 ≤ k ∧ k < t.length := by
 cases h with
 | zero => exact ⟨Int.le_refl _, by omega⟩
 | step h1 h2 _ _ _ _ => exact ⟨by omega, h2⟩
theorem Zcw {t : List Zy} (ht : X5 t) (k u : Int) : Ok (Qh big t k u) fun b => b = true → Up t k := by
 have hlo := ht.lo; have hhi := ht.hi;rw [Gf];have loop : ∀ {k : Int}, Up t k → ∀ n : Nat, k < n → Ok (Ut n t k u) fun _ => True := by
  intro k hk
  induction hk with
  | zero =>
   intro n h2;obtain ⟨n, rfl⟩ : ∃ m, n = m + 1 := ⟨n - 1, by omega⟩
   rw [Q6];exact Zk (fun h => by omega) (fun _ => Za trivial)
  | step h1 h2 h3 h4 h5 _ ih =>
   intro n hn;obtain ⟨n, rfl⟩ : ∃ m, n = m + 1 := ⟨n - 1, by omega⟩
   rw [Q6, h3];simp only [Option.bind_some];exact Zk (fun _ => YO (fun _ => ZA (by omega) (ih n (by omega))) (fun _ => Za trivial)) (fun h => by omega)
 refine Zc (Nr ht k) fun h hh => Zk (fun _ => Za fun e => by cases e) (fun hc => ?_);have hu := hh.1 (by omega);exact VN (loop hu big (by have := (hu.lt hlo).2; unfold big; omega)) fun _ _ _ => hu
theorem ZvT {t : List Zy} (ht : X5 t) (k : Int) : Ok (I2 big t k) fun l => l.length ≤ 60 ∧ ∀ x ∈ l, 0 ≤ x ∧ x < t.length := by
 have hlo := ht.lo; have hhi := ht.hi;rw [Oj];have loop : ∀ {k : Int}, Up t k → ∀ (n : Nat) (l : List Int), k < n → (l.length : Int) + k ≤ 60 → (∀ x ∈ l, 0 ≤ x ∧ x < t.length) → Ok (JD n t k l) fun l => l.length ≤ 60 ∧ ∀ x ∈ l, 0 ≤ x ∧ x < t.length := by
  intro k hk
  induction hk with
  | zero =>
   intro n l h2 hl hx;obtain ⟨n, rfl⟩ : ∃ m, n = m + 1 := ⟨n - 1, by omega⟩
   rw [Bd];exact Zk (fun h => by omega) (fun _ => Za ⟨by omega, hx⟩)
  | @step k b h1 h2 h3 h4 h5 _ ih =>
   intro n l hn hl hx;obtain ⟨n, rfl⟩ : ∃ m, n = m + 1 := ⟨n - 1, by omega⟩
   rw [Bd, h3];simp only [Option.bind_some];refine Zk (fun _ => ZA (by simp only [List.length_singleton]; unfold lim; omega) (ZA (by omega) (ih n (k :: l) (by omega) (by simp only [List.length_cons]; omega) ?_))) (fun h => by omega);intro x hm;rcases List.mem_cons.1 hm with rfl | hm
   ·exact ⟨by omega, h2⟩
   ·exact hx x hm
 refine Zc (Nr ht k) fun h hh => Zk (fun _ => Za ⟨by simp, by simp⟩) (fun hc => ?_);have hu := hh.1 (by omega);have := (hu.lt hlo).2;exact loop hu big [] (by unfold big; omega) (by simp only [List.length_nil]; omega) (by simp)
theorem ZgK {t : List Zy} (ht : X5 t) (k u : Int) : Ok (QT big t k u) fun l => l.length ≤ 60 ∧ ∀ x ∈ l, 0 ≤ x ∧ x < t.length := by
 rw [Eb];refine Zc (Zcw ht k u) fun b _ => Ye (fun _ => Za ⟨by simp, by simp⟩) (fun _ => Zc (ZvT ht k) fun row hrow => ?_);have loop : ∀ (m n : Nat) (i : Int) (l : List Int), 0 ≤ i → i ≤ row.length → (row.length : Int) ≤ i + m → m < n → (l.length : Int) ≤ i → (∀ x ∈ l, 0 ≤ x ∧ x < t.length) →
   Ok (Wz n u l i row) fun l => l.length ≤ 60 ∧ ∀ x ∈ l, 0 ≤ x ∧ x < t.length := by
  have hr := hrow.1;intro m
  induction m with
  | zero =>
   intro n i l h0 h1 h2 h3 h4 h5;obtain ⟨n, rfl⟩ : ∃ m, n = m + 1 := ⟨n - 1, by omega⟩
   rw [Va];exact Zk (fun h => by omega) (fun _ => Za ⟨by omega, h5⟩)
  | succ m ih =>
   intro n i l h0 h1 h2 h3 h4 h5;obtain ⟨n, rfl⟩ : ∃ m, n = m + 1 := ⟨n - 1, by omega⟩
   rw [Va, ZI (n := i + 1) (by omega) (by omega)];refine Zk (fun hc => ZA h0 (ZA hc (ZW (by omega) fun y hy => Zk (fun _ => ZA h0 (ZA hc (ZW (by omega) fun y hy => ZA (by simp only [List.length_singleton]; unfold lim; omega) ?_))) (fun _ => ?_)))) (fun _ => Za ⟨by omega, h5⟩)
   ·refine ih n (i + 1) _ (by omega) (by omega) (by omega) (by omega) (by rw [List.append_eq, List.length_append]; simp only [List.length_singleton]; omega) ?_
    intro x hx;rcases List.mem_append.1 (show x ∈ l ++ [y] from hx) with hx | hx
    ·exact h5 x hx
    ·simp only [List.mem_singleton] at hx; subst hx; exact hrow.2 _ hy
   ·exact ih n (i + 1) l (by omega) (by omega) (by omega) (by omega) (by omega) h5
 exact loop row.length big 0 [] (by omega) (by omega) (by omega) (by have := hrow.1; unfold big; omega) (by simp) (by simp)
theorem ZsO {t : List Zy} (ht : X5 t) (k : Int) : Ok (Ak big t k) fun r => r.2.2.2.1 = true → (0 ≤ k ∧ k < t.length) ∧ (0 ≤ r.1 ∧ r.1 < t.length) ∧ (0 ≤ r.2.1 ∧ r.2.1 < t.length) ∧ (0 ≤ r.2.2.1 ∧ r.2.2.1 < t.length) := by
 have hlo := ht.lo; have hhi := ht.hi;rw [Tx];refine Zc (Nr ht k) fun h hh => Zk (fun _ => Za fun e => by cases e) (fun hc => ?_);have hu := (hh.1 (by omega)).lt hlo;refine ZA hu.1 (ZW (by omega) fun b _ => ?_);simp only [Mt, Option.bind_some, ZI (n := k - 1) (by omega) (by omega), ZI (n := (↑(List.length t) : Int) - 1) (by omega) (by omega)];refine Ye (fun _ => Za fun e => by cases e) (fun h1 => ?_);simp only [Bool.and_eq_true, decide_eq_true_eq] at h1;refine ZA h1.1 (ZW (by omega) fun b2 _ => Ye (fun _ => Za fun e => by cases e) (fun h2 => ?_));simp only [Bool.and_eq_true, decide_eq_true_eq] at h2;refine ZA h2.1 (ZW (by omega) fun b3 _ => Ye (fun _ => Za fun e => by cases e) (fun h3 => Za fun _ => ?_));simp only [Bool.and_eq_true, decide_eq_true_eq] at h3;dsimp only;exact ⟨hu, ⟨h1.1, by omega⟩, ⟨h2.1, by omega⟩, h3.1, by omega⟩
theorem ZvU (l : List Z4) (hl : l.length ≤ 4294967296) (a b c : Int) : ∀ (m : Nat) (n : Nat) (i acc : Int), 0 ≤ i → i ≤ 7 → (7 : Int) ≤ i + m → m * (l.length + 2) + 1 ≤ n → Ok (WR n l a b c acc i) fun _ => True := by
 intro m
 induction m with
 | zero =>
  intro n i acc h0 h1 h2 h3;obtain ⟨n, rfl⟩ : ∃ m, n = m + 1 := ⟨n - 1, by omega⟩
  rw [Ag];exact Zk (fun h => by omega) (fun _ => Za trivial)
 | succ m ih =>
  intro n i acc h0 h1 h2 h3;obtain ⟨n, rfl⟩ : ∃ m, n = m + 1 := ⟨n - 1, by omega⟩
  rw [Ag];refine Zk (fun hc => ?_) (fun _ => Za trivial);have h3' : m * (l.length + 2) + (l.length + 2) ≤ n := by rw [Nat.succ_mul] at h3; omega
  have inner : ∀ (q : Nat) (n : Nat) (j : Int), 0 ≤ j → j ≤ l.length → (l.length : Int) ≤ j + q → m * (l.length + 2) + 1 + q + 1 ≤ n → Ok (WS n l a b c acc i j) fun _ => True := by
   intro q
   induction q with
   | zero =>
    intro n j g0 g1 g2 g3;obtain ⟨n, rfl⟩ : ∃ m, n = m + 1 := ⟨n - 1, by omega⟩
    rw [Ah, ZI (n := i + 1) (by omega) (by omega)];exact Zk (fun h => by omega) (fun _ => ih n _ _ (by omega) (by omega) (by omega) (by omega))
   | succ q ihq =>
    intro n j g0 g1 g2 g3;obtain ⟨n, rfl⟩ : ∃ m, n = m + 1 := ⟨n - 1, by omega⟩
    rw [Ah, ZI (n := i + 1) (by omega) (by omega), ZI (n := j + 1) (by omega) (by omega)];refine Zk (fun hj => ?_) (fun _ => ih n _ _ (by omega) (by omega) (by omega) (by omega));have next : Ok (WS n l a b c acc i (j + 1)) fun _ => True := ihq n (j + 1) (by omega) (by omega) (by omega) (by omega)
    exact ZA g0 (ZW (by omega) fun y _ => Zk (fun _ => Zk (fun _ => Zk (fun _ => Zk (fun _ => Dz (Pu _) (ih n _ _ (by omega) (by omega) (by omega) (by omega))) (fun _ => next)) (fun _ => next)) (fun _ => next)) (fun _ => next))
  exact inner l.length n 0 (by omega) (by omega) (by omega) (by omega)
theorem Zcx (l : List Z4) (hl : l.length ≤ 4294967296) (a b c : Int) : Ok (Ur big l a b c) fun _ => True := by
 rw [PI];exact ZvU l hl a b c 7 big 0 0 (by omega) (by omega) (by omega) (by unfold big; omega)
theorem ZmA (l : List Z4) (hl : l.length ≤ 4294967296) (a b c n : Int) : Ok (IV big l a b c n) fun r => r.1.2.1 = 0 ∨ r.1.2.1 = b := by
 rw [ZnY];exact Zc (Zcx l hl a b c) fun y _ => Zc (Zcu y) fun _ _ => Zc (RB n) fun _ _ => Zk (fun _ => Za (.inl rfl)) (fun _ => Za (.inr rfl))
theorem Zpu (l : List Z4) (hl : l.length ≤ 4294967296) (q : B6) (z : Int) : Ok (VZ big l q z) fun _ => True := by
 rw [Zh3];refine Zk (fun _ => Za trivial) fun _ => Zc (Zcx l hl _ _ _) fun y _ => ?_;refine up0 (L := 7) (by decide) (f := fun n i => V0 n z y i q.1 q.2.1 q.2.2.1 q.2.2.2.1) (fun n i h0 h1 k => ?_) (fun n => ?_)
 ·rw [Ec, ZI (n := i + 1) (by omega) (by omega)]
  refine Zk (fun _ => Dz (Pu _) ?_) (fun h => by omega)
  repeat' first
   | exact k _ rfl
   | exact Za trivial
   | exact Pu _
   | refine Dz (Pu _) ?_
   | refine YO (fun _ => ?_) (fun _ => ?_)
   | refine Zk (fun _ => ?_) (fun _ => ?_)
   | refine Ye (fun _ => ?_) (fun _ => ?_)
   | refine Yp (fun _ => ?_) (fun _ => ?_)
 ·rw [Ec]
  refine Zk (fun h => by omega) (fun _ => ?_)
  repeat' first
   | exact Za trivial
   | refine Zk (fun _ => ?_) (fun _ => ?_)
theorem Zjm {t : List Zy} (ht : X5 t) (n : Int) (v : Z4) : Ok (Ft big t n v) fun _ => True := by
 have hlo := ht.lo; have hhi := ht.hi;rw [ZhT];simp only [Mt, Option.bind_some, ZI (n := (↑(List.length t) : Int) - 1) (by omega) (by omega)];refine Yp (fun _ => Yp (fun _ => Yp (fun _ => Yp (fun h => ?_) (fun _ => Za trivial)) (fun _ => Za trivial)) (fun _ => Za trivial)) (fun _ => Za trivial);simp only [Bool.and_eq_true, decide_eq_true_eq] at h;exact ZA (by omega) (ZW (by omega) fun y _ => Zk (fun _ => Za trivial) (fun _ => Za trivial))
theorem Zcy {t : List Zy} (ht : X5 t) (n : Int) (q : B6) : Ok (XV big t n q) fun _ => True := by
 rw [Zdq];refine Yp (fun _ => Za trivial) (fun _ => Zc (Zjm ht n _) fun y _ => Ye (fun _ => Za trivial) fun _ => Dz (Pu _) ?_);simp only [Mt, Option.bind_some];exact Yp (fun _ => Zc (Zcu _) fun _ _ => Zc (RB n) fun _ _ => Za trivial) (fun _ => Za trivial)
theorem ZsP (p : Zo) (n : Int) (c : Bool) : Ok (I0 big p n c) fun _ => True := by
 rw [ZkR];exact Zc (Vi _ _) fun _ _ => YO (fun _ => Za trivial) fun _ => Zk (fun _ => Za trivial) fun _ => Zc (RB n) fun _ _ => Zk (fun _ => Za trivial) fun _ => Zk (fun _ => Za trivial) fun _ => Yp (fun _ => Za trivial) (fun _ => Za trivial)
theorem ZsQ {t : List Zy} {b c : Int} (hb : 0 ≤ b ∧ b < t.length) (hc : 0 ≤ c ∧ c < t.length) : Ok (JB big t b c) fun _ => True := by
 rw [Zdy];exact YO (fun _ => YO (fun _ => ZA hb.1 (ZW (by omega) fun _ _ => ZA hc.1 (ZW (by omega) fun _ _ => Za trivial))) (fun _ => Za trivial)) (fun _ => Za trivial)
theorem ZqZ {t : List Zy} (ht : X5 t) (k : Int) : Ok (D7 big t k) fun _ => True := by
 rw [TD];refine Zc (ZsO ht k) fun y hy => Ye (fun _ => Za trivial) fun hc => ?_;obtain ⟨_, h1, h2, h3⟩ := hy hc;exact Zc (ZsQ h1 h2) fun _ _ => Ye (fun _ => Za trivial) fun _ => ZA h2.1 (ZW (by omega) fun _ _ => ZA h3.1 (ZW (by omega) fun _ _ => YO (fun _ => Za trivial) (fun _ => Za trivial)))
theorem Zu3 {t : List Zy} (ht : X5 t) (q : B6) (k : Int) : Ok (Wq big t q k) fun _ => True := by
 have hlo := ht.lo; have hhi := ht.hi;rw [Da];simp only [Mt, Option.bind_some, ZI (n := (↑(List.length t) : Int) - 1) (by omega) (by omega)];refine Ye (fun _ => Za trivial) fun h => ?_;simp only [Bool.and_eq_true, decide_eq_true_eq] at h;exact Zc (Zcw ht k _) fun _ _ => Yp (fun _ => Za trivial) (fun _ => ZA h.1 (ZW (by omega) fun _ _ => Za trivial))
theorem ZsR (b : Zy) (h : List.length b.2.2.1 ≤ 4294967296) : Ac big b = some b := by
 rw [SY, if_pos (by unfold lim; omega)]
theorem Zxe {t : List Zy} (h1 : t.length ≤ 1000) (h2 : ∀ b ∈ t, List.length b.2.2.1 ≤ 4294967296) : Hk big t = some t := by
 rw [Zdh];have loop : ∀ (m n i : Nat), t.length ≤ i + m → m < n → i ≤ t.length → Kw n t (t.take i) (i : Int) = some t := by
  intro m
  induction m with
  | zero =>
   intro n i g0 g1 g2;obtain ⟨n, rfl⟩ : ∃ m, n = m + 1 := ⟨n - 1, by omega⟩
   rw [Q4, decide_eq_false (by omega), cond_false, List.take_of_length_le (by omega)]
  | succ m ih =>
   intro n i g0 g1 g2;obtain ⟨n, rfl⟩ : ∃ m, n = m + 1 := ⟨n - 1, by omega⟩
   rcases Nat.lt_or_ge i t.length with hi | hi
   ·rw [Q4, decide_eq_true (by omega), cond_true, if_pos (by omega), Int.toNat_natCast, Z3 hi, Option.bind_some, ZsR _ (h2 _ (List.getElem_mem hi)), Option.bind_some,
     if_pos (by rw [List.length_take]; simp only [List.length_singleton]; unfold lim; omega), Yn (by omega)]
    have e : (t.take i).append [t[i]] = t.take (i + 1) := by
     rw [List.append_eq, List.take_succ_eq_append_getElem hi]
    rw [e];exact ih n (i + 1) (by omega) (by omega) (by omega)
   ·rw [Q4, decide_eq_false (by omega), cond_false, List.take_of_length_le (by omega)]
 have := loop t.length big 0 (by omega) (by unfold big; omega) (by omega);rw [List.take_zero] at this;exact this
theorem Zxf (a b : Zy) (h : List.length a.2.2.1 ≤ 4294967296) : Ok (Cq big a b) fun _ => True := by
 rw [PG];refine YO (fun _ => Za trivial) fun _ => YO (fun _ => Za trivial) fun _ => Ye (fun _ => Za trivial) fun _ => YO (fun _ => Za trivial) fun he => ?_;refine up0 (L := List.length a.2.2.1) h (f := fun n i => Un n i a.1 a.2.1 a.2.2.1 a.2.2.2.1.1 a.2.2.2.1.2.1 a.2.2.2.1.2.2.1 a.2.2.2.1.2.2.2.1 b.1 b.2.1 b.2.2.1 b.2.2.2.1.1 b.2.2.2.1.2.1 b.2.2.2.1.2.2.1 b.2.2.2.1.2.2.2.1) (fun n i h0 h1 k => ?_) (fun n => ?_)
 ·rw [Ad, ZI (n := i + 1) (by omega) (by omega)]
  exact Zk (fun _ => ZA h0 (ZW (by omega) fun _ _ => ZA h0 (ZW (by omega) fun _ _ => Ye (fun _ => Za trivial) fun _ => k _ rfl))) (fun h => by omega)
 ·rw [Ad]
  exact Zk (fun h => by omega) (fun _ => Za trivial)
theorem ZsS {t : List Zy} (ht : X5 t) (b : Zy) : Ok (Hl big t b) fun r => -1 ≤ r ∧ r < t.length := by
 have hlo := ht.lo; have hhi := ht.hi;rw [Zdk];refine up0 (L := t.length) (by omega) (f := fun n i => Kz n t i b.1 b.2.1 b.2.2.1 b.2.2.2.1.1 b.2.2.2.1.2.1 b.2.2.2.1.2.2.1 b.2.2.2.1.2.2.2.1) (fun n i h0 h1 k => ?_) (fun n => ?_)
 ·rw [C8, ZI (n := i + 1) (by omega) (by omega)]
  exact Zk (fun _ => ZA h0 (ZW (by omega) fun y hy => Zc (Zxf y _ (by have := (ht.cmds y hy).len; omega)) fun _ _ => Yp (fun _ => Za ⟨by omega, h1⟩) (fun _ => k _ rfl))) (fun h => by omega)
 ·rw [C8]
  exact Zk (fun h => by omega) (fun _ => Za ⟨by omega, by omega⟩)
theorem ZsT (c : Xf) (h : ByteArray.size c.2.1 ≤ 4294967296) : Ok (DZ big c) fun _ => True := by
 rw [N6];simp only [Mt, Option.bind_some];exact Yp (fun _ => Zc (Zoq _ h) fun _ _ => Yp (fun _ => Za trivial) (fun _ => Za trivial)) (fun _ => Za trivial)
theorem ZsU {t : List Zy} (ht : X5 t) (b : Zy) (hb : ∀ c ∈ b.2.2.1, ByteArray.size c.2.1 ≤ 1000) : Ok (Hm big t b) fun r => r = true → List.length b.2.2.1 ≤ 4 ∧ (0 ≤ b.2.1 ∧ b.2.1 ≤ 900) ∧ 0 ≤ b.1 ∧ b.1 < t.length ∧ b.2.2.2.1.2.2.1 = b.1 := by
 have hlo := ht.lo; have hhi := ht.hi;rw [Zdn];simp only [Mt, Option.bind_some, ZI (n := (↑(List.length t) : Int) - 1) (by omega) (by omega)];refine Ye (fun _ => Za fun e => by cases e) fun h => ?_;simp only [Bool.and_eq_true, decide_eq_true_eq] at h;refine ZA h.1 (ZW (by omega) fun y hy => Zk (fun _ => Za fun e => by cases e) fun g1 => Zk (fun _ => Za fun e => by cases e) fun g2 => Zk (fun _ => Za fun e => by cases e) fun g3 => ?_);have hv := ht.view y hy;have fin : b.2.2.2.1.2.2.1 = b.1 → List.length b.2.2.1 ≤ 4 ∧ (0 ≤ b.2.1 ∧ b.2.1 ≤ 900) ∧ 0 ≤ b.1 ∧ b.1 < t.length ∧ b.2.2.2.1.2.2.1 = b.1 := fun e => ⟨by omega, by omega, h.1, by omega, e⟩
 refine up0 (L := List.length b.2.2.1) (by omega) (f := fun n i => KB n t i b.1 b.2.1 b.2.2.1 b.2.2.2.1.1 b.2.2.2.1.2.1 b.2.2.2.1.2.2.1 b.2.2.2.1.2.2.2.1) (fun n i h0 h1 k => ?_) (fun n => ?_)
 ·rw [C9, ZI (n := i + 1) (by omega) (by omega)]
  exact Zk (fun _ => ZA h0 (ZW (by omega) fun c hc => Zc (ZsT c (by have := hb c hc; omega)) fun _ _ => Ye (fun _ => Za fun e => by cases e) fun _ => k _ rfl)) (fun h => by omega)
 ·rw [C9]
  exact Zk (fun h => by omega) (fun _ => Zk (fun e => ZA h.1 (ZW (by omega) fun _ _ => Za fun _ => fin e)) (fun _ => Za fun e => by cases e))
theorem ZgL {t : List Zy} (ht : X5 t) (b : Zy) (hb : ∀ c ∈ b.2.2.1, ByteArray.size c.2.1 ≤ 1000) (hl : List.length b.2.2.1 ≤ 4294967296) : Ok (Wh big t b) fun r => X5 r.1 ∧ t.length ≤ List.length r.1 ∧ r.2.1 < List.length r.1 ∧ -1 ≤ r.2.1 ∧ ∀ V : Int, (∀ x ∈ t, x.2.1 ≤ V) → b.2.1 ≤ V → ∀ x ∈ r.1, x.2.1 ≤ V := by
 have hlo := ht.lo; have hhi := ht.hi;rw [Tg, Zxe (by omega) (fun b hb => by have := (ht.cmds b hb).len; omega)];simp only [Option.bind_some];refine Zc (ZsS ht b) fun k hk => Zk (fun _ => Za ⟨ht, Nat.le_refl _, hk.2, hk.1, fun V h _ => h⟩) fun _ => Zc (ZsU ht b hb) fun y hy => Ye (fun _ => Za ⟨ht, Nat.le_refl _, by show (-1 : Int) < _; omega, by show (-1 : Int) ≤ -1; omega, fun V h _ => h⟩) fun hok => Zk (fun _ => Za ⟨ht, Nat.le_refl _, by show (-1 : Int) < _; omega, by show (-1 : Int) ≤ -1; omega, fun V h _ => h⟩) fun hm => ?_;obtain ⟨g1, g2, g3, g4, g5⟩ := hy hok;rw [ZsR b hl];simp only [Option.bind_some];refine ZA (by simp only [List.length_singleton]; unfold lim; omega) (Za ?_);have hlen : (List.append t [b]).length = t.length + 1 := by rw [List.append_eq, List.length_append]; rfl
 refine ⟨⟨by rw [hlen]; omega, by rw [hlen]; omega, fun x hx => ?_, fun x hx => ?_, fun x hx => ?_, fun k x hx hk => ?_⟩, by rw [hlen]; omega, by show (t.length : Int) < _; rw [hlen]; omega, by show (-1 : Int) ≤ t.length; omega, fun V h hb x hx => ?_⟩
 ·rcases List.mem_append.1 (show x ∈ t ++ [b] from hx) with hx | hx
  ·exact ht.cmds x hx
  ·simp only [List.mem_singleton] at hx; subst hx; exact ⟨g1, hb⟩
 ·rcases List.mem_append.1 (show x ∈ t ++ [b] from hx) with hx | hx
  ·exact ht.view x hx
  ·simp only [List.mem_singleton] at hx; subst hx; exact g2
 ·have : nth t 0 = some x := by
   rw [Z3 (show 0 < t.length by omega)];rw [Z3 (show 0 < (List.append t [b]).length by omega)] at hx;rw [← hx];exact congrArg some (List.getElem_append_left (bs := [b]) (show 0 < t.length by omega)).symm
  exact ht.first x this
 ·by_cases hkt : k < t.length
  ·have : nth t k = some x := by
    rw [Z3 hkt];rw [Z3 (show k < (List.append t [b]).length by omega)] at hx;rw [← hx];exact congrArg some (List.getElem_append_left (bs := [b]) hkt).symm
   exact ht.just k x this hk
  ·have hk1 : k < (List.append t [b]).length := C6 hx
   have hk2 : k = t.length := by omega
   subst hk2;rw [Z3 hk1] at hx;have e : (List.append t [b])[t.length] = b := List.getElem_concat_length rfl hk1;rw [e] at hx;cases hx;exact ⟨g3, g4, g5⟩
 ·rcases List.mem_append.1 (show x ∈ t ++ [b] from hx) with hx | hx
  ·exact h x hx
  ·simp only [List.mem_singleton] at hx; subst hx; exact hb
structure Xj (l : List ZM) : Prop where
 len : l.length ≤ 25
 key : ∀ c ∈ l, ByteArray.size c.1 ≤ 1000
structure Zpv (l : List Yg) : Prop where
 len : l.length ≤ 240
 key : ∀ c ∈ l, ByteArray.size c.1 ≤ 1000
structure YQ (B : Nat) (V : Int) (p : Zo) : Prop where
 row : List.length p.2.2.2.2.2.1 ≤ B
 cells : Xj p.2.2.2.2.2.2.1
 early : List.length p.2.2.2.2.2.2.2.1 ≤ 60
 undos : Zpv p.2.2.2.2.2.2.2.2.1
 votes : List.length p.2.2.2.2.2.2.2.2.2.1 ≤ B
 news : List.length p.2.2.2.2.2.2.2.2.2.2.1 ≤ B
 view : 1 ≤ p.2.1 ∧ p.2.1 ≤ V
 top : V ≤ 900
 hq : 0 ≤ p.2.2.1.2.1 ∧ 0 ≤ p.2.2.2.1.2.1
theorem YQ.mono {B B' : Nat} {V : Int} {p : Zo} (h : YQ B V p) (hb : B ≤ B') : YQ B' V p := ⟨Nat.le_trans h.row hb, h.cells, h.early, h.undos, Nat.le_trans h.votes hb, Nat.le_trans h.news hb, h.view, h.top, h.hq⟩
theorem YQ.up {B : Nat} {V V' : Int} {p : Zo} (h : YQ B V p) (hv : V ≤ V') (ht : V' ≤ 900) : YQ B V' p := ⟨h.row, h.cells, h.early, h.undos, h.votes, h.news, ⟨h.view.1, Int.le_trans h.view.2 hv⟩, ht, h.hq⟩
def idv (p : Zo) : Int × Int := (p.1, p.2.1)
theorem Zpw {p q : Zo} (h : idv p = idv q) : p.1 = q.1 := by
 have := congrArg Prod.fst h;exact this
theorem E6 {B : Nat} {V : Int} (hB : B ≤ 1000000000) {p : Zo} (h : YQ B V p) : YY big p = some p := by
 obtain ⟨h1, h2, h3, h4, h5, h6, _⟩ := h;have h2 := h2.len;have h4 := h4.len;rw [Gc, if_pos (by unfold lim; omega), if_pos (by unfold lim; omega), if_pos (by unfold lim; omega), if_pos (by unfold lim; omega), if_pos (by unfold lim; omega), if_pos (by unfold lim; omega)]
theorem Q1 {B : Nat} {V : Int} (hB : B ≤ 1000000000) {p : Zo} (h : YQ B V p) (v : Int) (hv : v ≤ V) : Ok (XH big p v) fun r => YQ B V r ∧ r.1 = p.1 := by
 rw [Ge, E6 hB h];simp only [Option.bind_some];refine Zk (fun h1 => Zk (fun h2 => Za ⟨⟨h.row, h.cells, h.early, h.undos, Nat.zero_le _, Nat.zero_le _, ?_, h.top, h.hq⟩, rfl⟩) (fun _ => Za ⟨h, rfl⟩)) (fun _ => Za ⟨h, rfl⟩);have := h.view;exact ⟨by show 1 ≤ v; omega, hv⟩
theorem ZmB {l : List ZM} (h : Xj l) : Ok (JE big l) fun b => b = true → l.length ≤ 12 := by
 have hl := h.len;rw [Gr];refine up0 (L := l.length) (by omega) (f := fun n i => Vb n l i) (fun n i h0 h1 k => ?_) (fun n => ?_)
 ·rw [Vz, ZI (n := i + 1) (by omega) (by omega), ZI (n := i - 1) (by omega) (by omega)]
  simp only [Mt, Option.bind_some];refine Zk (fun _ => ZA h0 (ZW (by omega) fun y hy => Zc (Zoq _ (by have := h.key y hy; omega)) fun _ _ => Ye (fun _ => Za fun e => by cases e) fun _ => ZA h0 (ZW (by omega) fun _ _ => Ye (fun _ => Za fun e => by cases e) fun _ => Zk (fun hp => ?_) (fun _ => k _ rfl)))) (fun h => by omega);exact ZA (by omega) (ZW (by omega) fun _ _ => ZA h0 (ZW (by omega) fun _ _ => Ye (fun _ => Za fun e => by cases e) fun _ => k _ rfl))
 ·rw [Vz]
  exact Zk (fun h => by omega) (fun _ => Za fun e => by have := of_decide_eq_true e; omega)
theorem Mv {l : List ZM} {y : ZM} (h : ∀ c ∈ l, ByteArray.size c.1 ≤ 1000) (hy : ByteArray.size y.1 ≤ 1000) : ∀ c ∈ List.append l [y], ByteArray.size c.1 ≤ 1000 := fun c hc => by
 rcases List.mem_append.1 (show c ∈ l ++ [y] from hc) with hc | hc
 ·exact h c hc
 ·simp only [List.mem_singleton] at hc; subst hc; exact hy
theorem Xr {α : Type} {l : List α} {y : α} : (List.append l [y]).length = l.length + 1 := by rw [List.append_eq, List.length_append]; rfl
theorem ZvV {l : List ZM} (hl : l.length ≤ 12) (hk : ∀ c ∈ l, ByteArray.size c.1 ≤ 1000) (x : ZM) (hx : ByteArray.size x.1 ≤ 1000) : Ok (Xh big l x) Xj := by
 rw [I6];have second : ∀ (m n : Nat) (i : Int) (a : List ZM), 0 ≤ i → i ≤ l.length → (l.length : Int) ≤ i + m → m < n → (a.length : Int) ≤ 13 + i → (∀ c ∈ a, ByteArray.size c.1 ≤ 1000) → Ok (V4 n l a i x.1 x.2.1) Xj := by
  intro m
  induction m with
  | zero =>
   intro n i a h0 h1 h2 h3 h4 h5;obtain ⟨n, rfl⟩ : ∃ m, n = m + 1 := ⟨n - 1, by omega⟩
   rw [Uw];exact Zk (fun h => by omega) (fun _ => Za ⟨by omega, h5⟩)
  | succ m ih =>
   intro n i a h0 h1 h2 h3 h4 h5;obtain ⟨n, rfl⟩ : ∃ m, n = m + 1 := ⟨n - 1, by omega⟩
   rw [Uw, ZI (n := i + 1) (by omega) (by omega)];refine Zk (fun _ => ZA h0 (ZW (by omega) fun y hy => Ye (fun _ => ZA h0 (ZW (by omega) fun y hy => ZA (by simp only [List.length_singleton]; unfold lim; omega) ?_)) (fun _ => ?_))) (fun _ => Za ⟨by omega, h5⟩)
   ·exact ih n (i + 1) _ (by omega) (by omega) (by omega) (by omega) (by rw [Xr]; omega) (Mv h5 (hk y hy))
   ·exact ih n (i + 1) a (by omega) (by omega) (by omega) (by omega) (by omega) h5
 have first : ∀ (m n : Nat) (i : Int) (a : List ZM), 0 ≤ i → i ≤ l.length → (l.length : Int) ≤ i + m → m + 20 < n → (a.length : Int) ≤ i → (∀ c ∈ a, ByteArray.size c.1 ≤ 1000) → Ok (V3 n l a i x.1 x.2.1) Xj := by
  intro m
  induction m with
  | zero =>
   intro n i a h0 h1 h2 h3 h4 h5;obtain ⟨n, rfl⟩ : ∃ m, n = m + 1 := ⟨n - 1, by omega⟩
   rw [Uv];exact Zk (fun h => by omega) (fun _ => ZA (by simp only [List.length_singleton]; unfold lim; omega) (second l.length n 0 _ (by omega) (by omega) (by omega) (by omega) (by rw [Xr]; omega) (Mv h5 hx)))
  | succ m ih =>
   intro n i a h0 h1 h2 h3 h4 h5;obtain ⟨n, rfl⟩ : ∃ m, n = m + 1 := ⟨n - 1, by omega⟩
   rw [Uv, ZI (n := i + 1) (by omega) (by omega)];refine Zk (fun _ => ZA h0 (ZW (by omega) fun y hy => Yp (fun _ => ZA h0 (ZW (by omega) fun y hy => ZA (by simp only [List.length_singleton]; unfold lim; omega) ?_)) (fun _ => ?_))) (fun _ => ZA (by simp only [List.length_singleton]; unfold lim; omega) (second l.length n 0 _ (by omega) (by omega) (by omega) (by omega) (by rw [Xr]; omega) (Mv h5 hx)))
   ·exact ih n (i + 1) _ (by omega) (by omega) (by omega) (by omega) (by rw [Xr]; omega) (Mv h5 (hk y hy))
   ·exact ih n (i + 1) a (by omega) (by omega) (by omega) (by omega) (by omega) h5
 exact first l.length big 0 [] (by omega) (by omega) (by omega) (by unfold big; omega) (by simp) (by simp)
theorem Zpx {l : List ZM} (h : l.length ≤ 4294967296) (s : ByteArray) : Ok (BF big l s) fun r => r < l.length := by
 rw [I8];refine up0 (L := l.length) h (f := fun n i => QU n l s i) (fun n i h0 h1 k => ?_) (fun n => ?_)
 ·rw [Ux, ZI (n := i + 1) (by omega) (by omega)]
  exact Zk (fun _ => ZA h0 (ZW (by omega) fun _ _ => Zk (fun _ => Za h1) (fun _ => k _ rfl))) (fun h => by omega)
 ·rw [Ux]
  exact Zk (fun h => by omega) (fun _ => Za (by omega))
set_option maxHeartbeats 4000000 in
theorem Zu4 {l : List ZM} (h : Xj l) (c : Xf) (hc : ByteArray.size c.2.1 ≤ 1000) : Ok (I9 big l c) fun r => Xj r.1 := by
 have hl := h.len;rw [Zab];simp only [Mt, Option.bind_some];refine ZA (by unfold lim; omega) (Zc (ZmB h) fun b hb => Ye (fun _ => Za h) fun h1 => Zc (ZsT c (by omega)) fun _ _ => Ye (fun _ => Za h) fun _ => Zc (Zpx (by omega) _) fun k hk => ?_);have put : ∀ n : Int, Ok ((Xh big l (c.2.1, n, ())).bind fun y => some (y, (0 : Int), PUnit.unit)) fun r => Xj r.1 := fun n => Zc (ZvV (hb h1) h.key _ hc) fun y hy => Za hy;have put2 : Ok ((Xh big l c.2).bind fun y => some (y, (0 : Int), PUnit.unit)) fun r => Xj r.1 := Zc (ZvV (hb h1) h.key _ hc) fun y hy => Za hy;have tail : ∀ (b2 : Bool) (n : Int) (K : Option (List ZM × Int × Unit)), Ok K (fun r => Xj r.1) → Ok (bif !b2 then some (l, (2 : Int), PUnit.unit) else bif decide (k < 0) then bif decide ((12 : Int) ≤ (↑(List.length l) : Int)) then some (l, (2 : Int), PUnit.unit) else K else K) fun r => Xj r.1 := fun b2 n K hK =>
  Ye (fun _ => Za h) fun _ => Zk (fun _ => Zk (fun _ => Za h) fun _ => hK) fun _ => hK
 refine YO (fun _ => Zk (fun _ => Za h) fun hk0 => ZA (by omega) (ZW (by omega) fun y _ => Zk (fun _ => ZA (by omega) (ZW (by omega) fun y2 _ => tail _ 0 _ (put _))) fun _ => tail _ 0 _ (put _))) fun _ => tail _ 0 _ put2
theorem ZmC {l : List ZM} (h : Xj l) {cs : List Xf} (hc : ∀ c ∈ cs, ByteArray.size c.2.1 ≤ 1000) (hn : cs.length ≤ 1000) : Ok (JF big l cs) fun r => Xj r.1 := by
 have hl := h.len;rw [Gu];refine ZA (by unfold lim; omega) ?_;have loop : ∀ (m n : Nat) (i : Int) (l : List ZM) (a : List Int), 0 ≤ i → i ≤ cs.length → (cs.length : Int) ≤ i + m → m < n → Xj l → (a.length : Int) ≤ i → Ok (Uy n cs l a i) fun r => Xj r.1 := by
  intro m
  induction m with
  | zero =>
   intro n i l a h0 h1 h2 h3 h4 h5;obtain ⟨n, rfl⟩ : ∃ m, n = m + 1 := ⟨n - 1, by omega⟩
   rw [VA];exact Zk (fun h => by omega) (fun _ => Za h4)
  | succ m ih =>
   intro n i l a h0 h1 h2 h3 h4 h5;obtain ⟨n, rfl⟩ : ∃ m, n = m + 1 := ⟨n - 1, by omega⟩
   rw [VA, ZI (n := i + 1) (by omega) (by omega)];exact Zk (fun _ => ZA h0 (ZW (by omega) fun c hm => Zc (Zu4 h4 c (hc c hm)) fun y hy => ZA (by unfold lim; omega) (ih n (i + 1) _ _ (by omega) (by omega) (by omega) (by omega) hy (by rw [Xr]; omega)))) (fun _ => Za h4)
 exact loop cs.length big 0 l [] (by omega) (by omega) (by omega) (by unfold big; omega) h (by simp)
theorem Zus {l : List ZM} (h : Xj l) (s : ByteArray) : Ok (Fx big l s) fun u => u.1 = s := by
 have hl := h.len;rw [La];exact Zc (Zpx (by omega) s) fun k hk => Zk (fun _ => Za rfl) (fun _ => ZA (by omega) (ZW (by omega) fun _ _ => Za rfl))
theorem Zut {l : List ZM} (h : Xj l) (u : Yg) (hu : ByteArray.size u.1 ≤ 1000) : Ok (Fz big l u) Xj := by
 have hl := h.len;rw [Lb];simp only [Mt, Option.bind_some];have same : Ok (if 0 + List.length l ≤ lim then some l else none) Xj := ZA (by unfold lim; omega) (Za h);refine Zc (ZmB h) fun b hb => Ye (fun _ => same) fun h1 => Zc (Zoq _ (by omega)) fun _ _ => Ye (fun _ => same) fun _ => Ye (fun _ => same) fun _ => Yp (fun _ => Zc (ZvV (hb h1) h.key _ hu) fun y hy => Za hy) fun _ => ?_;have loop : ∀ (m n : Nat) (i : Int) (a : List ZM), 0 ≤ i → i ≤ l.length → (l.length : Int) ≤ i + m → m < n → (a.length : Int) ≤ i → (∀ c ∈ a, ByteArray.size c.1 ≤ 1000) → Ok (V5 n l a i u.1 u.2.1 u.2.2.1) Xj := by
  intro m
  induction m with
  | zero =>
   intro n i a h0 h1 h2 h3 h4 h5;obtain ⟨n, rfl⟩ : ∃ m, n = m + 1 := ⟨n - 1, by omega⟩
   rw [Uz];exact Zk (fun h => by omega) (fun _ => Za ⟨by omega, h5⟩)
  | succ m ih =>
   intro n i a h0 h1 h2 h3 h4 h5;obtain ⟨n, rfl⟩ : ∃ m, n = m + 1 := ⟨n - 1, by omega⟩
   rw [Uz, ZI (n := i + 1) (by omega) (by omega)];refine Zk (fun _ => ZA h0 (ZW (by omega) fun y hy => YO (fun _ => ZA h0 (ZW (by omega) fun y hy => ZA (by simp only [List.length_singleton]; unfold lim; omega) ?_)) (fun _ => ?_))) (fun _ => Za ⟨by omega, h5⟩)
   ·exact ih n (i + 1) _ (by omega) (by omega) (by omega) (by omega) (by rw [Xr]; omega) (Mv h5 (h.key y hy))
   ·exact ih n (i + 1) a (by omega) (by omega) (by omega) (by omega) (by omega) h5
 exact loop l.length big 0 [] (by omega) (by omega) (by omega) (by unfold big; omega) (by simp) (by simp)
theorem Zor {l : List ZM} (h : Xj l) {us : List Yg} (hu : Zpv us) : Ok (KK big l us) Xj := by
 have hl := h.len; have hun := hu.len;rw [Dc, ZI (n := (↑(List.length us) : Int) - 1) (by omega) (by omega)];refine ZA (by unfold lim; omega) ?_;have loop : ∀ (m n : Nat) (i : Int) (l : List ZM), i < us.length → i + 1 ≤ m → -1 ≤ i → m < n → Xj l → Ok (WU n us l i) Xj := by
  intro m
  induction m with
  | zero =>
   intro n i l h0 h1 h2 h3 h4;obtain ⟨n, rfl⟩ : ∃ m, n = m + 1 := ⟨n - 1, by omega⟩
   rw [WG];exact Zk (fun h => by omega) (fun _ => Za h4)
  | succ m ih =>
   intro n i l h0 h1 h2 h3 h4;obtain ⟨n, rfl⟩ : ∃ m, n = m + 1 := ⟨n - 1, by omega⟩
   rw [WG, ZI (n := i - 1) (by omega) (by omega)];exact Zk (fun hc => ZA hc (ZW (by omega) fun u hm => Zc (Zut h4 u (hu.key u hm)) fun y hy => ih n (i - 1) y (by omega) (by omega) (by omega) (by omega) hy)) (fun _ => Za h4)
 exact loop us.length big _ l (by omega) (by omega) (by omega) (by unfold big; omega) h
theorem Zq0 {l : List ZM} (h : Xj l) {cs : List Xf} (hc : Zxd cs) : Ok (As big l cs) fun r => Xj r.1 ∧ List.length r.2.1 ≤ 4 ∧ ∀ u ∈ r.2.1, ByteArray.size u.1 ≤ 1000 := by
 have hl := h.len; have hcl := hc.len;rw [Ee];refine ZA (by unfold lim; omega) ?_;have loop : ∀ (m n : Nat) (i : Int) (l : List ZM) (a : List Yg), 0 ≤ i → i ≤ cs.length → (cs.length : Int) ≤ i + m → m < n → Xj l → (a.length : Int) ≤ i → (∀ u ∈ a, ByteArray.size u.1 ≤ 1000) →
   Ok (Vs n cs l a i) fun r => Xj r.1 ∧ List.length r.2.1 ≤ 4 ∧ ∀ u ∈ r.2.1, ByteArray.size u.1 ≤ 1000 := by
  intro m
  induction m with
  | zero =>
   intro n i l a h0 h1 h2 h3 h4 h5 h6;obtain ⟨n, rfl⟩ : ∃ m, n = m + 1 := ⟨n - 1, by omega⟩
   rw [Vc];exact Zk (fun h => by omega) (fun _ => Za ⟨h4, by show a.length ≤ 4; omega, h6⟩)
  | succ m ih =>
   intro n i l a h0 h1 h2 h3 h4 h5 h6;obtain ⟨n, rfl⟩ : ∃ m, n = m + 1 := ⟨n - 1, by omega⟩
   rw [Vc, ZI (n := i + 1) (by omega) (by omega)];refine Zk (fun _ => ZA h0 (ZW (by omega) fun c hm => Zc (Zus h4 c.2.1) fun u hu => ZA (by simp only [List.length_singleton]; unfold lim; omega) (ZA h0 (ZW (by omega) fun c2 hm2 => Zc (Zu4 h4 c2 (hc.key c2 hm2)) fun y hy => ?_)))) (fun _ => Za ⟨h4, by show a.length ≤ 4; omega, h6⟩);refine ih n (i + 1) _ _ (by omega) (by omega) (by omega) (by omega) hy (by rw [Xr]; omega) fun v hv => ?_;rcases List.mem_append.1 (show v ∈ a ++ [u] from hv) with hv | hv
   ·exact h6 v hv
   ·simp only [List.mem_singleton] at hv; subst hv; rw [hu]; exact hc.key c hm
 exact loop cs.length big 0 l [] (by omega) (by omega) (by omega) (by unfold big; omega) h (by simp) (by simp)
theorem Zu5 {B : Nat} {V : Int} {p : Zo} (h : YQ B V p) : Ok (JG big p) fun r => YQ B V r.2.1 ∧ idv r.2.1 = idv p ∧ r.2.1.2.2.2.2.2.2.2.1 = [] ∧ r.2.1.2.2.2.2.2.2.2.2.1 = [] ∧ r.2.1.2.2.2.2.2.1 = p.2.2.2.2.2.1 := by
 rw [Gx];exact Zc (Zor h.cells h.undos) fun y hy => Za ⟨⟨h.row, hy, Nat.zero_le _, ⟨Nat.zero_le _, by simp⟩, h.votes, h.news, h.view, h.top, h.hq⟩, rfl, rfl, rfl, rfl⟩
theorem ZsV {B : Nat} {V : Int} (hB : B ≤ 1000000000) {p : Zo} (h : YQ B V p) : Ok (Qi big p) fun _ => True := by
 have := h.row;rw [Gp, ZI (n := (↑(List.length p.2.2.2.2.2.1) : Int) - 1) (by omega) (by omega)];exact Zk (fun _ => Za trivial) (fun _ => ZA (by omega) (ZW (by omega) fun _ _ => Za trivial))
theorem Zq1 {t : List Zy} (ht : X5 t) {row : List Int} (hr : row.length ≤ 1000000000) : Ok (Ei big t row) Xj := by
 have hlo := ht.lo; have hhi := ht.hi;rw [Zao];have loop : ∀ (m n : Nat) (i : Int) (l : List ZM), 0 ≤ i → i ≤ row.length → (row.length : Int) ≤ i + m → m < n → Xj l → Ok (Vu n t row l i) Xj := by
  intro m
  induction m with
  | zero =>
   intro n i l h0 h1 h2 h3 h4;obtain ⟨n, rfl⟩ : ∃ m, n = m + 1 := ⟨n - 1, by omega⟩
   rw [BG];exact Zk (fun h => by omega) (fun _ => Za h4)
  | succ m ih =>
   intro n i l h0 h1 h2 h3 h4;obtain ⟨n, rfl⟩ : ∃ m, n = m + 1 := ⟨n - 1, by omega⟩
   rw [BG, ZI (n := i + 1) (by omega) (by omega), ZI (n := (↑(List.length t) : Int) - 1) (by omega) (by omega)];refine Zk (fun hi => ?_) (fun _ => Za h4);have hlt : i.toNat < row.length := by omega
   rw [Z3 hlt];simp only [Mt, Option.bind_some];refine ZA h0 (Yp (fun hc => ?_) (fun _ => ih n (i + 1) l (by omega) (by omega) (by omega) (by omega) h4));simp only [Bool.and_eq_true, decide_eq_true_eq] at hc;exact ZA h0 (ZA hc.1 (ZW (by omega) fun b hb => Zc (ZmC h4 (ht.cmds b hb).key (by have := (ht.cmds b hb).len; omega)) fun y hy => ih n (i + 1) _ (by omega) (by omega) (by omega) (by omega) hy))
 exact loop row.length big 0 [] (by omega) (by omega) (by omega) (by unfold big; omega) ⟨by simp, by simp⟩
theorem ZvW {t : List Zy} (ht : X5 t) {more : List Int} (hm : more.length ≤ 60) (hx : ∀ x ∈ more, 0 ≤ x ∧ x < t.length) (z0 : Int) (z1 : Int) (z2 : Int) (z3 : Int) (z4 : Int) (z5 : Int) (z6 : Int) (z7 : Int) (z8 : Int) (z9 : Int) (z10 : Int) (z11 : Int) (z12 : Int) (z13 : Int) (z14 : List Int) (z15 : List ZM) (z16 : List Int) (z17 : List Yg) (z18 : List Z4) (z19 : List Zz) (z20 : Int) (c0 : Int) (c1 : Int) (c2 : Int) (c3 : Int) (c4 : Int) (c5 : Int) (c6 : Int) (c7 : Int) (c8 : Int) (c9 : Int) (c10 : Int) (c11 : Int) (c12 : Int) (c13 : Int) (c16 : List Int) (c17 : List Yg) (c18 : List Z4) (c19 : List Zz) (c20 : Int) :
  ∀ (m n : Nat) (i : Int) (row : List Int) (cells : List ZM), 0 ≤ i → i ≤ more.length → (more.length : Int) ≤ i + m → m < n → Xj cells → (row.length : Int) ≤ 1100000000 + i →
   Ok (UB n t i z0 z1 z2 z3 z4 z5 z6 z7 z8 z9 z10 z11 z12 z13 z14 z15 z16 z17 z18 z19 z20 c0 c1 c2 c3 c4 c5 c6 c7 c8 c9 c10 c11 c12 c13 row cells c16 c17 c18 c19 c20 more) fun r => ∃ (row' : List Int) (cells' : List ZM), r = (c0, c1, (c2, c3, c4, c5, ()), (c6, c7, c8, c9, ()), (c10, c11, c12, c13, ()), row', cells', c16, c17, c18, c19, c20, ()) ∧ (row'.length : Int) ≤ row.length + more.length - i ∧ Xj cells' := by
 intro m
 induction m with
 | zero =>
  intro n i row cells h0 h1 h2 h3 h4 h5;obtain ⟨n, rfl⟩ : ∃ m, n = m + 1 := ⟨n - 1, by omega⟩
  rw [VB];exact Zk (fun h => by omega) (fun _ => Za ⟨row, cells, rfl, by omega, h4⟩)
 | succ m ih =>
  intro n i row cells h0 h1 h2 h3 h4 h5;obtain ⟨n, rfl⟩ : ∃ m, n = m + 1 := ⟨n - 1, by omega⟩
  rw [VB, ZI (n := i + 1) (by omega) (by omega)];refine Zk (fun hi => ZA h0 (ZA hi (ZW (by omega) fun y hy => ZA (by simp only [List.length_singleton]; unfold lim; omega) (ZA h0 (ZA hi (ZW (by omega) fun k hk => ZA (hx k hk).1 (ZW (by have := hx k hk; omega) fun b hb => Zc (ZmC h4 (ht.cmds b hb).key (by have := (ht.cmds b hb).len; omega)) fun q hq => ?_))))))) (fun _ => Za ⟨row, cells, rfl, by omega, h4⟩);refine VN (ih n (i + 1) _ _ (by omega) (by omega) (by omega) (by omega) hq (by rw [Xr]; omega)) fun r hr => ?_;obtain ⟨row', cells', e, g1, g2⟩ := hr;exact ⟨row', cells', e, by rw [Xr] at g1; omega, g2⟩
theorem ZmD {B : Nat} {V : Int} (hB : B ≤ 900000000) {t : List Zy} (ht : X5 t) {p : Zo} (h : YQ B V p) (k : Int) : Ok (Qk big t p k) fun r => YQ (B + 60) V r ∧ idv r = idv p := by
 rw [Gy, E6 (by omega) h];simp only [Option.bind_some];refine Zc (ZsV (by omega) h) fun l _ => Zc (Zcw ht k l) fun e _ => Ye (fun _ => Za ⟨h.mono (by omega), rfl⟩) fun _ => Zc (Zu5 h) fun y hy => Zc (ZsV (by omega) h) fun l2 _ => Zc (ZgK ht k l2) fun more hmore => ?_;obtain ⟨hp, hid, _, _, _⟩ := hy;have hr := hp.row;refine VN (ZvW ht hmore.1 hmore.2 _ _ _ _ _ _ _ _ _ _ _ _ _ _ _ _ _ _ _ _ _ _ _ _ _ _ _ _ _ _ _ _ _ _ _ _ _ _ _ _ more.length big 0 _ _ (by omega) (by omega) (by omega) (by have := hmore.1; unfold big; omega) hp.cells (by omega)) fun r hr2 => ?_;obtain ⟨row', cells', e, g1, g2⟩ := hr2;subst e;have := hmore.1;exact ⟨⟨by show row'.length ≤ B + 60; omega, g2, hp.early, hp.undos, Nat.le_trans hp.votes (by omega), Nat.le_trans hp.news (by omega), hp.view, hp.top, hp.hq⟩, hid⟩
theorem ZvX {t : List Zy} (ht : X5 t) {more : List Int} (hm : more.length ≤ 60) (hx : ∀ x ∈ more, 0 ≤ x ∧ x < t.length) (z0 : Int) (z1 : Int) (z2 : Int) (z3 : Int) (z4 : Int) (z5 : Int) (z6 : Int) (z7 : Int) (z8 : Int) (z9 : Int) (z10 : Int) (z11 : Int) (z12 : Int) (z13 : Int) (z14 : List Int) (z15 : List ZM) (z16 : List Int) (z17 : List Yg) (z18 : List Z4) (z19 : List Zz) (z20 : Int) (c0 : Int) (c1 : Int) (c2 : Int) (c3 : Int) (c4 : Int) (c5 : Int) (c6 : Int) (c7 : Int) (c8 : Int) (c9 : Int) (c10 : Int) (c11 : Int) (c12 : Int) (c13 : Int) (c14 : List Int) (c18 : List Z4) (c19 : List Zz) (c20 : Int) :
  ∀ (m n : Nat) (i : Int) (cells : List ZM) (early : List Int) (undos : List Yg), 0 ≤ i → i ≤ more.length → (more.length : Int) ≤ i + m → m < n → Xj cells → (early.length : Int) ≤ i → (undos.length : Int) ≤ 4 * i → (∀ u ∈ undos, ByteArray.size u.1 ≤ 1000) →
   Ok (Vt n t i z0 z1 z2 z3 z4 z5 z6 z7 z8 z9 z10 z11 z12 z13 z14 z15 z16 z17 z18 z19 z20 c0 c1 c2 c3 c4 c5 c6 c7 c8 c9 c10 c11 c12 c13 c14 cells early undos c18 c19 c20 more) fun r => ∃ (cells' : List ZM) (early' : List Int) (undos' : List Yg), r = (c0, c1, (c2, c3, c4, c5, ()), (c6, c7, c8, c9, ()), (c10, c11, c12, c13, ()), c14, cells', early', undos', c18, c19, c20, ()) ∧ Xj cells' ∧ early'.length ≤ 60 ∧ Zpv undos' := by
 intro m
 induction m with
 | zero =>
  intro n i cells early undos h0 h1 h2 h3 h4 h5 h6 h7;obtain ⟨n, rfl⟩ : ∃ m, n = m + 1 := ⟨n - 1, by omega⟩
  rw [Vd];exact Zk (fun h => by omega) (fun _ => Za ⟨cells, early, undos, rfl, h4, by omega, ⟨by omega, h7⟩⟩)
 | succ m ih =>
  intro n i cells early undos h0 h1 h2 h3 h4 h5 h6 h7;obtain ⟨n, rfl⟩ : ∃ m, n = m + 1 := ⟨n - 1, by omega⟩
  rw [Vd, ZI (n := i + 1) (by omega) (by omega)];refine Zk (fun hi => ZA h0 (ZA hi (ZW (by omega) fun k hk => ZA (hx k hk).1 (ZW (by have := hx k hk; omega) fun b hb => Zc (Zq0 h4 (ht.cmds b hb)) fun q hq => ZA h0 (ZA hi (ZW (by omega) fun k2 hk2 => ZA (by simp only [List.length_singleton]; unfold lim; omega) (ZA (by have := hq.2.1; unfold lim; omega) ?_))))))) (fun _ => Za ⟨cells, early, undos, rfl, h4, by omega, ⟨by omega, h7⟩⟩);refine ih n (i + 1) _ _ _ (by omega) (by omega) (by omega) (by omega) hq.1 (by rw [Xr]; omega) (by rw [List.append_eq, List.length_append]; have := hq.2.1; omega) fun u hu => ?_;rcases List.mem_append.1 (show u ∈ undos ++ q.2.1 from hu) with hu | hu
  ·exact h7 u hu
  ·exact hq.2.2 u hu
theorem ZgM {B : Nat} {V : Int} (hB : B ≤ 900000000) {t : List Zy} (ht : X5 t) {p : Zo} (h : YQ B V p) (k : Int) : Ok (V6 big t p k) fun r => YQ B V r ∧ idv r = idv p := by
 rw [Eh, E6 (by omega) h];simp only [Option.bind_some];refine Zc (Zu5 h) fun y hy => Zc (ZsV (by omega) h) fun l2 _ => Zc (ZgK ht k l2) fun more hmore => ?_;obtain ⟨hp, hid, he, hu, _⟩ := hy;refine VN (ZvX ht hmore.1 hmore.2 _ _ _ _ _ _ _ _ _ _ _ _ _ _ _ _ _ _ _ _ _ _ _ _ _ _ _ _ _ _ _ _ _ _ _ _ _ _ _ more.length big 0 _ _ _ (by omega) (by omega) (by omega) (by have := hmore.1; unfold big; omega) hp.cells (by rw [he]; simp) (by rw [hu]; simp) (by rw [hu]; simp)) fun r hr2 => ?_;obtain ⟨cells', early', undos', e, g1, g2, g3⟩ := hr2;subst e;exact ⟨⟨hp.row, g1, g2, g3, hp.votes, hp.news, hp.view, hp.top, hp.hq⟩, hid⟩
theorem ZsW {B : Nat} {V : Int} (hB : B ≤ 800000000) {t : List Zy} (ht : X5 t) {p : Zo} (h : YQ B V p) (k : Int) : Ok (WA big t p k) fun r => YQ (B + 60) V r ∧ idv r = idv p := by
 rw [M6, E6 (by omega) h];simp only [Option.bind_some];refine Zc (ZsO ht k) fun y hy => Ye (fun _ => Za ⟨h.mono (by omega), rfl⟩) fun hc => ?_;obtain ⟨h0, h1, h2, h3⟩ := hy hc;refine ZA h0.1 (ZW (by omega) fun b _ => Zc (C2 _ _) fun q1 hq1 => ZA h1.1 (ZW (by omega) fun b2 _ => Zc (C2 _ _) fun q2 hq2 => Zc (ZqZ ht k) fun d _ => ?_));have hp : YQ B V (p.1, p.2.1, q1, q2, p.2.2.2.2) := ⟨h.row, h.cells, h.early, h.undos, h.votes, h.news, h.view, h.top, ⟨Int.le_trans h.hq.1 hq1.2, Int.le_trans h.hq.2 hq2.2⟩⟩
 refine Yp (fun _ => Zc (ZmD (by omega) ht hp d.1) fun r hr => Zc (ZsQ h1 h2) fun _ _ => Yp (fun _ => Zc (ZgM (by omega) ht hr.1 _) fun s hs => Za ⟨hs.1, hs.2.trans hr.2⟩) (fun _ => Za hr))
  (fun _ => Zc (ZsQ h1 h2) fun _ _ => Yp (fun _ => Zc (ZgM (by omega) ht hp _) fun s hs => Za ⟨hs.1.mono (by omega), hs.2⟩) (fun _ => Za ⟨hp.mono (by omega), rfl⟩))
def Lv (V : Int) (l : List Zz) : Prop := ∀ x ∈ l, 0 ≤ x.2.2.2.1 ∧ x.2.2.2.1 ≤ V
theorem DA {V : Int} : Lv V [] := fun x hx => by cases hx
theorem ZmE {V : Int} {x : Zz} (h : 0 ≤ x.2.2.2.1 ∧ x.2.2.2.1 ≤ V) : Lv V [x] := fun y hy => by rw [List.mem_singleton.1 hy]; exact h
theorem Lv.up {V V' : Int} {l : List Zz} (h : Lv V l) (hv : V ≤ V') : Lv V' l := fun x hx => ⟨(h x hx).1, Int.le_trans (h x hx).2 hv⟩
theorem Lv.snoc {V : Int} {l : List Zz} {x : Zz} (h : Lv V l) (hx : 0 ≤ x.2.2.2.1 ∧ x.2.2.2.1 ≤ V) : Lv V (List.append l [x]) := fun y hy => by
 rcases List.mem_append.1 hy with hy | hy
 ·exact h y hy
 ·rw [List.mem_singleton.1 hy]; exact hx
theorem ZvY {B : Nat} {V : Int} (hB : B ≤ 1000000000) {p : Zo} (h : YQ B V p) (a b c : Int) : Ok (TO big p a b c) fun r => YQ B V r.1 ∧ r.1.1 = p.1 ∧ r.2.1.2.1 = b := by
 rw [Zk5, E6 hB h];simp only [Option.bind_some, XM];exact Za ⟨⟨h.row, h.cells, h.early, h.undos, h.votes, h.news, h.view, h.top, h.hq⟩, rfl, rfl⟩
theorem Zpy {B : Nat} {V : Int} (hB : B ≤ 1000000000) {p : Zo} (h : YQ B V p) (a b c d : Int) (hv : 0 ≤ b ∧ b ≤ V) : Ok (Qj big p a b c d) fun r => YQ B V r.2.1 ∧ r.2.1.1 = p.1 ∧ List.length r.1 ≤ 1 ∧ Lv V r.1 := by
 rw [ZdF];exact Zc (ZvY hB h a b c) fun y hy => Za ⟨hy.1, hy.2.1, Nat.le_refl _, ZmE (by show 0 ≤ y.2.1.2.1 ∧ y.2.1.2.1 ≤ V; rw [hy.2.2]; exact hv)⟩
theorem Zq2 {B : Nat} {V : Int} (hB : B ≤ 1000000000) {p : Zo} (h : YQ B V p) (hV : V + 1 ≤ 900) (n : Int) : Ok (Ed big p n) fun r => YQ B (V + 1) r.1 ∧ r.1.1 = p.1 ∧ Lv (V + 1) [r.2.1] := by
 have hv := h.view;have stay : YQ B (V + 1) p ∧ p.1 = p.1 ∧ Lv (V + 1) [((0 : Int), (0 : Int), (0 : Int), (0 : Int), (0 : Int), ((0 : Int), (0 : Int), (0 : Int), (0 : Int), ()), ((0 : Int), (0 : Int), (0 : Int), (0 : Int), ()), ())] := ⟨h.up (by omega) hV, rfl, ZmE (by show (0 : Int) ≤ 0 ∧ (0 : Int) ≤ _; omega)⟩
 rw [TU, E6 hB h, ZI (n := p.2.1 + 1) (by omega) (by omega)];simp only [Mt, Option.bind_some];exact Zk (fun _ => Za stay) fun _ => Ye (fun _ => Za stay) fun _ => Zc (Q1 hB (h.up (by omega) hV) _ (by omega)) fun y hy => Zc (Vi _ _) fun _ _ => Za ⟨hy.1, hy.2, ZmE ⟨by have := hy.1.view.1; show 0 ≤ y.2.1; omega, hy.1.view.2⟩⟩
theorem ZyS {B : Nat} {V : Int} (hB : B ≤ 800000000) {t : List Zy} (ht : X5 t) {p : Zo} (h0 : YQ B V p) (hV : V + 1 ≤ 900) (n : Int) (l : Zz) (hl : 0 ≤ l.2.2.2.1 ∧ l.2.2.2.1 ≤ V) : Ok (Zar big t n p l) fun r => YQ (B + 60) (V + 1) r.2.1 ∧ r.2.1.1 = p.1 ∧ List.length r.1 ≤ 1 ∧ Lv (V + 1) r.1 := by
 have h := h0.up (V' := V + 1) (by omega) hV;rw [Zlo, ZI (n := l.2.2.2.1 + 1) (by omega) (by omega)];refine Zc (Q1 (by omega) h _ (by omega)) fun y hy => ?_;obtain ⟨hp, hid⟩ := hy;have stay : ∀ q : Zo, YQ B (V + 1) q → q.1 = p.1 → YQ (B + 60) (V + 1) q ∧ q.1 = p.1 ∧ List.length ([] : List Zz) ≤ 1 ∧ Lv (V + 1) [] := fun q hq e => ⟨hq.mono (by omega), e, Nat.zero_le _, DA⟩
 refine Zk (fun _ => Zc (C2 _ _) fun q hq1 => ?_) fun _ => Zk (fun _ => Zc (C2 _ _) fun q hq1 => ?_) fun _ => Zk (fun _ => Zc (ZmD (by omega) ht hp _) fun z hz => Zc (Q1 (by omega) hz.1 _ (by omega)) fun z2 hz2 => Zc (Vi _ _) fun _ _ => Za ⟨hz2.1, hz2.2.trans ((Zpw hz.2).trans hid), Nat.le_refl _, ZmE ⟨by have := hz2.1.view.1; show 0 ≤ z2.2.1; omega, hz2.1.view.2⟩⟩) fun _ => Za (stay y hp hid)
 ·have hq : YQ B (V + 1) (y.1, y.2.1, q, y.2.2.2) := ⟨hp.row, hp.cells, hp.early, hp.undos, hp.votes, hp.news, hp.view, hp.top, ⟨Int.le_trans hp.hq.1 hq1.2, hp.hq.2⟩⟩
  exact Zc (Zur _ _ _) fun _ _ => Ye (fun _ => Za (stay _ hq hid)) fun _ => Zc (Zpy (by omega) hq _ _ _ _ (by omega)) fun z hz => Za ⟨hz.1.mono (by omega), hz.2.1.trans hid, hz.2.2⟩
 ·have hq : YQ B (V + 1) (y.1, y.2.1, y.2.2.1, q, y.2.2.2.2) := ⟨hp.row, hp.cells, hp.early, hp.undos, hp.votes, hp.news, hp.view, hp.top, ⟨hp.hq.1, Int.le_trans hp.hq.2 hq1.2⟩⟩
  exact Zc (Zur _ _ _) fun _ _ => Ye (fun _ => Za (stay _ hq hid)) fun _ => Zc (Zpy (by omega) hq _ _ _ _ (by omega)) fun z hz => Za ⟨hz.1.mono (by omega), hz.2.1.trans hid, hz.2.2⟩
set_option maxHeartbeats 16000000 in
theorem FM {t : List Zy} (ht : X5 t) (n : Int) (l : Zz) : Ok (V7 big t n l) fun _ => True := by
 have hlo := ht.lo; have hhi := ht.hi;have hW : IntKind.i64.wrap ((↑(List.length t) : Int) - 1) = (↑(List.length t) : Int) - 1 := ZI (by omega) (by omega);rw [Zaq];simp only [Mt, Option.bind_some, hW]
 by_cases hb : (1 : Int) ≤ l.2.2.2.2.1 ∧ l.2.2.2.2.1 ≤ (↑(List.length t) : Int) - 1
 ·have e1 : (decide ((1 : Int) ≤ l.2.2.2.2.1) && decide (l.2.2.2.2.1 ≤ (↑(List.length t) : Int) - 1)) = true := by
   rw [decide_eq_true hb.1, decide_eq_true hb.2]; rfl
  have hb0 : (0 : Int) ≤ l.2.2.2.2.1 := by omega
  have hb1 : Int.toNat l.2.2.2.2.1 < t.length := by omega
  simp only [e1, cond_true]
  repeat' with_reducible first
   | exact Za trivial
   | refine Yp (fun _ => ?_) (fun _ => ?_)
   | refine ZA hb0 ?_
   | refine ZW hb1 fun _ _ => ?_
   | refine Zc (Zjm ht _ _) fun _ _ => ?_
   | refine Zc (Zcy ht _ _) fun _ _ => ?_
 ·have e1 : (decide ((1 : Int) ≤ l.2.2.2.2.1) && decide (l.2.2.2.2.1 ≤ (↑(List.length t) : Int) - 1)) = false := by
   rw [← Bool.not_eq_true];intro h;simp only [Bool.and_eq_true, decide_eq_true_eq] at h;exact hb h
  simp only [e1, cond_false]
  repeat' with_reducible first
   | exact Za trivial
   | refine Yp (fun _ => ?_) (fun _ => ?_)
   | refine Zc (Zjm ht _ _) fun _ _ => ?_
   | refine Zc (Zcy ht _ _) fun _ _ => ?_
theorem ZsX {B : Nat} {V : Int} (hB : B ≤ 1000000000) (b0 : Int) (b1 : Int) (b2 : Int) (b3 : Int) (b4 : Int) (b5 : Int) (b6 : Int) (b7 : Int) (b8 : Int) (b9 : Int) (b10 : Int) (b11 : Int) (b12 : Int) (b13 : Int) (b14 : List Int) (b15 : List ZM) (b16 : List Int) (b17 : List Yg) (b18 : List Z4) (b19 : List Zz) (b20 : Int) (h : YQ B V (b0, b1, (b2, b3, b4, b5, ()), (b6, b7, b8, b9, ()), (b10, b11, b12, b13, ()), b14, b15, b16, b17, b18, b19, b20, ())) (c0 c1 c2 c3 c4 c5 c6 c7 c8 c9 c10 c11 c12 : Int) :
  ∀ (m n : Nat) (i : Int), 0 ≤ i → i ≤ b19.length → (b19.length : Int) ≤ i + m → m < n →
   Ok (WV n i b0 b1 b2 b3 b4 b5 b6 b7 b8 b9 b10 b11 b12 b13 b14 b15 b16 b17 b18 b19 b20 c0 c1 c2 c3 c4 c5 c6 c7 c8 c9 c10 c11 c12) fun r => YQ (B + 1) V r.2.1 ∧ r.2.1.1 = b0 := by
 have hn : b19.length ≤ B := h.news;have fin : ∀ n : Nat, Ok (WV (n + 1) b19.length b0 b1 b2 b3 b4 b5 b6 b7 b8 b9 b10 b11 b12 b13 b14 b15 b16 b17 b18 b19 b20 c0 c1 c2 c3 c4 c5 c6 c7 c8 c9 c10 c11 c12) fun r => YQ (B + 1) V r.2.1 ∧ r.2.1.1 = b0 := by
  intro n;rw [Ej];refine Zk (fun h => by omega) (fun _ => ?_);simp only [XM];refine ZA (by unfold lim; omega) (ZA (by simp only [List.length_singleton]; unfold lim; omega) (Za ⟨⟨Nat.le_trans h.row (by omega), h.cells, h.early, h.undos, Nat.le_trans h.votes (by omega), ?_, h.view, h.top, h.hq⟩, rfl⟩));show (b19 ++ _).length ≤ B + 1;simp only [List.length_append, List.length_singleton]; omega
 intro m
 induction m with
 | zero =>
  intro n i h0 h1 h2 h3;obtain ⟨n, rfl⟩ : ∃ m, n = m + 1 := ⟨n - 1, by omega⟩
  obtain rfl : i = b19.length := by omega
  exact fin n
 | succ m ih =>
  intro n i h0 h1 h2 h3;obtain ⟨n, rfl⟩ : ∃ m, n = m + 1 := ⟨n - 1, by omega⟩
  rcases Int.lt_or_le i b19.length with hl | hl
  ·rw [Ej, ZI (n := i + 1) (by omega) (by omega)]
   exact Zk (fun hi => ZA h0 (ZA hi (ZW (by omega) fun y hy => Zk (fun _ => Za ⟨h.mono (by omega), rfl⟩) (fun _ => ih n (i + 1) (by omega) (by omega) (by omega) (by omega))))) (fun h => by omega)
  ·obtain rfl : i = b19.length := by omega
   exact fin n
theorem ZvZ {B : Nat} {V : Int} (hB : B ≤ 1000000000) (b0 : Int) (b1 : Int) (b2 : Int) (b3 : Int) (b4 : Int) (b5 : Int) (b6 : Int) (b7 : Int) (b8 : Int) (b9 : Int) (b10 : Int) (b11 : Int) (b12 : Int) (b13 : Int) (b14 : List Int) (b15 : List ZM) (b16 : List Int) (b17 : List Yg) (b18 : List Z4) (b19 : List Zz) (b20 : Int) (h : YQ B V (b0, b1, (b2, b3, b4, b5, ()), (b6, b7, b8, b9, ()), (b10, b11, b12, b13, ()), b14, b15, b16, b17, b18, b19, b20, ())) (c0 c1 c2 c3 c4 c5 c6 c7 c8 c9 c10 c11 c12 : Int) : Ok (WV big 0 b0 b1 b2 b3 b4 b5 b6 b7 b8 b9 b10 b11 b12 b13 b14 b15 b16 b17 b18 b19 b20 c0 c1 c2 c3 c4 c5 c6 c7 c8 c9 c10 c11 c12) fun r => YQ (B + 1) V r.2.1 ∧ r.2.1.1 = b0 := by
 have hn : b19.length ≤ B := h.news;exact ZsX hB _ _ _ _ _ _ _ _ _ _ _ _ _ _ _ _ _ _ _ _ _ h _ _ _ _ _ _ _ _ _ _ _ _ _ b19.length big 0 (by omega) (by omega) (by omega) (by unfold big; omega)
theorem Zv0 {B : Nat} {V : Int} (hB : B ≤ 1000000000) {p : Zo} (h : YQ B V p) (hV : V + 1 ≤ 900) (n : Int) (l : Zz) : Ok (M7 big p n l) fun r => YQ (B + 1) (V + 1) r.2.1 ∧ r.2.1.1 = p.1 := by
 have hv := h.view;have h1 := h.up (V' := V + 1) (by omega) hV;rw [Zij, ZI (n := p.2.1 + 1) (by omega) (by omega)];have go : ∀ y : Zo, YQ B (V + 1) y ∧ y.1 = p.1 → ∀ c0 c1 c2 c3 c4 c5 c6 c7 c8 c9 c10 c11 c12 : Int, Ok (WV big 0 y.1 y.2.1 y.2.2.1.1 y.2.2.1.2.1 y.2.2.1.2.2.1 y.2.2.1.2.2.2.1 y.2.2.2.1.1 y.2.2.2.1.2.1 y.2.2.2.1.2.2.1 y.2.2.2.1.2.2.2.1 y.2.2.2.2.1.1 y.2.2.2.2.1.2.1 y.2.2.2.2.1.2.2.1 y.2.2.2.2.1.2.2.2.1 y.2.2.2.2.2.1 y.2.2.2.2.2.2.1 y.2.2.2.2.2.2.2.1 y.2.2.2.2.2.2.2.2.1 y.2.2.2.2.2.2.2.2.2.1 y.2.2.2.2.2.2.2.2.2.2.1 y.2.2.2.2.2.2.2.2.2.2.2.1 c0 c1 c2 c3 c4 c5 c6 c7 c8 c9 c10 c11 c12) fun r => YQ (B + 1) (V + 1) r.2.1 ∧ r.2.1.1 = p.1 := by
  intro y hy c0 c1 c2 c3 c4 c5 c6 c7 c8 c9 c10 c11 c12;rw [← hy.2];exact ZvZ hB _ _ _ _ _ _ _ _ _ _ _ _ _ _ _ _ _ _ _ _ _ hy.1 _ _ _ _ _ _ _ _ _ _ _ _ _
 refine Zc (Vi _ _) fun z _ => ?_;have stay : YQ (B + 1) (V + 1) p ∧ p.1 = p.1 := ⟨h1.mono (by omega), rfl⟩
 refine YO (fun _ => Za stay) fun _ => YO (fun _ => YO (fun _ => Za stay) fun e => ?_) fun e => ?_
 ·exact Zc (Q1 hB h1 _ (by omega)) fun y hy => go y hy _ _ _ _ _ _ _ _ _ _ _ _ _
 ·exact Zc (Q1 hB h1 _ (by omega)) fun y hy => go y hy _ _ _ _ _ _ _ _ _ _ _ _ _
theorem ZsY {B : Nat} {V : Int} (b0 : Int) (b1 : Int) (b2 : Int) (b3 : Int) (b4 : Int) (b5 : Int) (b6 : Int) (b7 : Int) (b8 : Int) (b9 : Int) (b10 : Int) (b11 : Int) (b12 : Int) (b13 : Int) (b14 : List Int) (b15 : List ZM) (b16 : List Int) (b17 : List Yg) (b18 : List Z4) (b19 : List Zz) (b20 : Int) (h : YQ B V (b0, b1, (b2, b3, b4, b5, ()), (b6, b7, b8, b9, ()), (b10, b11, b12, b13, ()), b14, b15, b16, b17, b18, b19, b20, ())) (s1 : Int) (hs : s1 ≤ 7) (c0 c1 c2 c3 : Int) :
  ∀ (m n : Nat) (i : Int) (l : List Zz), 0 ≤ i → i ≤ 7 → (7 : Int) ≤ i + m → m < n → (l.length : Int) ≤ i → Lv V l →
   Ok (QB n s1 l i b0 b1 b2 b3 b4 b5 b6 b7 b8 b9 b10 b11 b12 b13 b14 b15 b16 b17 b18 b19 b20 c0 c1 c2 c3) fun r => YQ B V r.2.1 ∧ r.2.1.1 = b0 ∧ List.length r.1 ≤ 7 ∧ Lv V r.1 := by
 intro m
 induction m with
 | zero =>
  intro n i l h0 h1 h2 h3 h4 h5;obtain ⟨n, rfl⟩ : ∃ m, n = m + 1 := ⟨n - 1, by omega⟩
  rw [BH];exact Zk (fun h => by omega) (fun _ => Za ⟨h, rfl, by show l.length ≤ 7; omega, h5⟩)
 | succ m ih =>
  intro n i l h0 h1 h2 h3 h4 h5;obtain ⟨n, rfl⟩ : ∃ m, n = m + 1 := ⟨n - 1, by omega⟩
  rw [BH, ZI (n := i + 1) (by omega) (by omega)];exact Zk (fun hi => ZA (by simp only [List.length_singleton]; unfold lim; omega) (ih n (i + 1) _ (by omega) (by omega) (by omega) (by omega) (by rw [Xr]; omega) (h5.snoc ⟨by have h9 : 1 ≤ b1 := h.view.1; show 0 ≤ b1; omega, h.view.2⟩))) (fun _ => Za ⟨h, rfl, by show l.length ≤ 7; omega, h5⟩)
theorem RC {B : Nat} {V : Int} (hB : B ≤ 1000000000) (b0 : Int) (b1 : Int) (b2 : Int) (b3 : Int) (b4 : Int) (b5 : Int) (b6 : Int) (b7 : Int) (b8 : Int) (b9 : Int) (b10 : Int) (b11 : Int) (b12 : Int) (b13 : Int) (b14 : List Int) (b15 : List ZM) (b16 : List Int) (b17 : List Yg) (b18 : List Z4) (b19 : List Zz) (b20 : Int) (h : YQ B V (b0, b1, (b2, b3, b4, b5, ()), (b6, b7, b8, b9, ()), (b10, b11, b12, b13, ()), b14, b15, b16, b17, b18, b19, b20, ())) (s1 : Int) (hs : s1 ≤ 7) (s8 : Int) (c0 c1 c2 c3 : Int) (n : Nat) (hn : 8 < n) :
  Ok (XI n s1 [] s8 b0 b1 b2 b3 b4 b5 b6 b7 b8 b9 b10 b11 b12 b13 b14 b15 b16 b17 b18 b19 b20 c0 c1 c2 c3) fun r => YQ (B + 1) V r.2.1 ∧ r.2.1.1 = b0 ∧ List.length r.1 ≤ 7 ∧ Lv V r.1 := by
 obtain ⟨n, rfl⟩ : ∃ m, n = m + 1 := ⟨n - 1, by omega⟩
 rw [DD];simp only [XM];have hv : b18.length ≤ B := h.votes;have e : List.length (List.append b18 [(c0, c1, c2, c3, ())]) = b18.length + 1 := by show List.length (b18 ++ _) = _; simp only [List.length_append, List.length_singleton]
 have stay : YQ (B + 1) V (b0, b1, (b2, b3, b4, b5, ()), (b6, b7, b8, b9, ()), (b10, b11, b12, b13, ()), b14, b15, b16, b17, b18, b19, b20, ()) ∧ b0 = b0 ∧ List.length ([] : List Zz) ≤ 7 ∧ Lv V [] := ⟨h.mono (by omega), rfl, by decide, DA⟩
 have put : ∀ q : B6, 0 ≤ q.2.1 → YQ (B + 1) V (b0, b1, q, (b6, b7, b8, b9, ()), (b10, b11, b12, b13, ()), b14, b15, b16, b17, List.append b18 [(c0, c1, c2, c3, ())], b19, b20, ()) := fun q hq =>
  ⟨Nat.le_trans h.row (by omega), h.cells, h.early, h.undos, by show List.length (List.append b18 [(c0, c1, c2, c3, ())]) ≤ _; omega, Nat.le_trans h.news (by omega), h.view, h.top, ⟨hq, h.hq.2⟩⟩
 refine YO (fun _ => Za stay) fun _ => Zc (Vi _ _) fun _ _ => YO (fun _ => Za stay) fun _ => Zc (Zyo _ _ (by omega)) fun _ _ => Yp (fun _ => Za stay) fun _ => ZA (by unfold lim; omega) (ZA (by simp only [List.length_singleton]; unfold lim; omega) (Zc (Zcx _ (by omega) _ _ _) fun _ _ => Zc (Zcu _) fun _ _ => Zc (RB _) fun _ _ => YO (fun _ => Za ⟨put _ h.hq.1, rfl, stay.2.2⟩) fun _ => Zc (ZmA _ (by omega) _ _ _ _) fun q _ => Zk (fun _ => Zc (C2 _ _) fun q hq => Za ⟨put q (Int.le_trans h.hq.1 hq.2), rfl, stay.2.2⟩) fun _ => ?_));exact ZsY _ _ _ _ _ _ _ _ _ _ _ _ _ _ _ _ _ _ _ _ b20 (put (b2, b3, b4, b5, ()) h.hq.1) s1 hs _ _ _ _ 7 n 0 [] (by omega) (by omega) (by omega) (by omega) (by decide) DA
theorem Zxg {B : Nat} {V : Int} (hB : B ≤ 1000000000) {p : Zo} (h0 : YQ B V p) (hV : V + 1 ≤ 900) (n : Int) (hn : n ≤ 7) (v : Z4) : Ok (Hy big p n v) fun r => YQ (B + 1) (V + 1) r.2.1 ∧ r.2.1.1 = p.1 ∧ List.length r.1 ≤ 7 ∧ Lv (V + 1) r.1 := by
 have hv := h0.view;have h := h0.up (V' := V + 1) (by omega) hV;rw [ZdW, ZI (n := p.2.1 + 1) (by omega) (by omega)];have hb : 8 < big := by decide
 refine Zk (fun _ => Zc (Vi _ _) fun _ _ => Zk (fun _ => Zk (fun e => Zc (Q1 hB h _ (by omega)) fun y hy => ?_) (fun _ => ?_)) (fun _ => ?_)) (fun _ => ?_)
 ·rw [← hy.2]; exact RC hB _ _ _ _ _ _ _ _ _ _ _ _ _ _ _ _ _ _ _ _ _ hy.1 n hn _ _ _ _ _ big hb
 ·exact RC hB _ _ _ _ _ _ _ _ _ _ _ _ _ _ _ _ _ _ _ _ _ h n hn _ _ _ _ _ big hb
 ·exact RC hB _ _ _ _ _ _ _ _ _ _ _ _ _ _ _ _ _ _ _ _ _ h n hn _ _ _ _ _ big hb
 ·exact RC hB _ _ _ _ _ _ _ _ _ _ _ _ _ _ _ _ _ _ _ _ _ h n hn _ _ _ _ _ big hb
theorem ZsZ {B : Nat} {V : Int} (hB : B ≤ 1000000000) {p : Zo} (h : YQ B V p) (hV : V + 1 ≤ 900) (n : Int) (hn : n ≤ 7) (v : Z4) : Ok (El big p n v) fun r => YQ (B + 1) (V + 1) r.1 ∧ r.1.1 = p.1 ∧ List.length r.2.1 ≤ 7 ∧ Lv (V + 1) r.2.1 := by
 rw [Zax];exact Zc (Zxg hB h hV n hn v) fun y hy => Za hy
def Zjn (B : Nat) (V : Int) (p : Zo) (r : Zo × List Zz × Unit) : Prop := YQ B V r.1 ∧ r.1.1 = p.1 ∧ List.length r.2.1 ≤ 7 ∧ Lv V r.2.1
theorem Zs0 {B : Nat} {V : Int} (hB : B ≤ 1000000000) {t : List Zy} (ht : X5 t) {p : Zo} (h : YQ B V p) (hV : V + 1 ≤ 900) (n : Int) (hn : n ≤ 7) (l : Zz) : Ok (WW big t n p l) (Zjn (B + 1) (V + 1) p) := by
 rw [Zaz, E6 hB h];simp only [Option.bind_some];have stay : Zjn (B + 1) (V + 1) p (p, [], ()) := ⟨(h.up (by omega) hV).mono (by omega), rfl, Nat.zero_le _, DA⟩
 exact Zc (FM ht _ _) fun _ _ => Ye (fun _ => Za stay) fun _ => YO (fun _ => Za stay) fun _ => Zk (fun _ => Zc (ZsZ hB h hV n hn _) fun y hy => Za hy) fun _ => Zk (fun _ => Zc (Zv0 hB h hV n l) fun y hy => Za ⟨hy.1, hy.2, Nat.zero_le _, DA⟩) fun _ => Za stay
theorem Zyp {B : Nat} {V : Int} (hB : B ≤ 800000000) {t : List Zy} (ht : X5 t) {p : Zo} (h : YQ B V p) (hV : V + 1 ≤ 900) (n : Int) (hn : n ≤ 7) (l : Zz) (hl : 0 ≤ l.2.2.2.1 ∧ l.2.2.2.1 ≤ V) : Ok (CE big t n p l) (Zjn (B + 60) (V + 1) p) := by
 have h1 := h.up (V' := V + 1) (by omega) hV;rw [ZdZ, E6 (by omega) h];simp only [Option.bind_some];have stay : ∀ q : Zo, YQ B (V + 1) q ∧ q.1 = p.1 → Zjn (B + 60) (V + 1) p (q, [], ()) := fun q h => ⟨h.1.mono (by omega), h.2, Nat.zero_le _, DA⟩
 have lead : Ok ((WW big t n p l).bind fun y => some y) (Zjn (B + 60) (V + 1) p) := Zc (Zs0 (by omega) ht h hV n hn l) fun y hy => Za ⟨hy.1.mono (by omega), hy.2⟩;exact Zc (FM ht _ _) fun _ _ => Ye (fun _ => Za (stay p ⟨h1, rfl⟩)) fun _ => YO (fun _ => Za (stay p ⟨h1, rfl⟩)) fun _ => Zk (fun _ => lead) fun _ => Zk (fun _ => lead) fun _ => Zc (Vi _ _) fun _ _ => YO (fun _ => Za (stay p ⟨h1, rfl⟩)) fun _ => Zk (fun _ => Za (stay p ⟨h1, rfl⟩)) fun _ =>
  Zk (fun _ => Zc (ZyS hB ht h hV n l hl) fun y hy => Za ⟨hy.1, hy.2.1, by show List.length y.1 ≤ 7; have := hy.2.2.1; omega, hy.2.2.2⟩) fun _ => Zc (Q1 (by omega) h1 _ (by omega)) fun y hy => Zc (Zur _ _ _) fun _ _ => Ye (fun _ => Za (stay y hy)) fun _ => Zc (Zu3 ht _ _) fun _ _ => Ye (fun _ => Za (stay y hy)) fun _ =>
  Zc (Zpy (by omega) hy.1 _ _ _ _ (by omega)) fun z hz => Za ⟨hz.1.mono (by omega), hz.2.1.trans hy.2, by show List.length z.1 ≤ 7; have := hz.2.2.1; omega, hz.2.2.2⟩
theorem Zv1 {B : Nat} {V : Int} (hB : B ≤ 800000000) {t : List Zy} (ht : X5 t) {p : Zo} (h : YQ B V p) (hV : V + 1 ≤ 900) (n : Int) (hn : n ≤ 7) (l : Zz) (hl : 0 ≤ l.2.2.2.1 ∧ l.2.2.2.1 ≤ V) : Ok (KM big t n p l) (Zjn (B + 60) (V + 1) p) := by
 have h1 := h.up (V' := V + 1) (by omega) hV;rw [PP, E6 (by omega) h, ZI (n := l.2.2.2.1 + 1) (by omega) (by omega)];simp only [Option.bind_some];have stay : ∀ q : Zo, YQ B V q ∧ q.1 = p.1 → Zjn (B + 60) (V + 1) p (q, [], ()) := fun q h => ⟨(h.1.up (by omega) hV).mono (by omega), h.2, Nat.zero_le _, DA⟩
 have high : ∀ q : B6, 0 ≤ q.2.1 → YQ B V (p.1, p.2.1, q, p.2.2.2) := fun q hq => ⟨h.row, h.cells, h.early, h.undos, h.votes, h.news, h.view, h.top, ⟨hq, h.hq.2⟩⟩
 have learn : Ok ((WA big t p l.2.2.2.2.1).bind fun y => some (y, ([] : List Zz), ())) (Zjn (B + 60) (V + 1) p) := Zc (ZsW hB ht h _) fun y hy => Za ⟨hy.1.up (by omega) hV, Zpw hy.2, Nat.zero_le _, DA⟩;exact Zc (FM ht _ _) fun _ _ => Ye (fun _ => Za (stay p ⟨h, rfl⟩)) fun _ => YO (fun _ => Za (stay p ⟨h, rfl⟩)) fun _ =>
  Zk (fun _ => Zc (Zs0 (by omega) ht h hV n hn l) fun y hy => Za ⟨hy.1.mono (by omega), hy.2⟩) fun _ =>
  Zk (fun _ => Zc (C2 _ _) fun q hq => Zc (Zs0 (by omega) ht (high q (Int.le_trans h.hq.1 hq.2)) hV n hn l) fun y hy => Za ⟨hy.1.mono (by omega), hy.2⟩) fun _ =>
  Zk (fun _ => Za (stay p ⟨h, rfl⟩)) fun _ => Zc (Vi _ _) fun _ _ => YO (fun _ => Za (stay p ⟨h, rfl⟩)) fun _ => Zc (Zur _ _ _) fun _ _ =>
  Yp (fun _ => Zc (Zu3 ht _ _) fun _ _ => Yp (fun _ => Zc (ZsW hB ht h _) fun y hy => YO (fun _ => Za ⟨hy.1.up (by omega) hV, Zpw hy.2, Nat.zero_le _, DA⟩) fun _ => Zc (Vi _ _) fun _ _ => Zc (Zpy (by omega) (hy.1.up (V' := V + 1) (by omega) hV) _ _ _ _ (by omega)) fun z hz => Zc (Q1 (by omega) hz.1 _ (by omega)) fun w hw => Za ⟨hw.1, hw.2.trans (hz.2.1.trans (Zpw hy.2)), by show List.length z.1 ≤ 7; have := hz.2.2.1; omega, hz.2.2.2⟩) (fun _ => learn)) (fun _ => learn)
def Bj (B : Nat) (V : Int) (p : Zo) : Prop := YQ B V p ∧ 0 ≤ p.1 ∧ p.1 ≤ 1000
theorem Bj.mono {B B' : Nat} {V : Int} {p : Zo} (h : Bj B V p) (hb : B ≤ B') : Bj B' V p := ⟨h.1.mono hb, h.2⟩
theorem Bj.up {B : Nat} {V V' : Int} {p : Zo} (h : Bj B V p) (hv : V ≤ V') (ht : V' ≤ 900) : Bj B V' p := ⟨h.1.up hv ht, h.2⟩
theorem Bj.of {B B' : Nat} {V V' : Int} {p q : Zo} (h : Bj B V p) (k : YQ B' V' q) (e : q.1 = p.1) : Bj B' V' q := ⟨k, by rw [e]; exact h.2⟩
structure ClI (B S : Nat) (V : Int) (x : Zp) : Prop where
 n : x.1 = 4
 tree : X5 x.2.2.2.1
 peers : List.length x.2.2.2.2.1 = 4
 peer : ∀ p ∈ x.2.2.2.2.1, Bj B V p
 net : List.length x.2.2.2.2.2.1 ≤ 60
 said : List.length x.2.2.2.2.2.2.1 ≤ S
 pend : List.length x.2.2.2.2.2.2.2.1 ≤ 8
 key : ∀ c ∈ x.2.2.2.2.2.2.2.1, ByteArray.size c.2.1 ≤ 1000
 lv : Lv V x.2.2.2.2.2.1
 tv : ∀ b ∈ x.2.2.2.1, b.2.1 ≤ V
theorem ClI.mono {B B' S S' : Nat} {V : Int} {x : Zp} (h : ClI B S V x) (hb : B ≤ B') (hs : S ≤ S') : ClI B' S' V x :=
 ⟨h.n, h.tree, h.peers, fun p hp => (h.peer p hp).mono hb, h.net, Nat.le_trans h.said hs, h.pend, h.key, h.lv, h.tv⟩
theorem ClI.up {B S : Nat} {V V' : Int} {x : Zp} (h : ClI B S V x) (hv : V ≤ V') (ht : V' ≤ 900) : ClI B S V' x :=
 ⟨h.n, h.tree, h.peers, fun p hp => (h.peer p hp).up hv ht, h.net, h.said, h.pend, h.key, h.lv.up hv, fun b hb => Int.le_trans (h.tv b hb) hv⟩
theorem JW {α : Type} {P : α → Prop} {y : α} (hy : P y) : ∀ {l : List α} {i : Nat}, (∀ x ∈ l, P x) → ∀ x ∈ upd l i y, P x
 | [], _, h, x, hx => h x hx
 | a :: l, 0, h, x, hx => by
  rcases List.mem_cons.1 hx with rfl | hx
  ·exact hy
  ·exact h x (List.mem_cons_of_mem _ hx)
 | a :: l, i + 1, h, x, hx => by
  rcases List.mem_cons.1 hx with rfl | hx
  ·exact h _ List.mem_cons_self
  ·exact JW hy (fun z hz => h z (List.mem_cons_of_mem _ hz)) x hx
theorem Lv.app {V : Int} {a b : List Zz} (h : Lv V a) (k : Lv V b) : Lv V (List.append a b) := fun y hy => by
 rcases List.mem_append.1 hy with hy | hy
 ·exact h y hy
 ·exact k y hy
theorem Lv.sub {V : Int} {l : List Zz} (h : Lv V l) (a b : Nat) : Lv V (List.take a (List.drop b l)) := fun y hy => h y (List.mem_of_mem_drop (List.mem_of_mem_take hy))
theorem Zxh {B S : Nat} {V : Int} {x : Zp} (h : ClI B S V x) (k : Int) : Ok (FB big x k) fun r => ClI B S V r.2.1 ∧ (r.1.2.1 = true → 0 ≤ r.1.1.2.2.2.1 ∧ r.1.1.2.2.2.1 ≤ V) := by
 obtain ⟨n, ch, li, tr, ps, ne, sa, pe, ⟨⟩⟩ := x;have hn : List.length ne ≤ 60 := h.net;rw [Zin];dsimp only;have hW : IntKind.i64.wrap ((↑(List.length ne) : Int) - 1) = (↑(List.length ne) : Int) - 1 := ZI (by omega) (by omega);simp only [Mt, Option.bind_some, hW]
 by_cases hk : 0 ≤ k ∧ k ≤ (↑(List.length ne) : Int) - 1
 ·have e : (decide (0 ≤ k) && decide (k ≤ (↑(List.length ne) : Int) - 1)) = true := by simp only [hk.1, hk.2, decide_true, Bool.and_self]
  have w : IntKind.i64.wrap (k + 1) = k + 1 := ZI (by omega) (by omega);have g4 : 0 + (List.take (k.toNat - 0) (List.drop 0 ne)).length ≤ lim := by simp only [List.length_take, List.length_drop]; unfold lim; omega
  have g7 : (List.take (k.toNat - 0) (List.drop 0 ne)).length + (List.take (List.length ne - (k + 1).toNat) (List.drop (k + 1).toNat ne)).length ≤ lim := by simp only [List.length_take, List.length_drop]; unfold lim; omega
  have g7' : (List.append (List.take (k.toNat - 0) (List.drop 0 ne)) (List.take (List.length ne - (k + 1).toNat) (List.drop (k + 1).toNat ne))).length ≤ 60 := by
   show List.length (_ ++ _ : List Zz) ≤ 60;simp only [List.length_append, List.length_take, List.length_drop]; omega
  simp only [e, Bool.not_true, cond_false, w, if_pos hk.1, if_pos (show k < (↑(List.length ne) : Int) by omega), if_pos (show k ≤ (↑(List.length ne) : Int) by omega), if_pos (show 0 ≤ k + 1 by omega), if_pos (show k + 1 ≤ (↑(List.length ne) : Int) by omega), if_pos g4, if_pos g7, XM];refine ZW (by omega) fun y hy => Za ⟨⟨h.n, h.tree, h.peers, h.peer, g7', h.said, h.pend, h.key, fun x hx => ?_, h.tv⟩, fun _ => h.lv y hy⟩;rcases List.mem_append.1 hx with hx | hx
  ·exact h.lv x (List.mem_of_mem_drop (List.mem_of_mem_take hx))
  ·exact h.lv x (List.mem_of_mem_drop (List.mem_of_mem_take hx))
 ·have e : (decide (0 ≤ k) && decide (k ≤ (↑(List.length ne) : Int) - 1)) = false := by
   rw [← Bool.not_eq_true];intro h;simp only [Bool.and_eq_true, decide_eq_true_eq] at h;exact hk h
  simp only [e, Bool.not_false, cond_true];exact Za ⟨h, fun h => by cases h⟩
theorem ZmF {B S : Nat} {V : Int} {x : Zp} (h : ClI B S V x) (l : List Zz) (hl : l.length ≤ 1000000) (hv : Lv V l) : Ok (VH big x l) fun r => ClI B S V r.2.1 := by
 have hn := h.net;rw [Zd2, ZI (by omega) (by omega)];refine Zk (fun _ => Za h) fun hc => ZA (by unfold lim; omega) (ZA (by unfold lim; omega) (Za ⟨h.n, h.tree, h.peers, h.peer, ?_, h.said, h.pend, h.key, h.lv.app hv, h.tv⟩));show (List.append x.2.2.2.2.2.1 l).length ≤ 60;show List.length (_ ++ _ : List Zz) ≤ 60;rw [List.length_append]; omega
theorem Zxi {B S : Nat} {V : Int} (hS : S ≤ 1000000000) {x : Zp} (h : ClI B S V x) (v : Z4) : Ok (HA big x v) fun r => ClI B (S + 1) V r.2.1 := by
 obtain ⟨n, ch, li, tr, ps, ne, sa, pe, ⟨⟩⟩ := x;obtain ⟨v0, v1, v2, v3, ⟨⟩⟩ := v;have hn : List.length sa ≤ S := h.said;rw [Zd5];dsimp only;refine up0 (L := List.length sa) (by omega) (f := fun m i => KO m i n ch li tr ps ne sa pe v0 v1 v2 v3) (fun m i h0 h1 nx => ?_) (fun m => ?_)
 ·rw [Dd, ZI (n := i + 1) (by omega) (by omega)]
  exact Zk (fun hi => ZA h0 (ZA hi (ZW (by omega) fun y hy => Yp (fun _ => Za (h.mono (Nat.le_refl _) (by omega))) fun _ => nx _ rfl))) (fun h => by omega)
 ·rw [Dd]
  refine Zk (fun h => by omega) fun _ => ?_;simp only [XM];refine ZA (by unfold lim; omega) (ZA (by simp only [List.length_singleton]; unfold lim; omega) (Za ⟨h.n, h.tree, h.peers, h.peer, h.net, ?_, h.pend, h.key, h.lv, h.tv⟩));show (List.append sa [(v0, v1, v2, v3, ())]).length ≤ S + 1;rw [Xr]; omega
theorem Zq3 {B S : Nat} {V : Int} (hS : S ≤ 900000000) (l : List Zz) (hl : l.length ≤ 7) (hv : Lv V l) : ∀ (m n : Nat) (i : Nat) (c : Zp), i ≤ l.length → l.length ≤ i + m → m < n → ClI B (S + i) V c →
  Ok (YJ n (i : Int) c.1 c.2.1 c.2.2.1 c.2.2.2.1 c.2.2.2.2.1 c.2.2.2.2.2.1 c.2.2.2.2.2.2.1 c.2.2.2.2.2.2.2.1 l) fun r => ClI B (S + 7) V r.2.1 := by
 intro m
 induction m with
 | zero =>
  intro n i c h1 h2 h3 h;obtain ⟨n, rfl⟩ : ∃ m, n = m + 1 := ⟨n - 1, by omega⟩
  rw [Az];exact Zk (fun h => by omega) fun _ => Za (h.mono (Nat.le_refl _) (by omega))
 | succ m ih =>
  intro n i c h1 h2 h3 h;obtain ⟨n, rfl⟩ : ∃ m, n = m + 1 := ⟨n - 1, by omega⟩
  rw [Az, ZI (n := (i : Int) + 1) (by omega) (by omega)];refine Zk (fun hi => ?_) fun _ => Za (h.mono (Nat.le_refl _) (by omega));have h0 : (0 : Int) ≤ (i : Int) := by omega
  have e1 : ((i : Int) + 1) = ((i + 1 : Nat) : Int) := by omega
  have ht : (List.take (((i : Int) + 1).toNat - (i : Int).toNat) (List.drop (i : Int).toNat l)).length ≤ 1000000 := by simp only [List.length_take, List.length_drop]; omega
  have go : ∀ c' : Zp, ClI B (S + (i + 1)) V c' → Ok (YJ n ((i : Int) + 1) c'.1 c'.2.1 c'.2.2.1 c'.2.2.2.1 c'.2.2.2.2.1 c'.2.2.2.2.2.1 c'.2.2.2.2.2.2.1 c'.2.2.2.2.2.2.2.1 l) fun r => ClI B (S + 7) V r.2.1 := fun c' hc => by
   rw [e1];exact ih n (i + 1) c' (by omega) (by omega) (by omega) hc
  refine ZA h0 (ZA hi (ZW (by omega) fun y _ => Zk (fun _ => ZA h0 (ZA hi (ZW (by omega) fun y _ => Zc (Zxi (by omega) h _) fun z hz => ?_))) fun _ => ?_))
  ·have hz' : ClI B (S + (i + 1)) V z.2.1 := hz.mono (Nat.le_refl _) (by omega)
   exact Zk (fun _ => ZA (by omega) (ZA (by omega) (ZA h0 (ZA (by omega) (Zc (ZmF hz' _ ht (hv.sub _ _)) fun w hw => go _ hw))))) fun _ => go _ hz'
  ·have h' : ClI B (S + (i + 1)) V c := h.mono (Nat.le_refl _) (by omega)
   exact Zk (fun _ => ZA (by omega) (ZA (by omega) (ZA h0 (ZA (by omega) (Zc (ZmF h' _ ht (hv.sub _ _)) fun w hw => go _ hw))))) fun _ => go _ h'
theorem Zv2 {B S : Nat} {V : Int} (hB : B ≤ 800000000) (hS : S ≤ 900000000) (hV : V + 1 ≤ 900) {x : Zp} (h : ClI B S V x) (k : Int) : Ok (Eo big x k) fun r => ClI (B + 60) (S + 7) (V + 1) r.2.1 := by
 rw [ZaK];refine Zc (Zxh h k) fun y hyl => ?_;obtain ⟨hy, hlv⟩ := hyl;obtain ⟨⟨l, b, ⟨⟩⟩, y, ⟨⟩⟩ := y;obtain ⟨n, ch, li, tr, ps, ne, sa, pe, ⟨⟩⟩ := y;have hn : n = 4 := hy.n;have hp : List.length ps = 4 := hy.peers;have hq := hy.peer;have ht := hy.tree;have stay := (hy.up (V' := V + 1) (by omega) hV).mono (B' := B + 60) (S' := S + 7) (by omega) (by omega);dsimp only at hy hq ht stay hlv ⊢;refine Ye (fun _ => Za stay) fun hb0 => Zc (Mu _ _ (by show List.length ps ≤ 1000; omega)) fun b hb => Ye (fun _ => Za stay) fun hb1 => ?_;have hi := hb hb1;have hl2 := hlv hb0;dsimp only at hi;have hu : ∀ y, (upd ps (Int.toNat l.2.2.1) y).length = List.length ps := fun y => ZU _ _ _;have fin : ∀ z z3 : Zo, Bj B V z → Bj (B + 60) (V + 1) z3 → ∀ l' : List Zz, l'.length ≤ 7 → Lv (V + 1) l' →
   Ok (YJ big 0 n ch li tr (upd (upd ps (Int.toNat l.2.2.1) z) (Int.toNat l.2.2.1) z3) ne sa pe l') fun r => ClI (B + 60) (S + 7) (V + 1) r.2.1 := fun z z3 hz hz3 l' hl' hlv' => by
  have hc : ClI (B + 60) (S + 0) (V + 1) (n, ch, li, tr, upd (upd ps (Int.toNat l.2.2.1) z) (Int.toNat l.2.2.1) z3, ne, sa, pe, ()) :=
   ⟨hn, ht, by show (upd (upd ps _ z) _ z3).length = 4; rw [ZU, ZU]; exact hp, JW hz3 (JW ((hz.up (by omega) hV).mono (by omega)) fun p hp => ((hq p hp).up (by omega) hV).mono (by omega)), hy.net, hy.said, hy.pend, hy.key, hy.lv.up (by omega), fun b hb => by have := hy.tv b hb; omega⟩
  have := Zq3 hS l' hl' hlv' 7 big 0 _ (by omega) (by omega) (by unfold big; omega) hc;exact this
 have mid : ∀ (z : Zo) (f : Zo → Option (Zo × List Zz × Unit)), Bj B V z → (∀ z, YQ B V z → Ok (f z) (Zjn (B + 60) (V + 1) z)) → Ok ((f z).bind fun y_3 => (DH ps (Int.toNat l.2.2.1) z).bind fun y_4 => if (0 : Int) ≤ l.2.2.1 then if l.2.2.1 < (↑(List.length y_4) : Int) then (nth y_4 (Int.toNat l.2.2.1)).bind fun y_5 => (DH y_4 (Int.toNat l.2.2.1) y_3.1).bind fun y_6 => YJ big (0 : Int) n ch li tr y_6 ne sa pe y_3.2.1 else none else none) fun r => ClI (B + 60) (S + 7) (V + 1) r.2.1 := fun z f hz hf => by
  refine Zc (hf z hz.1) fun y3 hy3 => GV (by omega) ?_;exact ZA hi.1 (ZA (by rw [hu]; exact hi.2) (ZW (by rw [hu]; omega) fun _ _ => GV (by rw [hu]; omega) (fin _ _ hz (hz.of hy3.1 hy3.2.1) _ hy3.2.2.1 hy3.2.2.2)))
 refine Yp (fun _ => ZA hi.1 (ZA hi.2 (ZW (by omega) fun y hy1 => ?_))) (fun _ => ZA hi.1 (ZA hi.2 (ZW (by omega) fun y hy1 => ?_)))
 ·exact mid y (fun p => KM big tr n p l) (hq y hy1) fun z hz => Zv1 hB ht hz hV n (by omega) l hl2
 ·exact mid y (fun p => CE big tr n p l) (hq y hy1) fun z hz => Zyp hB ht hz hV n (by omega) l hl2
theorem Zxj {B S : Nat} {V : Int} (hB : B ≤ 800000000) (hV : V + 1 ≤ 900) {x : Zp} (h0 : ClI B S V x) (k : Int) : Ok (HB big x k) fun r => ClI B S (V + 1) r.2.1 := by
 have h := h0.up (V' := V + 1) (by omega) hV;rw [Zd8];have hp : List.length x.2.2.2.2.1 = 4 := h.peers;refine Zc (Mu _ _ (by omega)) fun b hb => Ye (fun _ => Za h) fun hb1 => ?_;have hi := hb hb1;have hu : ∀ y, (upd x.2.2.2.2.1 k.toNat y).length = List.length x.2.2.2.2.1 := fun y => ZU _ _ _;refine ZA hi.1 (ZA hi.2 (ZW (by omega) fun y hy => Zc (Zq2 (by omega) (h0.peer y hy).1 hV _) fun z hz => GV (by omega) ?_));simp only [XM];have one : ∀ z, Bj B (V + 1) z → ClI B S (V + 1) (x.1, x.2.1, x.2.2.1, x.2.2.2.1, upd x.2.2.2.2.1 k.toNat z, x.2.2.2.2.2) := fun z hz =>
  ⟨h.n, h.tree, by show (upd _ _ _).length = 4; rw [hu]; exact hp, JW hz h.peer, h.net, h.said, h.pend, h.key, h.lv, h.tv⟩
 have two : ∀ z, Bj B (V + 1) z → ClI B S (V + 1) (x.1, x.2.1, x.2.2.1, x.2.2.2.1, upd (upd x.2.2.2.2.1 k.toNat y) k.toNat z, x.2.2.2.2.2) := fun z hz =>
  ⟨h.n, h.tree, by show (upd (upd _ _ _) _ _).length = 4; rw [ZU, hu]; exact hp, JW hz (JW (h.peer y hy) h.peer), h.net, h.said, h.pend, h.key, h.lv, h.tv⟩
 exact Ye (fun _ => Za (one y (h.peer y hy))) fun _ => ZA hi.1 (ZA (by rw [hu]; exact hi.2) (ZW (by rw [hu]; omega) fun _ _ => GV (by rw [hu]; omega) (Zc (ZmF (two z.1 ((h0.peer y hy).of hz.1 hz.2.1)) _ (by simp only [List.length_singleton]; omega) hz.2.2) fun w hw => Za hw)))
theorem Zv3 {B S : Nat} {V : Int} {x : Zp} (h : ClI B S V x) (k : Int) : Ok (OM big x k) fun r => ClI B S V r.2.1 := by
 obtain ⟨n, ch, li, tr, ps, ne, sa, pe, ⟨⟩⟩ := x;have hn : List.length ne ≤ 60 := h.net;show Ok (QW big _) _;unfold QW twF twL;dsimp only;have hW : IntKind.i64.wrap ((↑(List.length ne) : Int) - 1) = (↑(List.length ne) : Int) - 1 := ZI (by omega) (by omega);simp only [Mt, Option.bind_some, hW]
 by_cases hk : 0 ≤ k ∧ k ≤ (↑(List.length ne) : Int) - 1
 ·have e : (decide (0 ≤ k) && decide (k ≤ (↑(List.length ne) : Int) - 1)) = true := by simp only [hk.1, hk.2, decide_true, Bool.and_self]
  have w : IntKind.i64.wrap (k + 1) = k + 1 := ZI (by omega) (by omega);have hl : (List.take ((k + 1).toNat - k.toNat) (List.drop k.toNat ne)).length ≤ 60 := by simp only [List.length_take, List.length_drop]; omega
  simp only [e, Bool.not_true, cond_false, w];refine Zc (Q := fun r => List.length (r.2.getD ne) ≤ 60 ∧ Lv V (r.2.getD ne)) ?_ fun r hr => Za ⟨h.n, h.tree, h.peers, h.peer, hr.1, h.said, h.pend, h.key, hr.2, h.tv⟩;rw [ZI (n := (↑(List.length ne) : Int) + (↑(List.length (List.take ((k + 1).toNat - k.toNat) (List.drop k.toNat ne))) : Int)) (by omega) (by omega)];refine ZA (by omega) (ZA (by omega) (ZA hk.1 (ZA (by omega) (Zk (fun _ => Za ⟨hn, h.lv⟩) fun hc => ZA (by unfold lim; omega) (ZA (by unfold lim; omega) (Za ⟨?_, h.lv.app (h.lv.sub _ _)⟩))))));show (List.append ne _).length ≤ 60;show List.length (_ ++ _ : List Zz) ≤ 60;rw [List.length_append]; omega
 ·have e : (decide (0 ≤ k) && decide (k ≤ (↑(List.length ne) : Int) - 1)) = false := by
   rw [← Bool.not_eq_true];intro h;simp only [Bool.and_eq_true, decide_eq_true_eq] at h;exact hk h
  simp only [e, Bool.not_false, cond_true, Option.bind_some];exact Za h
def bL (l : List UInt8) : ByteArray := ByteArray.mk l.toArray
theorem E7 (l : List UInt8) : (bL l).size = l.length := by simp [bL, ByteArray.size]
theorem Zjo (s : ByteArray) : s.data.toList.length = s.size := by rw [Array.length_toList]; rfl
theorem Zxk (s : ByteArray) (b i : Nat) : s.extract b i = bL ((s.data.toList.drop b).take (i - b)) := by
 apply ByteArray.ext;apply Array.toList_inj.1;simp [bL, ByteArray.data_extract, List.extract_eq_take_drop]
theorem Zv4 (s : ByteArray) : bL s.data.toList = s := by
 apply ByteArray.ext;simp [bL]
def enc (n : Nat) : List UInt8 := if n ≤ 127 then [UInt8.ofNat n] else UInt8.ofNat (n % 128 + 128) :: enc (n / 128)
termination_by n
decreasing_by omega
theorem ZgN {n : Nat} (h : n ≤ 127) : enc n = [UInt8.ofNat n] := by rw [enc, if_pos h]
theorem ZmG {n : Nat} (h : ¬ n ≤ 127) : enc n = UInt8.ofNat (n % 128 + 128) :: enc (n / 128) := by rw [enc, if_neg h]
theorem Zos : ∀ (k n : Nat), n < 128 ^ (k + 1) → (enc n).length ≤ k + 1
 | 0, n, h => by rw [ZgN (by omega)]; exact Nat.le_refl _
 | k + 1, n, h => by
  by_cases h1 : n ≤ 127
  ·rw [ZgN h1]; show 1 ≤ _; omega
  ·rw [ZmG h1, List.length_cons]
   have := Zos k (n / 128) (by rw [Nat.pow_succ] at h; omega);omega
theorem Zs1 (n : Nat) : 1 ≤ (enc n).length := by
 by_cases h1 : n ≤ 127
 ·rw [ZgN h1]; exact Nat.le_refl _
 ·rw [ZmG h1, List.length_cons]; omega
abbrev fB (n : Int) : UInt8 := UInt8.ofNat n.toNat
theorem w8 {m : Nat} (h : m < 256) : IntKind.u8.wrap (m : Int) = (m : Int) := by rw [IntKind.wrap_u8]; omega
theorem Zxl (l : List Int) (x : Int) : ByteArray.mk (List.map (fun n => UInt8.ofNat n.toNat) (List.append l [x])).toArray = bL (l.map fB ++ [fB x]) := by
 show bL (List.map fB (l ++ [x])) = _;rw [List.map_append]; rfl
theorem Zjp : ∀ (k n m : Nat) (l : List Int), m < 128 ^ (k + 1) → m < 9223372036854775808 → k < n → l.length + k ≤ 1000 → AB n (m : Int) l = some (bL (l.map fB ++ enc m))
 | k, 0, m, l, _, _, h, _ => by omega
 | k, n + 1, m, l, h1, h2, h3, h4 => by
  rw [JI]
  by_cases h0 : m ≤ 127
  ·rw [decide_eq_false (by omega), cond_false, if_pos (by simp only [List.length_singleton]; unfold lim; omega), Zxl, ZgN h0, w8 (by omega)]
   rfl
  ·have e1 : ((m : Int)).tmod 128 = ((m % 128 : Nat) : Int) := (Int.ofNat_tmod m 128).symm
   have e2 : ((m : Int)).tdiv 128 = ((m / 128 : Nat) : Int) := (Int.ofNat_tdiv m 128).symm;rw [decide_eq_true (by omega), cond_true, if_pos (by simp only [List.length_singleton]; unfold lim; omega), e1, e2, ZI (n := ((m / 128 : Nat) : Int)) (by omega) (by omega), ZI (n := ((m % 128 : Nat) : Int) + 128) (by omega) (by omega)];cases k with
   | zero => omega
   | succ k =>
    have e3 : IntKind.u8.wrap (((m % 128 : Nat) : Int) + 128) = ((m % 128 + 128 : Nat) : Int) := by
     have : ((m % 128 : Nat) : Int) + 128 = ((m % 128 + 128 : Nat) : Int) := by omega
     rw [this, w8 (by omega)]
    rw [Zjp k n (m / 128) _ (by rw [Nat.pow_succ] at h1; omega) (by omega) (by omega) (by show (l ++ _).length + k ≤ 1000; rw [List.length_append, List.length_singleton]; omega), e3, ZmG h0];show some (bL (List.map fB (l ++ _) ++ _)) = _;rw [List.map_append, List.append_assoc];rfl
theorem Zv5 (n : Int) : Ok (BI big n) fun t => 1 ≤ t.size ∧ t.size ≤ 12 ∧ (0 ≤ n → n < 9223372036854775808 → t = bL (enc n.toNat)) := by
 rw [Zis]
 by_cases hn : 0 ≤ n ∧ n < 9223372036854775808
 ·obtain ⟨m, rfl⟩ : ∃ m : Nat, n = m := ⟨n.toNat, by omega⟩
  rw [Zjp 8 big m [] (by omega) (by omega) (by unfold big; omega) (by decide)];refine Za ⟨?_, ?_, fun _ _ => by rw [Int.toNat_natCast]; rfl⟩
  ·rw [E7, List.map_nil, List.nil_append]; exact Zs1 m
  ·rw [E7, List.map_nil, List.nil_append]
   have := Zos 8 m (by omega);omega
 ·obtain ⟨b, hb⟩ : ∃ b, big = b + 1 := ⟨big - 1, by decide⟩
  obtain ⟨c, hc⟩ : ∃ c, b = c + 1 := ⟨big - 2, by rw [show big = big - 2 + 2 by decide] at hb; omega⟩
  have h10 : 10 < big := by decide
  have hc8 : 8 < c + 1 := by omega
  rw [hb, JI];refine Zk (fun h1 => ZA (by simp only [List.length_nil, List.length_singleton]; unfold lim; omega) ?_) fun h1 => ZA (by simp only [List.length_nil, List.length_singleton]; unfold lim; omega) (Za ⟨?_, ?_, fun h2 h3 => absurd ⟨h2, h3⟩ hn⟩)
  ·generalize IntKind.u8.wrap (IntKind.i64.wrap (n.tmod 128 + 128)) = x
   have hw := IntKind.wrap_i64 (n.tdiv 128);have hr : -9223372036854775808 ≤ IntKind.i64.wrap (n.tdiv 128) ∧ IntKind.i64.wrap (n.tdiv 128) < 9223372036854775808 := by
    rw [hw]; omega
   revert hr;generalize IntKind.i64.wrap (n.tdiv 128) = w;intro hr
   by_cases hw0 : 0 ≤ w
   ·obtain ⟨m, rfl⟩ : ∃ m : Nat, w = m := ⟨w.toNat, by omega⟩
    rw [hc, Zjp 8 (c + 1) m _ (by omega) (by omega) hc8 (by simp only [List.append_eq, List.nil_append, List.length_singleton]; omega)];have := Zos 8 m (by omega);have := Zs1 m;have e : (List.map fB (List.append [] [x])).length = 1 := by rw [List.length_map]; rfl
    exact Za ⟨by rw [E7, List.length_append, e]; omega, by rw [E7, List.length_append, e]; omega, fun h2 h3 => absurd ⟨h2, h3⟩ hn⟩
   ·rw [hc, JI]
    refine Zk (fun h => by omega) fun _ => ZA (by simp only [List.append_eq, List.nil_append, List.length_singleton]; unfold lim; omega) (Za ⟨?_, ?_, fun h2 h3 => absurd ⟨h2, h3⟩ hn⟩)
    ·rw [Zxl, E7]; simp only [List.append_eq, List.nil_append, List.map_cons, List.map_nil, List.length_append, List.length_singleton]; omega
    ·rw [Zxl, E7]; simp only [List.append_eq, List.nil_append, List.map_cons, List.map_nil, List.length_append, List.length_singleton]; omega
  ·rw [Zxl, E7]; simp only [List.map_nil, List.nil_append, List.length_singleton]; omega
  ·rw [Zxl, E7]; simp only [List.map_nil, List.nil_append, List.length_singleton]; omega
theorem Zcz (n : Int) : Ok (XE big n) fun t => 1 ≤ t.size ∧ t.size ≤ 12 ∧ (0 ≤ n → n < 9223372036854775808 → t = bL (enc n.toNat)) := by
 rw [Ziu];exact Zk (fun h => Za ⟨by decide, by decide, fun h1 => by omega⟩) fun _ => Zc (Zv5 n) fun t ht => Za ht
theorem Zpz (q : B6) : Ok (FF big q) fun t => t.size ≤ 48 := by
 rw [Zix];exact Zc (Zcz _) fun a ha => Zc (Zcz _) fun b hb => ZA (by unfold lim; omega) (Zc (Zcz _) fun c hc => ZA (by simp only [ByteArray.size_append]; unfold lim; omega) (Zc (Zcz _) fun d hd => ZA (by simp only [ByteArray.size_append]; unfold lim; omega) (Za (by simp only [ByteArray.size_append]; omega))))
theorem Zq4 (q : Z4) : Ok (Ep big q) fun t => t.size ≤ 48 := by
 rw [ZaT];exact Zc (Zcz _) fun a ha => Zc (Zcz _) fun b hb => ZA (by unfold lim; omega) (Zc (Zcz _) fun c hc => ZA (by simp only [ByteArray.size_append]; unfold lim; omega) (Zc (Zcz _) fun d hd => ZA (by simp only [ByteArray.size_append]; unfold lim; omega) (Za (by simp only [ByteArray.size_append]; omega))))
theorem Zs2 (s : ByteArray) (i : Int) {P : Int → Prop} : ∀ (m n : Nat) (k a : Int), 0 ≤ k → k ≤ 8 → (8 : Int) ≤ k + m → m < n → (∀ n' a', n ≤ n' + m + 1 → Ok (UE n' a' s (IntKind.i64.wrap (i + 1))) P) → Ok (UF n a s i k) P
 | m, 0, k, a, _, _, _, h, _ => by omega
 | 0, n + 1, k, a, h0, h1, h2, h3, go => by
  rw [Df];exact Zk (fun h => by omega) fun _ => go n _ (by omega)
 | m + 1, n + 1, k, a, h0, h1, h2, h3, go => by
  rw [Df, ZI (n := k + 1) (by omega) (by omega)];refine Zk (fun h => ?_) fun _ => go n _ (by omega);exact Zk (fun _ => Zs2 s i m n (k + 1) _ (by omega) (by omega) (by omega) (by omega) fun n' a' h => go n' a' (by omega)) (fun _ => Zs2 s i m n (k + 1) _ (by omega) (by omega) (by omega) (by omega) fun n' a' h => go n' a' (by omega))
theorem ZpA (s : ByteArray) (hs : s.size ≤ 1000000) : ∀ (m n : Nat) (i a : Int), 0 ≤ i → i ≤ s.size → (s.size : Int) ≤ i + m → m * 10 < n → Ok (UE n a s i) fun _ => True
 | m, 0, i, a, _, _, _, h => by omega
 | 0, n + 1, i, a, h0, h1, h2, h3 => by
  rw [De];exact Zk (fun h => by omega) fun _ => Za trivial
 | m + 1, n + 1, i, a, h0, h1, h2, h3 => by
  have hl := Zjo s;rw [De];refine Zk (fun h => ZA h0 (ZW (by omega) fun y _ => ?_)) fun _ => Za trivial;refine Zs2 s i 8 n 0 _ (by omega) (by omega) (by omega) (by omega) fun n' a' hn => ?_;rw [ZI (n := i + 1) (by omega) (by omega)];exact ZpA s hs m n' (i + 1) a' (by omega) (by omega) (by omega) (by omega)
theorem Zs3 (s : ByteArray) (hs : s.size ≤ 1000000) : Ok (Lm big s) fun _ => True := by
 rw [ZlA, Zeb];exact Zc (ZpA s hs s.size big 0 _ (by omega) (by omega) (by omega) (by unfold big; omega)) fun _ _ => Za trivial
theorem Zs4 (s f : ByteArray) : (s ++ f).extract 0 s.size = s := by
 rw [Zxk, List.drop_zero, Nat.sub_zero, ByteArray.data_append, Array.toList_append, List.take_left' (Zjo s), Zv4]
theorem ZpB (s : ByteArray) : Ok (M9 big s) fun r => r.1.size ≤ 20004 ∧ (4 ≤ r.1.size → r.1.extract 0 (r.1.size - 4) = s) := by
 rw [ZiD];refine Zk (fun _ => Za ⟨by decide, fun h => absurd h (by decide)⟩) fun hs => Zc (Zs3 s (by omega)) fun y _ => ?_;generalize hf : ByteArray.mk (List.map (fun n => UInt8.ofNat n.toNat) [IntKind.u8.wrap (Int.fdiv y ((2 : Int) ^ min (Int.toNat (24 : Int)) IntKind.u32.bits)), IntKind.u8.wrap (Int.fdiv y ((2 : Int) ^ min (Int.toNat (16 : Int)) IntKind.u32.bits)), IntKind.u8.wrap (Int.fdiv y ((2 : Int) ^ min (Int.toNat (8 : Int)) IntKind.u32.bits)), IntKind.u8.wrap y]).toArray = f;have h4 : f.size = 4 := by rw [← hf]; rfl
 refine ZA (by unfold lim; omega) (Za ⟨by simp only [ByteArray.size_append]; omega, fun _ => ?_⟩);show (s ++ f).extract 0 ((s ++ f).size - 4) = s;rw [ByteArray.size_append, h4, Nat.add_sub_cancel];exact Zs4 s f
theorem Zq5 (s : ByteArray) (hs : s.size ≤ 1000000) : Ok (Es big s) fun r => r.1.size ≤ 20000 ∧ (r.2.1 = true → 4 ≤ s.size ∧ r.1 = s.extract 0 (s.size - 4)) := by
 rw [Za1, ZI (n := (s.size : Int) - 4) (by omega) (by omega)];have no : (ByteArray.mk #[]).size ≤ 20000 ∧ (false = true → 4 ≤ s.size ∧ ByteArray.mk #[] = s.extract 0 (s.size - 4)) := ⟨by decide, fun h => by cases h⟩
 refine Zk (fun _ => Za no) fun h1 => Zk (fun _ => Za no) fun h2 => ZA (by omega) (ZA (by omega) (ZA (by omega) (ZA (by omega) ?_)));have e : ((s.size : Int) - 4).toNat = s.size - 4 := by omega
 rw [e];refine Zc (Zs3 _ (by rw [ByteArray.size_extract]; omega)) fun y _ => YO (fun _ => Za no) fun _ => ZA (by omega) (ZA (by omega) (Za ⟨?_, fun _ => ⟨by omega, rfl⟩⟩));show (s.extract 0 (s.size - 4)).size ≤ 20000;rw [ByteArray.size_extract]; omega
theorem Zs5 (b0 : Int) (b1 : Int) (b2 : Int) (b3 : Int) (b4 : Int) (b5 : Int) (b6 : Int) (b7 : Int) (b8 : Int) (b9 : Int) (b10 : Int) (b11 : Int) (b12 : Int) (b13 : Int) (b14 : List Int) (b15 : List ZM) (b16 : List Int) (b17 : List Yg) (b18 : List Z4) (b19 : List Zz) (b20 : Int) (hr : b14.length ≤ 100000000) : ∀ (m n : Nat) (i : Int) (s : ByteArray), 0 ≤ i → i ≤ b14.length → (b14.length : Int) ≤ i + m → m < n → s.size ≤ 1000 + 12 * i.toNat →
  Ok (QE n s i b0 b1 b2 b3 b4 b5 b6 b7 b8 b9 b10 b11 b12 b13 b14 b15 b16 b17 b18 b19 b20) fun t => t.size ≤ 20004 ∧ (4 ≤ t.size → ∃ e, t.extract 0 (t.size - 4) = s ++ e) := by
 intro m
 induction m with
 | zero =>
  intro n i s h0 h1 h2 h3 h4;obtain ⟨n, rfl⟩ : ∃ m, n = m + 1 := ⟨n - 1, by omega⟩
  rw [BJ];exact Zk (fun h => by omega) fun _ => Zc (ZpB s) fun y hy => Za ⟨hy.1, fun h => ⟨bL [], by rw [hy.2 h]; exact (ByteArray.append_empty).symm⟩⟩
 | succ m ih =>
  intro n i s h0 h1 h2 h3 h4;obtain ⟨n, rfl⟩ : ∃ m, n = m + 1 := ⟨n - 1, by omega⟩
  rw [BJ, ZI (n := i + 1) (by omega) (by omega)];refine Zk (fun h => ZA h0 (ZW (by omega) fun y _ => Zc (Zcz y) fun z hz => ZA (by unfold lim; omega) ?_)) fun _ => Zc (ZpB s) fun y hy => Za ⟨hy.1, fun h => ⟨bL [], by rw [hy.2 h]; exact (ByteArray.append_empty).symm⟩⟩;refine VN (ih n (i + 1) (s ++ z) (by omega) (by omega) (by omega) (by omega) (by rw [ByteArray.size_append]; omega)) fun t ht => ⟨ht.1, fun h => ?_⟩
  obtain ⟨e, he⟩ := ht.2 h;exact ⟨z ++ e, by rw [he, ByteArray.append_assoc]⟩
theorem ZgO (p : Zo) (hr : List.length p.2.2.2.2.2.1 ≤ 100000000) : Ok (QX big p) fun t => t.size ≤ 20004 ∧
  (4 ≤ t.size → (0 ≤ p.1 ∧ p.1 ≤ 1000) → (0 ≤ p.2.1 ∧ p.2.1 ≤ 1000) → ∃ e, t.extract 0 (t.size - 4) = bL (enc p.1.toNat) ++ bL (enc p.2.1.toNat) ++ e) := by
 rw [Za3];refine Zc (Zcz _) fun a ha => Zc (Zcz _) fun b hb => ZA (by unfold lim; omega) (Zc (Zpz _) fun c hc => ZA (by simp only [ByteArray.size_append]; unfold lim; omega) (Zc (Zpz _) fun d hd => ZA (by simp only [ByteArray.size_append]; unfold lim; omega)
  (Zc (Zq4 _) fun f hf => ZA (by simp only [ByteArray.size_append]; unfold lim; omega) (Zc (Zv5 _) fun g hg => ZA (by simp only [ByteArray.size_append]; unfold lim; omega) ?_))))
 refine VN (Zs5 _ _ _ _ _ _ _ _ _ _ _ _ _ _ _ _ _ _ _ _ _ hr (List.length p.2.2.2.2.2.1) big 0 _ (by omega) (by omega) (by omega) (by unfold big; omega) (by simp only [ByteArray.size_append]; omega)) fun t ht => ⟨ht.1, fun h h1 h2 => ?_⟩
 obtain ⟨e, he⟩ := ht.2 h;refine ⟨c ++ d ++ f ++ g ++ e, ?_⟩;rw [he, ha.2.2 h1.1 (by omega), hb.2.2 h2.1 (by omega)];simp only [ByteArray.append_assoc]
end Go.Sx.Tryz
