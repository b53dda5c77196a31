/- That a run goes through: a calculus; and the draws. -/
import Derived.Test.YtocddfdkknhgcaaGreatM8
import Derived.Test.YtocddfdkknhgcaaGreatTypes
import Derived.Test.YtocddfdkknhgcaaGreatVotesOnceF1
import Derived.Test.YtocddfdkknhgcaaGreatVotesOnceF2
set_option linter.unusedVariables false
set_option linter.unusedSimpArgs false
set_option maxRecDepth 100000
namespace Go.Sx.Tryz
open Go Go.Sx Go.Proofs
def Ok {α : Type} (x : Option α) (P : α → Prop) : Prop := ∃ r, x = some r ∧ P r
theorem ok_some {α : Type} {P : α → Prop} {r : α} (h : P r) : Ok (some r) P := ⟨r, rfl, h⟩
theorem ok_bind {α β : Type} {x : Option α} {f : α → Option β} {Q : α → Prop} {P : β → Prop} (h : Ok x Q) (k : ∀ r, Q r → Ok (f r) P) : Ok (x.bind f) P := by
 obtain ⟨r, rfl, hq⟩ := h
 exact k r hq
theorem ok_if {α : Type} {c : Prop} [Decidable c] {x : Option α} {P : α → Prop} (hc : c) (h : Ok x P) : Ok (if c then x else none) P := by rw [if_pos hc]; exact h
theorem ok_ifn {α : Type} {c : Prop} [Decidable c] {x : Option α} {P : α → Prop} (hc : ¬ c) (h : Ok x P) : Ok (if c then none else x) P := by rw [if_neg hc]; exact h
theorem ok_cond {α : Type} {b : Bool} {x y : Option α} {P : α → Prop} (h1 : b = true → Ok x P) (h0 : b = false → Ok y P) : Ok (bif b then x else y) P := by
 cases b with
 | true => exact h1 rfl
 | false => exact h0 rfl
theorem ok_dec {α : Type} {p : Prop} [Decidable p] {x y : Option α} {P : α → Prop} (h1 : p → Ok x P) (h0 : ¬ p → Ok y P) : Ok (bif decide p then x else y) P :=
 ok_cond (fun h => h1 (of_decide_eq_true h)) (fun h => h0 (of_decide_eq_false h))
theorem ok_ndec {α : Type} {p : Prop} [Decidable p] {x y : Option α} {P : α → Prop} (h1 : ¬ p → Ok x P) (h0 : p → Ok y P) : Ok (bif !decide p then x else y) P :=
 ok_cond (fun h => h1 (of_decide_eq_false (by simpa using h))) (fun h => h0 (of_decide_eq_true (by simpa using h)))
theorem ok_not {α : Type} {b : Bool} {x y : Option α} {P : α → Prop} (h1 : b = false → Ok x P) (h0 : b = true → Ok y P) : Ok (bif !b then x else y) P := by
 cases b with
 | true => exact h0 rfl
 | false => exact h1 rfl
theorem ok_nth {α β : Type} {l : List α} {i : Nat} {f : α → Option β} {P : β → Prop} (hi : i < l.length) (k : ∀ y, y ∈ l → Ok (f y) P) : Ok ((nth l i).bind f) P := by
 rw [nth_at hi]
 exact k _ (List.getElem_mem hi)
theorem ok_upd {α β : Type} {l : List α} {i : Nat} {y : α} {f : List α → Option β} {P : β → Prop} (hi : i < l.length) (k : Ok (f (upd l i y)) P) : Ok ((updO l i y).bind f) P := by
 rw [updO_at hi]
 exact k
theorem ok_mono {α : Type} {x : Option α} {P Q : α → Prop} (h : Ok x P) (k : ∀ r, P r → Q r) : Ok x Q := by
 obtain ⟨r, e, h⟩ := h; exact ⟨r, e, k r h⟩
/-! ### The draws -/
structure CurI (c : DSl01Cur) : Prop where
 lo : 0 ≤ c.2.1
 hi : c.2.1 ≤ (List.length c.1 : Int)
 len : List.length c.1 ≤ 1099511627776
theorem and255 (z : Int) : 0 ≤ IntKind.i64.wrap ((BitVec.ofInt IntKind.i64.bits z &&& BitVec.ofInt IntKind.i64.bits 255).toNat : Int) ∧ IntKind.i64.wrap ((BitVec.ofInt IntKind.i64.bits z &&& BitVec.ofInt IntKind.i64.bits 255).toNat : Int) ≤ 255 := by
 have h : (BitVec.ofInt IntKind.i64.bits z &&& BitVec.ofInt IntKind.i64.bits 255).toNat ≤ 255 := by
  rw [BitVec.toNat_and]
  exact Nat.le_trans Nat.and_le_right (by decide)
 rw [wrap64 (by omega) (by omega)]
 omega
theorem o_Byte {c : DSl01Cur} (h : CurI c) : Ok (Q_s_l01Byte big c) fun r => 0 ≤ r.1 ∧ r.1 ≤ 255 ∧ CurI r.2.1 := by
 rw [Q_s_l01Byte_eq]
 have hlo := h.lo; have hhi := h.hi; have hlen := h.len
 refine ok_dec (fun hc => ?_) (fun hc => ?_)
 ·refine ok_if hlo (ok_nth (by omega) fun y _ => ok_some ?_)
  refine ⟨(and255 _).1, (and255 _).2, ?_, ?_, hlen⟩
  ·show 0 ≤ IntKind.i64.wrap (c.2.1 + 1)
   rw [wrap64 (by omega) (by omega)]; omega
  ·show IntKind.i64.wrap (c.2.1 + 1) ≤ (List.length c.1 : Int)
   rw [wrap64 (by omega) (by omega)]; omega
 ·exact ok_some ⟨(and255 _).1, (and255 _).2, hlo, hhi, hlen⟩
theorem tmod_in {a n : Int} (ha : 0 ≤ a) (hn : 0 < n) : 0 ≤ Int.tmod a n ∧ Int.tmod a n < n := ⟨Int.tmod_nonneg _ ha, Int.tmod_lt_of_pos _ hn⟩
theorem o_Below {c : DSl01Cur} (h : CurI c) (n : Int) : Ok (Q_s_l01Below big c n) fun r => 0 ≤ r.1 ∧ (0 < n → r.1 < n) ∧ (n ≤ 0 → r.1 = 0) ∧ CurI r.2.1 := by
 rw [Q_s_l01Below_eq]
 refine ok_dec (fun hc => ok_some ⟨Int.le_refl _, fun h2 => by omega, fun _ => rfl, h⟩) (fun hc => ?_)
 refine ok_dec (fun hc2 => ?_) (fun hc2 => ?_)
 ·refine ok_bind (o_Byte h) fun y hy => ?_
  refine ok_ifn (by omega) (ok_some ?_)
  have := tmod_in hy.1 (show 0 < n by omega)
  exact ⟨this.1, fun _ => this.2, fun h2 => by omega, hy.2.2⟩
 ·refine ok_bind (o_Byte h) fun y hy => ok_bind (o_Byte hy.2.2) fun y1 hy1 => ok_bind (o_Byte hy1.2.2) fun y2 hy2 => ok_bind (o_Byte hy2.2.2) fun y3 hy3 => ?_
  refine ok_ifn (by omega) (ok_some ?_)
  obtain ⟨a1, a2, _⟩ := hy; obtain ⟨b1, b2, _⟩ := hy1; obtain ⟨c1, c2, _⟩ := hy2; obtain ⟨d1, d2, hd⟩ := hy3
  have e : 0 ≤ IntKind.i64.wrap (IntKind.i64.wrap (IntKind.i64.wrap (IntKind.i64.wrap (y.1 * 16777216) + IntKind.i64.wrap (y1.1 * 65536)) + IntKind.i64.wrap (y2.1 * 256)) + y3.1) := by
   rw [wrap64 (n := y.1 * 16777216) (by omega) (by omega), wrap64 (n := y1.1 * 65536) (by omega) (by omega), wrap64 (n := y2.1 * 256) (by omega) (by omega),
    wrap64 (n := y.1 * 16777216 + y1.1 * 65536) (by omega) (by omega), wrap64 (n := y.1 * 16777216 + y1.1 * 65536 + y2.1 * 256) (by omega) (by omega), wrap64 (by omega) (by omega)]
   omega
  have := tmod_in e (show 0 < n by omega)
  exact ⟨this.1, fun _ => this.2, fun h2 => by omega, hd⟩
theorem o_Once {c : DSl01Cur} (h : CurI c) (n : Int) : Ok (Q_s_l01Once big c n) fun r => CurI r.2.1 := by
 rw [Q_s_l01Once_eq]
 exact ok_bind (o_Below h n) fun y hy => ok_some hy.2.2.2
theorem o_PickInt {c : DSl01Cur} (h : CurI c) (l : List Int) (hl : 0 < l.length) : Ok (Q_s_l01PickInt big c l) fun r => r.1 ∈ l ∧ CurI r.2.1 := by
 rw [Q_s_l01PickInt_eq]
 refine ok_bind (o_Below h _) fun y hy => ok_if hy.1 ?_
 have := hy.2.1 (by omega)
 exact ok_nth (by omega) fun z hz => ok_some ⟨hz, hy.2.2.2⟩
theorem o_Pick {c : DSl01Cur} (h : CurI c) (l : List ByteArray) (hl : 0 < l.length) : Ok (Q_s_l01Pick big c l) fun r => r.1 ∈ l ∧ CurI r.2.1 := by
 rw [Q_s_l01Pick_eq]
 refine ok_bind (o_Below h _) fun y hy => ok_if hy.1 ?_
 have := hy.2.1 (by omega)
 exact ok_nth (by omega) fun z hz => ok_some ⟨hz, hy.2.2.2⟩
theorem new_loop (code : List Int) (hl : code.length ≤ 1099511627776) : ∀ (k n : Nat) (a i : Int), 0 ≤ i → (code.length : Int) ≤ i + k → k < n → i ≤ code.length → Ok (R_s_l01New_3 n code a i) fun c => c = (code, 0, c.2.2.1, ())
 | k, 0, a, i, _, _, h, _ => by omega
 | k, n + 1, a, i, h0, h1, h2, h3 => by
  rw [R_s_l01New_3_eq]
  refine ok_dec (fun hc => ?_) (fun _ => ok_some rfl)
  refine ok_dec (fun _ => ?_) (fun _ => ok_some rfl)
  refine ok_if h0 (ok_nth (by omega) fun y _ => ?_)
  rw [wrap64 (n := i + 1) (by omega) (by omega)]
  cases k with
  | zero => omega
  | succ k => exact new_loop code hl k n _ _ (by omega) (by omega) (by omega) (by omega)
theorem o_New (code : List Int) (hl : code.length ≤ 1099511627776) : Ok (Q_s_l01New big code) fun c => CurI c := by
 rw [Q_s_l01New_eq]
 refine ok_mono (new_loop code hl code.length big _ 0 (by omega) (by omega) (by unfold big; omega) (by omega)) fun c hc => ?_
 rw [hc]
 exact ⟨Int.le_refl _, by show (0 : Int) ≤ _; omega, hl⟩
theorem e_In (a lo hi : Int) : Q_s_l01In big a lo hi = some (decide (lo ≤ a) && decide (a ≤ hi)) := by
 rw [Q_s_l01In_eq]
 cases decide (lo ≤ a) <;> rfl
end Go.Sx.Tryz
set_option maxRecDepth 100000
namespace Go.Sx.Tryz
open Go Go.Sx Go.Proofs
theorem u64_nn (x : Int) : ¬ IntKind.u64.wrap x < 0 := by
 unfold IntKind.wrap
 simp only [IntKind.bits, IntKind.signed]
 have : (0 : Int) < 2 ^ 64 := by decide
 have := Int.emod_nonneg x (show (2 : Int) ^ 64 ≠ 0 by decide)
 simp
 omega
theorem o_CountOf (s : Int) : Ok (Q_s_CountOf big s) fun _ => True := by
 rw [Q_s_CountOf_eq]
 have loop : ∀ (k n : Nat) (a i : Int), 0 ≤ i → i ≤ 7 → 7 ≤ i + k → k < n → Ok (R_s_CountOf_3 n s a i) fun _ => True := by
  intro k
  induction k with
  | zero =>
   intro n a i h0 h1 h2 h3
   obtain ⟨n, rfl⟩ : ∃ m, n = m + 1 := ⟨n - 1, by omega⟩
   rw [R_s_CountOf_3_eq]
   exact ok_dec (fun hc => by omega) (fun _ => ok_some trivial)
  | succ k ih =>
   intro n a i h0 h1 h2 h3
   obtain ⟨n, rfl⟩ : ∃ m, n = m + 1 := ⟨n - 1, by omega⟩
   rw [R_s_CountOf_3_eq]
   refine ok_dec (fun hc => ok_dec (fun _ => ok_ifn (u64_nn _) ?_) (fun _ => ok_some trivial)) (fun _ => ok_some trivial)
   rw [wrap64 (n := i + 1) (by omega) (by omega)]
   exact ih n _ _ (by omega) (by omega) (by omega) (by omega)
 exact loop 7 big 0 0 (by omega) (by omega) (by omega) (by unfold big; omega)
theorem o_Faults (n : Int) : Ok (Q_s_Faults big n) fun _ => True := by
 rw [Q_s_Faults_eq]
 exact ok_dec (fun _ => ok_some trivial) (fun _ => ok_some trivial)
theorem o_Quorum (n : Int) : Ok (Q_s_Quorum big n) fun _ => True := by
 rw [Q_s_Quorum_eq]
 exact ok_bind (o_Faults n) fun _ _ => ok_some trivial
theorem o_LeaderOf (v n : Int) : Ok (Q_s_LeaderOf big v n) fun _ => True := by
 rw [Q_s_LeaderOf_eq]
 exact ok_dec (fun _ => ok_some trivial) fun h => ok_dec (fun _ => ok_some trivial) fun _ => ok_ifn (by omega) (ok_some trivial)
theorem o_Lies (x : DICluster) (i : Int) : Ok (Q_s_Lies big x i) fun _ => True := by
 rw [Q_s_Lies_eq]
 refine ok_dec (fun _ => ?_) (fun _ => ok_some trivial)
 rw [e_In]
 refine ok_bind (ok_some (P := fun _ => True) trivial) fun y _ => ok_cond (fun _ => ok_dec (fun _ => ok_ifn (u64_nn _) (ok_some trivial)) (fun _ => ok_some trivial)) (fun _ => ok_some trivial)
theorem o_Honest (x : DICluster) (i : Int) (hl : List.length x.2.2.2.2.1 ≤ 1000) : Ok (Q_s_l15Honest big x i) fun b => b = true → 0 ≤ i ∧ i < (List.length x.2.2.2.2.1 : Int) := by
 rw [Q_s_l15Honest_eq, e_In]
 rw [wrap64 (n := (List.length x.2.2.2.2.1 : Int) - 1) (by omega) (by omega)]
 simp only [Option.bind_some]
 refine ok_cond (fun h => ?_) (fun _ => ok_some fun h => by cases h)
 simp only [Bool.and_eq_true, decide_eq_true_eq] at h
 rw [e_In]
 simp only [Option.bind_some]
 exact ok_cond (fun _ => ok_bind (o_Lies x i) fun _ _ => ok_some fun _ => ⟨h.1, by omega⟩) (fun _ => ok_some fun h => by cases h)
theorem o_Higher (a b : DIQc) : Ok (Q_s_HigherQc big a b) fun r => r = a ∨ r = b := by
 rw [Q_s_HigherQc_eq]
 exact ok_dec (fun _ => ok_some (.inr rfl)) (fun _ => ok_some (.inl rfl))
theorem o_May (p : DIPeer) (a b : Int) : Ok (Q_s_MayVote big p a b) fun _ => True := by
 rw [Q_s_MayVote_eq]
 exact ok_dec (fun _ => ok_some trivial) fun _ => ok_dec (fun _ => ok_some trivial) (fun _ => ok_some trivial)
/-! ### A loop with a counter that goes up -/
theorem up_loop {α : Type} {P : α → Prop} {L : Nat} (hL : L ≤ 4294967296) {I : Int → Prop} {f : Nat → Int → Option α}
  (step : ∀ (n : Nat) (i : Int), 0 ≤ i → i < L → I i → (∀ i', i' = i + 1 → I i' → Ok (f n i') P) → Ok (f (n + 1) i) P)
  (done : ∀ n : Nat, I L → Ok (f (n + 1) L) P) : ∀ (k n : Nat) (i : Int), 0 ≤ i → i ≤ L → (L : Int) ≤ i + k → k < n → I i → Ok (f n i) P
 | k, 0, i, _, _, _, h, _ => by omega
 | 0, n + 1, i, h0, h1, h2, _, hi => by
  have : i = L := by omega
  subst this
  exact done n hi
 | k + 1, n + 1, i, h0, h1, h2, h3, hi => by
  rcases Int.lt_or_le i L with hl | hl
  ·exact step n i h0 hl hi fun i' e hi' => up_loop hL step done k n i' (by omega) (by omega) (by omega) (by omega) hi'
  ·have : i = L := by omega
   subst this
   exact done n hi
theorem up0 {α : Type} {P : α → Prop} {L : Nat} (hL : L ≤ 4294967296) {f : Nat → Int → Option α}
  (step : ∀ (n : Nat) (i : Int), 0 ≤ i → i < L → (∀ i', i' = i + 1 → Ok (f n i') P) → Ok (f (n + 1) i) P)
  (done : ∀ n : Nat, Ok (f (n + 1) L) P) : Ok (f big 0) P :=
 up_loop (I := fun _ => True) hL (fun n i h0 h1 _ k => step n i h0 h1 fun i' e => k i' e trivial) (fun n _ => done n) L big 0 (by omega) (by omega) (by omega) (by unfold big; omega) trivial
theorem o_Has (l : List DIVote) (v : DIVote) (hl : l.length ≤ 4294967296) : Ok (Q_s_l11Has big l v) fun _ => True := by
 rw [Q_s_l11Has_eq]
 refine up0 (L := l.length) hl (f := fun n i => R_s_l11Has_2 n l i v.1 v.2.1 v.2.2.1 v.2.2.2.1) (fun n i h0 h1 k => ?_) (fun n => ?_)
 ·rw [R_s_l11Has_2_eq, wrap64 (n := i + 1) (by omega) (by omega)]
  refine ok_dec (fun _ => ok_if h0 (ok_nth (by omega) fun y _ => ok_dec (fun _ => ok_if h0 (ok_nth (by omega) fun y _ => ok_dec (fun _ => ok_if h0 (ok_nth (by omega) fun y _ => ok_dec (fun _ => ok_some trivial) (fun _ => k _ rfl))) (fun _ => k _ rfl))) (fun _ => k _ rfl))) (fun h => by omega)
 ·rw [R_s_l11Has_2_eq]
  exact ok_dec (fun h => by omega) (fun _ => ok_some trivial)
theorem o_KeyOk (s : ByteArray) (hs : s.size ≤ 4294967296) : Ok (Q_s_KeyOk big s) fun _ => True := by
 rw [Q_s_KeyOk_eq]
 have hl : s.data.toList.length = s.size := by rw [Array.length_toList]; rfl
 refine up0 (L := s.size) hs (f := fun n i => R_s_KeyOk_2 n s i) (fun n i h0 h1 k => ?_) (fun n => ?_)
 ·rw [R_s_KeyOk_2_eq, wrap64 (n := i + 1) (by omega) (by omega)]
  refine ok_dec (fun _ => ok_if h0 (ok_nth (by omega) fun y _ => ok_dec (fun _ => ok_some trivial) fun _ => ok_if h0 (ok_nth (by omega) fun y _ => ok_dec (fun _ => ok_some trivial) fun _ => k _ rfl))) (fun h => by omega)
 ·rw [R_s_KeyOk_2_eq, e_In]
  exact ok_dec (fun h => by omega) (fun _ => ok_some trivial)
end Go.Sx.Tryz
set_option maxRecDepth 100000
namespace Go.Sx.Tryz
open Go Go.Sx Go.Proofs
structure CmdsI (l : List DICmd) : Prop where
 len : l.length ≤ 4
 key : ∀ c ∈ l, ByteArray.size c.2.1 ≤ 1000
structure TreeI (t : List DIBlock) : Prop where
 lo : 1 ≤ t.length
 hi : t.length ≤ 60
 cmds : ∀ b ∈ t, CmdsI b.2.2.1
 view : ∀ b ∈ t, 0 ≤ b.2.1 ∧ b.2.1 ≤ 900
inductive Up (t : List DIBlock) : Int → Prop
 | zero : Up t 0
 | step {k : Int} {b : DIBlock} : 0 < k → k < t.length → nth t k.toNat = some b → 0 ≤ b.1 → b.1 < k → Up t b.1 → Up t k
theorem o_HeightOf {t : List DIBlock} (ht : TreeI t) (k : Int) : Ok (Q_s_HeightOf big t k) fun h => (0 ≤ h → Up t k) ∧ (k = 0 → h ≤ 0) := by
 have hlo := ht.lo; have hhi := ht.hi
 rw [Q_s_HeightOf_eq]
 have loop : ∀ (m n : Nat) (k a : Int), k ≤ m → m < n → Ok (R_s_HeightOf_2 n t k a) fun h => (0 ≤ h → Up t k) ∧ (k = 0 → h = a) := by
  intro m
  induction m with
  | zero =>
   intro n k a h1 h2
   obtain ⟨n, rfl⟩ : ∃ m, n = m + 1 := ⟨n - 1, by omega⟩
   rw [R_s_HeightOf_2_eq, e_In]
   refine ok_ndec (fun hk => ?_) (fun hk => ?_)
   ·simp only [Option.bind_some]
    have : (decide (0 ≤ k) && decide (k ≤ IntKind.i64.wrap ((↑(List.length t) : Int) - 1))) = false := by
     rw [decide_eq_false (by omega)]; rfl
    rw [this]
    exact ok_some ⟨fun h => by omega, fun h => absurd h hk⟩
   ·subst hk
    exact ok_dec (fun h => by omega) (fun _ => ok_some ⟨fun _ => .zero, fun _ => rfl⟩)
  | succ m ih =>
   intro n k a h1 h2
   obtain ⟨n, rfl⟩ : ∃ m, n = m + 1 := ⟨n - 1, by omega⟩
   rw [R_s_HeightOf_2_eq, e_In, wrap64 (n := (↑(List.length t) : Int) - 1) (by omega) (by omega)]
   refine ok_ndec (fun hk => ?_) (fun hk => ?_)
   ·simp only [Option.bind_some]
    refine ok_not (fun _ => ok_some ⟨fun h => by omega, fun h => absurd h hk⟩) (fun hc => ?_)
    simp only [Bool.and_eq_true, decide_eq_true_eq] at hc
    have hlt : k.toNat < t.length := by omega
    have hn : nth t k.toNat = some t[k.toNat] := nth_at hlt
    rw [hn]
    simp only [Option.bind_some, e_In]
    refine ok_if hc.1 (ok_not (fun _ => ok_some ⟨fun h => by omega, fun h => absurd h hk⟩) (fun hd => ok_if hc.1 ?_))
    rw [wrap64 (n := k - 1) (by omega) (by omega)] at hd
    simp only [Bool.and_eq_true, decide_eq_true_eq] at hd
    refine ok_mono (ih n _ _ (by omega) (by omega)) fun h hh => ⟨fun h0 => .step (by omega) (by omega) hn hd.1 (by omega) (hh.1 h0), fun e => absurd e hk⟩
   ·subst hk
    exact ok_dec (fun h => by omega) (fun _ => ok_some ⟨fun _ => .zero, fun _ => rfl⟩)
 rcases Int.lt_or_le 60 k with hk | hk
 ·obtain ⟨n, hn⟩ : ∃ n, big = n + 1 := ⟨big - 1, rfl⟩
  rw [hn, R_s_HeightOf_2_eq, e_In, wrap64 (n := (↑(List.length t) : Int) - 1) (by omega) (by omega)]
  refine ok_ndec (fun _ => ?_) (fun h => by omega)
  simp only [Option.bind_some]
  refine ok_not (fun _ => ok_some ⟨fun h => by omega, fun h => by omega⟩) (fun hc => ?_)
  simp only [Bool.and_eq_true, decide_eq_true_eq] at hc
  omega
 ·exact ok_mono (loop 60 big k 0 (by omega) (by unfold big; omega)) fun h hh => ⟨hh.1, fun e => by have := hh.2 e; omega⟩
theorem Up.lt {t : List DIBlock} {k : Int} (h : Up t k) (ht : 1 ≤ t.length) : 0 ≤ k ∧ k < t.length := by
 cases h with
 | zero => exact ⟨Int.le_refl _, by omega⟩
 | step h1 h2 _ _ _ _ => exact ⟨by omega, h2⟩
theorem o_Extends {t : List DIBlock} (ht : TreeI t) (k u : Int) : Ok (Q_s_Extends big t k u) fun b => b = true → Up t k := by
 have hlo := ht.lo; have hhi := ht.hi
 rw [Q_s_Extends_eq]
 have loop : ∀ {k : Int}, Up t k → ∀ n : Nat, k < n → Ok (R_s_Extends_3 n t k u) fun _ => True := by
  intro k hk
  induction hk with
  | zero =>
   intro n h2
   obtain ⟨n, rfl⟩ : ∃ m, n = m + 1 := ⟨n - 1, by omega⟩
   rw [R_s_Extends_3_eq]
   exact ok_dec (fun h => by omega) (fun _ => ok_some trivial)
  | step h1 h2 h3 h4 h5 _ ih =>
   intro n hn
   obtain ⟨n, rfl⟩ : ∃ m, n = m + 1 := ⟨n - 1, by omega⟩
   rw [R_s_Extends_3_eq, h3]
   simp only [Option.bind_some]
   exact ok_dec (fun _ => ok_ndec (fun _ => ok_if (by omega) (ih n (by omega))) (fun _ => ok_some trivial)) (fun h => by omega)
 refine ok_bind (o_HeightOf ht k) fun h hh => ok_dec (fun _ => ok_some fun e => by cases e) (fun hc => ?_)
 have hu := hh.1 (by omega)
 exact ok_mono (loop hu big (by have := (hu.lt hlo).2; unfold big; omega)) fun _ _ _ => hu
theorem o_RowTo {t : List DIBlock} (ht : TreeI t) (k : Int) : Ok (Q_s_RowTo big t k) fun l => l.length ≤ 60 ∧ ∀ x ∈ l, 0 ≤ x ∧ x < t.length := by
 have hlo := ht.lo; have hhi := ht.hi
 rw [Q_s_RowTo_eq]
 have loop : ∀ {k : Int}, Up t k → ∀ (n : Nat) (l : List Int), k < n → (l.length : Int) + k ≤ 60 → (∀ x ∈ l, 0 ≤ x ∧ x < t.length) → Ok (R_s_RowTo_4 n t k l) fun l => l.length ≤ 60 ∧ ∀ x ∈ l, 0 ≤ x ∧ x < t.length := by
  intro k hk
  induction hk with
  | zero =>
   intro n l h2 hl hx
   obtain ⟨n, rfl⟩ : ∃ m, n = m + 1 := ⟨n - 1, by omega⟩
   rw [R_s_RowTo_4_eq]
   exact ok_dec (fun h => by omega) (fun _ => ok_some ⟨by omega, hx⟩)
  | @step k b h1 h2 h3 h4 h5 _ ih =>
   intro n l hn hl hx
   obtain ⟨n, rfl⟩ : ∃ m, n = m + 1 := ⟨n - 1, by omega⟩
   rw [R_s_RowTo_4_eq, h3]
   simp only [Option.bind_some]
   refine ok_dec (fun _ => ok_if (by simp only [List.length_singleton]; unfold lim; omega) (ok_if (by omega) (ih n (k :: l) (by omega) (by simp only [List.length_cons]; omega) ?_))) (fun h => by omega)
   intro x hm
   rcases List.mem_cons.1 hm with rfl | hm
   ·exact ⟨by omega, h2⟩
   ·exact hx x hm
 refine ok_bind (o_HeightOf ht k) fun h hh => ok_dec (fun _ => ok_some ⟨by simp, by simp⟩) (fun hc => ?_)
 have hu := hh.1 (by omega)
 have := (hu.lt hlo).2
 exact loop hu big [] (by unfold big; omega) (by simp only [List.length_nil]; omega) (by simp)
theorem o_RowAfter {t : List DIBlock} (ht : TreeI t) (k u : Int) : Ok (Q_s_RowAfter big t k u) fun l => l.length ≤ 60 ∧ ∀ x ∈ l, 0 ≤ x ∧ x < t.length := by
 rw [Q_s_RowAfter_eq]
 refine ok_bind (o_Extends ht k u) fun b _ => ok_not (fun _ => ok_some ⟨by simp, by simp⟩) (fun _ => ok_bind (o_RowTo ht k) fun row hrow => ?_)
 have loop : ∀ (m n : Nat) (i : Int) (l : List Int), 0 ≤ i → i ≤ row.length → (row.length : Int) ≤ i + m → m < n → (l.length : Int) ≤ i → (∀ x ∈ l, 0 ≤ x ∧ x < t.length) →
   Ok (R_s_RowAfter_6 n u l i row) fun l => l.length ≤ 60 ∧ ∀ x ∈ l, 0 ≤ x ∧ x < t.length := by
  have hr := hrow.1
  intro m
  induction m with
  | zero =>
   intro n i l h0 h1 h2 h3 h4 h5
   obtain ⟨n, rfl⟩ : ∃ m, n = m + 1 := ⟨n - 1, by omega⟩
   rw [R_s_RowAfter_6_eq]
   exact ok_dec (fun h => by omega) (fun _ => ok_some ⟨by omega, h5⟩)
  | succ m ih =>
   intro n i l h0 h1 h2 h3 h4 h5
   obtain ⟨n, rfl⟩ : ∃ m, n = m + 1 := ⟨n - 1, by omega⟩
   rw [R_s_RowAfter_6_eq, wrap64 (n := i + 1) (by omega) (by omega)]
   refine ok_dec (fun hc => ok_if h0 (ok_if hc (ok_nth (by omega) fun y hy => ok_dec (fun _ => ok_if h0 (ok_if hc (ok_nth (by omega) fun y hy => ok_if (by simp only [List.length_singleton]; unfold lim; omega) ?_))) (fun _ => ?_)))) (fun _ => ok_some ⟨by omega, h5⟩)
   ·refine ih n (i + 1) _ (by omega) (by omega) (by omega) (by omega) (by rw [List.append_eq, List.length_append]; simp only [List.length_singleton]; omega) ?_
    intro x hx
    rcases List.mem_append.1 (show x ∈ l ++ [y] from hx) with hx | hx
    ·exact h5 x hx
    ·simp only [List.mem_singleton] at hx; subst hx; exact hrow.2 _ hy
   ·exact ih n (i + 1) l (by omega) (by omega) (by omega) (by omega) (by omega) h5
 exact loop row.length big 0 [] (by omega) (by omega) (by omega) (by have := hrow.1; unfold big; omega) (by simp) (by simp)
theorem o_Three {t : List DIBlock} (ht : TreeI t) (k : Int) : Ok (Q_s_l12Three big t k) fun r => r.2.2.2.1 = true → (0 ≤ k ∧ k < t.length) ∧ (0 ≤ r.1 ∧ r.1 < t.length) ∧ (0 ≤ r.2.1 ∧ r.2.1 < t.length) ∧ (0 ≤ r.2.2.1 ∧ r.2.2.1 < t.length) := by
 have hlo := ht.lo; have hhi := ht.hi
 rw [Q_s_l12Three_eq]
 refine ok_bind (o_HeightOf ht k) fun h hh => ok_dec (fun _ => ok_some fun e => by cases e) (fun hc => ?_)
 have hu := (hh.1 (by omega)).lt hlo
 refine ok_if hu.1 (ok_nth (by omega) fun b _ => ?_)
 simp only [e_In, Option.bind_some, wrap64 (n := k - 1) (by omega) (by omega), wrap64 (n := (↑(List.length t) : Int) - 1) (by omega) (by omega)]
 refine ok_not (fun _ => ok_some fun e => by cases e) (fun h1 => ?_)
 simp only [Bool.and_eq_true, decide_eq_true_eq] at h1
 refine ok_if h1.1 (ok_nth (by omega) fun b2 _ => ok_not (fun _ => ok_some fun e => by cases e) (fun h2 => ?_))
 simp only [Bool.and_eq_true, decide_eq_true_eq] at h2
 refine ok_if h2.1 (ok_nth (by omega) fun b3 _ => ok_not (fun _ => ok_some fun e => by cases e) (fun h3 => ok_some fun _ => ?_))
 simp only [Bool.and_eq_true, decide_eq_true_eq] at h3
 dsimp only
 exact ⟨hu, ⟨h1.1, by omega⟩, ⟨h2.1, by omega⟩, h3.1, by omega⟩
end Go.Sx.Tryz
set_option maxRecDepth 100000
namespace Go.Sx.Tryz
open Go Go.Sx Go.Proofs
theorem sg_loop (l : List DIVote) (hl : l.length ≤ 4294967296) (a b c : Int) : ∀ (m : Nat) (n : Nat) (i acc : Int), 0 ≤ i → i ≤ 7 → (7 : Int) ≤ i + m → m * (l.length + 2) + 1 ≤ n → Ok (R_s_SignersOf_3 n l a b c acc i) fun _ => True := by
 intro m
 induction m with
 | zero =>
  intro n i acc h0 h1 h2 h3
  obtain ⟨n, rfl⟩ : ∃ m, n = m + 1 := ⟨n - 1, by omega⟩
  rw [R_s_SignersOf_3_eq]
  exact ok_dec (fun h => by omega) (fun _ => ok_some trivial)
 | succ m ih =>
  intro n i acc h0 h1 h2 h3
  obtain ⟨n, rfl⟩ : ∃ m, n = m + 1 := ⟨n - 1, by omega⟩
  rw [R_s_SignersOf_3_eq]
  refine ok_dec (fun hc => ?_) (fun _ => ok_some trivial)
  have h3' : m * (l.length + 2) + (l.length + 2) ≤ n := by rw [Nat.succ_mul] at h3; omega
  have inner : ∀ (q : Nat) (n : Nat) (j : Int), 0 ≤ j → j ≤ l.length → (l.length : Int) ≤ j + q → m * (l.length + 2) + 1 + q + 1 ≤ n → Ok (R_s_SignersOf_6 n l a b c acc i j) fun _ => True := by
   intro q
   induction q with
   | zero =>
    intro n j g0 g1 g2 g3
    obtain ⟨n, rfl⟩ : ∃ m, n = m + 1 := ⟨n - 1, by omega⟩
    rw [R_s_SignersOf_6_eq, wrap64 (n := i + 1) (by omega) (by omega)]
    exact ok_dec (fun h => by omega) (fun _ => ih n _ _ (by omega) (by omega) (by omega) (by omega))
   | succ q ihq =>
    intro n j g0 g1 g2 g3
    obtain ⟨n, rfl⟩ : ∃ m, n = m + 1 := ⟨n - 1, by omega⟩
    rw [R_s_SignersOf_6_eq, wrap64 (n := i + 1) (by omega) (by omega), wrap64 (n := j + 1) (by omega) (by omega)]
    refine ok_dec (fun hj => ?_) (fun _ => ih n _ _ (by omega) (by omega) (by omega) (by omega))
    have next : Ok (R_s_SignersOf_6 n l a b c acc i (j + 1)) fun _ => True := ihq n (j + 1) (by omega) (by omega) (by omega) (by omega)
    exact ok_if g0 (ok_nth (by omega) fun y _ => ok_dec (fun _ => ok_dec (fun _ => ok_dec (fun _ => ok_dec (fun _ => ok_ifn (u64_nn _) (ih n _ _ (by omega) (by omega) (by omega) (by omega))) (fun _ => next)) (fun _ => next)) (fun _ => next)) (fun _ => next))
  exact inner l.length n 0 (by omega) (by omega) (by omega) (by omega)
theorem o_Signers (l : List DIVote) (hl : l.length ≤ 4294967296) (a b c : Int) : Ok (Q_s_SignersOf big l a b c) fun _ => True := by
 rw [Q_s_SignersOf_eq]
 exact sg_loop l hl a b c 7 big 0 0 (by omega) (by omega) (by omega) (by unfold big; omega)
theorem o_QcOf (l : List DIVote) (hl : l.length ≤ 4294967296) (a b c n : Int) : Ok (Q_s_QcOf big l a b c n) fun _ => True := by
 rw [Q_s_QcOf_eq]
 exact ok_bind (o_Signers l hl a b c) fun y _ => ok_bind (o_CountOf y) fun _ _ => ok_bind (o_Quorum n) fun _ _ => ok_dec (fun _ => ok_some trivial) (fun _ => ok_some trivial)
theorem o_Proven (l : List DIVote) (hl : l.length ≤ 4294967296) (q : DIQc) (z : Int) : Ok (Q_s_Proven big l q z) fun _ => True := by
 rw [Q_s_Proven_eq]
 refine ok_dec (fun _ => ok_some trivial) fun _ => ok_bind (o_Signers l hl _ _ _) fun y _ => ?_
 refine up0 (L := 7) (by decide) (f := fun n i => R_s_Proven_5 n z y i q.1 q.2.1 q.2.2.1 q.2.2.2.1) (fun n i h0 h1 k => ?_) (fun n => ?_)
 ·rw [R_s_Proven_5_eq, wrap64 (n := i + 1) (by omega) (by omega)]
  refine ok_dec (fun _ => ok_ifn (u64_nn _) ?_) (fun h => by omega)
  repeat' first
   | exact k _ rfl
   | exact ok_some trivial
   | exact u64_nn _
   | refine ok_ifn (u64_nn _) ?_
   | refine ok_ndec (fun _ => ?_) (fun _ => ?_)
   | refine ok_dec (fun _ => ?_) (fun _ => ?_)
   | refine ok_not (fun _ => ?_) (fun _ => ?_)
   | refine ok_cond (fun _ => ?_) (fun _ => ?_)
 ·rw [R_s_Proven_5_eq]
  refine ok_dec (fun h => by omega) (fun _ => ?_)
  repeat' first
   | exact ok_some trivial
   | refine ok_dec (fun _ => ?_) (fun _ => ?_)
theorem o_VoteOk {t : List DIBlock} (ht : TreeI t) (n : Int) (v : DIVote) : Ok (Q_s_VoteOk big t n v) fun _ => True := by
 have hlo := ht.lo; have hhi := ht.hi
 rw [Q_s_VoteOk_eq]
 simp only [e_In, Option.bind_some, wrap64 (n := (↑(List.length t) : Int) - 1) (by omega) (by omega)]
 refine ok_cond (fun _ => ok_cond (fun _ => ok_cond (fun _ => ok_cond (fun h => ?_) (fun _ => ok_some trivial)) (fun _ => ok_some trivial)) (fun _ => ok_some trivial)) (fun _ => ok_some trivial)
 simp only [Bool.and_eq_true, decide_eq_true_eq] at h
 exact ok_if (by omega) (ok_nth (by omega) fun y _ => ok_dec (fun _ => ok_some trivial) (fun _ => ok_some trivial))
theorem o_QcRight {t : List DIBlock} (ht : TreeI t) (n : Int) (q : DIQc) : Ok (Q_s_QcRight big t n q) fun _ => True := by
 rw [Q_s_QcRight_eq]
 refine ok_cond (fun _ => ok_some trivial) (fun _ => ok_bind (o_VoteOk ht n _) fun y _ => ok_not (fun _ => ok_some trivial) fun _ => ok_ifn (u64_nn _) ?_)
 simp only [e_In, Option.bind_some]
 exact ok_cond (fun _ => ok_bind (o_CountOf _) fun _ _ => ok_bind (o_Quorum n) fun _ _ => ok_some trivial) (fun _ => ok_some trivial)
theorem o_Ready (p : DIPeer) (n : Int) (c : Bool) : Ok (Q_s_Ready big p n c) fun _ => True := by
 rw [Q_s_Ready_eq]
 exact ok_bind (o_LeaderOf _ _) fun _ _ => ok_ndec (fun _ => ok_some trivial) fun _ => ok_dec (fun _ => ok_some trivial) fun _ => ok_bind (o_Quorum n) fun _ _ => ok_dec (fun _ => ok_some trivial) fun _ => ok_dec (fun _ => ok_some trivial) fun _ => ok_cond (fun _ => ok_some trivial) (fun _ => ok_some trivial)
theorem o_Next {t : List DIBlock} {b c : Int} (hb : 0 ≤ b ∧ b < t.length) (hc : 0 ≤ c ∧ c < t.length) : Ok (Q_s_l12Next big t b c) fun _ => True := by
 rw [Q_s_l12Next_eq]
 exact ok_ndec (fun _ => ok_ndec (fun _ => ok_if hb.1 (ok_nth (by omega) fun _ _ => ok_if hc.1 (ok_nth (by omega) fun _ _ => ok_some trivial))) (fun _ => ok_some trivial)) (fun _ => ok_some trivial)
theorem o_ThreeRow {t : List DIBlock} (ht : TreeI t) (k : Int) : Ok (Q_s_ThreeRow big t k) fun _ => True := by
 rw [Q_s_ThreeRow_eq]
 refine ok_bind (o_Three ht k) fun y hy => ok_not (fun _ => ok_some trivial) fun hc => ?_
 obtain ⟨_, h1, h2, h3⟩ := hy hc
 exact ok_bind (o_Next h1 h2) fun _ _ => ok_not (fun _ => ok_some trivial) fun _ => ok_if h2.1 (ok_nth (by omega) fun _ _ => ok_if h3.1 (ok_nth (by omega) fun _ _ => ok_ndec (fun _ => ok_some trivial) (fun _ => ok_some trivial)))
theorem o_Safe {t : List DIBlock} (ht : TreeI t) (q : DIQc) (k : Int) : Ok (Q_s_SafeBlock big t q k) fun _ => True := by
 have hlo := ht.lo; have hhi := ht.hi
 rw [Q_s_SafeBlock_eq]
 simp only [e_In, Option.bind_some, wrap64 (n := (↑(List.length t) : Int) - 1) (by omega) (by omega)]
 refine ok_not (fun _ => ok_some trivial) fun h => ?_
 simp only [Bool.and_eq_true, decide_eq_true_eq] at h
 exact ok_bind (o_Extends ht k _) fun _ _ => ok_cond (fun _ => ok_some trivial) (fun _ => ok_if h.1 (ok_nth (by omega) fun _ _ => ok_some trivial))
end Go.Sx.Tryz
set_option maxRecDepth 100000
namespace Go.Sx.Tryz
open Go Go.Sx Go.Proofs
theorem e_Block (b : DIBlock) (h : List.length b.2.2.1 ≤ 4294967296) : Q_s_l05Block big b = some b := by
 rw [Q_s_l05Block_eq, if_pos (by unfold lim; omega)]
theorem e_Tree {t : List DIBlock} (h1 : t.length ≤ 1000) (h2 : ∀ b ∈ t, List.length b.2.2.1 ≤ 4294967296) : Q_s_l05Tree big t = some t := by
 rw [Q_s_l05Tree_eq]
 have loop : ∀ (m n i : Nat), t.length ≤ i + m → m < n → i ≤ t.length → R_s_l05Tree_3 n t (t.take i) (i : Int) = some t := by
  intro m
  induction m with
  | zero =>
   intro n i g0 g1 g2
   obtain ⟨n, rfl⟩ : ∃ m, n = m + 1 := ⟨n - 1, by omega⟩
   rw [R_s_l05Tree_3_eq, decide_eq_false (by omega), cond_false, List.take_of_length_le (by omega)]
  | succ m ih =>
   intro n i g0 g1 g2
   obtain ⟨n, rfl⟩ : ∃ m, n = m + 1 := ⟨n - 1, by omega⟩
   rcases Nat.lt_or_ge i t.length with hi | hi
   ·rw [R_s_l05Tree_3_eq, decide_eq_true (by omega), cond_true, if_pos (by omega), Int.toNat_natCast, nth_at hi, Option.bind_some, e_Block _ (h2 _ (List.getElem_mem hi)), Option.bind_some,
     if_pos (by rw [List.length_take]; simp only [List.length_singleton]; unfold lim; omega), wrap_succ (by omega)]
    have e : (t.take i).append [t[i]] = t.take (i + 1) := by
     rw [List.append_eq, List.take_succ_eq_append_getElem hi]
    rw [e]
    exact ih n (i + 1) (by omega) (by omega) (by omega)
   ·rw [R_s_l05Tree_3_eq, decide_eq_false (by omega), cond_false, List.take_of_length_le (by omega)]
 have := loop t.length big 0 (by omega) (by unfold big; omega) (by omega)
 rw [List.take_zero] at this
 exact this
theorem o_Same (a b : DIBlock) (h : List.length a.2.2.1 ≤ 4294967296) : Ok (Q_s_SameBlock big a b) fun _ => True := by
 rw [Q_s_SameBlock_eq]
 refine ok_ndec (fun _ => ok_some trivial) fun _ => ok_ndec (fun _ => ok_some trivial) fun _ => ok_not (fun _ => ok_some trivial) fun _ => ok_ndec (fun _ => ok_some trivial) fun he => ?_
 refine up0 (L := List.length a.2.2.1) h (f := fun n i => R_s_SameBlock_4 n i a.1 a.2.1 a.2.2.1 a.2.2.2.1.1 a.2.2.2.1.2.1 a.2.2.2.1.2.2.1 a.2.2.2.1.2.2.2.1 b.1 b.2.1 b.2.2.1 b.2.2.2.1.1 b.2.2.2.1.2.1 b.2.2.2.1.2.2.1 b.2.2.2.1.2.2.2.1) (fun n i h0 h1 k => ?_) (fun n => ?_)
 ·rw [R_s_SameBlock_4_eq, wrap64 (n := i + 1) (by omega) (by omega)]
  exact ok_dec (fun _ => ok_if h0 (ok_nth (by omega) fun _ _ => ok_if h0 (ok_nth (by omega) fun _ _ => ok_not (fun _ => ok_some trivial) fun _ => k _ rfl))) (fun h => by omega)
 ·rw [R_s_SameBlock_4_eq]
  exact ok_dec (fun h => by omega) (fun _ => ok_some trivial)
theorem o_BlockAt {t : List DIBlock} (ht : TreeI t) (b : DIBlock) : Ok (Q_s_BlockAt big t b) fun r => -1 ≤ r ∧ r < t.length := by
 have hlo := ht.lo; have hhi := ht.hi
 rw [Q_s_BlockAt_eq]
 refine up0 (L := t.length) (by omega) (f := fun n i => R_s_BlockAt_2 n t i b.1 b.2.1 b.2.2.1 b.2.2.2.1.1 b.2.2.2.1.2.1 b.2.2.2.1.2.2.1 b.2.2.2.1.2.2.2.1) (fun n i h0 h1 k => ?_) (fun n => ?_)
 ·rw [R_s_BlockAt_2_eq, wrap64 (n := i + 1) (by omega) (by omega)]
  exact ok_dec (fun _ => ok_if h0 (ok_nth (by omega) fun y hy => ok_bind (o_Same y _ (by have := (ht.cmds y hy).len; omega)) fun _ _ => ok_cond (fun _ => ok_some ⟨by omega, h1⟩) (fun _ => k _ rfl))) (fun h => by omega)
 ·rw [R_s_BlockAt_2_eq]
  exact ok_dec (fun h => by omega) (fun _ => ok_some ⟨by omega, by omega⟩)
theorem o_CmdOk (c : DICmd) (h : ByteArray.size c.2.1 ≤ 4294967296) : Ok (Q_s_CmdOk big c) fun _ => True := by
 rw [Q_s_CmdOk_eq]
 simp only [e_In, Option.bind_some]
 exact ok_cond (fun _ => ok_bind (o_KeyOk _ h) fun _ _ => ok_cond (fun _ => ok_some trivial) (fun _ => ok_some trivial)) (fun _ => ok_some trivial)
theorem o_BlockOk {t : List DIBlock} (ht : TreeI t) (b : DIBlock) (hb : ∀ c ∈ b.2.2.1, ByteArray.size c.2.1 ≤ 1000) : Ok (Q_s_BlockOk big t b) fun r => r = true → List.length b.2.2.1 ≤ 4 ∧ 0 ≤ b.2.1 ∧ b.2.1 ≤ 900 := by
 have hlo := ht.lo; have hhi := ht.hi
 rw [Q_s_BlockOk_eq]
 simp only [e_In, Option.bind_some, wrap64 (n := (↑(List.length t) : Int) - 1) (by omega) (by omega)]
 refine ok_not (fun _ => ok_some fun e => by cases e) fun h => ?_
 simp only [Bool.and_eq_true, decide_eq_true_eq] at h
 refine ok_if h.1 (ok_nth (by omega) fun y hy => ok_dec (fun _ => ok_some fun e => by cases e) fun g1 => ok_dec (fun _ => ok_some fun e => by cases e) fun g2 => ok_dec (fun _ => ok_some fun e => by cases e) fun g3 => ?_)
 have hv := ht.view y hy
 have fin : List.length b.2.2.1 ≤ 4 ∧ 0 ≤ b.2.1 ∧ b.2.1 ≤ 900 := ⟨by omega, by omega, by omega⟩
 refine up0 (L := List.length b.2.2.1) (by omega) (f := fun n i => R_s_BlockOk_4 n t i b.1 b.2.1 b.2.2.1 b.2.2.2.1.1 b.2.2.2.1.2.1 b.2.2.2.1.2.2.1 b.2.2.2.1.2.2.2.1) (fun n i h0 h1 k => ?_) (fun n => ?_)
 ·rw [R_s_BlockOk_4_eq, wrap64 (n := i + 1) (by omega) (by omega)]
  exact ok_dec (fun _ => ok_if h0 (ok_nth (by omega) fun c hc => ok_bind (o_CmdOk c (by have := hb c hc; omega)) fun _ _ => ok_not (fun _ => ok_some fun e => by cases e) fun _ => k _ rfl)) (fun h => by omega)
 ·rw [R_s_BlockOk_4_eq]
  exact ok_dec (fun h => by omega) (fun _ => ok_dec (fun _ => ok_if h.1 (ok_nth (by omega) fun _ _ => ok_some fun _ => fin)) (fun _ => ok_some fun e => by cases e))
theorem o_PutBlock {t : List DIBlock} (ht : TreeI t) (b : DIBlock) (hb : ∀ c ∈ b.2.2.1, ByteArray.size c.2.1 ≤ 1000) (hl : List.length b.2.2.1 ≤ 4294967296) : Ok (Q_s_PutBlock big t b) fun r => TreeI r.1 ∧ t.length ≤ List.length r.1 ∧ r.2.1 < List.length r.1 ∧ -1 ≤ r.2.1 := by
 have hlo := ht.lo; have hhi := ht.hi
 rw [Q_s_PutBlock_eq, e_Tree (by omega) (fun b hb => by have := (ht.cmds b hb).len; omega)]
 simp only [Option.bind_some]
 refine ok_bind (o_BlockAt ht b) fun k hk => ok_dec (fun _ => ok_some ⟨ht, Nat.le_refl _, hk.2, hk.1⟩) fun _ => ok_bind (o_BlockOk ht b hb) fun y hy => ok_not (fun _ => ok_some ⟨ht, Nat.le_refl _, by show (-1 : Int) < _; omega, by show (-1 : Int) ≤ -1; omega⟩) fun hok => ok_dec (fun _ => ok_some ⟨ht, Nat.le_refl _, by show (-1 : Int) < _; omega, by show (-1 : Int) ≤ -1; omega⟩) fun hm => ?_
 obtain ⟨g1, g2⟩ := hy hok
 rw [e_Block b hl]
 simp only [Option.bind_some]
 refine ok_if (by simp only [List.length_singleton]; unfold lim; omega) (ok_some ?_)
 have hlen : (List.append t [b]).length = t.length + 1 := by rw [List.append_eq, List.length_append]; rfl
 refine ⟨⟨by rw [hlen]; omega, by rw [hlen]; omega, fun x hx => ?_, fun x hx => ?_⟩, by rw [hlen]; omega, by show (t.length : Int) < _; rw [hlen]; omega, by show (-1 : Int) ≤ t.length; omega⟩
 ·rcases List.mem_append.1 (show x ∈ t ++ [b] from hx) with hx | hx
  ·exact ht.cmds x hx
  ·simp only [List.mem_singleton] at hx; subst hx; exact ⟨g1, hb⟩
 ·rcases List.mem_append.1 (show x ∈ t ++ [b] from hx) with hx | hx
  ·exact ht.view x hx
  ·simp only [List.mem_singleton] at hx; subst hx; exact g2
/-! ### Replicas -/
structure CellsI (l : List DICell) : Prop where
 len : l.length ≤ 25
 key : ∀ c ∈ l, ByteArray.size c.1 ≤ 1000
structure UndosI (l : List DIUndo) : Prop where
 len : l.length ≤ 240
 key : ∀ c ∈ l, ByteArray.size c.1 ≤ 1000
structure PeerI (B : Nat) (p : DIPeer) : Prop where
 row : List.length p.2.2.2.2.2.1 ≤ B
 cells : CellsI p.2.2.2.2.2.2.1
 early : List.length p.2.2.2.2.2.2.2.1 ≤ 60
 undos : UndosI p.2.2.2.2.2.2.2.2.1
 votes : List.length p.2.2.2.2.2.2.2.2.2.1 ≤ B
 news : List.length p.2.2.2.2.2.2.2.2.2.2.1 ≤ B
 view : 1 ≤ p.2.1 ∧ p.2.1 ≤ 900
theorem PeerI.mono {B B' : Nat} {p : DIPeer} (h : PeerI B p) (hb : B ≤ B') : PeerI B' p := ⟨Nat.le_trans h.row hb, h.cells, h.early, h.undos, Nat.le_trans h.votes hb, Nat.le_trans h.news hb, h.view⟩
theorem e_Copy {B : Nat} (hB : B ≤ 1000000000) {p : DIPeer} (h : PeerI B p) : Q_s_l09Copy big p = some p := by
 obtain ⟨h1, h2, h3, h4, h5, h6, _⟩ := h
 have h2 := h2.len
 have h4 := h4.len
 rw [Q_s_l09Copy_eq, if_pos (by unfold lim; omega), if_pos (by unfold lim; omega), if_pos (by unfold lim; omega), if_pos (by unfold lim; omega), if_pos (by unfold lim; omega), if_pos (by unfold lim; omega)]
theorem o_Entered {B : Nat} (hB : B ≤ 1000000000) {p : DIPeer} (h : PeerI B p) (v : Int) : Ok (Q_s_Entered big p v) fun r => PeerI B r ∧ r.1 = p.1 := by
 rw [Q_s_Entered_eq, e_Copy hB h]
 simp only [Option.bind_some]
 refine ok_dec (fun h1 => ok_dec (fun h2 => ok_some ⟨⟨h.row, h.cells, h.early, h.undos, Nat.zero_le _, Nat.zero_le _, ?_⟩, rfl⟩) (fun _ => ok_some ⟨h, rfl⟩)) (fun _ => ok_some ⟨h, rfl⟩)
 have := h.view
 exact ⟨by show 1 ≤ v; omega, h2⟩
end Go.Sx.Tryz
set_option maxRecDepth 100000
namespace Go.Sx.Tryz
open Go Go.Sx Go.Proofs
theorem o_CellsOk {l : List DICell} (h : CellsI l) : Ok (Q_s_CellsOk big l) fun b => b = true → l.length ≤ 12 := by
 have hl := h.len
 rw [Q_s_CellsOk_eq]
 refine up0 (L := l.length) (by omega) (f := fun n i => R_s_CellsOk_2 n l i) (fun n i h0 h1 k => ?_) (fun n => ?_)
 ·rw [R_s_CellsOk_2_eq, wrap64 (n := i + 1) (by omega) (by omega), wrap64 (n := i - 1) (by omega) (by omega)]
  simp only [e_In, Option.bind_some]
  refine ok_dec (fun _ => ok_if h0 (ok_nth (by omega) fun y hy => ok_bind (o_KeyOk _ (by have := h.key y hy; omega)) fun _ _ => ok_not (fun _ => ok_some fun e => by cases e) fun _ => ok_if h0 (ok_nth (by omega) fun _ _ => ok_not (fun _ => ok_some fun e => by cases e) fun _ => ok_dec (fun hp => ?_) (fun _ => k _ rfl)))) (fun h => by omega)
  exact ok_if (by omega) (ok_nth (by omega) fun _ _ => ok_if h0 (ok_nth (by omega) fun _ _ => ok_not (fun _ => ok_some fun e => by cases e) fun _ => k _ rfl))
 ·rw [R_s_CellsOk_2_eq]
  exact ok_dec (fun h => by omega) (fun _ => ok_some fun e => by have := of_decide_eq_true e; omega)
theorem key_snoc {l : List DICell} {y : DICell} (h : ∀ c ∈ l, ByteArray.size c.1 ≤ 1000) (hy : ByteArray.size y.1 ≤ 1000) : ∀ c ∈ List.append l [y], ByteArray.size c.1 ≤ 1000 := fun c hc => by
 rcases List.mem_append.1 (show c ∈ l ++ [y] from hc) with hc | hc
 ·exact h c hc
 ·simp only [List.mem_singleton] at hc; subst hc; exact hy
theorem len_snoc {α : Type} {l : List α} {y : α} : (List.append l [y]).length = l.length + 1 := by rw [List.append_eq, List.length_append]; rfl
theorem o_Put {l : List DICell} (hl : l.length ≤ 12) (hk : ∀ c ∈ l, ByteArray.size c.1 ≤ 1000) (x : DICell) (hx : ByteArray.size x.1 ≤ 1000) : Ok (Q_s_l03Put big l x) CellsI := by
 rw [Q_s_l03Put_eq]
 have second : ∀ (m n : Nat) (i : Int) (a : List DICell), 0 ≤ i → i ≤ l.length → (l.length : Int) ≤ i + m → m < n → (a.length : Int) ≤ 13 + i → (∀ c ∈ a, ByteArray.size c.1 ≤ 1000) → Ok (R_s_l03Put_9 n l a i x.1 x.2.1) CellsI := by
  intro m
  induction m with
  | zero =>
   intro n i a h0 h1 h2 h3 h4 h5
   obtain ⟨n, rfl⟩ : ∃ m, n = m + 1 := ⟨n - 1, by omega⟩
   rw [R_s_l03Put_9_eq]
   exact ok_dec (fun h => by omega) (fun _ => ok_some ⟨by omega, h5⟩)
  | succ m ih =>
   intro n i a h0 h1 h2 h3 h4 h5
   obtain ⟨n, rfl⟩ : ∃ m, n = m + 1 := ⟨n - 1, by omega⟩
   rw [R_s_l03Put_9_eq, wrap64 (n := i + 1) (by omega) (by omega)]
   refine ok_dec (fun _ => ok_if h0 (ok_nth (by omega) fun y hy => ok_not (fun _ => ok_if h0 (ok_nth (by omega) fun y hy => ok_if (by simp only [List.length_singleton]; unfold lim; omega) ?_)) (fun _ => ?_))) (fun _ => ok_some ⟨by omega, h5⟩)
   ·exact ih n (i + 1) _ (by omega) (by omega) (by omega) (by omega) (by rw [len_snoc]; omega) (key_snoc h5 (hk y hy))
   ·exact ih n (i + 1) a (by omega) (by omega) (by omega) (by omega) (by omega) h5
 have first : ∀ (m n : Nat) (i : Int) (a : List DICell), 0 ≤ i → i ≤ l.length → (l.length : Int) ≤ i + m → m + 20 < n → (a.length : Int) ≤ i → (∀ c ∈ a, ByteArray.size c.1 ≤ 1000) → Ok (R_s_l03Put_3 n l a i x.1 x.2.1) CellsI := by
  intro m
  induction m with
  | zero =>
   intro n i a h0 h1 h2 h3 h4 h5
   obtain ⟨n, rfl⟩ : ∃ m, n = m + 1 := ⟨n - 1, by omega⟩
   rw [R_s_l03Put_3_eq]
   exact ok_dec (fun h => by omega) (fun _ => ok_if (by simp only [List.length_singleton]; unfold lim; omega) (second l.length n 0 _ (by omega) (by omega) (by omega) (by omega) (by rw [len_snoc]; omega) (key_snoc h5 hx)))
  | succ m ih =>
   intro n i a h0 h1 h2 h3 h4 h5
   obtain ⟨n, rfl⟩ : ∃ m, n = m + 1 := ⟨n - 1, by omega⟩
   rw [R_s_l03Put_3_eq, wrap64 (n := i + 1) (by omega) (by omega)]
   refine ok_dec (fun _ => ok_if h0 (ok_nth (by omega) fun y hy => ok_cond (fun _ => ok_if h0 (ok_nth (by omega) fun y hy => ok_if (by simp only [List.length_singleton]; unfold lim; omega) ?_)) (fun _ => ?_))) (fun _ => ok_if (by simp only [List.length_singleton]; unfold lim; omega) (second l.length n 0 _ (by omega) (by omega) (by omega) (by omega) (by rw [len_snoc]; omega) (key_snoc h5 hx)))
   ·exact ih n (i + 1) _ (by omega) (by omega) (by omega) (by omega) (by rw [len_snoc]; omega) (key_snoc h5 (hk y hy))
   ·exact ih n (i + 1) a (by omega) (by omega) (by omega) (by omega) (by omega) h5
 exact first l.length big 0 [] (by omega) (by omega) (by omega) (by unfold big; omega) (by simp) (by simp)
theorem o_CellAt {l : List DICell} (h : l.length ≤ 4294967296) (s : ByteArray) : Ok (Q_s_CellAt big l s) fun r => r < l.length := by
 rw [Q_s_CellAt_eq]
 refine up0 (L := l.length) h (f := fun n i => R_s_CellAt_2 n l s i) (fun n i h0 h1 k => ?_) (fun n => ?_)
 ·rw [R_s_CellAt_2_eq, wrap64 (n := i + 1) (by omega) (by omega)]
  exact ok_dec (fun _ => ok_if h0 (ok_nth (by omega) fun _ _ => ok_dec (fun _ => ok_some h1) (fun _ => k _ rfl))) (fun h => by omega)
 ·rw [R_s_CellAt_2_eq]
  exact ok_dec (fun h => by omega) (fun _ => ok_some (by omega))
set_option maxHeartbeats 4000000 in
theorem o_Done {l : List DICell} (h : CellsI l) (c : DICmd) (hc : ByteArray.size c.2.1 ≤ 1000) : Ok (Q_s_Done big l c) fun r => CellsI r.1 := by
 have hl := h.len
 rw [Q_s_Done_eq]
 simp only [e_In, Option.bind_some]
 refine ok_if (by unfold lim; omega) (ok_bind (o_CellsOk h) fun b hb => ok_not (fun _ => ok_some h) fun h1 => ok_bind (o_CmdOk c (by omega)) fun _ _ => ok_not (fun _ => ok_some h) fun _ => ok_bind (o_CellAt (by omega) _) fun k hk => ?_)
 have put : ∀ n : Int, Ok ((Q_s_l03Put big l (c.2.1, n, ())).bind fun y => some (y, (0 : Int), PUnit.unit)) fun r => CellsI r.1 := fun n => ok_bind (o_Put (hb h1) h.key _ hc) fun y hy => ok_some hy
 have put2 : Ok ((Q_s_l03Put big l c.2).bind fun y => some (y, (0 : Int), PUnit.unit)) fun r => CellsI r.1 := ok_bind (o_Put (hb h1) h.key _ hc) fun y hy => ok_some hy
 have tail : ∀ (b2 : Bool) (n : Int) (K : Option (List DICell × Int × Unit)), Ok K (fun r => CellsI r.1) → Ok (bif !b2 then some (l, (2 : Int), PUnit.unit) else bif decide (k < 0) then bif decide ((12 : Int) ≤ (↑(List.length l) : Int)) then some (l, (2 : Int), PUnit.unit) else K else K) fun r => CellsI r.1 := fun b2 n K hK =>
  ok_not (fun _ => ok_some h) fun _ => ok_dec (fun _ => ok_dec (fun _ => ok_some h) fun _ => hK) fun _ => hK
 refine ok_ndec (fun _ => ok_dec (fun _ => ok_some h) fun hk0 => ok_if (by omega) (ok_nth (by omega) fun y _ => ok_dec (fun _ => ok_if (by omega) (ok_nth (by omega) fun y2 _ => tail _ 0 _ (put _))) fun _ => tail _ 0 _ (put _))) fun _ => tail _ 0 _ put2
end Go.Sx.Tryz
set_option maxRecDepth 100000
namespace Go.Sx.Tryz
open Go Go.Sx Go.Proofs
theorem o_DoneAll {l : List DICell} (h : CellsI l) {cs : List DICmd} (hc : ∀ c ∈ cs, ByteArray.size c.2.1 ≤ 1000) (hn : cs.length ≤ 1000) : Ok (Q_s_DoneAll big l cs) fun r => CellsI r.1 := by
 have hl := h.len
 rw [Q_s_DoneAll_eq]
 refine ok_if (by unfold lim; omega) ?_
 have loop : ∀ (m n : Nat) (i : Int) (l : List DICell) (a : List Int), 0 ≤ i → i ≤ cs.length → (cs.length : Int) ≤ i + m → m < n → CellsI l → (a.length : Int) ≤ i → Ok (R_s_DoneAll_4 n cs l a i) fun r => CellsI r.1 := by
  intro m
  induction m with
  | zero =>
   intro n i l a h0 h1 h2 h3 h4 h5
   obtain ⟨n, rfl⟩ : ∃ m, n = m + 1 := ⟨n - 1, by omega⟩
   rw [R_s_DoneAll_4_eq]
   exact ok_dec (fun h => by omega) (fun _ => ok_some h4)
  | succ m ih =>
   intro n i l a h0 h1 h2 h3 h4 h5
   obtain ⟨n, rfl⟩ : ∃ m, n = m + 1 := ⟨n - 1, by omega⟩
   rw [R_s_DoneAll_4_eq, wrap64 (n := i + 1) (by omega) (by omega)]
   exact ok_dec (fun _ => ok_if h0 (ok_nth (by omega) fun c hm => ok_bind (o_Done h4 c (hc c hm)) fun y hy => ok_if (by unfold lim; omega) (ih n (i + 1) _ _ (by omega) (by omega) (by omega) (by omega) hy (by rw [len_snoc]; omega)))) (fun _ => ok_some h4)
 exact loop cs.length big 0 l [] (by omega) (by omega) (by omega) (by unfold big; omega) h (by simp)
theorem o_UndoOf {l : List DICell} (h : CellsI l) (s : ByteArray) : Ok (Q_s_UndoOf big l s) fun u => u.1 = s := by
 have hl := h.len
 rw [Q_s_UndoOf_eq]
 exact ok_bind (o_CellAt (by omega) s) fun k hk => ok_dec (fun _ => ok_some rfl) (fun _ => ok_if (by omega) (ok_nth (by omega) fun _ _ => ok_some rfl))
theorem o_Undone {l : List DICell} (h : CellsI l) (u : DIUndo) (hu : ByteArray.size u.1 ≤ 1000) : Ok (Q_s_Undone big l u) CellsI := by
 have hl := h.len
 rw [Q_s_Undone_eq]
 simp only [e_In, Option.bind_some]
 have same : Ok (if 0 + List.length l ≤ lim then some l else none) CellsI := ok_if (by unfold lim; omega) (ok_some h)
 refine ok_bind (o_CellsOk h) fun b hb => ok_not (fun _ => same) fun h1 => ok_bind (o_KeyOk _ (by omega)) fun _ _ => ok_not (fun _ => same) fun _ => ok_not (fun _ => same) fun _ => ok_cond (fun _ => ok_bind (o_Put (hb h1) h.key _ hu) fun y hy => ok_some hy) fun _ => ?_
 have loop : ∀ (m n : Nat) (i : Int) (a : List DICell), 0 ≤ i → i ≤ l.length → (l.length : Int) ≤ i + m → m < n → (a.length : Int) ≤ i → (∀ c ∈ a, ByteArray.size c.1 ≤ 1000) → Ok (R_s_Undone_7 n l a i u.1 u.2.1 u.2.2.1) CellsI := by
  intro m
  induction m with
  | zero =>
   intro n i a h0 h1 h2 h3 h4 h5
   obtain ⟨n, rfl⟩ : ∃ m, n = m + 1 := ⟨n - 1, by omega⟩
   rw [R_s_Undone_7_eq]
   exact ok_dec (fun h => by omega) (fun _ => ok_some ⟨by omega, h5⟩)
  | succ m ih =>
   intro n i a h0 h1 h2 h3 h4 h5
   obtain ⟨n, rfl⟩ : ∃ m, n = m + 1 := ⟨n - 1, by omega⟩
   rw [R_s_Undone_7_eq, wrap64 (n := i + 1) (by omega) (by omega)]
   refine ok_dec (fun _ => ok_if h0 (ok_nth (by omega) fun y hy => ok_ndec (fun _ => ok_if h0 (ok_nth (by omega) fun y hy => ok_if (by simp only [List.length_singleton]; unfold lim; omega) ?_)) (fun _ => ?_))) (fun _ => ok_some ⟨by omega, h5⟩)
   ·exact ih n (i + 1) _ (by omega) (by omega) (by omega) (by omega) (by rw [len_snoc]; omega) (key_snoc h5 (h.key y hy))
   ·exact ih n (i + 1) a (by omega) (by omega) (by omega) (by omega) (by omega) h5
 exact loop l.length big 0 [] (by omega) (by omega) (by omega) (by unfold big; omega) (by simp) (by simp)
theorem o_UndoneAll {l : List DICell} (h : CellsI l) {us : List DIUndo} (hu : UndosI us) : Ok (Q_s_UndoneAll big l us) CellsI := by
 have hl := h.len; have hun := hu.len
 rw [Q_s_UndoneAll_eq, wrap64 (n := (↑(List.length us) : Int) - 1) (by omega) (by omega)]
 refine ok_if (by unfold lim; omega) ?_
 have loop : ∀ (m n : Nat) (i : Int) (l : List DICell), i < us.length → i + 1 ≤ m → -1 ≤ i → m < n → CellsI l → Ok (R_s_UndoneAll_3 n us l i) CellsI := by
  intro m
  induction m with
  | zero =>
   intro n i l h0 h1 h2 h3 h4
   obtain ⟨n, rfl⟩ : ∃ m, n = m + 1 := ⟨n - 1, by omega⟩
   rw [R_s_UndoneAll_3_eq]
   exact ok_dec (fun h => by omega) (fun _ => ok_some h4)
  | succ m ih =>
   intro n i l h0 h1 h2 h3 h4
   obtain ⟨n, rfl⟩ : ∃ m, n = m + 1 := ⟨n - 1, by omega⟩
   rw [R_s_UndoneAll_3_eq, wrap64 (n := i - 1) (by omega) (by omega)]
   exact ok_dec (fun hc => ok_if hc (ok_nth (by omega) fun u hm => ok_bind (o_Undone h4 u (hu.key u hm)) fun y hy => ih n (i - 1) y (by omega) (by omega) (by omega) (by omega) hy)) (fun _ => ok_some h4)
 exact loop us.length big _ l (by omega) (by omega) (by omega) (by unfold big; omega) h
theorem o_DoneBack {l : List DICell} (h : CellsI l) {cs : List DICmd} (hc : CmdsI cs) : Ok (Q_s_DoneBack big l cs) fun r => CellsI r.1 ∧ List.length r.2.1 ≤ 4 ∧ ∀ u ∈ r.2.1, ByteArray.size u.1 ≤ 1000 := by
 have hl := h.len; have hcl := hc.len
 rw [Q_s_DoneBack_eq]
 refine ok_if (by unfold lim; omega) ?_
 have loop : ∀ (m n : Nat) (i : Int) (l : List DICell) (a : List DIUndo), 0 ≤ i → i ≤ cs.length → (cs.length : Int) ≤ i + m → m < n → CellsI l → (a.length : Int) ≤ i → (∀ u ∈ a, ByteArray.size u.1 ≤ 1000) →
   Ok (R_s_DoneBack_4 n cs l a i) fun r => CellsI r.1 ∧ List.length r.2.1 ≤ 4 ∧ ∀ u ∈ r.2.1, ByteArray.size u.1 ≤ 1000 := by
  intro m
  induction m with
  | zero =>
   intro n i l a h0 h1 h2 h3 h4 h5 h6
   obtain ⟨n, rfl⟩ : ∃ m, n = m + 1 := ⟨n - 1, by omega⟩
   rw [R_s_DoneBack_4_eq]
   exact ok_dec (fun h => by omega) (fun _ => ok_some ⟨h4, by show a.length ≤ 4; omega, h6⟩)
  | succ m ih =>
   intro n i l a h0 h1 h2 h3 h4 h5 h6
   obtain ⟨n, rfl⟩ : ∃ m, n = m + 1 := ⟨n - 1, by omega⟩
   rw [R_s_DoneBack_4_eq, wrap64 (n := i + 1) (by omega) (by omega)]
   refine ok_dec (fun _ => ok_if h0 (ok_nth (by omega) fun c hm => ok_bind (o_UndoOf h4 c.2.1) fun u hu => ok_if (by simp only [List.length_singleton]; unfold lim; omega) (ok_if h0 (ok_nth (by omega) fun c2 hm2 => ok_bind (o_Done h4 c2 (hc.key c2 hm2)) fun y hy => ?_)))) (fun _ => ok_some ⟨h4, by show a.length ≤ 4; omega, h6⟩)
   refine ih n (i + 1) _ _ (by omega) (by omega) (by omega) (by omega) hy (by rw [len_snoc]; omega) fun v hv => ?_
   rcases List.mem_append.1 (show v ∈ a ++ [u] from hv) with hv | hv
   ·exact h6 v hv
   ·simp only [List.mem_singleton] at hv; subst hv; rw [hu]; exact hc.key c hm
 exact loop cs.length big 0 l [] (by omega) (by omega) (by omega) (by unfold big; omega) h (by simp) (by simp)
theorem o_Back {B : Nat} {p : DIPeer} (h : PeerI B p) : Ok (Q_s_l10Back big p) fun r => PeerI B r.2.1 ∧ r.2.1.1 = p.1 ∧ r.2.1.2.2.2.2.2.2.2.1 = [] ∧ r.2.1.2.2.2.2.2.2.2.2.1 = [] ∧ r.2.1.2.2.2.2.2.1 = p.2.2.2.2.2.1 := by
 rw [Q_s_l10Back_eq]
 exact ok_bind (o_UndoneAll h.cells h.undos) fun y hy => ok_some ⟨⟨h.row, hy, Nat.zero_le _, ⟨Nat.zero_le _, by simp⟩, h.votes, h.news, h.view⟩, rfl, rfl, rfl, rfl⟩
theorem o_Last {B : Nat} (hB : B ≤ 1000000000) {p : DIPeer} (h : PeerI B p) : Ok (Q_s_l10Last big p) fun _ => True := by
 have := h.row
 rw [Q_s_l10Last_eq, wrap64 (n := (↑(List.length p.2.2.2.2.2.1) : Int) - 1) (by omega) (by omega)]
 exact ok_dec (fun _ => ok_some trivial) (fun _ => ok_if (by omega) (ok_nth (by omega) fun _ _ => ok_some trivial))
theorem o_RowCells {t : List DIBlock} (ht : TreeI t) {row : List Int} (hr : row.length ≤ 1000000000) : Ok (Q_s_RowCells big t row) CellsI := by
 have hlo := ht.lo; have hhi := ht.hi
 rw [Q_s_RowCells_eq]
 have loop : ∀ (m n : Nat) (i : Int) (l : List DICell), 0 ≤ i → i ≤ row.length → (row.length : Int) ≤ i + m → m < n → CellsI l → Ok (R_s_RowCells_3 n t row l i) CellsI := by
  intro m
  induction m with
  | zero =>
   intro n i l h0 h1 h2 h3 h4
   obtain ⟨n, rfl⟩ : ∃ m, n = m + 1 := ⟨n - 1, by omega⟩
   rw [R_s_RowCells_3_eq]
   exact ok_dec (fun h => by omega) (fun _ => ok_some h4)
  | succ m ih =>
   intro n i l h0 h1 h2 h3 h4
   obtain ⟨n, rfl⟩ : ∃ m, n = m + 1 := ⟨n - 1, by omega⟩
   rw [R_s_RowCells_3_eq, wrap64 (n := i + 1) (by omega) (by omega), wrap64 (n := (↑(List.length t) : Int) - 1) (by omega) (by omega)]
   refine ok_dec (fun hi => ?_) (fun _ => ok_some h4)
   have hlt : i.toNat < row.length := by omega
   rw [nth_at hlt]
   simp only [e_In, Option.bind_some]
   refine ok_if h0 (ok_cond (fun hc => ?_) (fun _ => ih n (i + 1) l (by omega) (by omega) (by omega) (by omega) h4))
   simp only [Bool.and_eq_true, decide_eq_true_eq] at hc
   exact ok_if h0 (ok_if hc.1 (ok_nth (by omega) fun b hb => ok_bind (o_DoneAll h4 (ht.cmds b hb).key (by have := (ht.cmds b hb).len; omega)) fun y hy => ih n (i + 1) _ (by omega) (by omega) (by omega) (by omega) hy))
 exact loop row.length big 0 [] (by omega) (by omega) (by omega) (by unfold big; omega) ⟨by simp, by simp⟩
end Go.Sx.Tryz
set_option maxRecDepth 100000
namespace Go.Sx.Tryz
open Go Go.Sx Go.Proofs
theorem th_loop {t : List DIBlock} (ht : TreeI t) {more : List Int} (hm : more.length ≤ 60) (hx : ∀ x ∈ more, 0 ≤ x ∧ x < t.length) (z0 : Int) (z1 : Int) (z2 : Int) (z3 : Int) (z4 : Int) (z5 : Int) (z6 : Int) (z7 : Int) (z8 : Int) (z9 : Int) (z10 : Int) (z11 : Int) (z12 : Int) (z13 : Int) (z14 : List Int) (z15 : List DICell) (z16 : List Int) (z17 : List DIUndo) (z18 : List DIVote) (z19 : List DILetter) (z20 : Int) (c0 : Int) (c1 : Int) (c2 : Int) (c3 : Int) (c4 : Int) (c5 : Int) (c6 : Int) (c7 : Int) (c8 : Int) (c9 : Int) (c10 : Int) (c11 : Int) (c12 : Int) (c13 : Int) (c16 : List Int) (c17 : List DIUndo) (c18 : List DIVote) (c19 : List DILetter) (c20 : Int) :
  ∀ (m n : Nat) (i : Int) (row : List Int) (cells : List DICell), 0 ≤ i → i ≤ more.length → (more.length : Int) ≤ i + m → m < n → CellsI cells → (row.length : Int) ≤ 1100000000 + i →
   Ok (R_s_Through_7 n t i z0 z1 z2 z3 z4 z5 z6 z7 z8 z9 z10 z11 z12 z13 z14 z15 z16 z17 z18 z19 z20 c0 c1 c2 c3 c4 c5 c6 c7 c8 c9 c10 c11 c12 c13 row cells c16 c17 c18 c19 c20 more) fun r => ∃ (row' : List Int) (cells' : List DICell), r = (c0, c1, (c2, c3, c4, c5, ()), (c6, c7, c8, c9, ()), (c10, c11, c12, c13, ()), row', cells', c16, c17, c18, c19, c20, ()) ∧ (row'.length : Int) ≤ row.length + more.length - i ∧ CellsI cells' := by
 intro m
 induction m with
 | zero =>
  intro n i row cells h0 h1 h2 h3 h4 h5
  obtain ⟨n, rfl⟩ : ∃ m, n = m + 1 := ⟨n - 1, by omega⟩
  rw [R_s_Through_7_eq]
  exact ok_dec (fun h => by omega) (fun _ => ok_some ⟨row, cells, rfl, by omega, h4⟩)
 | succ m ih =>
  intro n i row cells h0 h1 h2 h3 h4 h5
  obtain ⟨n, rfl⟩ : ∃ m, n = m + 1 := ⟨n - 1, by omega⟩
  rw [R_s_Through_7_eq, wrap64 (n := i + 1) (by omega) (by omega)]
  refine ok_dec (fun hi => ok_if h0 (ok_if hi (ok_nth (by omega) fun y hy => ok_if (by simp only [List.length_singleton]; unfold lim; omega) (ok_if h0 (ok_if hi (ok_nth (by omega) fun k hk => ok_if (hx k hk).1 (ok_nth (by have := hx k hk; omega) fun b hb => ok_bind (o_DoneAll h4 (ht.cmds b hb).key (by have := (ht.cmds b hb).len; omega)) fun q hq => ?_))))))) (fun _ => ok_some ⟨row, cells, rfl, by omega, h4⟩)
  refine ok_mono (ih n (i + 1) _ _ (by omega) (by omega) (by omega) (by omega) hq (by rw [len_snoc]; omega)) fun r hr => ?_
  obtain ⟨row', cells', e, g1, g2⟩ := hr
  exact ⟨row', cells', e, by rw [len_snoc] at g1; omega, g2⟩
theorem o_Through {B : Nat} (hB : B ≤ 900000000) {t : List DIBlock} (ht : TreeI t) {p : DIPeer} (h : PeerI B p) (k : Int) : Ok (Q_s_Through big t p k) fun r => PeerI (B + 60) r ∧ r.1 = p.1 := by
 rw [Q_s_Through_eq, e_Copy (by omega) h]
 simp only [Option.bind_some]
 refine ok_bind (o_Last (by omega) h) fun l _ => ok_bind (o_Extends ht k l) fun e _ => ok_not (fun _ => ok_some ⟨h.mono (by omega), rfl⟩) fun _ => ok_bind (o_Back h) fun y hy => ok_bind (o_Last (by omega) h) fun l2 _ => ok_bind (o_RowAfter ht k l2) fun more hmore => ?_
 obtain ⟨hp, hid, _, _, _⟩ := hy
 have hr := hp.row
 refine ok_mono (th_loop ht hmore.1 hmore.2 _ _ _ _ _ _ _ _ _ _ _ _ _ _ _ _ _ _ _ _ _ _ _ _ _ _ _ _ _ _ _ _ _ _ _ _ _ _ _ _ more.length big 0 _ _ (by omega) (by omega) (by omega) (by have := hmore.1; unfold big; omega) hp.cells (by omega)) fun r hr2 => ?_
 obtain ⟨row', cells', e, g1, g2⟩ := hr2
 subst e
 have := hmore.1
 exact ⟨⟨by show row'.length ≤ B + 60; omega, g2, hp.early, hp.undos, Nat.le_trans hp.votes (by omega), Nat.le_trans hp.news (by omega), hp.view⟩, hid⟩
theorem te_loop {t : List DIBlock} (ht : TreeI t) {more : List Int} (hm : more.length ≤ 60) (hx : ∀ x ∈ more, 0 ≤ x ∧ x < t.length) (z0 : Int) (z1 : Int) (z2 : Int) (z3 : Int) (z4 : Int) (z5 : Int) (z6 : Int) (z7 : Int) (z8 : Int) (z9 : Int) (z10 : Int) (z11 : Int) (z12 : Int) (z13 : Int) (z14 : List Int) (z15 : List DICell) (z16 : List Int) (z17 : List DIUndo) (z18 : List DIVote) (z19 : List DILetter) (z20 : Int) (c0 : Int) (c1 : Int) (c2 : Int) (c3 : Int) (c4 : Int) (c5 : Int) (c6 : Int) (c7 : Int) (c8 : Int) (c9 : Int) (c10 : Int) (c11 : Int) (c12 : Int) (c13 : Int) (c14 : List Int) (c18 : List DIVote) (c19 : List DILetter) (c20 : Int) :
  ∀ (m n : Nat) (i : Int) (cells : List DICell) (early : List Int) (undos : List DIUndo), 0 ≤ i → i ≤ more.length → (more.length : Int) ≤ i + m → m < n → CellsI cells → (early.length : Int) ≤ i → (undos.length : Int) ≤ 4 * i → (∀ u ∈ undos, ByteArray.size u.1 ≤ 1000) →
   Ok (R_s_TooEarly_5 n t i z0 z1 z2 z3 z4 z5 z6 z7 z8 z9 z10 z11 z12 z13 z14 z15 z16 z17 z18 z19 z20 c0 c1 c2 c3 c4 c5 c6 c7 c8 c9 c10 c11 c12 c13 c14 cells early undos c18 c19 c20 more) fun r => ∃ (cells' : List DICell) (early' : List Int) (undos' : List DIUndo), r = (c0, c1, (c2, c3, c4, c5, ()), (c6, c7, c8, c9, ()), (c10, c11, c12, c13, ()), c14, cells', early', undos', c18, c19, c20, ()) ∧ CellsI cells' ∧ early'.length ≤ 60 ∧ UndosI undos' := by
 intro m
 induction m with
 | zero =>
  intro n i cells early undos h0 h1 h2 h3 h4 h5 h6 h7
  obtain ⟨n, rfl⟩ : ∃ m, n = m + 1 := ⟨n - 1, by omega⟩
  rw [R_s_TooEarly_5_eq]
  exact ok_dec (fun h => by omega) (fun _ => ok_some ⟨cells, early, undos, rfl, h4, by omega, ⟨by omega, h7⟩⟩)
 | succ m ih =>
  intro n i cells early undos h0 h1 h2 h3 h4 h5 h6 h7
  obtain ⟨n, rfl⟩ : ∃ m, n = m + 1 := ⟨n - 1, by omega⟩
  rw [R_s_TooEarly_5_eq, wrap64 (n := i + 1) (by omega) (by omega)]
  refine ok_dec (fun hi => ok_if h0 (ok_if hi (ok_nth (by omega) fun k hk => ok_if (hx k hk).1 (ok_nth (by have := hx k hk; omega) fun b hb => ok_bind (o_DoneBack h4 (ht.cmds b hb)) fun q hq => ok_if h0 (ok_if hi (ok_nth (by omega) fun k2 hk2 => ok_if (by simp only [List.length_singleton]; unfold lim; omega) (ok_if (by have := hq.2.1; unfold lim; omega) ?_))))))) (fun _ => ok_some ⟨cells, early, undos, rfl, h4, by omega, ⟨by omega, h7⟩⟩)
  refine ih n (i + 1) _ _ _ (by omega) (by omega) (by omega) (by omega) hq.1 (by rw [len_snoc]; omega) (by rw [List.append_eq, List.length_append]; have := hq.2.1; omega) fun u hu => ?_
  rcases List.mem_append.1 (show u ∈ undos ++ q.2.1 from hu) with hu | hu
  ·exact h7 u hu
  ·exact hq.2.2 u hu
theorem o_TooEarly {B : Nat} (hB : B ≤ 900000000) {t : List DIBlock} (ht : TreeI t) {p : DIPeer} (h : PeerI B p) (k : Int) : Ok (Q_s_TooEarly big t p k) fun r => PeerI B r ∧ r.1 = p.1 := by
 rw [Q_s_TooEarly_eq, e_Copy (by omega) h]
 simp only [Option.bind_some]
 refine ok_bind (o_Back h) fun y hy => ok_bind (o_Last (by omega) h) fun l2 _ => ok_bind (o_RowAfter ht k l2) fun more hmore => ?_
 obtain ⟨hp, hid, he, hu, _⟩ := hy
 refine ok_mono (te_loop ht hmore.1 hmore.2 _ _ _ _ _ _ _ _ _ _ _ _ _ _ _ _ _ _ _ _ _ _ _ _ _ _ _ _ _ _ _ _ _ _ _ _ _ _ _ more.length big 0 _ _ _ (by omega) (by omega) (by omega) (by have := hmore.1; unfold big; omega) hp.cells (by rw [he]; simp) (by rw [hu]; simp) (by rw [hu]; simp)) fun r hr2 => ?_
 obtain ⟨cells', early', undos', e, g1, g2, g3⟩ := hr2
 subst e
 exact ⟨⟨hp.row, g1, g2, g3, hp.votes, hp.news, hp.view⟩, hid⟩
theorem o_Learn {B : Nat} (hB : B ≤ 800000000) {t : List DIBlock} (ht : TreeI t) {p : DIPeer} (h : PeerI B p) (k : Int) : Ok (Q_s_ChainLearn big t p k) fun r => PeerI (B + 60) r ∧ r.1 = p.1 := by
 rw [Q_s_ChainLearn_eq, e_Copy (by omega) h]
 simp only [Option.bind_some]
 refine ok_bind (o_Three ht k) fun y hy => ok_not (fun _ => ok_some ⟨h.mono (by omega), rfl⟩) fun hc => ?_
 obtain ⟨h0, h1, h2, h3⟩ := hy hc
 refine ok_if h0.1 (ok_nth (by omega) fun b _ => ok_bind (o_Higher _ _) fun q1 _ => ok_if h1.1 (ok_nth (by omega) fun b2 _ => ok_bind (o_Higher _ _) fun q2 _ => ok_bind (o_ThreeRow ht k) fun d _ => ?_))
 have hp : PeerI B (p.1, p.2.1, q1, q2, p.2.2.2.2) := ⟨h.row, h.cells, h.early, h.undos, h.votes, h.news, h.view⟩
 refine ok_cond (fun _ => ok_bind (o_Through (by omega) ht hp d.1) fun r hr => ok_bind (o_Next h1 h2) fun _ _ => ok_cond (fun _ => ok_bind (o_TooEarly (by omega) ht hr.1 _) fun s hs => ok_some ⟨hs.1, hs.2.trans hr.2⟩) (fun _ => ok_some hr))
  (fun _ => ok_bind (o_Next h1 h2) fun _ _ => ok_cond (fun _ => ok_bind (o_TooEarly (by omega) ht hp _) fun s hs => ok_some ⟨hs.1.mono (by omega), hs.2⟩) (fun _ => ok_some ⟨hp.mono (by omega), rfl⟩))
end Go.Sx.Tryz
set_option maxRecDepth 100000
namespace Go.Sx.Tryz
open Go Go.Sx Go.Proofs
theorem o_Voted {B : Nat} (hB : B ≤ 1000000000) {p : DIPeer} (h : PeerI B p) (a b c : Int) : Ok (Q_s_Voted big p a b c) fun r => PeerI B r.1 ∧ r.1.1 = p.1 := by
 rw [Q_s_Voted_eq, e_Copy hB h]
 simp only [Option.bind_some, both_self]
 exact ok_some ⟨⟨h.row, h.cells, h.early, h.undos, h.votes, h.news, h.view⟩, rfl⟩
theorem o_Give {B : Nat} (hB : B ≤ 1000000000) {p : DIPeer} (h : PeerI B p) (a b c d : Int) : Ok (Q_s_l11Give big p a b c d) fun r => PeerI B r.2.1 ∧ r.2.1.1 = p.1 ∧ List.length r.1 ≤ 1 := by
 rw [Q_s_l11Give_eq]
 exact ok_bind (o_Voted hB h a b c) fun y hy => ok_some ⟨hy.1, hy.2, Nat.le_refl _⟩
theorem o_TimedOut {B : Nat} (hB : B ≤ 1000000000) {p : DIPeer} (h : PeerI B p) (n : Int) : Ok (Q_s_TimedOut big p n) fun r => PeerI B r.1 ∧ r.1.1 = p.1 := by
 rw [Q_s_TimedOut_eq, e_Copy hB h]
 simp only [e_In, Option.bind_some]
 exact ok_dec (fun _ => ok_some ⟨h, rfl⟩) fun _ => ok_not (fun _ => ok_some ⟨h, rfl⟩) fun _ => ok_bind (o_Entered hB h _) fun y hy => ok_bind (o_LeaderOf _ _) fun _ _ => ok_some hy
theorem o_Qc {B : Nat} (hB : B ≤ 800000000) {t : List DIBlock} (ht : TreeI t) {p : DIPeer} (h : PeerI B p) (n : Int) (l : DILetter) : Ok (Q_s_l11Qc big t n p l) fun r => PeerI (B + 60) r.2.1 ∧ r.2.1.1 = p.1 ∧ List.length r.1 ≤ 1 := by
 rw [Q_s_l11Qc_eq]
 refine ok_bind (o_Entered (by omega) h _) fun y hy => ?_
 obtain ⟨hp, hid⟩ := hy
 have stay : ∀ q : DIPeer, PeerI B q → q.1 = p.1 → PeerI (B + 60) q ∧ q.1 = p.1 ∧ List.length ([] : List DILetter) ≤ 1 := fun q hq e => ⟨hq.mono (by omega), e, Nat.zero_le _⟩
 refine ok_dec (fun _ => ok_bind (o_Higher _ _) fun q _ => ?_) fun _ => ok_dec (fun _ => ok_bind (o_Higher _ _) fun q _ => ?_) fun _ => ok_dec (fun _ => ok_bind (o_Through (by omega) ht hp _) fun z hz => ok_bind (o_Entered (by omega) hz.1 _) fun z2 hz2 => ok_bind (o_LeaderOf _ _) fun _ _ => ok_some ⟨hz2.1, hz2.2.trans (hz.2.trans hid), Nat.le_refl _⟩) fun _ => ok_some (stay y hp hid)
 ·have hq : PeerI B (y.1, y.2.1, q, y.2.2.2) := ⟨hp.row, hp.cells, hp.early, hp.undos, hp.votes, hp.news, hp.view⟩
  exact ok_bind (o_May _ _ _) fun _ _ => ok_not (fun _ => ok_some (stay _ hq hid)) fun _ => ok_bind (o_Give (by omega) hq _ _ _ _) fun z hz => ok_some ⟨hz.1.mono (by omega), hz.2.1.trans hid, hz.2.2⟩
 ·have hq : PeerI B (y.1, y.2.1, y.2.2.1, q, y.2.2.2.2) := ⟨hp.row, hp.cells, hp.early, hp.undos, hp.votes, hp.news, hp.view⟩
  exact ok_bind (o_May _ _ _) fun _ _ => ok_not (fun _ => ok_some (stay _ hq hid)) fun _ => ok_bind (o_Give (by omega) hq _ _ _ _) fun z hz => ok_some ⟨hz.1.mono (by omega), hz.2.1.trans hid, hz.2.2⟩
set_option maxHeartbeats 16000000 in
theorem o_LetterOk {t : List DIBlock} (ht : TreeI t) (n : Int) (l : DILetter) : Ok (Q_s_LetterOk big t n l) fun _ => True := by
 have hlo := ht.lo; have hhi := ht.hi
 have hW : IntKind.i64.wrap ((↑(List.length t) : Int) - 1) = (↑(List.length t) : Int) - 1 := wrap64 (by omega) (by omega)
 rw [Q_s_LetterOk_eq]
 simp only [e_In, Option.bind_some, hW]
 by_cases hb : (1 : Int) ≤ l.2.2.2.2.1 ∧ l.2.2.2.2.1 ≤ (↑(List.length t) : Int) - 1
 ·have e1 : (decide ((1 : Int) ≤ l.2.2.2.2.1) && decide (l.2.2.2.2.1 ≤ (↑(List.length t) : Int) - 1)) = true := by
   rw [decide_eq_true hb.1, decide_eq_true hb.2]; rfl
  have hb0 : (0 : Int) ≤ l.2.2.2.2.1 := by omega
  have hb1 : Int.toNat l.2.2.2.2.1 < t.length := by omega
  simp only [e1, cond_true]
  repeat' with_reducible first
   | exact ok_some trivial
   | refine ok_cond (fun _ => ?_) (fun _ => ?_)
   | refine ok_if hb0 ?_
   | refine ok_nth hb1 fun _ _ => ?_
   | refine ok_bind (o_VoteOk ht _ _) fun _ _ => ?_
   | refine ok_bind (o_QcRight ht _ _) fun _ _ => ?_
 ·have e1 : (decide ((1 : Int) ≤ l.2.2.2.2.1) && decide (l.2.2.2.2.1 ≤ (↑(List.length t) : Int) - 1)) = false := by
   rw [← Bool.not_eq_true]
   intro h
   simp only [Bool.and_eq_true, decide_eq_true_eq] at h
   exact hb h
  simp only [e1, cond_false]
  repeat' with_reducible first
   | exact ok_some trivial
   | refine ok_cond (fun _ => ?_) (fun _ => ?_)
   | refine ok_bind (o_VoteOk ht _ _) fun _ _ => ?_
   | refine ok_bind (o_QcRight ht _ _) fun _ _ => ?_
end Go.Sx.Tryz
set_option maxRecDepth 100000
namespace Go.Sx.Tryz
open Go Go.Sx Go.Proofs
theorem new_loop4 {B : Nat} (hB : B ≤ 1000000000) (b0 : Int) (b1 : Int) (b2 : Int) (b3 : Int) (b4 : Int) (b5 : Int) (b6 : Int) (b7 : Int) (b8 : Int) (b9 : Int) (b10 : Int) (b11 : Int) (b12 : Int) (b13 : Int) (b14 : List Int) (b15 : List DICell) (b16 : List Int) (b17 : List DIUndo) (b18 : List DIVote) (b19 : List DILetter) (b20 : Int) (h : PeerI B (b0, b1, (b2, b3, b4, b5, ()), (b6, b7, b8, b9, ()), (b10, b11, b12, b13, ()), b14, b15, b16, b17, b18, b19, b20, ())) (c0 c1 c2 c3 c4 c5 c6 c7 c8 c9 c10 c11 c12 : Int) :
  ∀ (m n : Nat) (i : Int), 0 ≤ i → i ≤ b19.length → (b19.length : Int) ≤ i + m → m < n →
   Ok (R_s_l11New_4 n i b0 b1 b2 b3 b4 b5 b6 b7 b8 b9 b10 b11 b12 b13 b14 b15 b16 b17 b18 b19 b20 c0 c1 c2 c3 c4 c5 c6 c7 c8 c9 c10 c11 c12) fun r => PeerI (B + 1) r.2.1 ∧ r.2.1.1 = b0 := by
 have hn : b19.length ≤ B := h.news
 have fin : ∀ n : Nat, Ok (R_s_l11New_4 (n + 1) b19.length b0 b1 b2 b3 b4 b5 b6 b7 b8 b9 b10 b11 b12 b13 b14 b15 b16 b17 b18 b19 b20 c0 c1 c2 c3 c4 c5 c6 c7 c8 c9 c10 c11 c12) fun r => PeerI (B + 1) r.2.1 ∧ r.2.1.1 = b0 := by
  intro n
  rw [R_s_l11New_4_eq]
  refine ok_dec (fun h => by omega) (fun _ => ?_)
  simp only [both_self]
  refine ok_if (by unfold lim; omega) (ok_if (by simp only [List.length_singleton]; unfold lim; omega) (ok_some ⟨⟨Nat.le_trans h.row (by omega), h.cells, h.early, h.undos, Nat.le_trans h.votes (by omega), ?_, h.view⟩, rfl⟩))
  show (b19 ++ _).length ≤ B + 1
  simp only [List.length_append, List.length_singleton]; omega
 intro m
 induction m with
 | zero =>
  intro n i h0 h1 h2 h3
  obtain ⟨n, rfl⟩ : ∃ m, n = m + 1 := ⟨n - 1, by omega⟩
  obtain rfl : i = b19.length := by omega
  exact fin n
 | succ m ih =>
  intro n i h0 h1 h2 h3
  obtain ⟨n, rfl⟩ : ∃ m, n = m + 1 := ⟨n - 1, by omega⟩
  rcases Int.lt_or_le i b19.length with hl | hl
  ·rw [R_s_l11New_4_eq, wrap64 (n := i + 1) (by omega) (by omega)]
   exact ok_dec (fun hi => ok_if h0 (ok_if hi (ok_nth (by omega) fun y hy => ok_dec (fun _ => ok_some ⟨h.mono (by omega), rfl⟩) (fun _ => ih n (i + 1) (by omega) (by omega) (by omega) (by omega))))) (fun h => by omega)
  ·obtain rfl : i = b19.length := by omega
   exact fin n
theorem new_all {B : Nat} (hB : B ≤ 1000000000) (b0 : Int) (b1 : Int) (b2 : Int) (b3 : Int) (b4 : Int) (b5 : Int) (b6 : Int) (b7 : Int) (b8 : Int) (b9 : Int) (b10 : Int) (b11 : Int) (b12 : Int) (b13 : Int) (b14 : List Int) (b15 : List DICell) (b16 : List Int) (b17 : List DIUndo) (b18 : List DIVote) (b19 : List DILetter) (b20 : Int) (h : PeerI B (b0, b1, (b2, b3, b4, b5, ()), (b6, b7, b8, b9, ()), (b10, b11, b12, b13, ()), b14, b15, b16, b17, b18, b19, b20, ())) (c0 c1 c2 c3 c4 c5 c6 c7 c8 c9 c10 c11 c12 : Int) : Ok (R_s_l11New_4 big 0 b0 b1 b2 b3 b4 b5 b6 b7 b8 b9 b10 b11 b12 b13 b14 b15 b16 b17 b18 b19 b20 c0 c1 c2 c3 c4 c5 c6 c7 c8 c9 c10 c11 c12) fun r => PeerI (B + 1) r.2.1 ∧ r.2.1.1 = b0 := by
 have hn : b19.length ≤ B := h.news
 exact new_loop4 hB _ _ _ _ _ _ _ _ _ _ _ _ _ _ _ _ _ _ _ _ _ h _ _ _ _ _ _ _ _ _ _ _ _ _ b19.length big 0 (by omega) (by omega) (by omega) (by unfold big; omega)
theorem o_New11 {B : Nat} (hB : B ≤ 1000000000) {p : DIPeer} (h : PeerI B p) (n : Int) (l : DILetter) : Ok (Q_s_l11New big p n l) fun r => PeerI (B + 1) r.2.1 ∧ r.2.1.1 = p.1 := by
 rw [Q_s_l11New_eq]
 have go : ∀ y : DIPeer, PeerI B y ∧ y.1 = p.1 → ∀ c0 c1 c2 c3 c4 c5 c6 c7 c8 c9 c10 c11 c12 : Int, Ok (R_s_l11New_4 big 0 y.1 y.2.1 y.2.2.1.1 y.2.2.1.2.1 y.2.2.1.2.2.1 y.2.2.1.2.2.2.1 y.2.2.2.1.1 y.2.2.2.1.2.1 y.2.2.2.1.2.2.1 y.2.2.2.1.2.2.2.1 y.2.2.2.2.1.1 y.2.2.2.2.1.2.1 y.2.2.2.2.1.2.2.1 y.2.2.2.2.1.2.2.2.1 y.2.2.2.2.2.1 y.2.2.2.2.2.2.1 y.2.2.2.2.2.2.2.1 y.2.2.2.2.2.2.2.2.1 y.2.2.2.2.2.2.2.2.2.1 y.2.2.2.2.2.2.2.2.2.2.1 y.2.2.2.2.2.2.2.2.2.2.2.1 c0 c1 c2 c3 c4 c5 c6 c7 c8 c9 c10 c11 c12) fun r => PeerI (B + 1) r.2.1 ∧ r.2.1.1 = p.1 := by
  intro y hy c0 c1 c2 c3 c4 c5 c6 c7 c8 c9 c10 c11 c12
  rw [← hy.2]
  exact new_all hB _ _ _ _ _ _ _ _ _ _ _ _ _ _ _ _ _ _ _ _ _ hy.1 _ _ _ _ _ _ _ _ _ _ _ _ _
 refine ok_bind (o_LeaderOf _ _) fun z _ => ?_
 have stay : PeerI (B + 1) p ∧ p.1 = p.1 := ⟨h.mono (by omega), rfl⟩
 refine ok_ndec (fun _ => ok_some stay) fun _ => ok_ndec (fun _ => ok_ndec (fun _ => ok_some stay) fun _ => ?_) fun _ => ?_
 ·exact ok_bind (o_Entered hB h _) fun y hy => go y hy _ _ _ _ _ _ _ _ _ _ _ _ _
 ·exact ok_bind (o_Entered hB h _) fun y hy => go y hy _ _ _ _ _ _ _ _ _ _ _ _ _
theorem vote_loop {B : Nat} (b0 : Int) (b1 : Int) (b2 : Int) (b3 : Int) (b4 : Int) (b5 : Int) (b6 : Int) (b7 : Int) (b8 : Int) (b9 : Int) (b10 : Int) (b11 : Int) (b12 : Int) (b13 : Int) (b14 : List Int) (b15 : List DICell) (b16 : List Int) (b17 : List DIUndo) (b18 : List DIVote) (b19 : List DILetter) (b20 : Int) (h : PeerI B (b0, b1, (b2, b3, b4, b5, ()), (b6, b7, b8, b9, ()), (b10, b11, b12, b13, ()), b14, b15, b16, b17, b18, b19, b20, ())) (s1 : Int) (hs : s1 ≤ 7) (c0 c1 c2 c3 : Int) :
  ∀ (m n : Nat) (i : Int) (l : List DILetter), 0 ≤ i → i ≤ 7 → (7 : Int) ≤ i + m → m < n → (l.length : Int) ≤ i →
   Ok (R_s_l11Vote_17 n s1 l i b0 b1 b2 b3 b4 b5 b6 b7 b8 b9 b10 b11 b12 b13 b14 b15 b16 b17 b18 b19 b20 c0 c1 c2 c3) fun r => PeerI B r.2.1 ∧ r.2.1.1 = b0 ∧ List.length r.1 ≤ 7 := by
 intro m
 induction m with
 | zero =>
  intro n i l h0 h1 h2 h3 h4
  obtain ⟨n, rfl⟩ : ∃ m, n = m + 1 := ⟨n - 1, by omega⟩
  rw [R_s_l11Vote_17_eq]
  exact ok_dec (fun h => by omega) (fun _ => ok_some ⟨h, rfl, by show l.length ≤ 7; omega⟩)
 | succ m ih =>
  intro n i l h0 h1 h2 h3 h4
  obtain ⟨n, rfl⟩ : ∃ m, n = m + 1 := ⟨n - 1, by omega⟩
  rw [R_s_l11Vote_17_eq, wrap64 (n := i + 1) (by omega) (by omega)]
  exact ok_dec (fun hi => ok_if (by simp only [List.length_singleton]; unfold lim; omega) (ih n (i + 1) _ (by omega) (by omega) (by omega) (by omega) (by rw [len_snoc]; omega))) (fun _ => ok_some ⟨h, rfl, by show l.length ≤ 7; omega⟩)
theorem vote_cut {B : Nat} (hB : B ≤ 1000000000) (b0 : Int) (b1 : Int) (b2 : Int) (b3 : Int) (b4 : Int) (b5 : Int) (b6 : Int) (b7 : Int) (b8 : Int) (b9 : Int) (b10 : Int) (b11 : Int) (b12 : Int) (b13 : Int) (b14 : List Int) (b15 : List DICell) (b16 : List Int) (b17 : List DIUndo) (b18 : List DIVote) (b19 : List DILetter) (b20 : Int) (h : PeerI B (b0, b1, (b2, b3, b4, b5, ()), (b6, b7, b8, b9, ()), (b10, b11, b12, b13, ()), b14, b15, b16, b17, b18, b19, b20, ())) (s1 : Int) (hs : s1 ≤ 7) (s8 : Int) (c0 c1 c2 c3 : Int) (n : Nat) (hn : 8 < n) :
  Ok (R_s_l11Vote_5000007 n s1 [] s8 b0 b1 b2 b3 b4 b5 b6 b7 b8 b9 b10 b11 b12 b13 b14 b15 b16 b17 b18 b19 b20 c0 c1 c2 c3) fun r => PeerI (B + 1) r.2.1 ∧ r.2.1.1 = b0 ∧ List.length r.1 ≤ 7 := by
 obtain ⟨n, rfl⟩ : ∃ m, n = m + 1 := ⟨n - 1, by omega⟩
 rw [R_s_l11Vote_5000007_eq]
 simp only [both_self]
 have hv : b18.length ≤ B := h.votes
 have e : List.length (List.append b18 [(c0, c1, c2, c3, ())]) = b18.length + 1 := by show List.length (b18 ++ _) = _; simp only [List.length_append, List.length_singleton]
 have stay : PeerI (B + 1) (b0, b1, (b2, b3, b4, b5, ()), (b6, b7, b8, b9, ()), (b10, b11, b12, b13, ()), b14, b15, b16, b17, b18, b19, b20, ()) ∧ b0 = b0 ∧ List.length ([] : List DILetter) ≤ 7 := ⟨h.mono (by omega), rfl, by decide⟩
 have put : ∀ q : DIQc, PeerI (B + 1) (b0, b1, q, (b6, b7, b8, b9, ()), (b10, b11, b12, b13, ()), b14, b15, b16, b17, List.append b18 [(c0, c1, c2, c3, ())], b19, b20, ()) := fun q =>
  ⟨Nat.le_trans h.row (by omega), h.cells, h.early, h.undos, by show List.length (List.append b18 [(c0, c1, c2, c3, ())]) ≤ _; omega, Nat.le_trans h.news (by omega), h.view⟩
 refine ok_ndec (fun _ => ok_some stay) fun _ => ok_bind (o_LeaderOf _ _) fun _ _ => ok_ndec (fun _ => ok_some stay) fun _ => ok_bind (o_Has _ _ (by omega)) fun _ _ => ok_cond (fun _ => ok_some stay) fun _ => ok_if (by unfold lim; omega) (ok_if (by simp only [List.length_singleton]; unfold lim; omega) (ok_bind (o_Signers _ (by omega) _ _ _) fun _ _ => ok_bind (o_CountOf _) fun _ _ => ok_bind (o_Quorum _) fun _ _ => ok_ndec (fun _ => ok_some ⟨put _, rfl, stay.2.2⟩) fun _ => ok_bind (o_QcOf _ (by omega) _ _ _ _) fun q _ => ok_dec (fun _ => ok_bind (o_Higher _ _) fun q _ => ok_some ⟨put q, rfl, stay.2.2⟩) fun _ => ?_))
 exact vote_loop _ _ _ _ _ _ _ _ _ _ _ _ _ _ _ _ _ _ _ _ b20 (put _) s1 hs _ _ _ _ 7 n 0 [] (by omega) (by omega) (by omega) (by omega) (by decide)
theorem o_Vote {B : Nat} (hB : B ≤ 1000000000) {p : DIPeer} (h : PeerI B p) (n : Int) (hn : n ≤ 7) (v : DIVote) : Ok (Q_s_l11Vote big p n v) fun r => PeerI (B + 1) r.2.1 ∧ r.2.1.1 = p.1 ∧ List.length r.1 ≤ 7 := by
 rw [Q_s_l11Vote_eq]
 have hb : 8 < big := by decide
 refine ok_dec (fun _ => ok_bind (o_LeaderOf _ _) fun _ _ => ok_dec (fun _ => ok_dec (fun _ => ok_bind (o_Entered hB h _) fun y hy => ?_) (fun _ => ?_)) (fun _ => ?_)) (fun _ => ?_)
 ·rw [← hy.2]; exact vote_cut hB _ _ _ _ _ _ _ _ _ _ _ _ _ _ _ _ _ _ _ _ _ hy.1 n hn _ _ _ _ _ big hb
 ·exact vote_cut hB _ _ _ _ _ _ _ _ _ _ _ _ _ _ _ _ _ _ _ _ _ h n hn _ _ _ _ _ big hb
 ·exact vote_cut hB _ _ _ _ _ _ _ _ _ _ _ _ _ _ _ _ _ _ _ _ _ h n hn _ _ _ _ _ big hb
 ·exact vote_cut hB _ _ _ _ _ _ _ _ _ _ _ _ _ _ _ _ _ _ _ _ _ h n hn _ _ _ _ _ big hb
theorem o_Voted11 {B : Nat} (hB : B ≤ 1000000000) {p : DIPeer} (h : PeerI B p) (n : Int) (hn : n ≤ 7) (v : DIVote) : Ok (Q_s_l11Voted big p n v) fun r => PeerI (B + 1) r.1 ∧ r.1.1 = p.1 ∧ List.length r.2.1 ≤ 7 := by
 rw [Q_s_l11Voted_eq]
 exact ok_bind (o_Vote hB h n hn v) fun y hy => ok_some hy
theorem o_Lead {B : Nat} (hB : B ≤ 1000000000) {t : List DIBlock} (ht : TreeI t) {p : DIPeer} (h : PeerI B p) (n : Int) (hn : n ≤ 7) (l : DILetter) : Ok (Q_s_LeadHear big t n p l) fun r => PeerI (B + 1) r.1 ∧ r.1.1 = p.1 ∧ List.length r.2.1 ≤ 7 := by
 rw [Q_s_LeadHear_eq, e_Copy hB h]
 simp only [Option.bind_some]
 have stay : PeerI (B + 1) p ∧ p.1 = p.1 ∧ List.length ([] : List DILetter) ≤ 7 := ⟨h.mono (by omega), rfl, by decide⟩
 exact ok_bind (o_LetterOk ht _ _) fun _ _ => ok_not (fun _ => ok_some stay) fun _ => ok_ndec (fun _ => ok_some stay) fun _ => ok_dec (fun _ => ok_bind (o_Voted11 hB h n hn _) fun y hy => ok_some hy) fun _ => ok_dec (fun _ => ok_bind (o_New11 hB h n l) fun y hy => ok_some ⟨hy.1, hy.2, by show List.length ([] : List DILetter) ≤ 7; decide⟩) fun _ => ok_some stay
theorem o_Ask {B : Nat} (hB : B ≤ 800000000) {t : List DIBlock} (ht : TreeI t) {p : DIPeer} (h : PeerI B p) (n : Int) (hn : n ≤ 7) (l : DILetter) : Ok (Q_s_AskHear big t n p l) fun r => PeerI (B + 60) r.1 ∧ r.1.1 = p.1 ∧ List.length r.2.1 ≤ 7 := by
 rw [Q_s_AskHear_eq, e_Copy (by omega) h]
 simp only [Option.bind_some]
 have stay : ∀ q : DIPeer, PeerI B q ∧ q.1 = p.1 → PeerI (B + 60) q ∧ q.1 = p.1 ∧ List.length ([] : List DILetter) ≤ 7 := fun q h => ⟨h.1.mono (by omega), h.2, by decide⟩
 have lead : Ok ((Q_s_LeadHear big t n p l).bind fun y => some y) fun r => PeerI (B + 60) r.1 ∧ r.1.1 = p.1 ∧ List.length r.2.1 ≤ 7 := ok_bind (o_Lead (by omega) ht h n hn l) fun y hy => ok_some ⟨hy.1.mono (by omega), hy.2⟩
 exact ok_bind (o_LetterOk ht _ _) fun _ _ => ok_not (fun _ => ok_some (stay p ⟨h, rfl⟩)) fun _ => ok_ndec (fun _ => ok_some (stay p ⟨h, rfl⟩)) fun _ => ok_dec (fun _ => lead) fun _ => ok_dec (fun _ => lead) fun _ => ok_bind (o_LeaderOf _ _) fun _ _ => ok_ndec (fun _ => ok_some (stay p ⟨h, rfl⟩)) fun _ => ok_dec (fun _ => ok_some (stay p ⟨h, rfl⟩)) fun _ =>
  ok_dec (fun _ => ok_bind (o_Qc hB ht h n l) fun y hy => ok_some ⟨hy.1, hy.2.1, by show List.length y.1 ≤ 7; have := hy.2.2; omega⟩) fun _ => ok_bind (o_Entered (by omega) h _) fun y hy => ok_bind (o_May _ _ _) fun _ _ => ok_not (fun _ => ok_some (stay y hy)) fun _ => ok_bind (o_Safe ht _ _) fun _ _ => ok_not (fun _ => ok_some (stay y hy)) fun _ =>
  ok_bind (o_Give (by omega) hy.1 _ _ _ _) fun z hz => ok_some ⟨hz.1.mono (by omega), hz.2.1.trans hy.2, by show List.length z.1 ≤ 7; have := hz.2.2; omega⟩
theorem o_Chain {B : Nat} (hB : B ≤ 800000000) {t : List DIBlock} (ht : TreeI t) {p : DIPeer} (h : PeerI B p) (n : Int) (hn : n ≤ 7) (l : DILetter) : Ok (Q_s_ChainHear big t n p l) fun r => PeerI (B + 60) r.1 ∧ r.1.1 = p.1 ∧ List.length r.2.1 ≤ 7 := by
 rw [Q_s_ChainHear_eq, e_Copy (by omega) h]
 simp only [Option.bind_some]
 have stay : ∀ q : DIPeer, PeerI B q ∧ q.1 = p.1 → PeerI (B + 60) q ∧ q.1 = p.1 ∧ List.length ([] : List DILetter) ≤ 7 := fun q h => ⟨h.1.mono (by omega), h.2, by decide⟩
 have high : ∀ q : DIQc, PeerI B (p.1, p.2.1, q, p.2.2.2) := fun q => ⟨h.row, h.cells, h.early, h.undos, h.votes, h.news, h.view⟩
 have learn : Ok ((Q_s_ChainLearn big t p l.2.2.2.2.1).bind fun y => some (y, ([] : List DILetter), ())) fun r => PeerI (B + 60) r.1 ∧ r.1.1 = p.1 ∧ List.length r.2.1 ≤ 7 := ok_bind (o_Learn hB ht h _) fun y hy => ok_some ⟨hy.1, hy.2, by show List.length ([] : List DILetter) ≤ 7; decide⟩
 exact ok_bind (o_LetterOk ht _ _) fun _ _ => ok_not (fun _ => ok_some (stay p ⟨h, rfl⟩)) fun _ => ok_ndec (fun _ => ok_some (stay p ⟨h, rfl⟩)) fun _ =>
  ok_dec (fun _ => ok_bind (o_Lead (by omega) ht h n hn l) fun y hy => ok_some ⟨hy.1.mono (by omega), hy.2⟩) fun _ =>
  ok_dec (fun _ => ok_bind (o_Higher _ _) fun q _ => ok_bind (o_Lead (by omega) ht (high q) n hn l) fun y hy => ok_some ⟨hy.1.mono (by omega), hy.2⟩) fun _ =>
  ok_dec (fun _ => ok_some (stay p ⟨h, rfl⟩)) fun _ => ok_bind (o_LeaderOf _ _) fun _ _ => ok_ndec (fun _ => ok_some (stay p ⟨h, rfl⟩)) fun _ => ok_bind (o_May _ _ _) fun _ _ =>
  ok_cond (fun _ => ok_bind (o_Safe ht _ _) fun _ _ => ok_cond (fun _ => ok_bind (o_Learn hB ht h _) fun y hy => ok_ndec (fun _ => ok_some ⟨hy.1, hy.2, by show List.length ([] : List DILetter) ≤ 7; decide⟩) fun _ => ok_bind (o_LeaderOf _ _) fun _ _ => ok_bind (o_Give (by omega) hy.1 _ _ _ _) fun z hz => ok_bind (o_Entered (by omega) hz.1 _) fun w hw => ok_some ⟨hw.1, hw.2.trans (hz.2.1.trans hy.2), by show List.length z.1 ≤ 7; have := hz.2.2; omega⟩) (fun _ => learn)) (fun _ => learn)
end Go.Sx.Tryz
set_option maxRecDepth 100000
namespace Go.Sx.Tryz
open Go Go.Sx Go.Proofs
def PeerJ (B : Nat) (p : DIPeer) : Prop := PeerI B p ∧ 0 ≤ p.1 ∧ p.1 ≤ 1000
theorem PeerJ.mono {B B' : Nat} {p : DIPeer} (h : PeerJ B p) (hb : B ≤ B') : PeerJ B' p := ⟨h.1.mono hb, h.2⟩
theorem PeerJ.of {B B' : Nat} {p q : DIPeer} (h : PeerJ B p) (k : PeerI B' q) (e : q.1 = p.1) : PeerJ B' q := ⟨k, by rw [e]; exact h.2⟩
structure ClI (B S : Nat) (x : DICluster) : Prop where
 n : x.1 = 4
 tree : TreeI x.2.2.2.1
 peers : List.length x.2.2.2.2.1 = 4
 peer : ∀ p ∈ x.2.2.2.2.1, PeerJ B p
 net : List.length x.2.2.2.2.2.1 ≤ 60
 said : List.length x.2.2.2.2.2.2.1 ≤ S
 pend : List.length x.2.2.2.2.2.2.2.1 ≤ 8
 key : ∀ c ∈ x.2.2.2.2.2.2.2.1, ByteArray.size c.2.1 ≤ 1000
theorem ClI.mono {B B' S S' : Nat} {x : DICluster} (h : ClI B S x) (hb : B ≤ B') (hs : S ≤ S') : ClI B' S' x :=
 ⟨h.n, h.tree, h.peers, fun p hp => (h.peer p hp).mono hb, h.net, Nat.le_trans h.said hs, h.pend, h.key⟩
theorem mem_upd {α : Type} {P : α → Prop} {y : α} (hy : P y) : ∀ {l : List α} {i : Nat}, (∀ x ∈ l, P x) → ∀ x ∈ upd l i y, P x
 | [], _, h, x, hx => h x hx
 | a :: l, 0, h, x, hx => by
  rcases List.mem_cons.1 hx with rfl | hx
  ·exact hy
  ·exact h x (List.mem_cons_of_mem _ hx)
 | a :: l, i + 1, h, x, hx => by
  rcases List.mem_cons.1 hx with rfl | hx
  ·exact h _ List.mem_cons_self
  ·exact mem_upd hy (fun z hz => h z (List.mem_cons_of_mem _ hz)) x hx
theorem o_Out {B S : Nat} {x : DICluster} (h : ClI B S x) (k : Int) : Ok (Q_s_l15Out big x k) fun r => ClI B S r.2.1 := by
 obtain ⟨n, ch, li, tr, ps, ne, sa, pe, ⟨⟩⟩ := x
 have hn : List.length ne ≤ 60 := h.net
 rw [Q_s_l15Out_eq]
 dsimp only
 have hW : IntKind.i64.wrap ((↑(List.length ne) : Int) - 1) = (↑(List.length ne) : Int) - 1 := wrap64 (by omega) (by omega)
 simp only [e_In, Option.bind_some, hW]
 by_cases hk : 0 ≤ k ∧ k ≤ (↑(List.length ne) : Int) - 1
 ·have e : (decide (0 ≤ k) && decide (k ≤ (↑(List.length ne) : Int) - 1)) = true := by simp only [hk.1, hk.2, decide_true, Bool.and_self]
  have w : IntKind.i64.wrap (k + 1) = k + 1 := wrap64 (by omega) (by omega)
  have g4 : 0 + (List.take (k.toNat - 0) (List.drop 0 ne)).length ≤ lim := by simp only [List.length_take, List.length_drop]; unfold lim; omega
  have g7 : (List.take (k.toNat - 0) (List.drop 0 ne)).length + (List.take (List.length ne - (k + 1).toNat) (List.drop (k + 1).toNat ne)).length ≤ lim := by simp only [List.length_take, List.length_drop]; unfold lim; omega
  have g7' : (List.append (List.take (k.toNat - 0) (List.drop 0 ne)) (List.take (List.length ne - (k + 1).toNat) (List.drop (k + 1).toNat ne))).length ≤ 60 := by
   show List.length (_ ++ _ : List DILetter) ≤ 60
   simp only [List.length_append, List.length_take, List.length_drop]; omega
  simp only [e, Bool.not_true, cond_false, w, if_pos hk.1, if_pos (show k < (↑(List.length ne) : Int) by omega), if_pos (show k ≤ (↑(List.length ne) : Int) by omega), if_pos (show 0 ≤ k + 1 by omega), if_pos (show k + 1 ≤ (↑(List.length ne) : Int) by omega), if_pos g4, if_pos g7, both_self]
  exact ok_nth (by omega) fun y hy => ok_some ⟨h.n, h.tree, h.peers, h.peer, g7', h.said, h.pend, h.key⟩
 ·have e : (decide (0 ≤ k) && decide (k ≤ (↑(List.length ne) : Int) - 1)) = false := by
   rw [← Bool.not_eq_true]
   intro h
   simp only [Bool.and_eq_true, decide_eq_true_eq] at h
   exact hk h
  simp only [e, Bool.not_false, cond_true]
  exact ok_some h
theorem o_Post {B S : Nat} {x : DICluster} (h : ClI B S x) (l : List DILetter) (hl : l.length ≤ 1000000) : Ok (Q_s_l15Post big x l) fun r => ClI B S r.2.1 := by
 have hn := h.net
 rw [Q_s_l15Post_eq, wrap64 (by omega) (by omega)]
 refine ok_dec (fun _ => ok_some h) fun hc => ok_if (by unfold lim; omega) (ok_if (by unfold lim; omega) (ok_some ⟨h.n, h.tree, h.peers, h.peer, ?_, h.said, h.pend, h.key⟩))
 show (List.append x.2.2.2.2.2.1 l).length ≤ 60
 show List.length (_ ++ _ : List DILetter) ≤ 60
 rw [List.length_append]; omega
theorem o_Said {B S : Nat} (hS : S ≤ 1000000000) {x : DICluster} (h : ClI B S x) (v : DIVote) : Ok (Q_s_l15Said big x v) fun r => ClI B (S + 1) r.2.1 := by
 obtain ⟨n, ch, li, tr, ps, ne, sa, pe, ⟨⟩⟩ := x
 obtain ⟨v0, v1, v2, v3, ⟨⟩⟩ := v
 have hn : List.length sa ≤ S := h.said
 rw [Q_s_l15Said_eq]
 dsimp only
 refine up0 (L := List.length sa) (by omega) (f := fun m i => R_s_l15Said_2 m i n ch li tr ps ne sa pe v0 v1 v2 v3) (fun m i h0 h1 nx => ?_) (fun m => ?_)
 ·rw [R_s_l15Said_2_eq, wrap64 (n := i + 1) (by omega) (by omega)]
  exact ok_dec (fun hi => ok_if h0 (ok_if hi (ok_nth (by omega) fun y hy => ok_cond (fun _ => ok_some (h.mono (Nat.le_refl _) (by omega))) fun _ => nx _ rfl))) (fun h => by omega)
 ·rw [R_s_l15Said_2_eq]
  refine ok_dec (fun h => by omega) fun _ => ?_
  simp only [both_self]
  refine ok_if (by unfold lim; omega) (ok_if (by simp only [List.length_singleton]; unfold lim; omega) (ok_some ⟨h.n, h.tree, h.peers, h.peer, h.net, ?_, h.pend, h.key⟩))
  show (List.append sa [(v0, v1, v2, v3, ())]).length ≤ S + 1
  rw [len_snoc]; omega
theorem carry_loop {B S : Nat} (hS : S ≤ 900000000) (l : List DILetter) (hl : l.length ≤ 7) : ∀ (m n : Nat) (i : Nat) (c : DICluster), i ≤ l.length → l.length ≤ i + m → m < n → ClI B (S + i) c →
  Ok (R_s_l15Carry_11 n (i : Int) c.1 c.2.1 c.2.2.1 c.2.2.2.1 c.2.2.2.2.1 c.2.2.2.2.2.1 c.2.2.2.2.2.2.1 c.2.2.2.2.2.2.2.1 l) fun r => ClI B (S + 7) r.2.1 := by
 intro m
 induction m with
 | zero =>
  intro n i c h1 h2 h3 h
  obtain ⟨n, rfl⟩ : ∃ m, n = m + 1 := ⟨n - 1, by omega⟩
  rw [R_s_l15Carry_11_eq]
  exact ok_dec (fun h => by omega) fun _ => ok_some (h.mono (Nat.le_refl _) (by omega))
 | succ m ih =>
  intro n i c h1 h2 h3 h
  obtain ⟨n, rfl⟩ : ∃ m, n = m + 1 := ⟨n - 1, by omega⟩
  rw [R_s_l15Carry_11_eq, wrap64 (n := (i : Int) + 1) (by omega) (by omega)]
  refine ok_dec (fun hi => ?_) fun _ => ok_some (h.mono (Nat.le_refl _) (by omega))
  have h0 : (0 : Int) ≤ (i : Int) := by omega
  have e1 : ((i : Int) + 1) = ((i + 1 : Nat) : Int) := by omega
  have ht : (List.take (((i : Int) + 1).toNat - (i : Int).toNat) (List.drop (i : Int).toNat l)).length ≤ 1000000 := by simp only [List.length_take, List.length_drop]; omega
  have go : ∀ c' : DICluster, ClI B (S + (i + 1)) c' → Ok (R_s_l15Carry_11 n ((i : Int) + 1) c'.1 c'.2.1 c'.2.2.1 c'.2.2.2.1 c'.2.2.2.2.1 c'.2.2.2.2.2.1 c'.2.2.2.2.2.2.1 c'.2.2.2.2.2.2.2.1 l) fun r => ClI B (S + 7) r.2.1 := fun c' hc => by
   rw [e1]
   exact ih n (i + 1) c' (by omega) (by omega) (by omega) hc
  refine ok_if h0 (ok_if hi (ok_nth (by omega) fun y _ => ok_dec (fun _ => ok_if h0 (ok_if hi (ok_nth (by omega) fun y _ => ok_bind (o_Said (by omega) h _) fun z hz => ?_))) fun _ => ?_))
  ·have hz' : ClI B (S + (i + 1)) z.2.1 := hz.mono (Nat.le_refl _) (by omega)
   exact ok_dec (fun _ => ok_if (by omega) (ok_if (by omega) (ok_if h0 (ok_if (by omega) (ok_bind (o_Post hz' _ ht) fun w hw => go _ hw))))) fun _ => go _ hz'
  ·have h' : ClI B (S + (i + 1)) c := h.mono (Nat.le_refl _) (by omega)
   exact ok_dec (fun _ => ok_if (by omega) (ok_if (by omega) (ok_if h0 (ok_if (by omega) (ok_bind (o_Post h' _ ht) fun w hw => go _ hw))))) fun _ => go _ h'
theorem o_Carry {B S : Nat} (hB : B ≤ 800000000) (hS : S ≤ 900000000) {x : DICluster} (h : ClI B S x) (k : Int) : Ok (Q_s_l15Carry big x k) fun r => ClI (B + 60) (S + 7) r.2.1 := by
 rw [Q_s_l15Carry_eq]
 refine ok_bind (o_Out h k) fun y hy => ?_
 obtain ⟨⟨l, b, ⟨⟩⟩, y, ⟨⟩⟩ := y
 obtain ⟨n, ch, li, tr, ps, ne, sa, pe, ⟨⟩⟩ := y
 have hn : n = 4 := hy.n
 have hp : List.length ps = 4 := hy.peers
 have hq := hy.peer
 have ht := hy.tree
 have stay := hy.mono (B' := B + 60) (S' := S + 7) (by omega) (by omega)
 dsimp only at hy hq ht stay ⊢
 refine ok_not (fun _ => ok_some stay) fun _ => ok_bind (o_Honest _ _ (by show List.length ps ≤ 1000; omega)) fun b hb => ok_not (fun _ => ok_some stay) fun hb1 => ?_
 have hi := hb hb1
 dsimp only at hi
 have hu : ∀ y, (upd ps (Int.toNat l.2.2.1) y).length = List.length ps := fun y => upd_length _ _ _
 have fin : ∀ z z3 : DIPeer, PeerJ B z → PeerJ (B + 60) z3 → ∀ l' : List DILetter, l'.length ≤ 7 →
   Ok (R_s_l15Carry_11 big 0 n ch li tr (upd (upd ps (Int.toNat l.2.2.1) z) (Int.toNat l.2.2.1) z3) ne sa pe l') fun r => ClI (B + 60) (S + 7) r.2.1 := fun z z3 hz hz3 l' hl' => by
  have hc : ClI (B + 60) (S + 0) (n, ch, li, tr, upd (upd ps (Int.toNat l.2.2.1) z) (Int.toNat l.2.2.1) z3, ne, sa, pe, ()) :=
   ⟨hn, ht, by show (upd (upd ps _ z) _ z3).length = 4; rw [upd_length, upd_length]; exact hp, mem_upd hz3 (mem_upd (hz.mono (by omega)) fun p hp => (hq p hp).mono (by omega)), hy.net, hy.said, hy.pend, hy.key⟩
  have := carry_loop hS l' hl' 7 big 0 _ (by omega) (by omega) (by unfold big; omega) hc
  exact this
 have mid : ∀ (z : DIPeer) (f : DIPeer → Option (DIPeer × List DILetter × Unit)), PeerJ B z → (∀ z, PeerI B z → Ok (f z) fun r => PeerI (B + 60) r.1 ∧ r.1.1 = z.1 ∧ List.length r.2.1 ≤ 7) → Ok ((f z).bind fun y_3 => (updO ps (Int.toNat l.2.2.1) z).bind fun y_4 => if (0 : Int) ≤ l.2.2.1 then if l.2.2.1 < (↑(List.length y_4) : Int) then (nth y_4 (Int.toNat l.2.2.1)).bind fun y_5 => (updO y_4 (Int.toNat l.2.2.1) y_3.1).bind fun y_6 => R_s_l15Carry_11 big (0 : Int) n ch li tr y_6 ne sa pe y_3.2.1 else none else none) fun r => ClI (B + 60) (S + 7) r.2.1 := fun z f hz hf => by
  refine ok_bind (hf z hz.1) fun y3 hy3 => ok_upd (by omega) ?_
  exact ok_if hi.1 (ok_if (by rw [hu]; exact hi.2) (ok_nth (by rw [hu]; omega) fun _ _ => ok_upd (by rw [hu]; omega) (fin _ _ hz (hz.of hy3.1 hy3.2.1) _ hy3.2.2)))
 refine ok_cond (fun _ => ok_if hi.1 (ok_if hi.2 (ok_nth (by omega) fun y hy1 => ?_))) (fun _ => ok_if hi.1 (ok_if hi.2 (ok_nth (by omega) fun y hy1 => ?_)))
 ·exact mid y (fun p => Q_s_ChainHear big tr n p l) (hq y hy1) fun z hz => o_Chain hB ht hz n (by omega) l
 ·exact mid y (fun p => Q_s_AskHear big tr n p l) (hq y hy1) fun z hz => o_Ask hB ht hz n (by omega) l
theorem o_Wait {B S : Nat} (hB : B ≤ 800000000) {x : DICluster} (h : ClI B S x) (k : Int) : Ok (Q_s_l15Wait big x k) fun r => ClI B S r.2.1 := by
 rw [Q_s_l15Wait_eq]
 have hp : List.length x.2.2.2.2.1 = 4 := h.peers
 refine ok_bind (o_Honest _ _ (by omega)) fun b hb => ok_not (fun _ => ok_some h) fun hb1 => ?_
 have hi := hb hb1
 have hu : ∀ y, (upd x.2.2.2.2.1 k.toNat y).length = List.length x.2.2.2.2.1 := fun y => upd_length _ _ _
 refine ok_if hi.1 (ok_if hi.2 (ok_nth (by omega) fun y hy => ok_bind (o_TimedOut (by omega) (h.peer y hy).1 _) fun z hz => ok_upd (by omega) ?_))
 simp only [both_self]
 have one : ∀ z, PeerJ B z → ClI B S (x.1, x.2.1, x.2.2.1, x.2.2.2.1, upd x.2.2.2.2.1 k.toNat z, x.2.2.2.2.2) := fun z hz =>
  ⟨h.n, h.tree, by show (upd _ _ _).length = 4; rw [hu]; exact hp, mem_upd hz h.peer, h.net, h.said, h.pend, h.key⟩
 have two : ∀ z, PeerJ B z → ClI B S (x.1, x.2.1, x.2.2.1, x.2.2.2.1, upd (upd x.2.2.2.2.1 k.toNat y) k.toNat z, x.2.2.2.2.2) := fun z hz =>
  ⟨h.n, h.tree, by show (upd (upd _ _ _) _ _).length = 4; rw [upd_length, hu]; exact hp, mem_upd hz (mem_upd (h.peer y hy) h.peer), h.net, h.said, h.pend, h.key⟩
 exact ok_not (fun _ => ok_some (one y (h.peer y hy))) fun _ => ok_if hi.1 (ok_if (by rw [hu]; exact hi.2) (ok_nth (by rw [hu]; omega) fun _ _ => ok_upd (by rw [hu]; omega) (ok_bind (o_Post (two z.1 ((h.peer y hy).of hz.1 hz.2)) _ (by simp only [List.length_singleton]; omega)) fun w hw => ok_some hw)))
theorem o_Twice {B S : Nat} {x : DICluster} (h : ClI B S x) (k : Int) : Ok (Q_s_l15Twice big x k) fun r => ClI B S r.2.1 := by
 obtain ⟨n, ch, li, tr, ps, ne, sa, pe, ⟨⟩⟩ := x
 have hn : List.length ne ≤ 60 := h.net
 show Ok (q_s_l15Twice big _) _
 unfold q_s_l15Twice twF twL
 dsimp only
 have hW : IntKind.i64.wrap ((↑(List.length ne) : Int) - 1) = (↑(List.length ne) : Int) - 1 := wrap64 (by omega) (by omega)
 simp only [e_In, Option.bind_some, hW]
 by_cases hk : 0 ≤ k ∧ k ≤ (↑(List.length ne) : Int) - 1
 ·have e : (decide (0 ≤ k) && decide (k ≤ (↑(List.length ne) : Int) - 1)) = true := by simp only [hk.1, hk.2, decide_true, Bool.and_self]
  have w : IntKind.i64.wrap (k + 1) = k + 1 := wrap64 (by omega) (by omega)
  have hl : (List.take ((k + 1).toNat - k.toNat) (List.drop k.toNat ne)).length ≤ 60 := by simp only [List.length_take, List.length_drop]; omega
  simp only [e, Bool.not_true, cond_false, w]
  refine ok_bind (Q := fun r => List.length (r.2.getD ne) ≤ 60) ?_ fun r hr => ok_some ⟨h.n, h.tree, h.peers, h.peer, hr, h.said, h.pend, h.key⟩
  rw [wrap64 (n := (↑(List.length ne) : Int) + (↑(List.length (List.take ((k + 1).toNat - k.toNat) (List.drop k.toNat ne))) : Int)) (by omega) (by omega)]
  refine ok_if (by omega) (ok_if (by omega) (ok_if hk.1 (ok_if (by omega) (ok_dec (fun _ => ok_some hn) fun hc => ok_if (by unfold lim; omega) (ok_if (by unfold lim; omega) (ok_some ?_))))))
  show (List.append ne _).length ≤ 60
  show List.length (_ ++ _ : List DILetter) ≤ 60
  rw [List.length_append]; omega
 ·have e : (decide (0 ≤ k) && decide (k ≤ (↑(List.length ne) : Int) - 1)) = false := by
   rw [← Bool.not_eq_true]
   intro h
   simp only [Bool.and_eq_true, decide_eq_true_eq] at h
   exact hk h
  simp only [e, Bool.not_false, cond_true, Option.bind_some]
  exact ok_some h
end Go.Sx.Tryz
set_option maxRecDepth 100000
namespace Go.Sx.Tryz
open Go Go.Sx Go.Proofs
def bL (l : List UInt8) : ByteArray := ByteArray.mk l.toArray
theorem bL_size (l : List UInt8) : (bL l).size = l.length := by simp [bL, ByteArray.size]
theorem len_data (s : ByteArray) : s.data.toList.length = s.size := by rw [Array.length_toList]; rfl
theorem ext_bL (s : ByteArray) (b i : Nat) : s.extract b i = bL ((s.data.toList.drop b).take (i - b)) := by
 apply ByteArray.ext
 apply Array.toList_inj.1
 simp [bL, ByteArray.data_extract, List.extract_eq_take_drop]
theorem bL_self (s : ByteArray) : bL s.data.toList = s := by
 apply ByteArray.ext
 simp [bL]
def enc (n : Nat) : List UInt8 := if n ≤ 127 then [UInt8.ofNat n] else UInt8.ofNat (n % 128 + 128) :: enc (n / 128)
termination_by n
decreasing_by omega
theorem enc_lo {n : Nat} (h : n ≤ 127) : enc n = [UInt8.ofNat n] := by rw [enc, if_pos h]
theorem enc_hi {n : Nat} (h : ¬ n ≤ 127) : enc n = UInt8.ofNat (n % 128 + 128) :: enc (n / 128) := by rw [enc, if_neg h]
theorem enc_len : ∀ (k n : Nat), n < 128 ^ (k + 1) → (enc n).length ≤ k + 1
 | 0, n, h => by rw [enc_lo (by omega)]; exact Nat.le_refl _
 | k + 1, n, h => by
  by_cases h1 : n ≤ 127
  ·rw [enc_lo h1]; show 1 ≤ _; omega
  ·rw [enc_hi h1, List.length_cons]
   have := enc_len k (n / 128) (by rw [Nat.pow_succ] at h; omega)
   omega
theorem enc_pos (n : Nat) : 1 ≤ (enc n).length := by
 by_cases h1 : n ≤ 127
 ·rw [enc_lo h1]; exact Nat.le_refl _
 ·rw [enc_hi h1, List.length_cons]; omega
abbrev fB (n : Int) : UInt8 := UInt8.ofNat n.toNat
theorem w8 {m : Nat} (h : m < 256) : IntKind.u8.wrap (m : Int) = (m : Int) := by rw [IntKind.wrap_u8]; omega
theorem mapB (l : List Int) (x : Int) : ByteArray.mk (List.map (fun n => UInt8.ofNat n.toNat) (List.append l [x])).toArray = bL (l.map fB ++ [fB x]) := by
 show bL (List.map fB (l ++ [x])) = _
 rw [List.map_append]; rfl
theorem var_loop : ∀ (k n m : Nat) (l : List Int), m < 128 ^ (k + 1) → m < 9223372036854775808 → k < n → l.length + k ≤ 1000 → R_s_l01Var_2 n (m : Int) l = some (bL (l.map fB ++ enc m))
 | k, 0, m, l, _, _, h, _ => by omega
 | k, n + 1, m, l, h1, h2, h3, h4 => by
  rw [R_s_l01Var_2_eq]
  by_cases h0 : m ≤ 127
  ·rw [decide_eq_false (by omega), cond_false, if_pos (by simp only [List.length_singleton]; unfold lim; omega), mapB, enc_lo h0, w8 (by omega)]
   rfl
  ·have e1 : ((m : Int)).tmod 128 = ((m % 128 : Nat) : Int) := (Int.ofNat_tmod m 128).symm
   have e2 : ((m : Int)).tdiv 128 = ((m / 128 : Nat) : Int) := (Int.ofNat_tdiv m 128).symm
   rw [decide_eq_true (by omega), cond_true, if_pos (by simp only [List.length_singleton]; unfold lim; omega), e1, e2, wrap64 (n := ((m / 128 : Nat) : Int)) (by omega) (by omega), wrap64 (n := ((m % 128 : Nat) : Int) + 128) (by omega) (by omega)]
   cases k with
   | zero => omega
   | succ k =>
    have e3 : IntKind.u8.wrap (((m % 128 : Nat) : Int) + 128) = ((m % 128 + 128 : Nat) : Int) := by
     have : ((m % 128 : Nat) : Int) + 128 = ((m % 128 + 128 : Nat) : Int) := by omega
     rw [this, w8 (by omega)]
    rw [var_loop k n (m / 128) _ (by rw [Nat.pow_succ] at h1; omega) (by omega) (by omega) (by show (l ++ _).length + k ≤ 1000; rw [List.length_append, List.length_singleton]; omega), e3, enc_hi h0]
    show some (bL (List.map fB (l ++ _) ++ _)) = _
    rw [List.map_append, List.append_assoc]
    rfl
theorem o_Var (n : Int) : Ok (Q_s_l01Var big n) fun t => 1 ≤ t.size ∧ t.size ≤ 12 ∧ (0 ≤ n → n < 9223372036854775808 → t = bL (enc n.toNat)) := by
 rw [Q_s_l01Var_eq]
 by_cases hn : 0 ≤ n ∧ n < 9223372036854775808
 ·obtain ⟨m, rfl⟩ : ∃ m : Nat, n = m := ⟨n.toNat, by omega⟩
  rw [var_loop 8 big m [] (by omega) (by omega) (by unfold big; omega) (by decide)]
  refine ok_some ⟨?_, ?_, fun _ _ => by rw [Int.toNat_natCast]; rfl⟩
  ·rw [bL_size, List.map_nil, List.nil_append]; exact enc_pos m
  ·rw [bL_size, List.map_nil, List.nil_append]
   have := enc_len 8 m (by omega)
   omega
 ·obtain ⟨b, hb⟩ : ∃ b, big = b + 1 := ⟨big - 1, by decide⟩
  obtain ⟨c, hc⟩ : ∃ c, b = c + 1 := ⟨big - 2, by rw [show big = big - 2 + 2 by decide] at hb; omega⟩
  have h10 : 10 < big := by decide
  have hc8 : 8 < c + 1 := by omega
  rw [hb, R_s_l01Var_2_eq]
  refine ok_dec (fun h1 => ok_if (by simp only [List.length_nil, List.length_singleton]; unfold lim; omega) ?_) fun h1 => ok_if (by simp only [List.length_nil, List.length_singleton]; unfold lim; omega) (ok_some ⟨?_, ?_, fun h2 h3 => absurd ⟨h2, h3⟩ hn⟩)
  ·generalize IntKind.u8.wrap (IntKind.i64.wrap (n.tmod 128 + 128)) = x
   have hw := IntKind.wrap_i64 (n.tdiv 128)
   have hr : -9223372036854775808 ≤ IntKind.i64.wrap (n.tdiv 128) ∧ IntKind.i64.wrap (n.tdiv 128) < 9223372036854775808 := by
    rw [hw]; omega
   revert hr
   generalize IntKind.i64.wrap (n.tdiv 128) = w
   intro hr
   by_cases hw0 : 0 ≤ w
   ·obtain ⟨m, rfl⟩ : ∃ m : Nat, w = m := ⟨w.toNat, by omega⟩
    rw [hc, var_loop 8 (c + 1) m _ (by omega) (by omega) hc8 (by simp only [List.append_eq, List.nil_append, List.length_singleton]; omega)]
    have := enc_len 8 m (by omega)
    have := enc_pos m
    have e : (List.map fB (List.append [] [x])).length = 1 := by rw [List.length_map]; rfl
    exact ok_some ⟨by rw [bL_size, List.length_append, e]; omega, by rw [bL_size, List.length_append, e]; omega, fun h2 h3 => absurd ⟨h2, h3⟩ hn⟩
   ·rw [hc, R_s_l01Var_2_eq]
    refine ok_dec (fun h => by omega) fun _ => ok_if (by simp only [List.append_eq, List.nil_append, List.length_singleton]; unfold lim; omega) (ok_some ⟨?_, ?_, fun h2 h3 => absurd ⟨h2, h3⟩ hn⟩)
    ·rw [mapB, bL_size]; simp only [List.append_eq, List.nil_append, List.map_cons, List.map_nil, List.length_append, List.length_singleton]; omega
    ·rw [mapB, bL_size]; simp only [List.append_eq, List.nil_append, List.map_cons, List.map_nil, List.length_append, List.length_singleton]; omega
  ·rw [mapB, bL_size]; simp only [List.map_nil, List.nil_append, List.length_singleton]; omega
  ·rw [mapB, bL_size]; simp only [List.map_nil, List.nil_append, List.length_singleton]; omega
theorem o_Low (n : Int) : Ok (Q_s_l08Low big n) fun t => 1 ≤ t.size ∧ t.size ≤ 12 ∧ (0 ≤ n → n < 9223372036854775808 → t = bL (enc n.toNat)) := by
 rw [Q_s_l08Low_eq]
 exact ok_dec (fun h => ok_some ⟨by decide, by decide, fun h1 => by omega⟩) fun _ => ok_bind (o_Var n) fun t ht => ok_some ht
theorem o_QcText (q : DIQc) : Ok (Q_s_QcText big q) fun t => t.size ≤ 48 := by
 rw [Q_s_QcText_eq]
 exact ok_bind (o_Low _) fun a ha => ok_bind (o_Low _) fun b hb => ok_if (by unfold lim; omega) (ok_bind (o_Low _) fun c hc => ok_if (by simp only [ByteArray.size_append]; unfold lim; omega) (ok_bind (o_Low _) fun d hd => ok_if (by simp only [ByteArray.size_append]; unfold lim; omega) (ok_some (by simp only [ByteArray.size_append]; omega))))
theorem o_VoteText (q : DIVote) : Ok (Q_s_VoteText big q) fun t => t.size ≤ 48 := by
 rw [Q_s_VoteText_eq]
 exact ok_bind (o_Low _) fun a ha => ok_bind (o_Low _) fun b hb => ok_if (by unfold lim; omega) (ok_bind (o_Low _) fun c hc => ok_if (by simp only [ByteArray.size_append]; unfold lim; omega) (ok_bind (o_Low _) fun d hd => ok_if (by simp only [ByteArray.size_append]; unfold lim; omega) (ok_some (by simp only [ByteArray.size_append]; omega))))
theorem sum_in (s : ByteArray) (i : Int) {P : Int → Prop} : ∀ (m n : Nat) (k a : Int), 0 ≤ k → k ≤ 8 → (8 : Int) ≤ k + m → m < n → (∀ n' a', n ≤ n' + m + 1 → Ok (R_s_SumMore_2 n' a' s (IntKind.i64.wrap (i + 1))) P) → Ok (R_s_SumMore_6 n a s i k) P
 | m, 0, k, a, _, _, _, h, _ => by omega
 | 0, n + 1, k, a, h0, h1, h2, h3, go => by
  rw [R_s_SumMore_6_eq]
  exact ok_dec (fun h => by omega) fun _ => go n _ (by omega)
 | m + 1, n + 1, k, a, h0, h1, h2, h3, go => by
  rw [R_s_SumMore_6_eq, wrap64 (n := k + 1) (by omega) (by omega)]
  refine ok_dec (fun h => ?_) fun _ => go n _ (by omega)
  exact ok_dec (fun _ => sum_in s i m n (k + 1) _ (by omega) (by omega) (by omega) (by omega) fun n' a' h => go n' a' (by omega)) (fun _ => sum_in s i m n (k + 1) _ (by omega) (by omega) (by omega) (by omega) fun n' a' h => go n' a' (by omega))
theorem sum_loop (s : ByteArray) (hs : s.size ≤ 1000000) : ∀ (m n : Nat) (i a : Int), 0 ≤ i → i ≤ s.size → (s.size : Int) ≤ i + m → m * 10 < n → Ok (R_s_SumMore_2 n a s i) fun _ => True
 | m, 0, i, a, _, _, _, h => by omega
 | 0, n + 1, i, a, h0, h1, h2, h3 => by
  rw [R_s_SumMore_2_eq]
  exact ok_dec (fun h => by omega) fun _ => ok_some trivial
 | m + 1, n + 1, i, a, h0, h1, h2, h3 => by
  have hl := len_data s
  rw [R_s_SumMore_2_eq]
  refine ok_dec (fun h => ok_if h0 (ok_nth (by omega) fun y _ => ?_)) fun _ => ok_some trivial
  refine sum_in s i 8 n 0 _ (by omega) (by omega) (by omega) (by omega) fun n' a' hn => ?_
  rw [wrap64 (n := i + 1) (by omega) (by omega)]
  exact sum_loop s hs m n' (i + 1) a' (by omega) (by omega) (by omega) (by omega)
theorem o_SumOf (s : ByteArray) (hs : s.size ≤ 1000000) : Ok (Q_s_SumOf big s) fun _ => True := by
 rw [Q_s_SumOf_eq, Q_s_SumMore_eq]
 exact ok_bind (sum_loop s hs s.size big 0 _ (by omega) (by omega) (by omega) (by unfold big; omega)) fun _ _ => ok_some trivial
theorem ext_front (s f : ByteArray) : (s ++ f).extract 0 s.size = s := by
 rw [ext_bL, List.drop_zero, Nat.sub_zero, ByteArray.data_append, Array.toList_append, List.take_left' (len_data s), bL_self]
theorem o_Sealed (s : ByteArray) : Ok (Q_s_Sealed big s) fun r => r.1.size ≤ 20004 ∧ (4 ≤ r.1.size → r.1.extract 0 (r.1.size - 4) = s) := by
 rw [Q_s_Sealed_eq]
 refine ok_dec (fun _ => ok_some ⟨by decide, fun h => absurd h (by decide)⟩) fun hs => ok_bind (o_SumOf s (by omega)) fun y _ => ?_
 generalize hf : ByteArray.mk (List.map (fun n => UInt8.ofNat n.toNat) [IntKind.u8.wrap (Int.fdiv y ((2 : Int) ^ min (Int.toNat (24 : Int)) IntKind.u32.bits)), IntKind.u8.wrap (Int.fdiv y ((2 : Int) ^ min (Int.toNat (16 : Int)) IntKind.u32.bits)), IntKind.u8.wrap (Int.fdiv y ((2 : Int) ^ min (Int.toNat (8 : Int)) IntKind.u32.bits)), IntKind.u8.wrap y]).toArray = f
 have h4 : f.size = 4 := by rw [← hf]; rfl
 refine ok_if (by unfold lim; omega) (ok_some ⟨by simp only [ByteArray.size_append]; omega, fun _ => ?_⟩)
 show (s ++ f).extract 0 ((s ++ f).size - 4) = s
 rw [ByteArray.size_append, h4, Nat.add_sub_cancel]
 exact ext_front s f
theorem o_Unsealed (s : ByteArray) (hs : s.size ≤ 1000000) : Ok (Q_s_Unsealed big s) fun r => r.1.size ≤ 20000 ∧ (r.2.1 = true → 4 ≤ s.size ∧ r.1 = s.extract 0 (s.size - 4)) := by
 rw [Q_s_Unsealed_eq, wrap64 (n := (s.size : Int) - 4) (by omega) (by omega)]
 have no : (ByteArray.mk #[]).size ≤ 20000 ∧ (false = true → 4 ≤ s.size ∧ ByteArray.mk #[] = s.extract 0 (s.size - 4)) := ⟨by decide, fun h => by cases h⟩
 refine ok_dec (fun _ => ok_some no) fun h1 => ok_dec (fun _ => ok_some no) fun h2 => ok_if (by omega) (ok_if (by omega) (ok_if (by omega) (ok_if (by omega) ?_)))
 have e : ((s.size : Int) - 4).toNat = s.size - 4 := by omega
 rw [e]
 refine ok_bind (o_SumOf _ (by rw [ByteArray.size_extract]; omega)) fun y _ => ok_ndec (fun _ => ok_some no) fun _ => ok_if (by omega) (ok_if (by omega) (ok_some ⟨?_, fun _ => ⟨by omega, rfl⟩⟩))
 show (s.extract 0 (s.size - 4)).size ≤ 20000
 rw [ByteArray.size_extract]; omega
theorem kept_loop (b0 : Int) (b1 : Int) (b2 : Int) (b3 : Int) (b4 : Int) (b5 : Int) (b6 : Int) (b7 : Int) (b8 : Int) (b9 : Int) (b10 : Int) (b11 : Int) (b12 : Int) (b13 : Int) (b14 : List Int) (b15 : List DICell) (b16 : List Int) (b17 : List DIUndo) (b18 : List DIVote) (b19 : List DILetter) (b20 : Int) (hr : b14.length ≤ 100000000) : ∀ (m n : Nat) (i : Int) (s : ByteArray), 0 ≤ i → i ≤ b14.length → (b14.length : Int) ≤ i + m → m < n → s.size ≤ 1000 + 12 * i.toNat →
  Ok (R_s_KeptText_3 n s i b0 b1 b2 b3 b4 b5 b6 b7 b8 b9 b10 b11 b12 b13 b14 b15 b16 b17 b18 b19 b20) fun t => t.size ≤ 20004 ∧ (4 ≤ t.size → ∃ e, t.extract 0 (t.size - 4) = s ++ e) := by
 intro m
 induction m with
 | zero =>
  intro n i s h0 h1 h2 h3 h4
  obtain ⟨n, rfl⟩ : ∃ m, n = m + 1 := ⟨n - 1, by omega⟩
  rw [R_s_KeptText_3_eq]
  exact ok_dec (fun h => by omega) fun _ => ok_bind (o_Sealed s) fun y hy => ok_some ⟨hy.1, fun h => ⟨bL [], by rw [hy.2 h]; exact (ByteArray.append_empty).symm⟩⟩
 | succ m ih =>
  intro n i s h0 h1 h2 h3 h4
  obtain ⟨n, rfl⟩ : ∃ m, n = m + 1 := ⟨n - 1, by omega⟩
  rw [R_s_KeptText_3_eq, wrap64 (n := i + 1) (by omega) (by omega)]
  refine ok_dec (fun h => ok_if h0 (ok_nth (by omega) fun y _ => ok_bind (o_Low y) fun z hz => ok_if (by unfold lim; omega) ?_)) fun _ => ok_bind (o_Sealed s) fun y hy => ok_some ⟨hy.1, fun h => ⟨bL [], by rw [hy.2 h]; exact (ByteArray.append_empty).symm⟩⟩
  refine ok_mono (ih n (i + 1) (s ++ z) (by omega) (by omega) (by omega) (by omega) (by rw [ByteArray.size_append]; omega)) fun t ht => ⟨ht.1, fun h => ?_⟩
  obtain ⟨e, he⟩ := ht.2 h
  exact ⟨z ++ e, by rw [he, ByteArray.append_assoc]⟩
theorem o_KeptText (p : DIPeer) (hr : List.length p.2.2.2.2.2.1 ≤ 100000000) : Ok (Q_s_KeptText big p) fun t => t.size ≤ 20004 ∧
  (4 ≤ t.size → (0 ≤ p.1 ∧ p.1 ≤ 1000) → (0 ≤ p.2.1 ∧ p.2.1 ≤ 1000) → ∃ e, t.extract 0 (t.size - 4) = bL (enc p.1.toNat) ++ bL (enc p.2.1.toNat) ++ e) := by
 rw [Q_s_KeptText_eq]
 refine ok_bind (o_Low _) fun a ha => ok_bind (o_Low _) fun b hb => ok_if (by unfold lim; omega) (ok_bind (o_QcText _) fun c hc => ok_if (by simp only [ByteArray.size_append]; unfold lim; omega) (ok_bind (o_QcText _) fun d hd => ok_if (by simp only [ByteArray.size_append]; unfold lim; omega)
  (ok_bind (o_VoteText _) fun f hf => ok_if (by simp only [ByteArray.size_append]; unfold lim; omega) (ok_bind (o_Var _) fun g hg => ok_if (by simp only [ByteArray.size_append]; unfold lim; omega) ?_))))
 refine ok_mono (kept_loop _ _ _ _ _ _ _ _ _ _ _ _ _ _ _ _ _ _ _ _ _ hr (List.length p.2.2.2.2.2.1) big 0 _ (by omega) (by omega) (by omega) (by unfold big; omega) (by simp only [ByteArray.size_append]; omega)) fun t ht => ⟨ht.1, fun h h1 h2 => ?_⟩
 obtain ⟨e, he⟩ := ht.2 h
 refine ⟨c ++ d ++ f ++ g ++ e, ?_⟩
 rw [he, ha.2.2 h1.1 (by omega), hb.2.2 h2.1 (by omega)]
 simp only [ByteArray.append_assoc]
end Go.Sx.Tryz
set_option maxRecDepth 100000
namespace Go.Sx.Tryz
open Go Go.Sx Go.Proofs
def RdP (s : ByteArray) (i v w : Nat) (r : Int × Int × Bool × Unit) : Prop :=
 r.2.2.1 = true → (i : Int) < r.2.1 ∧ r.2.1 ≤ s.size ∧ 0 ≤ r.1 ∧ r.1 ≤ 1000000000 ∧ ∀ m rest, s.data.toList.drop i = enc m ++ rest → r.1 = ((v + m * w : Nat) : Int) ∧ r.2.1 = ((i + (enc m).length : Nat) : Int)
theorem toNat_of {m : Nat} (h : m < 256) : (UInt8.ofNat m).toNat = m := by
 have : (UInt8.ofNat m).toNat = m % 256 := rfl
 omega
theorem rd_loop (s : ByteArray) (hs : s.size ≤ 1000000) (a : Nat) : ∀ (k n v w i : Nat), i + k = a + 5 → a ≤ i → i ≤ s.size → k < n → w * 128 ^ k ≤ 34359738368 → v ≤ w →
  Ok (R_s_ReadVar_6 n s (a : Int) (v : Int) (w : Int) (i : Int)) (RdP s i v w) := by
 have no : ∀ i v w, RdP s i v w ((0 : Int), (0 : Int), false, ()) := fun i v w h => by cases h
 have hl := len_data s
 intro k
 induction k with
 | zero =>
  intro n v w i h1 h2 h3 h4 h5 h6
  obtain ⟨n, rfl⟩ : ∃ m, n = m + 1 := ⟨n - 1, by omega⟩
  rw [R_s_ReadVar_6_eq, wrap64 (n := (a : Int) + 5) (by omega) (by omega)]
  exact ok_dec (fun _ => ok_dec (fun h => by omega) fun _ => ok_some (no _ _ _)) fun _ => ok_some (no _ _ _)
 | succ k ih =>
  intro n v w i h1 h2 h3 h4 h5 h6
  obtain ⟨n, rfl⟩ : ∃ m, n = m + 1 := ⟨n - 1, by omega⟩
  have hw : w * 128 ≤ 34359738368 := by
   have h128 : 1 ≤ 128 ^ k := Nat.pow_pos (by decide)
   rw [Nat.pow_succ, ← Nat.mul_assoc, Nat.mul_right_comm] at h5
   exact Nat.le_trans (Nat.le_mul_of_pos_right _ h128) h5
  have h5' : w * 128 * 128 ^ k ≤ 34359738368 := by
   rw [Nat.pow_succ, ← Nat.mul_assoc, Nat.mul_right_comm] at h5
   exact h5
  rw [R_s_ReadVar_6_eq, wrap64 (n := (a : Int) + 5) (by omega) (by omega)]
  refine ok_dec (fun hi => ok_dec (fun hi5 => ok_if (by omega) ?_) fun _ => ok_some (no _ _ _)) fun _ => ok_some (no _ _ _)
  have hi' : i < s.data.toList.length := by omega
  have hd := List.drop_eq_getElem_cons hi'
  rw [Int.toNat_natCast, nth_at hi', Option.bind_some]
  generalize s.data.toList[i] = b at hd
  have hb : b.toNat < 256 := UInt8.toNat_lt _
  refine ok_if (by omega) ?_
  rw [Option.bind_some]
  have hx : b.toNat % 128 * w ≤ 127 * w := Nat.mul_le_mul_right _ (by omega)
  have ev : IntKind.i64.wrap ((v : Int) + IntKind.i64.wrap ((IntKind.i64.wrap (b.toNat : Int)).tmod 128 * (w : Int))) = ((v + b.toNat % 128 * w : Nat) : Int) := by
   have e1 : IntKind.i64.wrap (b.toNat : Int) = (b.toNat : Int) := wrap64 (by omega) (by omega)
   have e2 : ((b.toNat : Int)).tmod 128 = ((b.toNat % 128 : Nat) : Int) := (Int.ofNat_tmod b.toNat 128).symm
   have e3 : ((b.toNat % 128 : Nat) : Int) * (w : Int) = ((b.toNat % 128 * w : Nat) : Int) := (Int.natCast_mul _ _).symm
   rw [e1, e2, e3, wrap64 (n := ((b.toNat % 128 * w : Nat) : Int)) (by omega) (by omega), ← Int.natCast_add, wrap64 (by omega) (by omega)]
  have ei : IntKind.i64.wrap ((i : Int) + 1) = ((i + 1 : Nat) : Int) := by rw [wrap64 (by omega) (by omega)]; omega
  have ew : IntKind.i64.wrap ((w : Int) * 128) = ((w * 128 : Nat) : Int) := by rw [wrap64 (by omega) (by omega)]; omega
  rw [ev, ei, ew]
  refine ok_dec (fun hc => ok_dec (fun _ => ok_some (no _ _ _)) fun hv => ok_if (by omega) (ok_if (by omega) (ok_if (by omega) (ok_if (by omega) (ok_bind (o_Var _) fun y _ => ok_ndec (fun _ => ok_some (no _ _ _)) fun _ => ok_some fun _ => ⟨?_, ?_, ?_, ?_, fun m rest hm => ?_⟩))))) fun hc => ?_
  ·show (i : Int) < ((i + 1 : Nat) : Int); omega
  ·show ((i + 1 : Nat) : Int) ≤ _; omega
  ·show (0 : Int) ≤ ((v + b.toNat % 128 * w : Nat) : Int); omega
  ·show ((v + b.toNat % 128 * w : Nat) : Int) ≤ _; omega
  ·rw [hd] at hm
   by_cases h7 : m ≤ 127
   ·rw [enc_lo h7] at hm ⊢
    have hbm : b = UInt8.ofNat m := (List.cons.inj hm).1
    have : b.toNat % 128 = m := by rw [hbm, toNat_of (by omega)]; omega
    rw [this]
    exact ⟨rfl, rfl⟩
   ·rw [enc_hi h7] at hm
    have hbm : b = UInt8.ofNat (m % 128 + 128) := (List.cons.inj hm).1
    rw [hbm, toNat_of (by omega)] at hc
    omega
  ·refine ok_mono (ih n (v + b.toNat % 128 * w) (w * 128) (i + 1) (by omega) (by omega) (by omega) (by omega) h5' (by omega)) fun r hr h => ?_
   obtain ⟨g1, g2, g3, g4, g5⟩ := hr h
   refine ⟨by omega, g2, g3, g4, fun m rest hm => ?_⟩
   rw [hd] at hm
   by_cases h7 : m ≤ 127
   ·rw [enc_lo h7] at hm
    have hbm : b = UInt8.ofNat m := (List.cons.inj hm).1
    rw [hbm, toNat_of (by omega)] at hc
    omega
   ·rw [enc_hi h7] at hm ⊢
    have hbm : b = UInt8.ofNat (m % 128 + 128) := (List.cons.inj hm).1
    obtain ⟨q1, q2⟩ := g5 (m / 128) rest (List.cons.inj hm).2
    have hbx : b.toNat % 128 = m % 128 := by rw [hbm, toNat_of (by omega)]; omega
    refine ⟨?_, by rw [q2, List.length_cons]; congr 1; omega⟩
    rw [q1, hbx]
    congr 1
    have e1 : m / 128 * (w * 128) = m / 128 * 128 * w := by rw [Nat.mul_comm w 128, Nat.mul_assoc]
    have e2 : m * w = (m / 128 * 128 + m % 128) * w := by congr 1; omega
    rw [e1, e2, Nat.add_mul]; omega
theorem o_ReadVar (s : ByteArray) (hs : s.size ≤ 1000000) (a : Int) : Ok (Q_s_ReadVar big s a) fun r => r.2.2.1 = true → 0 ≤ a ∧ a < r.2.1 ∧ r.2.1 ≤ s.size ∧ 0 ≤ r.1 ∧ r.1 ≤ 1000000000 ∧
  ∀ m rest, s.data.toList.drop a.toNat = enc m ++ rest → r.1 = (m : Int) ∧ r.2.1 = a + ((enc m).length : Int) := by
 rw [Q_s_ReadVar_eq, e_In, Option.bind_some]
 refine ok_not (fun _ => ok_some fun h => by cases h) fun h => ?_
 simp only [Bool.and_eq_true, decide_eq_true_eq] at h
 obtain ⟨m, rfl⟩ : ∃ m : Nat, a = m := ⟨a.toNat, by omega⟩
 have := rd_loop s hs m 5 big 0 1 m (by omega) (by omega) (by omega) (by unfold big; omega) (by decide) (by omega)
 refine ok_mono this fun r hr h1 => ?_
 obtain ⟨g1, g2, g3, g4, g5⟩ := hr h1
 refine ⟨h.1, g1, g2, g3, g4, fun k rest hk => ?_⟩
 obtain ⟨q1, q2⟩ := g5 k rest hk
 exact ⟨by rw [q1]; congr 1; omega, by rw [q2]; omega⟩
def Adv (c c' : DSl08Cur) : Prop := c'.1 = c.1 ∧ (c'.2.2.1 = false → c.2.2.1 = false ∧ 0 ≤ c.2.1 ∧ c.2.1 < c'.2.1 ∧ c'.2.1 ≤ (ByteArray.size c.1 : Int))
theorem Adv.trans {a b c : DSl08Cur} (h : Adv a b) (k : Adv b c) : Adv a c := ⟨k.1.trans h.1, fun e => by
 obtain ⟨k1, k2, k3, k4⟩ := k.2 e
 obtain ⟨h1, h2, h3, h4⟩ := h.2 k1
 rw [h.1] at k4
 exact ⟨h1, h2, by omega, k4⟩⟩
theorem o_Var8 (c : DSl08Cur) (hs : ByteArray.size c.1 ≤ 1000000) : Ok (Q_s_l08Var big c) fun r => Adv c r.2.1 ∧ (r.2.1.2.2.1 = false → 0 ≤ r.1 ∧ r.1 ≤ 1000000000 ∧
  ∀ m rest, c.1.data.toList.drop (Int.toNat c.2.1) = enc m ++ rest → r.1 = (m : Int) ∧ r.2.1.2.1 = c.2.1 + ((enc m).length : Int)) := by
 rw [Q_s_l08Var_eq]
 refine ok_bind (o_ReadVar c.1 hs c.2.1) fun y hy => ok_cond (fun _ => ok_some ⟨⟨rfl, fun h => by cases h⟩, fun h => by cases h⟩) fun hb => ok_not (fun _ => ok_some ⟨⟨rfl, fun h => by cases h⟩, fun h => by cases h⟩) fun ho => ?_
 obtain ⟨g1, g2, g3, g4, g5, g6⟩ := hy ho
 exact ok_some ⟨⟨rfl, fun h => ⟨hb, g1, g2, g3⟩⟩, fun h => ⟨g4, g5, g6⟩⟩
theorem o_Qc8 (c : DSl08Cur) (hs : ByteArray.size c.1 ≤ 1000000) : Ok (Q_s_l08Qc big c) fun r => Adv c r.2.1 := by
 rw [Q_s_l08Qc_eq]
 refine ok_bind (o_Var8 c hs) fun y hy => ok_bind (o_Var8 y.2.1 (by rw [hy.1.1]; exact hs)) fun y1 hy1 => ?_
 have h1 := hy.1.trans hy1.1
 refine ok_bind (o_Var8 y1.2.1 (by rw [h1.1]; exact hs)) fun y2 hy2 => ?_
 have h2 := h1.trans hy2.1
 exact ok_bind (o_Var8 y2.2.1 (by rw [h2.1]; exact hs)) fun y3 hy3 => ok_some (h2.trans hy3.1)
theorem o_Vote8 (c : DSl08Cur) (hs : ByteArray.size c.1 ≤ 1000000) : Ok (Q_s_l08Vote big c) fun r => Adv c r.2.1 := by
 rw [Q_s_l08Vote_eq]
 refine ok_bind (o_Var8 c hs) fun y hy => ok_bind (o_Var8 y.2.1 (by rw [hy.1.1]; exact hs)) fun y1 hy1 => ?_
 have h1 := hy.1.trans hy1.1
 refine ok_bind (o_Var8 y1.2.1 (by rw [h1.1]; exact hs)) fun y2 hy2 => ?_
 have h2 := h1.trans hy2.1
 exact ok_bind (o_Var8 y2.2.1 (by rw [h2.1]; exact hs)) fun y3 hy3 => ok_some (h2.trans hy3.1)
theorem rk_loop (t u : ByteArray) (hu : u.size ≤ 20000) (s8 : Int) (c0 : Int) (c1 : Int) (c2 : Int) (c3 : Int) (c4 : Int) (c5 : Int) (c6 : Int) (c7 : Int) (c8 : Int) (c9 : Int) (c10 : Int) (c11 : Int) (c12 : Int) (c13 : Int) (c14 : List Int) (c15 : List DICell) (c16 : List Int) (c17 : List DIUndo) (c18 : List DIVote) (c19 : List DILetter) (c20 : Int) (b0 : Int) (b1 : Int) (b2 : Int) (b3 : Int) (b4 : Int) (b5 : Int) (b6 : Int) (b7 : Int) (b8 : Int) (b9 : Int) (b10 : Int) (b11 : Int) (b12 : Int) (b13 : Int) (b14 : List Int) (b15 : List DICell) (b16 : List Int) (b17 : List DIUndo) (b18 : List DIVote) (b19 : List DILetter) (b20 : Int) : ∀ (m n : Nat) (i : Int) (q : DSl08Cur) (row : List Int), q.1 = u →
  (q.2.2.1 = false → 0 ≤ q.2.1 ∧ q.2.1 ≤ u.size ∧ (u.size : Int) + 1 ≤ q.2.1 + m ∧ (row.length : Int) ≤ q.2.1) → row.length ≤ 20001 → m < n →
  Ok (R_s_ReadKept_10 n t s8 i c0 c1 c2 c3 c4 c5 c6 c7 c8 c9 c10 c11 c12 c13 c14 c15 c16 c17 c18 c19 c20 q.1 q.2.1 q.2.2.1 b0 b1 b2 b3 b4 b5 b6 b7 b8 b9 b10 b11 b12 b13 row b15 b16 b17 b18 b19 b20) fun r => r.2.1 = true → q.2.2.1 = false ∧
   ∃ row' : List Int, row'.length ≤ 20001 ∧ r.1 = (b0, b1, (b2, b3, b4, b5, ()), (b6, b7, b8, b9, ()), (b10, b11, b12, b13, ()), row', b15, b16, b17, b18, b19, b20, ()) := by
 have fin : ∀ (n : Nat) (i : Int) (q : DSl08Cur) (row : List Int), row.length ≤ 20001 → Ok (bif q.2.2.1 then some (((0 : Int), (0 : Int), ((0 : Int), (0 : Int), (0 : Int), (0 : Int), PUnit.unit), ((0 : Int), (0 : Int), (0 : Int), (0 : Int), PUnit.unit), ((0 : Int), (0 : Int), (0 : Int), (0 : Int), PUnit.unit), ([] : List Int), ([] : List DICell), ([] : List Int), ([] : List DIUndo), ([] : List DIVote), ([] : List DILetter), (0 : Int), PUnit.unit), false, PUnit.unit) else (Q_s_KeptText big (b0, b1, (b2, b3, b4, b5, ()), (b6, b7, b8, b9, ()), (b10, b11, b12, b13, ()), row, b15, b16, b17, b18, b19, b20, ())).bind fun y => bif !decide (y = t) then some (((0 : Int), (0 : Int), ((0 : Int), (0 : Int), (0 : Int), (0 : Int), PUnit.unit), ((0 : Int), (0 : Int), (0 : Int), (0 : Int), PUnit.unit), ((0 : Int), (0 : Int), (0 : Int), (0 : Int), PUnit.unit), ([] : List Int), ([] : List DICell), ([] : List Int), ([] : List DIUndo), ([] : List DIVote), ([] : List DILetter), (0 : Int), PUnit.unit), false, PUnit.unit) else some ((b0, b1, (b2, b3, b4, b5, PUnit.unit), (b6, b7, b8, b9, PUnit.unit), (b10, b11, b12, b13, PUnit.unit), row, b15, b16, b17, b18, b19, b20, PUnit.unit), true, PUnit.unit))
   (fun r : DIPeer × Bool × Unit => r.2.1 = true → q.2.2.1 = false ∧ ∃ row' : List Int, row'.length ≤ 20001 ∧ r.1 = (b0, b1, (b2, b3, b4, b5, ()), (b6, b7, b8, b9, ()), (b10, b11, b12, b13, ()), row', b15, b16, b17, b18, b19, b20, ())) := fun n i q row hr =>
  ok_cond (fun _ => ok_some (fun h => by cases h)) fun hb => ok_bind (o_KeptText _ (by show row.length ≤ _; omega)) fun y _ => ok_ndec (fun _ => ok_some (fun h => by cases h)) fun _ => ok_some fun _ => ⟨hb, row, hr, rfl⟩
 intro m
 induction m with
 | zero =>
  intro n i q row hq h1 h2 h3
  obtain ⟨n, rfl⟩ : ∃ m, n = m + 1 := ⟨n - 1, by omega⟩
  rw [R_s_ReadKept_10_eq]
  simp only [both_self]
  refine ok_dec (fun _ => ok_not (fun hb => ?_) fun _ => fin n i q row h2) fun _ => fin n i q row h2
  have := h1 hb
  omega
 | succ m ih =>
  intro n i q row hq h1 h2 h3
  obtain ⟨n, rfl⟩ : ∃ m, n = m + 1 := ⟨n - 1, by omega⟩
  rw [R_s_ReadKept_10_eq]
  simp only [both_self]
  refine ok_dec (fun _ => ok_not (fun hb => ?_) fun _ => fin n i q row h2) fun _ => fin n i q row h2
  obtain ⟨g1, g2, g3, g4⟩ := h1 hb
  refine ok_bind (o_Var8 (q.1, q.2.1, q.2.2.1, ()) (by show ByteArray.size q.1 ≤ _; rw [hq]; omega)) fun y hy => ok_if (by unfold lim; omega) ?_
  obtain ⟨⟨hy1, hy2⟩, _⟩ := hy
  refine ok_mono (ih n _ y.2.1 (List.append row [y.1]) (hy1.trans hq) (fun e => ?_) (by rw [len_snoc]; omega) (by omega)) fun r hr h => ⟨hb, (hr h).2⟩
  obtain ⟨k1, k2, k3, k4⟩ := hy2 e
  have k3 : q.2.1 < y.2.1.2.1 := k3
  have k4 : y.2.1.2.1 ≤ (ByteArray.size q.1 : Int) := k4
  rw [hq] at k4
  rw [len_snoc]
  exact ⟨by omega, k4, by omega, by omega⟩
theorem o_ReadKept (t : ByteArray) (ht : t.size ≤ 1000000) : Ok (Q_s_ReadKept big t) fun r => r.2.1 = true → 4 ≤ t.size ∧ (∀ a b e, t.extract 0 (t.size - 4) = bL (enc a) ++ bL (enc b) ++ e → r.1.1 = (a : Int) ∧ r.1.2.1 = (b : Int)) ∧
  List.length r.1.2.2.2.2.2.1 ≤ 20001 ∧ r.1.2.2.2.2.2.2 = ([], [], [], [], [], 0, ()) := by
 rw [Q_s_ReadKept_eq]
 refine ok_bind (o_Unsealed t ht) fun u hu => ?_
 refine ok_bind (o_Var8 (u.1, 0, !u.2.1, ()) (by show ByteArray.size u.1 ≤ _; have := hu.1; omega)) fun y hy => ?_
 have hs : ByteArray.size u.1 ≤ 1000000 := by have := hu.1; omega
 refine ok_bind (o_Var8 y.2.1 (by rw [hy.1.1]; exact hs)) fun y1 hy1 => ?_
 have h1 := hy.1.trans hy1.1
 refine ok_bind (o_Qc8 y1.2.1 (by rw [h1.1]; exact hs)) fun y2 hy2 => ?_
 have h2 := h1.trans hy2
 refine ok_bind (o_Qc8 y2.2.1 (by rw [h2.1]; exact hs)) fun y3 hy3 => ?_
 have h3 := h2.trans hy3
 refine ok_bind (o_Vote8 y3.2.1 (by rw [h3.1]; exact hs)) fun y4 hy4 => ?_
 have h4 := h3.trans hy4
 refine ok_bind (o_Var8 y4.2.1 (by rw [h4.1]; exact hs)) fun y5 hy5 => ?_
 have h5 := h4.trans hy5.1
 refine ok_mono (rk_loop t u.1 hu.1 y5.1 _ _ _ _ _ _ _ _ _ _ _ _ _ _ _ _ _ _ _ _ _ y.1 y1.1 y2.1.1 y2.1.2.1 y2.1.2.2.1 y2.1.2.2.2.1 y3.1.1 y3.1.2.1 y3.1.2.2.1 y3.1.2.2.2.1 y4.1.1 y4.1.2.1 y4.1.2.2.1 y4.1.2.2.2.1 [] [] [] [] [] [] 0 (ByteArray.size u.1 + 1) big 0 y5.2.1 [] h5.1 (fun e => ?_) (by decide) (by unfold big; omega)) fun r hr h => ?_
 ·obtain ⟨k1, k2, k3, k4⟩ := h5.2 e
  have k3 : (0 : Int) < y5.2.1.2.1 := k3
  exact ⟨by omega, k4, by omega, by show (0 : Int) ≤ _; omega⟩
 ·obtain ⟨hb, row, hrow, e⟩ := hr h
  have b4 := (hy5.1.2 hb).1
  have b3 := (hy4.2 b4).1
  have b2 := (hy3.2 b3).1
  have b1 := (hy2.2 b2).1
  have b0 := (hy1.1.2 b1).1
  have bu := (hy.1.2 b0).1
  have bu' : u.2.1 = true := by
   cases hc : u.2.1 with
   | true => rfl
   | false => rw [show ((u.1, (0 : Int), !u.2.1, ()) : DSl08Cur).2.2.1 = !u.2.1 from rfl, hc] at bu; cases bu
  obtain ⟨q1, q2⟩ := hu.2 bu'
  rw [e]
  refine ⟨q1, fun a b f hf => ?_, hrow, rfl⟩
  have hd : u.1.data.toList = enc a ++ (enc b ++ f.data.toList) := by
   rw [q2, hf]
   simp only [ByteArray.data_append, Array.toList_append, bL, List.append_assoc]
  obtain ⟨_, _, z1⟩ := hy.2 b0
  obtain ⟨z2, z3⟩ := z1 a (enc b ++ f.data.toList) hd
  obtain ⟨_, _, w1⟩ := hy1.2 b1
  have hy11 : y.2.1.1 = u.1 := hy.1.1
  have z3 : y.2.1.2.1 = 0 + ((enc a).length : Int) := z3
  obtain ⟨w2, _⟩ := w1 b f.data.toList (by
   rw [hy11, z3, hd, show (0 + ((enc a).length : Int)).toNat = (enc a).length by omega, List.drop_left])
  exact ⟨z2, w2⟩
theorem o_Fallen {B : Nat} (h0 : 30000 ≤ B) (hB : B ≤ 100000000) {t : List DIBlock} (ht : TreeI t) {p : DIPeer} (h : PeerI B p) (hi : 0 ≤ p.1 ∧ p.1 ≤ 1000) : Ok (Q_s_Fallen big t p) fun r => PeerI B r ∧ r.1 = p.1 := by
 have hv := h.view
 rw [Q_s_Fallen_eq]
 refine ok_bind (o_KeptText p (Nat.le_trans h.row hB)) fun y hy => ok_bind (o_ReadKept y (by have := hy.1; omega)) fun z hz => ok_not (fun _ => ok_some ⟨⟨Nat.zero_le _, ⟨Nat.zero_le _, fun c hc => by cases hc⟩, Nat.zero_le _, ⟨Nat.zero_le _, fun c hc => by cases hc⟩, Nat.zero_le _, Nat.zero_le _, by show (1 : Int) ≤ 1 ∧ (1 : Int) ≤ 900; decide⟩, rfl⟩) fun ho => ?_
 obtain ⟨g1, g2, g3, g4⟩ := hz ho
 obtain ⟨e, he⟩ := hy.2 g1 hi (by omega)
 obtain ⟨k1, k2⟩ := g2 _ _ _ he
 refine ok_bind (o_RowCells ht (by omega)) fun cs hcs => ok_some ⟨⟨?_, hcs, ?_, ⟨?_, ?_⟩, ?_, ?_, ?_⟩, ?_⟩
 ·show List.length z.1.2.2.2.2.2.1 ≤ B; omega
 ·show List.length z.1.2.2.2.2.2.2.2.1 ≤ 60; rw [g4]; exact Nat.zero_le _
 ·show List.length z.1.2.2.2.2.2.2.2.2.1 ≤ 240; rw [g4]; exact Nat.zero_le _
 ·show ∀ c ∈ z.1.2.2.2.2.2.2.2.2.1, _; rw [g4]; exact fun c hc => by cases hc
 ·show List.length z.1.2.2.2.2.2.2.2.2.2.1 ≤ B; rw [g4]; exact Nat.zero_le _
 ·show List.length z.1.2.2.2.2.2.2.2.2.2.2.1 ≤ B; rw [g4]; exact Nat.zero_le _
 ·show 1 ≤ z.1.2.1 ∧ z.1.2.1 ≤ 900; rw [k2]; omega
 ·show z.1.1 = p.1; rw [k1]; omega
end Go.Sx.Tryz
set_option maxRecDepth 100000
namespace Go.Sx.Tryz
open Go Go.Sx Go.Proofs
theorem o_LieVote {x : DICluster} (ht : TreeI x.2.2.2.1) (a b c k : Int) : Ok (Q_s_LieVote big x a b c k) fun _ => True := by
 have hlo := ht.lo; have hhi := ht.hi
 rw [Q_s_LieVote_eq, e_In, Option.bind_some, wrap64 (n := (↑(List.length x.2.2.2.1) : Int) - 1) (by omega) (by omega)]
 refine ok_cond (fun h => ?_) fun _ => ok_some trivial
 simp only [Bool.and_eq_true, decide_eq_true_eq] at h
 exact ok_if h.1 (ok_nth (by omega) fun _ _ => ok_some trivial)
theorem lieqc_loop {S : Nat} (hS : S ≤ 1000000000) (n0 : Int) (ch : Bool) (li : Int) (tr : List DIBlock) (ps : List DIPeer) (ne : List DILetter) (sa : List DIVote) (pe : List DICmd) (s1 s2 s8 z0 z1 z2 z3 : Int) :
  ∀ (m n : Nat) (i : Int) (l : List DIVote), 0 ≤ i → i ≤ 7 → (7 : Int) ≤ i + m → m < n → (l.length : Int) ≤ S + i → Ok (R_s_LieQc_6 n s1 s2 s8 l i n0 ch li tr ps ne sa pe z0 z1 z2 z3) fun _ => True := by
 intro m
 induction m with
 | zero =>
  intro n i l h0 h1 h2 h3 h4
  obtain ⟨n, rfl⟩ : ∃ m, n = m + 1 := ⟨n - 1, by omega⟩
  rw [R_s_LieQc_6_eq]
  exact ok_dec (fun _ => ok_dec (fun h => by omega) fun _ => ok_bind (o_QcOf l (by omega) _ _ _ _) fun _ _ => ok_some trivial) fun _ => ok_bind (o_QcOf l (by omega) _ _ _ _) fun _ _ => ok_some trivial
 | succ m ih =>
  intro n i l h0 h1 h2 h3 h4
  obtain ⟨n, rfl⟩ : ∃ m, n = m + 1 := ⟨n - 1, by omega⟩
  rw [R_s_LieQc_6_eq]
  refine ok_dec (fun _ => ok_dec (fun h => ?_) fun _ => ok_bind (o_QcOf l (by omega) _ _ _ _) fun _ _ => ok_some trivial) fun _ => ok_bind (o_QcOf l (by omega) _ _ _ _) fun _ _ => ok_some trivial
  rw [wrap64 (n := i + 1) (by omega) (by omega)]
  exact ok_bind (o_Lies _ _) fun _ _ => ok_cond (fun _ => ok_if (by simp only [List.length_singleton]; unfold lim; omega) (ih n (i + 1) _ (by omega) (by omega) (by omega) (by omega) (by rw [len_snoc]; omega))) fun _ => ih n (i + 1) _ (by omega) (by omega) (by omega) (by omega) (by omega)
theorem o_LieQc {B S : Nat} (hS : S ≤ 1000000000) {x : DICluster} (h : ClI B S x) (a k : Int) : Ok (Q_s_LieQc big x a k) fun _ => True := by
 have ht := h.tree
 have hlo := ht.lo; have hhi := ht.hi
 have hsa := h.said
 rw [Q_s_LieQc_eq, e_In, Option.bind_some, wrap64 (n := (↑(List.length x.2.2.2.1) : Int) - 1) (by omega) (by omega)]
 refine ok_not (fun _ => ok_some trivial) fun hk => ?_
 simp only [Bool.and_eq_true, decide_eq_true_eq] at hk
 exact ok_if (by omega) (ok_nth (by omega) fun y _ => ok_if (by unfold lim; omega) (lieqc_loop hS _ _ _ _ _ _ _ _ _ _ _ _ _ _ _ 7 big 0 _ (by omega) (by omega) (by omega) (by unfold big; omega) (by omega)))
theorem o_MayHand {B S : Nat} (hS : S ≤ 1000000000) {x : DICluster} (h : ClI B S x) (l : DILetter) : Ok (Q_s_MayHand big x l) fun _ => True := by
 have hsa := h.said
 rw [Q_s_MayHand_eq]
 exact ok_bind (o_LetterOk h.tree _ _) fun _ _ => ok_not (fun _ => ok_some trivial) fun _ => ok_bind (o_Lies _ _) fun _ _ => ok_not (fun _ => ok_some trivial) fun _ => ok_bind (o_Proven _ (by omega) _ _) fun _ _ => ok_not (fun _ => ok_some trivial) fun _ => ok_ndec (fun _ => ok_some trivial) fun _ => ok_bind (o_Lies _ _) fun _ _ => ok_some trivial
theorem o_Hand {B S : Nat} (hS : S ≤ 1000000000) {x : DICluster} (h : ClI B S x) (l : DILetter) : Ok (Q_s_l16Hand big x l) fun r => ClI B S r.2.1 := by
 rw [Q_s_l16Hand_eq]
 exact ok_bind (o_MayHand hS h l) fun _ _ => ok_not (fun _ => ok_some h) fun _ => ok_bind (o_Post h _ (by simp only [List.length_singleton]; omega)) fun y hy => ok_some hy
theorem o_Phase (x : DICluster) (k : Int) : Ok (Q_s_l19Phase big x k) fun _ => True := by
 rw [Q_s_l19Phase_eq]
 exact ok_cond (fun _ => ok_some trivial) fun _ => ok_some trivial
theorem far_loop (l : List DIPeer) (hl : l.length ≤ 1000) : ∀ (m n : Nat) (a i : Int), 0 ≤ i → i ≤ l.length → (l.length : Int) ≤ i + m → m < n → Ok (R_s_FarthestView_3 n l a i) fun _ => True
 | m, 0, a, i, _, _, _, h => by omega
 | 0, n + 1, a, i, h0, h1, h2, h3 => by
  rw [R_s_FarthestView_3_eq]
  exact ok_dec (fun h => by omega) fun _ => ok_some trivial
 | m + 1, n + 1, a, i, h0, h1, h2, h3 => by
  rw [R_s_FarthestView_3_eq, wrap64 (n := i + 1) (by omega) (by omega)]
  exact ok_dec (fun hi => ok_if h0 (ok_nth (by omega) fun y _ => ok_dec (fun _ => ok_if h0 (ok_nth (by omega) fun z _ => far_loop l hl m n _ (i + 1) (by omega) (by omega) (by omega) (by omega))) fun _ => far_loop l hl m n _ (i + 1) (by omega) (by omega) (by omega) (by omega))) fun _ => ok_some trivial
theorem o_Farthest (l : List DIPeer) (hl : l.length ≤ 1000) : Ok (Q_s_FarthestView big l) fun _ => True := by
 rw [Q_s_FarthestView_eq]
 exact far_loop l hl l.length big 0 0 (by omega) (by omega) (by omega) (by unfold big; omega)
structure EvI (e : DIEvent) : Prop where
 num : 0 ≤ e.2.2.2.1
 key : ByteArray.size e.2.2.2.2.1.2.1 ≤ 1000
theorem blk_tail {B S : Nat} (hS : S ≤ 1000000000) {x : DICluster} (h : ClI B S x) {e : DIEvent} (he : EvI e) (k view : Int) (q : DIQc) : Ok
  ((Q_s_Lies big x e.2.1).bind fun y_2 => bif !y_2 then some (false, x, PUnit.unit) else (Q_s_QcRight big x.2.2.2.1 x.1 q).bind fun y_3 => bif !y_3 then some (false, x, PUnit.unit) else (Q_s_Proven big x.2.2.2.2.2.2.1 q x.2.2.1).bind fun y_4 => bif !y_4 then some (false, x, PUnit.unit) else
   (Q_s_PutBlock big x.2.2.2.1 (k, view, [e.2.2.2.2.1], q, ())).bind fun y_5 => bif decide (y_5.2.1 < (0 : Int)) then some (false, x, PUnit.unit) else (Q_s_l16Hand big (x.1, x.2.1, x.2.2.1, y_5.1, x.2.2.2.2) ((1 : Int), e.2.1, e.2.2.1, view, y_5.2.1, q, ((0 : Int), (0 : Int), (0 : Int), (0 : Int), ()), ())).bind fun y =>
   bif !y.1 then some (false, (y.2.1.1, y.2.1.2.1, y.2.1.2.2.1, x.2.2.2.1, y.2.1.2.2.2.2), PUnit.unit) else some (true, y.2))
  fun r : Bool × DICluster × Unit => ClI B S r.2.1 := by
 have hsa := h.said
 refine ok_bind (o_Lies _ _) fun _ _ => ok_not (fun _ => ok_some h) fun _ => ok_bind (o_QcRight h.tree _ _) fun _ _ => ok_not (fun _ => ok_some h) fun _ => ok_bind (o_Proven _ (by omega) _ _) fun _ _ => ok_not (fun _ => ok_some h) fun _ =>
  ok_bind (o_PutBlock h.tree (k, view, [e.2.2.2.2.1], q, ()) (fun c hc => by rw [List.mem_singleton.1 hc]; exact he.key) (by show List.length [_] ≤ _; simp only [List.length_singleton]; omega)) fun y5 hy5 => ok_dec (fun _ => ok_some h) fun _ => ?_
 have h5 : ClI B S (x.1, x.2.1, x.2.2.1, y5.1, x.2.2.2.2) := ⟨h.n, hy5.1, h.peers, h.peer, h.net, h.said, h.pend, h.key⟩
 refine ok_bind (o_Hand hS h5 _) fun y hy => ok_not (fun _ => ok_some ⟨hy.n, h.tree, hy.peers, hy.peer, hy.net, hy.said, hy.pend, hy.key⟩) fun _ => ok_some hy
set_option maxHeartbeats 4000000 in
theorem o_Block {B S : Nat} (hS : S ≤ 1000000000) {x : DICluster} (h : ClI B S x) {e : DIEvent} (he : EvI e) : Ok (Q_s_l19Block big x e) fun r => ClI B S r.2.1 := by
 have ht := h.tree
 have hlo := ht.lo; have hhi := ht.hi
 have hp := h.peers
 have hm := tmod_in he.num (show (0 : Int) < (↑(List.length x.2.2.2.1) : Int) by omega)
 rw [Q_s_l19Block_eq]
 refine ok_ifn (by omega) (ok_bind (o_Farthest _ (by omega)) fun y _ => ok_dec (fun _ => ok_if hm.1 (ok_if hm.2 (ok_nth (by omega) fun z _ => ok_cond (fun _ => ?_) fun _ => ?_))) fun _ => ok_cond (fun _ => ?_) fun _ => ?_)
 ·exact ok_bind (o_LieQc hS h _ _) fun q _ => ok_not (fun _ => ok_ndec (fun _ => ok_some h) fun _ => blk_tail hS h he _ _ q.1) fun _ => blk_tail hS h he _ _ q.1
 ·exact ok_bind (o_LieQc hS h _ _) fun q _ => ok_not (fun _ => ok_ndec (fun _ => ok_some h) fun _ => blk_tail hS h he _ _ q.1) fun _ => blk_tail hS h he _ _ q.1
 ·exact ok_bind (o_LieQc hS h _ _) fun q _ => ok_not (fun _ => ok_ndec (fun _ => ok_some h) fun _ => blk_tail hS h he _ _ q.1) fun _ => blk_tail hS h he _ _ q.1
 ·exact ok_bind (o_LieQc hS h _ _) fun q _ => ok_not (fun _ => ok_ndec (fun _ => ok_some h) fun _ => blk_tail hS h he _ _ q.1) fun _ => blk_tail hS h he _ _ q.1
theorem o_Lie {B S : Nat} (hS : S ≤ 1000000000) {x : DICluster} (h : ClI B S x) {e : DIEvent} (he : EvI e) : Ok (Q_s_l19Lie big x e) fun r => ClI B S r.2.1 := by
 have ht := h.tree
 have hlo := ht.lo; have hhi := ht.hi
 rw [Q_s_l19Lie_eq]
 refine ok_dec (fun _ => ok_some h) fun _ => ok_bind (o_Lies _ _) fun _ _ => ok_not (fun _ => ok_some h) fun _ => ok_ifn (by omega) (ok_dec (fun _ => ok_bind (o_Phase _ _) fun y _ => ok_bind (o_LieVote ht _ _ _ _) fun z _ => ok_bind (o_Hand hS h z) fun w hw => ok_some hw) fun _ =>
  ok_dec (fun _ => ok_bind (o_Phase _ _) fun y _ => ok_bind (o_LieQc hS h _ _) fun z _ => ok_not (fun _ => ok_some h) fun _ => ok_bind (o_Hand hS h _) fun w hw => ok_some hw) fun _ =>
  ok_dec (fun _ => ok_bind (o_Block hS h he) fun w hw => ok_some hw) fun _ => ok_bind (o_Hand hS h _) fun w hw => ok_some hw)
end Go.Sx.Tryz
set_option maxRecDepth 100000
namespace Go.Sx.Tryz
open Go Go.Sx Go.Proofs
theorem o_Cmd2 {c : DSl01Cur} (h : CurI c) : Ok (Q_s_l03Cmd big c) fun r => CurI r.2.1 ∧ ByteArray.size r.1.2.1 ≤ 1000 := by
 rw [Q_s_l03Cmd_eq]
 refine ok_bind (o_Below h 3) fun y hy => ?_
 refine ok_bind (Q := fun r => CurI r.2.1 ∧ ByteArray.size r.1 ≤ 1000) ?_ fun y1 hy1 => ?_
 ·rw [Q_s_l03Key_eq]
  refine ok_bind (o_Pick hy.2.2.2 _ (by decide)) fun z hz => ok_some ⟨hz.2, ?_⟩
  have h1 := hz.1
  simp only [List.mem_cons, List.not_mem_nil, or_false] at h1
  rcases h1 with h1 | h1 | h1 | h1 <;> rw [h1] <;> decide
 ·exact ok_bind (o_PickInt hy1.1 _ (by decide)) fun z hz => ok_some ⟨hz.2, hy1.2⟩
theorem cnt0 (n : Nat) : Q_s_CountOf (n + 8) 0 = some 0 := by
 rw [Q_s_CountOf_eq]
 simp only [R_s_CountOf_3_eq]
 kernel_rfl
theorem cnt1 (n : Nat) : Q_s_CountOf (n + 8) 1 = some 1 := by
 rw [Q_s_CountOf_eq]
 simp only [R_s_CountOf_3_eq]
 kernel_rfl
theorem cnt2 (n : Nat) : Q_s_CountOf (n + 8) 2 = some 1 := by
 rw [Q_s_CountOf_eq]
 simp only [R_s_CountOf_3_eq]
 kernel_rfl
theorem cnt8 (n : Nat) : Q_s_CountOf (n + 8) 8 = some 1 := by
 rw [Q_s_CountOf_eq]
 simp only [R_s_CountOf_3_eq]
 kernel_rfl
theorem e_cnt {l : Int} (h : l = 0 ∨ l = 8 ∨ l = 1 ∨ l = 2) : ∃ v, Q_s_CountOf big l = some v ∧ ¬ (1 : Int) < v := by
 have hb : big = (big - 8) + 8 := by decide
 rw [hb]
 rcases h with rfl | rfl | rfl | rfl
 ·exact ⟨_, cnt0 _, by decide⟩
 ·exact ⟨_, cnt8 _, by decide⟩
 ·exact ⟨_, cnt1 _, by decide⟩
 ·exact ⟨_, cnt2 _, by decide⟩
theorem e_faults4 : Q_s_Faults big 4 = some 1 := by
 rw [Q_s_Faults_eq]
 rfl
theorem peer_new (i : Int) (h : 0 ≤ i ∧ i ≤ 1000) : PeerJ 0 (i, (1 : Int), ((0 : Int), (0 : Int), (0 : Int), (0 : Int), ()), ((0 : Int), (0 : Int), (0 : Int), (0 : Int), ()), ((0 : Int), (0 : Int), (0 : Int), (0 : Int), ()), [], [], [], [], [], [], (0 : Int), ()) :=
 ⟨⟨Nat.le_refl _, ⟨Nat.zero_le _, fun c hc => by cases hc⟩, Nat.zero_le _, ⟨Nat.zero_le _, fun c hc => by cases hc⟩, Nat.le_refl _, Nat.le_refl _, by show (1 : Int) ≤ 1 ∧ (1 : Int) ≤ 900; decide⟩, h⟩
theorem tree_new : TreeI [((-1 : Int), (0 : Int), [], ((0 : Int), (0 : Int), (0 : Int), (0 : Int), ()), ())] :=
 ⟨Nat.le_refl _, by decide, fun b hb => by rw [List.mem_singleton.1 hb]; exact ⟨Nat.zero_le _, fun c hc => by cases hc⟩, fun b hb => by rw [List.mem_singleton.1 hb]; show (0 : Int) ≤ 0 ∧ (0 : Int) ≤ 900; decide⟩
theorem new4_loop (ch : Bool) (li : Int) : ∀ (m n i : Nat) (ps : List DIPeer), i ≤ 4 → 4 ≤ i + m → m < n → ps.length = i → (∀ p ∈ ps, PeerJ 0 p) →
  Ok (R_s_ClusterNew_5 n 4 (i : Int) 0 false 0 [] [] [] [] [] 4 ch li [((-1 : Int), (0 : Int), [], ((0 : Int), (0 : Int), (0 : Int), (0 : Int), PUnit.unit), PUnit.unit)] ps [] [] []) fun r => ClI 0 0 r.1 := by
 intro m
 have fin : ∀ ps : List DIPeer, ps.length = 4 → (∀ p ∈ ps, PeerJ 0 p) → ClI 0 0 ((4 : Int), ch, li, [((-1 : Int), (0 : Int), [], ((0 : Int), (0 : Int), (0 : Int), (0 : Int), ()), ())], ps, [], [], [], ()) := fun ps h1 h2 =>
  ⟨rfl, tree_new, h1, h2, Nat.zero_le _, Nat.le_refl _, Nat.zero_le _, fun c hc => by cases hc⟩
 induction m with
 | zero =>
  intro n i ps h0 h1 h2 h3 h4
  obtain ⟨n, rfl⟩ : ∃ m, n = m + 1 := ⟨n - 1, by omega⟩
  rw [R_s_ClusterNew_5_eq]
  exact ok_dec (fun h => by omega) fun _ => ok_some (fin ps (by omega) h4)
 | succ m ih =>
  intro n i ps h0 h1 h2 h3 h4
  obtain ⟨n, rfl⟩ : ∃ m, n = m + 1 := ⟨n - 1, by omega⟩
  rw [R_s_ClusterNew_5_eq, wrap64 (n := (i : Int) + 1) (by omega) (by omega)]
  refine ok_dec (fun h => ok_if (by unfold lim; omega) ?_) fun _ => ok_some (fin ps (by omega) h4)
  have e : (i : Int) + 1 = ((i + 1 : Nat) : Int) := by omega
  rw [e]
  refine ih n (i + 1) _ (by omega) (by omega) (by omega) (by rw [len_snoc]; omega) fun p hp => ?_
  rcases List.mem_append.1 hp with hp | hp
  ·exact h4 p hp
  ·rw [List.mem_singleton.1 hp]; exact peer_new i (by omega)
theorem o_New4 (ch : Bool) {l : Int} (h : l = 0 ∨ l = 8 ∨ l = 1 ∨ l = 2) : Ok (Q_s_ClusterNew big 4 ch l) fun r => ClI 0 0 r.1 := by
 rw [Q_s_ClusterNew_eq, e_In, Option.bind_some, show (decide ((1 : Int) ≤ 4) && decide ((4 : Int) ≤ 7)) = true from by decide, Bool.not_true, cond_false]
 refine ok_ifn (u64_nn 4) ?_
 have e : IntKind.i64.wrap (IntKind.i64.wrap ((1 : Int) * (2 : Int) ^ min (IntKind.u64.wrap 4).toNat IntKind.i64.bits) - (1 : Int)) = 15 := by decide
 have e2 : (decide ((0 : Int) ≤ l) && decide (l ≤ 15)) = true := by rcases h with rfl | rfl | rfl | rfl <;> decide
 rw [e_In, e, e2, Option.bind_some, Bool.not_true, cond_false]
 obtain ⟨v, hv, hv1⟩ := e_cnt h
 rw [hv, Option.bind_some, e_faults4, Option.bind_some]
 refine ok_dec (fun hc => absurd hc hv1) fun _ => ?_
 have := new4_loop ch l 4 big 0 [] (by decide) (by decide) (by decide) rfl (fun p hp => by cases hp)
 exact this
def EvR (x : DICluster) (r : DIEvent × DSl01Cur × (Unit × Unit × Unit × List DIBlock × List DIPeer × List DILetter × List DIVote × List DICmd × Unit) × Unit) : Prop :=
 EvI r.1 ∧ CurI r.2.1 ∧ r.2.2.1 = ((), (), (), x.2.2.2.1, x.2.2.2.2.1, x.2.2.2.2.2.1, x.2.2.2.2.2.2.1, x.2.2.2.2.2.2.2.1, ())
theorem evi0 (a b c : Int) (n : Int) (hn : 0 ≤ n) : EvI (a, b, c, n, ((0 : Int), ByteArray.empty, (0 : Int), ()), ()) := ⟨hn, by show ByteArray.size ByteArray.empty ≤ 1000; decide⟩
theorem ev12 (x : DICluster) (hx : List.length x.2.2.2.2.1 ≤ 1000) (c : DSl01Cur) (hc : CurI c) (z0 z1 z2 z3 z4 : Int) (z5 : ByteArray) (z6 : Int) : ∀ (m n : Nat) (i : Int), 0 ≤ i → i ≤ List.length x.2.2.2.2.1 → (List.length x.2.2.2.2.1 : Int) ≤ i + m → m < n →
  Ok (R_s_l19Event_12 n i c.1 c.2.1 c.2.2.1 x.2.2.2.1 x.2.2.2.2.1 x.2.2.2.2.2.1 x.2.2.2.2.2.2.1 x.2.2.2.2.2.2.2.1 x.1 x.2.1 x.2.2.1 z0 z1 z2 z3 z4 z5 z6) (EvR x) := by
 have fin : EvR x (((3 : Int), (0 : Int), (0 : Int), (0 : Int), ((0 : Int), ByteArray.empty, (0 : Int), PUnit.unit), PUnit.unit), (c.1, c.2.1, c.2.2.1, PUnit.unit), (PUnit.unit, PUnit.unit, PUnit.unit, x.2.2.2.1, x.2.2.2.2.1, x.2.2.2.2.2.1, x.2.2.2.2.2.2.1, x.2.2.2.2.2.2.2.1, PUnit.unit), PUnit.unit) := ⟨evi0 _ _ _ _ (by decide), hc, rfl⟩
 intro m
 induction m with
 | zero =>
  intro n i h0 h1 h2 h3
  obtain ⟨n, rfl⟩ : ∃ m, n = m + 1 := ⟨n - 1, by omega⟩
  rw [R_s_l19Event_12_eq]
  exact ok_dec (fun h => by omega) fun _ => ok_some fin
 | succ m ih =>
  intro n i h0 h1 h2 h3
  obtain ⟨n, rfl⟩ : ∃ m, n = m + 1 := ⟨n - 1, by omega⟩
  rw [R_s_l19Event_12_eq, wrap64 (n := i + 1) (by omega) (by omega)]
  refine ok_dec (fun hi => ?_) fun _ => ok_some fin
  refine ok_bind (o_Honest (x.1, x.2.1, x.2.2.1, x.2.2.2.1, x.2.2.2.2.1, x.2.2.2.2.2.1, x.2.2.2.2.2.2.1, x.2.2.2.2.2.2.2.1, ()) i hx) fun b _ => ok_cond (fun _ => ok_if h0 (ok_if hi ?_)) fun _ => ih n (i + 1) (by omega) (by omega) (by omega) (by omega)
  have hin : i.toNat < List.length x.2.2.2.2.1 := by omega
  rw [nth_at hin, Option.bind_some]
  refine ok_bind (o_Ready _ _ _) fun y _ => ok_upd hin ?_
  rw [upd_same (nth_at hin)]
  refine ok_cond (fun _ => ok_some ⟨evi0 _ _ _ _ (by decide), hc, rfl⟩) fun _ => ih n (i + 1) (by omega) (by omega) (by omega) (by omega)
theorem ev4 (x : DICluster) (hx : List.length x.2.2.2.2.1 ≤ 1000) (h4 : x.1 = 4) (c : DSl01Cur) (hc : CurI c) (s5 : Int) (z0 z1 z2 z3 z4 : Int) (z5 : ByteArray) (z6 : Int) : ∀ (m n : Nat) (s6 i : Int), 0 ≤ i → i ≤ 4 → (4 : Int) ≤ i + m → m + 1001 < n →
  Ok (R_s_l19Event_4 n s5 s6 i c.1 c.2.1 c.2.2.1 x.2.2.2.1 x.2.2.2.2.1 x.2.2.2.2.2.1 x.2.2.2.2.2.2.1 x.2.2.2.2.2.2.2.1 x.1 x.2.1 x.2.2.1 z0 z1 z2 z3 z4 z5 z6) (EvR x) := by
 intro m
 have hc' : CurI (c.1, c.2.1, c.2.2.1, ()) := hc
 induction m with
 | zero =>
  intro n s6 i h0 h1 h2 h3
  obtain ⟨n, rfl⟩ : ∃ m, n = m + 1 := ⟨n - 1, by omega⟩
  rw [R_s_l19Event_4_eq]
  refine ok_dec (fun h => by omega) fun _ => ok_dec (fun _ => ok_bind (o_Cmd2 hc') fun y hy => ok_some ⟨⟨by show (0 : Int) ≤ 0; decide, hy.2⟩, hy.1, rfl⟩) fun _ =>
   ok_dec (fun _ => ev12 x hx c hc _ _ _ _ _ _ _ (List.length x.2.2.2.2.1) n 0 (by omega) (by omega) (by omega) (by omega)) fun _ =>
   ok_dec (fun _ => ok_dec (fun _ => ok_bind (o_Once hc' 3) fun y hy => ok_cond (fun _ => ok_bind (o_Below hy _) fun z hz => ok_some ⟨evi0 _ _ _ _ (by decide), hz.2.2.2, rfl⟩) fun _ => ok_some ⟨evi0 _ _ _ _ (by decide), hy, rfl⟩) fun _ => ok_some ⟨evi0 _ _ _ _ (by decide), hc, rfl⟩) fun _ =>
   ok_dec (fun _ => ok_bind (o_PickInt hc' _ (by decide)) fun y hy => ok_bind (o_Below hy.2 _) fun z hz => ok_some ⟨evi0 _ _ _ _ (by decide), hz.2.2.2, rfl⟩) fun _ =>
   ok_dec (fun _ => ok_bind (o_Below hc' _) fun z hz => ok_some ⟨evi0 _ _ _ _ (by decide), hz.2.2.2, rfl⟩) fun _ =>
   ok_dec (fun _ => ok_bind (o_Below hc' _) fun z hz => ok_some ⟨evi0 _ _ _ _ (by decide), hz.2.2.2, rfl⟩) fun _ =>
   ok_bind (o_Below hc' _) fun y hy => ok_bind (o_Below hy.2.2.2 _) fun z hz => ok_dec (fun _ => ok_bind (o_Cmd2 hz.2.2.2) fun w hw => ok_some ⟨⟨hy.1, hw.2⟩, hw.1, rfl⟩) fun _ => ok_bind (o_PickInt hz.2.2.2 _ (by decide)) fun w hw => ok_some ⟨evi0 _ _ _ _ hy.1, hw.2, rfl⟩
 | succ m ih =>
  intro n s6 i h0 h1 h2 h3
  rcases Int.lt_or_le i 4 with hi | hi
  ·obtain ⟨n, rfl⟩ : ∃ m, n = m + 1 := ⟨n - 1, by omega⟩
   rw [R_s_l19Event_4_eq, wrap64 (n := i + 1) (by omega) (by omega)]
   refine ok_dec (fun h => ok_bind (o_Lies _ _) fun _ _ => ok_cond (fun _ => ih n _ (i + 1) (by omega) (by omega) (by omega) (by omega)) fun _ => ih n _ (i + 1) (by omega) (by omega) (by omega) (by omega)) fun h => by omega
  ·exact ih n s6 i h0 h1 (by omega) (by omega)
theorem o_Event (x : DICluster) (hx : List.length x.2.2.2.2.1 ≤ 1000) (h4 : x.1 = 4) (c : DSl01Cur) (hc : CurI c) : Ok (Q_s_l19Event big c x) (EvR x) := by
 rw [Q_s_l19Event_eq]
 exact ok_bind (o_Below hc 20) fun y hy => ev4 x hx h4 y.2.1 hy.2.2.2 _ _ _ _ _ _ _ _ 4 big 0 0 (by omega) (by omega) (by omega) (by unfold big; omega)
end Go.Sx.Tryz
set_option maxRecDepth 100000
namespace Go.Sx.Tryz
open Go Go.Sx Go.Proofs
theorem best_loop (b0 : Int) (b1 : Int) (b2 : Int) (b3 : Int) (b4 : Int) (b5 : Int) (b6 : Int) (b7 : Int) (b8 : Int) (b9 : Int) (b10 : Int) (b11 : Int) (b12 : Int) (b13 : Int) (b14 : List Int) (b15 : List DICell) (b16 : List Int) (b17 : List DIUndo) (b18 : List DIVote) (b19 : List DILetter) (b20 : Int) (hn : b19.length ≤ 1000000000) (z0 z1 z2 z3 : Int) : ∀ (m n : Nat) (i y0 y1 y2 y3 : Int), 0 ≤ i → i ≤ b19.length → (b19.length : Int) ≤ i + m → m < n →
  Ok (R_s_BestQc_3 n i b0 b1 b2 b3 b4 b5 b6 b7 b8 b9 b10 b11 b12 b13 b14 b15 b16 b17 b18 b19 b20 z0 z1 z2 z3 y0 y1 y2 y3) fun _ => True := by
 intro m
 induction m with
 | zero =>
  intro n i y0 y1 y2 y3 h0 h1 h2 h3
  obtain ⟨n, rfl⟩ : ∃ m, n = m + 1 := ⟨n - 1, by omega⟩
  rw [R_s_BestQc_3_eq]
  exact ok_dec (fun h => by omega) fun _ => ok_some trivial
 | succ m ih =>
  intro n i y0 y1 y2 y3 h0 h1 h2 h3
  obtain ⟨n, rfl⟩ : ∃ m, n = m + 1 := ⟨n - 1, by omega⟩
  rw [R_s_BestQc_3_eq, wrap64 (n := i + 1) (by omega) (by omega)]
  exact ok_dec (fun hi => ok_if h0 (ok_nth (by omega) fun y _ => ok_bind (o_Higher _ _) fun z _ => ih n (i + 1) _ _ _ _ (by omega) (by omega) (by omega) (by omega))) fun _ => ok_some trivial
theorem o_Best {p : DIPeer} (h : List.length p.2.2.2.2.2.2.2.2.2.2.1 ≤ 1000000000) : Ok (Q_s_BestQc big p) fun _ => True := by
 rw [Q_s_BestQc_eq]
 exact best_loop _ _ _ _ _ _ _ _ _ _ _ _ _ _ _ _ _ _ _ _ _ h _ _ _ _ (List.length p.2.2.2.2.2.2.2.2.2.2.1) big 0 _ _ _ _ (by omega) (by omega) (by omega) (by unfold big; omega)
theorem o_Shows {B : Nat} (hB : B ≤ 1000000000) {t : List DIBlock} (ht : TreeI t) {p : DIPeer} (h : PeerI B p) (l : List DICmd) (hl : l.length ≤ 1000) (hk : ∀ c ∈ l, ByteArray.size c.2.1 ≤ 1000) :
  Ok (Q_s_Shows big t p l) fun r => TreeI r.1 ∧ PeerI B r.2.1 ∧ r.2.1.1 = p.1 := by
 rw [Q_s_Shows_eq]
 refine ok_bind (o_Best (Nat.le_trans h.news hB)) fun q _ => ok_bind (o_PutBlock ht (q.2.2.1, p.2.1, l, q, ()) hk (by show l.length ≤ _; omega)) fun y hy => ?_
 rw [e_Copy hB h, Option.bind_some]
 exact ok_dec (fun _ => ok_some ⟨hy.1, h, rfl⟩) fun _ => ok_some ⟨hy.1, ⟨h.row, h.cells, h.early, h.undos, h.votes, h.news, h.view⟩, rfl⟩
theorem shown_loop (b0 : Int) (b1 : Int) (b2 : Int) (b3 : Int) (b4 : Int) (b5 : Int) (b6 : Int) (b7 : Int) (b8 : Int) (b9 : Int) (b10 : Int) (b11 : Int) (b12 : Int) (b13 : Int) (b14 : List Int) (b15 : List DICell) (b16 : List Int) (b17 : List DIUndo) (b18 : List DIVote) (b19 : List DILetter) (b20 : Int) (s2 s3 z0 z1 z2 z3 : Int) : ∀ (m n : Nat) (i : Int) (l : List DILetter), 0 ≤ i → i ≤ 7 → (7 : Int) ≤ i + m → m < n → (l.length : Int) ≤ i →
  Ok (R_s_ShownTo_6 n s2 s3 l i b0 b1 b2 b3 b4 b5 b6 b7 b8 b9 b10 b11 b12 b13 b14 b15 b16 b17 b18 b19 b20 z0 z1 z2 z3) fun r => List.length r ≤ 7 := by
 intro m
 induction m with
 | zero =>
  intro n i l h0 h1 h2 h3 h4
  obtain ⟨n, rfl⟩ : ∃ m, n = m + 1 := ⟨n - 1, by omega⟩
  rw [R_s_ShownTo_6_eq]
  exact ok_dec (fun _ => ok_dec (fun h => by omega) fun _ => ok_some (by omega)) fun _ => ok_some (by omega)
 | succ m ih =>
  intro n i l h0 h1 h2 h3 h4
  obtain ⟨n, rfl⟩ : ∃ m, n = m + 1 := ⟨n - 1, by omega⟩
  rw [R_s_ShownTo_6_eq, wrap64 (n := i + 1) (by omega) (by omega)]
  exact ok_dec (fun _ => ok_dec (fun h => ok_if (by simp only [List.length_singleton]; unfold lim; omega) (ih n (i + 1) _ (by omega) (by omega) (by omega) (by omega) (by rw [len_snoc]; omega))) fun _ => ok_some (by omega)) fun _ => ok_some (by omega)
theorem o_ShownTo {t : List DIBlock} (ht : TreeI t) (p : DIPeer) (k n : Int) : Ok (Q_s_ShownTo big t p k n) fun r => List.length r ≤ 7 := by
 have hlo := ht.lo; have hhi := ht.hi
 rw [Q_s_ShownTo_eq, e_In, Option.bind_some, wrap64 (n := (↑(List.length t) : Int) - 1) (by omega) (by omega)]
 refine ok_cond (fun h => ?_) fun _ => shown_loop _ _ _ _ _ _ _ _ _ _ _ _ _ _ _ _ _ _ _ _ _ _ _ _ _ _ _ 7 big 0 [] (by omega) (by omega) (by omega) (by unfold big; omega) (by decide)
 simp only [Bool.and_eq_true, decide_eq_true_eq] at h
 exact ok_if h.1 (ok_nth (by omega) fun y _ => shown_loop _ _ _ _ _ _ _ _ _ _ _ _ _ _ _ _ _ _ _ _ _ _ _ _ _ _ _ 7 big 0 [] (by omega) (by omega) (by omega) (by unfold big; omega) (by decide))
end Go.Sx.Tryz
set_option maxRecDepth 100000
namespace Go.Sx.Tryz
open Go Go.Sx Go.Proofs
theorem show_cut {B S : Nat} {x : DICluster} (h : ClI B S x) (i : Int) (hi : 0 ≤ i ∧ i < (List.length x.2.2.2.2.1 : Int)) (k : Int) (hk : 0 ≤ k ∧ k ≤ (List.length x.2.2.2.2.2.2.2.1 : Int)) {t : List DIBlock} (ht : TreeI t) (at_ : Int) (b0 : Int) (b1 : Int) (b2 : Int) (b3 : Int) (b4 : Int) (b5 : Int) (b6 : Int) (b7 : Int) (b8 : Int) (b9 : Int) (b10 : Int) (b11 : Int) (b12 : Int) (b13 : Int) (b14 : List Int) (b15 : List DICell) (b16 : List Int) (b17 : List DIUndo) (b18 : List DIVote) (b19 : List DILetter) (b20 : Int) (hp : PeerJ B (b0, b1, (b2, b3, b4, b5, ()), (b6, b7, b8, b9, ()), (b10, b11, b12, b13, ()), b14, b15, b16, b17, b18, b19, b20, ())) (n : Nat) (hn : 0 < n) :
  Ok (R_s_l15Show_5000007 n i k t at_ x.1 x.2.1 x.2.2.1 x.2.2.2.1 x.2.2.2.2.1 x.2.2.2.2.2.1 x.2.2.2.2.2.2.1 x.2.2.2.2.2.2.2.1 b0 b1 b2 b3 b4 b5 b6 b7 b8 b9 b10 b11 b12 b13 b14 b15 b16 b17 b18 b19 b20) fun r => ClI B S r.2.1 := by
 obtain ⟨n, rfl⟩ : ∃ m, n = m + 1 := ⟨n - 1, by omega⟩
 have hpe := h.pend
 rw [R_s_l15Show_5000007_eq]
 refine ok_dec (fun _ => ok_some h) fun _ => ok_if hi.1 (ok_if hi.2 (ok_nth (by omega) fun _ _ => ok_if hk.1 (ok_if hk.2 (ok_if (by simp only [List.length_take, List.length_drop]; unfold lim; omega) (ok_bind (o_ShownTo ht _ _ _) fun l hl => ok_upd (by omega) ?_)))))
 have h2 : ClI B S (x.1, x.2.1, x.2.2.1, t, upd x.2.2.2.2.1 i.toNat (b0, b1, (b2, b3, b4, b5, ()), (b6, b7, b8, b9, ()), (b10, b11, b12, b13, ()), b14, b15, b16, b17, b18, b19, b20, ()), x.2.2.2.2.2.1, x.2.2.2.2.2.2.1, List.take (List.length x.2.2.2.2.2.2.2.1 - k.toNat) (List.drop k.toNat x.2.2.2.2.2.2.2.1), ()) := by
  refine ⟨h.n, ht, ?_, mem_upd hp h.peer, h.net, h.said, ?_, fun c hc => ?_⟩
  ·show List.length (upd x.2.2.2.2.1 i.toNat (b0, b1, (b2, b3, b4, b5, ()), (b6, b7, b8, b9, ()), (b10, b11, b12, b13, ()), b14, b15, b16, b17, b18, b19, b20, ())) = 4
   rw [upd_length]; exact h.peers
  ·show List.length (List.take (List.length x.2.2.2.2.2.2.2.1 - k.toNat) (List.drop k.toNat x.2.2.2.2.2.2.2.1)) ≤ 8
   simp only [List.length_take, List.length_drop]; omega
  ·exact h.key c (List.mem_of_mem_drop (List.mem_of_mem_take hc))
 exact ok_bind (o_Post h2 l (by omega)) fun w hw => ok_some hw
set_option maxHeartbeats 16000000 in
theorem o_Show {B S : Nat} (hB : B ≤ 1000000000) {x : DICluster} (h : ClI B S x) (i : Int) : Ok (Q_s_l15Show big x i) fun r => ClI B S r.2.1 := by
 have hp : List.length x.2.2.2.2.1 = 4 := h.peers
 have hpe := h.pend
 have hu : ∀ y, (upd x.2.2.2.2.1 i.toNat y).length = List.length x.2.2.2.2.1 := fun y => upd_length _ _ _
 rw [Q_s_l15Show_eq]
 refine ok_bind (o_Honest _ _ (by omega)) fun b hb => ok_not (fun _ => ok_some h) fun hb1 => ?_
 have hi := hb hb1
 refine ok_if hi.1 (ok_if hi.2 ?_)
 have hin : i.toNat < List.length x.2.2.2.2.1 := by omega
 have hy := h.peer _ (List.getElem_mem hin)
 rw [nth_at hin, Option.bind_some]
 generalize x.2.2.2.2.1[i.toNat] = y0 at hy
 refine ok_bind (o_Ready _ _ _) fun y _ => ok_upd hin ?_
 have one : ∀ z, PeerJ B z → ClI B S (x.1, x.2.1, x.2.2.1, x.2.2.2.1, upd x.2.2.2.2.1 i.toNat z, x.2.2.2.2.2) := fun z hz =>
  ⟨h.n, h.tree, by show (upd _ _ _).length = 4; rw [hu]; exact hp, mem_upd hz h.peer, h.net, h.said, h.pend, h.key⟩
 have h1 := one y0 hy
 have hl : (upd x.2.2.2.2.1 i.toNat y0).length = 4 := by rw [hu]; exact hp
 refine ok_not (fun _ => ok_some h1) fun _ => ok_dec (fun _ => ok_some h1) fun _ => ?_
 generalize upd x.2.2.2.2.1 i.toNat y0 = ps at h1 hl
 have hi2 : i < (ps.length : Int) := by omega
 have fin : ∀ (k : Int), 0 ≤ k → k ≤ (List.length x.2.2.2.2.2.2.2.1 : Int) → Ok ((nth ps i.toNat).bind fun y_2 => (Q_s_Shows big x.2.2.2.1 y_2 (List.take (k.toNat - (0 : Nat)) (List.drop (0 : Nat) x.2.2.2.2.2.2.2.1))).bind fun y_3 => (updO ps i.toNat y_2).bind fun y =>
   R_s_l15Show_5000007 big i k y_3.1 y_3.2.2.1 x.1 x.2.1 x.2.2.1 x.2.2.2.1 y x.2.2.2.2.2.1 x.2.2.2.2.2.2.1 x.2.2.2.2.2.2.2.1 y_3.2.1.1 y_3.2.1.2.1 y_3.2.1.2.2.1.1 y_3.2.1.2.2.1.2.1 y_3.2.1.2.2.1.2.2.1 y_3.2.1.2.2.1.2.2.2.1 y_3.2.1.2.2.2.1.1 y_3.2.1.2.2.2.1.2.1 y_3.2.1.2.2.2.1.2.2.1 y_3.2.1.2.2.2.1.2.2.2.1 y_3.2.1.2.2.2.2.1.1 y_3.2.1.2.2.2.2.1.2.1 y_3.2.1.2.2.2.2.1.2.2.1 y_3.2.1.2.2.2.2.1.2.2.2.1 y_3.2.1.2.2.2.2.2.1 y_3.2.1.2.2.2.2.2.2.1 y_3.2.1.2.2.2.2.2.2.2.1 y_3.2.1.2.2.2.2.2.2.2.2.1 y_3.2.1.2.2.2.2.2.2.2.2.2.1 y_3.2.1.2.2.2.2.2.2.2.2.2.2.1 y_3.2.1.2.2.2.2.2.2.2.2.2.2.2.1)
   fun r : Bool × DICluster × Unit => ClI B S r.2.1 := fun k h0 hk => by
  refine ok_nth (by omega) fun z hz => ok_bind (o_Shows hB h.tree (h1.peer z hz).1 _ (by simp only [List.length_take, List.length_drop]; omega) fun c hc => h.key c (List.mem_of_mem_drop (List.mem_of_mem_take hc))) fun w hw => ok_upd (by omega) ?_
  have h2 : ClI B S (x.1, x.2.1, x.2.2.1, x.2.2.2.1, upd ps i.toNat z, x.2.2.2.2.2) := ⟨h.n, h.tree, by show (upd _ _ _).length = 4; rw [upd_length]; exact hl, mem_upd (h1.peer z hz) h1.peer, h.net, h.said, h.pend, h.key⟩
  have := show_cut h2 i ⟨hi.1, by show i < ((upd ps i.toNat z).length : Int); rw [upd_length]; exact hi2⟩ k ⟨h0, hk⟩ hw.1 w.2.2.1 w.2.1.1 w.2.1.2.1 w.2.1.2.2.1.1 w.2.1.2.2.1.2.1 w.2.1.2.2.1.2.2.1 w.2.1.2.2.1.2.2.2.1 w.2.1.2.2.2.1.1 w.2.1.2.2.2.1.2.1 w.2.1.2.2.2.1.2.2.1 w.2.1.2.2.2.1.2.2.2.1 w.2.1.2.2.2.2.1.1 w.2.1.2.2.2.2.1.2.1 w.2.1.2.2.2.2.1.2.2.1 w.2.1.2.2.2.2.1.2.2.2.1 w.2.1.2.2.2.2.2.1 w.2.1.2.2.2.2.2.2.1 w.2.1.2.2.2.2.2.2.2.1 w.2.1.2.2.2.2.2.2.2.2.1 w.2.1.2.2.2.2.2.2.2.2.2.1 w.2.1.2.2.2.2.2.2.2.2.2.2.1 w.2.1.2.2.2.2.2.2.2.2.2.2.2.1 ((h1.peer z hz).of hw.2.1 hw.2.2) big (by decide)
  exact this
 refine ok_dec (fun hc => ?_) fun hc => ?_
 ·have := fin 4 (by decide) (by omega)
  have g4 : 0 + (List.take (Int.toNat (4 : Int) - (0 : Nat)) (List.drop (0 : Nat) x.2.2.2.2.2.2.2.1)).length ≤ lim := by simp only [List.length_take, List.length_drop]; unfold lim; omega
  simp only [if_pos hi.1, if_pos hi2, if_pos (show (4 : Int) ≤ (↑(List.length x.2.2.2.2.2.2.2.1) : Int) by omega), if_pos g4, both_self]
  exact this
 ·have := fin (↑(List.length x.2.2.2.2.2.2.2.1) : Int) (by omega) (by omega)
  have g4 : 0 + (List.take (Int.toNat (↑(List.length x.2.2.2.2.2.2.2.1) : Int) - (0 : Nat)) (List.drop (0 : Nat) x.2.2.2.2.2.2.2.1)).length ≤ lim := by simp only [List.length_take, List.length_drop]; unfold lim; omega
  simp only [if_pos hi.1, if_pos hi2, if_pos g4, both_self, if_pos (show (0 : Int) ≤ (↑(List.length x.2.2.2.2.2.2.2.1) : Int) by omega), if_pos (Int.le_refl (↑(List.length x.2.2.2.2.2.2.2.1) : Int))]
  exact this
theorem o_Do {B S : Nat} (h0 : 30000 ≤ B) (hB : B ≤ 100000000) (hS : S ≤ 900000000) {x : DICluster} (h : ClI B S x) {e : DIEvent} (he : EvI e) : Ok (Q_s_l19Do big x e) fun r => ClI (B + 60) (S + 7) r.2.1 := by
 have hpe := h.pend
 have hp : List.length x.2.2.2.2.1 = 4 := h.peers
 have up : ∀ {y : DICluster}, ClI B S y → ClI (B + 60) (S + 7) y := fun hy => hy.mono (by omega) (by omega)
 rw [Q_s_l19Do_eq]
 simp only [both_self]
 refine ok_dec (fun _ => ok_dec (fun _ => ok_some (up h)) fun hc => ok_if (by unfold lim; omega) (ok_if (by simp only [List.length_singleton]; unfold lim; omega) (ok_some ?_))) fun _ => ?_
 ·refine ⟨h.n, h.tree, h.peers, fun p hp => (h.peer p hp).mono (by omega), h.net, Nat.le_trans h.said (by omega), ?_, fun c hc => ?_⟩
  ·show (List.append _ [_]).length ≤ 8
   rw [len_snoc]; omega
  ·rcases List.mem_append.1 hc with hc | hc
   ·exact h.key c hc
   ·rw [List.mem_singleton.1 hc]; exact he.key
 refine ok_dec (fun _ => ok_bind (o_Show (by omega) h _) fun y hy => ok_some (up hy)) fun _ => ok_dec (fun _ => ok_bind (o_Carry (by omega) (by omega) h _) fun y hy => ok_some hy) fun _ => ok_dec (fun _ => ok_bind (o_Out h _) fun y hy => ok_some (up hy)) fun _ =>
  ok_dec (fun _ => ok_bind (o_Twice h _) fun y hy => ok_some (up hy)) fun _ => ok_dec (fun _ => ok_bind (o_Wait (by omega) h _) fun y hy => ok_some (up hy)) fun _ => ok_dec (fun _ => ?_) fun _ => ok_bind (o_Lie (by omega) h he) fun y hy => ok_some (up hy)
 refine ok_bind (o_Honest _ _ (by omega)) fun b hb => ok_not (fun _ => ok_some (up h)) fun hb1 => ?_
 have hi := hb hb1
 have hu : ∀ y, (upd x.2.2.2.2.1 (Int.toNat e.2.1) y).length = List.length x.2.2.2.2.1 := fun y => upd_length _ _ _
 refine ok_if hi.1 (ok_if hi.2 (ok_nth (by omega) fun y hy => ok_bind (o_Fallen h0 hB h.tree (h.peer y hy).1 (h.peer y hy).2) fun z hz => ok_upd (by omega) (ok_if hi.1 (ok_if (by rw [hu]; exact hi.2) (ok_nth (by rw [hu]; omega) fun _ _ => ok_upd (by rw [hu]; omega) (ok_some (up ?_)))))))
 exact ⟨h.n, h.tree, by show (upd (upd _ _ _) _ _).length = 4; rw [upd_length, hu]; exact hp, mem_upd ((h.peer y hy).of hz.1 hz.2) (mem_upd (h.peer y hy) h.peer), h.net, h.said, h.pend, h.key⟩
end Go.Sx.Tryz
set_option maxRecDepth 100000
namespace Go.Sx.Tryz
open Go Go.Sx Go.Proofs
theorem ran_loop (z0 : Int) (z1 : Bool) (z2 : Int) (z3 : List DIBlock) (z4 : List DIPeer) (z5 : List DILetter) (z6 : List DIVote) (z7 : List DICmd) : ∀ (m n i : Nat) (c : DSl01Cur) (x : DICluster), i ≤ 30 → 30 ≤ i + m → m < n → CurI c → ClI (30000 + 60 * i) (7 * i) x →
  Ok (R_s_l19Ran_4 n 26 (i : Int) c.1 c.2.1 c.2.2.1 z0 z1 z2 z3 z4 z5 z6 z7 x.1 x.2.1 x.2.2.1 x.2.2.2.1 x.2.2.2.2.1 x.2.2.2.2.2.1 x.2.2.2.2.2.2.1 x.2.2.2.2.2.2.2.1) fun r => ClI 40000 1000 r.1 ∧ CurI r.2.1 := by
 intro m
 induction m with
 | zero =>
  intro n i c x h0 h1 h2 hc hx
  obtain ⟨n, rfl⟩ : ∃ m, n = m + 1 := ⟨n - 1, by omega⟩
  rw [R_s_l19Ran_4_eq]
  refine ok_bind (o_Below (c := (c.1, c.2.1, c.2.2.1, ())) hc 26) fun y hy => ?_
  have h26 := hy.2.1 (by decide)
  rw [wrap64 (n := 4 + y.1) (by omega) (by omega)]
  exact ok_dec (fun h => by omega) fun _ => ok_some ⟨hx.mono (by omega) (by omega), hy.2.2.2⟩
 | succ m ih =>
  intro n i c x h0 h1 h2 hc hx
  obtain ⟨n, rfl⟩ : ∃ m, n = m + 1 := ⟨n - 1, by omega⟩
  rw [R_s_l19Ran_4_eq]
  refine ok_bind (o_Below (c := (c.1, c.2.1, c.2.2.1, ())) hc 26) fun y hy => ?_
  have h26 := hy.2.1 (by decide)
  have hp : List.length x.2.2.2.2.1 = 4 := hx.peers
  rw [wrap64 (n := 4 + y.1) (by omega) (by omega), wrap64 (n := (i : Int) + 1) (by omega) (by omega)]
  refine ok_dec (fun h => ?_) fun _ => ok_some ⟨hx.mono (by omega) (by omega), hy.2.2.2⟩
  refine ok_bind (o_Event (x.1, x.2.1, x.2.2.1, x.2.2.2.1, x.2.2.2.2.1, x.2.2.2.2.2.1, x.2.2.2.2.2.2.1, x.2.2.2.2.2.2.2.1, ()) (by show List.length x.2.2.2.2.1 ≤ 1000; omega) hx.n y.2.1 hy.2.2.2) fun z hz => ?_
  obtain ⟨e1, e2, e3⟩ := hz
  rw [e3]
  refine ok_bind (o_Do (by omega) (by omega) (by omega) (x := x) hx e1) fun w hw => ?_
  have e : (i : Int) + 1 = ((i + 1 : Nat) : Int) := by omega
  rw [e]
  exact ih n (i + 1) z.2.1 w.2.1 (by omega) (by omega) (by omega) e2 (hw.mono (by omega) (by omega))
theorem o_Ran {c : DSl01Cur} (hc : CurI c) : Ok (Q_s_l19Ran big c 26) fun r => ClI 40000 1000 r.1 ∧ CurI r.2.1 := by
 rw [Q_s_l19Ran_eq]
 refine ok_bind (o_Once hc 2) fun y hy => ok_bind (o_PickInt hy _ (by decide)) fun z hz => ?_
 have hl : z.1 = 0 ∨ z.1 = 8 ∨ z.1 = 1 ∨ z.1 = 2 := by
  have h1 := hz.1
  simp only [List.mem_cons, List.not_mem_nil, or_false] at h1
  omega
 refine ok_bind (o_New4 y.1 hl) fun w hw => ?_
 exact ran_loop _ _ _ _ _ _ _ _ 30 big 0 z.2.1 w.1 (by decide) (by decide) (by decide) hz.2 (hw.mono (by decide) (by decide))
theorem o_Some {c : DSl01Cur} (hc : CurI c) : Ok (Q_s_l09Some big c) fun r => TreeI r.1.1 ∧ PeerJ 40000 r.1.2.1 ∧ CurI r.2.1 := by
 rw [Q_s_l09Some_eq]
 refine ok_bind (o_Ran hc) fun y hy => ?_
 simp only [both_self]
 have hp : List.length y.1.2.2.2.2.1 = 4 := hy.1.peers
 refine ok_bind (o_Below hy.2 _) fun z hz => ?_
 have := hz.2.1 (by omega)
 exact ok_if hz.1 (ok_if this (ok_nth (by omega) fun w hw => ok_some ⟨hy.1.tree, hy.1.peer w hw, hz.2.2.2⟩))
theorem o_DrawPeer (code : List Int) (hl : code.length ≤ 1099511627776) : Ok (Q_s_DrawPeer big code) fun r => TreeI r.1 ∧ PeerJ 40000 r.2.1 := by
 rw [Q_s_DrawPeer_eq]
 exact ok_bind (o_New code hl) fun c hc => ok_bind (o_Some hc) fun y hy => ok_some ⟨hy.1, hy.2.1⟩
theorem places_loop : ∀ (m n : Nat) (i : Int) (l : List Int) (c : DSl01Cur), 0 ≤ i → i ≤ 12 → (12 : Int) ≤ i + m → m < n → (l.length : Int) = i → (∀ x ∈ l, 0 ≤ x ∧ x < 10000) → CurI c → Ok (R_s_DrawPlaces_5 n l i c.1 c.2.1 c.2.2.1) fun r => List.length r = 12 ∧ ∀ x ∈ r, 0 ≤ x ∧ x < 10000 := by
 intro m
 induction m with
 | zero =>
  intro n i l c h0 h1 h2 h3 h4 h5 h6
  obtain ⟨n, rfl⟩ : ∃ m, n = m + 1 := ⟨n - 1, by omega⟩
  rw [R_s_DrawPlaces_5_eq]
  exact ok_dec (fun h => by omega) fun _ => ok_some ⟨by omega, h5⟩
 | succ m ih =>
  intro n i l c h0 h1 h2 h3 h4 h5 h6
  obtain ⟨n, rfl⟩ : ∃ m, n = m + 1 := ⟨n - 1, by omega⟩
  rw [R_s_DrawPlaces_5_eq, wrap64 (n := i + 1) (by omega) (by omega)]
  refine ok_dec (fun _ => ok_bind (o_Below (c := (c.1, c.2.1, c.2.2.1, ())) h6 10000) fun y hy => ok_if (by unfold lim; omega) (ih n (i + 1) _ y.2.1 (by omega) (by omega) (by omega) (by omega) (by rw [len_snoc]; omega) (fun x hx => ?_) hy.2.2.2)) fun _ => ok_some ⟨by omega, h5⟩
  rcases List.mem_append.1 hx with hx | hx
  ·exact h5 x hx
  ·rw [List.mem_singleton.1 hx]; exact ⟨hy.1, hy.2.1 (by decide)⟩
theorem o_Places (code : List Int) (hl : code.length ≤ 1099511627776) : Ok (Q_s_DrawPlaces big code) fun r => List.length r = 12 ∧ ∀ x ∈ r, 0 ≤ x ∧ x < 10000 := by
 rw [Q_s_DrawPlaces_eq]
 exact ok_bind (o_New code hl) fun c hc => ok_bind (o_Byte hc) fun y hy => places_loop 12 big 0 [] y.2.1 (by decide) (by decide) (by decide) (by decide) rfl (fun x hx => by cases hx) hy.2.2
/-! ### Spoilt ones -/
theorem o_07Vote {c : DSl01Cur} (hc : CurI c) {t : List DIBlock} (ht : TreeI t) : Ok (Q_s_l07Vote big c t) fun r => CurI r.2.1 ∧ r.2.2.1 = t := by
 have hlo := ht.lo; have hhi := ht.hi
 rw [Q_s_l07Vote_eq]
 refine ok_bind (o_Below hc 4) fun y hy => ok_bind (o_Below hy.2.2.2 4) fun z hz => ok_bind (o_Below hz.2.2.2 _) fun w hw => ?_
 have := hw.2.1 (by omega)
 exact ok_if hw.1 (ok_if this (ok_nth (by omega) fun _ _ => ok_some ⟨hw.2.2.2, rfl⟩))
theorem o_07Qc {c : DSl01Cur} (hc : CurI c) {t : List DIBlock} (ht : TreeI t) : Ok (Q_s_l07Qc big c t) fun r => CurI r.2.1 ∧ r.2.2.1 = t := by
 rw [Q_s_l07Qc_eq]
 refine ok_bind (o_Below hc 10) fun y hy => ok_bind (o_Below hy.2.2.2 60) fun z hz => ok_bind (o_07Vote hz.2.2.2 ht) fun w hw => ok_bind (o_PickInt hw.1 _ (by decide)) fun v hv => ?_
 have hm := tmod_in hz.1 (show (0 : Int) < 5 by decide)
 exact ok_dec (fun _ => ok_some ⟨hv.2, hw.2⟩) fun _ => ok_dec (fun _ => ok_if hm.1 (ok_if hm.2 (ok_nth (by show (Int.tmod z.1 5).toNat < 5; omega) fun _ _ => ok_some ⟨hv.2, hw.2⟩))) fun _ => ok_dec (fun _ => ok_some ⟨hv.2, hw.2⟩) fun _ => ok_dec (fun _ => ok_some ⟨hv.2, hw.2⟩) fun _ => ok_some ⟨hv.2, hw.2⟩
theorem o_07Any {c : DSl01Cur} (hc : CurI c) {t : List DIBlock} (ht : TreeI t) : Ok (Q_s_l07Any big c t) fun r => CurI r.2.1 ∧ r.2.2.1 = t := by
 rw [Q_s_l07Any_eq]
 exact ok_bind (o_Below hc 10) fun y hy => ok_bind (o_Below hy.2.2.2 60) fun z hz => ok_bind (o_07Vote hz.2.2.2 ht) fun w hw => ok_dec (fun _ => ok_some hw) fun _ => ok_dec (fun _ => ok_some hw) fun _ => ok_dec (fun _ => ok_some hw) fun _ => ok_dec (fun _ => ok_some hw) fun _ => ok_some hw
structure PeerA (p : DIPeer) : Prop where
 row : List.length p.2.2.2.2.2.1 ≤ 40001
 cells : CellsI p.2.2.2.2.2.2.1
 early : List.length p.2.2.2.2.2.2.2.1 ≤ 61
 undos : UndosI p.2.2.2.2.2.2.2.2.1
 votes : List.length p.2.2.2.2.2.2.2.2.2.1 ≤ 40000
 news : List.length p.2.2.2.2.2.2.2.2.2.2.1 ≤ 40000
 view : 0 ≤ p.2.1 ∧ p.2.1 ≤ 900
theorem PeerI.a {p : DIPeer} (h : PeerI 40000 p) : PeerA p := ⟨Nat.le_trans h.row (by decide), h.cells, Nat.le_trans h.early (by decide), h.undos, h.votes, h.news, by have := h.view; omega⟩
theorem o_09Any {c : DSl01Cur} (hc : CurI c) : Ok (Q_s_l09Any big c) fun r => TreeI r.1.1 ∧ PeerA r.1.2.1 ∧ CurI r.2.1 := by
 rw [Q_s_l09Any_eq]
 refine ok_bind (o_Below hc 14) fun y hy => ok_bind (o_Below hy.2.2.2 60) fun z hz => ok_bind (o_Some hz.2.2.2) fun w hw => ?_
 obtain ⟨ht, hp, hcu⟩ := hw
 rw [e_Copy (by decide) hp.1, Option.bind_some]
 have h := hp.1.a
 have hr := hp.1.row
 have he := hp.1.early
 have h60 := hz.2.1 (by decide)
 refine ok_dec (fun _ => ok_some ⟨ht, ⟨h.row, h.cells, h.early, h.undos, h.votes, h.news, h.view⟩, hcu⟩) fun _ => ok_dec (fun _ => ok_some ⟨ht, ⟨h.row, h.cells, h.early, h.undos, h.votes, h.news, ?_⟩, hcu⟩) fun _ =>
  ok_dec (fun _ => ok_bind (o_07Qc hcu ht) fun v hv => ok_some ⟨by rw [hv.2]; exact ht, ⟨h.row, h.cells, h.early, h.undos, h.votes, h.news, h.view⟩, hv.1⟩) fun _ =>
  ok_dec (fun _ => ok_bind (o_07Qc hcu ht) fun v hv => ok_some ⟨by rw [hv.2]; exact ht, ⟨h.row, h.cells, h.early, h.undos, h.votes, h.news, h.view⟩, hv.1⟩) fun _ =>
  ok_dec (fun _ => ok_bind (o_07Any hcu ht) fun v hv => ok_some ⟨by rw [hv.2]; exact ht, ⟨h.row, h.cells, h.early, h.undos, h.votes, h.news, h.view⟩, hv.1⟩) fun _ =>
  ok_dec (fun _ => ok_if (by unfold lim; omega) (ok_some ⟨ht, ⟨?_, h.cells, h.early, h.undos, h.votes, h.news, h.view⟩, hcu⟩)) fun _ =>
  ok_dec (fun _ => ok_if (by unfold lim; omega) (ok_some ⟨ht, ⟨h.row, h.cells, ?_, h.undos, h.votes, h.news, h.view⟩, hcu⟩)) fun _ => ok_some ⟨ht, h, hcu⟩
 ·show 0 ≤ z.1 ∧ z.1 ≤ 900; omega
 ·show (List.append _ [_]).length ≤ 40001; rw [len_snoc]; omega
 ·show (List.append _ [_]).length ≤ 61; rw [len_snoc]; omega
theorem o_DrawMayVote (code : List Int) (hl : code.length ≤ 1099511627776) : Ok (Q_s_DrawMayVote big code) fun r => PeerA r.1 := by
 rw [Q_s_DrawMayVote_eq]
 refine ok_bind (o_New code hl) fun c hc => ok_bind (o_Below hc 4) fun y hy => ok_bind (o_Below hy.2.2.2 3) fun z hz => ok_bind (o_09Any hz.2.2.2) fun w hw => ?_
 simp only [both_self]
 exact ok_some hw.2.1
end Go.Sx.Tryz
set_option maxRecDepth 100000
namespace Go.Sx.Tryz
open Go Go.Sx Go.Proofs
theorem clone_ok {α : Type} (xs : List α) (h : xs.length ≤ 16777216) : (nilC xs fun b => bif b then some [] else if (0 : Nat) + List.length xs ≤ lim then some xs else none) = some xs := by
 cases xs with
 | nil => exact both_self _
 | cons x l =>
  simp only [nilC, cond_false]
  rw [if_pos (by unfold lim; omega)]
theorem pClone_Int (x : DSlInt) (h : x.length ≤ 16777216) : Q_g_Clone_Int big x = some x := by rw [Q_g_Clone_Int_eq]; exact clone_ok x h
theorem pClone_ICell (x : DSlICell) (h : x.length ≤ 16777216) : Q_g_Clone_ICell big x = some x := by rw [Q_g_Clone_ICell_eq]; exact clone_ok x h
theorem pClone_IUndo (x : DSlIUndo) (h : x.length ≤ 16777216) : Q_g_Clone_IUndo big x = some x := by rw [Q_g_Clone_IUndo_eq]; exact clone_ok x h
theorem pClone_IVote (x : DSlIVote) (h : x.length ≤ 16777216) : Q_g_Clone_IVote big x = some x := by rw [Q_g_Clone_IVote_eq]; exact clone_ok x h
theorem pClone_ILetter (x : DSlILetter) (h : x.length ≤ 16777216) : Q_g_Clone_ILetter big x = some x := by rw [Q_g_Clone_ILetter_eq]; exact clone_ok x h
structure PeerB (x : DIPeer) : Prop where
 row : List.length x.2.2.2.2.2.1 ≤ 16777216
 cells : List.length x.2.2.2.2.2.2.1 ≤ 16777216
 early : List.length x.2.2.2.2.2.2.2.1 ≤ 16777216
 undos : List.length x.2.2.2.2.2.2.2.2.1 ≤ 16777216
 votes : List.length x.2.2.2.2.2.2.2.2.2.1 ≤ 16777216
 news : List.length x.2.2.2.2.2.2.2.2.2.2.1 ≤ 16777216
theorem PeerB.of {x : DIPeer} (h : Bg tIPeer x) : PeerB x :=
 ⟨h.2.2.2.2.2.1.1, h.2.2.2.2.2.2.1.1, h.2.2.2.2.2.2.2.1.1, h.2.2.2.2.2.2.2.2.1.1, h.2.2.2.2.2.2.2.2.2.1.1, h.2.2.2.2.2.2.2.2.2.2.1.1⟩
theorem p_clonePeer (x : DIPeer) (h : PeerB x) : Q_i_clonePeer big x = some x := by
 rw [Q_i_clonePeer_eq]
 simp only [pClone_Int _ h.row, pClone_ICell _ h.cells, pClone_Int _ h.early, pClone_IUndo _ h.undos, pClone_IVote _ h.votes, pClone_ILetter _ h.news, Option.bind_some]
end Go.Sx.Tryz
set_option maxRecDepth 100000
namespace Go.Sx.Tryz
open Go Go.Sx Go.Proofs
theorem PeerI.b {p : DIPeer} (h : PeerI 40000 p) : PeerB p :=
 ⟨Nat.le_trans h.row (by decide), Nat.le_trans h.cells.len (by decide), Nat.le_trans h.early (by decide), Nat.le_trans h.undos.len (by decide), Nat.le_trans h.votes (by decide), Nat.le_trans h.news (by decide)⟩
theorem may_yes (p : DIPeer) (a b : Int) (h : p.2.2.2.2.1.2.1 < b ∨ (p.2.2.2.2.1.2.1 = b ∧ p.2.2.2.2.1.1 < a)) : Q_i_MayVote big p a b = some true := by
 rw [Q_i_MayVote_eq]
 rcases h with h | h
 ·rw [decide_eq_true h]; rfl
 ·rw [decide_eq_false (by omega), cond_false, decide_eq_true h.1, cond_true, decide_eq_true h.2]
theorem may_no (p : DIPeer) (a b : Int) (h1 : ¬ p.2.2.2.2.1.2.1 < b) (h2 : p.2.2.2.2.1.2.1 = b → ¬ p.2.2.2.2.1.1 < a) : Q_i_MayVote big p a b = some false := by
 rw [Q_i_MayVote_eq, decide_eq_false h1, cond_false]
 by_cases h : p.2.2.2.2.1.2.1 = b
 ·rw [decide_eq_true h, cond_true, decide_eq_false (h2 h)]
 ·rw [decide_eq_false h]; rfl
theorem may_both (p : DIPeer) (a b : Int) : ∃ v, Q_i_MayVote big p a b = some v ∧ Q_s_MayVote big p a b = some v := by
 rw [Q_i_MayVote_eq, Q_s_MayVote_eq]
 cases decide (p.2.2.2.2.1.2.1 < b) <;> cases decide (p.2.2.2.2.1.2.1 = b) <;> exact ⟨_, rfl, rfl⟩
theorem law_VotesOnce (code : List Int) : Q_l_FnVotesOnce big code = some true := by
 rw [Q_l_FnVotesOnce_eq]
 by_cases hc : (1048576 : Int) < (↑(List.length code) : Int)
 ·rw [decide_eq_true hc]; rfl
 rw [decide_eq_false hc, cond_false]
 have hl : code.length ≤ 1099511627776 := by omega
 obtain ⟨⟨t, p, ⟨⟩⟩, e1, ht, hp⟩ := o_DrawPeer code hl
 obtain ⟨ps, e2, h12, hps⟩ := o_Places code hl
 obtain ⟨⟨q, k, n, ⟨⟩⟩, e3, hq⟩ := o_DrawMayVote code hl
 have g0 : Int.toNat 0 < ps.length := by rw [h12]; decide
 have g1 : Int.toNat 1 < ps.length := by rw [h12]; decide
 simp only [e1, e2, e3, Option.bind_some]
 rw [if_pos (show (0 : Int) < (↑(List.length ps) : Int) by omega), nth_at g0, Option.bind_some, if_pos (show (1 : Int) < (↑(List.length ps) : Int) by omega), nth_at g1, Option.bind_some]
 have r0 := hps _ (List.getElem_mem g0)
 have r1 := hps _ (List.getElem_mem g1)
 generalize ps[Int.toNat 0] = a at r0
 generalize ps[Int.toNat 1] = b at r1
 have m0 := tmod_in r0.1 (show (0 : Int) < 3 by decide)
 have m1 := tmod_in r1.1 (show (0 : Int) < 3 by decide)
 generalize Int.tmod a 3 = a' at m0
 generalize Int.tmod b 3 = b' at m1
 have hv := hp.1.view
 have hv : 1 ≤ p.2.1 ∧ p.2.1 ≤ 900 := hv
 have w1 : IntKind.i64.wrap (1 + b') = 1 + b' := wrap64 (by omega) (by omega)
 have w2 : IntKind.i64.wrap (p.2.1 + a') = p.2.1 + a' := wrap64 (by omega) (by omega)
 have w3 : IntKind.i64.wrap (1 + b' + 1) = 1 + b' + 1 := wrap64 (by omega) (by omega)
 have w4 : IntKind.i64.wrap (p.2.1 + a' + 1) = p.2.1 + a' + 1 := wrap64 (by omega) (by omega)
 have w5 : IntKind.i64.wrap (p.2.1 + a' - 1) = p.2.1 + a' - 1 := wrap64 (by omega) (by omega)
 have ev : Q_i_Voted big p (1 + b') (p.2.1 + a') 7 = some ((p.1, p.2.1, p.2.2.1, p.2.2.2.1, (1 + b', p.2.1 + a', 7, p.1, ()), p.2.2.2.2.2), (1 + b', p.2.1 + a', 7, p.1, ()), ()) := by
  rw [Q_i_Voted_eq, p_clonePeer p hp.1.b, Option.bind_some]
  simp only [both_self]
 rw [w1, w2, ev]
 simp only [Option.bind_some, w3, w4, w5]
 rw [may_no (p.1, p.2.1, p.2.2.1, p.2.2.2.1, (1 + b', p.2.1 + a', 7, p.1, ()), p.2.2.2.2.2) (1 + b') (p.2.1 + a') (by show ¬ p.2.1 + a' < p.2.1 + a'; omega) (fun _ => by show ¬ 1 + b' < 1 + b'; omega),
  may_yes (p.1, p.2.1, p.2.2.1, p.2.2.2.1, (1 + b', p.2.1 + a', 7, p.1, ()), p.2.2.2.2.2) (1 + b' + 1) (p.2.1 + a') (.inr ⟨rfl, by show 1 + b' < 1 + b' + 1; omega⟩),
  may_yes (p.1, p.2.1, p.2.2.1, p.2.2.2.1, (1 + b', p.2.1 + a', 7, p.1, ()), p.2.2.2.2.2) 1 (p.2.1 + a' + 1) (.inl (by show p.2.1 + a' < p.2.1 + a' + 1; omega)),
  may_no (p.1, p.2.1, p.2.2.1, p.2.2.2.1, (1 + b', p.2.1 + a', 7, p.1, ()), p.2.2.2.2.2) 4 (p.2.1 + a' - 1) (by show ¬ p.2.1 + a' < p.2.1 + a' - 1; omega) (fun h => by have h : p.2.1 + a' = p.2.1 + a' - 1 := h; omega)]
 obtain ⟨v, v1, v2⟩ := may_both q k n
 simp only [Option.bind_some, Bool.not_false, cond_true, v1, v2, decide_true, beq_self_eq_true]
 rw [show eqD tIVote (1 + b', p.2.1 + a', 7, p.1, ()) (1 + b', p.2.1 + a', 7, p.1, ()) = true from by simp [eqD]]
 rfl
end Go.Sx.Tryz
