/- That a run goes through: trees. -/
import Derived.Test.YtocddfdkknhgcaaGreatM8
import Derived.Test.YtocddfdkknhgcaaGreatTypes
import Derived.Test.YtocddfdkknhgcaaGreatEarlyH1
import Derived.Test.YtocddfdkknhgcaaGreatEarlyF1
import Derived.Test.YtocddfdkknhgcaaGreatEarlyF2
import Derived.Test.YtocddfdkknhgcaaGreatEarlyF3
set_option linter.unusedVariables false
set_option linter.unusedSimpArgs false
set_option maxRecDepth 100000
namespace Go.Sx.Tryz
open Go Go.Sx Go.Proofs
open Go.IntKind renaming i64 → K6
structure ZwT (l : List Y3) : Prop where
 len : l.length ≤ 4
 key : ∀ c ∈ l, ByteArray.size c.2.1 ≤ 1000
structure XE (t : List Zm) : Prop where
 lo : 1 ≤ t.length
 hi : t.length ≤ 60
 cmds : ∀ b ∈ t, ZwT b.2.2.1
 view : ∀ b ∈ t, 0 ≤ b.2.1 ∧ b.2.1 ≤ 900
 first : ∀ b, nth t 0 = some b → b.2.2.2.1.2.1 = 0 ∧ b.2.2.2.1.2.2.1 = 0
 just : ∀ (k : Nat) b, nth t k = some b → 0 < k → 0 ≤ b.1 ∧ b.1 < (k : Int) ∧ b.2.2.2.1.2.2.1 = b.1
inductive Up (t : List Zm) : Int → Prop
 | zero : Up t 0
 | step {k : Int} {b : Zm} : 0 < k → k < t.length → nth t k.toNat = some b → 0 ≤ b.1 → b.1 < k → Up t b.1 → Up t k
theorem N2 {t : List Zm} (ht : XE t) (k : Int) : Ok (Uv big t k) fun h => (0 ≤ h → Up t k) ∧ (k = 0 → h ≤ 0) := by
 have hlo := ht.lo; have hhi := ht.hi;rw [E7];have loop : ∀ (m n : Nat) (k a : Int), k ≤ m → m < n → Ok (VU n t k a) fun h => (0 ≤ h → Up t k) ∧ (k = 0 → h = a) := by
  intro m
  induction m with
  | zero =>
   intro n k a h1 h2;obtain ⟨n, rfl⟩ : ∃ m, n = m + 1 := ⟨n - 1, by omega⟩
   rw [XR, M5];refine YS (fun hk => ?_) (fun hk => ?_)
   ·simp only [Option.bind_some]
    have : (decide (0 ≤ k) && decide (k ≤ K6.wrap ((↑(List.length t) : Int) - 1))) = false := by
     rw [decide_eq_false (by omega)]; rfl
    rw [this];exact Zb ⟨fun h => by omega, fun h => absurd h hk⟩
   ·subst hk
    exact Zs (fun h => by omega) (fun _ => Zb ⟨fun _ => .zero, fun _ => rfl⟩)
  | succ m ih =>
   intro n k a h1 h2;obtain ⟨n, rfl⟩ : ∃ m, n = m + 1 := ⟨n - 1, by omega⟩
   rw [XR, M5, ZD (n := (↑(List.length t) : Int) - 1) (by omega) (by omega)];refine YS (fun hk => ?_) (fun hk => ?_)
   ·simp only [Option.bind_some]
    refine Yh (fun _ => Zb ⟨fun h => by omega, fun h => absurd h hk⟩) (fun hc => ?_);simp only [Bool.and_eq_true, decide_eq_true_eq] at hc;have hlt : k.toNat < t.length := by omega
    have hn : nth t k.toNat = some t[k.toNat] := Z2 hlt;rw [hn];simp only [Option.bind_some, M5];refine ZE hc.1 (Yh (fun _ => Zb ⟨fun h => by omega, fun h => absurd h hk⟩) (fun hd => ZE hc.1 ?_));rw [ZD (n := k - 1) (by omega) (by omega)] at hd;simp only [Bool.and_eq_true, decide_eq_true_eq] at hd;refine Uk (ih n _ _ (by omega) (by omega)) fun h hh => ⟨fun h0 => .step (by omega) (by omega) hn hd.1 (by omega) (hh.1 h0), fun e => absurd e hk⟩
   ·subst hk
    exact Zs (fun h => by omega) (fun _ => Zb ⟨fun _ => .zero, fun _ => rfl⟩)
 rcases Int.lt_or_le 60 k with hk | hk
 ·obtain ⟨n, hn⟩ : ∃ n, big = n + 1 := ⟨big - 1, rfl⟩
  rw [hn, XR, M5, ZD (n := (↑(List.length t) : Int) - 1) (by omega) (by omega)];refine YS (fun _ => ?_) (fun h => by omega);simp only [Option.bind_some];refine Yh (fun _ => Zb ⟨fun h => by omega, fun h => by omega⟩) (fun hc => ?_);simp only [Bool.and_eq_true, decide_eq_true_eq] at hc;omega
 ·exact Uk (loop 60 big k 0 (by omega) (by unfold big; omega)) fun h hh => ⟨hh.1, fun e => by have := hh.2 e; omega⟩
theorem Up.lt {t : List Zm} {k : Int} (h : Up t k) (ht : 1 ≤ t.length) : 0 ≤ k ∧ k < t.length := by
 cases h with
 | zero => exact ⟨Int.le_refl _, by omega⟩
 | step h1 h2 _ _ _ _ => exact ⟨by omega, h2⟩
theorem ZcT {t : List Zm} (ht : XE t) (k u : Int) : Ok (WH big t k u) fun b => b = true → Up t k := by
 have hlo := ht.lo; have hhi := ht.hi;rw [G3];have loop : ∀ {k : Int}, Up t k → ∀ n : Nat, k < n → Ok (Qa n t k u) fun _ => True := by
  intro k hk
  induction hk with
  | zero =>
   intro n h2;obtain ⟨n, rfl⟩ : ∃ m, n = m + 1 := ⟨n - 1, by omega⟩
   rw [KL];exact Zs (fun h => by omega) (fun _ => Zb trivial)
  | step h1 h2 h3 h4 h5 _ ih =>
   intro n hn;obtain ⟨n, rfl⟩ : ∃ m, n = m + 1 := ⟨n - 1, by omega⟩
   rw [KL, h3];simp only [Option.bind_some];exact Zs (fun _ => YS (fun _ => ZE (by omega) (ih n (by omega))) (fun _ => Zb trivial)) (fun h => by omega)
 refine Zd (N2 ht k) fun h hh => Zs (fun _ => Zb fun e => by cases e) (fun hc => ?_);have hu := hh.1 (by omega);exact Uk (loop hu big (by have := (hu.lt hlo).2; unfold big; omega)) fun _ _ _ => hu
theorem Zvi {t : List Zm} (ht : XE t) (k : Int) : Ok (Mc big t k) fun l => l.length ≤ 60 ∧ ∀ x ∈ l, 0 ≤ x ∧ x < t.length := by
 have hlo := ht.lo; have hhi := ht.hi;rw [OQ];have loop : ∀ {k : Int}, Up t k → ∀ (n : Nat) (l : List Int), k < n → (l.length : Int) + k ≤ 60 → (∀ x ∈ l, 0 ≤ x ∧ x < t.length) → Ok (Ae n t k l) fun l => l.length ≤ 60 ∧ ∀ x ∈ l, 0 ≤ x ∧ x < t.length := by
  intro k hk
  induction hk with
  | zero =>
   intro n l h2 hl hx;obtain ⟨n, rfl⟩ : ∃ m, n = m + 1 := ⟨n - 1, by omega⟩
   rw [BO];exact Zs (fun h => by omega) (fun _ => Zb ⟨by omega, hx⟩)
  | @step k b h1 h2 h3 h4 h5 _ ih =>
   intro n l hn hl hx;obtain ⟨n, rfl⟩ : ∃ m, n = m + 1 := ⟨n - 1, by omega⟩
   rw [BO, h3];simp only [Option.bind_some];refine Zs (fun _ => ZE (by simp only [List.length_singleton]; unfold lim; omega) (ZE (by omega) (ih n (k :: l) (by omega) (by simp only [List.length_cons]; omega) ?_))) (fun h => by omega);intro x hm;rcases List.mem_cons.1 hm with rfl | hm
   ·exact ⟨by omega, h2⟩
   ·exact hx x hm
 refine Zd (N2 ht k) fun h hh => Zs (fun _ => Zb ⟨by simp, by simp⟩) (fun hc => ?_);have hu := hh.1 (by omega);have := (hu.lt hlo).2;exact loop hu big [] (by unfold big; omega) (by simp only [List.length_nil]; omega) (by simp)
theorem ZgI {t : List Zm} (ht : XE t) (k u : Int) : Ok (Wy big t k u) fun l => l.length ≤ 60 ∧ ∀ x ∈ l, 0 ≤ x ∧ x < t.length := by
 rw [E8];refine Zd (ZcT ht k u) fun b _ => Yh (fun _ => Zb ⟨by simp, by simp⟩) (fun _ => Zd (Zvi ht k) fun row hrow => ?_);have loop : ∀ (m n : Nat) (i : Int) (l : List Int), 0 ≤ i → i ≤ row.length → (row.length : Int) ≤ i + m → m < n → (l.length : Int) ≤ i → (∀ x ∈ l, 0 ≤ x ∧ x < t.length) →
   Ok (WT n u l i row) fun l => l.length ≤ 60 ∧ ∀ x ∈ l, 0 ≤ x ∧ x < t.length := by
  have hr := hrow.1;intro m
  induction m with
  | zero =>
   intro n i l h0 h1 h2 h3 h4 h5;obtain ⟨n, rfl⟩ : ∃ m, n = m + 1 := ⟨n - 1, by omega⟩
   rw [VA];exact Zs (fun h => by omega) (fun _ => Zb ⟨by omega, h5⟩)
  | succ m ih =>
   intro n i l h0 h1 h2 h3 h4 h5;obtain ⟨n, rfl⟩ : ∃ m, n = m + 1 := ⟨n - 1, by omega⟩
   rw [VA, ZD (n := i + 1) (by omega) (by omega)];refine Zs (fun hc => ZE h0 (ZE hc (Z4 (by omega) fun y hy => Zs (fun _ => ZE h0 (ZE hc (Z4 (by omega) fun y hy => ZE (by simp only [List.length_singleton]; unfold lim; omega) ?_))) (fun _ => ?_)))) (fun _ => Zb ⟨by omega, h5⟩)
   ·refine ih n (i + 1) _ (by omega) (by omega) (by omega) (by omega) (by rw [List.append_eq, List.length_append]; simp only [List.length_singleton]; omega) ?_
    intro x hx;rcases List.mem_append.1 (show x ∈ l ++ [y] from hx) with hx | hx
    ·exact h5 x hx
    ·simp only [List.mem_singleton] at hx; subst hx; exact hrow.2 _ hy
   ·exact ih n (i + 1) l (by omega) (by omega) (by omega) (by omega) (by omega) h5
 exact loop row.length big 0 [] (by omega) (by omega) (by omega) (by have := hrow.1; unfold big; omega) (by simp) (by simp)
theorem Zse {t : List Zm} (ht : XE t) (k : Int) : Ok (Bh big t k) fun r => r.2.2.2.1 = true → (0 ≤ k ∧ k < t.length) ∧ (0 ≤ r.1 ∧ r.1 < t.length) ∧ (0 ≤ r.2.1 ∧ r.2.1 < t.length) ∧ (0 ≤ r.2.2.1 ∧ r.2.2.1 < t.length) := by
 have hlo := ht.lo; have hhi := ht.hi;rw [ZaX];refine Zd (N2 ht k) fun h hh => Zs (fun _ => Zb fun e => by cases e) (fun hc => ?_);have hu := (hh.1 (by omega)).lt hlo;refine ZE hu.1 (Z4 (by omega) fun b _ => ?_);simp only [M5, Option.bind_some, ZD (n := k - 1) (by omega) (by omega), ZD (n := (↑(List.length t) : Int) - 1) (by omega) (by omega)];refine Yh (fun _ => Zb fun e => by cases e) (fun h1 => ?_);simp only [Bool.and_eq_true, decide_eq_true_eq] at h1;refine ZE h1.1 (Z4 (by omega) fun b2 _ => Yh (fun _ => Zb fun e => by cases e) (fun h2 => ?_));simp only [Bool.and_eq_true, decide_eq_true_eq] at h2;refine ZE h2.1 (Z4 (by omega) fun b3 _ => Yh (fun _ => Zb fun e => by cases e) (fun h3 => Zb fun _ => ?_));simp only [Bool.and_eq_true, decide_eq_true_eq] at h3;dsimp only;exact ⟨hu, ⟨h1.1, by omega⟩, ⟨h2.1, by omega⟩, h3.1, by omega⟩
theorem Zvj (l : List ZX) (hl : l.length ≤ 4294967296) (a b c : Int) : ∀ (m : Nat) (n : Nat) (i acc : Int), 0 ≤ i → i ≤ 7 → (7 : Int) ≤ i + m → m * (l.length + 2) + 1 ≤ n → Ok (Wu n l a b c acc i) fun _ => True := by
 intro m
 induction m with
 | zero =>
  intro n i acc h0 h1 h2 h3;obtain ⟨n, rfl⟩ : ∃ m, n = m + 1 := ⟨n - 1, by omega⟩
  rw [Qh];exact Zs (fun h => by omega) (fun _ => Zb trivial)
 | succ m ih =>
  intro n i acc h0 h1 h2 h3;obtain ⟨n, rfl⟩ : ∃ m, n = m + 1 := ⟨n - 1, by omega⟩
  rw [Qh];refine Zs (fun hc => ?_) (fun _ => Zb trivial);have h3' : m * (l.length + 2) + (l.length + 2) ≤ n := by rw [Nat.succ_mul] at h3; omega
  have inner : ∀ (q : Nat) (n : Nat) (j : Int), 0 ≤ j → j ≤ l.length → (l.length : Int) ≤ j + q → m * (l.length + 2) + 1 + q + 1 ≤ n → Ok (Wv n l a b c acc i j) fun _ => True := by
   intro q
   induction q with
   | zero =>
    intro n j g0 g1 g2 g3;obtain ⟨n, rfl⟩ : ∃ m, n = m + 1 := ⟨n - 1, by omega⟩
    rw [Qi, ZD (n := i + 1) (by omega) (by omega)];exact Zs (fun h => by omega) (fun _ => ih n _ _ (by omega) (by omega) (by omega) (by omega))
   | succ q ihq =>
    intro n j g0 g1 g2 g3;obtain ⟨n, rfl⟩ : ∃ m, n = m + 1 := ⟨n - 1, by omega⟩
    rw [Qi, ZD (n := i + 1) (by omega) (by omega), ZD (n := j + 1) (by omega) (by omega)];refine Zs (fun hj => ?_) (fun _ => ih n _ _ (by omega) (by omega) (by omega) (by omega));have next : Ok (Wv n l a b c acc i (j + 1)) fun _ => True := ihq n (j + 1) (by omega) (by omega) (by omega) (by omega)
    exact ZE g0 (Z4 (by omega) fun y _ => Zs (fun _ => Zs (fun _ => Zs (fun _ => Zs (fun _ => Eg (Rb _) (ih n _ _ (by omega) (by omega) (by omega) (by omega))) (fun _ => next)) (fun _ => next)) (fun _ => next)) (fun _ => next))
  exact inner l.length n 0 (by omega) (by omega) (by omega) (by omega)
theorem ZcU (l : List ZX) (hl : l.length ≤ 4294967296) (a b c : Int) : Ok (Qg big l a b c) fun _ => True := by
 rw [D5];exact Zvj l hl a b c 7 big 0 0 (by omega) (by omega) (by omega) (by unfold big; omega)
theorem Zma (l : List ZX) (hl : l.length ≤ 4294967296) (a b c n : Int) : Ok (Gn big l a b c n) fun r => r.1.2.1 = 0 ∨ r.1.2.1 = b := by
 rw [ZaS];exact Zd (ZcU l hl a b c) fun y _ => Zd (ZcR y) fun _ _ => Zd (R6 n) fun _ _ => Zs (fun _ => Zb (.inl rfl)) (fun _ => Zb (.inr rfl))
theorem ZoQ (l : List ZX) (hl : l.length ≤ 4294967296) (q : Ch) (z : Int) : Ok (VE big l q z) fun _ => True := by
 rw [Zij];refine Zs (fun _ => Zb trivial) fun _ => Zd (ZcU l hl _ _ _) fun y _ => ?_;refine up0 (L := 7) (by decide) (f := fun n i => Uz n z y i q.1 q.2.1 q.2.2.1 q.2.2.2.1) (fun n i h0 h1 k => ?_) (fun n => ?_)
 ·rw [Fo, ZD (n := i + 1) (by omega) (by omega)]
  refine Zs (fun _ => Eg (Rb _) ?_) (fun h => by omega)
  repeat' first
   | exact k _ rfl
   | exact Zb trivial
   | exact Rb _
   | refine Eg (Rb _) ?_
   | refine YS (fun _ => ?_) (fun _ => ?_)
   | refine Zs (fun _ => ?_) (fun _ => ?_)
   | refine Yh (fun _ => ?_) (fun _ => ?_)
   | refine Yv (fun _ => ?_) (fun _ => ?_)
 ·rw [Fo]
  refine Zs (fun h => by omega) (fun _ => ?_)
  repeat' first
   | exact Zb trivial
   | refine Zs (fun _ => ?_) (fun _ => ?_)
theorem Zi0 {t : List Zm} (ht : XE t) (n : Int) (v : ZX) : Ok (JR big t n v) fun _ => True := by
 have hlo := ht.lo; have hhi := ht.hi;rw [Mq];simp only [M5, Option.bind_some, ZD (n := (↑(List.length t) : Int) - 1) (by omega) (by omega)];refine Yv (fun _ => Yv (fun _ => Yv (fun _ => Yv (fun h => ?_) (fun _ => Zb trivial)) (fun _ => Zb trivial)) (fun _ => Zb trivial)) (fun _ => Zb trivial);simp only [Bool.and_eq_true, decide_eq_true_eq] at h;exact ZE (by omega) (Z4 (by omega) fun y _ => Zs (fun _ => Zb trivial) (fun _ => Zb trivial))
theorem ZcV {t : List Zm} (ht : XE t) (n : Int) (q : Ch) : Ok (Y4 big t n q) fun _ => True := by
 rw [Hh];refine Yv (fun _ => Zb trivial) (fun _ => Zd (Zi0 ht n _) fun y _ => Yh (fun _ => Zb trivial) fun _ => Eg (Rb _) ?_);simp only [M5, Option.bind_some];exact Yv (fun _ => Zd (ZcR _) fun _ _ => Zd (R6 n) fun _ _ => Zb trivial) (fun _ => Zb trivial)
theorem Zsf (p : Zj) (n : Int) (c : Bool) : Ok (Mu big p n c) fun _ => True := by
 rw [Zk1];exact Zd (VI _ _) fun _ _ => YS (fun _ => Zb trivial) fun _ => Zs (fun _ => Zb trivial) fun _ => Zd (R6 n) fun _ _ => Zs (fun _ => Zb trivial) fun _ => Zs (fun _ => Zb trivial) fun _ => Yv (fun _ => Zb trivial) (fun _ => Zb trivial)
theorem Zsg {t : List Zm} {b c : Int} (hb : 0 ≤ b ∧ b < t.length) (hc : 0 ≤ c ∧ c < t.length) : Ok (Ak big t b c) fun _ => True := by
 rw [Zeb];exact YS (fun _ => YS (fun _ => ZE hb.1 (Z4 (by omega) fun _ _ => ZE hc.1 (Z4 (by omega) fun _ _ => Zb trivial))) (fun _ => Zb trivial)) (fun _ => Zb trivial)
theorem Zqa {t : List Zm} (ht : XE t) (k : Int) : Ok (Fm big t k) fun _ => True := by
 rw [Za2];refine Zd (Zse ht k) fun y hy => Yh (fun _ => Zb trivial) fun hc => ?_;obtain ⟨_, h1, h2, h3⟩ := hy hc;exact Zd (Zsg h1 h2) fun _ _ => Yh (fun _ => Zb trivial) fun _ => ZE h2.1 (Z4 (by omega) fun _ _ => ZE h3.1 (Z4 (by omega) fun _ _ => YS (fun _ => Zb trivial) (fun _ => Zb trivial)))
theorem Zuq {t : List Zm} (ht : XE t) (q : Ch) (k : Int) : Ok (Jz big t q k) fun _ => True := by
 have hlo := ht.lo; have hhi := ht.hi;rw [RF];simp only [M5, Option.bind_some, ZD (n := (↑(List.length t) : Int) - 1) (by omega) (by omega)];refine Yh (fun _ => Zb trivial) fun h => ?_;simp only [Bool.and_eq_true, decide_eq_true_eq] at h;exact Zd (ZcT ht k _) fun _ _ => Yv (fun _ => Zb trivial) (fun _ => ZE h.1 (Z4 (by omega) fun _ _ => Zb trivial))
theorem Zsh (b : Zm) (h : List.length b.2.2.1 ≤ 4294967296) : Bd big b = some b := by
 rw [Fe, if_pos (by unfold lim; omega)]
theorem Zur {t : List Zm} (h1 : t.length ≤ 1000) (h2 : ∀ b ∈ t, List.length b.2.2.1 ≤ 4294967296) : Iq big t = some t := by
 rw [ZdY];have loop : ∀ (m n i : Nat), t.length ≤ i + m → m < n → i ≤ t.length → Js n t (t.take i) (i : Int) = some t := by
  intro m
  induction m with
  | zero =>
   intro n i g0 g1 g2;obtain ⟨n, rfl⟩ : ∃ m, n = m + 1 := ⟨n - 1, by omega⟩
   rw [KM, decide_eq_false (by omega), cond_false, List.take_of_length_le (by omega)]
  | succ m ih =>
   intro n i g0 g1 g2;obtain ⟨n, rfl⟩ : ∃ m, n = m + 1 := ⟨n - 1, by omega⟩
   rcases Nat.lt_or_ge i t.length with hi | hi
   ·rw [KM, decide_eq_true (by omega), cond_true, if_pos (by omega), Int.toNat_natCast, Z2 hi, Option.bind_some, Zsh _ (h2 _ (List.getElem_mem hi)), Option.bind_some,
     if_pos (by rw [List.length_take]; simp only [List.length_singleton]; unfold lim; omega), Ym (by omega)]
    have e : (t.take i).append [t[i]] = t.take (i + 1) := by
     rw [List.append_eq, List.take_succ_eq_append_getElem hi]
    rw [e];exact ih n (i + 1) (by omega) (by omega) (by omega)
   ·rw [KM, decide_eq_false (by omega), cond_false, List.take_of_length_le (by omega)]
 have := loop t.length big 0 (by omega) (by unfold big; omega) (by omega);rw [List.take_zero] at this;exact this
theorem ZwU (a b : Zm) (h : List.length a.2.2.1 ≤ 4294967296) : Ok (Di big a b) fun _ => True := by
 rw [RC];refine YS (fun _ => Zb trivial) fun _ => YS (fun _ => Zb trivial) fun _ => Yh (fun _ => Zb trivial) fun _ => YS (fun _ => Zb trivial) fun he => ?_;refine up0 (L := List.length a.2.2.1) h (f := fun n i => Qd n i a.1 a.2.1 a.2.2.1 a.2.2.2.1.1 a.2.2.2.1.2.1 a.2.2.2.1.2.2.1 a.2.2.2.1.2.2.2.1 b.1 b.2.1 b.2.2.1 b.2.2.2.1.1 b.2.2.2.1.2.1 b.2.2.2.1.2.2.1 b.2.2.2.1.2.2.2.1) (fun n i h0 h1 k => ?_) (fun n => ?_)
 ·rw [Be, ZD (n := i + 1) (by omega) (by omega)]
  exact Zs (fun _ => ZE h0 (Z4 (by omega) fun _ _ => ZE h0 (Z4 (by omega) fun _ _ => Yh (fun _ => Zb trivial) fun _ => k _ rfl))) (fun h => by omega)
 ·rw [Be]
  exact Zs (fun h => by omega) (fun _ => Zb trivial)
theorem Zsi {t : List Zm} (ht : XE t) (b : Zm) : Ok (Ir big t b) fun r => -1 ≤ r ∧ r < t.length := by
 have hlo := ht.lo; have hhi := ht.hi;rw [Zd1];refine up0 (L := t.length) (by omega) (f := fun n i => Jv n t i b.1 b.2.1 b.2.2.1 b.2.2.2.1.1 b.2.2.2.1.2.1 b.2.2.2.1.2.2.1 b.2.2.2.1.2.2.2.1) (fun n i h0 h1 k => ?_) (fun n => ?_)
 ·rw [D0, ZD (n := i + 1) (by omega) (by omega)]
  exact Zs (fun _ => ZE h0 (Z4 (by omega) fun y hy => Zd (ZwU y _ (by have := (ht.cmds y hy).len; omega)) fun _ _ => Yv (fun _ => Zb ⟨by omega, h1⟩) (fun _ => k _ rfl))) (fun h => by omega)
 ·rw [D0]
  exact Zs (fun h => by omega) (fun _ => Zb ⟨by omega, by omega⟩)
theorem Zsj (c : Y3) (h : ByteArray.size c.2.1 ≤ 4294967296) : Ok (EX big c) fun _ => True := by
 rw [OD];simp only [M5, Option.bind_some];exact Yv (fun _ => Zd (ZnF _ h) fun _ _ => Yv (fun _ => Zb trivial) (fun _ => Zb trivial)) (fun _ => Zb trivial)
theorem Zsk {t : List Zm} (ht : XE t) (b : Zm) (hb : ∀ c ∈ b.2.2.1, ByteArray.size c.2.1 ≤ 1000) : Ok (Is big t b) fun r => r = true → List.length b.2.2.1 ≤ 4 ∧ (0 ≤ b.2.1 ∧ b.2.1 ≤ 900) ∧ 0 ≤ b.1 ∧ b.1 < t.length ∧ b.2.2.2.1.2.2.1 = b.1 := by
 have hlo := ht.lo; have hhi := ht.hi;rw [Zd4];simp only [M5, Option.bind_some, ZD (n := (↑(List.length t) : Int) - 1) (by omega) (by omega)];refine Yh (fun _ => Zb fun e => by cases e) fun h => ?_;simp only [Bool.and_eq_true, decide_eq_true_eq] at h;refine ZE h.1 (Z4 (by omega) fun y hy => Zs (fun _ => Zb fun e => by cases e) fun g1 => Zs (fun _ => Zb fun e => by cases e) fun g2 => Zs (fun _ => Zb fun e => by cases e) fun g3 => ?_);have hv := ht.view y hy;have fin : b.2.2.2.1.2.2.1 = b.1 → List.length b.2.2.1 ≤ 4 ∧ (0 ≤ b.2.1 ∧ b.2.1 ≤ 900) ∧ 0 ≤ b.1 ∧ b.1 < t.length ∧ b.2.2.2.1.2.2.1 = b.1 := fun e => ⟨by omega, by omega, h.1, by omega, e⟩
 refine up0 (L := List.length b.2.2.1) (by omega) (f := fun n i => Jx n t i b.1 b.2.1 b.2.2.1 b.2.2.2.1.1 b.2.2.2.1.2.1 b.2.2.2.1.2.2.1 b.2.2.2.1.2.2.2.1) (fun n i h0 h1 k => ?_) (fun n => ?_)
 ·rw [D4, ZD (n := i + 1) (by omega) (by omega)]
  exact Zs (fun _ => ZE h0 (Z4 (by omega) fun c hc => Zd (Zsj c (by have := hb c hc; omega)) fun _ _ => Yh (fun _ => Zb fun e => by cases e) fun _ => k _ rfl)) (fun h => by omega)
 ·rw [D4]
  exact Zs (fun h => by omega) (fun _ => Zs (fun e => ZE h.1 (Z4 (by omega) fun _ _ => Zb fun _ => fin e)) (fun _ => Zb fun e => by cases e))
theorem ZgJ {t : List Zm} (ht : XE t) (b : Zm) (hb : ∀ c ∈ b.2.2.1, ByteArray.size c.2.1 ≤ 1000) (hl : List.length b.2.2.1 ≤ 4294967296) : Ok (XO big t b) fun r => XE r.1 ∧ t.length ≤ List.length r.1 ∧ r.2.1 < List.length r.1 ∧ -1 ≤ r.2.1 ∧ ∀ V : Int, (∀ x ∈ t, x.2.1 ≤ V) → b.2.1 ≤ V → ∀ x ∈ r.1, x.2.1 ≤ V := by
 have hlo := ht.lo; have hhi := ht.hi;rw [Fh, Zur (by omega) (fun b hb => by have := (ht.cmds b hb).len; omega)];simp only [Option.bind_some];refine Zd (Zsi ht b) fun k hk => Zs (fun _ => Zb ⟨ht, Nat.le_refl _, hk.2, hk.1, fun V h _ => h⟩) fun _ => Zd (Zsk ht b hb) fun y hy => Yh (fun _ => Zb ⟨ht, Nat.le_refl _, by show (-1 : Int) < _; omega, by show (-1 : Int) ≤ -1; omega, fun V h _ => h⟩) fun hok => Zs (fun _ => Zb ⟨ht, Nat.le_refl _, by show (-1 : Int) < _; omega, by show (-1 : Int) ≤ -1; omega, fun V h _ => h⟩) fun hm => ?_;obtain ⟨g1, g2, g3, g4, g5⟩ := hy hok;rw [Zsh b hl];simp only [Option.bind_some];refine ZE (by simp only [List.length_singleton]; unfold lim; omega) (Zb ?_);have hlen : (List.append t [b]).length = t.length + 1 := by rw [List.append_eq, List.length_append]; rfl
 refine ⟨⟨by rw [hlen]; omega, by rw [hlen]; omega, fun x hx => ?_, fun x hx => ?_, fun x hx => ?_, fun k x hx hk => ?_⟩, by rw [hlen]; omega, by show (t.length : Int) < _; rw [hlen]; omega, by show (-1 : Int) ≤ t.length; omega, fun V h hb x hx => ?_⟩
 ·rcases List.mem_append.1 (show x ∈ t ++ [b] from hx) with hx | hx
  ·exact ht.cmds x hx
  ·simp only [List.mem_singleton] at hx; subst hx; exact ⟨g1, hb⟩
 ·rcases List.mem_append.1 (show x ∈ t ++ [b] from hx) with hx | hx
  ·exact ht.view x hx
  ·simp only [List.mem_singleton] at hx; subst hx; exact g2
 ·have : nth t 0 = some x := by
   rw [Z2 (show 0 < t.length by omega)];rw [Z2 (show 0 < (List.append t [b]).length by omega)] at hx;rw [← hx];exact congrArg some (List.getElem_append_left (bs := [b]) (show 0 < t.length by omega)).symm
  exact ht.first x this
 ·by_cases hkt : k < t.length
  ·have : nth t k = some x := by
    rw [Z2 hkt];rw [Z2 (show k < (List.append t [b]).length by omega)] at hx;rw [← hx];exact congrArg some (List.getElem_append_left (bs := [b]) hkt).symm
   exact ht.just k x this hk
  ·have hk1 : k < (List.append t [b]).length := AF hx
   have hk2 : k = t.length := by omega
   subst hk2;rw [Z2 hk1] at hx;have e : (List.append t [b])[t.length] = b := List.getElem_concat_length rfl hk1;rw [e] at hx;cases hx;exact ⟨g3, g4, g5⟩
 ·rcases List.mem_append.1 (show x ∈ t ++ [b] from hx) with hx | hx
  ·exact h x hx
  ·simp only [List.mem_singleton] at hx; subst hx; exact hb
structure Xr (l : List ZB) : Prop where
 len : l.length ≤ 25
 key : ∀ c ∈ l, ByteArray.size c.1 ≤ 1000
structure ZoR (l : List Ya) : Prop where
 len : l.length ≤ 240
 key : ∀ c ∈ l, ByteArray.size c.1 ≤ 1000
structure Yz (B : Nat) (V : Int) (p : Zj) : Prop where
 row : List.length p.2.2.2.2.2.1 ≤ B
 cells : Xr p.2.2.2.2.2.2.1
 early : List.length p.2.2.2.2.2.2.2.1 ≤ 60
 undos : ZoR p.2.2.2.2.2.2.2.2.1
 votes : List.length p.2.2.2.2.2.2.2.2.2.1 ≤ B
 news : List.length p.2.2.2.2.2.2.2.2.2.2.1 ≤ B
 view : 1 ≤ p.2.1 ∧ p.2.1 ≤ V
 top : V ≤ 900
 hq : 0 ≤ p.2.2.1.2.1 ∧ 0 ≤ p.2.2.2.1.2.1
theorem Yz.mono {B B' : Nat} {V : Int} {p : Zj} (h : Yz B V p) (hb : B ≤ B') : Yz B' V p := ⟨Nat.le_trans h.row hb, h.cells, h.early, h.undos, Nat.le_trans h.votes hb, Nat.le_trans h.news hb, h.view, h.top, h.hq⟩
theorem Yz.up {B : Nat} {V V' : Int} {p : Zj} (h : Yz B V p) (hv : V ≤ V') (ht : V' ≤ 900) : Yz B V' p := ⟨h.row, h.cells, h.early, h.undos, h.votes, h.news, ⟨h.view.1, Int.le_trans h.view.2 hv⟩, ht, h.hq⟩
def idv (p : Zj) : Int × Int := (p.1, p.2.1)
theorem ZoS {p q : Zj} (h : idv p = idv q) : p.1 = q.1 := by
 have := congrArg Prod.fst h;exact this
theorem CD {B : Nat} {V : Int} (hB : B ≤ 1000000000) {p : Zj} (h : Yz B V p) : YX big p = some p := by
 obtain ⟨h1, h2, h3, h4, h5, h6, _⟩ := h;have h2 := h2.len;have h4 := h4.len;rw [BN, if_pos (by unfold lim; omega), if_pos (by unfold lim; omega), if_pos (by unfold lim; omega), if_pos (by unfold lim; omega), if_pos (by unfold lim; omega), if_pos (by unfold lim; omega)]
theorem QD {B : Nat} {V : Int} (hB : B ≤ 1000000000) {p : Zj} (h : Yz B V p) (v : Int) (hv : v ≤ V) : Ok (Wd big p v) fun r => Yz B V r ∧ r.1 = p.1 := by
 rw [Hi, CD hB h];simp only [Option.bind_some];refine Zs (fun h1 => Zs (fun h2 => Zb ⟨⟨h.row, h.cells, h.early, h.undos, Nat.zero_le _, Nat.zero_le _, ?_, h.top, h.hq⟩, rfl⟩) (fun _ => Zb ⟨h, rfl⟩)) (fun _ => Zb ⟨h, rfl⟩);have := h.view;exact ⟨by show 1 ≤ v; omega, hv⟩
theorem Zmb {l : List ZB} (h : Xr l) : Ok (J9 big l) fun b => b = true → l.length ≤ 12 := by
 have hl := h.len;rw [GV];refine up0 (L := l.length) (by omega) (f := fun n i => Vw n l i) (fun n i h0 h1 k => ?_) (fun n => ?_)
 ·rw [V4, ZD (n := i + 1) (by omega) (by omega), ZD (n := i - 1) (by omega) (by omega)]
  simp only [M5, Option.bind_some];refine Zs (fun _ => ZE h0 (Z4 (by omega) fun y hy => Zd (ZnF _ (by have := h.key y hy; omega)) fun _ _ => Yh (fun _ => Zb fun e => by cases e) fun _ => ZE h0 (Z4 (by omega) fun _ _ => Yh (fun _ => Zb fun e => by cases e) fun _ => Zs (fun hp => ?_) (fun _ => k _ rfl)))) (fun h => by omega);exact ZE (by omega) (Z4 (by omega) fun _ _ => ZE h0 (Z4 (by omega) fun _ _ => Yh (fun _ => Zb fun e => by cases e) fun _ => k _ rfl))
 ·rw [V4]
  exact Zs (fun h => by omega) (fun _ => Zb fun e => by have := of_decide_eq_true e; omega)
theorem M7 {l : List ZB} {y : ZB} (h : ∀ c ∈ l, ByteArray.size c.1 ≤ 1000) (hy : ByteArray.size y.1 ≤ 1000) : ∀ c ∈ List.append l [y], ByteArray.size c.1 ≤ 1000 := fun c hc => by
 rcases List.mem_append.1 (show c ∈ l ++ [y] from hc) with hc | hc
 ·exact h c hc
 ·simp only [List.mem_singleton] at hc; subst hc; exact hy
theorem XL {α : Type} {l : List α} {y : α} : (List.append l [y]).length = l.length + 1 := by rw [List.append_eq, List.length_append]; rfl
theorem Zvk {l : List ZB} (hl : l.length ≤ 12) (hk : ∀ c ∈ l, ByteArray.size c.1 ≤ 1000) (x : ZB) (hx : ByteArray.size x.1 ≤ 1000) : Ok (Xo big l x) Xr := by
 rw [LU];have second : ∀ (m n : Nat) (i : Int) (a : List ZB), 0 ≤ i → i ≤ l.length → (l.length : Int) ≤ i + m → m < n → (a.length : Int) ≤ 13 + i → (∀ c ∈ a, ByteArray.size c.1 ≤ 1000) → Ok (Ut n l a i x.1 x.2.1) Xr := by
  intro m
  induction m with
  | zero =>
   intro n i a h0 h1 h2 h3 h4 h5;obtain ⟨n, rfl⟩ : ∃ m, n = m + 1 := ⟨n - 1, by omega⟩
   rw [US];exact Zs (fun h => by omega) (fun _ => Zb ⟨by omega, h5⟩)
  | succ m ih =>
   intro n i a h0 h1 h2 h3 h4 h5;obtain ⟨n, rfl⟩ : ∃ m, n = m + 1 := ⟨n - 1, by omega⟩
   rw [US, ZD (n := i + 1) (by omega) (by omega)];refine Zs (fun _ => ZE h0 (Z4 (by omega) fun y hy => Yh (fun _ => ZE h0 (Z4 (by omega) fun y hy => ZE (by simp only [List.length_singleton]; unfold lim; omega) ?_)) (fun _ => ?_))) (fun _ => Zb ⟨by omega, h5⟩)
   ·exact ih n (i + 1) _ (by omega) (by omega) (by omega) (by omega) (by rw [XL]; omega) (M7 h5 (hk y hy))
   ·exact ih n (i + 1) a (by omega) (by omega) (by omega) (by omega) (by omega) h5
 have first : ∀ (m n : Nat) (i : Int) (a : List ZB), 0 ≤ i → i ≤ l.length → (l.length : Int) ≤ i + m → m + 20 < n → (a.length : Int) ≤ i → (∀ c ∈ a, ByteArray.size c.1 ≤ 1000) → Ok (Us n l a i x.1 x.2.1) Xr := by
  intro m
  induction m with
  | zero =>
   intro n i a h0 h1 h2 h3 h4 h5;obtain ⟨n, rfl⟩ : ∃ m, n = m + 1 := ⟨n - 1, by omega⟩
   rw [UR];exact Zs (fun h => by omega) (fun _ => ZE (by simp only [List.length_singleton]; unfold lim; omega) (second l.length n 0 _ (by omega) (by omega) (by omega) (by omega) (by rw [XL]; omega) (M7 h5 hx)))
  | succ m ih =>
   intro n i a h0 h1 h2 h3 h4 h5;obtain ⟨n, rfl⟩ : ∃ m, n = m + 1 := ⟨n - 1, by omega⟩
   rw [UR, ZD (n := i + 1) (by omega) (by omega)];refine Zs (fun _ => ZE h0 (Z4 (by omega) fun y hy => Yv (fun _ => ZE h0 (Z4 (by omega) fun y hy => ZE (by simp only [List.length_singleton]; unfold lim; omega) ?_)) (fun _ => ?_))) (fun _ => ZE (by simp only [List.length_singleton]; unfold lim; omega) (second l.length n 0 _ (by omega) (by omega) (by omega) (by omega) (by rw [XL]; omega) (M7 h5 hx)))
   ·exact ih n (i + 1) _ (by omega) (by omega) (by omega) (by omega) (by rw [XL]; omega) (M7 h5 (hk y hy))
   ·exact ih n (i + 1) a (by omega) (by omega) (by omega) (by omega) (by omega) h5
 exact first l.length big 0 [] (by omega) (by omega) (by omega) (by unfold big; omega) (by simp) (by simp)
theorem ZoT {l : List ZB} (h : l.length ≤ 4294967296) (s : ByteArray) : Ok (Co big l s) fun r => r < l.length := by
 rw [LS];refine up0 (L := l.length) h (f := fun n i => Kw n l s i) (fun n i h0 h1 k => ?_) (fun n => ?_)
 ·rw [UQ, ZD (n := i + 1) (by omega) (by omega)]
  exact Zs (fun _ => ZE h0 (Z4 (by omega) fun _ _ => Zs (fun _ => Zb h1) (fun _ => k _ rfl))) (fun h => by omega)
 ·rw [UQ]
  exact Zs (fun h => by omega) (fun _ => Zb (by omega))
set_option maxHeartbeats 4000000 in
theorem Zus {l : List ZB} (h : Xr l) (c : Y3) (hc : ByteArray.size c.2.1 ≤ 1000) : Ok (LV big l c) fun r => Xr r.1 := by
 have hl := h.len;rw [Tv];simp only [M5, Option.bind_some];refine ZE (by unfold lim; omega) (Zd (Zmb h) fun b hb => Yh (fun _ => Zb h) fun h1 => Zd (Zsj c (by omega)) fun _ _ => Yh (fun _ => Zb h) fun _ => Zd (ZoT (by omega) _) fun k hk => ?_);have put : ∀ n : Int, Ok ((Xo big l (c.2.1, n, ())).bind fun y => some (y, (0 : Int), PUnit.unit)) fun r => Xr r.1 := fun n => Zd (Zvk (hb h1) h.key _ hc) fun y hy => Zb hy;have put2 : Ok ((Xo big l c.2).bind fun y => some (y, (0 : Int), PUnit.unit)) fun r => Xr r.1 := Zd (Zvk (hb h1) h.key _ hc) fun y hy => Zb hy;have tail : ∀ (b2 : Bool) (n : Int) (K : Option (List ZB × Int × Unit)), Ok K (fun r => Xr r.1) → Ok (bif !b2 then some (l, (2 : Int), PUnit.unit) else bif decide (k < 0) then bif decide ((12 : Int) ≤ (↑(List.length l) : Int)) then some (l, (2 : Int), PUnit.unit) else K else K) fun r => Xr r.1 := fun b2 n K hK =>
  Yh (fun _ => Zb h) fun _ => Zs (fun _ => Zs (fun _ => Zb h) fun _ => hK) fun _ => hK
 refine YS (fun _ => Zs (fun _ => Zb h) fun hk0 => ZE (by omega) (Z4 (by omega) fun y _ => Zs (fun _ => ZE (by omega) (Z4 (by omega) fun y2 _ => tail _ 0 _ (put _))) fun _ => tail _ 0 _ (put _))) fun _ => tail _ 0 _ put2
theorem Zmc {l : List ZB} (h : Xr l) {cs : List Y3} (hc : ∀ c ∈ cs, ByteArray.size c.2.1 ≤ 1000) (hn : cs.length ≤ 1000) : Ok (Aa big l cs) fun r => Xr r.1 := by
 have hl := h.len;rw [GX];refine ZE (by unfold lim; omega) ?_;have loop : ∀ (m n : Nat) (i : Int) (l : List ZB) (a : List Int), 0 ≤ i → i ≤ cs.length → (cs.length : Int) ≤ i + m → m < n → Xr l → (a.length : Int) ≤ i → Ok (UT n cs l a i) fun r => Xr r.1 := by
  intro m
  induction m with
  | zero =>
   intro n i l a h0 h1 h2 h3 h4 h5;obtain ⟨n, rfl⟩ : ∃ m, n = m + 1 := ⟨n - 1, by omega⟩
   rw [V5];exact Zs (fun h => by omega) (fun _ => Zb h4)
  | succ m ih =>
   intro n i l a h0 h1 h2 h3 h4 h5;obtain ⟨n, rfl⟩ : ∃ m, n = m + 1 := ⟨n - 1, by omega⟩
   rw [V5, ZD (n := i + 1) (by omega) (by omega)];exact Zs (fun _ => ZE h0 (Z4 (by omega) fun c hm => Zd (Zus h4 c (hc c hm)) fun y hy => ZE (by unfold lim; omega) (ih n (i + 1) _ _ (by omega) (by omega) (by omega) (by omega) hy (by rw [XL]; omega)))) (fun _ => Zb h4)
 exact loop cs.length big 0 l [] (by omega) (by omega) (by omega) (by unfold big; omega) h (by simp)
theorem ZtM {l : List ZB} (h : Xr l) (s : ByteArray) : Ok (Ge big l s) fun u => u.1 = s := by
 have hl := h.len;rw [L3];exact Zd (ZoT (by omega) s) fun k hk => Zs (fun _ => Zb rfl) (fun _ => ZE (by omega) (Z4 (by omega) fun _ _ => Zb rfl))
theorem ZtN {l : List ZB} (h : Xr l) (u : Ya) (hu : ByteArray.size u.1 ≤ 1000) : Ok (Gd big l u) Xr := by
 have hl := h.len;rw [LY];simp only [M5, Option.bind_some];have same : Ok (if 0 + List.length l ≤ lim then some l else none) Xr := ZE (by unfold lim; omega) (Zb h);refine Zd (Zmb h) fun b hb => Yh (fun _ => same) fun h1 => Zd (ZnF _ (by omega)) fun _ _ => Yh (fun _ => same) fun _ => Yh (fun _ => same) fun _ => Yv (fun _ => Zd (Zvk (hb h1) h.key _ hu) fun y hy => Zb hy) fun _ => ?_;have loop : ∀ (m n : Nat) (i : Int) (a : List ZB), 0 ≤ i → i ≤ l.length → (l.length : Int) ≤ i + m → m < n → (a.length : Int) ≤ i → (∀ c ∈ a, ByteArray.size c.1 ≤ 1000) → Ok (Uu n l a i u.1 u.2.1 u.2.2.1) Xr := by
  intro m
  induction m with
  | zero =>
   intro n i a h0 h1 h2 h3 h4 h5;obtain ⟨n, rfl⟩ : ∃ m, n = m + 1 := ⟨n - 1, by omega⟩
   rw [UX];exact Zs (fun h => by omega) (fun _ => Zb ⟨by omega, h5⟩)
  | succ m ih =>
   intro n i a h0 h1 h2 h3 h4 h5;obtain ⟨n, rfl⟩ : ∃ m, n = m + 1 := ⟨n - 1, by omega⟩
   rw [UX, ZD (n := i + 1) (by omega) (by omega)];refine Zs (fun _ => ZE h0 (Z4 (by omega) fun y hy => YS (fun _ => ZE h0 (Z4 (by omega) fun y hy => ZE (by simp only [List.length_singleton]; unfold lim; omega) ?_)) (fun _ => ?_))) (fun _ => Zb ⟨by omega, h5⟩)
   ·exact ih n (i + 1) _ (by omega) (by omega) (by omega) (by omega) (by rw [XL]; omega) (M7 h5 (h.key y hy))
   ·exact ih n (i + 1) a (by omega) (by omega) (by omega) (by omega) (by omega) h5
 exact loop l.length big 0 [] (by omega) (by omega) (by omega) (by unfold big; omega) (by simp) (by simp)
theorem ZnG {l : List ZB} (h : Xr l) {us : List Ya} (hu : ZoR us) : Ok (X6 big l us) Xr := by
 have hl := h.len; have hun := hu.len;rw [DR, ZD (n := (↑(List.length us) : Int) - 1) (by omega) (by omega)];refine ZE (by unfold lim; omega) ?_;have loop : ∀ (m n : Nat) (i : Int) (l : List ZB), i < us.length → i + 1 ≤ m → -1 ≤ i → m < n → Xr l → Ok (Vl n us l i) Xr := by
  intro m
  induction m with
  | zero =>
   intro n i l h0 h1 h2 h3 h4;obtain ⟨n, rfl⟩ : ∃ m, n = m + 1 := ⟨n - 1, by omega⟩
   rw [W6];exact Zs (fun h => by omega) (fun _ => Zb h4)
  | succ m ih =>
   intro n i l h0 h1 h2 h3 h4;obtain ⟨n, rfl⟩ : ∃ m, n = m + 1 := ⟨n - 1, by omega⟩
   rw [W6, ZD (n := i - 1) (by omega) (by omega)];exact Zs (fun hc => ZE hc (Z4 (by omega) fun u hm => Zd (ZtN h4 u (hu.key u hm)) fun y hy => ih n (i - 1) y (by omega) (by omega) (by omega) (by omega) hy)) (fun _ => Zb h4)
 exact loop us.length big _ l (by omega) (by omega) (by omega) (by unfold big; omega) h
theorem Zqb {l : List ZB} (h : Xr l) {cs : List Y3} (hc : ZwT cs) : Ok (AV big l cs) fun r => Xr r.1 ∧ List.length r.2.1 ≤ 4 ∧ ∀ u ∈ r.2.1, ByteArray.size u.1 ≤ 1000 := by
 have hl := h.len; have hcl := hc.len;rw [E1];refine ZE (by unfold lim; omega) ?_;have loop : ∀ (m n : Nat) (i : Int) (l : List ZB) (a : List Ya), 0 ≤ i → i ≤ cs.length → (cs.length : Int) ≤ i + m → m < n → Xr l → (a.length : Int) ≤ i → (∀ u ∈ a, ByteArray.size u.1 ≤ 1000) →
   Ok (VT n cs l a i) fun r => Xr r.1 ∧ List.length r.2.1 ≤ 4 ∧ ∀ u ∈ r.2.1, ByteArray.size u.1 ≤ 1000 := by
  intro m
  induction m with
  | zero =>
   intro n i l a h0 h1 h2 h3 h4 h5 h6;obtain ⟨n, rfl⟩ : ∃ m, n = m + 1 := ⟨n - 1, by omega⟩
   rw [Vx];exact Zs (fun h => by omega) (fun _ => Zb ⟨h4, by show a.length ≤ 4; omega, h6⟩)
  | succ m ih =>
   intro n i l a h0 h1 h2 h3 h4 h5 h6;obtain ⟨n, rfl⟩ : ∃ m, n = m + 1 := ⟨n - 1, by omega⟩
   rw [Vx, ZD (n := i + 1) (by omega) (by omega)];refine Zs (fun _ => ZE h0 (Z4 (by omega) fun c hm => Zd (ZtM h4 c.2.1) fun u hu => ZE (by simp only [List.length_singleton]; unfold lim; omega) (ZE h0 (Z4 (by omega) fun c2 hm2 => Zd (Zus h4 c2 (hc.key c2 hm2)) fun y hy => ?_)))) (fun _ => Zb ⟨h4, by show a.length ≤ 4; omega, h6⟩);refine ih n (i + 1) _ _ (by omega) (by omega) (by omega) (by omega) hy (by rw [XL]; omega) fun v hv => ?_;rcases List.mem_append.1 (show v ∈ a ++ [u] from hv) with hv | hv
   ·exact h6 v hv
   ·simp only [List.mem_singleton] at hv; subst hv; rw [hu]; exact hc.key c hm
 exact loop cs.length big 0 l [] (by omega) (by omega) (by omega) (by unfold big; omega) h (by simp) (by simp)
theorem Zut {B : Nat} {V : Int} {p : Zj} (h : Yz B V p) : Ok (Ah big p) fun r => Yz B V r.2.1 ∧ idv r.2.1 = idv p ∧ r.2.1.2.2.2.2.2.2.2.1 = [] ∧ r.2.1.2.2.2.2.2.2.2.2.1 = [] ∧ r.2.1.2.2.2.2.2.1 = p.2.2.2.2.2.1 := by
 rw [G8];exact Zd (ZnG h.cells h.undos) fun y hy => Zb ⟨⟨h.row, hy, Nat.zero_le _, ⟨Nat.zero_le _, by simp⟩, h.votes, h.news, h.view, h.top, h.hq⟩, rfl, rfl, rfl, rfl⟩
theorem Zsl {B : Nat} {V : Int} (hB : B ≤ 1000000000) {p : Zj} (h : Yz B V p) : Ok (QR big p) fun _ => True := by
 have := h.row;rw [G6, ZD (n := (↑(List.length p.2.2.2.2.2.1) : Int) - 1) (by omega) (by omega)];exact Zs (fun _ => Zb trivial) (fun _ => ZE (by omega) (Z4 (by omega) fun _ _ => Zb trivial))
theorem Zqc {t : List Zm} (ht : XE t) {row : List Int} (hr : row.length ≤ 1000000000) : Ok (XQ big t row) Xr := by
 have hlo := ht.lo; have hhi := ht.hi;rw [Fs];have loop : ∀ (m n : Nat) (i : Int) (l : List ZB), 0 ≤ i → i ≤ row.length → (row.length : Int) ≤ i + m → m < n → Xr l → Ok (WW n t row l i) Xr := by
  intro m
  induction m with
  | zero =>
   intro n i l h0 h1 h2 h3 h4;obtain ⟨n, rfl⟩ : ∃ m, n = m + 1 := ⟨n - 1, by omega⟩
   rw [VF];exact Zs (fun h => by omega) (fun _ => Zb h4)
  | succ m ih =>
   intro n i l h0 h1 h2 h3 h4;obtain ⟨n, rfl⟩ : ∃ m, n = m + 1 := ⟨n - 1, by omega⟩
   rw [VF, ZD (n := i + 1) (by omega) (by omega), ZD (n := (↑(List.length t) : Int) - 1) (by omega) (by omega)];refine Zs (fun hi => ?_) (fun _ => Zb h4);have hlt : i.toNat < row.length := by omega
   rw [Z2 hlt];simp only [M5, Option.bind_some];refine ZE h0 (Yv (fun hc => ?_) (fun _ => ih n (i + 1) l (by omega) (by omega) (by omega) (by omega) h4));simp only [Bool.and_eq_true, decide_eq_true_eq] at hc;exact ZE h0 (ZE hc.1 (Z4 (by omega) fun b hb => Zd (Zmc h4 (ht.cmds b hb).key (by have := (ht.cmds b hb).len; omega)) fun y hy => ih n (i + 1) _ (by omega) (by omega) (by omega) (by omega) hy))
 exact loop row.length big 0 [] (by omega) (by omega) (by omega) (by unfold big; omega) ⟨by simp, by simp⟩
theorem Zvl {t : List Zm} (ht : XE t) {more : List Int} (hm : more.length ≤ 60) (hx : ∀ x ∈ more, 0 ≤ x ∧ x < t.length) (z0 : Int) (z1 : Int) (z2 : Int) (z3 : Int) (z4 : Int) (z5 : Int) (z6 : Int) (z7 : Int) (z8 : Int) (z9 : Int) (z10 : Int) (z11 : Int) (z12 : Int) (z13 : Int) (z14 : List Int) (z15 : List ZB) (z16 : List Int) (z17 : List Ya) (z18 : List ZX) (z19 : List Zo) (z20 : Int) (c0 : Int) (c1 : Int) (c2 : Int) (c3 : Int) (c4 : Int) (c5 : Int) (c6 : Int) (c7 : Int) (c8 : Int) (c9 : Int) (c10 : Int) (c11 : Int) (c12 : Int) (c13 : Int) (c16 : List Int) (c17 : List Ya) (c18 : List ZX) (c19 : List Zo) (c20 : Int) :
  ∀ (m n : Nat) (i : Int) (row : List Int) (cells : List ZB), 0 ≤ i → i ≤ more.length → (more.length : Int) ≤ i + m → m < n → Xr cells → (row.length : Int) ≤ 1100000000 + i →
   Ok (Qb n t i z0 z1 z2 z3 z4 z5 z6 z7 z8 z9 z10 z11 z12 z13 z14 z15 z16 z17 z18 z19 z20 c0 c1 c2 c3 c4 c5 c6 c7 c8 c9 c10 c11 c12 c13 row cells c16 c17 c18 c19 c20 more) fun r => ∃ (row' : List Int) (cells' : List ZB), r = (c0, c1, (c2, c3, c4, c5, ()), (c6, c7, c8, c9, ()), (c10, c11, c12, c13, ()), row', cells', c16, c17, c18, c19, c20, ()) ∧ (row'.length : Int) ≤ row.length + more.length - i ∧ Xr cells' := by
 intro m
 induction m with
 | zero =>
  intro n i row cells h0 h1 h2 h3 h4 h5;obtain ⟨n, rfl⟩ : ∃ m, n = m + 1 := ⟨n - 1, by omega⟩
  rw [V6];exact Zs (fun h => by omega) (fun _ => Zb ⟨row, cells, rfl, by omega, h4⟩)
 | succ m ih =>
  intro n i row cells h0 h1 h2 h3 h4 h5;obtain ⟨n, rfl⟩ : ∃ m, n = m + 1 := ⟨n - 1, by omega⟩
  rw [V6, ZD (n := i + 1) (by omega) (by omega)];refine Zs (fun hi => ZE h0 (ZE hi (Z4 (by omega) fun y hy => ZE (by simp only [List.length_singleton]; unfold lim; omega) (ZE h0 (ZE hi (Z4 (by omega) fun k hk => ZE (hx k hk).1 (Z4 (by have := hx k hk; omega) fun b hb => Zd (Zmc h4 (ht.cmds b hb).key (by have := (ht.cmds b hb).len; omega)) fun q hq => ?_))))))) (fun _ => Zb ⟨row, cells, rfl, by omega, h4⟩);refine Uk (ih n (i + 1) _ _ (by omega) (by omega) (by omega) (by omega) hq (by rw [XL]; omega)) fun r hr => ?_;obtain ⟨row', cells', e, g1, g2⟩ := hr;exact ⟨row', cells', e, by rw [XL] at g1; omega, g2⟩
theorem ZcW {B : Nat} {V : Int} (hB : B ≤ 900000000) {t : List Zm} (ht : XE t) {p : Zj} (h : Yz B V p) (k : Int) : Ok (QS big t p k) fun r => Yz (B + 60) V r ∧ idv r = idv p := by
 rw [Ha, CD (by omega) h];simp only [Option.bind_some];refine Zd (Zsl (by omega) h) fun l _ => Zd (ZcT ht k l) fun e _ => Yh (fun _ => Zb ⟨h.mono (by omega), rfl⟩) fun _ => Zd (Zut h) fun y hy => Zd (Zsl (by omega) h) fun l2 _ => Zd (ZgI ht k l2) fun more hmore => ?_;obtain ⟨hp, hid, _, _, _⟩ := hy;have hr := hp.row;refine Uk (Zvl ht hmore.1 hmore.2 _ _ _ _ _ _ _ _ _ _ _ _ _ _ _ _ _ _ _ _ _ _ _ _ _ _ _ _ _ _ _ _ _ _ _ _ _ _ _ _ more.length big 0 _ _ (by omega) (by omega) (by omega) (by have := hmore.1; unfold big; omega) hp.cells (by omega)) fun r hr2 => ?_;obtain ⟨row', cells', e, g1, g2⟩ := hr2;subst e;have := hmore.1;exact ⟨⟨by show row'.length ≤ B + 60; omega, g2, hp.early, hp.undos, Nat.le_trans hp.votes (by omega), Nat.le_trans hp.news (by omega), hp.view, hp.top, hp.hq⟩, hid⟩
theorem Zvm {t : List Zm} (ht : XE t) {more : List Int} (hm : more.length ≤ 60) (hx : ∀ x ∈ more, 0 ≤ x ∧ x < t.length) (z0 : Int) (z1 : Int) (z2 : Int) (z3 : Int) (z4 : Int) (z5 : Int) (z6 : Int) (z7 : Int) (z8 : Int) (z9 : Int) (z10 : Int) (z11 : Int) (z12 : Int) (z13 : Int) (z14 : List Int) (z15 : List ZB) (z16 : List Int) (z17 : List Ya) (z18 : List ZX) (z19 : List Zo) (z20 : Int) (c0 : Int) (c1 : Int) (c2 : Int) (c3 : Int) (c4 : Int) (c5 : Int) (c6 : Int) (c7 : Int) (c8 : Int) (c9 : Int) (c10 : Int) (c11 : Int) (c12 : Int) (c13 : Int) (c14 : List Int) (c18 : List ZX) (c19 : List Zo) (c20 : Int) :
  ∀ (m n : Nat) (i : Int) (cells : List ZB) (early : List Int) (undos : List Ya), 0 ≤ i → i ≤ more.length → (more.length : Int) ≤ i + m → m < n → Xr cells → (early.length : Int) ≤ i → (undos.length : Int) ≤ 4 * i → (∀ u ∈ undos, ByteArray.size u.1 ≤ 1000) →
   Ok (VV n t i z0 z1 z2 z3 z4 z5 z6 z7 z8 z9 z10 z11 z12 z13 z14 z15 z16 z17 z18 z19 z20 c0 c1 c2 c3 c4 c5 c6 c7 c8 c9 c10 c11 c12 c13 c14 cells early undos c18 c19 c20 more) fun r => ∃ (cells' : List ZB) (early' : List Int) (undos' : List Ya), r = (c0, c1, (c2, c3, c4, c5, ()), (c6, c7, c8, c9, ()), (c10, c11, c12, c13, ()), c14, cells', early', undos', c18, c19, c20, ()) ∧ Xr cells' ∧ early'.length ≤ 60 ∧ ZoR undos' := by
 intro m
 induction m with
 | zero =>
  intro n i cells early undos h0 h1 h2 h3 h4 h5 h6 h7;obtain ⟨n, rfl⟩ : ∃ m, n = m + 1 := ⟨n - 1, by omega⟩
  rw [VB];exact Zs (fun h => by omega) (fun _ => Zb ⟨cells, early, undos, rfl, h4, by omega, ⟨by omega, h7⟩⟩)
 | succ m ih =>
  intro n i cells early undos h0 h1 h2 h3 h4 h5 h6 h7;obtain ⟨n, rfl⟩ : ∃ m, n = m + 1 := ⟨n - 1, by omega⟩
  rw [VB, ZD (n := i + 1) (by omega) (by omega)];refine Zs (fun hi => ZE h0 (ZE hi (Z4 (by omega) fun k hk => ZE (hx k hk).1 (Z4 (by have := hx k hk; omega) fun b hb => Zd (Zqb h4 (ht.cmds b hb)) fun q hq => ZE h0 (ZE hi (Z4 (by omega) fun k2 hk2 => ZE (by simp only [List.length_singleton]; unfold lim; omega) (ZE (by have := hq.2.1; unfold lim; omega) ?_))))))) (fun _ => Zb ⟨cells, early, undos, rfl, h4, by omega, ⟨by omega, h7⟩⟩);refine ih n (i + 1) _ _ _ (by omega) (by omega) (by omega) (by omega) hq.1 (by rw [XL]; omega) (by rw [List.append_eq, List.length_append]; have := hq.2.1; omega) fun u hu => ?_;rcases List.mem_append.1 (show u ∈ undos ++ q.2.1 from hu) with hu | hu
  ·exact h7 u hu
  ·exact hq.2.2 u hu
theorem N3 {B : Nat} {V : Int} (hB : B ≤ 900000000) {t : List Zm} (ht : XE t) {p : Zj} (h : Yz B V p) (k : Int) : Ok (Uw big t p k) fun r => Yz B V r ∧ idv r = idv p := by
 rw [Fa, CD (by omega) h];simp only [Option.bind_some];refine Zd (Zut h) fun y hy => Zd (Zsl (by omega) h) fun l2 _ => Zd (ZgI ht k l2) fun more hmore => ?_;obtain ⟨hp, hid, he, hu, _⟩ := hy;refine Uk (Zvm ht hmore.1 hmore.2 _ _ _ _ _ _ _ _ _ _ _ _ _ _ _ _ _ _ _ _ _ _ _ _ _ _ _ _ _ _ _ _ _ _ _ _ _ _ _ more.length big 0 _ _ _ (by omega) (by omega) (by omega) (by have := hmore.1; unfold big; omega) hp.cells (by rw [he]; simp) (by rw [hu]; simp) (by rw [hu]; simp)) fun r hr2 => ?_;obtain ⟨cells', early', undos', e, g1, g2, g3⟩ := hr2;subst e;exact ⟨⟨hp.row, g1, g2, g3, hp.votes, hp.news, hp.view, hp.top, hp.hq⟩, hid⟩
theorem Zsm {B : Nat} {V : Int} (hB : B ≤ 800000000) {t : List Zm} (ht : XE t) {p : Zj} (h : Yz B V p) (k : Int) : Ok (XP big t p k) fun r => Yz (B + 60) V r ∧ idv r = idv p := by
 rw [Ct, CD (by omega) h];simp only [Option.bind_some];refine Zd (Zse ht k) fun y hy => Yh (fun _ => Zb ⟨h.mono (by omega), rfl⟩) fun hc => ?_;obtain ⟨h0, h1, h2, h3⟩ := hy hc;refine ZE h0.1 (Z4 (by omega) fun b _ => Zd (JK _ _) fun q1 hq1 => ZE h1.1 (Z4 (by omega) fun b2 _ => Zd (JK _ _) fun q2 hq2 => Zd (Zqa ht k) fun d _ => ?_));have hp : Yz B V (p.1, p.2.1, q1, q2, p.2.2.2.2) := ⟨h.row, h.cells, h.early, h.undos, h.votes, h.news, h.view, h.top, ⟨Int.le_trans h.hq.1 hq1.2, Int.le_trans h.hq.2 hq2.2⟩⟩
 refine Yv (fun _ => Zd (ZcW (by omega) ht hp d.1) fun r hr => Zd (Zsg h1 h2) fun _ _ => Yv (fun _ => Zd (N3 (by omega) ht hr.1 _) fun s hs => Zb ⟨hs.1, hs.2.trans hr.2⟩) (fun _ => Zb hr))
  (fun _ => Zd (Zsg h1 h2) fun _ _ => Yv (fun _ => Zd (N3 (by omega) ht hp _) fun s hs => Zb ⟨hs.1.mono (by omega), hs.2⟩) (fun _ => Zb ⟨hp.mono (by omega), rfl⟩))
def Lv (V : Int) (l : List Zo) : Prop := ∀ x ∈ l, 0 ≤ x.2.2.2.1 ∧ x.2.2.2.1 ≤ V
theorem Eh {V : Int} : Lv V [] := fun x hx => by cases hx
theorem Zmd {V : Int} {x : Zo} (h : 0 ≤ x.2.2.2.1 ∧ x.2.2.2.1 ≤ V) : Lv V [x] := fun y hy => by rw [List.mem_singleton.1 hy]; exact h
theorem Lv.up {V V' : Int} {l : List Zo} (h : Lv V l) (hv : V ≤ V') : Lv V' l := fun x hx => ⟨(h x hx).1, Int.le_trans (h x hx).2 hv⟩
theorem Lv.snoc {V : Int} {l : List Zo} {x : Zo} (h : Lv V l) (hx : 0 ≤ x.2.2.2.1 ∧ x.2.2.2.1 ≤ V) : Lv V (List.append l [x]) := fun y hy => by
 rcases List.mem_append.1 hy with hy | hy
 ·exact h y hy
 ·rw [List.mem_singleton.1 hy]; exact hx
theorem Zvn {B : Nat} {V : Int} (hB : B ≤ 1000000000) {p : Zj} (h : Yz B V p) (a b c : Int) : Ok (Mw big p a b c) fun r => Yz B V r.1 ∧ r.1.1 = p.1 ∧ r.2.1.2.1 = b := by
 rw [Pj, CD hB h];simp only [Option.bind_some, XF];exact Zb ⟨⟨h.row, h.cells, h.early, h.undos, h.votes, h.news, h.view, h.top, h.hq⟩, rfl, rfl⟩
theorem ZoU {B : Nat} {V : Int} (hB : B ≤ 1000000000) {p : Zj} (h : Yz B V p) (a b c d : Int) (hv : 0 ≤ b ∧ b ≤ V) : Ok (Ui big p a b c d) fun r => Yz B V r.2.1 ∧ r.2.1.1 = p.1 ∧ List.length r.1 ≤ 1 ∧ Lv V r.1 := by
 rw [Hp];exact Zd (Zvn hB h a b c) fun y hy => Zb ⟨hy.1, hy.2.1, Nat.le_refl _, Zmd (by show 0 ≤ y.2.1.2.1 ∧ y.2.1.2.1 ≤ V; rw [hy.2.2]; exact hv)⟩
theorem Zqd {B : Nat} {V : Int} (hB : B ≤ 1000000000) {p : Zj} (h : Yz B V p) (hV : V + 1 ≤ 900) (n : Int) : Ok (Bj big p n) fun r => Yz B (V + 1) r.1 ∧ r.1.1 = p.1 ∧ Lv (V + 1) [r.2.1] := by
 have hv := h.view;have stay : Yz B (V + 1) p ∧ p.1 = p.1 ∧ Lv (V + 1) [((0 : Int), (0 : Int), (0 : Int), (0 : Int), (0 : Int), ((0 : Int), (0 : Int), (0 : Int), (0 : Int), ()), ((0 : Int), (0 : Int), (0 : Int), (0 : Int), ()), ())] := ⟨h.up (by omega) hV, rfl, Zmd (by show (0 : Int) ≤ 0 ∧ (0 : Int) ≤ _; omega)⟩
 rw [Fp, CD hB h, ZD (n := p.2.1 + 1) (by omega) (by omega)];simp only [M5, Option.bind_some];exact Zs (fun _ => Zb stay) fun _ => Yh (fun _ => Zb stay) fun _ => Zd (QD hB (h.up (by omega) hV) _ (by omega)) fun y hy => Zd (VI _ _) fun _ _ => Zb ⟨hy.1, hy.2, Zmd ⟨by have := hy.1.view.1; show 0 ≤ y.2.1; omega, hy.1.view.2⟩⟩
theorem ZyK {B : Nat} {V : Int} (hB : B ≤ 800000000) {t : List Zm} (ht : XE t) {p : Zj} (h0 : Yz B V p) (hV : V + 1 ≤ 900) (n : Int) (l : Zo) (hl : 0 ≤ l.2.2.2.1 ∧ l.2.2.2.1 ≤ V) : Ok (My big t n p l) fun r => Yz (B + 60) (V + 1) r.2.1 ∧ r.2.1.1 = p.1 ∧ List.length r.1 ≤ 1 ∧ Lv (V + 1) r.1 := by
 have h := h0.up (V' := V + 1) (by omega) hV;rw [Ps, ZD (n := l.2.2.2.1 + 1) (by omega) (by omega)];refine Zd (QD (by omega) h _ (by omega)) fun y hy => ?_;obtain ⟨hp, hid⟩ := hy;have stay : ∀ q : Zj, Yz B (V + 1) q → q.1 = p.1 → Yz (B + 60) (V + 1) q ∧ q.1 = p.1 ∧ List.length ([] : List Zo) ≤ 1 ∧ Lv (V + 1) [] := fun q hq e => ⟨hq.mono (by omega), e, Nat.zero_le _, Eh⟩
 refine Zs (fun _ => Zd (JK _ _) fun q hq1 => ?_) fun _ => Zs (fun _ => Zd (JK _ _) fun q hq1 => ?_) fun _ => Zs (fun _ => Zd (ZcW (by omega) ht hp _) fun z hz => Zd (QD (by omega) hz.1 _ (by omega)) fun z2 hz2 => Zd (VI _ _) fun _ _ => Zb ⟨hz2.1, hz2.2.trans ((ZoS hz.2).trans hid), Nat.le_refl _, Zmd ⟨by have := hz2.1.view.1; show 0 ≤ z2.2.1; omega, hz2.1.view.2⟩⟩) fun _ => Zb (stay y hp hid)
 ·have hq : Yz B (V + 1) (y.1, y.2.1, q, y.2.2.2) := ⟨hp.row, hp.cells, hp.early, hp.undos, hp.votes, hp.news, hp.view, hp.top, ⟨Int.le_trans hp.hq.1 hq1.2, hp.hq.2⟩⟩
  exact Zd (ZtL _ _ _) fun _ _ => Yh (fun _ => Zb (stay _ hq hid)) fun _ => Zd (ZoU (by omega) hq _ _ _ _ (by omega)) fun z hz => Zb ⟨hz.1.mono (by omega), hz.2.1.trans hid, hz.2.2⟩
 ·have hq : Yz B (V + 1) (y.1, y.2.1, y.2.2.1, q, y.2.2.2.2) := ⟨hp.row, hp.cells, hp.early, hp.undos, hp.votes, hp.news, hp.view, hp.top, ⟨hp.hq.1, Int.le_trans hp.hq.2 hq1.2⟩⟩
  exact Zd (ZtL _ _ _) fun _ _ => Yh (fun _ => Zb (stay _ hq hid)) fun _ => Zd (ZoU (by omega) hq _ _ _ _ (by omega)) fun z hz => Zb ⟨hz.1.mono (by omega), hz.2.1.trans hid, hz.2.2⟩
set_option maxHeartbeats 16000000 in
theorem GB {t : List Zm} (ht : XE t) (n : Int) (l : Zo) : Ok (Vo big t n l) fun _ => True := by
 have hlo := ht.lo; have hhi := ht.hi;have hW : K6.wrap ((↑(List.length t) : Int) - 1) = (↑(List.length t) : Int) - 1 := ZD (by omega) (by omega);rw [Ft];simp only [M5, Option.bind_some, hW]
 by_cases hb : (1 : Int) ≤ l.2.2.2.2.1 ∧ l.2.2.2.2.1 ≤ (↑(List.length t) : Int) - 1
 ·have e1 : (decide ((1 : Int) ≤ l.2.2.2.2.1) && decide (l.2.2.2.2.1 ≤ (↑(List.length t) : Int) - 1)) = true := by
   rw [decide_eq_true hb.1, decide_eq_true hb.2]; rfl
  have hb0 : (0 : Int) ≤ l.2.2.2.2.1 := by omega
  have hb1 : Int.toNat l.2.2.2.2.1 < t.length := by omega
  simp only [e1, cond_true]
  repeat' with_reducible first
   | exact Zb trivial
   | refine Yv (fun _ => ?_) (fun _ => ?_)
   | refine ZE hb0 ?_
   | refine Z4 hb1 fun _ _ => ?_
   | refine Zd (Zi0 ht _ _) fun _ _ => ?_
   | refine Zd (ZcV ht _ _) fun _ _ => ?_
 ·have e1 : (decide ((1 : Int) ≤ l.2.2.2.2.1) && decide (l.2.2.2.2.1 ≤ (↑(List.length t) : Int) - 1)) = false := by
   rw [← Bool.not_eq_true];intro h;simp only [Bool.and_eq_true, decide_eq_true_eq] at h;exact hb h
  simp only [e1, cond_false]
  repeat' with_reducible first
   | exact Zb trivial
   | refine Yv (fun _ => ?_) (fun _ => ?_)
   | refine Zd (Zi0 ht _ _) fun _ _ => ?_
   | refine Zd (ZcV ht _ _) fun _ _ => ?_
theorem Zsn {B : Nat} {V : Int} (hB : B ≤ 1000000000) (b0 : Int) (b1 : Int) (b2 : Int) (b3 : Int) (b4 : Int) (b5 : Int) (b6 : Int) (b7 : Int) (b8 : Int) (b9 : Int) (b10 : Int) (b11 : Int) (b12 : Int) (b13 : Int) (b14 : List Int) (b15 : List ZB) (b16 : List Int) (b17 : List Ya) (b18 : List ZX) (b19 : List Zo) (b20 : Int) (h : Yz B V (b0, b1, (b2, b3, b4, b5, ()), (b6, b7, b8, b9, ()), (b10, b11, b12, b13, ()), b14, b15, b16, b17, b18, b19, b20, ())) (c0 c1 c2 c3 c4 c5 c6 c7 c8 c9 c10 c11 c12 : Int) :
  ∀ (m n : Nat) (i : Int), 0 ≤ i → i ≤ b19.length → (b19.length : Int) ≤ i + m → m < n →
   Ok (X8 n i b0 b1 b2 b3 b4 b5 b6 b7 b8 b9 b10 b11 b12 b13 b14 b15 b16 b17 b18 b19 b20 c0 c1 c2 c3 c4 c5 c6 c7 c8 c9 c10 c11 c12) fun r => Yz (B + 1) V r.2.1 ∧ r.2.1.1 = b0 := by
 have hn : b19.length ≤ B := h.news;have fin : ∀ n : Nat, Ok (X8 (n + 1) b19.length b0 b1 b2 b3 b4 b5 b6 b7 b8 b9 b10 b11 b12 b13 b14 b15 b16 b17 b18 b19 b20 c0 c1 c2 c3 c4 c5 c6 c7 c8 c9 c10 c11 c12) fun r => Yz (B + 1) V r.2.1 ∧ r.2.1.1 = b0 := by
  intro n;rw [Al];refine Zs (fun h => by omega) (fun _ => ?_);simp only [XF];refine ZE (by unfold lim; omega) (ZE (by simp only [List.length_singleton]; unfold lim; omega) (Zb ⟨⟨Nat.le_trans h.row (by omega), h.cells, h.early, h.undos, Nat.le_trans h.votes (by omega), ?_, h.view, h.top, h.hq⟩, rfl⟩));show (b19 ++ _).length ≤ B + 1;simp only [List.length_append, List.length_singleton]; omega
 intro m
 induction m with
 | zero =>
  intro n i h0 h1 h2 h3;obtain ⟨n, rfl⟩ : ∃ m, n = m + 1 := ⟨n - 1, by omega⟩
  obtain rfl : i = b19.length := by omega
  exact fin n
 | succ m ih =>
  intro n i h0 h1 h2 h3;obtain ⟨n, rfl⟩ : ∃ m, n = m + 1 := ⟨n - 1, by omega⟩
  rcases Int.lt_or_le i b19.length with hl | hl
  ·rw [Al, ZD (n := i + 1) (by omega) (by omega)]
   exact Zs (fun hi => ZE h0 (ZE hi (Z4 (by omega) fun y hy => Zs (fun _ => Zb ⟨h.mono (by omega), rfl⟩) (fun _ => ih n (i + 1) (by omega) (by omega) (by omega) (by omega))))) (fun h => by omega)
  ·obtain rfl : i = b19.length := by omega
   exact fin n
theorem Zvo {B : Nat} {V : Int} (hB : B ≤ 1000000000) (b0 : Int) (b1 : Int) (b2 : Int) (b3 : Int) (b4 : Int) (b5 : Int) (b6 : Int) (b7 : Int) (b8 : Int) (b9 : Int) (b10 : Int) (b11 : Int) (b12 : Int) (b13 : Int) (b14 : List Int) (b15 : List ZB) (b16 : List Int) (b17 : List Ya) (b18 : List ZX) (b19 : List Zo) (b20 : Int) (h : Yz B V (b0, b1, (b2, b3, b4, b5, ()), (b6, b7, b8, b9, ()), (b10, b11, b12, b13, ()), b14, b15, b16, b17, b18, b19, b20, ())) (c0 c1 c2 c3 c4 c5 c6 c7 c8 c9 c10 c11 c12 : Int) : Ok (X8 big 0 b0 b1 b2 b3 b4 b5 b6 b7 b8 b9 b10 b11 b12 b13 b14 b15 b16 b17 b18 b19 b20 c0 c1 c2 c3 c4 c5 c6 c7 c8 c9 c10 c11 c12) fun r => Yz (B + 1) V r.2.1 ∧ r.2.1.1 = b0 := by
 have hn : b19.length ≤ B := h.news;exact Zsn hB _ _ _ _ _ _ _ _ _ _ _ _ _ _ _ _ _ _ _ _ _ h _ _ _ _ _ _ _ _ _ _ _ _ _ b19.length big 0 (by omega) (by omega) (by omega) (by unfold big; omega)
theorem Zvp {B : Nat} {V : Int} (hB : B ≤ 1000000000) {p : Zj} (h : Yz B V p) (hV : V + 1 ≤ 900) (n : Int) (l : Zo) : Ok (Gr big p n l) fun r => Yz (B + 1) (V + 1) r.2.1 ∧ r.2.1.1 = p.1 := by
 have hv := h.view;have h1 := h.up (V' := V + 1) (by omega) hV;rw [Mz, ZD (n := p.2.1 + 1) (by omega) (by omega)];have go : ∀ y : Zj, Yz B (V + 1) y ∧ y.1 = p.1 → ∀ c0 c1 c2 c3 c4 c5 c6 c7 c8 c9 c10 c11 c12 : Int, Ok (X8 big 0 y.1 y.2.1 y.2.2.1.1 y.2.2.1.2.1 y.2.2.1.2.2.1 y.2.2.1.2.2.2.1 y.2.2.2.1.1 y.2.2.2.1.2.1 y.2.2.2.1.2.2.1 y.2.2.2.1.2.2.2.1 y.2.2.2.2.1.1 y.2.2.2.2.1.2.1 y.2.2.2.2.1.2.2.1 y.2.2.2.2.1.2.2.2.1 y.2.2.2.2.2.1 y.2.2.2.2.2.2.1 y.2.2.2.2.2.2.2.1 y.2.2.2.2.2.2.2.2.1 y.2.2.2.2.2.2.2.2.2.1 y.2.2.2.2.2.2.2.2.2.2.1 y.2.2.2.2.2.2.2.2.2.2.2.1 c0 c1 c2 c3 c4 c5 c6 c7 c8 c9 c10 c11 c12) fun r => Yz (B + 1) (V + 1) r.2.1 ∧ r.2.1.1 = p.1 := by
  intro y hy c0 c1 c2 c3 c4 c5 c6 c7 c8 c9 c10 c11 c12;rw [← hy.2];exact Zvo hB _ _ _ _ _ _ _ _ _ _ _ _ _ _ _ _ _ _ _ _ _ hy.1 _ _ _ _ _ _ _ _ _ _ _ _ _
 refine Zd (VI _ _) fun z _ => ?_;have stay : Yz (B + 1) (V + 1) p ∧ p.1 = p.1 := ⟨h1.mono (by omega), rfl⟩
 refine YS (fun _ => Zb stay) fun _ => YS (fun _ => YS (fun _ => Zb stay) fun e => ?_) fun e => ?_
 ·exact Zd (QD hB h1 _ (by omega)) fun y hy => go y hy _ _ _ _ _ _ _ _ _ _ _ _ _
 ·exact Zd (QD hB h1 _ (by omega)) fun y hy => go y hy _ _ _ _ _ _ _ _ _ _ _ _ _
theorem Zso {B : Nat} {V : Int} (b0 : Int) (b1 : Int) (b2 : Int) (b3 : Int) (b4 : Int) (b5 : Int) (b6 : Int) (b7 : Int) (b8 : Int) (b9 : Int) (b10 : Int) (b11 : Int) (b12 : Int) (b13 : Int) (b14 : List Int) (b15 : List ZB) (b16 : List Int) (b17 : List Ya) (b18 : List ZX) (b19 : List Zo) (b20 : Int) (h : Yz B V (b0, b1, (b2, b3, b4, b5, ()), (b6, b7, b8, b9, ()), (b10, b11, b12, b13, ()), b14, b15, b16, b17, b18, b19, b20, ())) (s1 : Int) (hs : s1 ≤ 7) (c0 c1 c2 c3 : Int) :
  ∀ (m n : Nat) (i : Int) (l : List Zo), 0 ≤ i → i ≤ 7 → (7 : Int) ≤ i + m → m < n → (l.length : Int) ≤ i → Lv V l →
   Ok (VX n s1 l i b0 b1 b2 b3 b4 b5 b6 b7 b8 b9 b10 b11 b12 b13 b14 b15 b16 b17 b18 b19 b20 c0 c1 c2 c3) fun r => Yz B V r.2.1 ∧ r.2.1.1 = b0 ∧ List.length r.1 ≤ 7 ∧ Lv V r.1 := by
 intro m
 induction m with
 | zero =>
  intro n i l h0 h1 h2 h3 h4 h5;obtain ⟨n, rfl⟩ : ∃ m, n = m + 1 := ⟨n - 1, by omega⟩
  rw [QX];exact Zs (fun h => by omega) (fun _ => Zb ⟨h, rfl, by show l.length ≤ 7; omega, h5⟩)
 | succ m ih =>
  intro n i l h0 h1 h2 h3 h4 h5;obtain ⟨n, rfl⟩ : ∃ m, n = m + 1 := ⟨n - 1, by omega⟩
  rw [QX, ZD (n := i + 1) (by omega) (by omega)];exact Zs (fun hi => ZE (by simp only [List.length_singleton]; unfold lim; omega) (ih n (i + 1) _ (by omega) (by omega) (by omega) (by omega) (by rw [XL]; omega) (h5.snoc ⟨by have h9 : 1 ≤ b1 := h.view.1; show 0 ≤ b1; omega, h.view.2⟩))) (fun _ => Zb ⟨h, rfl, by show l.length ≤ 7; omega, h5⟩)
theorem R7 {B : Nat} {V : Int} (hB : B ≤ 1000000000) (b0 : Int) (b1 : Int) (b2 : Int) (b3 : Int) (b4 : Int) (b5 : Int) (b6 : Int) (b7 : Int) (b8 : Int) (b9 : Int) (b10 : Int) (b11 : Int) (b12 : Int) (b13 : Int) (b14 : List Int) (b15 : List ZB) (b16 : List Int) (b17 : List Ya) (b18 : List ZX) (b19 : List Zo) (b20 : Int) (h : Yz B V (b0, b1, (b2, b3, b4, b5, ()), (b6, b7, b8, b9, ()), (b10, b11, b12, b13, ()), b14, b15, b16, b17, b18, b19, b20, ())) (s1 : Int) (hs : s1 ≤ 7) (s8 : Int) (c0 c1 c2 c3 : Int) (n : Nat) (hn : 8 < n) :
  Ok (Y5 n s1 [] s8 b0 b1 b2 b3 b4 b5 b6 b7 b8 b9 b10 b11 b12 b13 b14 b15 b16 b17 b18 b19 b20 c0 c1 c2 c3) fun r => Yz (B + 1) V r.2.1 ∧ r.2.1.1 = b0 ∧ List.length r.1 ≤ 7 ∧ Lv V r.1 := by
 obtain ⟨n, rfl⟩ : ∃ m, n = m + 1 := ⟨n - 1, by omega⟩
 rw [QF];simp only [XF];have hv : b18.length ≤ B := h.votes;have e : List.length (List.append b18 [(c0, c1, c2, c3, ())]) = b18.length + 1 := by show List.length (b18 ++ _) = _; simp only [List.length_append, List.length_singleton]
 have stay : Yz (B + 1) V (b0, b1, (b2, b3, b4, b5, ()), (b6, b7, b8, b9, ()), (b10, b11, b12, b13, ()), b14, b15, b16, b17, b18, b19, b20, ()) ∧ b0 = b0 ∧ List.length ([] : List Zo) ≤ 7 ∧ Lv V [] := ⟨h.mono (by omega), rfl, by decide, Eh⟩
 have put : ∀ q : Ch, 0 ≤ q.2.1 → Yz (B + 1) V (b0, b1, q, (b6, b7, b8, b9, ()), (b10, b11, b12, b13, ()), b14, b15, b16, b17, List.append b18 [(c0, c1, c2, c3, ())], b19, b20, ()) := fun q hq =>
  ⟨Nat.le_trans h.row (by omega), h.cells, h.early, h.undos, by show List.length (List.append b18 [(c0, c1, c2, c3, ())]) ≤ _; omega, Nat.le_trans h.news (by omega), h.view, h.top, ⟨hq, h.hq.2⟩⟩
 refine YS (fun _ => Zb stay) fun _ => Zd (VI _ _) fun _ _ => YS (fun _ => Zb stay) fun _ => Zd (Zyc _ _ (by omega)) fun _ _ => Yv (fun _ => Zb stay) fun _ => ZE (by unfold lim; omega) (ZE (by simp only [List.length_singleton]; unfold lim; omega) (Zd (ZcU _ (by omega) _ _ _) fun _ _ => Zd (ZcR _) fun _ _ => Zd (R6 _) fun _ _ => YS (fun _ => Zb ⟨put _ h.hq.1, rfl, stay.2.2⟩) fun _ => Zd (Zma _ (by omega) _ _ _ _) fun q _ => Zs (fun _ => Zd (JK _ _) fun q hq => Zb ⟨put q (Int.le_trans h.hq.1 hq.2), rfl, stay.2.2⟩) fun _ => ?_));exact Zso _ _ _ _ _ _ _ _ _ _ _ _ _ _ _ _ _ _ _ _ b20 (put (b2, b3, b4, b5, ()) h.hq.1) s1 hs _ _ _ _ 7 n 0 [] (by omega) (by omega) (by omega) (by omega) (by decide) Eh
theorem ZwV {B : Nat} {V : Int} (hB : B ≤ 1000000000) {p : Zj} (h0 : Yz B V p) (hV : V + 1 ≤ 900) (n : Int) (hn : n ≤ 7) (v : ZX) : Ok (Dp big p n v) fun r => Yz (B + 1) (V + 1) r.2.1 ∧ r.2.1.1 = p.1 ∧ List.length r.1 ≤ 7 ∧ Lv (V + 1) r.1 := by
 have hv := h0.view;have h := h0.up (V' := V + 1) (by omega) hV;rw [Ht, ZD (n := p.2.1 + 1) (by omega) (by omega)];have hb : 8 < big := by decide
 refine Zs (fun _ => Zd (VI _ _) fun _ _ => Zs (fun _ => Zs (fun e => Zd (QD hB h _ (by omega)) fun y hy => ?_) (fun _ => ?_)) (fun _ => ?_)) (fun _ => ?_)
 ·rw [← hy.2]; exact R7 hB _ _ _ _ _ _ _ _ _ _ _ _ _ _ _ _ _ _ _ _ _ hy.1 n hn _ _ _ _ _ big hb
 ·exact R7 hB _ _ _ _ _ _ _ _ _ _ _ _ _ _ _ _ _ _ _ _ _ h n hn _ _ _ _ _ big hb
 ·exact R7 hB _ _ _ _ _ _ _ _ _ _ _ _ _ _ _ _ _ _ _ _ _ h n hn _ _ _ _ _ big hb
 ·exact R7 hB _ _ _ _ _ _ _ _ _ _ _ _ _ _ _ _ _ _ _ _ _ h n hn _ _ _ _ _ big hb
theorem Zsp {B : Nat} {V : Int} (hB : B ≤ 1000000000) {p : Zj} (h : Yz B V p) (hV : V + 1 ≤ 900) (n : Int) (hn : n ≤ 7) (v : ZX) : Ok (Bm big p n v) fun r => Yz (B + 1) (V + 1) r.1 ∧ r.1.1 = p.1 ∧ List.length r.2.1 ≤ 7 ∧ Lv (V + 1) r.2.1 := by
 rw [Fv];exact Zd (ZwV hB h hV n hn v) fun y hy => Zb hy
def Zi1 (B : Nat) (V : Int) (p : Zj) (r : Zj × List Zo × Unit) : Prop := Yz B V r.1 ∧ r.1.1 = p.1 ∧ List.length r.2.1 ≤ 7 ∧ Lv V r.2.1
theorem Zsq {B : Nat} {V : Int} (hB : B ≤ 1000000000) {t : List Zm} (ht : XE t) {p : Zj} (h : Yz B V p) (hV : V + 1 ≤ 900) (n : Int) (hn : n ≤ 7) (l : Zo) : Ok (X9 big t n p l) (Zi1 (B + 1) (V + 1) p) := by
 rw [Fy, CD hB h];simp only [Option.bind_some];have stay : Zi1 (B + 1) (V + 1) p (p, [], ()) := ⟨(h.up (by omega) hV).mono (by omega), rfl, Nat.zero_le _, Eh⟩
 exact Zd (GB ht _ _) fun _ _ => Yh (fun _ => Zb stay) fun _ => YS (fun _ => Zb stay) fun _ => Zs (fun _ => Zd (Zsp hB h hV n hn _) fun y hy => Zb hy) fun _ => Zs (fun _ => Zd (Zvp hB h hV n l) fun y hy => Zb ⟨hy.1, hy.2, Nat.zero_le _, Eh⟩) fun _ => Zb stay
theorem Zyd {B : Nat} {V : Int} (hB : B ≤ 800000000) {t : List Zm} (ht : XE t) {p : Zj} (h : Yz B V p) (hV : V + 1 ≤ 900) (n : Int) (hn : n ≤ 7) (l : Zo) (hl : 0 ≤ l.2.2.2.1 ∧ l.2.2.2.1 ≤ V) : Ok (Am big t n p l) (Zi1 (B + 60) (V + 1) p) := by
 have h1 := h.up (V' := V + 1) (by omega) hV;rw [Hu, CD (by omega) h];simp only [Option.bind_some];have stay : ∀ q : Zj, Yz B (V + 1) q ∧ q.1 = p.1 → Zi1 (B + 60) (V + 1) p (q, [], ()) := fun q h => ⟨h.1.mono (by omega), h.2, Nat.zero_le _, Eh⟩
 have lead : Ok ((X9 big t n p l).bind fun y => some y) (Zi1 (B + 60) (V + 1) p) := Zd (Zsq (by omega) ht h hV n hn l) fun y hy => Zb ⟨hy.1.mono (by omega), hy.2⟩;exact Zd (GB ht _ _) fun _ _ => Yh (fun _ => Zb (stay p ⟨h1, rfl⟩)) fun _ => YS (fun _ => Zb (stay p ⟨h1, rfl⟩)) fun _ => Zs (fun _ => lead) fun _ => Zs (fun _ => lead) fun _ => Zd (VI _ _) fun _ _ => YS (fun _ => Zb (stay p ⟨h1, rfl⟩)) fun _ => Zs (fun _ => Zb (stay p ⟨h1, rfl⟩)) fun _ =>
  Zs (fun _ => Zd (ZyK hB ht h hV n l hl) fun y hy => Zb ⟨hy.1, hy.2.1, by show List.length y.1 ≤ 7; have := hy.2.2.1; omega, hy.2.2.2⟩) fun _ => Zd (QD (by omega) h1 _ (by omega)) fun y hy => Zd (ZtL _ _ _) fun _ _ => Yh (fun _ => Zb (stay y hy)) fun _ => Zd (Zuq ht _ _) fun _ _ => Yh (fun _ => Zb (stay y hy)) fun _ =>
  Zd (ZoU (by omega) hy.1 _ _ _ _ (by omega)) fun z hz => Zb ⟨hz.1.mono (by omega), hz.2.1.trans hy.2, by show List.length z.1 ≤ 7; have := hz.2.2.1; omega, hz.2.2.2⟩
theorem Zvq {B : Nat} {V : Int} (hB : B ≤ 800000000) {t : List Zm} (ht : XE t) {p : Zj} (h : Yz B V p) (hV : V + 1 ≤ 900) (n : Int) (hn : n ≤ 7) (l : Zo) (hl : 0 ≤ l.2.2.2.1 ∧ l.2.2.2.1 ≤ V) : Ok (Qm big t n p l) (Zi1 (B + 60) (V + 1) p) := by
 have h1 := h.up (V' := V + 1) (by omega) hV;rw [D8, CD (by omega) h, ZD (n := l.2.2.2.1 + 1) (by omega) (by omega)];simp only [Option.bind_some];have stay : ∀ q : Zj, Yz B V q ∧ q.1 = p.1 → Zi1 (B + 60) (V + 1) p (q, [], ()) := fun q h => ⟨(h.1.up (by omega) hV).mono (by omega), h.2, Nat.zero_le _, Eh⟩
 have high : ∀ q : Ch, 0 ≤ q.2.1 → Yz B V (p.1, p.2.1, q, p.2.2.2) := fun q hq => ⟨h.row, h.cells, h.early, h.undos, h.votes, h.news, h.view, h.top, ⟨hq, h.hq.2⟩⟩
 have learn : Ok ((XP big t p l.2.2.2.2.1).bind fun y => some (y, ([] : List Zo), ())) (Zi1 (B + 60) (V + 1) p) := Zd (Zsm hB ht h _) fun y hy => Zb ⟨hy.1.up (by omega) hV, ZoS hy.2, Nat.zero_le _, Eh⟩;exact Zd (GB ht _ _) fun _ _ => Yh (fun _ => Zb (stay p ⟨h, rfl⟩)) fun _ => YS (fun _ => Zb (stay p ⟨h, rfl⟩)) fun _ =>
  Zs (fun _ => Zd (Zsq (by omega) ht h hV n hn l) fun y hy => Zb ⟨hy.1.mono (by omega), hy.2⟩) fun _ =>
  Zs (fun _ => Zd (JK _ _) fun q hq => Zd (Zsq (by omega) ht (high q (Int.le_trans h.hq.1 hq.2)) hV n hn l) fun y hy => Zb ⟨hy.1.mono (by omega), hy.2⟩) fun _ =>
  Zs (fun _ => Zb (stay p ⟨h, rfl⟩)) fun _ => Zd (VI _ _) fun _ _ => YS (fun _ => Zb (stay p ⟨h, rfl⟩)) fun _ => Zd (ZtL _ _ _) fun _ _ =>
  Yv (fun _ => Zd (Zuq ht _ _) fun _ _ => Yv (fun _ => Zd (Zsm hB ht h _) fun y hy => YS (fun _ => Zb ⟨hy.1.up (by omega) hV, ZoS hy.2, Nat.zero_le _, Eh⟩) fun _ => Zd (VI _ _) fun _ _ => Zd (ZoU (by omega) (hy.1.up (V' := V + 1) (by omega) hV) _ _ _ _ (by omega)) fun z hz => Zd (QD (by omega) hz.1 _ (by omega)) fun w hw => Zb ⟨hw.1, hw.2.trans (hz.2.1.trans (ZoS hy.2)), by show List.length z.1 ≤ 7; have := hz.2.2.1; omega, hz.2.2.2⟩) (fun _ => learn)) (fun _ => learn)
def AB (B : Nat) (V : Int) (p : Zj) : Prop := Yz B V p ∧ 0 ≤ p.1 ∧ p.1 ≤ 1000
theorem AB.mono {B B' : Nat} {V : Int} {p : Zj} (h : AB B V p) (hb : B ≤ B') : AB B' V p := ⟨h.1.mono hb, h.2⟩
theorem AB.up {B : Nat} {V V' : Int} {p : Zj} (h : AB B V p) (hv : V ≤ V') (ht : V' ≤ 900) : AB B V' p := ⟨h.1.up hv ht, h.2⟩
theorem AB.of {B B' : Nat} {V V' : Int} {p q : Zj} (h : AB B V p) (k : Yz B' V' q) (e : q.1 = p.1) : AB B' V' q := ⟨k, by rw [e]; exact h.2⟩
structure ClI (B S : Nat) (V : Int) (x : Zi) : Prop where
 n : x.1 = 4
 tree : XE x.2.2.2.1
 peers : List.length x.2.2.2.2.1 = 4
 peer : ∀ p ∈ x.2.2.2.2.1, AB B V p
 net : List.length x.2.2.2.2.2.1 ≤ 60
 said : List.length x.2.2.2.2.2.2.1 ≤ S
 pend : List.length x.2.2.2.2.2.2.2.1 ≤ 8
 key : ∀ c ∈ x.2.2.2.2.2.2.2.1, ByteArray.size c.2.1 ≤ 1000
 lv : Lv V x.2.2.2.2.2.1
 tv : ∀ b ∈ x.2.2.2.1, b.2.1 ≤ V
theorem ClI.mono {B B' S S' : Nat} {V : Int} {x : Zi} (h : ClI B S V x) (hb : B ≤ B') (hs : S ≤ S') : ClI B' S' V x :=
 ⟨h.n, h.tree, h.peers, fun p hp => (h.peer p hp).mono hb, h.net, Nat.le_trans h.said hs, h.pend, h.key, h.lv, h.tv⟩
theorem ClI.up {B S : Nat} {V V' : Int} {x : Zi} (h : ClI B S V x) (hv : V ≤ V') (ht : V' ≤ 900) : ClI B S V' x :=
 ⟨h.n, h.tree, h.peers, fun p hp => (h.peer p hp).up hv ht, h.net, h.said, h.pend, h.key, h.lv.up hv, fun b hb => Int.le_trans (h.tv b hb) hv⟩
theorem We {α : Type} {P : α → Prop} {y : α} (hy : P y) : ∀ {l : List α} {i : Nat}, (∀ x ∈ l, P x) → ∀ x ∈ upd l i y, P x
 | [], _, h, x, hx => h x hx
 | a :: l, 0, h, x, hx => by
  rcases List.mem_cons.1 hx with rfl | hx
  ·exact hy
  ·exact h x (List.mem_cons_of_mem _ hx)
 | a :: l, i + 1, h, x, hx => by
  rcases List.mem_cons.1 hx with rfl | hx
  ·exact h _ List.mem_cons_self
  ·exact We hy (fun z hz => h z (List.mem_cons_of_mem _ hz)) x hx
theorem Lv.app {V : Int} {a b : List Zo} (h : Lv V a) (k : Lv V b) : Lv V (List.append a b) := fun y hy => by
 rcases List.mem_append.1 hy with hy | hy
 ·exact h y hy
 ·exact k y hy
theorem Lv.sub {V : Int} {l : List Zo} (h : Lv V l) (a b : Nat) : Lv V (List.take a (List.drop b l)) := fun y hy => h y (List.mem_of_mem_drop (List.mem_of_mem_take hy))
theorem Zvr {B S : Nat} {V : Int} {x : Zi} (h : ClI B S V x) (k : Int) : Ok (Cu big x k) fun r => ClI B S V r.2.1 ∧ (r.1.2.1 = true → 0 ≤ r.1.1.2.2.2.1 ∧ r.1.1.2.2.2.1 ≤ V) := by
 obtain ⟨n, ch, li, tr, ps, ne, sa, pe, ⟨⟩⟩ := x;have hn : List.length ne ≤ 60 := h.net;rw [ME];dsimp only;have hW : K6.wrap ((↑(List.length ne) : Int) - 1) = (↑(List.length ne) : Int) - 1 := ZD (by omega) (by omega);simp only [M5, Option.bind_some, hW]
 by_cases hk : 0 ≤ k ∧ k ≤ (↑(List.length ne) : Int) - 1
 ·have e : (decide (0 ≤ k) && decide (k ≤ (↑(List.length ne) : Int) - 1)) = true := by simp only [hk.1, hk.2, decide_true, Bool.and_self]
  have w : K6.wrap (k + 1) = k + 1 := ZD (by omega) (by omega);have g4 : 0 + (List.take (k.toNat - 0) (List.drop 0 ne)).length ≤ lim := by simp only [List.length_take, List.length_drop]; unfold lim; omega
  have g7 : (List.take (k.toNat - 0) (List.drop 0 ne)).length + (List.take (List.length ne - (k + 1).toNat) (List.drop (k + 1).toNat ne)).length ≤ lim := by simp only [List.length_take, List.length_drop]; unfold lim; omega
  have g7' : (List.append (List.take (k.toNat - 0) (List.drop 0 ne)) (List.take (List.length ne - (k + 1).toNat) (List.drop (k + 1).toNat ne))).length ≤ 60 := by
   show List.length (_ ++ _ : List Zo) ≤ 60;simp only [List.length_append, List.length_take, List.length_drop]; omega
  simp only [e, Bool.not_true, cond_false, w, if_pos hk.1, if_pos (show k < (↑(List.length ne) : Int) by omega), if_pos (show k ≤ (↑(List.length ne) : Int) by omega), if_pos (show 0 ≤ k + 1 by omega), if_pos (show k + 1 ≤ (↑(List.length ne) : Int) by omega), if_pos g4, if_pos g7, XF];refine Z4 (by omega) fun y hy => Zb ⟨⟨h.n, h.tree, h.peers, h.peer, g7', h.said, h.pend, h.key, fun x hx => ?_, h.tv⟩, fun _ => h.lv y hy⟩;rcases List.mem_append.1 hx with hx | hx
  ·exact h.lv x (List.mem_of_mem_drop (List.mem_of_mem_take hx))
  ·exact h.lv x (List.mem_of_mem_drop (List.mem_of_mem_take hx))
 ·have e : (decide (0 ≤ k) && decide (k ≤ (↑(List.length ne) : Int) - 1)) = false := by
   rw [← Bool.not_eq_true];intro h;simp only [Bool.and_eq_true, decide_eq_true_eq] at h;exact hk h
  simp only [e, Bool.not_false, cond_true];exact Zb ⟨h, fun h => by cases h⟩
theorem Zme {B S : Nat} {V : Int} {x : Zi} (h : ClI B S V x) (l : List Zo) (hl : l.length ≤ 1000000) (hv : Lv V l) : Ok (WK big x l) fun r => ClI B S V r.2.1 := by
 have hn := h.net;rw [Hv, ZD (by omega) (by omega)];refine Zs (fun _ => Zb h) fun hc => ZE (by unfold lim; omega) (ZE (by unfold lim; omega) (Zb ⟨h.n, h.tree, h.peers, h.peer, ?_, h.said, h.pend, h.key, h.lv.app hv, h.tv⟩));show (List.append x.2.2.2.2.2.1 l).length ≤ 60;show List.length (_ ++ _ : List Zo) ≤ 60;rw [List.length_append]; omega
theorem ZwW {B S : Nat} {V : Int} (hS : S ≤ 1000000000) {x : Zi} (h : ClI B S V x) (v : ZX) : Ok (Dr big x v) fun r => ClI B (S + 1) V r.2.1 := by
 obtain ⟨n, ch, li, tr, ps, ne, sa, pe, ⟨⟩⟩ := x;obtain ⟨v0, v1, v2, v3, ⟨⟩⟩ := v;have hn : List.length sa ≤ S := h.said;rw [Hw];dsimp only;refine up0 (L := List.length sa) (by omega) (f := fun m i => Qn m i n ch li tr ps ne sa pe v0 v1 v2 v3) (fun m i h0 h1 nx => ?_) (fun m => ?_)
 ·rw [KO, ZD (n := i + 1) (by omega) (by omega)]
  exact Zs (fun hi => ZE h0 (ZE hi (Z4 (by omega) fun y hy => Yv (fun _ => Zb (h.mono (Nat.le_refl _) (by omega))) fun _ => nx _ rfl))) (fun h => by omega)
 ·rw [KO]
  refine Zs (fun h => by omega) fun _ => ?_;simp only [XF];refine ZE (by unfold lim; omega) (ZE (by simp only [List.length_singleton]; unfold lim; omega) (Zb ⟨h.n, h.tree, h.peers, h.peer, h.net, ?_, h.pend, h.key, h.lv, h.tv⟩));show (List.append sa [(v0, v1, v2, v3, ())]).length ≤ S + 1;rw [XL]; omega
theorem Zqe {B S : Nat} {V : Int} (hS : S ≤ 900000000) (l : List Zo) (hl : l.length ≤ 7) (hv : Lv V l) : ∀ (m n : Nat) (i : Nat) (c : Zi), i ≤ l.length → l.length ≤ i + m → m < n → ClI B (S + i) V c →
  Ok (Yj n (i : Int) c.1 c.2.1 c.2.2.1 c.2.2.2.1 c.2.2.2.2.1 c.2.2.2.2.2.1 c.2.2.2.2.2.2.1 c.2.2.2.2.2.2.2.1 l) fun r => ClI B (S + 7) V r.2.1 := by
 intro m
 induction m with
 | zero =>
  intro n i c h1 h2 h3 h;obtain ⟨n, rfl⟩ : ∃ m, n = m + 1 := ⟨n - 1, by omega⟩
  rw [Qp];exact Zs (fun h => by omega) fun _ => Zb (h.mono (Nat.le_refl _) (by omega))
 | succ m ih =>
  intro n i c h1 h2 h3 h;obtain ⟨n, rfl⟩ : ∃ m, n = m + 1 := ⟨n - 1, by omega⟩
  rw [Qp, ZD (n := (i : Int) + 1) (by omega) (by omega)];refine Zs (fun hi => ?_) fun _ => Zb (h.mono (Nat.le_refl _) (by omega));have h0 : (0 : Int) ≤ (i : Int) := by omega
  have e1 : ((i : Int) + 1) = ((i + 1 : Nat) : Int) := by omega
  have ht : (List.take (((i : Int) + 1).toNat - (i : Int).toNat) (List.drop (i : Int).toNat l)).length ≤ 1000000 := by simp only [List.length_take, List.length_drop]; omega
  have go : ∀ c' : Zi, ClI B (S + (i + 1)) V c' → Ok (Yj n ((i : Int) + 1) c'.1 c'.2.1 c'.2.2.1 c'.2.2.2.1 c'.2.2.2.2.1 c'.2.2.2.2.2.1 c'.2.2.2.2.2.2.1 c'.2.2.2.2.2.2.2.1 l) fun r => ClI B (S + 7) V r.2.1 := fun c' hc => by
   rw [e1];exact ih n (i + 1) c' (by omega) (by omega) (by omega) hc
  refine ZE h0 (ZE hi (Z4 (by omega) fun y _ => Zs (fun _ => ZE h0 (ZE hi (Z4 (by omega) fun y _ => Zd (ZwW (by omega) h _) fun z hz => ?_))) fun _ => ?_))
  ·have hz' : ClI B (S + (i + 1)) V z.2.1 := hz.mono (Nat.le_refl _) (by omega)
   exact Zs (fun _ => ZE (by omega) (ZE (by omega) (ZE h0 (ZE (by omega) (Zd (Zme hz' _ ht (hv.sub _ _)) fun w hw => go _ hw))))) fun _ => go _ hz'
  ·have h' : ClI B (S + (i + 1)) V c := h.mono (Nat.le_refl _) (by omega)
   exact Zs (fun _ => ZE (by omega) (ZE (by omega) (ZE h0 (ZE (by omega) (Zd (Zme h' _ ht (hv.sub _ _)) fun w hw => go _ hw))))) fun _ => go _ h'
theorem Zvs {B S : Nat} {V : Int} (hB : B ≤ 800000000) (hS : S ≤ 900000000) (hV : V + 1 ≤ 900) {x : Zi} (h : ClI B S V x) (k : Int) : Ok (Bo big x k) fun r => ClI (B + 60) (S + 7) (V + 1) r.2.1 := by
 rw [Fz];refine Zd (Zvr h k) fun y hyl => ?_;obtain ⟨hy, hlv⟩ := hyl;obtain ⟨⟨l, b, ⟨⟩⟩, y, ⟨⟩⟩ := y;obtain ⟨n, ch, li, tr, ps, ne, sa, pe, ⟨⟩⟩ := y;have hn : n = 4 := hy.n;have hp : List.length ps = 4 := hy.peers;have hq := hy.peer;have ht := hy.tree;have stay := (hy.up (V' := V + 1) (by omega) hV).mono (B' := B + 60) (S' := S + 7) (by omega) (by omega);dsimp only at hy hq ht stay hlv ⊢;refine Yh (fun _ => Zb stay) fun hb0 => Zd (M6 _ _ (by show List.length ps ≤ 1000; omega)) fun b hb => Yh (fun _ => Zb stay) fun hb1 => ?_;have hi := hb hb1;have hl2 := hlv hb0;dsimp only at hi;have hu : ∀ y, (upd ps (Int.toNat l.2.2.1) y).length = List.length ps := fun y => ZY _ _ _;have fin : ∀ z z3 : Zj, AB B V z → AB (B + 60) (V + 1) z3 → ∀ l' : List Zo, l'.length ≤ 7 → Lv (V + 1) l' →
   Ok (Yj big 0 n ch li tr (upd (upd ps (Int.toNat l.2.2.1) z) (Int.toNat l.2.2.1) z3) ne sa pe l') fun r => ClI (B + 60) (S + 7) (V + 1) r.2.1 := fun z z3 hz hz3 l' hl' hlv' => by
  have hc : ClI (B + 60) (S + 0) (V + 1) (n, ch, li, tr, upd (upd ps (Int.toNat l.2.2.1) z) (Int.toNat l.2.2.1) z3, ne, sa, pe, ()) :=
   ⟨hn, ht, by show (upd (upd ps _ z) _ z3).length = 4; rw [ZY, ZY]; exact hp, We hz3 (We ((hz.up (by omega) hV).mono (by omega)) fun p hp => ((hq p hp).up (by omega) hV).mono (by omega)), hy.net, hy.said, hy.pend, hy.key, hy.lv.up (by omega), fun b hb => by have := hy.tv b hb; omega⟩
  have := Zqe hS l' hl' hlv' 7 big 0 _ (by omega) (by omega) (by unfold big; omega) hc;exact this
 have mid : ∀ (z : Zj) (f : Zj → Option (Zj × List Zo × Unit)), AB B V z → (∀ z, Yz B V z → Ok (f z) (Zi1 (B + 60) (V + 1) z)) → Ok ((f z).bind fun y_3 => (BU ps (Int.toNat l.2.2.1) z).bind fun y_4 => if (0 : Int) ≤ l.2.2.1 then if l.2.2.1 < (↑(List.length y_4) : Int) then (nth y_4 (Int.toNat l.2.2.1)).bind fun y_5 => (BU y_4 (Int.toNat l.2.2.1) y_3.1).bind fun y_6 => Yj big (0 : Int) n ch li tr y_6 ne sa pe y_3.2.1 else none else none) fun r => ClI (B + 60) (S + 7) (V + 1) r.2.1 := fun z f hz hf => by
  refine Zd (hf z hz.1) fun y3 hy3 => HK (by omega) ?_;exact ZE hi.1 (ZE (by rw [hu]; exact hi.2) (Z4 (by rw [hu]; omega) fun _ _ => HK (by rw [hu]; omega) (fin _ _ hz (hz.of hy3.1 hy3.2.1) _ hy3.2.2.1 hy3.2.2.2)))
 refine Yv (fun _ => ZE hi.1 (ZE hi.2 (Z4 (by omega) fun y hy1 => ?_))) (fun _ => ZE hi.1 (ZE hi.2 (Z4 (by omega) fun y hy1 => ?_)))
 ·exact mid y (fun p => Qm big tr n p l) (hq y hy1) fun z hz => Zvq hB ht hz hV n (by omega) l hl2
 ·exact mid y (fun p => Am big tr n p l) (hq y hy1) fun z hz => Zyd hB ht hz hV n (by omega) l hl2
theorem ZwX {B S : Nat} {V : Int} (hB : B ≤ 800000000) (hV : V + 1 ≤ 900) {x : Zi} (h0 : ClI B S V x) (k : Int) : Ok (Ds big x k) fun r => ClI B S (V + 1) r.2.1 := by
 have h := h0.up (V' := V + 1) (by omega) hV;rw [Hx];have hp : List.length x.2.2.2.2.1 = 4 := h.peers;refine Zd (M6 _ _ (by omega)) fun b hb => Yh (fun _ => Zb h) fun hb1 => ?_;have hi := hb hb1;have hu : ∀ y, (upd x.2.2.2.2.1 k.toNat y).length = List.length x.2.2.2.2.1 := fun y => ZY _ _ _;refine ZE hi.1 (ZE hi.2 (Z4 (by omega) fun y hy => Zd (Zqd (by omega) (h0.peer y hy).1 hV _) fun z hz => HK (by omega) ?_));simp only [XF];have one : ∀ z, AB B (V + 1) z → ClI B S (V + 1) (x.1, x.2.1, x.2.2.1, x.2.2.2.1, upd x.2.2.2.2.1 k.toNat z, x.2.2.2.2.2) := fun z hz =>
  ⟨h.n, h.tree, by show (upd _ _ _).length = 4; rw [hu]; exact hp, We hz h.peer, h.net, h.said, h.pend, h.key, h.lv, h.tv⟩
 have two : ∀ z, AB B (V + 1) z → ClI B S (V + 1) (x.1, x.2.1, x.2.2.1, x.2.2.2.1, upd (upd x.2.2.2.2.1 k.toNat y) k.toNat z, x.2.2.2.2.2) := fun z hz =>
  ⟨h.n, h.tree, by show (upd (upd _ _ _) _ _).length = 4; rw [ZY, hu]; exact hp, We hz (We (h.peer y hy) h.peer), h.net, h.said, h.pend, h.key, h.lv, h.tv⟩
 exact Yh (fun _ => Zb (one y (h.peer y hy))) fun _ => ZE hi.1 (ZE (by rw [hu]; exact hi.2) (Z4 (by rw [hu]; omega) fun _ _ => HK (by rw [hu]; omega) (Zd (Zme (two z.1 ((h0.peer y hy).of hz.1 hz.2.1)) _ (by simp only [List.length_singleton]; omega) hz.2.2) fun w hw => Zb hw)))
theorem Zvt {B S : Nat} {V : Int} {x : Zi} (h : ClI B S V x) (k : Int) : Ok (Bp big x k) fun r => ClI B S V r.2.1 := by
 obtain ⟨n, ch, li, tr, ps, ne, sa, pe, ⟨⟩⟩ := x;have hn : List.length ne ≤ 60 := h.net;show Ok (KB big _) _;unfold KB twF twL;dsimp only;have hW : K6.wrap ((↑(List.length ne) : Int) - 1) = (↑(List.length ne) : Int) - 1 := ZD (by omega) (by omega);simp only [M5, Option.bind_some, hW]
 by_cases hk : 0 ≤ k ∧ k ≤ (↑(List.length ne) : Int) - 1
 ·have e : (decide (0 ≤ k) && decide (k ≤ (↑(List.length ne) : Int) - 1)) = true := by simp only [hk.1, hk.2, decide_true, Bool.and_self]
  have w : K6.wrap (k + 1) = k + 1 := ZD (by omega) (by omega);have hl : (List.take ((k + 1).toNat - k.toNat) (List.drop k.toNat ne)).length ≤ 60 := by simp only [List.length_take, List.length_drop]; omega
  simp only [e, Bool.not_true, cond_false, w];refine Zd (Q := fun r => List.length (r.2.getD ne) ≤ 60 ∧ Lv V (r.2.getD ne)) ?_ fun r hr => Zb ⟨h.n, h.tree, h.peers, h.peer, hr.1, h.said, h.pend, h.key, hr.2, h.tv⟩;rw [ZD (n := (↑(List.length ne) : Int) + (↑(List.length (List.take ((k + 1).toNat - k.toNat) (List.drop k.toNat ne))) : Int)) (by omega) (by omega)];refine ZE (by omega) (ZE (by omega) (ZE hk.1 (ZE (by omega) (Zs (fun _ => Zb ⟨hn, h.lv⟩) fun hc => ZE (by unfold lim; omega) (ZE (by unfold lim; omega) (Zb ⟨?_, h.lv.app (h.lv.sub _ _)⟩))))));show (List.append ne _).length ≤ 60;show List.length (_ ++ _ : List Zo) ≤ 60;rw [List.length_append]; omega
 ·have e : (decide (0 ≤ k) && decide (k ≤ (↑(List.length ne) : Int) - 1)) = false := by
   rw [← Bool.not_eq_true];intro h;simp only [Bool.and_eq_true, decide_eq_true_eq] at h;exact hk h
  simp only [e, Bool.not_false, cond_true, Option.bind_some];exact Zb h
def bL (l : List UInt8) : ByteArray := ByteArray.mk l.toArray
theorem M8 (l r : List UInt8) : bL (l ++ r) = bL l ++ bL r := by
 apply ByteArray.ext;simp [bL]
theorem FV (l : List UInt8) : (bL l).size = l.length := by simp [bL, ByteArray.size]
theorem Zi2 (s : ByteArray) : s.data.toList.length = s.size := by rw [Array.length_toList]; rfl
theorem ZwY (s : ByteArray) (b i : Nat) : s.extract b i = bL ((s.data.toList.drop b).take (i - b)) := by
 apply ByteArray.ext;apply Array.toList_inj.1;simp [bL, ByteArray.data_extract, List.extract_eq_take_drop]
theorem Zvu (s : ByteArray) : bL s.data.toList = s := by
 apply ByteArray.ext;simp [bL]
def enc (n : Nat) : List UInt8 := if n ≤ 127 then [UInt8.ofNat n] else UInt8.ofNat (n % 128 + 128) :: enc (n / 128)
termination_by n
decreasing_by omega
theorem FW {n : Nat} (h : n ≤ 127) : enc n = [UInt8.ofNat n] := by rw [enc, if_pos h]
theorem M9 {n : Nat} (h : ¬ n ≤ 127) : enc n = UInt8.ofNat (n % 128 + 128) :: enc (n / 128) := by rw [enc, if_neg h]
theorem ZnH : ∀ (k n : Nat), n < 128 ^ (k + 1) → (enc n).length ≤ k + 1
 | 0, n, h => by rw [FW (by omega)]; exact Nat.le_refl _
 | k + 1, n, h => by
  by_cases h1 : n ≤ 127
  ·rw [FW h1]; show 1 ≤ _; omega
  ·rw [M9 h1, List.length_cons]
   have := ZnH k (n / 128) (by rw [Nat.pow_succ] at h; omega);omega
theorem Zi3 (n : Nat) : 1 ≤ (enc n).length := by
 by_cases h1 : n ≤ 127
 ·rw [FW h1]; exact Nat.le_refl _
 ·rw [M9 h1, List.length_cons]; omega
abbrev fB (n : Int) : UInt8 := UInt8.ofNat n.toNat
theorem w8 {m : Nat} (h : m < 256) : IntKind.u8.wrap (m : Int) = (m : Int) := by rw [IntKind.wrap_u8]; omega
theorem ZwZ (l : List Int) (x : Int) : ByteArray.mk (List.map (fun n => UInt8.ofNat n.toNat) (List.append l [x])).toArray = bL (l.map fB ++ [fB x]) := by
 show bL (List.map fB (l ++ [x])) = _;rw [List.map_append]; rfl
theorem Zi4 : ∀ (k n m : Nat) (l : List Int), m < 128 ^ (k + 1) → m < 9223372036854775808 → k < n → l.length + k ≤ 1000 → Br n (m : Int) l = some (bL (l.map fB ++ enc m))
 | k, 0, m, l, _, _, h, _ => by omega
 | k, n + 1, m, l, h1, h2, h3, h4 => by
  rw [Ao]
  by_cases h0 : m ≤ 127
  ·rw [decide_eq_false (by omega), cond_false, if_pos (by simp only [List.length_singleton]; unfold lim; omega), ZwZ, FW h0, w8 (by omega)]
   rfl
  ·have e1 : ((m : Int)).tmod 128 = ((m % 128 : Nat) : Int) := (Int.ofNat_tmod m 128).symm
   have e2 : ((m : Int)).tdiv 128 = ((m / 128 : Nat) : Int) := (Int.ofNat_tdiv m 128).symm;rw [decide_eq_true (by omega), cond_true, if_pos (by simp only [List.length_singleton]; unfold lim; omega), e1, e2, ZD (n := ((m / 128 : Nat) : Int)) (by omega) (by omega), ZD (n := ((m % 128 : Nat) : Int) + 128) (by omega) (by omega)];cases k with
   | zero => omega
   | succ k =>
    have e3 : IntKind.u8.wrap (((m % 128 : Nat) : Int) + 128) = ((m % 128 + 128 : Nat) : Int) := by
     have : ((m % 128 : Nat) : Int) + 128 = ((m % 128 + 128 : Nat) : Int) := by omega
     rw [this, w8 (by omega)]
    rw [Zi4 k n (m / 128) _ (by rw [Nat.pow_succ] at h1; omega) (by omega) (by omega) (by show (l ++ _).length + k ≤ 1000; rw [List.length_append, List.length_singleton]; omega), e3, M9 h0];show some (bL (List.map fB (l ++ _) ++ _)) = _;rw [List.map_append, List.append_assoc];rfl
theorem ZtO (n : Int) : Ok (Cv big n) fun t => 1 ≤ t.size ∧ t.size ≤ 12 ∧ (0 ≤ n → n < 9223372036854775808 → t = bL (enc n.toNat)) := by
 rw [Ziw]
 by_cases hn : 0 ≤ n ∧ n < 9223372036854775808
 ·obtain ⟨m, rfl⟩ : ∃ m : Nat, n = m := ⟨n.toNat, by omega⟩
  rw [Zi4 8 big m [] (by omega) (by omega) (by unfold big; omega) (by decide)];refine Zb ⟨?_, ?_, fun _ _ => by rw [Int.toNat_natCast]; rfl⟩
  ·rw [FV, List.map_nil, List.nil_append]; exact Zi3 m
  ·rw [FV, List.map_nil, List.nil_append]
   have := ZnH 8 m (by omega);omega
 ·obtain ⟨b, hb⟩ : ∃ b, big = b + 1 := ⟨big - 1, by decide⟩
  obtain ⟨c, hc⟩ : ∃ c, b = c + 1 := ⟨big - 2, by rw [show big = big - 2 + 2 by decide] at hb; omega⟩
  have h10 : 10 < big := by decide
  have hc8 : 8 < c + 1 := by omega
  rw [hb, Ao];refine Zs (fun h1 => ZE (by simp only [List.length_nil, List.length_singleton]; unfold lim; omega) ?_) fun h1 => ZE (by simp only [List.length_nil, List.length_singleton]; unfold lim; omega) (Zb ⟨?_, ?_, fun h2 h3 => absurd ⟨h2, h3⟩ hn⟩)
  ·generalize IntKind.u8.wrap (K6.wrap (n.tmod 128 + 128)) = x
   have hw := IntKind.wrap_i64 (n.tdiv 128);have hr : -9223372036854775808 ≤ K6.wrap (n.tdiv 128) ∧ K6.wrap (n.tdiv 128) < 9223372036854775808 := by
    rw [hw]; omega
   revert hr;generalize K6.wrap (n.tdiv 128) = w;intro hr
   by_cases hw0 : 0 ≤ w
   ·obtain ⟨m, rfl⟩ : ∃ m : Nat, w = m := ⟨w.toNat, by omega⟩
    rw [hc, Zi4 8 (c + 1) m _ (by omega) (by omega) hc8 (by simp only [List.append_eq, List.nil_append, List.length_singleton]; omega)];have := ZnH 8 m (by omega);have := Zi3 m;have e : (List.map fB (List.append [] [x])).length = 1 := by rw [List.length_map]; rfl
    exact Zb ⟨by rw [FV, List.length_append, e]; omega, by rw [FV, List.length_append, e]; omega, fun h2 h3 => absurd ⟨h2, h3⟩ hn⟩
   ·rw [hc, Ao]
    refine Zs (fun h => by omega) fun _ => ZE (by simp only [List.append_eq, List.nil_append, List.length_singleton]; unfold lim; omega) (Zb ⟨?_, ?_, fun h2 h3 => absurd ⟨h2, h3⟩ hn⟩)
    ·rw [ZwZ, FV]; simp only [List.append_eq, List.nil_append, List.map_cons, List.map_nil, List.length_append, List.length_singleton]; omega
    ·rw [ZwZ, FV]; simp only [List.append_eq, List.nil_append, List.map_cons, List.map_nil, List.length_append, List.length_singleton]; omega
  ·rw [ZwZ, FV]; simp only [List.map_nil, List.nil_append, List.length_singleton]; omega
  ·rw [ZwZ, FV]; simp only [List.map_nil, List.nil_append, List.length_singleton]; omega
theorem RU (n : Int) : Ok (XB big n) fun t => 1 ≤ t.size ∧ t.size ≤ 12 ∧ (0 ≤ n → n < 9223372036854775808 → t = bL (enc n.toNat)) := by
 rw [MG];exact Zs (fun h => Zb ⟨by decide, by decide, fun h1 => by omega⟩) fun _ => Zd (ZtO n) fun t ht => Zb ht
theorem ZoV (q : Ch) : Ok (Cw big q) fun t => t.size ≤ 48 := by
 rw [MH];exact Zd (RU _) fun a ha => Zd (RU _) fun b hb => ZE (by unfold lim; omega) (Zd (RU _) fun c hc => ZE (by simp only [ByteArray.size_append]; unfold lim; omega) (Zd (RU _) fun d hd => ZE (by simp only [ByteArray.size_append]; unfold lim; omega) (Zb (by simp only [ByteArray.size_append]; omega))))
theorem Zqf (q : ZX) : Ok (Bs big q) fun t => t.size ≤ 48 := by
 rw [FA];exact Zd (RU _) fun a ha => Zd (RU _) fun b hb => ZE (by unfold lim; omega) (Zd (RU _) fun c hc => ZE (by simp only [ByteArray.size_append]; unfold lim; omega) (Zd (RU _) fun d hd => ZE (by simp only [ByteArray.size_append]; unfold lim; omega) (Zb (by simp only [ByteArray.size_append]; omega))))
theorem Zsr (s : ByteArray) (i : Int) {P : Int → Prop} : ∀ (m n : Nat) (k a : Int), 0 ≤ k → k ≤ 8 → (8 : Int) ≤ k + m → m < n → (∀ n' a', n ≤ n' + m + 1 → Ok (Qq n' a' s (K6.wrap (i + 1))) P) → Ok (Qr n a s i k) P
 | m, 0, k, a, _, _, _, h, _ => by omega
 | 0, n + 1, k, a, h0, h1, h2, h3, go => by
  rw [Ea];exact Zs (fun h => by omega) fun _ => go n _ (by omega)
 | m + 1, n + 1, k, a, h0, h1, h2, h3, go => by
  rw [Ea, ZD (n := k + 1) (by omega) (by omega)];refine Zs (fun h => ?_) fun _ => go n _ (by omega);exact Zs (fun _ => Zsr s i m n (k + 1) _ (by omega) (by omega) (by omega) (by omega) fun n' a' h => go n' a' (by omega)) (fun _ => Zsr s i m n (k + 1) _ (by omega) (by omega) (by omega) (by omega) fun n' a' h => go n' a' (by omega))
theorem ZoW (s : ByteArray) (hs : s.size ≤ 1000000) : ∀ (m n : Nat) (i a : Int), 0 ≤ i → i ≤ s.size → (s.size : Int) ≤ i + m → m * 10 < n → Ok (Qq n a s i) fun _ => True
 | m, 0, i, a, _, _, _, h => by omega
 | 0, n + 1, i, a, h0, h1, h2, h3 => by
  rw [D9];exact Zs (fun h => by omega) fun _ => Zb trivial
 | m + 1, n + 1, i, a, h0, h1, h2, h3 => by
  have hl := Zi2 s;rw [D9];refine Zs (fun h => ZE h0 (Z4 (by omega) fun y _ => ?_)) fun _ => Zb trivial;refine Zsr s i 8 n 0 _ (by omega) (by omega) (by omega) (by omega) fun n' a' hn => ?_;rw [ZD (n := i + 1) (by omega) (by omega)];exact ZoW s hs m n' (i + 1) a' (by omega) (by omega) (by omega) (by omega)
theorem Zss (s : ByteArray) (hs : s.size ≤ 1000000) : Ok (MI big s) fun _ => True := by
 rw [Zlx, ZeB];exact Zd (ZoW s hs s.size big 0 _ (by omega) (by omega) (by omega) (by unfold big; omega)) fun _ _ => Zb trivial
theorem Zst (s f : ByteArray) : (s ++ f).extract 0 s.size = s := by
 rw [ZwY, List.drop_zero, Nat.sub_zero, ByteArray.data_append, Array.toList_append, List.take_left' (Zi2 s), Zvu]
theorem Zi5 (s : ByteArray) : Ok (NT big s) fun r => r.1.size ≤ 20004 ∧ (4 ≤ r.1.size → r.1.extract 0 (r.1.size - 4) = s) := by
 rw [ZiF];refine Zs (fun _ => Zb ⟨by decide, fun h => absurd h (by decide)⟩) fun hs => Zd (Zss s (by omega)) fun y _ => ?_;generalize hf : ByteArray.mk (List.map (fun n => UInt8.ofNat n.toNat) [IntKind.u8.wrap (Int.fdiv y ((2 : Int) ^ min (Int.toNat (24 : Int)) IntKind.u32.bits)), IntKind.u8.wrap (Int.fdiv y ((2 : Int) ^ min (Int.toNat (16 : Int)) IntKind.u32.bits)), IntKind.u8.wrap (Int.fdiv y ((2 : Int) ^ min (Int.toNat (8 : Int)) IntKind.u32.bits)), IntKind.u8.wrap y]).toArray = f;have h4 : f.size = 4 := by rw [← hf]; rfl
 refine ZE (by unfold lim; omega) (Zb ⟨by simp only [ByteArray.size_append]; omega, fun _ => ?_⟩);show (s ++ f).extract 0 ((s ++ f).size - 4) = s;rw [ByteArray.size_append, h4, Nat.add_sub_cancel];exact Zst s f
theorem ZgK (s : ByteArray) (hs : s.size ≤ 1000000) : Ok (FC big s) fun r => r.1.size ≤ 20000 ∧ (r.2.1 = true → 4 ≤ s.size ∧ r.1 = s.extract 0 (s.size - 4)) := by
 rw [ZbR, ZD (n := (s.size : Int) - 4) (by omega) (by omega)];have no : (ByteArray.mk #[]).size ≤ 20000 ∧ (false = true → 4 ≤ s.size ∧ ByteArray.mk #[] = s.extract 0 (s.size - 4)) := ⟨by decide, fun h => by cases h⟩
 refine Zs (fun _ => Zb no) fun h1 => Zs (fun _ => Zb no) fun h2 => ZE (by omega) (ZE (by omega) (ZE (by omega) (ZE (by omega) ?_)));have e : ((s.size : Int) - 4).toNat = s.size - 4 := by omega
 rw [e];refine Zd (Zss _ (by rw [ByteArray.size_extract]; omega)) fun y _ => YS (fun _ => Zb no) fun _ => ZE (by omega) (ZE (by omega) (Zb ⟨?_, fun _ => ⟨by omega, rfl⟩⟩));show (s.extract 0 (s.size - 4)).size ≤ 20000;rw [ByteArray.size_extract]; omega
theorem Zsu (b0 : Int) (b1 : Int) (b2 : Int) (b3 : Int) (b4 : Int) (b5 : Int) (b6 : Int) (b7 : Int) (b8 : Int) (b9 : Int) (b10 : Int) (b11 : Int) (b12 : Int) (b13 : Int) (b14 : List Int) (b15 : List ZB) (b16 : List Int) (b17 : List Ya) (b18 : List ZX) (b19 : List Zo) (b20 : Int) (hr : b14.length ≤ 100000000) : ∀ (m n : Nat) (i : Int) (s : ByteArray), 0 ≤ i → i ≤ b14.length → (b14.length : Int) ≤ i + m → m < n → s.size ≤ 1000 + 12 * i.toNat →
  Ok (VY n s i b0 b1 b2 b3 b4 b5 b6 b7 b8 b9 b10 b11 b12 b13 b14 b15 b16 b17 b18 b19 b20) fun t => t.size ≤ 20004 ∧ (4 ≤ t.size → ∃ e, t.extract 0 (t.size - 4) = s ++ e) := by
 intro m
 induction m with
 | zero =>
  intro n i s h0 h1 h2 h3 h4;obtain ⟨n, rfl⟩ : ∃ m, n = m + 1 := ⟨n - 1, by omega⟩
  rw [QZ];exact Zs (fun h => by omega) fun _ => Zd (Zi5 s) fun y hy => Zb ⟨hy.1, fun h => ⟨bL [], by rw [hy.2 h]; exact (ByteArray.append_empty).symm⟩⟩
 | succ m ih =>
  intro n i s h0 h1 h2 h3 h4;obtain ⟨n, rfl⟩ : ∃ m, n = m + 1 := ⟨n - 1, by omega⟩
  rw [QZ, ZD (n := i + 1) (by omega) (by omega)];refine Zs (fun h => ZE h0 (Z4 (by omega) fun y _ => Zd (RU y) fun z hz => ZE (by unfold lim; omega) ?_)) fun _ => Zd (Zi5 s) fun y hy => Zb ⟨hy.1, fun h => ⟨bL [], by rw [hy.2 h]; exact (ByteArray.append_empty).symm⟩⟩;refine Uk (ih n (i + 1) (s ++ z) (by omega) (by omega) (by omega) (by omega) (by rw [ByteArray.size_append]; omega)) fun t ht => ⟨ht.1, fun h => ?_⟩
  obtain ⟨e, he⟩ := ht.2 h;exact ⟨z ++ e, by rw [he, ByteArray.append_assoc]⟩
theorem N4 (p : Zj) (hr : List.length p.2.2.2.2.2.1 ≤ 100000000) : Ok (Xj big p) fun t => t.size ≤ 20004 ∧
  (4 ≤ t.size → (0 ≤ p.1 ∧ p.1 ≤ 1000) → (0 ≤ p.2.1 ∧ p.2.1 ≤ 1000) → ∃ e, t.extract 0 (t.size - 4) = bL (enc p.1.toNat) ++ bL (enc p.2.1.toNat) ++ e) := by
 rw [FF];refine Zd (RU _) fun a ha => Zd (RU _) fun b hb => ZE (by unfold lim; omega) (Zd (ZoV _) fun c hc => ZE (by simp only [ByteArray.size_append]; unfold lim; omega) (Zd (ZoV _) fun d hd => ZE (by simp only [ByteArray.size_append]; unfold lim; omega)
  (Zd (Zqf _) fun f hf => ZE (by simp only [ByteArray.size_append]; unfold lim; omega) (Zd (ZtO _) fun g hg => ZE (by simp only [ByteArray.size_append]; unfold lim; omega) ?_))))
 refine Uk (Zsu _ _ _ _ _ _ _ _ _ _ _ _ _ _ _ _ _ _ _ _ _ hr (List.length p.2.2.2.2.2.1) big 0 _ (by omega) (by omega) (by omega) (by unfold big; omega) (by simp only [ByteArray.size_append]; omega)) fun t ht => ⟨ht.1, fun h h1 h2 => ?_⟩
 obtain ⟨e, he⟩ := ht.2 h;refine ⟨c ++ d ++ f ++ g ++ e, ?_⟩;rw [he, ha.2.2 h1.1 (by omega), hb.2.2 h2.1 (by omega)];simp only [ByteArray.append_assoc]
def RdP (s : ByteArray) (i v w : Nat) (r : Int × Int × Bool × Unit) : Prop :=
 r.2.2.1 = true → (i : Int) < r.2.1 ∧ r.2.1 ≤ s.size ∧ 0 ≤ r.1 ∧ r.1 ≤ 1000000000 ∧ ∀ m rest, s.data.toList.drop i = enc m ++ rest → r.1 = ((v + m * w : Nat) : Int) ∧ r.2.1 = ((i + (enc m).length : Nat) : Int)
theorem Ub {m : Nat} (h : m < 256) : (UInt8.ofNat m).toNat = m := by
 have : (UInt8.ofNat m).toNat = m % 256 := rfl;omega
theorem Zvv (s : ByteArray) (hs : s.size ≤ 1000000) (a : Nat) : ∀ (k n v w i : Nat), i + k = a + 5 → a ≤ i → i ≤ s.size → k < n → w * 128 ^ k ≤ 34359738368 → v ≤ w →
  Ok (JF n s (a : Int) (v : Int) (w : Int) (i : Int)) (RdP s i v w) := by
 have no : ∀ i v w, RdP s i v w ((0 : Int), (0 : Int), false, ()) := fun i v w h => by cases h
 have hl := Zi2 s;intro k
 induction k with
 | zero =>
  intro n v w i h1 h2 h3 h4 h5 h6;obtain ⟨n, rfl⟩ : ∃ m, n = m + 1 := ⟨n - 1, by omega⟩
  rw [Eb, ZD (n := (a : Int) + 5) (by omega) (by omega)];exact Zs (fun _ => Zs (fun h => by omega) fun _ => Zb (no _ _ _)) fun _ => Zb (no _ _ _)
 | succ k ih =>
  intro n v w i h1 h2 h3 h4 h5 h6;obtain ⟨n, rfl⟩ : ∃ m, n = m + 1 := ⟨n - 1, by omega⟩
  have hw : w * 128 ≤ 34359738368 := by
   have h128 : 1 ≤ 128 ^ k := Nat.pow_pos (by decide);rw [Nat.pow_succ, ← Nat.mul_assoc, Nat.mul_right_comm] at h5;exact Nat.le_trans (Nat.le_mul_of_pos_right _ h128) h5
  have h5' : w * 128 * 128 ^ k ≤ 34359738368 := by
   rw [Nat.pow_succ, ← Nat.mul_assoc, Nat.mul_right_comm] at h5;exact h5
  rw [Eb, ZD (n := (a : Int) + 5) (by omega) (by omega)];refine Zs (fun hi => Zs (fun hi5 => ZE (by omega) ?_) fun _ => Zb (no _ _ _)) fun _ => Zb (no _ _ _);have hi' : i < s.data.toList.length := by omega
  have hd := List.drop_eq_getElem_cons hi';rw [Int.toNat_natCast, Z2 hi', Option.bind_some];generalize s.data.toList[i] = b at hd;have hb : b.toNat < 256 := UInt8.toNat_lt _;refine ZE (by omega) ?_;rw [Option.bind_some];have hx : b.toNat % 128 * w ≤ 127 * w := Nat.mul_le_mul_right _ (by omega);have ev : K6.wrap ((v : Int) + K6.wrap ((K6.wrap (b.toNat : Int)).tmod 128 * (w : Int))) = ((v + b.toNat % 128 * w : Nat) : Int) := by
   have e1 : K6.wrap (b.toNat : Int) = (b.toNat : Int) := ZD (by omega) (by omega);have e2 : ((b.toNat : Int)).tmod 128 = ((b.toNat % 128 : Nat) : Int) := (Int.ofNat_tmod b.toNat 128).symm;have e3 : ((b.toNat % 128 : Nat) : Int) * (w : Int) = ((b.toNat % 128 * w : Nat) : Int) := (Int.natCast_mul _ _).symm;rw [e1, e2, e3, ZD (n := ((b.toNat % 128 * w : Nat) : Int)) (by omega) (by omega), ← Int.natCast_add, ZD (by omega) (by omega)]
  have ei : K6.wrap ((i : Int) + 1) = ((i + 1 : Nat) : Int) := by rw [ZD (by omega) (by omega)]; omega
  have ew : K6.wrap ((w : Int) * 128) = ((w * 128 : Nat) : Int) := by rw [ZD (by omega) (by omega)]; omega
  try dsimp only
  rw [ev, ei, ew];refine Zs (fun hc => Zs (fun _ => Zb (no _ _ _)) fun hv => ZE (by omega) (ZE (by omega) (ZE (by omega) (ZE (by omega) (Zd (ZtO _) fun y _ => YS (fun _ => Zb (no _ _ _)) fun _ => Zb fun _ => ⟨?_, ?_, ?_, ?_, fun m rest hm => ?_⟩))))) fun hc => ?_
  ·show (i : Int) < ((i + 1 : Nat) : Int); omega
  ·show ((i + 1 : Nat) : Int) ≤ _; omega
  ·show (0 : Int) ≤ ((v + b.toNat % 128 * w : Nat) : Int); omega
  ·show ((v + b.toNat % 128 * w : Nat) : Int) ≤ _; omega
  ·rw [hd] at hm
   by_cases h7 : m ≤ 127
   ·rw [FW h7] at hm ⊢
    have hbm : b = UInt8.ofNat m := (List.cons.inj hm).1;have : b.toNat % 128 = m := by rw [hbm, Ub (by omega)]; omega
    rw [this];exact ⟨rfl, rfl⟩
   ·rw [M9 h7] at hm
    have hbm : b = UInt8.ofNat (m % 128 + 128) := (List.cons.inj hm).1;rw [hbm, Ub (by omega)] at hc;omega
  ·refine Uk (ih n (v + b.toNat % 128 * w) (w * 128) (i + 1) (by omega) (by omega) (by omega) (by omega) h5' (by omega)) fun r hr h => ?_
   obtain ⟨g1, g2, g3, g4, g5⟩ := hr h;refine ⟨by omega, g2, g3, g4, fun m rest hm => ?_⟩;rw [hd] at hm
   by_cases h7 : m ≤ 127
   ·rw [FW h7] at hm
    have hbm : b = UInt8.ofNat m := (List.cons.inj hm).1;rw [hbm, Ub (by omega)] at hc;omega
   ·rw [M9 h7] at hm ⊢
    have hbm : b = UInt8.ofNat (m % 128 + 128) := (List.cons.inj hm).1;obtain ⟨q1, q2⟩ := g5 (m / 128) rest (List.cons.inj hm).2;have hbx : b.toNat % 128 = m % 128 := by rw [hbm, Ub (by omega)]; omega
    refine ⟨?_, by rw [q2, List.length_cons]; congr 1; omega⟩;rw [q1, hbx];congr 1;have e1 : m / 128 * (w * 128) = m / 128 * 128 * w := by rw [Nat.mul_comm w 128, Nat.mul_assoc]
    have e2 : m * w = (m / 128 * 128 + m % 128) * w := by congr 1; omega
    rw [e1, e2, Nat.add_mul]; omega
theorem Zsv (s : ByteArray) (hs : s.size ≤ 1000000) (a : Int) : Ok (IA big s a) fun r => r.2.2.1 = true → 0 ≤ a ∧ a < r.2.1 ∧ r.2.1 ≤ s.size ∧ 0 ≤ r.1 ∧ r.1 ≤ 1000000000 ∧
  ∀ m rest, s.data.toList.drop a.toNat = enc m ++ rest → r.1 = (m : Int) ∧ r.2.1 = a + ((enc m).length : Int) := by
 rw [ZeG, M5, Option.bind_some];refine Yh (fun _ => Zb fun h => by cases h) fun h => ?_;simp only [Bool.and_eq_true, decide_eq_true_eq] at h;obtain ⟨m, rfl⟩ : ∃ m : Nat, a = m := ⟨a.toNat, by omega⟩
 have := Zvv s hs m 5 big 0 1 m (by omega) (by omega) (by omega) (by unfold big; omega) (by decide) (by omega);refine Uk this fun r hr h1 => ?_;obtain ⟨g1, g2, g3, g4, g5⟩ := hr h1;refine ⟨h.1, g1, g2, g3, g4, fun k rest hk => ?_⟩;obtain ⟨q1, q2⟩ := g5 k rest hk;exact ⟨by rw [q1]; congr 1; omega, by rw [q2]; omega⟩
def Adv (c c' : XA) : Prop := c'.1 = c.1 ∧ (c'.2.2.1 = false → c.2.2.1 = false ∧ 0 ≤ c.2.1 ∧ c.2.1 < c'.2.1 ∧ c'.2.1 ≤ (ByteArray.size c.1 : Int))
theorem Adv.trans {a b c : XA} (h : Adv a b) (k : Adv b c) : Adv a c := ⟨k.1.trans h.1, fun e => by
 obtain ⟨k1, k2, k3, k4⟩ := k.2 e;obtain ⟨h1, h2, h3, h4⟩ := h.2 k1;rw [h.1] at k4;exact ⟨h1, h2, by omega, k4⟩⟩
theorem W9 (c : XA) (hs : ByteArray.size c.1 ≤ 1000000) : Ok (XC big c) fun r => Adv c r.2.1 ∧ (r.2.1.2.2.1 = false → 0 ≤ r.1 ∧ r.1 ≤ 1000000000 ∧
  ∀ m rest, c.1.data.toList.drop (Int.toNat c.2.1) = enc m ++ rest → r.1 = (m : Int) ∧ r.2.1.2.1 = c.2.1 + ((enc m).length : Int)) := by
 rw [ZiJ];refine Zd (Zsv c.1 hs c.2.1) fun y hy => Yv (fun _ => Zb ⟨⟨rfl, fun h => by cases h⟩, fun h => by cases h⟩) fun hb => Yh (fun _ => Zb ⟨⟨rfl, fun h => by cases h⟩, fun h => by cases h⟩) fun ho => ?_;obtain ⟨g1, g2, g3, g4, g5, g6⟩ := hy ho;exact Zb ⟨⟨rfl, fun h => ⟨hb, g1, g2, g3⟩⟩, fun h => ⟨g4, g5, g6⟩⟩
theorem Zw0 (c : XA) (hs : ByteArray.size c.1 ≤ 1000000) : Ok (FG big c) fun r => Adv c r.2.1 ∧ (r.2.1.2.2.1 = false → 0 ≤ r.1.2.1) := by
 rw [PL];refine Zd (W9 c hs) fun y hy => Zd (W9 y.2.1 (by rw [hy.1.1]; exact hs)) fun y1 hy1 => ?_;have h1 := hy.1.trans hy1.1;refine Zd (W9 y1.2.1 (by rw [h1.1]; exact hs)) fun y2 hy2 => ?_;have h2 := h1.trans hy2.1;exact Zd (W9 y2.2.1 (by rw [h2.1]; exact hs)) fun y3 hy3 => Zb ⟨h2.trans hy3.1, fun e => (hy1.2 (hy2.1.2 (hy3.1.2 e).1).1).1⟩
theorem Zvw (c : XA) (hs : ByteArray.size c.1 ≤ 1000000) : Ok (Dx big c) fun r => Adv c r.2.1 := by
 rw [Hz];refine Zd (W9 c hs) fun y hy => Zd (W9 y.2.1 (by rw [hy.1.1]; exact hs)) fun y1 hy1 => ?_;have h1 := hy.1.trans hy1.1;refine Zd (W9 y1.2.1 (by rw [h1.1]; exact hs)) fun y2 hy2 => ?_;have h2 := h1.trans hy2.1;exact Zd (W9 y2.2.1 (by rw [h2.1]; exact hs)) fun y3 hy3 => Zb (h2.trans hy3.1)
theorem Zvx (t u : ByteArray) (hu : u.size ≤ 20000) (s8 : Int) (c0 : Int) (c1 : Int) (c2 : Int) (c3 : Int) (c4 : Int) (c5 : Int) (c6 : Int) (c7 : Int) (c8 : Int) (c9 : Int) (c10 : Int) (c11 : Int) (c12 : Int) (c13 : Int) (c14 : List Int) (c15 : List ZB) (c16 : List Int) (c17 : List Ya) (c18 : List ZX) (c19 : List Zo) (c20 : Int) (b0 : Int) (b1 : Int) (b2 : Int) (b3 : Int) (b4 : Int) (b5 : Int) (b6 : Int) (b7 : Int) (b8 : Int) (b9 : Int) (b10 : Int) (b11 : Int) (b12 : Int) (b13 : Int) (b14 : List Int) (b15 : List ZB) (b16 : List Int) (b17 : List Ya) (b18 : List ZX) (b19 : List Zo) (b20 : Int) : ∀ (m n : Nat) (i : Int) (q : XA) (row : List Int), q.1 = u →
  (q.2.2.1 = false → 0 ≤ q.2.1 ∧ q.2.1 ≤ u.size ∧ (u.size : Int) + 1 ≤ q.2.1 + m ∧ (row.length : Int) ≤ q.2.1) → row.length ≤ 20001 → m < n →
  Ok (Vp n t s8 i c0 c1 c2 c3 c4 c5 c6 c7 c8 c9 c10 c11 c12 c13 c14 c15 c16 c17 c18 c19 c20 q.1 q.2.1 q.2.2.1 b0 b1 b2 b3 b4 b5 b6 b7 b8 b9 b10 b11 b12 b13 row b15 b16 b17 b18 b19 b20) fun r => r.2.1 = true → q.2.2.1 = false ∧
   ∃ row' : List Int, row'.length ≤ 20001 ∧ r.1 = (b0, b1, (b2, b3, b4, b5, ()), (b6, b7, b8, b9, ()), (b10, b11, b12, b13, ()), row', b15, b16, b17, b18, b19, b20, ()) := by
 have fin : ∀ (n : Nat) (i : Int) (q : XA) (row : List Int), row.length ≤ 20001 → Ok (bif q.2.2.1 then some (((0 : Int), (0 : Int), ((0 : Int), (0 : Int), (0 : Int), (0 : Int), PUnit.unit), ((0 : Int), (0 : Int), (0 : Int), (0 : Int), PUnit.unit), ((0 : Int), (0 : Int), (0 : Int), (0 : Int), PUnit.unit), ([] : List Int), ([] : List ZB), ([] : List Int), ([] : List Ya), ([] : List ZX), ([] : List Zo), (0 : Int), PUnit.unit), false, PUnit.unit) else (Xj big (b0, b1, (b2, b3, b4, b5, ()), (b6, b7, b8, b9, ()), (b10, b11, b12, b13, ()), row, b15, b16, b17, b18, b19, b20, ())).bind fun y => bif !decide (y = t) then some (((0 : Int), (0 : Int), ((0 : Int), (0 : Int), (0 : Int), (0 : Int), PUnit.unit), ((0 : Int), (0 : Int), (0 : Int), (0 : Int), PUnit.unit), ((0 : Int), (0 : Int), (0 : Int), (0 : Int), PUnit.unit), ([] : List Int), ([] : List ZB), ([] : List Int), ([] : List Ya), ([] : List ZX), ([] : List Zo), (0 : Int), PUnit.unit), false, PUnit.unit) else some ((b0, b1, (b2, b3, b4, b5, PUnit.unit), (b6, b7, b8, b9, PUnit.unit), (b10, b11, b12, b13, PUnit.unit), row, b15, b16, b17, b18, b19, b20, PUnit.unit), true, PUnit.unit))
   (fun r : Zj × Bool × Unit => r.2.1 = true → q.2.2.1 = false ∧ ∃ row' : List Int, row'.length ≤ 20001 ∧ r.1 = (b0, b1, (b2, b3, b4, b5, ()), (b6, b7, b8, b9, ()), (b10, b11, b12, b13, ()), row', b15, b16, b17, b18, b19, b20, ())) := fun n i q row hr =>
  Yv (fun _ => Zb (fun h => by cases h)) fun hb => Zd (N4 _ (by show row.length ≤ _; omega)) fun y _ => YS (fun _ => Zb (fun h => by cases h)) fun _ => Zb fun _ => ⟨hb, row, hr, rfl⟩
 intro m
 induction m with
 | zero =>
  intro n i q row hq h1 h2 h3;obtain ⟨n, rfl⟩ : ∃ m, n = m + 1 := ⟨n - 1, by omega⟩
  rw [Qt];simp only [XF];refine Zs (fun _ => Yh (fun hb => ?_) fun _ => fin n i q row h2) fun _ => fin n i q row h2;have := h1 hb;omega
 | succ m ih =>
  intro n i q row hq h1 h2 h3;obtain ⟨n, rfl⟩ : ∃ m, n = m + 1 := ⟨n - 1, by omega⟩
  rw [Qt];simp only [XF];refine Zs (fun _ => Yh (fun hb => ?_) fun _ => fin n i q row h2) fun _ => fin n i q row h2;obtain ⟨g1, g2, g3, g4⟩ := h1 hb;refine Zd (W9 (q.1, q.2.1, q.2.2.1, ()) (by show ByteArray.size q.1 ≤ _; rw [hq]; omega)) fun y hy => ZE (by unfold lim; omega) ?_;obtain ⟨⟨hy1, hy2⟩, _⟩ := hy;refine Uk (ih n _ y.2.1 (List.append row [y.1]) (hy1.trans hq) (fun e => ?_) (by rw [XL]; omega) (by omega)) fun r hr h => ⟨hb, (hr h).2⟩
  obtain ⟨k1, k2, k3, k4⟩ := hy2 e;have k3 : q.2.1 < y.2.1.2.1 := k3;have k4 : y.2.1.2.1 ≤ (ByteArray.size q.1 : Int) := k4;rw [hq] at k4;rw [XL];exact ⟨by omega, k4, by omega, by omega⟩
theorem ZgL (t : ByteArray) (ht : t.size ≤ 1000000) : Ok (Bv big t) fun r => r.2.1 = true → 4 ≤ t.size ∧ (∀ a b e, t.extract 0 (t.size - 4) = bL (enc a) ++ bL (enc b) ++ e → r.1.1 = (a : Int) ∧ r.1.2.1 = (b : Int)) ∧
  List.length r.1.2.2.2.2.2.1 ≤ 20001 ∧ r.1.2.2.2.2.2.2 = ([], [], [], [], [], 0, ()) ∧ 0 ≤ r.1.2.2.1.2.1 ∧ 0 ≤ r.1.2.2.2.1.2.1 := by
 rw [FH];refine Zd (ZgK t ht) fun u hu => ?_;refine Zd (W9 (u.1, 0, !u.2.1, ()) (by show ByteArray.size u.1 ≤ _; have := hu.1; omega)) fun y hy => ?_;have hs : ByteArray.size u.1 ≤ 1000000 := by have := hu.1; omega
 refine Zd (W9 y.2.1 (by rw [hy.1.1]; exact hs)) fun y1 hy1 => ?_;have h1 := hy.1.trans hy1.1;refine Zd (Zw0 y1.2.1 (by rw [h1.1]; exact hs)) fun y2 hy2 => ?_;have h2 := h1.trans hy2.1;refine Zd (Zw0 y2.2.1 (by rw [h2.1]; exact hs)) fun y3 hy3 => ?_;have h3 := h2.trans hy3.1;refine Zd (Zvw y3.2.1 (by rw [h3.1]; exact hs)) fun y4 hy4 => ?_;have h4 := h3.trans hy4;refine Zd (W9 y4.2.1 (by rw [h4.1]; exact hs)) fun y5 hy5 => ?_;have h5 := h4.trans hy5.1;refine Uk (Zvx t u.1 hu.1 y5.1 _ _ _ _ _ _ _ _ _ _ _ _ _ _ _ _ _ _ _ _ _ y.1 y1.1 y2.1.1 y2.1.2.1 y2.1.2.2.1 y2.1.2.2.2.1 y3.1.1 y3.1.2.1 y3.1.2.2.1 y3.1.2.2.2.1 y4.1.1 y4.1.2.1 y4.1.2.2.1 y4.1.2.2.2.1 [] [] [] [] [] [] 0 (ByteArray.size u.1 + 1) big 0 y5.2.1 [] h5.1 (fun e => ?_) (by decide) (by unfold big; omega)) fun r hr h => ?_
 ·obtain ⟨k1, k2, k3, k4⟩ := h5.2 e
  have k3 : (0 : Int) < y5.2.1.2.1 := k3;exact ⟨by omega, k4, by omega, by show (0 : Int) ≤ _; omega⟩
 ·obtain ⟨hb, row, hrow, e⟩ := hr h
  have b4 := (hy5.1.2 hb).1;have b3 := (hy4.2 b4).1;have b2 := (hy3.1.2 b3).1;have b1 := (hy2.1.2 b2).1;have b0 := (hy1.1.2 b1).1;have bu := (hy.1.2 b0).1;have bu' : u.2.1 = true := by
   cases hc : u.2.1 with
   | true => rfl
   | false => rw [show ((u.1, (0 : Int), !u.2.1, ()) : XA).2.2.1 = !u.2.1 from rfl, hc] at bu; cases bu
  obtain ⟨q1, q2⟩ := hu.2 bu';rw [e];refine ⟨q1, fun a b f hf => ?_, hrow, rfl, hy2.2 b2, hy3.2 b3⟩;have hd : u.1.data.toList = enc a ++ (enc b ++ f.data.toList) := by
   rw [q2, hf];simp only [ByteArray.data_append, Array.toList_append, bL, List.append_assoc]
  obtain ⟨_, _, z1⟩ := hy.2 b0;obtain ⟨z2, z3⟩ := z1 a (enc b ++ f.data.toList) hd;obtain ⟨_, _, w1⟩ := hy1.2 b1;have hy11 : y.2.1.1 = u.1 := hy.1.1;have z3 : y.2.1.2.1 = 0 + ((enc a).length : Int) := z3;obtain ⟨w2, _⟩ := w1 b f.data.toList (by
   rw [hy11, z3, hd, show (0 + ((enc a).length : Int)).toNat = (enc a).length by omega, List.drop_left])
  exact ⟨z2, w2⟩
theorem ZtP {B : Nat} {V : Int} (h0 : 30000 ≤ B) (hB : B ≤ 100000000) {t : List Zm} (ht : XE t) {p : Zj} (h : Yz B V p) (hi : 0 ≤ p.1 ∧ p.1 ≤ 1000) : Ok (Gx big t p) fun r => Yz B V r ∧ r.1 = p.1 := by
 have hv := h.view;have hto := h.top;rw [ML];refine Zd (N4 p (Nat.le_trans h.row hB)) fun y hy => Zd (ZgL y (by have := hy.1; omega)) fun z hz => Yh (fun _ => Zb ⟨⟨Nat.zero_le _, ⟨Nat.zero_le _, fun c hc => by cases hc⟩, Nat.zero_le _, ⟨Nat.zero_le _, fun c hc => by cases hc⟩, Nat.zero_le _, Nat.zero_le _, by have := h.top; show (1 : Int) ≤ 1 ∧ (1 : Int) ≤ V; omega, h.top, ⟨Int.le_refl 0, Int.le_refl 0⟩⟩, rfl⟩) fun ho => ?_;obtain ⟨g1, g2, g3, g4, g5⟩ := hz ho;obtain ⟨e, he⟩ := hy.2 g1 hi (by omega);obtain ⟨k1, k2⟩ := g2 _ _ _ he;refine Zd (Zqc ht (by omega)) fun cs hcs => Zb ⟨⟨?_, hcs, ?_, ⟨?_, ?_⟩, ?_, ?_, ?_, h.top, g5⟩, ?_⟩
 ·show List.length z.1.2.2.2.2.2.1 ≤ B; omega
 ·show List.length z.1.2.2.2.2.2.2.2.1 ≤ 60; rw [g4]; exact Nat.zero_le _
 ·show List.length z.1.2.2.2.2.2.2.2.2.1 ≤ 240; rw [g4]; exact Nat.zero_le _
 ·show ∀ c ∈ z.1.2.2.2.2.2.2.2.2.1, _; rw [g4]; exact fun c hc => by cases hc
 ·show List.length z.1.2.2.2.2.2.2.2.2.2.1 ≤ B; rw [g4]; exact Nat.zero_le _
 ·show List.length z.1.2.2.2.2.2.2.2.2.2.2.1 ≤ B; rw [g4]; exact Nat.zero_le _
 ·show 1 ≤ z.1.2.1 ∧ z.1.2.1 ≤ V; rw [k2]; omega
 ·show z.1.1 = p.1; rw [k1]; omega
end Go.Sx.Tryz
