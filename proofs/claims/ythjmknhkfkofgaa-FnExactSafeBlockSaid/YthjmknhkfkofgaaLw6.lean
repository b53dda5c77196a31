/- The helpers of the laws. -/
import Derived.Test.YthjmknhkfkofgaaM7
import Derived.Test.YthjmknhkfkofgaaFn6
set_option linter.unusedVariables false
set_option maxRecDepth 100000
namespace Go.Sx.Try
open Go Go.Sx Go.Proofs

theorem psz67 (x : T23.den) (a : Int) (hw : WfD T23 x) (h0 : 0 ≤ a) (h1 : a ≤ 1048576) : SzR (q67 big (x, a, ())) a (Bd T23 x) := by
  rw [q67_eq]
  exact (szR_len (K := some) (hw.2.1) h0 h1 fun v0 k0 l0 _ => szR_end).imp fun h => (Bd_flat rfl _)

theorem psz75 (x : T97.den) (a : Int) (hw : WfD T97 x) (h0 : 0 ≤ a) (h1 : a ≤ 1048576) : SzR (q75 big (x, a, ())) a (Bd T97 x) := 
  szR_list (qe := fun y a => q67 big (y, a, ())) (r := fun n a i => r75_5 n (x, a, i, ()) ()) (n := big) hw.1 h0 h1 (q75_eq big x a) (fun n a i => r75_5_eq n x a i) (fun y hy a h0 h1 => psz67 y a (hw.2 y hy) h0 h1) (by decide)

theorem psz81 (x : T125.den) (a : Int) (hw : WfD T125 x) (h0 : 0 ≤ a) (h1 : a ≤ 1048576) : SzR (q81 big (x, a, ())) a (Bd T125 x) := by
  rw [q81_eq]
  exact (szR_bind (psz75 _ _ (hw.2.2.1) h0 h1) h0 h1 fun v0 k0 l0 => szR_end).imp fun h => ⟨(Bd_flat rfl _), (Bd_flat rfl _), h.1, (Bd_flat rfl _), trivial⟩

theorem psz28 (x : T46.den) (a : Int) (hw : WfD T46 x) (h0 : 0 ≤ a) (h1 : a ≤ 1048576) : SzR (q28 big (x, a, ())) a (Bd T46 x) := 
  szR_list (qe := fun y a => q81 big (y, a, ())) (r := fun n a i => r28_5 n (x, a, i, ()) ()) (n := big) hw.1 h0 h1 (q28_eq big x a) (fun n a i => r28_5_eq n x a i) (fun y hy a h0 h1 => psz81 y a (hw.2 y hy) h0 h1) (by decide)

theorem pto70 (x : T23.den) (h : Bd T23 x) : q70 big (x, ()) = some x := by
  rw [q70_eq]

theorem pto76 (x : T97.den) (h : Bd T97 x) : q76 big (x, ()) = some x := by
  have := copy_ok (g := fun y => some y) (f := fun y => y) (r := fun n i b => r76_3 n (x, i, ()) (b, ())) (n := big) (q76_eq big x) (fun n i b => r76_3_eq n x i b) (fun _ _ => rfl) h.1 (by decide)
  simpa using this

theorem pto31 (x : T48.den) (h : Bd T48 x) : q31 big (x, ()) = some x := by
  rw [q31_eq]

theorem pto83 (x : T125.den) (h : Bd T125 x) : q83 big (x, ()) = some x := by
  rw [q83_eq, pto76 _ (h.2.2.1)]
  rfl

theorem pto30 (x : T46.den) (h : Bd T46 x) : q30 big (x, ()) = some x := by
  have := copy_ok (g := fun y => q83 big (y, ())) (f := fun y => y) (r := fun n i b => r30_3 n (x, i, ()) (b, ())) (n := big) (q30_eq big x) (fun n i b => r30_3_eq n x i b) (fun y hy => pto83 y (h.2 y hy)) h.1 (by decide)
  simpa using this

theorem peq120 (x : T28.den) (h : Bd T28 x) : q120 big (x, x, ()) = some true := by
  rw [q120_eq]
  simp only [decide_true, Bool.not_true, cond_false]

theorem peq80 (x : T103.den) (h : Bd T103 x) : q80 big (x, x, ()) = some true := 
  eq_ok (e := fun y y1 => q120 big (y, y1, ())) (r := fun n i => r80_4 n (x, x, i, ()) ()) (n := big) (q80_eq big x x) (fun n i => r80_4_eq n x x i) (fun y hy => peq120 y (h.2 y hy)) h.1 (by decide)

theorem peq45 (x : T53.den) (h : Bd T53 x) : q45 big (x, x, ()) = some true := by
  rw [q45_eq]
  simp only [decide_true, Bool.not_true, cond_false]

theorem peq85 (x : T128.den) (h : Bd T128 x) : q85 big (x, x, ()) = some true := by
  rw [q85_eq]
  simp only [decide_true, Bool.not_true, cond_false, Option.bind_some, peq80 _ (h.2.2.1), peq45 _ (h.2.2.2.1)]

theorem peq33 (x : T51.den) (h : Bd T51 x) : q33 big (x, x, ()) = some true := 
  eq_ok (e := fun y y1 => q85 big (y, y1, ())) (r := fun n i => r33_4 n (x, x, i, ()) ()) (n := big) (q33_eq big x x) (fun n i => r33_4_eq n x x i) (fun y hy => peq85 y (h.2 y hy)) h.1 (by decide)

end Go.Sx.Try

set_option maxRecDepth 100000
namespace Go.Sx.Try
open Go Go.Sx Go.Proofs

/-- the blocks from one down to the first one, if each names one that lies ahead of it -/
def pathF (xs : List (Ty.den T128)) : Nat → Nat → Option (List Int)
  | 0, _ => none
  | N + 1, k => if k = 0 then some [0] else match xs[k]? with
    | none => none
    | some y => if 0 ≤ y.1 ∧ y.1 ≤ (k : Int) - 1 then (pathF xs N y.1.toNat).map fun l => (k : Int) :: l else none

theorem inRange {a lo hi : Int} : (bif decide (lo ≤ a) then some (decide (a ≤ hi)) else some false) = some (decide (lo ≤ a ∧ a ≤ hi)) := by
  by_cases h : lo ≤ a
  · rw [decide_eq_true h]; simp [h]
  · rw [decide_eq_false h]; simp [h]

theorem r121_is (xs : List (Ty.den T128)) (hl : xs.length ≤ 1048576) : ∀ (N n k : Nat) (h : Int), k < N → k < n → k < xs.length → 0 ≤ h → h + k ≤ 2097152 →
    ∃ v : Int, r121_2 n (xs, (k : Int), h, ()) () = some v ∧ decide (v < 0) = (pathF xs N k).isNone
  | 0, n, k, h, hN, _, _, _, _ => by omega
  | N + 1, 0, k, h, _, hn, _, _, _ => by omega
  | N + 1, n + 1, k, h, hN, hn, hk, h0, h1 => by
    rw [r121_2_eq]
    by_cases hk0 : k = 0
    · subst hk0
      refine ⟨h, ?_, ?_⟩
      · rw [decide_eq_true (show ((0 : Nat) : Int) = 0 by rfl), decide_eq_false (show ¬ (xs.length : Int) = 0 by omega)]
        rfl
      · simp [pathF]; exact h0
    · rw [decide_eq_false (show ¬ (k : Int) = 0 by omega)]
      simp only [Bool.not_false, cond_true]
      rw [q68_eq, inRange, wrap64 (n := (xs.length : Int) - 1) (by omega) (by omega), decide_eq_true (show (0 : Int) ≤ (k : Int) ∧ (k : Int) ≤ (xs.length : Int) - 1 by omega)]
      simp only [Option.bind_some, Bool.not_true, cond_false, if_pos (Int.natCast_nonneg k), Int.toNat_natCast]
      rw [nth_at hk]
      simp only [Option.bind_some, pathF, if_neg hk0, List.getElem?_eq_getElem hk]
      rw [q68_eq, inRange, wrap64 (n := (k : Int) - 1) (by omega) (by omega)]
      simp only [Option.bind_some]
      by_cases hp : (0 : Int) ≤ xs[k].1 ∧ xs[k].1 ≤ (k : Int) - 1
      · have q1 : @LE.le Int _ (0 : Int) xs[k].1 := hp.1
        have q2 : @LE.le Int _ xs[k].1 ((k : Int) - 1) := hp.2
        rw [decide_eq_true hp, if_pos hp]
        simp only [Bool.not_true, cond_false]
        rw [wrap64 (by omega) (by omega)]
        obtain ⟨v, h2, h3⟩ := r121_is xs hl N n xs[k].1.toNat (h + 1) (by omega) (by omega) (by omega) (by omega) (by omega)
        rw [show ((xs[k].1.toNat : Nat) : Int) = xs[k].1 by omega] at h2
        exact ⟨v, h2, by rw [h3]; simp⟩
      · rw [decide_eq_false hp, if_neg hp]
        exact ⟨-1, rfl, rfl⟩

theorem r82_is (xs : List (Ty.den T128)) (x : Int) : ∀ (N n k : Nat) (l : List Int), k < N → k < n → k < xs.length → pathF xs N k = some l → r82_3 n (xs, (k : Int), x, ()) () = some (l.any fun y => decide (y = x))
  | 0, n, k, l, hN, _, _, _ => by omega
  | N + 1, 0, k, l, _, hn, _, _ => by omega
  | N + 1, n + 1, k, l, hN, hn, hk, hp => by
    rw [r82_3_eq]
    by_cases hk0 : k = 0
    · subst hk0
      simp only [pathF, if_true, Option.some.injEq] at hp
      subst hp
      rw [decide_eq_false (show ¬ (0 : Int) < ((0 : Nat) : Int) by omega)]
      simp
    · simp only [pathF, if_neg hk0, List.getElem?_eq_getElem hk] at hp
      rw [decide_eq_true (show (0 : Int) < (k : Int) by omega)]
      by_cases hr : (0 : Int) ≤ xs[k].1 ∧ xs[k].1 ≤ (k : Int) - 1
      · have q1 : @LE.le Int _ (0 : Int) xs[k].1 := hr.1
        have q2 : @LE.le Int _ xs[k].1 ((k : Int) - 1) := hr.2
        rw [if_pos hr] at hp
        obtain ⟨l', h1, h2⟩ := Option.map_eq_some_iff.1 hp
        subst h2
        simp only [cond_true, if_pos (Int.natCast_nonneg k), Int.toNat_natCast]
        rw [nth_at hk]
        by_cases hx : (k : Int) = x
        · rw [decide_eq_true hx, List.any_cons, decide_eq_true hx]; rfl
        · rw [decide_eq_false hx, List.any_cons, decide_eq_false hx]
          have := r82_is xs x N n xs[k].1.toNat l' (by omega) (by omega) (by omega) h1
          rw [show ((xs[k].1.toNat : Nat) : Int) = xs[k].1 by omega] at this
          exact this
      · rw [if_neg hr] at hp; cases hp

theorem path_nil (xs : List (Ty.den T128)) {N k : Nat} {l : List Int} (h : pathF xs N k = some l) : ∃ t, l = (k : Int) :: t := by
  cases N with
  | zero => cases h
  | succ N =>
    simp only [pathF] at h
    split at h
    · rename_i hz
      cases h
      exact ⟨[], by rw [hz]; rfl⟩
    · split at h
      · cases h
      · split at h
        · obtain ⟨l', _, h2⟩ := Option.map_eq_some_iff.1 h
          exact ⟨l', h2.symm⟩
        · cases h
theorem r122_is (xs : List (Ty.den T128)) (hl : xs.length ≤ 1048576) : ∀ (N n k : Nat) (acc : List Int), k < N → k < n → k < xs.length → acc.length + k ≤ 2097152 →
    r122_4 n (xs, (k : Int), acc, ()) () = some (match pathF xs N k with | some l => (acc ++ l.tail, true, ()) | none => ([], false, ()))
  | 0, n, k, acc, hN, _, _, _ => by omega
  | N + 1, 0, k, acc, _, hn, _, _ => by omega
  | N + 1, n + 1, k, acc, hN, hn, hk, ha => by
    rw [r122_4_eq]
    by_cases hk0 : k = 0
    · subst hk0
      rw [decide_eq_false (show ¬ (0 : Int) < ((0 : Nat) : Int) by omega)]
      simp only [pathF, if_true, cond_false, List.tail_cons, List.append_nil]
      rfl
    · simp only [pathF, if_neg hk0, List.getElem?_eq_getElem hk]
      rw [decide_eq_true (show (0 : Int) < (k : Int) by omega)]
      simp only [cond_true, if_pos (Int.natCast_nonneg k), Int.toNat_natCast]
      rw [nth_at hk]
      simp only [Option.bind_some]
      rw [q71_eq, inRange, wrap64 (n := (k : Int) - 1) (by omega) (by omega)]
      simp only [Option.bind_some]
      by_cases hr : (0 : Int) ≤ xs[k].1 ∧ xs[k].1 ≤ (k : Int) - 1
      · have q1 : @LE.le Int _ (0 : Int) xs[k].1 := hr.1
        have q2 : @LE.le Int _ xs[k].1 ((k : Int) - 1) := hr.2
        rw [decide_eq_true hr, if_pos hr]
        simp only [Bool.not_true, cond_false]
        refine (if_pos (show acc.length + 1 ≤ lim by unfold lim; omega)).trans ?_
        have := r122_is xs hl N n xs[k].1.toNat (acc ++ [xs[k].1]) (by omega) (by omega) (by omega) (by simp; omega)
        rw [show ((xs[k].1.toNat : Nat) : Int) = xs[k].1 by omega] at this
        refine Eq.trans this ?_
        cases hq : pathF xs N xs[k].1.toNat with
        | none => rfl
        | some l =>
          obtain ⟨t, rfl⟩ := path_nil xs hq
          simp only [List.tail_cons, Option.map_some, List.append_assoc, List.cons_append, List.nil_append]
          rw [show ((xs[k].1.toNat : Nat) : Int) = xs[k].1 by omega]
      · rw [decide_eq_false hr, if_neg hr]
        rfl

theorem r137_is (l : List Int) (x : Int) (hl : l.length ≤ 2097152) : ∀ (n k : Nat), l.length < n + k → k ≤ l.length → ∃ v : Int, r137_2 n (l, x, (l.length : Int), (k : Int), ()) () = some v ∧ decide (0 ≤ v) = (l.drop k).any fun y => decide (y = x)
  | 0, k, h, h2 => by omega
  | n + 1, k, h, h2 => by
    rw [r137_2_eq]
    rcases Nat.lt_or_ge k l.length with hk | hk
    · rw [decide_eq_true (show (k : Int) < (l.length : Int) by omega)]
      simp only [cond_true, if_pos (Int.natCast_nonneg k), Int.toNat_natCast]
      rw [nth_at hk]
      simp only [Option.bind_some]
      rw [List.drop_eq_getElem_cons hk, List.any_cons]
      by_cases hx : x = l[k]
      · rw [decide_eq_true hx, decide_eq_true hx.symm]
        exact ⟨(k : Int), rfl, by simp⟩
      · rw [decide_eq_false hx, decide_eq_false (fun e => hx e.symm)]
        obtain ⟨v, h3, h4⟩ := r137_is l x hl n (k + 1) (by omega) (by omega)
        refine ⟨v, ?_, by rw [h4]; rfl⟩
        simp only [cond_false]
        rw [wrap_succ (by omega)]
        exact h3
    · rw [decide_eq_false (show ¬ (k : Int) < (l.length : Int) by omega), List.drop_eq_nil_of_le hk]
      exact ⟨-1, rfl, rfl⟩
theorem path_len (xs : List (Ty.den T128)) : ∀ (N k : Nat) (l : List Int), pathF xs N k = some l → l.length ≤ N
  | 0, k, l, h => by cases h
  | N + 1, k, l, h => by
    simp only [pathF] at h
    split at h
    · cases h; simp
    · split at h
      · cases h
      · split at h
        · obtain ⟨l', h1, h2⟩ := Option.map_eq_some_iff.1 h
          subst h2
          have := path_len xs N _ l' h1
          simp; omega
        · cases h

/-- is one below the other? -/
def ext (xs : List (Ty.den T128)) (a x : Int) : Bool := if 0 ≤ a ∧ a ≤ (xs.length : Int) - 1 then (match pathF xs (a.toNat + 1) a.toNat with | some l => l.any fun y => decide (y = x) | none => false) else false

theorem q84_is (xs : List (Ty.den T128)) (hl : xs.length ≤ 1048576) (a x : Int) : q84 big (xs, a, x, ()) = some (ext xs a x) := by
  have hbig : 2097153 < big := by decide
  rw [q84_eq, q122_eq, q71_eq, inRange, wrap64 (n := (xs.length : Int) - 1) (by omega) (by omega)]
  unfold ext
  by_cases hr : 0 ≤ a ∧ a ≤ (xs.length : Int) - 1
  · rw [decide_eq_true hr, if_pos hr]
    simp only [Option.bind_some, Bool.not_true]
    have h1 := r122_is xs hl (a.toNat + 1) big a.toNat [a] (by omega) (by omega) (by omega) (by simp; omega)
    rw [show ((a.toNat : Nat) : Int) = a by omega] at h1
    have h1 : r122_4 big (xs, a, [a], ()) () = _ := h1
    refine Eq.trans (congrArg (fun q : Option (List Int × Bool × Unit) => q.bind fun y => bif y.2.1 then (q123 big (y.1, x, ())).bind fun y => some y else some false) h1) ?_
    cases hp : pathF xs (a.toNat + 1) a.toNat with
    | none => rfl
    | some l =>
      obtain ⟨t, rfl⟩ := path_nil xs hp
      have hll := path_len xs _ _ _ hp
      have hl2 : ((a.toNat : Int) :: t).length ≤ 2097152 := by omega
      obtain ⟨v, h2, h3⟩ := r137_is ((a.toNat : Int) :: t) x hl2 big 0 (by omega) (Nat.zero_le _)
      rw [Int.natCast_zero] at h2
      rw [List.drop_zero] at h3
      have e0 : [a] ++ t = (a.toNat : Int) :: t := by rw [show ((a.toNat : Nat) : Int) = a by omega]; rfl
      show ((q123 big ([a] ++ t, x, ())).bind fun y => some y) = _
      rw [e0, q123_eq, q137_eq]
      refine Eq.trans (congrArg (fun q : Option Int => (q.bind fun y => some (decide ((0 : Int) ≤ y))).bind fun y => some y) h2) ?_
      simp only [Option.bind_some]
      rw [h3]
  · rw [decide_eq_false hr, if_neg hr]
    rfl
theorem q82_is (xs : List (Ty.den T128)) (hl : xs.length ≤ 1048576) (a x : Int) (hr : 0 ≤ a ∧ a ≤ (xs.length : Int) - 1) : q82 big (xs, a, x, ()) = some (ext xs a x) := by
  have hbig : 2097153 < big := by decide
  rw [q82_eq, q121_eq]
  unfold ext
  rw [if_pos hr]
  obtain ⟨v, h1, h2⟩ := r121_is xs hl (a.toNat + 1) big a.toNat 0 (by omega) (by omega) (by omega) (Int.le_refl _) (by omega)
  rw [show ((a.toNat : Nat) : Int) = a by omega] at h1
  rw [h1]
  simp only [Option.bind_some]
  rw [h2]
  cases hp : pathF xs (a.toNat + 1) a.toNat with
  | none => rfl
  | some l =>
    have := r82_is xs x (a.toNat + 1) big a.toNat l (by omega) (by omega) (by omega) hp
    rw [show ((a.toNat : Nat) : Int) = a by omega] at this
    exact this
theorem law6 (x : T46.den) (a1 : T48.den) (a2 : Int) (hx : WfD T46 x) : q6 big (x, a1, a2, ()) = some true := by
  rw [q6_eq]
  simp only [both_self]
  refine law_sz (psz28 x 1048576 hx (by decide) (by decide)) fun hb _ => ?_
  have hl : List.length x ≤ 1048576 := hb.1
  obtain ⟨b, h1, h2⟩ : ∃ b, q29 big (x, a1, a2, ()) = some b ∧ q32 big (x, a1, a2, ()) = some b := by
    rw [q29_eq, q32_eq, q84_is x hl, q68_eq, q71_eq, inRange, wrap64 (n := (List.length x : Int) - 1) (by omega) (by omega)]
    by_cases hr : (0 : Int) ≤ a2 ∧ a2 ≤ (List.length x : Int) - 1
    · rw [q82_is x hl a2 _ hr, decide_eq_true hr]
      simp only [Option.bind_some, Bool.not_true, cond_false, cond_true]
      cases ext x a2 a1.2.2.1 with
      | true => exact ⟨true, rfl, rfl⟩
      | false =>
        have hk : a2.toNat < List.length x := by omega
        simp only [cond_false, if_pos hr.1]
        rw [nth_at hk]
        exact ⟨_, rfl, rfl⟩
    · rw [decide_eq_false hr]
      have he : ext x a2 a1.2.2.1 = false := by unfold ext; rw [if_neg hr]
      rw [he]
      exact ⟨false, rfl, rfl⟩
  simp only [pto30 x hb, Option.bind_some, h1, h2, peq33 x hb, beq_self_eq_true, Bool.not_true, cond_false]

end Go.Sx.Try
