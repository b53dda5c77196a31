/- The helpers of the laws. -/
import Derived.Test.YthjmknhkfkofgaaM7
import Derived.Test.YthjmknhkfkofgaaFn4
set_option linter.unusedVariables false
set_option maxRecDepth 100000
namespace Go.Sx.Try
open Go Go.Sx Go.Proofs

theorem psz18 (x : T33.den) (a : Int) (hw : WfD T33 x) (h0 : 0 ≤ a) (h1 : a ≤ 1048576) : SzR (q18 big (x, a, ())) a (Bd T33 x) := by
  rw [q18_eq]
  exact (szR_len (K := some) hw.1 h0 h1 fun v _ _ _ => szR_end).imp fun h => ⟨h.1, fun y _ => Bd_flat rfl y⟩

theorem pto40 (x : T58.den) (h : Bd T58 x) : q40 big (x, ()) = some x := by
  rw [q40_eq]

theorem pto20 (x : T33.den) (h : Bd T33 x) : q20 big (x, ()) = some x := by
  have := copy_ok (g := fun y => some y) (f := fun y => y) (r := fun n i b => r20_3 n (x, i, ()) (b, ())) (n := big) (q20_eq big x) (fun n i b => r20_3_eq n x i b) (fun _ _ => rfl) h.1 (by decide)
  simpa using this

theorem peq66 (x : T67.den) (h : Bd T67 x) : q66 big (x, x, ()) = some true := by
  rw [q66_eq]
  simp only [decide_true, Bool.not_true, cond_false]

theorem peq22 (x : T36.den) (h : Bd T36 x) : q22 big (x, x, ()) = some true := 
  eq_ok (e := fun y y1 => q66 big (y, y1, ())) (r := fun n i => r22_4 n (x, x, i, ()) ()) (n := big) (q22_eq big x x) (fun n i => r22_4_eq n x x i) (fun y hy => peq66 y (h.2 y hy)) h.1 (by decide)

end Go.Sx.Try

set_option maxRecDepth 100000
namespace Go.Sx.Try
open Go Go.Sx Go.Proofs

/-- two votes of one voter that do not agree -/
def conf (v w : T67.den) : Bool := bif decide (v.2.2.2.1 = w.2.2.2.1) then (bif decide (v.1 = w.1) then (bif decide (v.2.1 = w.2.1) then !decide (v.2.2.1 = w.2.2.1) else false) else false) else false
theorem conf_comm (v w : T67.den) : conf v w = conf w v := by
  unfold conf
  rw [show decide (v.2.2.2.1 = w.2.2.2.1) = decide (w.2.2.2.1 = v.2.2.2.1) from decide_eq_decide.2 eq_comm, show decide (v.1 = w.1) = decide (w.1 = v.1) from decide_eq_decide.2 eq_comm,
    show decide (v.2.1 = w.2.1) = decide (w.2.1 = v.2.1) from decide_eq_decide.2 eq_comm, show decide (v.2.2.1 = w.2.2.1) = decide (w.2.2.1 = v.2.2.1) from decide_eq_decide.2 eq_comm]
/-- is there such a pair from there on? -/
def tw (xs : List (Ty.den T67)) : Nat → Nat → Bool
  | 0, _ => false
  | m + 1, k => (match xs[k]? with | some v => (xs.take k).any (conf v) | none => false) || tw xs m (k + 1)
theorem tw_at {xs : List (Ty.den T67)} {k : Nat} (hk : k < xs.length) : tw xs (xs.length - k) k = ((xs.take k).any (conf xs[k]) || tw xs (xs.length - (k + 1)) (k + 1)) := by
  rw [show xs.length - k = (xs.length - (k + 1)) + 1 by omega]
  simp only [tw, List.getElem?_eq_getElem hk]

theorem q74_is (y v : T67.den) : q74 big (y, v, ()) = some (conf v y, v) := by
  rw [q74_eq, conf_comm]
  unfold conf
  cases decide (y.2.2.2.1 = v.2.2.2.1) <;> cases decide (y.1 = v.1) <;> cases decide (y.2.1 = v.2.1) <;> rfl
theorem r119_is (l : List (Ty.den T67)) (v : T67.den) (hl : l.length ≤ 1048576) : ∀ (n k : Nat), l.length < n + k → k ≤ l.length → ∃ z : Int, r119_74_2 n (l, (l.length : Int), (k : Int), ()) (v, ()) = some (z, v) ∧ decide (0 ≤ z) = (l.drop k).any (conf v)
  | 0, k, h, h2 => by omega
  | n + 1, k, h, h2 => by
    refine (fun ⟨z, a, b⟩ => ⟨z, (r119_74_2_eq n l (l.length : Int) (k : Int) v).trans a, b⟩ : (∃ z : Int, _ = some (z, v) ∧ decide (0 ≤ z) = (l.drop k).any (conf v)) → _) ?_
    rcases Nat.lt_or_ge k l.length with hk | hk
    · rw [decide_eq_true (show (k : Int) < (l.length : Int) by omega)]
      simp only [cond_true, if_pos (Int.natCast_nonneg k), Int.toNat_natCast]
      rw [nth_at hk]
      simp only [Option.bind_some]
      have hq : q74 big (l[k], v, ()) = some (conf v l[k], v) := q74_is l[k] v
      rw [List.drop_eq_getElem_cons hk, List.any_cons]
      cases hc : conf v l[k] with
      | true =>
        rw [hc] at hq
        refine ⟨(k : Int), ?_, by simp⟩
        show ((q74 big (l[k], v, ())).bind fun y => bif y.fst then some ((k : Int), y.snd) else _) = _
        rw [hq]; rfl
      | false =>
        rw [hc] at hq
        obtain ⟨z, h3, h4⟩ := r119_is l v hl n (k + 1) (by omega) (by omega)
        refine ⟨z, ?_, by rw [h4]; rfl⟩
        show ((q74 big (l[k], v, ())).bind fun y => bif y.fst then _ else r119_74_2 n (l, (l.length : Int), IntKind.wrap .i64 ((k : Int) + 1), ()) (y.snd, ())) = _
        rw [hq]
        simp only [Option.bind_some, cond_false]
        rw [wrap_succ (by omega)]
        exact h3
    · rw [decide_eq_false (show ¬ (k : Int) < (l.length : Int) by omega), List.drop_eq_nil_of_le hk]
      exact ⟨-1, rfl, rfl⟩
theorem q73_is (l : List (Ty.den T67)) (v : T67.den) (hl : l.length ≤ 1048576) : q73_74 big (l, (v, ()), ()) = some (l.any (conf v), v) := by
  obtain ⟨z, h1, h2⟩ := r119_is l v hl big 0 (by have : 1048576 < big := by decide
                                                 omega) (Nat.zero_le _)
  rw [q73_74_eq, q119_74_eq]
  rw [Int.natCast_zero] at h1
  have h1 : r119_74_2 big (l, (l.length : Int), 0, ()) (v, ()) = some (z, v) := h1
  rw [List.drop_zero] at h2
  rw [← h2]
  exact congrArg (fun q : Option (Int × T67.den) => q.bind fun y => some (decide (0 ≤ y.1), y.2)) h1
theorem r21_is (xs : List (Ty.den T67)) (hl : xs.length ≤ 1048576) : ∀ (n k : Nat), xs.length < n + k → k ≤ xs.length → r21_2 n (xs, xs, (xs.length : Int), (k : Int), ()) () = some (tw xs (xs.length - k) k)
  | 0, k, h, h2 => by omega
  | n + 1, k, h, h2 => by
    rw [r21_2_eq]
    rcases Nat.lt_or_ge k xs.length with hk | hk
    · rw [decide_eq_true (show (k : Int) < (xs.length : Int) by omega)]
      have hle : (k : Int) ≤ (xs.length : Int) := by omega
      simp only [cond_true, if_pos (Int.natCast_nonneg k), Int.toNat_natCast]
      rw [nth_at hk]
      simp only [Option.bind_some, if_pos hle]
      have hq : q73_74 big (List.take (k - 0) (List.drop 0 xs), (xs[k], ()), ()) = some ((xs.take k).any (conf xs[k]), xs[k]) := q73_is (xs.take k) xs[k] (by simp; omega)
      rw [hq, tw_at hk]
      simp only [Option.bind_some]
      cases (xs.take k).any (conf xs[k]) with
      | true => rfl
      | false =>
        simp only [cond_false, Bool.false_or]
        rw [wrap_succ (by omega)]
        exact r21_is xs hl n (k + 1) (by omega) (by omega)
    · rw [decide_eq_false (show ¬ (k : Int) < (xs.length : Int) by omega), show xs.length - k = 0 by omega]
      rfl
theorem q21_is (xs : T36.den) (h : List.length xs ≤ 1048576) : q21 big (xs, ()) = some (tw xs (List.length xs) 0) := by
  rw [q21_eq]
  have := r21_is xs h big 0 (by have : 1048576 < big := by decide
                                omega) (Nat.zero_le _)
  rw [Int.natCast_zero] at this
  exact this
theorem r19_is (xs : List (Ty.den T67)) (hl : xs.length ≤ 1048576) : ∀ (n : Nat),
    (∀ k : Nat, k ≤ xs.length → (xs.length - k) * (xs.length + 3) < n → r19_2 n (xs, (k : Int), ()) () = some (tw xs (xs.length - k) k)) ∧
    (∀ (k j : Nat) (hk : k < xs.length), j ≤ k → (k - j) + 1 + (xs.length - (k + 1)) * (xs.length + 3) < n → r19_5 n (xs, (k : Int), (j : Int), ()) () = some (((xs.take k).drop j).any (conf xs[k]) || tw xs (xs.length - (k + 1)) (k + 1)))
  | 0 => ⟨fun _ _ h => by omega, fun _ _ _ _ h => by omega⟩
  | n + 1 => by
    obtain ⟨ih1, ih2⟩ := r19_is xs hl n
    refine ⟨fun k hk hc => ?_, fun k j hk hj hc => ?_⟩
    · rw [r19_2_eq]
      rcases Nat.lt_or_ge k xs.length with hk | hk
      · rw [decide_eq_true (show (k : Int) < (xs.length : Int) by omega), tw_at hk]
        have e : (xs.length - k) * (xs.length + 3) = (xs.length + 3) + (xs.length - (k + 1)) * (xs.length + 3) := by
          rw [show xs.length - k = (xs.length - (k + 1)) + 1 by omega, Nat.add_mul, Nat.one_mul, Nat.add_comm]
        have := ih2 k 0 hk (Nat.zero_le _) (by omega)
        rw [Int.natCast_zero, List.drop_zero] at this
        exact this
      · rw [decide_eq_false (show ¬ (k : Int) < (xs.length : Int) by omega), show xs.length - k = 0 by omega]
        rfl
    · rw [r19_5_eq]
      rcases Nat.lt_or_ge j k with hjk | hjk
      · have hjx : j < xs.length := by omega
        rw [decide_eq_true (show (j : Int) < (k : Int) by omega)]
        simp only [cond_true, if_pos (Int.natCast_nonneg k), if_pos (Int.natCast_nonneg j), Int.toNat_natCast]
        rw [nth_at hk, nth_at hjx]
        simp only [Option.bind_some]
        have hd : (xs.take k).drop j = xs[j] :: (xs.take k).drop (j + 1) := by
          rw [List.drop_eq_getElem_cons (by simp; omega)]
          simp
        rw [hd, List.any_cons, wrap_succ (by omega), ih2 k (j + 1) hk (by omega) (by omega)]
        have key : ∀ (a b c d : Bool) (X : Option Bool) (Y : Bool), X = some Y → (bif a then (bif b then (bif c then (bif !d then some true else X) else X) else X) else X) = some ((bif a then (bif b then (bif c then !d else false) else false) else false) || Y) := by
          intro a b c d X Y hX
          subst hX
          cases a <;> cases b <;> cases c <;> cases d <;> rfl
        rw [Bool.or_assoc]
        exact key _ _ _ _ _ _ rfl
      · rw [decide_eq_false (show ¬ (j : Int) < (k : Int) by omega)]
        simp only [cond_false]
        rw [wrap_succ (by omega), ih1 (k + 1) (by omega) (by omega), List.drop_eq_nil_of_le (by simp; omega)]
        rfl
theorem q19_is (xs : T36.den) (h : List.length xs ≤ 1048576) : q19 big (xs, ()) = some (tw xs (List.length xs) 0) := by
  rw [q19_eq]
  have := (r19_is xs h big).1 0 (Nat.zero_le _) (by
    have h1 : (List.length xs - 0) * (List.length xs + 3) ≤ 1048576 * (1048576 + 3) := Nat.mul_le_mul (by omega) (by omega)
    have h2 : 1048576 * (1048576 + 3) < big := by decide
    omega)
  rw [Int.natCast_zero] at this
  exact this
theorem law4 (x : T33.den) (hx : WfD T33 x) : q4 big (x, ()) = some true := by
  rw [q4_eq]
  refine law_sz (psz18 x 1048576 hx (by decide) (by decide)) fun hb _ => ?_
  simp only [pto20 x hb, Option.bind_some, q19_is x hb.1, q21_is x hb.1, peq22 x hb, beq_self_eq_true, Bool.not_true, cond_false]

end Go.Sx.Try
