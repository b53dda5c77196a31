/- The helpers of the laws. -/
import Derived.Test.YthjmknhkfkofgaaM7
import Derived.Test.YthjmknhkfkofgaaFn5
set_option linter.unusedVariables false
set_option maxRecDepth 100000
namespace Go.Sx.Try
open Go Go.Sx Go.Proofs

theorem psz67 (x : T23.den) (a : Int) (hw : WfD T23 x) (h0 : 0 ≤ a) (h1 : a ≤ 1048576) : SzR (q67 big (x, a, ())) a (Bd T23 x) := by
  rw [q67_eq]
  exact (szR_len (K := some) (hw.2.1) h0 h1 fun v0 k0 l0 _ => szR_end).imp fun h => (Bd_flat rfl _)

theorem psz75 (x : T97.den) (a : Int) (hw : WfD T97 x) (h0 : 0 ≤ a) (h1 : a ≤ 1048576) : SzR (q75 big (x, a, ())) a (Bd T97 x) := 
  szR_list (qe := fun y a => q67 big (y, a, ())) (r := fun n a i => r75_5 n (x, a, i, ()) ()) (n := big) hw.1 h0 h1 (q75_eq big x a) (fun n a i => r75_5_eq n x a i) (fun y hy a h0 h1 => psz67 y a (hw.2 y hy) h0 h1) (by decide)

theorem psz23 (x : T40.den) (a : Int) (hw : WfD T40 x) (h0 : 0 ≤ a) (h1 : a ≤ 1048576) : SzR (q23 big (x, a, ())) a (Bd T40 x) := 
  szR_list (qe := fun y a => q75 big (y, a, ())) (r := fun n a i => r23_5 n (x, a, i, ()) ()) (n := big) hw.1 h0 h1 (q23_eq big x a) (fun n a i => r23_5_eq n x a i) (fun y hy a h0 h1 => psz75 y a (hw.2 y hy) h0 h1) (by decide)

theorem pto70 (x : T23.den) (h : Bd T23 x) : q70 big (x, ()) = some x := by
  rw [q70_eq]

theorem pto76 (x : T97.den) (h : Bd T97 x) : q76 big (x, ()) = some x := by
  have := copy_ok (g := fun y => some y) (f := fun y => y) (r := fun n i b => r76_3 n (x, i, ()) (b, ())) (n := big) (q76_eq big x) (fun n i b => r76_3_eq n x i b) (fun _ _ => rfl) h.1 (by decide)
  simpa using this

theorem pto25 (x : T40.den) (h : Bd T40 x) : q25 big (x, ()) = some x := by
  have := copy_ok (g := fun y => q76 big (y, ())) (f := fun y => y) (r := fun n i b => r25_3 n (x, i, ()) (b, ())) (n := big) (q25_eq big x) (fun n i b => r25_3_eq n x i b) (fun y hy => pto76 y (h.2 y hy)) h.1 (by decide)
  simpa using this

theorem peq120 (x : T28.den) (h : Bd T28 x) : q120 big (x, x, ()) = some true := by
  rw [q120_eq]
  simp only [decide_true, Bool.not_true, cond_false]

theorem peq80 (x : T103.den) (h : Bd T103 x) : q80 big (x, x, ()) = some true := 
  eq_ok (e := fun y y1 => q120 big (y, y1, ())) (r := fun n i => r80_4 n (x, x, i, ()) ()) (n := big) (q80_eq big x x) (fun n i => r80_4_eq n x x i) (fun y hy => peq120 y (h.2 y hy)) h.1 (by decide)

theorem peq27 (x : T43.den) (h : Bd T43 x) : q27 big (x, x, ()) = some true := 
  eq_ok (e := fun y y1 => q80 big (y, y1, ())) (r := fun n i => r27_4 n (x, x, i, ()) ()) (n := big) (q27_eq big x x) (fun n i => r27_4_eq n x x i) (fun y hy => peq80 y (h.2 y hy)) h.1 (by decide)

end Go.Sx.Try

set_option maxRecDepth 100000
namespace Go.Sx.Try
open Go Go.Sx Go.Proofs

theorem r79_step (xs ys : List (Ty.den T28)) : ∀ n i, (fun n i => r79_4 n (xs, ys, (xs.length : Int), i, ()) ()) (n + 1) i = bif decide (i < (xs.length : Int)) then (if (0 : Int) ≤ i then (nth xs i.toNat).bind fun y => if (0 : Int) ≤ i then (nth ys i.toNat).bind fun y1 => (some (eqD T28 y y1)).bind fun b =>
      bif !b then some false else (fun n i => r79_4 n (xs, ys, (xs.length : Int), i, ()) ()) n (IntKind.wrap .i64 (i + 1)) else none else none) else some true := fun n i => r79_4_eq n xs ys (xs.length : Int) i
theorem q79_is (xs ys : List (Ty.den T28)) (h : xs.length ≤ 1048576) : q79 big (xs, ys, ()) = some (eqL (eqD T28) xs ys) :=
  eq2_ok (e := fun y z => some (eqD T28 y z)) (f := eqD T28) (xs := xs) (ys := ys) (r := fun n i => r79_4 n (xs, ys, (xs.length : Int), i, ()) ()) (n := big) (q79_eq big xs ys) (r79_step xs ys) (fun _ _ _ _ => rfl) h (by decide)
theorem q78_is (xs ys : List (Ty.den T28)) (h : xs.length ≤ 1048576) : q78 big (xs, ys, ()) = some (eqL (eqD T28) xs ys) := by
  rw [q78_eq, q79_is xs ys h]; rfl
theorem r77_step (xs ys : List (List (Ty.den T28))) : ∀ n i, (fun n i => r77_78_4 n (ys, xs, (xs.length : Int), i, ()) ()) (n + 1) i = bif decide (i < (xs.length : Int)) then (if (0 : Int) ≤ i then (nth xs i.toNat).bind fun y => if (0 : Int) ≤ i then (nth ys i.toNat).bind fun y1 => (q78 big (y, y1, ())).bind fun b =>
      bif !b then some false else (fun n i => r77_78_4 n (ys, xs, (xs.length : Int), i, ()) ()) n (IntKind.wrap .i64 (i + 1)) else none else none) else some true := fun n i => r77_78_4_eq n ys xs (xs.length : Int) i
theorem q26_is (xs ys : T43.den) (h : Bd T43 xs) : q26 big (xs, ys, ()) = some (eqL (eqL (eqD T28)) xs ys) := by
  have := eq2_ok (e := fun y z => q78 big (y, z, ())) (f := eqL (eqD T28)) (xs := (xs : List (List (Ty.den T28)))) (ys := ys) (r := fun n i => r77_78_4 n (ys, xs, (List.length xs : Int), i, ()) ()) (n := big) (q77_78_eq big xs ys ()) (r77_step xs ys) (fun y hy z _ => q78_is y z (h.2 y hy).1) h.1 (by decide)
  rw [q26_eq, this]; rfl
theorem r24_step (xs ys : List (List (Ty.den T28))) : ∀ n i, (fun n i => r24_4 n (xs, ys, i, ()) ()) (n + 1) i = bif decide (i < (xs.length : Int)) then (if (0 : Int) ≤ i then (nth xs i.toNat).bind fun y => if (0 : Int) ≤ i then (nth ys i.toNat).bind fun y1 =>
      bif !decide ((y.length : Int) = (y1.length : Int)) then some false else (fun n i j => r24_9 n (xs, ys, i, j, ()) ()) n i 0 else none else none) else some true := fun n i => r24_4_eq n xs ys i
theorem r24_step' (xs ys : List (List (Ty.den T28))) : ∀ n i j, (fun n i j => r24_9 n (xs, ys, i, j, ()) ()) (n + 1) i j = if (0 : Int) ≤ i then (nth xs i.toNat).bind fun y => bif decide (j < (y.length : Int)) then (if (0 : Int) ≤ i then (nth xs i.toNat).bind fun y => if (0 : Int) ≤ j then (nth y j.toNat).bind fun y =>
      if (0 : Int) ≤ i then (nth ys i.toNat).bind fun y1 => if (0 : Int) ≤ j then (nth y1 j.toNat).bind fun y2 => bif !eqD T28 y y2 then some false else (fun n i j => r24_9 n (xs, ys, i, j, ()) ()) n i (IntKind.wrap .i64 (j + 1)) else none else none else none else none) else (fun n i => r24_4 n (xs, ys, i, ()) ()) n (IntKind.wrap .i64 (i + 1)) else none := fun n i j => r24_9_eq n xs ys i j
theorem q24_is (xs ys : T43.den) (h : Bd T43 xs) : q24 big (xs, ys, ()) = some (eqL (eqL (eqD T28)) xs ys) := by
  rw [q24_eq]
  by_cases he : List.length xs = List.length ys
  · rw [decide_eq_true (show (List.length xs : Int) = (List.length ys : Int) by omega)]
    simp only [Bool.not_true, cond_false]
    have hc := cost_le (b := 1048576) (xs : List (List (Ty.den T28))) (fun x hx => (h.2 x hx).1)
    have hl : List.length xs ≤ 1048576 := h.1
    have hm : List.length xs * (1048576 + 2) ≤ 1048576 * (1048576 + 2) := Nat.mul_le_mul_right _ hl
    have := (eq2_nest (f := eqD T28) (xs := (xs : List (List (Ty.den T28)))) (ys := ys) (r := fun n i => r24_4 n (xs, ys, i, ()) ()) (r' := fun n i j => r24_9 n (xs, ys, i, j, ()) ()) (r24_step xs ys) (r24_step' xs ys) he.symm (by omega) (fun x hx => Nat.le_trans (h.2 x hx).1 (by decide)) big).1 0 (Nat.zero_le _) (by
      rw [List.drop_zero]
      have : 1048576 * (1048576 + 2) < big := by decide
      omega)
    rw [Int.natCast_zero] at this
    exact this
  · rw [decide_eq_false (show ¬ (List.length xs : Int) = (List.length ys : Int) by omega), eqL_ne he]
    rfl
theorem law5 (x y : T40.den) (hx : WfD T40 x) (hy : WfD T40 y) : q5 big (x, y, ()) = some true := by
  rw [q5_eq]
  obtain ⟨v, h1, h2, h3⟩ := psz23 x 1048576 hx (by decide) (by decide)
  rw [h1]
  simp only [Option.bind_some]
  by_cases hv : v < 0
  · rw [decide_eq_true hv]; rfl
  · have hb := h3 (by omega)
    rw [decide_eq_false hv]
    simp only [cond_false]
    refine law_sz (psz23 y v hy (by omega) (by omega)) fun hc _ => ?_
    simp only [pto25 x hb, pto25 y hc, Option.bind_some, q24_is x y hb, q26_is x y hb, peq27 x hb, peq27 y hc, beq_self_eq_true, Bool.not_true, cond_false]

end Go.Sx.Try
