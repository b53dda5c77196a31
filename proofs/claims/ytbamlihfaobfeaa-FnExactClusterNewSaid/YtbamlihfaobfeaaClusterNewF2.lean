/- The functions of the seat: what each comes to. -/
import Derived.Test.YtbamlihfaobfeaaTypes
import Derived.Test.YtbamlihfaobfeaaClusterNewF1
set_option linter.unusedVariables false
set_option linter.unusedSimpArgs false
set_option maxRecDepth 100000
namespace Go.Sx.Try
open Go Go.Sx Go.Proofs

noncomputable def l_s_l15Wait : List (Nat × Con) := [(166, c_s_l15Honest), (28, c_s_TimedOut), (119, c_s_l15Post)]
theorem l_s_l15Wait_ok : ∀ q ∈ l_s_l15Wait, ConOk Try.prog q.1 q.2 := Try.cons_cons c_s_l15Honest_ok (Try.cons_cons c_s_TimedOut_ok (Try.cons_cons c_s_l15Post_ok (Try.cons_nil)))
def kp_s_l15Wait : KP := []
noncomputable def q_s_l15Wait (n : Nat) (x : AP.denL [.mu uICluster, .ro tInt]) := evX (true, true, [5, 6, 8, 9, 15, 16, 17, 22, 23, 24, 32, 33, 34]) l_s_l15Wait kp_s_l15Wait [none] Try.f125 (shO (shV tBool) [.mu uICluster]) n (AP.encL [.mu uICluster, .ro tInt] x)
noncomputable def c_s_l15Wait : Con := apS [.mu uICluster, .ro tInt] true (shO (shV tBool) [.mu uICluster]) (q_s_l15Wait big)
theorem c_s_l15Wait_ok : ConOk Try.prog 125 c_s_l15Wait := apS_ok ⟨Try.f125, by kernel_rfl, rfl, by decide⟩ fun _ _ h => evX_ok l_s_l15Wait_ok (f := Try.f125) (by kernel_rfl) rfl (by kernel_rfl) (by kernel_rfl) big h
noncomputable def Q_s_l15Wait (n : Nat) (a0 : DICluster) (a1 : Int) : Option (Bool × DICluster × Unit) := q_s_l15Wait n (a0, a1, ())
theorem Q_s_l15Wait_eq (n : Nat) (a0 : DICluster) (a1 : Int) : Q_s_l15Wait n a0 a1 =
    (Q_s_l15Honest big a0 a1).bind fun y =>
 bif !y then some (false, a0, PUnit.unit)
 else
 if (0 : Int) ≤ a1 then
 if a1 < (↑(List.length a0.snd.snd.snd.snd.fst) : Int) then
 both
 ((nth a0.snd.snd.snd.snd.fst a1.toNat).bind fun y =>
 both
 ((Q_s_TimedOut big y a0.fst).bind fun y_1 =>
 (updO a0.snd.snd.snd.snd.fst a1.toNat y).bind fun y =>
 both
 (bif !y_1.snd.snd.fst then
 some
 (false, (a0.fst, a0.snd.fst, a0.snd.snd.fst, a0.snd.snd.snd.fst, y, a0.snd.snd.snd.snd.snd),
 PUnit.unit)
 else
 if (0 : Int) ≤ a1 then
 if a1 < (↑y.length : Int) then
 (nth y a1.toNat).bind fun y_2 =>
 (updO y a1.toNat y_1.fst).bind fun y =>
 (Q_s_l15Post big
 (a0.fst, a0.snd.fst, a0.snd.snd.fst, a0.snd.snd.snd.fst, y,
 a0.snd.snd.snd.snd.snd)
 [y_1.snd.fst]).bind
 fun y => some (true, y.snd)
 else none
 else none)
 (bif !y_1.snd.snd.fst then
 some
 (false, (a0.fst, a0.snd.fst, a0.snd.snd.fst, a0.snd.snd.snd.fst, y, a0.snd.snd.snd.snd.snd),
 PUnit.unit)
 else
 if (0 : Int) ≤ a1 then
 if a1 < (↑y.length : Int) then
 (nth y a1.toNat).bind fun y_2 =>
 (updO y a1.toNat y_1.fst).bind fun y =>
 (Q_s_l15Post big
 (a0.fst, a0.snd.fst, a0.snd.snd.fst, a0.snd.snd.snd.fst, y,
 a0.snd.snd.snd.snd.snd)
 [y_1.snd.fst]).bind
 fun y => some (true, y.snd)
 else none
 else none))
 (both
 (both
 ((Q_s_TimedOut big y a0.fst).bind fun y_1 =>
 (updO a0.snd.snd.snd.snd.fst a1.toNat y).bind fun y =>
 bif !y_1.snd.snd.fst then
 some
 (false, (a0.fst, a0.snd.fst, a0.snd.snd.fst, a0.snd.snd.snd.fst, y, a0.snd.snd.snd.snd.snd),
 PUnit.unit)
 else
 if (0 : Int) ≤ a1 then
 if a1 < (↑y.length : Int) then
 (nth y a1.toNat).bind fun y_2 =>
 (updO y a1.toNat y_1.fst).bind fun y =>
 (Q_s_l15Post big
 (a0.fst, a0.snd.fst, a0.snd.snd.fst, a0.snd.snd.snd.fst, y,
 a0.snd.snd.snd.snd.snd)
 [y_1.snd.fst]).bind
 fun y => some (true, y.snd)
 else none
 else none)
 ((Q_s_TimedOut big y a0.fst).bind fun y_1 =>
 (updO a0.snd.snd.snd.snd.fst a1.toNat y).bind fun y =>
 bif !y_1.snd.snd.fst then
 some
 (false, (a0.fst, a0.snd.fst, a0.snd.snd.fst, a0.snd.snd.snd.fst, y, a0.snd.snd.snd.snd.snd),
 PUnit.unit)
 else
 if (0 : Int) ≤ a1 then
 if a1 < (↑y.length : Int) then
 (nth y a1.toNat).bind fun y_2 =>
 (updO y a1.toNat y_1.fst).bind fun y =>
 (Q_s_l15Post big
 (a0.fst, a0.snd.fst, a0.snd.snd.fst, a0.snd.snd.snd.fst, y,
 a0.snd.snd.snd.snd.snd)
 [y_1.snd.fst]).bind
 fun y => some (true, y.snd)
 else none
 else none))
 (both
 ((Q_s_TimedOut big y a0.fst).bind fun y_1 =>
 (updO a0.snd.snd.snd.snd.fst a1.toNat y).bind fun y =>
 bif !y_1.snd.snd.fst then
 some
 (false, (a0.fst, a0.snd.fst, a0.snd.snd.fst, a0.snd.snd.snd.fst, y, a0.snd.snd.snd.snd.snd),
 PUnit.unit)
 else
 if (0 : Int) ≤ a1 then
 if a1 < (↑y.length : Int) then
 (nth y a1.toNat).bind fun y_2 =>
 (updO y a1.toNat y_1.fst).bind fun y =>
 (Q_s_l15Post big
 (a0.fst, a0.snd.fst, a0.snd.snd.fst, a0.snd.snd.snd.fst, y,
 a0.snd.snd.snd.snd.snd)
 [y_1.snd.fst]).bind
 fun y => some (true, y.snd)
 else none
 else none)
 ((Q_s_TimedOut big y a0.fst).bind fun y_1 =>
 (updO a0.snd.snd.snd.snd.fst a1.toNat y).bind fun y =>
 bif !y_1.snd.snd.fst then
 some
 (false, (a0.fst, a0.snd.fst, a0.snd.snd.fst, a0.snd.snd.snd.fst, y, a0.snd.snd.snd.snd.snd),
 PUnit.unit)
 else
 if (0 : Int) ≤ a1 then
 if a1 < (↑y.length : Int) then
 (nth y a1.toNat).bind fun y_2 =>
 (updO y a1.toNat y_1.fst).bind fun y =>
 (Q_s_l15Post big
 (a0.fst, a0.snd.fst, a0.snd.snd.fst, a0.snd.snd.snd.fst, y,
 a0.snd.snd.snd.snd.snd)
 [y_1.snd.fst]).bind
 fun y => some (true, y.snd)
 else none
 else none))))
 (both
 (both
 ((nth a0.snd.snd.snd.snd.fst a1.toNat).bind fun y =>
 both
 ((Q_s_TimedOut big y a0.fst).bind fun y_1 =>
 (updO a0.snd.snd.snd.snd.fst a1.toNat y).bind fun y =>
 both
 (bif !y_1.snd.snd.fst then
 some
 (false,
 (a0.fst, a0.snd.fst, a0.snd.snd.fst, a0.snd.snd.snd.fst, y, a0.snd.snd.snd.snd.snd),
 PUnit.unit)
 else
 if (0 : Int) ≤ a1 then
 if a1 < (↑y.length : Int) then
 (nth y a1.toNat).bind fun y_2 =>
 (updO y a1.toNat y_1.fst).bind fun y =>
 (Q_s_l15Post big
 (a0.fst, a0.snd.fst, a0.snd.snd.fst, a0.snd.snd.snd.fst, y,
 a0.snd.snd.snd.snd.snd)
 [y_1.snd.fst]).bind
 fun y => some (true, y.snd)
 else none
 else none)
 (bif !y_1.snd.snd.fst then
 some
 (false,
 (a0.fst, a0.snd.fst, a0.snd.snd.fst, a0.snd.snd.snd.fst, y, a0.snd.snd.snd.snd.snd),
 PUnit.unit)
 else
 if (0 : Int) ≤ a1 then
 if a1 < (↑y.length : Int) then
 (nth y a1.toNat).bind fun y_2 =>
 (updO y a1.toNat y_1.fst).bind fun y =>
 (Q_s_l15Post big
 (a0.fst, a0.snd.fst, a0.snd.snd.fst, a0.snd.snd.snd.fst, y,
 a0.snd.snd.snd.snd.snd)
 [y_1.snd.fst]).bind
 fun y => some (true, y.snd)
 else none
 else none))
 (both
 (both
 ((Q_s_TimedOut big y a0.fst).bind fun y_1 =>
 (updO a0.snd.snd.snd.snd.fst a1.toNat y).bind fun y =>
 bif !y_1.snd.snd.fst then
 some
 (false,
 (a0.fst, a0.snd.fst, a0.snd.snd.fst, a0.snd.snd.snd.fst, y, a0.snd.snd.snd.snd.snd),
 PUnit.unit)
 else
 if (0 : Int) ≤ a1 then
 if a1 < (↑y.length : Int) then
 (nth y a1.toNat).bind fun y_2 =>
 (updO y a1.toNat y_1.fst).bind fun y =>
 (Q_s_l15Post big
 (a0.fst, a0.snd.fst, a0.snd.snd.fst, a0.snd.snd.snd.fst, y,
 a0.snd.snd.snd.snd.snd)
 [y_1.snd.fst]).bind
 fun y => some (true, y.snd)
 else none
 else none)
 ((Q_s_TimedOut big y a0.fst).bind fun y_1 =>
 (updO a0.snd.snd.snd.snd.fst a1.toNat y).bind fun y =>
 bif !y_1.snd.snd.fst then
 some
 (false,
 (a0.fst, a0.snd.fst, a0.snd.snd.fst, a0.snd.snd.snd.fst, y, a0.snd.snd.snd.snd.snd),
 PUnit.unit)
 else
 if (0 : Int) ≤ a1 then
 if a1 < (↑y.length : Int) then
 (nth y a1.toNat).bind fun y_2 =>
 (updO y a1.toNat y_1.fst).bind fun y =>
 (Q_s_l15Post big
 (a0.fst, a0.snd.fst, a0.snd.snd.fst, a0.snd.snd.snd.fst, y,
 a0.snd.snd.snd.snd.snd)
 [y_1.snd.fst]).bind
 fun y => some (true, y.snd)
 else none
 else none))
 (both
 ((Q_s_TimedOut big y a0.fst).bind fun y_1 =>
 (updO a0.snd.snd.snd.snd.fst a1.toNat y).bind fun y =>
 bif !y_1.snd.snd.fst then
 some
 (false,
 (a0.fst, a0.snd.fst, a0.snd.snd.fst, a0.snd.snd.snd.fst, y, a0.snd.snd.snd.snd.snd),
 PUnit.unit)
 else
 if (0 : Int) ≤ a1 then
 if a1 < (↑y.length : Int) then
 (nth y a1.toNat).bind fun y_2 =>
 (updO y a1.toNat y_1.fst).bind fun y =>
 (Q_s_l15Post big
 (a0.fst, a0.snd.fst, a0.snd.snd.fst, a0.snd.snd.snd.fst, y,
 a0.snd.snd.snd.snd.snd)
 [y_1.snd.fst]).bind
 fun y => some (true, y.snd)
 else none
 else none)
 ((Q_s_TimedOut big y a0.fst).bind fun y_1 =>
 (updO a0.snd.snd.snd.snd.fst a1.toNat y).bind fun y =>
 bif !y_1.snd.snd.fst then
 some
 (false,
 (a0.fst, a0.snd.fst, a0.snd.snd.fst, a0.snd.snd.snd.fst, y, a0.snd.snd.snd.snd.snd),
 PUnit.unit)
 else
 if (0 : Int) ≤ a1 then
 if a1 < (↑y.length : Int) then
 (nth y a1.toNat).bind fun y_2 =>
 (updO y a1.toNat y_1.fst).bind fun y =>
 (Q_s_l15Post big
 (a0.fst, a0.snd.fst, a0.snd.snd.fst, a0.snd.snd.snd.fst, y,
 a0.snd.snd.snd.snd.snd)
 [y_1.snd.fst]).bind
 fun y => some (true, y.snd)
 else none
 else none))))
 (both
 (both
 ((nth a0.snd.snd.snd.snd.fst a1.toNat).bind fun y =>
 both
 ((Q_s_TimedOut big y a0.fst).bind fun y_1 =>
 (updO a0.snd.snd.snd.snd.fst a1.toNat y).bind fun y =>
 both
 (bif !y_1.snd.snd.fst then
 some
 (false,
 (a0.fst, a0.snd.fst, a0.snd.snd.fst, a0.snd.snd.snd.fst, y, a0.snd.snd.snd.snd.snd),
 PUnit.unit)
 else
 if (0 : Int) ≤ a1 then
 if a1 < (↑y.length : Int) then
 (nth y a1.toNat).bind fun y_2 =>
 (updO y a1.toNat y_1.fst).bind fun y =>
 (Q_s_l15Post big
 (a0.fst, a0.snd.fst, a0.snd.snd.fst, a0.snd.snd.snd.fst, y,
 a0.snd.snd.snd.snd.snd)
 [y_1.snd.fst]).bind
 fun y => some (true, y.snd)
 else none
 else none)
 (bif !y_1.snd.snd.fst then
 some
 (false,
 (a0.fst, a0.snd.fst, a0.snd.snd.fst, a0.snd.snd.snd.fst, y, a0.snd.snd.snd.snd.snd),
 PUnit.unit)
 else
 if (0 : Int) ≤ a1 then
 if a1 < (↑y.length : Int) then
 (nth y a1.toNat).bind fun y_2 =>
 (updO y a1.toNat y_1.fst).bind fun y =>
 (Q_s_l15Post big
 (a0.fst, a0.snd.fst, a0.snd.snd.fst, a0.snd.snd.snd.fst, y,
 a0.snd.snd.snd.snd.snd)
 [y_1.snd.fst]).bind
 fun y => some (true, y.snd)
 else none
 else none))
 (both
 (both
 ((Q_s_TimedOut big y a0.fst).bind fun y_1 =>
 (updO a0.snd.snd.snd.snd.fst a1.toNat y).bind fun y =>
 bif !y_1.snd.snd.fst then
 some
 (false,
 (a0.fst, a0.snd.fst, a0.snd.snd.fst, a0.snd.snd.snd.fst, y,
 a0.snd.snd.snd.snd.snd),
 PUnit.unit)
 else
 if (0 : Int) ≤ a1 then
 if a1 < (↑y.length : Int) then
 (nth y a1.toNat).bind fun y_2 =>
 (updO y a1.toNat y_1.fst).bind fun y =>
 (Q_s_l15Post big
 (a0.fst, a0.snd.fst, a0.snd.snd.fst, a0.snd.snd.snd.fst, y,
 a0.snd.snd.snd.snd.snd)
 [y_1.snd.fst]).bind
 fun y => some (true, y.snd)
 else none
 else none)
 ((Q_s_TimedOut big y a0.fst).bind fun y_1 =>
 (updO a0.snd.snd.snd.snd.fst a1.toNat y).bind fun y =>
 bif !y_1.snd.snd.fst then
 some
 (false,
 (a0.fst, a0.snd.fst, a0.snd.snd.fst, a0.snd.snd.snd.fst, y,
 a0.snd.snd.snd.snd.snd),
 PUnit.unit)
 else
 if (0 : Int) ≤ a1 then
 if a1 < (↑y.length : Int) then
 (nth y a1.toNat).bind fun y_2 =>
 (updO y a1.toNat y_1.fst).bind fun y =>
 (Q_s_l15Post big
 (a0.fst, a0.snd.fst, a0.snd.snd.fst, a0.snd.snd.snd.fst, y,
 a0.snd.snd.snd.snd.snd)
 [y_1.snd.fst]).bind
 fun y => some (true, y.snd)
 else none
 else none))
 (both
 ((Q_s_TimedOut big y a0.fst).bind fun y_1 =>
 (updO a0.snd.snd.snd.snd.fst a1.toNat y).bind fun y =>
 bif !y_1.snd.snd.fst then
 some
 (false,
 (a0.fst, a0.snd.fst, a0.snd.snd.fst, a0.snd.snd.snd.fst, y,
 a0.snd.snd.snd.snd.snd),
 PUnit.unit)
 else
 if (0 : Int) ≤ a1 then
 if a1 < (↑y.length : Int) then
 (nth y a1.toNat).bind fun y_2 =>
 (updO y a1.toNat y_1.fst).bind fun y =>
 (Q_s_l15Post big
 (a0.fst, a0.snd.fst, a0.snd.snd.fst, a0.snd.snd.snd.fst, y,
 a0.snd.snd.snd.snd.snd)
 [y_1.snd.fst]).bind
 fun y => some (true, y.snd)
 else none
 else none)
 ((Q_s_TimedOut big y a0.fst).bind fun y_1 =>
 (updO a0.snd.snd.snd.snd.fst a1.toNat y).bind fun y =>
 bif !y_1.snd.snd.fst then
 some
 (false,
 (a0.fst, a0.snd.fst, a0.snd.snd.fst, a0.snd.snd.snd.fst, y,
 a0.snd.snd.snd.snd.snd),
 PUnit.unit)
 else
 if (0 : Int) ≤ a1 then
 if a1 < (↑y.length : Int) then
 (nth y a1.toNat).bind fun y_2 =>
 (updO y a1.toNat y_1.fst).bind fun y =>
 (Q_s_l15Post big
 (a0.fst, a0.snd.fst, a0.snd.snd.fst, a0.snd.snd.snd.fst, y,
 a0.snd.snd.snd.snd.snd)
 [y_1.snd.fst]).bind
 fun y => some (true, y.snd)
 else none
 else none))))
 (both
 (both
 ((nth a0.snd.snd.snd.snd.fst a1.toNat).bind fun y =>
 both
 ((Q_s_TimedOut big y a0.fst).bind fun y_1 =>
 (updO a0.snd.snd.snd.snd.fst a1.toNat y).bind fun y =>
 both
 (bif !y_1.snd.snd.fst then
 some
 (false,
 (a0.fst, a0.snd.fst, a0.snd.snd.fst, a0.snd.snd.snd.fst, y,
 a0.snd.snd.snd.snd.snd),
 PUnit.unit)
 else
 if (0 : Int) ≤ a1 then
 if a1 < (↑y.length : Int) then
 (nth y a1.toNat).bind fun y_2 =>
 (updO y a1.toNat y_1.fst).bind fun y =>
 (Q_s_l15Post big
 (a0.fst, a0.snd.fst, a0.snd.snd.fst, a0.snd.snd.snd.fst, y,
 a0.snd.snd.snd.snd.snd)
 [y_1.snd.fst]).bind
 fun y => some (true, y.snd)
 else none
 else none)
 (bif !y_1.snd.snd.fst then
 some
 (false,
 (a0.fst, a0.snd.fst, a0.snd.snd.fst, a0.snd.snd.snd.fst, y,
 a0.snd.snd.snd.snd.snd),
 PUnit.unit)
 else
 if (0 : Int) ≤ a1 then
 if a1 < (↑y.length : Int) then
 (nth y a1.toNat).bind fun y_2 =>
 (updO y a1.toNat y_1.fst).bind fun y =>
 (Q_s_l15Post big
 (a0.fst, a0.snd.fst, a0.snd.snd.fst, a0.snd.snd.snd.fst, y,
 a0.snd.snd.snd.snd.snd)
 [y_1.snd.fst]).bind
 fun y => some (true, y.snd)
 else none
 else none))
 (both
 (both
 ((Q_s_TimedOut big y a0.fst).bind fun y_1 =>
 (updO a0.snd.snd.snd.snd.fst a1.toNat y).bind fun y =>
 bif !y_1.snd.snd.fst then
 some
 (false,
 (a0.fst, a0.snd.fst, a0.snd.snd.fst, a0.snd.snd.snd.fst, y,
 a0.snd.snd.snd.snd.snd),
 PUnit.unit)
 else
 if (0 : Int) ≤ a1 then
 if a1 < (↑y.length : Int) then
 (nth y a1.toNat).bind fun y_2 =>
 (updO y a1.toNat y_1.fst).bind fun y =>
 (Q_s_l15Post big
 (a0.fst, a0.snd.fst, a0.snd.snd.fst, a0.snd.snd.snd.fst, y,
 a0.snd.snd.snd.snd.snd)
 [y_1.snd.fst]).bind
 fun y => some (true, y.snd)
 else none
 else none)
 ((Q_s_TimedOut big y a0.fst).bind fun y_1 =>
 (updO a0.snd.snd.snd.snd.fst a1.toNat y).bind fun y =>
 bif !y_1.snd.snd.fst then
 some
 (false,
 (a0.fst, a0.snd.fst, a0.snd.snd.fst, a0.snd.snd.snd.fst, y,
 a0.snd.snd.snd.snd.snd),
 PUnit.unit)
 else
 if (0 : Int) ≤ a1 then
 if a1 < (↑y.length : Int) then
 (nth y a1.toNat).bind fun y_2 =>
 (updO y a1.toNat y_1.fst).bind fun y =>
 (Q_s_l15Post big
 (a0.fst, a0.snd.fst, a0.snd.snd.fst, a0.snd.snd.snd.fst, y,
 a0.snd.snd.snd.snd.snd)
 [y_1.snd.fst]).bind
 fun y => some (true, y.snd)
 else none
 else none))
 (both
 ((Q_s_TimedOut big y a0.fst).bind fun y_1 =>
 (updO a0.snd.snd.snd.snd.fst a1.toNat y).bind fun y =>
 bif !y_1.snd.snd.fst then
 some
 (false,
 (a0.fst, a0.snd.fst, a0.snd.snd.fst, a0.snd.snd.snd.fst, y,
 a0.snd.snd.snd.snd.snd),
 PUnit.unit)
 else
 if (0 : Int) ≤ a1 then
 if a1 < (↑y.length : Int) then
 (nth y a1.toNat).bind fun y_2 =>
 (updO y a1.toNat y_1.fst).bind fun y =>
 (Q_s_l15Post big
 (a0.fst, a0.snd.fst, a0.snd.snd.fst, a0.snd.snd.snd.fst, y,
 a0.snd.snd.snd.snd.snd)
 [y_1.snd.fst]).bind
 fun y => some (true, y.snd)
 else none
 else none)
 ((Q_s_TimedOut big y a0.fst).bind fun y_1 =>
 (updO a0.snd.snd.snd.snd.fst a1.toNat y).bind fun y =>
 bif !y_1.snd.snd.fst then
 some
 (false,
 (a0.fst, a0.snd.fst, a0.snd.snd.fst, a0.snd.snd.snd.fst, y,
 a0.snd.snd.snd.snd.snd),
 PUnit.unit)
 else
 if (0 : Int) ≤ a1 then
 if a1 < (↑y.length : Int) then
 (nth y a1.toNat).bind fun y_2 =>
 (updO y a1.toNat y_1.fst).bind fun y =>
 (Q_s_l15Post big
 (a0.fst, a0.snd.fst, a0.snd.snd.fst, a0.snd.snd.snd.fst, y,
 a0.snd.snd.snd.snd.snd)
 [y_1.snd.fst]).bind
 fun y => some (true, y.snd)
 else none
 else none))))
 (both
 (both
 ((nth a0.snd.snd.snd.snd.fst a1.toNat).bind fun y =>
 both
 ((Q_s_TimedOut big y a0.fst).bind fun y_1 =>
 (updO a0.snd.snd.snd.snd.fst a1.toNat y).bind fun y =>
 bif !y_1.snd.snd.fst then
 some
 (false,
 (a0.fst, a0.snd.fst, a0.snd.snd.fst, a0.snd.snd.snd.fst, y,
 a0.snd.snd.snd.snd.snd),
 PUnit.unit)
 else
 if (0 : Int) ≤ a1 then
 if a1 < (↑y.length : Int) then
 (nth y a1.toNat).bind fun y_2 =>
 (updO y a1.toNat y_1.fst).bind fun y =>
 (Q_s_l15Post big
 (a0.fst, a0.snd.fst, a0.snd.snd.fst, a0.snd.snd.snd.fst, y,
 a0.snd.snd.snd.snd.snd)
 [y_1.snd.fst]).bind
 fun y => some (true, y.snd)
 else none
 else none)
 ((Q_s_TimedOut big y a0.fst).bind fun y_1 =>
 (updO a0.snd.snd.snd.snd.fst a1.toNat y).bind fun y =>
 bif !y_1.snd.snd.fst then
 some
 (false,
 (a0.fst, a0.snd.fst, a0.snd.snd.fst, a0.snd.snd.snd.fst, y,
 a0.snd.snd.snd.snd.snd),
 PUnit.unit)
 else
 if (0 : Int) ≤ a1 then
 if a1 < (↑y.length : Int) then
 (nth y a1.toNat).bind fun y_2 =>
 (updO y a1.toNat y_1.fst).bind fun y =>
 (Q_s_l15Post big
 (a0.fst, a0.snd.fst, a0.snd.snd.fst, a0.snd.snd.snd.fst, y,
 a0.snd.snd.snd.snd.snd)
 [y_1.snd.fst]).bind
 fun y => some (true, y.snd)
 else none
 else none))
 ((nth a0.snd.snd.snd.snd.fst a1.toNat).bind fun y =>
 (Q_s_TimedOut big y a0.fst).bind fun y_1 =>
 (updO a0.snd.snd.snd.snd.fst a1.toNat y).bind fun y =>
 bif !y_1.snd.snd.fst then
 some
 (false,
 (a0.fst, a0.snd.fst, a0.snd.snd.fst, a0.snd.snd.snd.fst, y,
 a0.snd.snd.snd.snd.snd),
 PUnit.unit)
 else
 if (0 : Int) ≤ a1 then
 if a1 < (↑y.length : Int) then
 (nth y a1.toNat).bind fun y_2 =>
 (updO y a1.toNat y_1.fst).bind fun y =>
 (Q_s_l15Post big
 (a0.fst, a0.snd.fst, a0.snd.snd.fst, a0.snd.snd.snd.fst, y,
 a0.snd.snd.snd.snd.snd)
 [y_1.snd.fst]).bind
 fun y => some (true, y.snd)
 else none
 else none))
 (both
 ((nth a0.snd.snd.snd.snd.fst a1.toNat).bind fun y =>
 both
 ((Q_s_TimedOut big y a0.fst).bind fun y_1 =>
 (updO a0.snd.snd.snd.snd.fst a1.toNat y).bind fun y =>
 bif !y_1.snd.snd.fst then
 some
 (false,
 (a0.fst, a0.snd.fst, a0.snd.snd.fst, a0.snd.snd.snd.fst, y,
 a0.snd.snd.snd.snd.snd),
 PUnit.unit)
 else
 if (0 : Int) ≤ a1 then
 if a1 < (↑y.length : Int) then
 (nth y a1.toNat).bind fun y_2 =>
 (updO y a1.toNat y_1.fst).bind fun y =>
 (Q_s_l15Post big
 (a0.fst, a0.snd.fst, a0.snd.snd.fst, a0.snd.snd.snd.fst, y,
 a0.snd.snd.snd.snd.snd)
 [y_1.snd.fst]).bind
 fun y => some (true, y.snd)
 else none
 else none)
 ((Q_s_TimedOut big y a0.fst).bind fun y_1 =>
 (updO a0.snd.snd.snd.snd.fst a1.toNat y).bind fun y =>
 bif !y_1.snd.snd.fst then
 some
 (false,
 (a0.fst, a0.snd.fst, a0.snd.snd.fst, a0.snd.snd.snd.fst, y,
 a0.snd.snd.snd.snd.snd),
 PUnit.unit)
 else
 if (0 : Int) ≤ a1 then
 if a1 < (↑y.length : Int) then
 (nth y a1.toNat).bind fun y_2 =>
 (updO y a1.toNat y_1.fst).bind fun y =>
 (Q_s_l15Post big
 (a0.fst, a0.snd.fst, a0.snd.snd.fst, a0.snd.snd.snd.fst, y,
 a0.snd.snd.snd.snd.snd)
 [y_1.snd.fst]).bind
 fun y => some (true, y.snd)
 else none
 else none))
 ((nth a0.snd.snd.snd.snd.fst a1.toNat).bind fun y =>
 (Q_s_TimedOut big y a0.fst).bind fun y_1 =>
 (updO a0.snd.snd.snd.snd.fst a1.toNat y).bind fun y =>
 bif !y_1.snd.snd.fst then
 some
 (false,
 (a0.fst, a0.snd.fst, a0.snd.snd.fst, a0.snd.snd.snd.fst, y,
 a0.snd.snd.snd.snd.snd),
 PUnit.unit)
 else
 if (0 : Int) ≤ a1 then
 if a1 < (↑y.length : Int) then
 (nth y a1.toNat).bind fun y_2 =>
 (updO y a1.toNat y_1.fst).bind fun y =>
 (Q_s_l15Post big
 (a0.fst, a0.snd.fst, a0.snd.snd.fst, a0.snd.snd.snd.fst, y,
 a0.snd.snd.snd.snd.snd)
 [y_1.snd.fst]).bind
 fun y => some (true, y.snd)
 else none
 else none))))
 (both
 (both
 ((nth a0.snd.snd.snd.snd.fst a1.toNat).bind fun y =>
 both
 ((Q_s_TimedOut big y a0.fst).bind fun y_1 =>
 (updO a0.snd.snd.snd.snd.fst a1.toNat y).bind fun y =>
 bif !y_1.snd.snd.fst then
 some
 (false,
 (a0.fst, a0.snd.fst, a0.snd.snd.fst, a0.snd.snd.snd.fst, y,
 a0.snd.snd.snd.snd.snd),
 PUnit.unit)
 else
 if (0 : Int) ≤ a1 then
 if a1 < (↑y.length : Int) then
 (nth y a1.toNat).bind fun y_2 =>
 (updO y a1.toNat y_1.fst).bind fun y =>
 (Q_s_l15Post big
 (a0.fst, a0.snd.fst, a0.snd.snd.fst, a0.snd.snd.snd.fst, y,
 a0.snd.snd.snd.snd.snd)
 [y_1.snd.fst]).bind
 fun y => some (true, y.snd)
 else none
 else none)
 ((Q_s_TimedOut big y a0.fst).bind fun y_1 =>
 (updO a0.snd.snd.snd.snd.fst a1.toNat y).bind fun y =>
 bif !y_1.snd.snd.fst then
 some
 (false,
 (a0.fst, a0.snd.fst, a0.snd.snd.fst, a0.snd.snd.snd.fst, y,
 a0.snd.snd.snd.snd.snd),
 PUnit.unit)
 else
 if (0 : Int) ≤ a1 then
 if a1 < (↑y.length : Int) then
 (nth y a1.toNat).bind fun y_2 =>
 (updO y a1.toNat y_1.fst).bind fun y =>
 (Q_s_l15Post big
 (a0.fst, a0.snd.fst, a0.snd.snd.fst, a0.snd.snd.snd.fst, y,
 a0.snd.snd.snd.snd.snd)
 [y_1.snd.fst]).bind
 fun y => some (true, y.snd)
 else none
 else none))
 (both
 (both
 ((nth a0.snd.snd.snd.snd.fst a1.toNat).bind fun y =>
 both
 ((Q_s_TimedOut big y a0.fst).bind fun y_1 =>
 (updO a0.snd.snd.snd.snd.fst a1.toNat y).bind fun y =>
 bif !y_1.snd.snd.fst then
 some
 (false,
 (a0.fst, a0.snd.fst, a0.snd.snd.fst, a0.snd.snd.snd.fst, y,
 a0.snd.snd.snd.snd.snd),
 PUnit.unit)
 else
 if (0 : Int) ≤ a1 then
 if a1 < (↑y.length : Int) then
 (nth y a1.toNat).bind fun y_2 =>
 (updO y a1.toNat y_1.fst).bind fun y =>
 (Q_s_l15Post big
 (a0.fst, a0.snd.fst, a0.snd.snd.fst, a0.snd.snd.snd.fst, y,
 a0.snd.snd.snd.snd.snd)
 [y_1.snd.fst]).bind
 fun y => some (true, y.snd)
 else none
 else none)
 ((Q_s_TimedOut big y a0.fst).bind fun y_1 =>
 (updO a0.snd.snd.snd.snd.fst a1.toNat y).bind fun y =>
 bif !y_1.snd.snd.fst then
 some
 (false,
 (a0.fst, a0.snd.fst, a0.snd.snd.fst, a0.snd.snd.snd.fst, y,
 a0.snd.snd.snd.snd.snd),
 PUnit.unit)
 else
 if (0 : Int) ≤ a1 then
 if a1 < (↑y.length : Int) then
 (nth y a1.toNat).bind fun y_2 =>
 (updO y a1.toNat y_1.fst).bind fun y =>
 (Q_s_l15Post big
 (a0.fst, a0.snd.fst, a0.snd.snd.fst, a0.snd.snd.snd.fst, y,
 a0.snd.snd.snd.snd.snd)
 [y_1.snd.fst]).bind
 fun y => some (true, y.snd)
 else none
 else none))
 ((nth a0.snd.snd.snd.snd.fst a1.toNat).bind fun y =>
 (Q_s_TimedOut big y a0.fst).bind fun y_1 =>
 (updO a0.snd.snd.snd.snd.fst a1.toNat y).bind fun y =>
 bif !y_1.snd.snd.fst then
 some
 (false,
 (a0.fst, a0.snd.fst, a0.snd.snd.fst, a0.snd.snd.snd.fst, y,
 a0.snd.snd.snd.snd.snd),
 PUnit.unit)
 else
 if (0 : Int) ≤ a1 then
 if a1 < (↑y.length : Int) then
 (nth y a1.toNat).bind fun y_2 =>
 (updO y a1.toNat y_1.fst).bind fun y =>
 (Q_s_l15Post big
 (a0.fst, a0.snd.fst, a0.snd.snd.fst, a0.snd.snd.snd.fst, y,
 a0.snd.snd.snd.snd.snd)
 [y_1.snd.fst]).bind
 fun y => some (true, y.snd)
 else none
 else none))
 (both
 ((nth a0.snd.snd.snd.snd.fst a1.toNat).bind fun y =>
 (Q_s_TimedOut big y a0.fst).bind fun y_1 =>
 (updO a0.snd.snd.snd.snd.fst a1.toNat y).bind fun y =>
 bif !y_1.snd.snd.fst then
 some
 (false,
 (a0.fst, a0.snd.fst, a0.snd.snd.fst, a0.snd.snd.snd.fst, y,
 a0.snd.snd.snd.snd.snd),
 PUnit.unit)
 else
 if (0 : Int) ≤ a1 then
 if a1 < (↑y.length : Int) then
 (nth y a1.toNat).bind fun y_2 =>
 (updO y a1.toNat y_1.fst).bind fun y =>
 (Q_s_l15Post big
 (a0.fst, a0.snd.fst, a0.snd.snd.fst, a0.snd.snd.snd.fst, y,
 a0.snd.snd.snd.snd.snd)
 [y_1.snd.fst]).bind
 fun y => some (true, y.snd)
 else none
 else none)
 ((nth a0.snd.snd.snd.snd.fst a1.toNat).bind fun y =>
 (Q_s_TimedOut big y a0.fst).bind fun y_1 =>
 (updO a0.snd.snd.snd.snd.fst a1.toNat y).bind fun y =>
 bif !y_1.snd.snd.fst then
 some
 (false,
 (a0.fst, a0.snd.fst, a0.snd.snd.fst, a0.snd.snd.snd.fst, y,
 a0.snd.snd.snd.snd.snd),
 PUnit.unit)
 else
 if (0 : Int) ≤ a1 then
 if a1 < (↑y.length : Int) then
 (nth y a1.toNat).bind fun y_2 =>
 (updO y a1.toNat y_1.fst).bind fun y =>
 (Q_s_l15Post big
 (a0.fst, a0.snd.fst, a0.snd.snd.fst, a0.snd.snd.snd.fst, y,
 a0.snd.snd.snd.snd.snd)
 [y_1.snd.fst]).bind
 fun y => some (true, y.snd)
 else none
 else none))))
 (both
 ((nth a0.snd.snd.snd.snd.fst a1.toNat).bind fun y =>
 both
 ((Q_s_TimedOut big y a0.fst).bind fun y_1 =>
 (updO a0.snd.snd.snd.snd.fst a1.toNat y).bind fun y =>
 bif !y_1.snd.snd.fst then
 some
 (false,
 (a0.fst, a0.snd.fst, a0.snd.snd.fst, a0.snd.snd.snd.fst, y,
 a0.snd.snd.snd.snd.snd),
 PUnit.unit)
 else
 if (0 : Int) ≤ a1 then
 if a1 < (↑y.length : Int) then
 (nth y a1.toNat).bind fun y_2 =>
 (updO y a1.toNat y_1.fst).bind fun y =>
 (Q_s_l15Post big
 (a0.fst, a0.snd.fst, a0.snd.snd.fst, a0.snd.snd.snd.fst, y,
 a0.snd.snd.snd.snd.snd)
 [y_1.snd.fst]).bind
 fun y => some (true, y.snd)
 else none
 else none)
 ((Q_s_TimedOut big y a0.fst).bind fun y_1 =>
 (updO a0.snd.snd.snd.snd.fst a1.toNat y).bind fun y =>
 bif !y_1.snd.snd.fst then
 some
 (false,
 (a0.fst, a0.snd.fst, a0.snd.snd.fst, a0.snd.snd.snd.fst, y,
 a0.snd.snd.snd.snd.snd),
 PUnit.unit)
 else
 if (0 : Int) ≤ a1 then
 if a1 < (↑y.length : Int) then
 (nth y a1.toNat).bind fun y_2 =>
 (updO y a1.toNat y_1.fst).bind fun y =>
 (Q_s_l15Post big
 (a0.fst, a0.snd.fst, a0.snd.snd.fst, a0.snd.snd.snd.fst, y,
 a0.snd.snd.snd.snd.snd)
 [y_1.snd.fst]).bind
 fun y => some (true, y.snd)
 else none
 else none))
 (both
 (both
 ((nth a0.snd.snd.snd.snd.fst a1.toNat).bind fun y =>
 both
 ((Q_s_TimedOut big y a0.fst).bind fun y_1 =>
 (updO a0.snd.snd.snd.snd.fst a1.toNat y).bind fun y =>
 bif !y_1.snd.snd.fst then
 some
 (false,
 (a0.fst, a0.snd.fst, a0.snd.snd.fst, a0.snd.snd.snd.fst, y,
 a0.snd.snd.snd.snd.snd),
 PUnit.unit)
 else
 if (0 : Int) ≤ a1 then
 if a1 < (↑y.length : Int) then
 (nth y a1.toNat).bind fun y_2 =>
 (updO y a1.toNat y_1.fst).bind fun y =>
 (Q_s_l15Post big
 (a0.fst, a0.snd.fst, a0.snd.snd.fst, a0.snd.snd.snd.fst, y,
 a0.snd.snd.snd.snd.snd)
 [y_1.snd.fst]).bind
 fun y => some (true, y.snd)
 else none
 else none)
 ((Q_s_TimedOut big y a0.fst).bind fun y_1 =>
 (updO a0.snd.snd.snd.snd.fst a1.toNat y).bind fun y =>
 bif !y_1.snd.snd.fst then
 some
 (false,
 (a0.fst, a0.snd.fst, a0.snd.snd.fst, a0.snd.snd.snd.fst, y,
 a0.snd.snd.snd.snd.snd),
 PUnit.unit)
 else
 if (0 : Int) ≤ a1 then
 if a1 < (↑y.length : Int) then
 (nth y a1.toNat).bind fun y_2 =>
 (updO y a1.toNat y_1.fst).bind fun y =>
 (Q_s_l15Post big
 (a0.fst, a0.snd.fst, a0.snd.snd.fst, a0.snd.snd.snd.fst, y,
 a0.snd.snd.snd.snd.snd)
 [y_1.snd.fst]).bind
 fun y => some (true, y.snd)
 else none
 else none))
 ((nth a0.snd.snd.snd.snd.fst a1.toNat).bind fun y =>
 (Q_s_TimedOut big y a0.fst).bind fun y_1 =>
 (updO a0.snd.snd.snd.snd.fst a1.toNat y).bind fun y =>
 bif !y_1.snd.snd.fst then
 some
 (false,
 (a0.fst, a0.snd.fst, a0.snd.snd.fst, a0.snd.snd.snd.fst, y,
 a0.snd.snd.snd.snd.snd),
 PUnit.unit)
 else
 if (0 : Int) ≤ a1 then
 if a1 < (↑y.length : Int) then
 (nth y a1.toNat).bind fun y_2 =>
 (updO y a1.toNat y_1.fst).bind fun y =>
 (Q_s_l15Post big
 (a0.fst, a0.snd.fst, a0.snd.snd.fst, a0.snd.snd.snd.fst, y,
 a0.snd.snd.snd.snd.snd)
 [y_1.snd.fst]).bind
 fun y => some (true, y.snd)
 else none
 else none))
 (both
 ((nth a0.snd.snd.snd.snd.fst a1.toNat).bind fun y =>
 (Q_s_TimedOut big y a0.fst).bind fun y_1 =>
 (updO a0.snd.snd.snd.snd.fst a1.toNat y).bind fun y =>
 bif !y_1.snd.snd.fst then
 some
 (false,
 (a0.fst, a0.snd.fst, a0.snd.snd.fst, a0.snd.snd.snd.fst, y,
 a0.snd.snd.snd.snd.snd),
 PUnit.unit)
 else
 if (0 : Int) ≤ a1 then
 if a1 < (↑y.length : Int) then
 (nth y a1.toNat).bind fun y_2 =>
 (updO y a1.toNat y_1.fst).bind fun y =>
 (Q_s_l15Post big
 (a0.fst, a0.snd.fst, a0.snd.snd.fst, a0.snd.snd.snd.fst, y,
 a0.snd.snd.snd.snd.snd)
 [y_1.snd.fst]).bind
 fun y => some (true, y.snd)
 else none
 else none)
 ((nth a0.snd.snd.snd.snd.fst a1.toNat).bind fun y =>
 (Q_s_TimedOut big y a0.fst).bind fun y_1 =>
 (updO a0.snd.snd.snd.snd.fst a1.toNat y).bind fun y =>
 bif !y_1.snd.snd.fst then
 some
 (false,
 (a0.fst, a0.snd.fst, a0.snd.snd.fst, a0.snd.snd.snd.fst, y,
 a0.snd.snd.snd.snd.snd),
 PUnit.unit)
 else
 if (0 : Int) ≤ a1 then
 if a1 < (↑y.length : Int) then
 (nth y a1.toNat).bind fun y_2 =>
 (updO y a1.toNat y_1.fst).bind fun y =>
 (Q_s_l15Post big
 (a0.fst, a0.snd.fst, a0.snd.snd.fst, a0.snd.snd.snd.fst, y,
 a0.snd.snd.snd.snd.snd)
 [y_1.snd.fst]).bind
 fun y => some (true, y.snd)
 else none
 else none)))))))
 (both
 (both
 ((nth a0.snd.snd.snd.snd.fst a1.toNat).bind fun y =>
 both
 ((Q_s_TimedOut big y a0.fst).bind fun y_1 =>
 (updO a0.snd.snd.snd.snd.fst a1.toNat y).bind fun y =>
 bif !y_1.snd.snd.fst then
 some
 (false,
 (a0.fst, a0.snd.fst, a0.snd.snd.fst, a0.snd.snd.snd.fst, y, a0.snd.snd.snd.snd.snd),
 PUnit.unit)
 else
 if (0 : Int) ≤ a1 then
 if a1 < (↑y.length : Int) then
 (nth y a1.toNat).bind fun y_2 =>
 (updO y a1.toNat y_1.fst).bind fun y =>
 (Q_s_l15Post big
 (a0.fst, a0.snd.fst, a0.snd.snd.fst, a0.snd.snd.snd.fst, y,
 a0.snd.snd.snd.snd.snd)
 [y_1.snd.fst]).bind
 fun y => some (true, y.snd)
 else none
 else none)
 ((Q_s_TimedOut big y a0.fst).bind fun y_1 =>
 (updO a0.snd.snd.snd.snd.fst a1.toNat y).bind fun y =>
 bif !y_1.snd.snd.fst then
 some
 (false,
 (a0.fst, a0.snd.fst, a0.snd.snd.fst, a0.snd.snd.snd.fst, y, a0.snd.snd.snd.snd.snd),
 PUnit.unit)
 else
 if (0 : Int) ≤ a1 then
 if a1 < (↑y.length : Int) then
 (nth y a1.toNat).bind fun y_2 =>
 (updO y a1.toNat y_1.fst).bind fun y =>
 (Q_s_l15Post big
 (a0.fst, a0.snd.fst, a0.snd.snd.fst, a0.snd.snd.snd.fst, y,
 a0.snd.snd.snd.snd.snd)
 [y_1.snd.fst]).bind
 fun y => some (true, y.snd)
 else none
 else none))
 (both
 (both
 ((nth a0.snd.snd.snd.snd.fst a1.toNat).bind fun y =>
 both
 ((Q_s_TimedOut big y a0.fst).bind fun y_1 =>
 (updO a0.snd.snd.snd.snd.fst a1.toNat y).bind fun y =>
 bif !y_1.snd.snd.fst then
 some
 (false,
 (a0.fst, a0.snd.fst, a0.snd.snd.fst, a0.snd.snd.snd.fst, y,
 a0.snd.snd.snd.snd.snd),
 PUnit.unit)
 else
 if (0 : Int) ≤ a1 then
 if a1 < (↑y.length : Int) then
 (nth y a1.toNat).bind fun y_2 =>
 (updO y a1.toNat y_1.fst).bind fun y =>
 (Q_s_l15Post big
 (a0.fst, a0.snd.fst, a0.snd.snd.fst, a0.snd.snd.snd.fst, y,
 a0.snd.snd.snd.snd.snd)
 [y_1.snd.fst]).bind
 fun y => some (true, y.snd)
 else none
 else none)
 ((Q_s_TimedOut big y a0.fst).bind fun y_1 =>
 (updO a0.snd.snd.snd.snd.fst a1.toNat y).bind fun y =>
 bif !y_1.snd.snd.fst then
 some
 (false,
 (a0.fst, a0.snd.fst, a0.snd.snd.fst, a0.snd.snd.snd.fst, y,
 a0.snd.snd.snd.snd.snd),
 PUnit.unit)
 else
 if (0 : Int) ≤ a1 then
 if a1 < (↑y.length : Int) then
 (nth y a1.toNat).bind fun y_2 =>
 (updO y a1.toNat y_1.fst).bind fun y =>
 (Q_s_l15Post big
 (a0.fst, a0.snd.fst, a0.snd.snd.fst, a0.snd.snd.snd.fst, y,
 a0.snd.snd.snd.snd.snd)
 [y_1.snd.fst]).bind
 fun y => some (true, y.snd)
 else none
 else none))
 (both
 (both
 ((nth a0.snd.snd.snd.snd.fst a1.toNat).bind fun y =>
 both
 ((Q_s_TimedOut big y a0.fst).bind fun y_1 =>
 (updO a0.snd.snd.snd.snd.fst a1.toNat y).bind fun y =>
 bif !y_1.snd.snd.fst then
 some
 (false,
 (a0.fst, a0.snd.fst, a0.snd.snd.fst, a0.snd.snd.snd.fst, y,
 a0.snd.snd.snd.snd.snd),
 PUnit.unit)
 else
 if (0 : Int) ≤ a1 then
 if a1 < (↑y.length : Int) then
 (nth y a1.toNat).bind fun y_2 =>
 (updO y a1.toNat y_1.fst).bind fun y =>
 (Q_s_l15Post big
 (a0.fst, a0.snd.fst, a0.snd.snd.fst, a0.snd.snd.snd.fst, y,
 a0.snd.snd.snd.snd.snd)
 [y_1.snd.fst]).bind
 fun y => some (true, y.snd)
 else none
 else none)
 ((Q_s_TimedOut big y a0.fst).bind fun y_1 =>
 (updO a0.snd.snd.snd.snd.fst a1.toNat y).bind fun y =>
 bif !y_1.snd.snd.fst then
 some
 (false,
 (a0.fst, a0.snd.fst, a0.snd.snd.fst, a0.snd.snd.snd.fst, y,
 a0.snd.snd.snd.snd.snd),
 PUnit.unit)
 else
 if (0 : Int) ≤ a1 then
 if a1 < (↑y.length : Int) then
 (nth y a1.toNat).bind fun y_2 =>
 (updO y a1.toNat y_1.fst).bind fun y =>
 (Q_s_l15Post big
 (a0.fst, a0.snd.fst, a0.snd.snd.fst, a0.snd.snd.snd.fst, y,
 a0.snd.snd.snd.snd.snd)
 [y_1.snd.fst]).bind
 fun y => some (true, y.snd)
 else none
 else none))
 ((nth a0.snd.snd.snd.snd.fst a1.toNat).bind fun y =>
 (Q_s_TimedOut big y a0.fst).bind fun y_1 =>
 (updO a0.snd.snd.snd.snd.fst a1.toNat y).bind fun y =>
 bif !y_1.snd.snd.fst then
 some
 (false,
 (a0.fst, a0.snd.fst, a0.snd.snd.fst, a0.snd.snd.snd.fst, y,
 a0.snd.snd.snd.snd.snd),
 PUnit.unit)
 else
 if (0 : Int) ≤ a1 then
 if a1 < (↑y.length : Int) then
 (nth y a1.toNat).bind fun y_2 =>
 (updO y a1.toNat y_1.fst).bind fun y =>
 (Q_s_l15Post big
 (a0.fst, a0.snd.fst, a0.snd.snd.fst, a0.snd.snd.snd.fst, y,
 a0.snd.snd.snd.snd.snd)
 [y_1.snd.fst]).bind
 fun y => some (true, y.snd)
 else none
 else none))
 (both
 ((nth a0.snd.snd.snd.snd.fst a1.toNat).bind fun y =>
 (Q_s_TimedOut big y a0.fst).bind fun y_1 =>
 (updO a0.snd.snd.snd.snd.fst a1.toNat y).bind fun y =>
 bif !y_1.snd.snd.fst then
 some
 (false,
 (a0.fst, a0.snd.fst, a0.snd.snd.fst, a0.snd.snd.snd.fst, y,
 a0.snd.snd.snd.snd.snd),
 PUnit.unit)
 else
 if (0 : Int) ≤ a1 then
 if a1 < (↑y.length : Int) then
 (nth y a1.toNat).bind fun y_2 =>
 (updO y a1.toNat y_1.fst).bind fun y =>
 (Q_s_l15Post big
 (a0.fst, a0.snd.fst, a0.snd.snd.fst, a0.snd.snd.snd.fst, y,
 a0.snd.snd.snd.snd.snd)
 [y_1.snd.fst]).bind
 fun y => some (true, y.snd)
 else none
 else none)
 ((nth a0.snd.snd.snd.snd.fst a1.toNat).bind fun y =>
 (Q_s_TimedOut big y a0.fst).bind fun y_1 =>
 (updO a0.snd.snd.snd.snd.fst a1.toNat y).bind fun y =>
 bif !y_1.snd.snd.fst then
 some
 (false,
 (a0.fst, a0.snd.fst, a0.snd.snd.fst, a0.snd.snd.snd.fst, y,
 a0.snd.snd.snd.snd.snd),
 PUnit.unit)
 else
 if (0 : Int) ≤ a1 then
 if a1 < (↑y.length : Int) then
 (nth y a1.toNat).bind fun y_2 =>
 (updO y a1.toNat y_1.fst).bind fun y =>
 (Q_s_l15Post big
 (a0.fst, a0.snd.fst, a0.snd.snd.fst, a0.snd.snd.snd.fst, y,
 a0.snd.snd.snd.snd.snd)
 [y_1.snd.fst]).bind
 fun y => some (true, y.snd)
 else none
 else none))))
 (both
 ((nth a0.snd.snd.snd.snd.fst a1.toNat).bind fun y =>
 (Q_s_TimedOut big y a0.fst).bind fun y_1 =>
 (updO a0.snd.snd.snd.snd.fst a1.toNat y).bind fun y =>
 bif !y_1.snd.snd.fst then
 some
 (false,
 (a0.fst, a0.snd.fst, a0.snd.snd.fst, a0.snd.snd.snd.fst, y,
 a0.snd.snd.snd.snd.snd),
 PUnit.unit)
 else
 if (0 : Int) ≤ a1 then
 if a1 < (↑y.length : Int) then
 (nth y a1.toNat).bind fun y_2 =>
 (updO y a1.toNat y_1.fst).bind fun y =>
 (Q_s_l15Post big
 (a0.fst, a0.snd.fst, a0.snd.snd.fst, a0.snd.snd.snd.fst, y,
 a0.snd.snd.snd.snd.snd)
 [y_1.snd.fst]).bind
 fun y => some (true, y.snd)
 else none
 else none)
 (both
 ((nth a0.snd.snd.snd.snd.fst a1.toNat).bind fun y =>
 (Q_s_TimedOut big y a0.fst).bind fun y_1 =>
 (updO a0.snd.snd.snd.snd.fst a1.toNat y).bind fun y =>
 bif !y_1.snd.snd.fst then
 some
 (false,
 (a0.fst, a0.snd.fst, a0.snd.snd.fst, a0.snd.snd.snd.fst, y,
 a0.snd.snd.snd.snd.snd),
 PUnit.unit)
 else
 if (0 : Int) ≤ a1 then
 if a1 < (↑y.length : Int) then
 (nth y a1.toNat).bind fun y_2 =>
 (updO y a1.toNat y_1.fst).bind fun y =>
 (Q_s_l15Post big
 (a0.fst, a0.snd.fst, a0.snd.snd.fst, a0.snd.snd.snd.fst, y,
 a0.snd.snd.snd.snd.snd)
 [y_1.snd.fst]).bind
 fun y => some (true, y.snd)
 else none
 else none)
 ((nth a0.snd.snd.snd.snd.fst a1.toNat).bind fun y =>
 (Q_s_TimedOut big y a0.fst).bind fun y_1 =>
 (updO a0.snd.snd.snd.snd.fst a1.toNat y).bind fun y =>
 bif !y_1.snd.snd.fst then
 some
 (false,
 (a0.fst, a0.snd.fst, a0.snd.snd.fst, a0.snd.snd.snd.fst, y,
 a0.snd.snd.snd.snd.snd),
 PUnit.unit)
 else
 if (0 : Int) ≤ a1 then
 if a1 < (↑y.length : Int) then
 (nth y a1.toNat).bind fun y_2 =>
 (updO y a1.toNat y_1.fst).bind fun y =>
 (Q_s_l15Post big
 (a0.fst, a0.snd.fst, a0.snd.snd.fst, a0.snd.snd.snd.fst, y,
 a0.snd.snd.snd.snd.snd)
 [y_1.snd.fst]).bind
 fun y => some (true, y.snd)
 else none
 else none)))))
 (both
 ((nth a0.snd.snd.snd.snd.fst a1.toNat).bind fun y =>
 both
 ((Q_s_TimedOut big y a0.fst).bind fun y_1 =>
 (updO a0.snd.snd.snd.snd.fst a1.toNat y).bind fun y =>
 bif !y_1.snd.snd.fst then
 some
 (false,
 (a0.fst, a0.snd.fst, a0.snd.snd.fst, a0.snd.snd.snd.fst, y, a0.snd.snd.snd.snd.snd),
 PUnit.unit)
 else
 if (0 : Int) ≤ a1 then
 if a1 < (↑y.length : Int) then
 (nth y a1.toNat).bind fun y_2 =>
 (updO y a1.toNat y_1.fst).bind fun y =>
 (Q_s_l15Post big
 (a0.fst, a0.snd.fst, a0.snd.snd.fst, a0.snd.snd.snd.fst, y,
 a0.snd.snd.snd.snd.snd)
 [y_1.snd.fst]).bind
 fun y => some (true, y.snd)
 else none
 else none)
 ((Q_s_TimedOut big y a0.fst).bind fun y_1 =>
 (updO a0.snd.snd.snd.snd.fst a1.toNat y).bind fun y =>
 bif !y_1.snd.snd.fst then
 some
 (false,
 (a0.fst, a0.snd.fst, a0.snd.snd.fst, a0.snd.snd.snd.fst, y, a0.snd.snd.snd.snd.snd),
 PUnit.unit)
 else
 if (0 : Int) ≤ a1 then
 if a1 < (↑y.length : Int) then
 (nth y a1.toNat).bind fun y_2 =>
 (updO y a1.toNat y_1.fst).bind fun y =>
 (Q_s_l15Post big
 (a0.fst, a0.snd.fst, a0.snd.snd.fst, a0.snd.snd.snd.fst, y,
 a0.snd.snd.snd.snd.snd)
 [y_1.snd.fst]).bind
 fun y => some (true, y.snd)
 else none
 else none))
 (both
 (both
 ((nth a0.snd.snd.snd.snd.fst a1.toNat).bind fun y =>
 both
 ((Q_s_TimedOut big y a0.fst).bind fun y_1 =>
 (updO a0.snd.snd.snd.snd.fst a1.toNat y).bind fun y =>
 bif !y_1.snd.snd.fst then
 some
 (false,
 (a0.fst, a0.snd.fst, a0.snd.snd.fst, a0.snd.snd.snd.fst, y,
 a0.snd.snd.snd.snd.snd),
 PUnit.unit)
 else
 if (0 : Int) ≤ a1 then
 if a1 < (↑y.length : Int) then
 (nth y a1.toNat).bind fun y_2 =>
 (updO y a1.toNat y_1.fst).bind fun y =>
 (Q_s_l15Post big
 (a0.fst, a0.snd.fst, a0.snd.snd.fst, a0.snd.snd.snd.fst, y,
 a0.snd.snd.snd.snd.snd)
 [y_1.snd.fst]).bind
 fun y => some (true, y.snd)
 else none
 else none)
 ((Q_s_TimedOut big y a0.fst).bind fun y_1 =>
 (updO a0.snd.snd.snd.snd.fst a1.toNat y).bind fun y =>
 bif !y_1.snd.snd.fst then
 some
 (false,
 (a0.fst, a0.snd.fst, a0.snd.snd.fst, a0.snd.snd.snd.fst, y,
 a0.snd.snd.snd.snd.snd),
 PUnit.unit)
 else
 if (0 : Int) ≤ a1 then
 if a1 < (↑y.length : Int) then
 (nth y a1.toNat).bind fun y_2 =>
 (updO y a1.toNat y_1.fst).bind fun y =>
 (Q_s_l15Post big
 (a0.fst, a0.snd.fst, a0.snd.snd.fst, a0.snd.snd.snd.fst, y,
 a0.snd.snd.snd.snd.snd)
 [y_1.snd.fst]).bind
 fun y => some (true, y.snd)
 else none
 else none))
 (both
 (both
 ((nth a0.snd.snd.snd.snd.fst a1.toNat).bind fun y =>
 both
 ((Q_s_TimedOut big y a0.fst).bind fun y_1 =>
 (updO a0.snd.snd.snd.snd.fst a1.toNat y).bind fun y =>
 bif !y_1.snd.snd.fst then
 some
 (false,
 (a0.fst, a0.snd.fst, a0.snd.snd.fst, a0.snd.snd.snd.fst, y,
 a0.snd.snd.snd.snd.snd),
 PUnit.unit)
 else
 if (0 : Int) ≤ a1 then
 if a1 < (↑y.length : Int) then
 (nth y a1.toNat).bind fun y_2 =>
 (updO y a1.toNat y_1.fst).bind fun y =>
 (Q_s_l15Post big
 (a0.fst, a0.snd.fst, a0.snd.snd.fst, a0.snd.snd.snd.fst, y,
 a0.snd.snd.snd.snd.snd)
 [y_1.snd.fst]).bind
 fun y => some (true, y.snd)
 else none
 else none)
 ((Q_s_TimedOut big y a0.fst).bind fun y_1 =>
 (updO a0.snd.snd.snd.snd.fst a1.toNat y).bind fun y =>
 bif !y_1.snd.snd.fst then
 some
 (false,
 (a0.fst, a0.snd.fst, a0.snd.snd.fst, a0.snd.snd.snd.fst, y,
 a0.snd.snd.snd.snd.snd),
 PUnit.unit)
 else
 if (0 : Int) ≤ a1 then
 if a1 < (↑y.length : Int) then
 (nth y a1.toNat).bind fun y_2 =>
 (updO y a1.toNat y_1.fst).bind fun y =>
 (Q_s_l15Post big
 (a0.fst, a0.snd.fst, a0.snd.snd.fst, a0.snd.snd.snd.fst, y,
 a0.snd.snd.snd.snd.snd)
 [y_1.snd.fst]).bind
 fun y => some (true, y.snd)
 else none
 else none))
 ((nth a0.snd.snd.snd.snd.fst a1.toNat).bind fun y =>
 (Q_s_TimedOut big y a0.fst).bind fun y_1 =>
 (updO a0.snd.snd.snd.snd.fst a1.toNat y).bind fun y =>
 bif !y_1.snd.snd.fst then
 some
 (false,
 (a0.fst, a0.snd.fst, a0.snd.snd.fst, a0.snd.snd.snd.fst, y,
 a0.snd.snd.snd.snd.snd),
 PUnit.unit)
 else
 if (0 : Int) ≤ a1 then
 if a1 < (↑y.length : Int) then
 (nth y a1.toNat).bind fun y_2 =>
 (updO y a1.toNat y_1.fst).bind fun y =>
 (Q_s_l15Post big
 (a0.fst, a0.snd.fst, a0.snd.snd.fst, a0.snd.snd.snd.fst, y,
 a0.snd.snd.snd.snd.snd)
 [y_1.snd.fst]).bind
 fun y => some (true, y.snd)
 else none
 else none))
 (both
 ((nth a0.snd.snd.snd.snd.fst a1.toNat).bind fun y =>
 (Q_s_TimedOut big y a0.fst).bind fun y_1 =>
 (updO a0.snd.snd.snd.snd.fst a1.toNat y).bind fun y =>
 bif !y_1.snd.snd.fst then
 some
 (false,
 (a0.fst, a0.snd.fst, a0.snd.snd.fst, a0.snd.snd.snd.fst, y,
 a0.snd.snd.snd.snd.snd),
 PUnit.unit)
 else
 if (0 : Int) ≤ a1 then
 if a1 < (↑y.length : Int) then
 (nth y a1.toNat).bind fun y_2 =>
 (updO y a1.toNat y_1.fst).bind fun y =>
 (Q_s_l15Post big
 (a0.fst, a0.snd.fst, a0.snd.snd.fst, a0.snd.snd.snd.fst, y,
 a0.snd.snd.snd.snd.snd)
 [y_1.snd.fst]).bind
 fun y => some (true, y.snd)
 else none
 else none)
 ((nth a0.snd.snd.snd.snd.fst a1.toNat).bind fun y =>
 (Q_s_TimedOut big y a0.fst).bind fun y_1 =>
 (updO a0.snd.snd.snd.snd.fst a1.toNat y).bind fun y =>
 bif !y_1.snd.snd.fst then
 some
 (false,
 (a0.fst, a0.snd.fst, a0.snd.snd.fst, a0.snd.snd.snd.fst, y,
 a0.snd.snd.snd.snd.snd),
 PUnit.unit)
 else
 if (0 : Int) ≤ a1 then
 if a1 < (↑y.length : Int) then
 (nth y a1.toNat).bind fun y_2 =>
 (updO y a1.toNat y_1.fst).bind fun y =>
 (Q_s_l15Post big
 (a0.fst, a0.snd.fst, a0.snd.snd.fst, a0.snd.snd.snd.fst, y,
 a0.snd.snd.snd.snd.snd)
 [y_1.snd.fst]).bind
 fun y => some (true, y.snd)
 else none
 else none))))
 (both
 ((nth a0.snd.snd.snd.snd.fst a1.toNat).bind fun y =>
 (Q_s_TimedOut big y a0.fst).bind fun y_1 =>
 (updO a0.snd.snd.snd.snd.fst a1.toNat y).bind fun y =>
 bif !y_1.snd.snd.fst then
 some
 (false,
 (a0.fst, a0.snd.fst, a0.snd.snd.fst, a0.snd.snd.snd.fst, y,
 a0.snd.snd.snd.snd.snd),
 PUnit.unit)
 else
 if (0 : Int) ≤ a1 then
 if a1 < (↑y.length : Int) then
 (nth y a1.toNat).bind fun y_2 =>
 (updO y a1.toNat y_1.fst).bind fun y =>
 (Q_s_l15Post big
 (a0.fst, a0.snd.fst, a0.snd.snd.fst, a0.snd.snd.snd.fst, y,
 a0.snd.snd.snd.snd.snd)
 [y_1.snd.fst]).bind
 fun y => some (true, y.snd)
 else none
 else none)
 (both
 ((nth a0.snd.snd.snd.snd.fst a1.toNat).bind fun y =>
 (Q_s_TimedOut big y a0.fst).bind fun y_1 =>
 (updO a0.snd.snd.snd.snd.fst a1.toNat y).bind fun y =>
 bif !y_1.snd.snd.fst then
 some
 (false,
 (a0.fst, a0.snd.fst, a0.snd.snd.fst, a0.snd.snd.snd.fst, y,
 a0.snd.snd.snd.snd.snd),
 PUnit.unit)
 else
 if (0 : Int) ≤ a1 then
 if a1 < (↑y.length : Int) then
 (nth y a1.toNat).bind fun y_2 =>
 (updO y a1.toNat y_1.fst).bind fun y =>
 (Q_s_l15Post big
 (a0.fst, a0.snd.fst, a0.snd.snd.fst, a0.snd.snd.snd.fst, y,
 a0.snd.snd.snd.snd.snd)
 [y_1.snd.fst]).bind
 fun y => some (true, y.snd)
 else none
 else none)
 ((nth a0.snd.snd.snd.snd.fst a1.toNat).bind fun y =>
 (Q_s_TimedOut big y a0.fst).bind fun y_1 =>
 (updO a0.snd.snd.snd.snd.fst a1.toNat y).bind fun y =>
 bif !y_1.snd.snd.fst then
 some
 (false,
 (a0.fst, a0.snd.fst, a0.snd.snd.fst, a0.snd.snd.snd.fst, y,
 a0.snd.snd.snd.snd.snd),
 PUnit.unit)
 else
 if (0 : Int) ≤ a1 then
 if a1 < (↑y.length : Int) then
 (nth y a1.toNat).bind fun y_2 =>
 (updO y a1.toNat y_1.fst).bind fun y =>
 (Q_s_l15Post big
 (a0.fst, a0.snd.fst, a0.snd.snd.fst, a0.snd.snd.snd.fst, y,
 a0.snd.snd.snd.snd.snd)
 [y_1.snd.fst]).bind
 fun y => some (true, y.snd)
 else none
 else none))))))))
 (both
 (both
 ((nth a0.snd.snd.snd.snd.fst a1.toNat).bind fun y =>
 both
 ((Q_s_TimedOut big y a0.fst).bind fun y_1 =>
 (updO a0.snd.snd.snd.snd.fst a1.toNat y).bind fun y =>
 bif !y_1.snd.snd.fst then
 some
 (false,
 (a0.fst, a0.snd.fst, a0.snd.snd.fst, a0.snd.snd.snd.fst, y, a0.snd.snd.snd.snd.snd),
 PUnit.unit)
 else
 if (0 : Int) ≤ a1 then
 if a1 < (↑y.length : Int) then
 (nth y a1.toNat).bind fun y_2 =>
 (updO y a1.toNat y_1.fst).bind fun y =>
 (Q_s_l15Post big
 (a0.fst, a0.snd.fst, a0.snd.snd.fst, a0.snd.snd.snd.fst, y,
 a0.snd.snd.snd.snd.snd)
 [y_1.snd.fst]).bind
 fun y => some (true, y.snd)
 else none
 else none)
 ((Q_s_TimedOut big y a0.fst).bind fun y_1 =>
 (updO a0.snd.snd.snd.snd.fst a1.toNat y).bind fun y =>
 bif !y_1.snd.snd.fst then
 some
 (false,
 (a0.fst, a0.snd.fst, a0.snd.snd.fst, a0.snd.snd.snd.fst, y, a0.snd.snd.snd.snd.snd),
 PUnit.unit)
 else
 if (0 : Int) ≤ a1 then
 if a1 < (↑y.length : Int) then
 (nth y a1.toNat).bind fun y_2 =>
 (updO y a1.toNat y_1.fst).bind fun y =>
 (Q_s_l15Post big
 (a0.fst, a0.snd.fst, a0.snd.snd.fst, a0.snd.snd.snd.fst, y,
 a0.snd.snd.snd.snd.snd)
 [y_1.snd.fst]).bind
 fun y => some (true, y.snd)
 else none
 else none))
 (both
 (both
 ((nth a0.snd.snd.snd.snd.fst a1.toNat).bind fun y =>
 both
 ((Q_s_TimedOut big y a0.fst).bind fun y_1 =>
 (updO a0.snd.snd.snd.snd.fst a1.toNat y).bind fun y =>
 bif !y_1.snd.snd.fst then
 some
 (false,
 (a0.fst, a0.snd.fst, a0.snd.snd.fst, a0.snd.snd.snd.fst, y, a0.snd.snd.snd.snd.snd),
 PUnit.unit)
 else
 if (0 : Int) ≤ a1 then
 if a1 < (↑y.length : Int) then
 (nth y a1.toNat).bind fun y_2 =>
 (updO y a1.toNat y_1.fst).bind fun y =>
 (Q_s_l15Post big
 (a0.fst, a0.snd.fst, a0.snd.snd.fst, a0.snd.snd.snd.fst, y,
 a0.snd.snd.snd.snd.snd)
 [y_1.snd.fst]).bind
 fun y => some (true, y.snd)
 else none
 else none)
 ((Q_s_TimedOut big y a0.fst).bind fun y_1 =>
 (updO a0.snd.snd.snd.snd.fst a1.toNat y).bind fun y =>
 bif !y_1.snd.snd.fst then
 some
 (false,
 (a0.fst, a0.snd.fst, a0.snd.snd.fst, a0.snd.snd.snd.fst, y, a0.snd.snd.snd.snd.snd),
 PUnit.unit)
 else
 if (0 : Int) ≤ a1 then
 if a1 < (↑y.length : Int) then
 (nth y a1.toNat).bind fun y_2 =>
 (updO y a1.toNat y_1.fst).bind fun y =>
 (Q_s_l15Post big
 (a0.fst, a0.snd.fst, a0.snd.snd.fst, a0.snd.snd.snd.fst, y,
 a0.snd.snd.snd.snd.snd)
 [y_1.snd.fst]).bind
 fun y => some (true, y.snd)
 else none
 else none))
 (both
 (both
 ((nth a0.snd.snd.snd.snd.fst a1.toNat).bind fun y =>
 both
 ((Q_s_TimedOut big y a0.fst).bind fun y_1 =>
 (updO a0.snd.snd.snd.snd.fst a1.toNat y).bind fun y =>
 bif !y_1.snd.snd.fst then
 some
 (false,
 (a0.fst, a0.snd.fst, a0.snd.snd.fst, a0.snd.snd.snd.fst, y,
 a0.snd.snd.snd.snd.snd),
 PUnit.unit)
 else
 if (0 : Int) ≤ a1 then
 if a1 < (↑y.length : Int) then
 (nth y a1.toNat).bind fun y_2 =>
 (updO y a1.toNat y_1.fst).bind fun y =>
 (Q_s_l15Post big
 (a0.fst, a0.snd.fst, a0.snd.snd.fst, a0.snd.snd.snd.fst, y,
 a0.snd.snd.snd.snd.snd)
 [y_1.snd.fst]).bind
 fun y => some (true, y.snd)
 else none
 else none)
 ((Q_s_TimedOut big y a0.fst).bind fun y_1 =>
 (updO a0.snd.snd.snd.snd.fst a1.toNat y).bind fun y =>
 bif !y_1.snd.snd.fst then
 some
 (false,
 (a0.fst, a0.snd.fst, a0.snd.snd.fst, a0.snd.snd.snd.fst, y,
 a0.snd.snd.snd.snd.snd),
 PUnit.unit)
 else
 if (0 : Int) ≤ a1 then
 if a1 < (↑y.length : Int) then
 (nth y a1.toNat).bind fun y_2 =>
 (updO y a1.toNat y_1.fst).bind fun y =>
 (Q_s_l15Post big
 (a0.fst, a0.snd.fst, a0.snd.snd.fst, a0.snd.snd.snd.fst, y,
 a0.snd.snd.snd.snd.snd)
 [y_1.snd.fst]).bind
 fun y => some (true, y.snd)
 else none
 else none))
 (both
 (both
 ((nth a0.snd.snd.snd.snd.fst a1.toNat).bind fun y =>
 both
 ((Q_s_TimedOut big y a0.fst).bind fun y_1 =>
 (updO a0.snd.snd.snd.snd.fst a1.toNat y).bind fun y =>
 bif !y_1.snd.snd.fst then
 some
 (false,
 (a0.fst, a0.snd.fst, a0.snd.snd.fst, a0.snd.snd.snd.fst, y,
 a0.snd.snd.snd.snd.snd),
 PUnit.unit)
 else
 if (0 : Int) ≤ a1 then
 if a1 < (↑y.length : Int) then
 (nth y a1.toNat).bind fun y_2 =>
 (updO y a1.toNat y_1.fst).bind fun y =>
 (Q_s_l15Post big
 (a0.fst, a0.snd.fst, a0.snd.snd.fst, a0.snd.snd.snd.fst, y,
 a0.snd.snd.snd.snd.snd)
 [y_1.snd.fst]).bind
 fun y => some (true, y.snd)
 else none
 else none)
 ((Q_s_TimedOut big y a0.fst).bind fun y_1 =>
 (updO a0.snd.snd.snd.snd.fst a1.toNat y).bind fun y =>
 bif !y_1.snd.snd.fst then
 some
 (false,
 (a0.fst, a0.snd.fst, a0.snd.snd.fst, a0.snd.snd.snd.fst, y,
 a0.snd.snd.snd.snd.snd),
 PUnit.unit)
 else
 if (0 : Int) ≤ a1 then
 if a1 < (↑y.length : Int) then
 (nth y a1.toNat).bind fun y_2 =>
 (updO y a1.toNat y_1.fst).bind fun y =>
 (Q_s_l15Post big
 (a0.fst, a0.snd.fst, a0.snd.snd.fst, a0.snd.snd.snd.fst, y,
 a0.snd.snd.snd.snd.snd)
 [y_1.snd.fst]).bind
 fun y => some (true, y.snd)
 else none
 else none))
 ((nth a0.snd.snd.snd.snd.fst a1.toNat).bind fun y =>
 (Q_s_TimedOut big y a0.fst).bind fun y_1 =>
 (updO a0.snd.snd.snd.snd.fst a1.toNat y).bind fun y =>
 bif !y_1.snd.snd.fst then
 some
 (false,
 (a0.fst, a0.snd.fst, a0.snd.snd.fst, a0.snd.snd.snd.fst, y,
 a0.snd.snd.snd.snd.snd),
 PUnit.unit)
 else
 if (0 : Int) ≤ a1 then
 if a1 < (↑y.length : Int) then
 (nth y a1.toNat).bind fun y_2 =>
 (updO y a1.toNat y_1.fst).bind fun y =>
 (Q_s_l15Post big
 (a0.fst, a0.snd.fst, a0.snd.snd.fst, a0.snd.snd.snd.fst, y,
 a0.snd.snd.snd.snd.snd)
 [y_1.snd.fst]).bind
 fun y => some (true, y.snd)
 else none
 else none))
 (both
 ((nth a0.snd.snd.snd.snd.fst a1.toNat).bind fun y =>
 (Q_s_TimedOut big y a0.fst).bind fun y_1 =>
 (updO a0.snd.snd.snd.snd.fst a1.toNat y).bind fun y =>
 bif !y_1.snd.snd.fst then
 some
 (false,
 (a0.fst, a0.snd.fst, a0.snd.snd.fst, a0.snd.snd.snd.fst, y,
 a0.snd.snd.snd.snd.snd),
 PUnit.unit)
 else
 if (0 : Int) ≤ a1 then
 if a1 < (↑y.length : Int) then
 (nth y a1.toNat).bind fun y_2 =>
 (updO y a1.toNat y_1.fst).bind fun y =>
 (Q_s_l15Post big
 (a0.fst, a0.snd.fst, a0.snd.snd.fst, a0.snd.snd.snd.fst, y,
 a0.snd.snd.snd.snd.snd)
 [y_1.snd.fst]).bind
 fun y => some (true, y.snd)
 else none
 else none)
 ((nth a0.snd.snd.snd.snd.fst a1.toNat).bind fun y =>
 (Q_s_TimedOut big y a0.fst).bind fun y_1 =>
 (updO a0.snd.snd.snd.snd.fst a1.toNat y).bind fun y =>
 bif !y_1.snd.snd.fst then
 some
 (false,
 (a0.fst, a0.snd.fst, a0.snd.snd.fst, a0.snd.snd.snd.fst, y,
 a0.snd.snd.snd.snd.snd),
 PUnit.unit)
 else
 if (0 : Int) ≤ a1 then
 if a1 < (↑y.length : Int) then
 (nth y a1.toNat).bind fun y_2 =>
 (updO y a1.toNat y_1.fst).bind fun y =>
 (Q_s_l15Post big
 (a0.fst, a0.snd.fst, a0.snd.snd.fst, a0.snd.snd.snd.fst, y,
 a0.snd.snd.snd.snd.snd)
 [y_1.snd.fst]).bind
 fun y => some (true, y.snd)
 else none
 else none))))
 (both
 ((nth a0.snd.snd.snd.snd.fst a1.toNat).bind fun y =>
 (Q_s_TimedOut big y a0.fst).bind fun y_1 =>
 (updO a0.snd.snd.snd.snd.fst a1.toNat y).bind fun y =>
 bif !y_1.snd.snd.fst then
 some
 (false,
 (a0.fst, a0.snd.fst, a0.snd.snd.fst, a0.snd.snd.snd.fst, y,
 a0.snd.snd.snd.snd.snd),
 PUnit.unit)
 else
 if (0 : Int) ≤ a1 then
 if a1 < (↑y.length : Int) then
 (nth y a1.toNat).bind fun y_2 =>
 (updO y a1.toNat y_1.fst).bind fun y =>
 (Q_s_l15Post big
 (a0.fst, a0.snd.fst, a0.snd.snd.fst, a0.snd.snd.snd.fst, y,
 a0.snd.snd.snd.snd.snd)
 [y_1.snd.fst]).bind
 fun y => some (true, y.snd)
 else none
 else none)
 (both
 ((nth a0.snd.snd.snd.snd.fst a1.toNat).bind fun y =>
 (Q_s_TimedOut big y a0.fst).bind fun y_1 =>
 (updO a0.snd.snd.snd.snd.fst a1.toNat y).bind fun y =>
 bif !y_1.snd.snd.fst then
 some
 (false,
 (a0.fst, a0.snd.fst, a0.snd.snd.fst, a0.snd.snd.snd.fst, y,
 a0.snd.snd.snd.snd.snd),
 PUnit.unit)
 else
 if (0 : Int) ≤ a1 then
 if a1 < (↑y.length : Int) then
 (nth y a1.toNat).bind fun y_2 =>
 (updO y a1.toNat y_1.fst).bind fun y =>
 (Q_s_l15Post big
 (a0.fst, a0.snd.fst, a0.snd.snd.fst, a0.snd.snd.snd.fst, y,
 a0.snd.snd.snd.snd.snd)
 [y_1.snd.fst]).bind
 fun y => some (true, y.snd)
 else none
 else none)
 ((nth a0.snd.snd.snd.snd.fst a1.toNat).bind fun y =>
 (Q_s_TimedOut big y a0.fst).bind fun y_1 =>
 (updO a0.snd.snd.snd.snd.fst a1.toNat y).bind fun y =>
 bif !y_1.snd.snd.fst then
 some
 (false,
 (a0.fst, a0.snd.fst, a0.snd.snd.fst, a0.snd.snd.snd.fst, y,
 a0.snd.snd.snd.snd.snd),
 PUnit.unit)
 else
 if (0 : Int) ≤ a1 then
 if a1 < (↑y.length : Int) then
 (nth y a1.toNat).bind fun y_2 =>
 (updO y a1.toNat y_1.fst).bind fun y =>
 (Q_s_l15Post big
 (a0.fst, a0.snd.fst, a0.snd.snd.fst, a0.snd.snd.snd.fst, y,
 a0.snd.snd.snd.snd.snd)
 [y_1.snd.fst]).bind
 fun y => some (true, y.snd)
 else none
 else none)))))
 (both
 ((nth a0.snd.snd.snd.snd.fst a1.toNat).bind fun y =>
 (Q_s_TimedOut big y a0.fst).bind fun y_1 =>
 (updO a0.snd.snd.snd.snd.fst a1.toNat y).bind fun y =>
 bif !y_1.snd.snd.fst then
 some
 (false,
 (a0.fst, a0.snd.fst, a0.snd.snd.fst, a0.snd.snd.snd.fst, y, a0.snd.snd.snd.snd.snd),
 PUnit.unit)
 else
 if (0 : Int) ≤ a1 then
 if a1 < (↑y.length : Int) then
 (nth y a1.toNat).bind fun y_2 =>
 (updO y a1.toNat y_1.fst).bind fun y =>
 (Q_s_l15Post big
 (a0.fst, a0.snd.fst, a0.snd.snd.fst, a0.snd.snd.snd.fst, y,
 a0.snd.snd.snd.snd.snd)
 [y_1.snd.fst]).bind
 fun y => some (true, y.snd)
 else none
 else none)
 (both
 ((nth a0.snd.snd.snd.snd.fst a1.toNat).bind fun y =>
 (Q_s_TimedOut big y a0.fst).bind fun y_1 =>
 (updO a0.snd.snd.snd.snd.fst a1.toNat y).bind fun y =>
 bif !y_1.snd.snd.fst then
 some
 (false,
 (a0.fst, a0.snd.fst, a0.snd.snd.fst, a0.snd.snd.snd.fst, y, a0.snd.snd.snd.snd.snd),
 PUnit.unit)
 else
 if (0 : Int) ≤ a1 then
 if a1 < (↑y.length : Int) then
 (nth y a1.toNat).bind fun y_2 =>
 (updO y a1.toNat y_1.fst).bind fun y =>
 (Q_s_l15Post big
 (a0.fst, a0.snd.fst, a0.snd.snd.fst, a0.snd.snd.snd.fst, y,
 a0.snd.snd.snd.snd.snd)
 [y_1.snd.fst]).bind
 fun y => some (true, y.snd)
 else none
 else none)
 (both
 ((nth a0.snd.snd.snd.snd.fst a1.toNat).bind fun y =>
 (Q_s_TimedOut big y a0.fst).bind fun y_1 =>
 (updO a0.snd.snd.snd.snd.fst a1.toNat y).bind fun y =>
 bif !y_1.snd.snd.fst then
 some
 (false,
 (a0.fst, a0.snd.fst, a0.snd.snd.fst, a0.snd.snd.snd.fst, y,
 a0.snd.snd.snd.snd.snd),
 PUnit.unit)
 else
 if (0 : Int) ≤ a1 then
 if a1 < (↑y.length : Int) then
 (nth y a1.toNat).bind fun y_2 =>
 (updO y a1.toNat y_1.fst).bind fun y =>
 (Q_s_l15Post big
 (a0.fst, a0.snd.fst, a0.snd.snd.fst, a0.snd.snd.snd.fst, y,
 a0.snd.snd.snd.snd.snd)
 [y_1.snd.fst]).bind
 fun y => some (true, y.snd)
 else none
 else none)
 ((nth a0.snd.snd.snd.snd.fst a1.toNat).bind fun y =>
 (Q_s_TimedOut big y a0.fst).bind fun y_1 =>
 (updO a0.snd.snd.snd.snd.fst a1.toNat y).bind fun y =>
 bif !y_1.snd.snd.fst then
 some
 (false,
 (a0.fst, a0.snd.fst, a0.snd.snd.fst, a0.snd.snd.snd.fst, y,
 a0.snd.snd.snd.snd.snd),
 PUnit.unit)
 else
 if (0 : Int) ≤ a1 then
 if a1 < (↑y.length : Int) then
 (nth y a1.toNat).bind fun y_2 =>
 (updO y a1.toNat y_1.fst).bind fun y =>
 (Q_s_l15Post big
 (a0.fst, a0.snd.fst, a0.snd.snd.fst, a0.snd.snd.snd.fst, y,
 a0.snd.snd.snd.snd.snd)
 [y_1.snd.fst]).bind
 fun y => some (true, y.snd)
 else none
 else none))))))
 (both
 ((nth a0.snd.snd.snd.snd.fst a1.toNat).bind fun y =>
 both
 ((Q_s_TimedOut big y a0.fst).bind fun y_1 =>
 (updO a0.snd.snd.snd.snd.fst a1.toNat y).bind fun y =>
 bif !y_1.snd.snd.fst then
 some
 (false,
 (a0.fst, a0.snd.fst, a0.snd.snd.fst, a0.snd.snd.snd.fst, y, a0.snd.snd.snd.snd.snd),
 PUnit.unit)
 else
 if (0 : Int) ≤ a1 then
 if a1 < (↑y.length : Int) then
 (nth y a1.toNat).bind fun y_2 =>
 (updO y a1.toNat y_1.fst).bind fun y =>
 (Q_s_l15Post big
 (a0.fst, a0.snd.fst, a0.snd.snd.fst, a0.snd.snd.snd.fst, y,
 a0.snd.snd.snd.snd.snd)
 [y_1.snd.fst]).bind
 fun y => some (true, y.snd)
 else none
 else none)
 ((Q_s_TimedOut big y a0.fst).bind fun y_1 =>
 (updO a0.snd.snd.snd.snd.fst a1.toNat y).bind fun y =>
 bif !y_1.snd.snd.fst then
 some
 (false,
 (a0.fst, a0.snd.fst, a0.snd.snd.fst, a0.snd.snd.snd.fst, y, a0.snd.snd.snd.snd.snd),
 PUnit.unit)
 else
 if (0 : Int) ≤ a1 then
 if a1 < (↑y.length : Int) then
 (nth y a1.toNat).bind fun y_2 =>
 (updO y a1.toNat y_1.fst).bind fun y =>
 (Q_s_l15Post big
 (a0.fst, a0.snd.fst, a0.snd.snd.fst, a0.snd.snd.snd.fst, y,
 a0.snd.snd.snd.snd.snd)
 [y_1.snd.fst]).bind
 fun y => some (true, y.snd)
 else none
 else none))
 (both
 (both
 ((nth a0.snd.snd.snd.snd.fst a1.toNat).bind fun y =>
 both
 ((Q_s_TimedOut big y a0.fst).bind fun y_1 =>
 (updO a0.snd.snd.snd.snd.fst a1.toNat y).bind fun y =>
 bif !y_1.snd.snd.fst then
 some
 (false,
 (a0.fst, a0.snd.fst, a0.snd.snd.fst, a0.snd.snd.snd.fst, y, a0.snd.snd.snd.snd.snd),
 PUnit.unit)
 else
 if (0 : Int) ≤ a1 then
 if a1 < (↑y.length : Int) then
 (nth y a1.toNat).bind fun y_2 =>
 (updO y a1.toNat y_1.fst).bind fun y =>
 (Q_s_l15Post big
 (a0.fst, a0.snd.fst, a0.snd.snd.fst, a0.snd.snd.snd.fst, y,
 a0.snd.snd.snd.snd.snd)
 [y_1.snd.fst]).bind
 fun y => some (true, y.snd)
 else none
 else none)
 ((Q_s_TimedOut big y a0.fst).bind fun y_1 =>
 (updO a0.snd.snd.snd.snd.fst a1.toNat y).bind fun y =>
 bif !y_1.snd.snd.fst then
 some
 (false,
 (a0.fst, a0.snd.fst, a0.snd.snd.fst, a0.snd.snd.snd.fst, y, a0.snd.snd.snd.snd.snd),
 PUnit.unit)
 else
 if (0 : Int) ≤ a1 then
 if a1 < (↑y.length : Int) then
 (nth y a1.toNat).bind fun y_2 =>
 (updO y a1.toNat y_1.fst).bind fun y =>
 (Q_s_l15Post big
 (a0.fst, a0.snd.fst, a0.snd.snd.fst, a0.snd.snd.snd.fst, y,
 a0.snd.snd.snd.snd.snd)
 [y_1.snd.fst]).bind
 fun y => some (true, y.snd)
 else none
 else none))
 (both
 (both
 ((nth a0.snd.snd.snd.snd.fst a1.toNat).bind fun y =>
 both
 ((Q_s_TimedOut big y a0.fst).bind fun y_1 =>
 (updO a0.snd.snd.snd.snd.fst a1.toNat y).bind fun y =>
 bif !y_1.snd.snd.fst then
 some
 (false,
 (a0.fst, a0.snd.fst, a0.snd.snd.fst, a0.snd.snd.snd.fst, y,
 a0.snd.snd.snd.snd.snd),
 PUnit.unit)
 else
 if (0 : Int) ≤ a1 then
 if a1 < (↑y.length : Int) then
 (nth y a1.toNat).bind fun y_2 =>
 (updO y a1.toNat y_1.fst).bind fun y =>
 (Q_s_l15Post big
 (a0.fst, a0.snd.fst, a0.snd.snd.fst, a0.snd.snd.snd.fst, y,
 a0.snd.snd.snd.snd.snd)
 [y_1.snd.fst]).bind
 fun y => some (true, y.snd)
 else none
 else none)
 ((Q_s_TimedOut big y a0.fst).bind fun y_1 =>
 (updO a0.snd.snd.snd.snd.fst a1.toNat y).bind fun y =>
 bif !y_1.snd.snd.fst then
 some
 (false,
 (a0.fst, a0.snd.fst, a0.snd.snd.fst, a0.snd.snd.snd.fst, y,
 a0.snd.snd.snd.snd.snd),
 PUnit.unit)
 else
 if (0 : Int) ≤ a1 then
 if a1 < (↑y.length : Int) then
 (nth y a1.toNat).bind fun y_2 =>
 (updO y a1.toNat y_1.fst).bind fun y =>
 (Q_s_l15Post big
 (a0.fst, a0.snd.fst, a0.snd.snd.fst, a0.snd.snd.snd.fst, y,
 a0.snd.snd.snd.snd.snd)
 [y_1.snd.fst]).bind
 fun y => some (true, y.snd)
 else none
 else none))
 (both
 (both
 ((nth a0.snd.snd.snd.snd.fst a1.toNat).bind fun y =>
 both
 ((Q_s_TimedOut big y a0.fst).bind fun y_1 =>
 (updO a0.snd.snd.snd.snd.fst a1.toNat y).bind fun y =>
 bif !y_1.snd.snd.fst then
 some
 (false,
 (a0.fst, a0.snd.fst, a0.snd.snd.fst, a0.snd.snd.snd.fst, y,
 a0.snd.snd.snd.snd.snd),
 PUnit.unit)
 else
 if (0 : Int) ≤ a1 then
 if a1 < (↑y.length : Int) then
 (nth y a1.toNat).bind fun y_2 =>
 (updO y a1.toNat y_1.fst).bind fun y =>
 (Q_s_l15Post big
 (a0.fst, a0.snd.fst, a0.snd.snd.fst, a0.snd.snd.snd.fst, y,
 a0.snd.snd.snd.snd.snd)
 [y_1.snd.fst]).bind
 fun y => some (true, y.snd)
 else none
 else none)
 ((Q_s_TimedOut big y a0.fst).bind fun y_1 =>
 (updO a0.snd.snd.snd.snd.fst a1.toNat y).bind fun y =>
 bif !y_1.snd.snd.fst then
 some
 (false,
 (a0.fst, a0.snd.fst, a0.snd.snd.fst, a0.snd.snd.snd.fst, y,
 a0.snd.snd.snd.snd.snd),
 PUnit.unit)
 else
 if (0 : Int) ≤ a1 then
 if a1 < (↑y.length : Int) then
 (nth y a1.toNat).bind fun y_2 =>
 (updO y a1.toNat y_1.fst).bind fun y =>
 (Q_s_l15Post big
 (a0.fst, a0.snd.fst, a0.snd.snd.fst, a0.snd.snd.snd.fst, y,
 a0.snd.snd.snd.snd.snd)
 [y_1.snd.fst]).bind
 fun y => some (true, y.snd)
 else none
 else none))
 ((nth a0.snd.snd.snd.snd.fst a1.toNat).bind fun y =>
 (Q_s_TimedOut big y a0.fst).bind fun y_1 =>
 (updO a0.snd.snd.snd.snd.fst a1.toNat y).bind fun y =>
 bif !y_1.snd.snd.fst then
 some
 (false,
 (a0.fst, a0.snd.fst, a0.snd.snd.fst, a0.snd.snd.snd.fst, y,
 a0.snd.snd.snd.snd.snd),
 PUnit.unit)
 else
 if (0 : Int) ≤ a1 then
 if a1 < (↑y.length : Int) then
 (nth y a1.toNat).bind fun y_2 =>
 (updO y a1.toNat y_1.fst).bind fun y =>
 (Q_s_l15Post big
 (a0.fst, a0.snd.fst, a0.snd.snd.fst, a0.snd.snd.snd.fst, y,
 a0.snd.snd.snd.snd.snd)
 [y_1.snd.fst]).bind
 fun y => some (true, y.snd)
 else none
 else none))
 (both
 ((nth a0.snd.snd.snd.snd.fst a1.toNat).bind fun y =>
 (Q_s_TimedOut big y a0.fst).bind fun y_1 =>
 (updO a0.snd.snd.snd.snd.fst a1.toNat y).bind fun y =>
 bif !y_1.snd.snd.fst then
 some
 (false,
 (a0.fst, a0.snd.fst, a0.snd.snd.fst, a0.snd.snd.snd.fst, y,
 a0.snd.snd.snd.snd.snd),
 PUnit.unit)
 else
 if (0 : Int) ≤ a1 then
 if a1 < (↑y.length : Int) then
 (nth y a1.toNat).bind fun y_2 =>
 (updO y a1.toNat y_1.fst).bind fun y =>
 (Q_s_l15Post big
 (a0.fst, a0.snd.fst, a0.snd.snd.fst, a0.snd.snd.snd.fst, y,
 a0.snd.snd.snd.snd.snd)
 [y_1.snd.fst]).bind
 fun y => some (true, y.snd)
 else none
 else none)
 ((nth a0.snd.snd.snd.snd.fst a1.toNat).bind fun y =>
 (Q_s_TimedOut big y a0.fst).bind fun y_1 =>
 (updO a0.snd.snd.snd.snd.fst a1.toNat y).bind fun y =>
 bif !y_1.snd.snd.fst then
 some
 (false,
 (a0.fst, a0.snd.fst, a0.snd.snd.fst, a0.snd.snd.snd.fst, y,
 a0.snd.snd.snd.snd.snd),
 PUnit.unit)
 else
 if (0 : Int) ≤ a1 then
 if a1 < (↑y.length : Int) then
 (nth y a1.toNat).bind fun y_2 =>
 (updO y a1.toNat y_1.fst).bind fun y =>
 (Q_s_l15Post big
 (a0.fst, a0.snd.fst, a0.snd.snd.fst, a0.snd.snd.snd.fst, y,
 a0.snd.snd.snd.snd.snd)
 [y_1.snd.fst]).bind
 fun y => some (true, y.snd)
 else none
 else none))))
 (both
 ((nth a0.snd.snd.snd.snd.fst a1.toNat).bind fun y =>
 (Q_s_TimedOut big y a0.fst).bind fun y_1 =>
 (updO a0.snd.snd.snd.snd.fst a1.toNat y).bind fun y =>
 bif !y_1.snd.snd.fst then
 some
 (false,
 (a0.fst, a0.snd.fst, a0.snd.snd.fst, a0.snd.snd.snd.fst, y,
 a0.snd.snd.snd.snd.snd),
 PUnit.unit)
 else
 if (0 : Int) ≤ a1 then
 if a1 < (↑y.length : Int) then
 (nth y a1.toNat).bind fun y_2 =>
 (updO y a1.toNat y_1.fst).bind fun y =>
 (Q_s_l15Post big
 (a0.fst, a0.snd.fst, a0.snd.snd.fst, a0.snd.snd.snd.fst, y,
 a0.snd.snd.snd.snd.snd)
 [y_1.snd.fst]).bind
 fun y => some (true, y.snd)
 else none
 else none)
 (both
 ((nth a0.snd.snd.snd.snd.fst a1.toNat).bind fun y =>
 (Q_s_TimedOut big y a0.fst).bind fun y_1 =>
 (updO a0.snd.snd.snd.snd.fst a1.toNat y).bind fun y =>
 bif !y_1.snd.snd.fst then
 some
 (false,
 (a0.fst, a0.snd.fst, a0.snd.snd.fst, a0.snd.snd.snd.fst, y,
 a0.snd.snd.snd.snd.snd),
 PUnit.unit)
 else
 if (0 : Int) ≤ a1 then
 if a1 < (↑y.length : Int) then
 (nth y a1.toNat).bind fun y_2 =>
 (updO y a1.toNat y_1.fst).bind fun y =>
 (Q_s_l15Post big
 (a0.fst, a0.snd.fst, a0.snd.snd.fst, a0.snd.snd.snd.fst, y,
 a0.snd.snd.snd.snd.snd)
 [y_1.snd.fst]).bind
 fun y => some (true, y.snd)
 else none
 else none)
 ((nth a0.snd.snd.snd.snd.fst a1.toNat).bind fun y =>
 (Q_s_TimedOut big y a0.fst).bind fun y_1 =>
 (updO a0.snd.snd.snd.snd.fst a1.toNat y).bind fun y =>
 bif !y_1.snd.snd.fst then
 some
 (false,
 (a0.fst, a0.snd.fst, a0.snd.snd.fst, a0.snd.snd.snd.fst, y,
 a0.snd.snd.snd.snd.snd),
 PUnit.unit)
 else
 if (0 : Int) ≤ a1 then
 if a1 < (↑y.length : Int) then
 (nth y a1.toNat).bind fun y_2 =>
 (updO y a1.toNat y_1.fst).bind fun y =>
 (Q_s_l15Post big
 (a0.fst, a0.snd.fst, a0.snd.snd.fst, a0.snd.snd.snd.fst, y,
 a0.snd.snd.snd.snd.snd)
 [y_1.snd.fst]).bind
 fun y => some (true, y.snd)
 else none
 else none)))))
 (both
 ((nth a0.snd.snd.snd.snd.fst a1.toNat).bind fun y =>
 (Q_s_TimedOut big y a0.fst).bind fun y_1 =>
 (updO a0.snd.snd.snd.snd.fst a1.toNat y).bind fun y =>
 bif !y_1.snd.snd.fst then
 some
 (false,
 (a0.fst, a0.snd.fst, a0.snd.snd.fst, a0.snd.snd.snd.fst, y, a0.snd.snd.snd.snd.snd),
 PUnit.unit)
 else
 if (0 : Int) ≤ a1 then
 if a1 < (↑y.length : Int) then
 (nth y a1.toNat).bind fun y_2 =>
 (updO y a1.toNat y_1.fst).bind fun y =>
 (Q_s_l15Post big
 (a0.fst, a0.snd.fst, a0.snd.snd.fst, a0.snd.snd.snd.fst, y,
 a0.snd.snd.snd.snd.snd)
 [y_1.snd.fst]).bind
 fun y => some (true, y.snd)
 else none
 else none)
 (both
 ((nth a0.snd.snd.snd.snd.fst a1.toNat).bind fun y =>
 (Q_s_TimedOut big y a0.fst).bind fun y_1 =>
 (updO a0.snd.snd.snd.snd.fst a1.toNat y).bind fun y =>
 bif !y_1.snd.snd.fst then
 some
 (false,
 (a0.fst, a0.snd.fst, a0.snd.snd.fst, a0.snd.snd.snd.fst, y, a0.snd.snd.snd.snd.snd),
 PUnit.unit)
 else
 if (0 : Int) ≤ a1 then
 if a1 < (↑y.length : Int) then
 (nth y a1.toNat).bind fun y_2 =>
 (updO y a1.toNat y_1.fst).bind fun y =>
 (Q_s_l15Post big
 (a0.fst, a0.snd.fst, a0.snd.snd.fst, a0.snd.snd.snd.fst, y,
 a0.snd.snd.snd.snd.snd)
 [y_1.snd.fst]).bind
 fun y => some (true, y.snd)
 else none
 else none)
 (both
 ((nth a0.snd.snd.snd.snd.fst a1.toNat).bind fun y =>
 (Q_s_TimedOut big y a0.fst).bind fun y_1 =>
 (updO a0.snd.snd.snd.snd.fst a1.toNat y).bind fun y =>
 bif !y_1.snd.snd.fst then
 some
 (false,
 (a0.fst, a0.snd.fst, a0.snd.snd.fst, a0.snd.snd.snd.fst, y,
 a0.snd.snd.snd.snd.snd),
 PUnit.unit)
 else
 if (0 : Int) ≤ a1 then
 if a1 < (↑y.length : Int) then
 (nth y a1.toNat).bind fun y_2 =>
 (updO y a1.toNat y_1.fst).bind fun y =>
 (Q_s_l15Post big
 (a0.fst, a0.snd.fst, a0.snd.snd.fst, a0.snd.snd.snd.fst, y,
 a0.snd.snd.snd.snd.snd)
 [y_1.snd.fst]).bind
 fun y => some (true, y.snd)
 else none
 else none)
 ((nth a0.snd.snd.snd.snd.fst a1.toNat).bind fun y =>
 (Q_s_TimedOut big y a0.fst).bind fun y_1 =>
 (updO a0.snd.snd.snd.snd.fst a1.toNat y).bind fun y =>
 bif !y_1.snd.snd.fst then
 some
 (false,
 (a0.fst, a0.snd.fst, a0.snd.snd.fst, a0.snd.snd.snd.fst, y,
 a0.snd.snd.snd.snd.snd),
 PUnit.unit)
 else
 if (0 : Int) ≤ a1 then
 if a1 < (↑y.length : Int) then
 (nth y a1.toNat).bind fun y_2 =>
 (updO y a1.toNat y_1.fst).bind fun y =>
 (Q_s_l15Post big
 (a0.fst, a0.snd.fst, a0.snd.snd.fst, a0.snd.snd.snd.fst, y,
 a0.snd.snd.snd.snd.snd)
 [y_1.snd.fst]).bind
 fun y => some (true, y.snd)
 else none
 else none))))))))
 else none
 else none := by kernel_rfl

end Go.Sx.Try

set_option maxRecDepth 100000
namespace Go.Sx.Try
open Go Go.Sx Go.Proofs

noncomputable def l_s_WaitOut : List (Nat × Con) := [(112, c_s_l15Copy), (125, c_s_l15Wait)]
theorem l_s_WaitOut_ok : ∀ q ∈ l_s_WaitOut, ConOk Try.prog q.1 q.2 := Try.cons_cons c_s_l15Copy_ok (Try.cons_cons c_s_l15Wait_ok (Try.cons_nil))
def kp_s_WaitOut : KP := []
noncomputable def q_s_WaitOut (n : Nat) (x : Args [tICluster, tInt]) := evX (false, false, [2, 6]) l_s_WaitOut kp_s_WaitOut [some uICluster, none] Try.f52 (shT [(true, uICluster), (false, tBool)]) n (encA [tICluster, tInt] x)
noncomputable def c_s_WaitOut : Con := roS [tICluster, tInt] true (shT [(true, uICluster), (false, tBool)]) (q_s_WaitOut big)
theorem c_s_WaitOut_ok : ConOk Try.prog 52 c_s_WaitOut := roS_ok ⟨Try.f52, by kernel_rfl, rfl, by decide⟩ fun _ _ h => evX_ok l_s_WaitOut_ok (f := Try.f52) (by kernel_rfl) rfl (by kernel_rfl) (by kernel_rfl) big h
noncomputable def Q_s_WaitOut (n : Nat) (a0 : DICluster) (a1 : Int) : Option (DICluster × Bool × Unit) := q_s_WaitOut n (a0, a1, ())
theorem Q_s_WaitOut_eq (n : Nat) (a0 : DICluster) (a1 : Int) : Q_s_WaitOut n a0 a1 =
    (Q_s_l15Copy big a0).bind fun y => (Q_s_l15Wait big y a1).bind fun y => some (y.snd.fst, y.fst, PUnit.unit) := by kernel_rfl

end Go.Sx.Try

set_option maxRecDepth 100000
namespace Go.Sx.Try
open Go Go.Sx Go.Proofs

noncomputable def l_i_CountOf : List (Nat × Con) := []
theorem l_i_CountOf_ok : ∀ q ∈ l_i_CountOf, ConOk Try.prog q.1 q.2 := Try.cons_nil
abbrev k_i_CountOf_3 : List Keep × List BK := ([.ro tInt64, .drop, .drop, .ro tInt64, .drop, .ro tInt64, .drop, .drop, .drop, .drop, .drop, .drop, .drop, .drop, .drop, .drop, .drop, .drop], [])
def kp_i_CountOf : KP := [(3, k_i_CountOf_3)]
noncomputable def q_i_CountOf (n : Nat) (x : Args [tInt]) := evX (false, false, []) l_i_CountOf kp_i_CountOf [none] Try.f130 (shV tInt) n (encA [tInt] x)
noncomputable def c_i_CountOf : Con := roS [tInt] true (shV tInt) (q_i_CountOf big)
theorem c_i_CountOf_ok : ConOk Try.prog 130 c_i_CountOf := roS_ok ⟨Try.f130, by kernel_rfl, rfl, by decide⟩ fun _ _ h => evX_ok l_i_CountOf_ok (f := Try.f130) (by kernel_rfl) rfl (by kernel_rfl) (by kernel_rfl) big h
noncomputable def Q_i_CountOf (n : Nat) (a0 : Int) : Option Int := q_i_CountOf n (a0, ())
noncomputable def r_i_CountOf_3 (n : Nat) (x : KD k_i_CountOf_3.1) (y : BD k_i_CountOf_3.2) := rounds (env (false, false, []) l_i_CountOf) kp_i_CountOf (body Try.f130) (finX (false, false, []) l_i_CountOf [none] Try.f130 (shV tInt) [.val tInt (zeroD tInt)]) n 3 k_i_CountOf_3 x y
noncomputable def R_i_CountOf_3 (n : Nat) (s0 : Int) (s3 : Int) (s5 : Int) : Option Int := r_i_CountOf_3 n (s0, s3, s5, ()) ()
theorem Q_i_CountOf_eq (n : Nat) (a0 : Int) : Q_i_CountOf n a0 =
    R_i_CountOf_3 n a0 (0 : Int) (0 : Int) := by kernel_rfl
theorem R_i_CountOf_3_eq (n : Nat) (s0 : Int) (s3 : Int) (s5 : Int) : R_i_CountOf_3 (n + 1) s0 s3 s5 =
    bif decide (s5 < (7 : Int)) then
 bif decide ((0 : Int) < s0) then
 if s5 < (0 : Int) then none
 else
 R_i_CountOf_3 n s0
 (IntKind.i64.wrap
 (s3 +
 IntKind.i64.wrap
 (↑(BitVec.ofInt IntKind.i64.bits (s0.fdiv ((2 : Int) ^ min s5.toNat IntKind.i64.bits)) &&&
 BitVec.ofInt IntKind.i64.bits (1 : Int)).toNat :
 Int)))
 (IntKind.i64.wrap (s5 + (1 : Int)))
 else R_i_CountOf_3 n s0 s3 (IntKind.i64.wrap (s5 + (1 : Int)))
 else some s3 := by kernel_rfl

end Go.Sx.Try

set_option maxRecDepth 100000
namespace Go.Sx.Try
open Go Go.Sx Go.Proofs

noncomputable def l_i_Faults : List (Nat × Con) := []
theorem l_i_Faults_ok : ∀ q ∈ l_i_Faults, ConOk Try.prog q.1 q.2 := Try.cons_nil
def kp_i_Faults : KP := []
noncomputable def q_i_Faults (n : Nat) (x : Args [tInt]) := evX (false, false, []) l_i_Faults kp_i_Faults [none] Try.f131 (shV tInt) n (encA [tInt] x)
noncomputable def c_i_Faults : Con := roS [tInt] true (shV tInt) (q_i_Faults big)
theorem c_i_Faults_ok : ConOk Try.prog 131 c_i_Faults := roS_ok ⟨Try.f131, by kernel_rfl, rfl, by decide⟩ fun _ _ h => evX_ok l_i_Faults_ok (f := Try.f131) (by kernel_rfl) rfl (by kernel_rfl) (by kernel_rfl) big h
noncomputable def Q_i_Faults (n : Nat) (a0 : Int) : Option Int := q_i_Faults n (a0, ())
theorem Q_i_Faults_eq (n : Nat) (a0 : Int) : Q_i_Faults n a0 =
    bif decide (a0 < (1 : Int)) then some (0 : Int)
 else some (IntKind.i64.wrap ((IntKind.i64.wrap (a0 - (1 : Int))).tdiv (3 : Int))) := by kernel_rfl

end Go.Sx.Try

set_option maxRecDepth 100000
namespace Go.Sx.Try
open Go Go.Sx Go.Proofs

noncomputable def l_i_FirstBlock : List (Nat × Con) := []
theorem l_i_FirstBlock_ok : ∀ q ∈ l_i_FirstBlock, ConOk Try.prog q.1 q.2 := Try.cons_nil
def kp_i_FirstBlock : KP := []
noncomputable def q_i_FirstBlock (n : Nat) (x : Args []) := evX (false, false, []) l_i_FirstBlock kp_i_FirstBlock [some uIBlock] Try.f168 (shF uIBlock) n (encA [] x)
noncomputable def c_i_FirstBlock : Con := roS [] true (shF uIBlock) (q_i_FirstBlock big)
theorem c_i_FirstBlock_ok : ConOk Try.prog 168 c_i_FirstBlock := roS_ok ⟨Try.f168, by kernel_rfl, rfl, by decide⟩ fun _ _ h => evX_ok l_i_FirstBlock_ok (f := Try.f168) (by kernel_rfl) rfl (by kernel_rfl) (by kernel_rfl) big h
noncomputable def Q_i_FirstBlock (n : Nat)  : Option DIBlock := q_i_FirstBlock n ()
theorem Q_i_FirstBlock_eq (n : Nat)  : Q_i_FirstBlock n  =
    some ((-1 : Int), (0 : Int), [], ((0 : Int), (0 : Int), (0 : Int), (0 : Int), PUnit.unit), PUnit.unit) := by kernel_rfl

end Go.Sx.Try

set_option maxRecDepth 100000
namespace Go.Sx.Try
open Go Go.Sx Go.Proofs

noncomputable def l_i_TreeNew : List (Nat × Con) := [(168, c_i_FirstBlock)]
theorem l_i_TreeNew_ok : ∀ q ∈ l_i_TreeNew, ConOk Try.prog q.1 q.2 := Try.cons_cons c_i_FirstBlock_ok (Try.cons_nil)
def kp_i_TreeNew : KP := []
noncomputable def q_i_TreeNew (n : Nat) (x : Args []) := evX (true, false, []) l_i_TreeNew kp_i_TreeNew [some uSlIBlock] Try.f132 (shF uSlIBlock) n (encA [] x)
noncomputable def c_i_TreeNew : Con := roS [] true (shF uSlIBlock) (q_i_TreeNew big)
theorem c_i_TreeNew_ok : ConOk Try.prog 132 c_i_TreeNew := roS_ok ⟨Try.f132, by kernel_rfl, rfl, by decide⟩ fun _ _ h => evX_ok l_i_TreeNew_ok (f := Try.f132) (by kernel_rfl) rfl (by kernel_rfl) (by kernel_rfl) big h
noncomputable def Q_i_TreeNew (n : Nat)  : Option DSlIBlock := q_i_TreeNew n ()
theorem Q_i_TreeNew_eq (n : Nat)  : Q_i_TreeNew n  =
    some [((-1 : Int), (0 : Int), [], ((0 : Int), (0 : Int), (0 : Int), (0 : Int), PUnit.unit), PUnit.unit)] := by kernel_rfl

end Go.Sx.Try

set_option maxRecDepth 100000
namespace Go.Sx.Try
open Go Go.Sx Go.Proofs

noncomputable def l_i_PeerNew : List (Nat × Con) := []
theorem l_i_PeerNew_ok : ∀ q ∈ l_i_PeerNew, ConOk Try.prog q.1 q.2 := Try.cons_nil
def kp_i_PeerNew : KP := []
noncomputable def q_i_PeerNew (n : Nat) (x : Args [tInt]) := evX (false, false, []) l_i_PeerNew kp_i_PeerNew [some uIPeer] Try.f17 (shF uIPeer) n (encA [tInt] x)
noncomputable def c_i_PeerNew : Con := roS [tInt] true (shF uIPeer) (q_i_PeerNew big)
theorem c_i_PeerNew_ok : ConOk Try.prog 17 c_i_PeerNew := roS_ok ⟨Try.f17, by kernel_rfl, rfl, by decide⟩ fun _ _ h => evX_ok l_i_PeerNew_ok (f := Try.f17) (by kernel_rfl) rfl (by kernel_rfl) (by kernel_rfl) big h
noncomputable def Q_i_PeerNew (n : Nat) (a0 : Int) : Option DIPeer := q_i_PeerNew n (a0, ())
theorem Q_i_PeerNew_eq (n : Nat) (a0 : Int) : Q_i_PeerNew n a0 =
    some
 (a0, (1 : Int), ((0 : Int), (0 : Int), (0 : Int), (0 : Int), PUnit.unit),
 ((0 : Int), (0 : Int), (0 : Int), (0 : Int), PUnit.unit),
 ((0 : Int), (0 : Int), (0 : Int), (0 : Int), PUnit.unit), [], [], [], [], [], [], (0 : Int), PUnit.unit) := by kernel_rfl

end Go.Sx.Try

set_option maxRecDepth 100000
namespace Go.Sx.Try
open Go Go.Sx Go.Proofs

noncomputable def l_i_ClusterNew : List (Nat × Con) := [(98, c_i_in), (130, c_i_CountOf), (131, c_i_Faults), (132, c_i_TreeNew), (17, c_i_PeerNew)]
theorem l_i_ClusterNew_ok : ∀ q ∈ l_i_ClusterNew, ConOk Try.prog q.1 q.2 := Try.cons_cons c_i_in_ok (Try.cons_cons c_i_CountOf_ok (Try.cons_cons c_i_Faults_ok (Try.cons_cons c_i_TreeNew_ok (Try.cons_cons c_i_PeerNew_ok (Try.cons_nil)))))
abbrev k_i_ClusterNew_5 : List Keep × List BK := ([.drop, .drop, .drop, .drop, .drop, .drop, .is (.ptr 0 0), .drop, .is (.ptr 2 0), .drop, .drop, .drop, .drop, .drop, .drop, .drop, .drop, .drop, .drop, .drop, .drop, .drop, .drop, .drop, .drop, .drop, .drop, .drop, .drop, .drop, .drop, .drop, .drop, .drop, .ro tInt64, .ro tInt64, .drop, .drop, .drop, .drop, .drop, .drop, .drop, .drop, .drop, .drop, .drop], [.vars [.ro tInt64, .ro tBool, .ro tInt64, .own uIBlock, .own uIPeer, .own tILetter, .own tIVote, .own tICmd], .drop, .vars [.ro tInt64, .ro tBool, .ro tInt64, .own uXstruct_Parent_int_View_int_Cmds_laws_Cmd, .own uIPeer, .own tILetter, .own tIVote, .own tICmd]])
def kp_i_ClusterNew : KP := [(5, k_i_ClusterNew_5)]
noncomputable def q_i_ClusterNew (n : Nat) (x : Args [tInt, tBool, tInt]) := evX (true, false, [8, 38]) l_i_ClusterNew kp_i_ClusterNew [some uICluster, none] Try.f55 (shT [(true, uICluster), (false, tBool)]) n (encA [tInt, tBool, tInt] x)
noncomputable def c_i_ClusterNew : Con := roS [tInt, tBool, tInt] true (shT [(true, uICluster), (false, tBool)]) (q_i_ClusterNew big)
theorem c_i_ClusterNew_ok : ConOk Try.prog 55 c_i_ClusterNew := roS_ok ⟨Try.f55, by kernel_rfl, rfl, by decide⟩ fun _ _ h => evX_ok l_i_ClusterNew_ok (f := Try.f55) (by kernel_rfl) rfl (by kernel_rfl) (by kernel_rfl) big h
noncomputable def Q_i_ClusterNew (n : Nat) (a0 : Int) (a1 : Bool) (a2 : Int) : Option (DICluster × Bool × Unit) := q_i_ClusterNew n (a0, a1, a2, ())
noncomputable def r_i_ClusterNew_5 (n : Nat) (x : KD k_i_ClusterNew_5.1) (y : BD k_i_ClusterNew_5.2) := rounds (env (true, false, [8, 38]) l_i_ClusterNew) kp_i_ClusterNew (body Try.f55) (finX (true, false, [8, 38]) l_i_ClusterNew [some uICluster, none] Try.f55 (shT [(true, uICluster), (false, tBool)]) [.val tInt (zeroD tInt), .val tBool (zeroD tBool), .val tInt (zeroD tInt)]) n 5 k_i_ClusterNew_5 x y
noncomputable def R_i_ClusterNew_5 (n : Nat) (s34 : Int) (s35 : Int) (b0_0 : Int) (b0_1 : Bool) (b0_2 : Int) (b0_3 : (List DIBlock)) (b0_4 : (List DIPeer)) (b0_5 : (List DILetter)) (b0_6 : (List DIVote)) (b0_7 : (List DICmd)) (b2_0 : Int) (b2_1 : Bool) (b2_2 : Int) (b2_3 : (List DXstruct_Parent_int_View_int_Cmds_laws_Cmd)) (b2_4 : (List DIPeer)) (b2_5 : (List DILetter)) (b2_6 : (List DIVote)) (b2_7 : (List DICmd)) : Option (DICluster × Bool × Unit) := r_i_ClusterNew_5 n (s34, s35, ()) ((b0_0, b0_1, b0_2, b0_3, b0_4, b0_5, b0_6, b0_7, ()), (b2_0, b2_1, b2_2, b2_3, b2_4, b2_5, b2_6, b2_7, ()), ())
theorem Q_i_ClusterNew_eq (n : Nat) (a0 : Int) (a1 : Bool) (a2 : Int) : Q_i_ClusterNew n a0 a1 a2 =
    (Q_i_in big a0 (1 : Int) (7 : Int)).bind fun y =>
 bif !y then some (((0 : Int), false, (0 : Int), [], [], [], [], [], PUnit.unit), false, PUnit.unit)
 else
 if a0 < (0 : Int) then none
 else
 (Q_i_in big a2 (0 : Int)
 (IntKind.i64.wrap
 (IntKind.i64.wrap ((1 : Int) * (2 : Int) ^ min a0.toNat IntKind.i64.bits) - (1 : Int)))).bind
 fun y =>
 bif !y then some (((0 : Int), false, (0 : Int), [], [], [], [], [], PUnit.unit), false, PUnit.unit)
 else
 (Q_i_CountOf big a2).bind fun y =>
 (Q_i_Faults big a0).bind fun y_1 =>
 bif decide (y_1 < y) then
 some (((0 : Int), false, (0 : Int), [], [], [], [], [], PUnit.unit), false, PUnit.unit)
 else
 R_i_ClusterNew_5 n a0 (0 : Int) (0 : Int) false (0 : Int) [] [] [] [] [] a0 a1 a2
 [((-1 : Int), (0 : Int), [], ((0 : Int), (0 : Int), (0 : Int), (0 : Int), PUnit.unit), PUnit.unit)]
 [] [] [] [] := by kernel_rfl
theorem R_i_ClusterNew_5_eq (n : Nat) (s34 : Int) (s35 : Int) (b0_0 : Int) (b0_1 : Bool) (b0_2 : Int) (b0_3 : (List DIBlock)) (b0_4 : (List DIPeer)) (b0_5 : (List DILetter)) (b0_6 : (List DIVote)) (b0_7 : (List DICmd)) (b2_0 : Int) (b2_1 : Bool) (b2_2 : Int) (b2_3 : (List DXstruct_Parent_int_View_int_Cmds_laws_Cmd)) (b2_4 : (List DIPeer)) (b2_5 : (List DILetter)) (b2_6 : (List DIVote)) (b2_7 : (List DICmd)) : R_i_ClusterNew_5 (n + 1) s34 s35 b0_0 b0_1 b0_2 b0_3 b0_4 b0_5 b0_6 b0_7 b2_0 b2_1 b2_2 b2_3 b2_4 b2_5 b2_6 b2_7 =
    bif decide (s35 < s34) then
 if b2_4.length + (1 : Nat) ≤ lim then
 R_i_ClusterNew_5 n s34 (IntKind.i64.wrap (s35 + (1 : Int))) b0_0 b0_1 b0_2 b0_3 b0_4 b0_5 b0_6 b0_7 b2_0 b2_1 b2_2
 b2_3
 (b2_4.append
 [(s35, (1 : Int), ((0 : Int), (0 : Int), (0 : Int), (0 : Int), ()),
 ((0 : Int), (0 : Int), (0 : Int), (0 : Int), ()), ((0 : Int), (0 : Int), (0 : Int), (0 : Int), ()), [],
 [], [], [], [], [], (0 : Int), ())])
 b2_5 b2_6 b2_7
 else none
 else some ((b2_0, b2_1, b2_2, b2_3, b2_4, b2_5, b2_6, b2_7, PUnit.unit), true, PUnit.unit) := by kernel_rfl

end Go.Sx.Try

set_option maxRecDepth 100000
namespace Go.Sx.Try
open Go Go.Sx Go.Proofs

noncomputable def l_s_CountOf : List (Nat × Con) := []
theorem l_s_CountOf_ok : ∀ q ∈ l_s_CountOf, ConOk Try.prog q.1 q.2 := Try.cons_nil
abbrev k_s_CountOf_3 : List Keep × List BK := ([.ro tInt64, .drop, .drop, .ro tInt64, .ro tInt64, .drop, .drop, .drop, .drop, .drop, .drop, .drop, .drop, .drop, .drop, .drop, .drop, .drop, .drop, .drop, .drop], [])
def kp_s_CountOf : KP := [(3, k_s_CountOf_3)]
noncomputable def q_s_CountOf (n : Nat) (x : Args [tInt]) := evX (false, false, []) l_s_CountOf kp_s_CountOf [none] Try.f127 (shV tInt) n (encA [tInt] x)
noncomputable def c_s_CountOf : Con := roS [tInt] true (shV tInt) (q_s_CountOf big)
theorem c_s_CountOf_ok : ConOk Try.prog 127 c_s_CountOf := roS_ok ⟨Try.f127, by kernel_rfl, rfl, by decide⟩ fun _ _ h => evX_ok l_s_CountOf_ok (f := Try.f127) (by kernel_rfl) rfl (by kernel_rfl) (by kernel_rfl) big h
noncomputable def Q_s_CountOf (n : Nat) (a0 : Int) : Option Int := q_s_CountOf n (a0, ())
noncomputable def r_s_CountOf_3 (n : Nat) (x : KD k_s_CountOf_3.1) (y : BD k_s_CountOf_3.2) := rounds (env (false, false, []) l_s_CountOf) kp_s_CountOf (body Try.f127) (finX (false, false, []) l_s_CountOf [none] Try.f127 (shV tInt) [.val tInt (zeroD tInt)]) n 3 k_s_CountOf_3 x y
noncomputable def R_s_CountOf_3 (n : Nat) (s0 : Int) (s3 : Int) (s4 : Int) : Option Int := r_s_CountOf_3 n (s0, s3, s4, ()) ()
theorem Q_s_CountOf_eq (n : Nat) (a0 : Int) : Q_s_CountOf n a0 =
    R_s_CountOf_3 n a0 (0 : Int) (0 : Int) := by kernel_rfl
theorem R_s_CountOf_3_eq (n : Nat) (s0 : Int) (s3 : Int) (s4 : Int) : R_s_CountOf_3 (n + 1) s0 s3 s4 =
    bif decide (s4 < (7 : Int)) then
 bif decide ((0 : Int) ≤ s0) then
 if IntKind.u64.wrap s4 < (0 : Int) then none
 else
 R_s_CountOf_3 n s0
 (IntKind.i64.wrap
 (s3 + (s0.fdiv ((2 : Int) ^ min (IntKind.u64.wrap s4).toNat IntKind.i64.bits)).tmod (2 : Int)))
 (IntKind.i64.wrap (s4 + (1 : Int)))
 else some s3
 else some s3 := by kernel_rfl

end Go.Sx.Try

set_option maxRecDepth 100000
namespace Go.Sx.Try
open Go Go.Sx Go.Proofs

noncomputable def l_s_Faults : List (Nat × Con) := []
theorem l_s_Faults_ok : ∀ q ∈ l_s_Faults, ConOk Try.prog q.1 q.2 := Try.cons_nil
def kp_s_Faults : KP := []
noncomputable def q_s_Faults (n : Nat) (x : Args [tInt]) := evX (false, false, []) l_s_Faults kp_s_Faults [none] Try.f128 (shV tInt) n (encA [tInt] x)
noncomputable def c_s_Faults : Con := roS [tInt] true (shV tInt) (q_s_Faults big)
theorem c_s_Faults_ok : ConOk Try.prog 128 c_s_Faults := roS_ok ⟨Try.f128, by kernel_rfl, rfl, by decide⟩ fun _ _ h => evX_ok l_s_Faults_ok (f := Try.f128) (by kernel_rfl) rfl (by kernel_rfl) (by kernel_rfl) big h
noncomputable def Q_s_Faults (n : Nat) (a0 : Int) : Option Int := q_s_Faults n (a0, ())
theorem Q_s_Faults_eq (n : Nat) (a0 : Int) : Q_s_Faults n a0 =
    bif decide (a0 < (1 : Int)) then some (0 : Int)
 else some (IntKind.i64.wrap ((IntKind.i64.wrap (a0 - (1 : Int))).tdiv (3 : Int))) := by kernel_rfl

end Go.Sx.Try

set_option maxRecDepth 100000
namespace Go.Sx.Try
open Go Go.Sx Go.Proofs

noncomputable def l_s_FirstBlock : List (Nat × Con) := []
theorem l_s_FirstBlock_ok : ∀ q ∈ l_s_FirstBlock, ConOk Try.prog q.1 q.2 := Try.cons_nil
def kp_s_FirstBlock : KP := []
noncomputable def q_s_FirstBlock (n : Nat) (x : Args []) := evX (false, false, []) l_s_FirstBlock kp_s_FirstBlock [some uIBlock] Try.f167 (shF uIBlock) n (encA [] x)
noncomputable def c_s_FirstBlock : Con := roS [] true (shF uIBlock) (q_s_FirstBlock big)
theorem c_s_FirstBlock_ok : ConOk Try.prog 167 c_s_FirstBlock := roS_ok ⟨Try.f167, by kernel_rfl, rfl, by decide⟩ fun _ _ h => evX_ok l_s_FirstBlock_ok (f := Try.f167) (by kernel_rfl) rfl (by kernel_rfl) (by kernel_rfl) big h
noncomputable def Q_s_FirstBlock (n : Nat)  : Option DIBlock := q_s_FirstBlock n ()
theorem Q_s_FirstBlock_eq (n : Nat)  : Q_s_FirstBlock n  =
    some ((-1 : Int), (0 : Int), [], ((0 : Int), (0 : Int), (0 : Int), (0 : Int), PUnit.unit), PUnit.unit) := by kernel_rfl

end Go.Sx.Try

set_option maxRecDepth 100000
namespace Go.Sx.Try
open Go Go.Sx Go.Proofs

noncomputable def l_s_TreeNew : List (Nat × Con) := [(167, c_s_FirstBlock)]
theorem l_s_TreeNew_ok : ∀ q ∈ l_s_TreeNew, ConOk Try.prog q.1 q.2 := Try.cons_cons c_s_FirstBlock_ok (Try.cons_nil)
def kp_s_TreeNew : KP := []
noncomputable def q_s_TreeNew (n : Nat) (x : Args []) := evX (true, false, []) l_s_TreeNew kp_s_TreeNew [some uSlIBlock] Try.f129 (shF uSlIBlock) n (encA [] x)
noncomputable def c_s_TreeNew : Con := roS [] true (shF uSlIBlock) (q_s_TreeNew big)
theorem c_s_TreeNew_ok : ConOk Try.prog 129 c_s_TreeNew := roS_ok ⟨Try.f129, by kernel_rfl, rfl, by decide⟩ fun _ _ h => evX_ok l_s_TreeNew_ok (f := Try.f129) (by kernel_rfl) rfl (by kernel_rfl) (by kernel_rfl) big h
noncomputable def Q_s_TreeNew (n : Nat)  : Option DSlIBlock := q_s_TreeNew n ()
theorem Q_s_TreeNew_eq (n : Nat)  : Q_s_TreeNew n  =
    some [((-1 : Int), (0 : Int), [], ((0 : Int), (0 : Int), (0 : Int), (0 : Int), PUnit.unit), PUnit.unit)] := by kernel_rfl

end Go.Sx.Try

set_option maxRecDepth 100000
namespace Go.Sx.Try
open Go Go.Sx Go.Proofs

noncomputable def l_s_PeerNew : List (Nat × Con) := []
theorem l_s_PeerNew_ok : ∀ q ∈ l_s_PeerNew, ConOk Try.prog q.1 q.2 := Try.cons_nil
def kp_s_PeerNew : KP := []
noncomputable def q_s_PeerNew (n : Nat) (x : Args [tInt]) := evX (false, false, []) l_s_PeerNew kp_s_PeerNew [some uIPeer] Try.f16 (shF uIPeer) n (encA [tInt] x)
noncomputable def c_s_PeerNew : Con := roS [tInt] true (shF uIPeer) (q_s_PeerNew big)
theorem c_s_PeerNew_ok : ConOk Try.prog 16 c_s_PeerNew := roS_ok ⟨Try.f16, by kernel_rfl, rfl, by decide⟩ fun _ _ h => evX_ok l_s_PeerNew_ok (f := Try.f16) (by kernel_rfl) rfl (by kernel_rfl) (by kernel_rfl) big h
noncomputable def Q_s_PeerNew (n : Nat) (a0 : Int) : Option DIPeer := q_s_PeerNew n (a0, ())
theorem Q_s_PeerNew_eq (n : Nat) (a0 : Int) : Q_s_PeerNew n a0 =
    some
 (a0, (1 : Int), ((0 : Int), (0 : Int), (0 : Int), (0 : Int), PUnit.unit),
 ((0 : Int), (0 : Int), (0 : Int), (0 : Int), PUnit.unit),
 ((0 : Int), (0 : Int), (0 : Int), (0 : Int), PUnit.unit), [], [], [], [], [], [], (0 : Int), PUnit.unit) := by kernel_rfl

end Go.Sx.Try

set_option maxRecDepth 100000
namespace Go.Sx.Try
open Go Go.Sx Go.Proofs

noncomputable def l_s_ClusterNew : List (Nat × Con) := [(95, c_s_l01In), (127, c_s_CountOf), (128, c_s_Faults), (129, c_s_TreeNew), (16, c_s_PeerNew)]
theorem l_s_ClusterNew_ok : ∀ q ∈ l_s_ClusterNew, ConOk Try.prog q.1 q.2 := Try.cons_cons c_s_l01In_ok (Try.cons_cons c_s_CountOf_ok (Try.cons_cons c_s_Faults_ok (Try.cons_cons c_s_TreeNew_ok (Try.cons_cons c_s_PeerNew_ok (Try.cons_nil)))))
abbrev k_s_ClusterNew_5 : List Keep × List BK := ([.ro tInt64, .drop, .drop, .drop, .drop, .drop, .is (.ptr 0 0), .drop, .is (.ptr 2 0), .ro tInt64, .drop, .drop, .drop, .drop, .drop, .drop, .drop, .drop, .drop, .drop, .drop, .drop, .drop, .drop, .drop, .drop, .drop, .drop, .drop, .drop, .drop, .drop, .drop, .drop, .drop, .drop, .drop, .drop, .drop, .drop, .drop, .drop, .drop, .drop, .drop, .drop, .drop, .drop], [.vars [.ro tInt64, .ro tBool, .ro tInt64, .own uIBlock, .own uIPeer, .own tILetter, .own tIVote, .own tICmd], .drop, .vars [.ro tInt64, .ro tBool, .ro tInt64, .own uXstruct_Parent_int_View_int_Cmds_laws_Cmd, .own uIPeer, .own tILetter, .own tIVote, .own tICmd]])
def kp_s_ClusterNew : KP := [(5, k_s_ClusterNew_5)]
noncomputable def q_s_ClusterNew (n : Nat) (x : Args [tInt, tBool, tInt]) := evX (true, false, [8, 40]) l_s_ClusterNew kp_s_ClusterNew [some uICluster, none] Try.f54 (shT [(true, uICluster), (false, tBool)]) n (encA [tInt, tBool, tInt] x)
noncomputable def c_s_ClusterNew : Con := roS [tInt, tBool, tInt] true (shT [(true, uICluster), (false, tBool)]) (q_s_ClusterNew big)
theorem c_s_ClusterNew_ok : ConOk Try.prog 54 c_s_ClusterNew := roS_ok ⟨Try.f54, by kernel_rfl, rfl, by decide⟩ fun _ _ h => evX_ok l_s_ClusterNew_ok (f := Try.f54) (by kernel_rfl) rfl (by kernel_rfl) (by kernel_rfl) big h
noncomputable def Q_s_ClusterNew (n : Nat) (a0 : Int) (a1 : Bool) (a2 : Int) : Option (DICluster × Bool × Unit) := q_s_ClusterNew n (a0, a1, a2, ())
noncomputable def r_s_ClusterNew_5 (n : Nat) (x : KD k_s_ClusterNew_5.1) (y : BD k_s_ClusterNew_5.2) := rounds (env (true, false, [8, 40]) l_s_ClusterNew) kp_s_ClusterNew (body Try.f54) (finX (true, false, [8, 40]) l_s_ClusterNew [some uICluster, none] Try.f54 (shT [(true, uICluster), (false, tBool)]) [.val tInt (zeroD tInt), .val tBool (zeroD tBool), .val tInt (zeroD tInt)]) n 5 k_s_ClusterNew_5 x y
noncomputable def R_s_ClusterNew_5 (n : Nat) (s0 : Int) (s9 : Int) (b0_0 : Int) (b0_1 : Bool) (b0_2 : Int) (b0_3 : (List DIBlock)) (b0_4 : (List DIPeer)) (b0_5 : (List DILetter)) (b0_6 : (List DIVote)) (b0_7 : (List DICmd)) (b2_0 : Int) (b2_1 : Bool) (b2_2 : Int) (b2_3 : (List DXstruct_Parent_int_View_int_Cmds_laws_Cmd)) (b2_4 : (List DIPeer)) (b2_5 : (List DILetter)) (b2_6 : (List DIVote)) (b2_7 : (List DICmd)) : Option (DICluster × Bool × Unit) := r_s_ClusterNew_5 n (s0, s9, ()) ((b0_0, b0_1, b0_2, b0_3, b0_4, b0_5, b0_6, b0_7, ()), (b2_0, b2_1, b2_2, b2_3, b2_4, b2_5, b2_6, b2_7, ()), ())
theorem Q_s_ClusterNew_eq (n : Nat) (a0 : Int) (a1 : Bool) (a2 : Int) : Q_s_ClusterNew n a0 a1 a2 =
    (Q_s_l01In big a0 (1 : Int) (7 : Int)).bind fun y =>
 bif !y then some (((0 : Int), false, (0 : Int), [], [], [], [], [], PUnit.unit), false, PUnit.unit)
 else
 if IntKind.u64.wrap a0 < (0 : Int) then none
 else
 (Q_s_l01In big a2 (0 : Int)
 (IntKind.i64.wrap
 (IntKind.i64.wrap ((1 : Int) * (2 : Int) ^ min (IntKind.u64.wrap a0).toNat IntKind.i64.bits) -
 (1 : Int)))).bind
 fun y =>
 bif !y then some (((0 : Int), false, (0 : Int), [], [], [], [], [], PUnit.unit), false, PUnit.unit)
 else
 (Q_s_CountOf big a2).bind fun y =>
 (Q_s_Faults big a0).bind fun y_1 =>
 bif decide (y_1 < y) then
 some (((0 : Int), false, (0 : Int), [], [], [], [], [], PUnit.unit), false, PUnit.unit)
 else
 R_s_ClusterNew_5 n a0 (0 : Int) (0 : Int) false (0 : Int) [] [] [] [] [] a0 a1 a2
 [((-1 : Int), (0 : Int), [], ((0 : Int), (0 : Int), (0 : Int), (0 : Int), PUnit.unit), PUnit.unit)]
 [] [] [] [] := by kernel_rfl
theorem R_s_ClusterNew_5_eq (n : Nat) (s0 : Int) (s9 : Int) (b0_0 : Int) (b0_1 : Bool) (b0_2 : Int) (b0_3 : (List DIBlock)) (b0_4 : (List DIPeer)) (b0_5 : (List DILetter)) (b0_6 : (List DIVote)) (b0_7 : (List DICmd)) (b2_0 : Int) (b2_1 : Bool) (b2_2 : Int) (b2_3 : (List DXstruct_Parent_int_View_int_Cmds_laws_Cmd)) (b2_4 : (List DIPeer)) (b2_5 : (List DILetter)) (b2_6 : (List DIVote)) (b2_7 : (List DICmd)) : R_s_ClusterNew_5 (n + 1) s0 s9 b0_0 b0_1 b0_2 b0_3 b0_4 b0_5 b0_6 b0_7 b2_0 b2_1 b2_2 b2_3 b2_4 b2_5 b2_6 b2_7 =
    bif decide (s9 < s0) then
 if b2_4.length + (1 : Nat) ≤ lim then
 R_s_ClusterNew_5 n s0 (IntKind.i64.wrap (s9 + (1 : Int))) b0_0 b0_1 b0_2 b0_3 b0_4 b0_5 b0_6 b0_7 b2_0 b2_1 b2_2
 b2_3
 (b2_4.append
 [(s9, (1 : Int), ((0 : Int), (0 : Int), (0 : Int), (0 : Int), ()),
 ((0 : Int), (0 : Int), (0 : Int), (0 : Int), ()), ((0 : Int), (0 : Int), (0 : Int), (0 : Int), ()), [],
 [], [], [], [], [], (0 : Int), ())])
 b2_5 b2_6 b2_7
 else none
 else some ((b2_0, b2_1, b2_2, b2_3, b2_4, b2_5, b2_6, b2_7, PUnit.unit), true, PUnit.unit) := by kernel_rfl

end Go.Sx.Try

set_option maxRecDepth 100000
namespace Go.Sx.Try
open Go Go.Sx Go.Proofs

noncomputable def l_l_FnExactClusterNew : List (Nat × Con) := [(54, c_s_ClusterNew), (55, c_i_ClusterNew), (35, c_l_eqCluster), (40, c_l_markCluster), (41, c_l_heldCluster)]
theorem l_l_FnExactClusterNew_ok : ∀ q ∈ l_l_FnExactClusterNew, ConOk Try.prog q.1 q.2 := Try.cons_cons c_s_ClusterNew_ok (Try.cons_cons c_i_ClusterNew_ok (Try.cons_cons c_l_eqCluster_ok (Try.cons_cons c_l_markCluster_ok (Try.cons_cons c_l_heldCluster_ok (Try.cons_nil)))))
def kp_l_FnExactClusterNew : KP := []
noncomputable def q_l_FnExactClusterNew (n : Nat) (x : Args [tInt, tBool, tInt]) := evX (false, false, [7, 9, 13]) l_l_FnExactClusterNew kp_l_FnExactClusterNew [none] Try.f13 (shV tBool) n (encA [tInt, tBool, tInt] x)
noncomputable def c_l_FnExactClusterNew : Con := roS [tInt, tBool, tInt] true (shV tBool) (q_l_FnExactClusterNew big)
theorem c_l_FnExactClusterNew_ok : ConOk Try.prog 13 c_l_FnExactClusterNew := roS_ok ⟨Try.f13, by kernel_rfl, rfl, by decide⟩ fun _ _ h => evX_ok l_l_FnExactClusterNew_ok (f := Try.f13) (by kernel_rfl) rfl (by kernel_rfl) (by kernel_rfl) big h
noncomputable def Q_l_FnExactClusterNew (n : Nat) (a0 : Int) (a1 : Bool) (a2 : Int) : Option Bool := q_l_FnExactClusterNew n (a0, a1, a2, ())
theorem Q_l_FnExactClusterNew_eq (n : Nat) (a0 : Int) (a1 : Bool) (a2 : Int) : Q_l_FnExactClusterNew n a0 a1 a2 =
    (Q_s_ClusterNew big a0 a1 a2).bind fun y =>
 (Q_i_ClusterNew big a0 a1 a2).bind fun y_1 =>
 (Q_l_eqCluster big y_1.fst y.fst).bind fun y_2 =>
 bif !y_2 then some false
 else
 bif !y_1.snd.fst == y.snd.fst then some false
 else
 (Q_l_markCluster big y_1.fst (1 : Int)).bind fun y_3 =>
 (Q_l_heldCluster big (y_1.fst.fst, y_1.fst.snd.fst, y_1.fst.snd.snd.fst, y_3.snd.fst.snd.snd.snd)
 (1 : Int)).bind
 fun y_4 =>
 bif decide (y_4 < (0 : Int)) then some false
 else
 bif !decide (y_4 = y_3.fst) then some false
 else
 (Q_i_ClusterNew big a0 a1 a2).bind fun y_5 =>
 (Q_l_eqCluster big y_5.fst y.fst).bind fun y_6 =>
 bif !y_6 then some false
 else
 bif !y_5.snd.fst == y.snd.fst then some false
 else
 (Q_l_heldCluster big
 (y_1.fst.fst, y_1.fst.snd.fst, y_1.fst.snd.snd.fst, y_3.snd.fst.snd.snd.snd)
 (1 : Int)).bind
 fun y =>
 bif decide (y < (0 : Int)) then some false
 else bif !decide (y = y_3.fst) then some false else some true := by kernel_rfl

end Go.Sx.Try
