/- The functions of the seat: what each comes to. -/
import Derived.Test.YtbamlihfaobfeaaTypes
import Derived.Test.YtbamlihfaobfeaaWaitOutF1
set_option linter.unusedVariables false
set_option linter.unusedSimpArgs false
set_option maxRecDepth 100000
namespace Go.Sx.Try
open Go Go.Sx Go.Proofs

noncomputable def l_s_Offer : List (Nat × Con) := [(112, c_s_l15Copy), (113, c_s_CmdOk)]
theorem l_s_Offer_ok : ∀ q ∈ l_s_Offer, ConOk Try.prog q.1 q.2 := Try.cons_cons c_s_l15Copy_ok (Try.cons_cons c_s_CmdOk_ok (Try.cons_nil))
def kp_s_Offer : KP := []
noncomputable def q_s_Offer (n : Nat) (x : Args [tICluster, tICmd]) := evX (false, false, [2, 3, 6, 13, 19]) l_s_Offer kp_s_Offer [some uICluster, none] Try.f37 (shT [(true, uICluster), (false, tBool)]) n (encA [tICluster, tICmd] x)
noncomputable def c_s_Offer : Con := roS [tICluster, tICmd] true (shT [(true, uICluster), (false, tBool)]) (q_s_Offer big)
theorem c_s_Offer_ok : ConOk Try.prog 37 c_s_Offer := roS_ok ⟨Try.f37, by kernel_rfl, rfl, by decide⟩ fun _ _ h => evX_ok l_s_Offer_ok (f := Try.f37) (by kernel_rfl) rfl (by kernel_rfl) (by kernel_rfl) big h
noncomputable def Q_s_Offer (n : Nat) (a0 : DICluster) (a1 : DICmd) : Option (DICluster × Bool × Unit) := q_s_Offer n (a0, a1, ())
theorem Q_s_Offer_eq (n : Nat) (a0 : DICluster) (a1 : DICmd) : Q_s_Offer n a0 a1 =
    (Q_s_l15Copy big a0).bind fun y =>
 (Q_s_CmdOk big a1).bind fun y_1 =>
 bif !y_1 then some (y, false, PUnit.unit)
 else
 bif decide ((8 : Int) ≤ (↑(List.length a0.snd.snd.snd.snd.snd.snd.snd.fst) : Int)) then
 some (y, false, PUnit.unit)
 else
 if List.length y.snd.snd.snd.snd.snd.snd.snd.fst + [a1].length ≤ lim then
 some
 ((y.fst, y.snd.fst, y.snd.snd.fst, y.snd.snd.snd.fst, y.snd.snd.snd.snd.fst, y.snd.snd.snd.snd.snd.fst,
 y.snd.snd.snd.snd.snd.snd.fst, List.append y.snd.snd.snd.snd.snd.snd.snd.fst [a1], PUnit.unit),
 true, PUnit.unit)
 else none := by kernel_rfl

end Go.Sx.Try

set_option maxRecDepth 100000
namespace Go.Sx.Try
open Go Go.Sx Go.Proofs

noncomputable def l_i_Entered : List (Nat × Con) := [(94, c_i_clonePeer)]
theorem l_i_Entered_ok : ∀ q ∈ l_i_Entered, ConOk Try.prog q.1 q.2 := Try.cons_cons c_i_clonePeer_ok (Try.cons_nil)
def kp_i_Entered : KP := []
noncomputable def q_i_Entered (n : Nat) (x : Args [tIPeer, tInt]) := evX (false, false, [2, 5, 9]) l_i_Entered kp_i_Entered [some uIPeer] Try.f27 (shF uIPeer) n (encA [tIPeer, tInt] x)
noncomputable def c_i_Entered : Con := roS [tIPeer, tInt] true (shF uIPeer) (q_i_Entered big)
theorem c_i_Entered_ok : ConOk Try.prog 27 c_i_Entered := roS_ok ⟨Try.f27, by kernel_rfl, rfl, by decide⟩ fun _ _ h => evX_ok l_i_Entered_ok (f := Try.f27) (by kernel_rfl) rfl (by kernel_rfl) (by kernel_rfl) big h
noncomputable def Q_i_Entered (n : Nat) (a0 : DIPeer) (a1 : Int) : Option DIPeer := q_i_Entered n (a0, a1, ())
theorem Q_i_Entered_eq (n : Nat) (a0 : DIPeer) (a1 : Int) : Q_i_Entered n a0 a1 =
    (Q_i_clonePeer big a0).bind fun y =>
 bif decide (a0.snd.fst < a1) then
 bif decide (a1 ≤ (900 : Int)) then
 some
 (y.fst, a1, y.snd.snd.fst, y.snd.snd.snd.fst, y.snd.snd.snd.snd.fst, y.snd.snd.snd.snd.snd.fst,
 y.snd.snd.snd.snd.snd.snd.fst, y.snd.snd.snd.snd.snd.snd.snd.fst, y.snd.snd.snd.snd.snd.snd.snd.snd.fst, [],
 [], y.snd.snd.snd.snd.snd.snd.snd.snd.snd.snd.snd)
 else some y
 else some y := by kernel_rfl

end Go.Sx.Try

set_option maxRecDepth 100000
namespace Go.Sx.Try
open Go Go.Sx Go.Proofs

noncomputable def l_s_Entered : List (Nat × Con) := [(88, c_s_l09Copy)]
theorem l_s_Entered_ok : ∀ q ∈ l_s_Entered, ConOk Try.prog q.1 q.2 := Try.cons_cons c_s_l09Copy_ok (Try.cons_nil)
def kp_s_Entered : KP := []
noncomputable def q_s_Entered (n : Nat) (x : Args [tIPeer, tInt]) := evX (false, false, [2, 5, 9]) l_s_Entered kp_s_Entered [some uIPeer] Try.f26 (shF uIPeer) n (encA [tIPeer, tInt] x)
noncomputable def c_s_Entered : Con := roS [tIPeer, tInt] true (shF uIPeer) (q_s_Entered big)
theorem c_s_Entered_ok : ConOk Try.prog 26 c_s_Entered := roS_ok ⟨Try.f26, by kernel_rfl, rfl, by decide⟩ fun _ _ h => evX_ok l_s_Entered_ok (f := Try.f26) (by kernel_rfl) rfl (by kernel_rfl) (by kernel_rfl) big h
noncomputable def Q_s_Entered (n : Nat) (a0 : DIPeer) (a1 : Int) : Option DIPeer := q_s_Entered n (a0, a1, ())
theorem Q_s_Entered_eq (n : Nat) (a0 : DIPeer) (a1 : Int) : Q_s_Entered n a0 a1 =
    (Q_s_l09Copy big a0).bind fun y =>
 bif decide (a0.snd.fst < a1) then
 bif decide (a1 ≤ (900 : Int)) then
 some
 (y.fst, a1, y.snd.snd.fst, y.snd.snd.snd.fst, y.snd.snd.snd.snd.fst, y.snd.snd.snd.snd.snd.fst,
 y.snd.snd.snd.snd.snd.snd.fst, y.snd.snd.snd.snd.snd.snd.snd.fst, y.snd.snd.snd.snd.snd.snd.snd.snd.fst, [],
 [], y.snd.snd.snd.snd.snd.snd.snd.snd.snd.snd.snd)
 else some y
 else some y := by kernel_rfl

end Go.Sx.Try

set_option maxRecDepth 100000
namespace Go.Sx.Try
open Go Go.Sx Go.Proofs

noncomputable def l_i_LeaderOf : List (Nat × Con) := []
theorem l_i_LeaderOf_ok : ∀ q ∈ l_i_LeaderOf, ConOk Try.prog q.1 q.2 := Try.cons_nil
def kp_i_LeaderOf : KP := []
noncomputable def q_i_LeaderOf (n : Nat) (x : Args [tInt, tInt]) := evX (false, false, []) l_i_LeaderOf kp_i_LeaderOf [none] Try.f100 (shV tInt) n (encA [tInt, tInt] x)
noncomputable def c_i_LeaderOf : Con := roS [tInt, tInt] true (shV tInt) (q_i_LeaderOf big)
theorem c_i_LeaderOf_ok : ConOk Try.prog 100 c_i_LeaderOf := roS_ok ⟨Try.f100, by kernel_rfl, rfl, by decide⟩ fun _ _ h => evX_ok l_i_LeaderOf_ok (f := Try.f100) (by kernel_rfl) rfl (by kernel_rfl) (by kernel_rfl) big h
noncomputable def Q_i_LeaderOf (n : Nat) (a0 : Int) (a1 : Int) : Option Int := q_i_LeaderOf n (a0, a1, ())
theorem Q_i_LeaderOf_eq (n : Nat) (a0 : Int) (a1 : Int) : Q_i_LeaderOf n a0 a1 =
    bif decide (a1 < (1 : Int)) then some (0 : Int)
 else
 bif decide (a0 < (0 : Int)) then some (0 : Int)
 else if a1 = (0 : Int) then none else some ((IntKind.i64.wrap (a0.tdiv (4 : Int))).tmod a1) := by kernel_rfl

end Go.Sx.Try

set_option maxRecDepth 100000
namespace Go.Sx.Try
open Go Go.Sx Go.Proofs

noncomputable def l_i_Answered : List (Nat × Con) := []
theorem l_i_Answered_ok : ∀ q ∈ l_i_Answered, ConOk Try.prog q.1 q.2 := Try.cons_nil
def kp_i_Answered : KP := []
noncomputable def q_i_Answered (n : Nat) (x : Args [tIPeer, tInt, tInt, tIQc, tIVote]) := evX (false, false, [5, 8, 9, 14, 17, 22, 25]) l_i_Answered kp_i_Answered [none] Try.f99 (shV tILetter) n (encA [tIPeer, tInt, tInt, tIQc, tIVote] x)
noncomputable def c_i_Answered : Con := roS [tIPeer, tInt, tInt, tIQc, tIVote] true (shV tILetter) (q_i_Answered big)
theorem c_i_Answered_ok : ConOk Try.prog 99 c_i_Answered := roS_ok ⟨Try.f99, by kernel_rfl, rfl, by decide⟩ fun _ _ h => evX_ok l_i_Answered_ok (f := Try.f99) (by kernel_rfl) rfl (by kernel_rfl) (by kernel_rfl) big h
noncomputable def Q_i_Answered (n : Nat) (a0 : DIPeer) (a1 : Int) (a2 : Int) (a3 : DIQc) (a4 : DIVote) : Option DILetter := q_i_Answered n (a0, a1, a2, a3, a4, ())
theorem Q_i_Answered_eq (n : Nat) (a0 : DIPeer) (a1 : Int) (a2 : Int) (a3 : DIQc) (a4 : DIVote) : Q_i_Answered n a0 a1 a2 a3 a4 =
    bif decide (a1 = (2 : Int)) then
 some
 (a1, a0.fst, a2, a4.snd.fst, (0 : Int), ((0 : Int), (0 : Int), (0 : Int), (0 : Int), PUnit.unit), a4, PUnit.unit)
 else
 some
 (a1, a0.fst, a2, a0.snd.fst, (0 : Int), a3, ((0 : Int), (0 : Int), (0 : Int), (0 : Int), PUnit.unit),
 PUnit.unit) := by kernel_rfl

end Go.Sx.Try

set_option maxRecDepth 100000
namespace Go.Sx.Try
open Go Go.Sx Go.Proofs

noncomputable def l_i_TimedOut : List (Nat × Con) := [(98, c_i_in), (94, c_i_clonePeer), (27, c_i_Entered), (100, c_i_LeaderOf), (99, c_i_Answered)]
theorem l_i_TimedOut_ok : ∀ q ∈ l_i_TimedOut, ConOk Try.prog q.1 q.2 := Try.cons_cons c_i_in_ok (Try.cons_cons c_i_clonePeer_ok (Try.cons_cons c_i_Entered_ok (Try.cons_cons c_i_LeaderOf_ok (Try.cons_cons c_i_Answered_ok (Try.cons_nil)))))
def kp_i_TimedOut : KP := []
noncomputable def q_i_TimedOut (n : Nat) (x : Args [tIPeer, tInt]) := evX (false, false, [2, 7, 8, 20, 26, 30]) l_i_TimedOut kp_i_TimedOut [some uIPeer, none, none] Try.f29 (shT [(true, uIPeer), (false, tILetter), (false, tBool)]) n (encA [tIPeer, tInt] x)
noncomputable def c_i_TimedOut : Con := roS [tIPeer, tInt] true (shT [(true, uIPeer), (false, tILetter), (false, tBool)]) (q_i_TimedOut big)
theorem c_i_TimedOut_ok : ConOk Try.prog 29 c_i_TimedOut := roS_ok ⟨Try.f29, by kernel_rfl, rfl, by decide⟩ fun _ _ h => evX_ok l_i_TimedOut_ok (f := Try.f29) (by kernel_rfl) rfl (by kernel_rfl) (by kernel_rfl) big h
noncomputable def Q_i_TimedOut (n : Nat) (a0 : DIPeer) (a1 : Int) : Option (DIPeer × DILetter × Bool × Unit) := q_i_TimedOut n (a0, a1, ())
theorem Q_i_TimedOut_eq (n : Nat) (a0 : DIPeer) (a1 : Int) : Q_i_TimedOut n a0 a1 =
    bif decide ((900 : Int) ≤ a0.snd.fst) then
 (Q_i_clonePeer big a0).bind fun y =>
 some
 (y,
 ((0 : Int), (0 : Int), (0 : Int), (0 : Int), (0 : Int),
 ((0 : Int), (0 : Int), (0 : Int), (0 : Int), PUnit.unit),
 ((0 : Int), (0 : Int), (0 : Int), (0 : Int), PUnit.unit), PUnit.unit),
 false, PUnit.unit)
 else
 (Q_i_in big a1 (1 : Int) (7 : Int)).bind fun y =>
 bif !y then
 (Q_i_clonePeer big a0).bind fun y =>
 some
 (y,
 ((0 : Int), (0 : Int), (0 : Int), (0 : Int), (0 : Int),
 ((0 : Int), (0 : Int), (0 : Int), (0 : Int), PUnit.unit),
 ((0 : Int), (0 : Int), (0 : Int), (0 : Int), PUnit.unit), PUnit.unit),
 false, PUnit.unit)
 else
 (Q_i_Entered big a0 (IntKind.i64.wrap (a0.snd.fst + (1 : Int)))).bind fun y =>
 (Q_i_LeaderOf big y.snd.fst a1).bind fun y_1 =>
 some
 (y,
 ((4 : Int), y.fst, y_1, y.snd.fst, (0 : Int), y.snd.snd.fst,
 ((0 : Int), (0 : Int), (0 : Int), (0 : Int), PUnit.unit), PUnit.unit),
 true, PUnit.unit) := by kernel_rfl

end Go.Sx.Try

set_option maxRecDepth 100000
namespace Go.Sx.Try
open Go Go.Sx Go.Proofs

noncomputable def l_s_LeaderOf : List (Nat × Con) := []
theorem l_s_LeaderOf_ok : ∀ q ∈ l_s_LeaderOf, ConOk Try.prog q.1 q.2 := Try.cons_nil
def kp_s_LeaderOf : KP := []
noncomputable def q_s_LeaderOf (n : Nat) (x : Args [tInt, tInt]) := evX (false, false, []) l_s_LeaderOf kp_s_LeaderOf [none] Try.f97 (shV tInt) n (encA [tInt, tInt] x)
noncomputable def c_s_LeaderOf : Con := roS [tInt, tInt] true (shV tInt) (q_s_LeaderOf big)
theorem c_s_LeaderOf_ok : ConOk Try.prog 97 c_s_LeaderOf := roS_ok ⟨Try.f97, by kernel_rfl, rfl, by decide⟩ fun _ _ h => evX_ok l_s_LeaderOf_ok (f := Try.f97) (by kernel_rfl) rfl (by kernel_rfl) (by kernel_rfl) big h
noncomputable def Q_s_LeaderOf (n : Nat) (a0 : Int) (a1 : Int) : Option Int := q_s_LeaderOf n (a0, a1, ())
theorem Q_s_LeaderOf_eq (n : Nat) (a0 : Int) (a1 : Int) : Q_s_LeaderOf n a0 a1 =
    bif decide (a1 < (1 : Int)) then some (0 : Int)
 else
 bif decide (a0 < (0 : Int)) then some (0 : Int)
 else if a1 = (0 : Int) then none else some ((IntKind.i64.wrap (a0.tdiv (4 : Int))).tmod a1) := by kernel_rfl

end Go.Sx.Try

set_option maxRecDepth 100000
namespace Go.Sx.Try
open Go Go.Sx Go.Proofs

noncomputable def l_s_Answered : List (Nat × Con) := []
theorem l_s_Answered_ok : ∀ q ∈ l_s_Answered, ConOk Try.prog q.1 q.2 := Try.cons_nil
def kp_s_Answered : KP := []
noncomputable def q_s_Answered (n : Nat) (x : Args [tIPeer, tInt, tInt, tIQc, tIVote]) := evX (false, false, [5, 8, 9, 11, 13, 16, 23]) l_s_Answered kp_s_Answered [none] Try.f96 (shV tILetter) n (encA [tIPeer, tInt, tInt, tIQc, tIVote] x)
noncomputable def c_s_Answered : Con := roS [tIPeer, tInt, tInt, tIQc, tIVote] true (shV tILetter) (q_s_Answered big)
theorem c_s_Answered_ok : ConOk Try.prog 96 c_s_Answered := roS_ok ⟨Try.f96, by kernel_rfl, rfl, by decide⟩ fun _ _ h => evX_ok l_s_Answered_ok (f := Try.f96) (by kernel_rfl) rfl (by kernel_rfl) (by kernel_rfl) big h
noncomputable def Q_s_Answered (n : Nat) (a0 : DIPeer) (a1 : Int) (a2 : Int) (a3 : DIQc) (a4 : DIVote) : Option DILetter := q_s_Answered n (a0, a1, a2, a3, a4, ())
theorem Q_s_Answered_eq (n : Nat) (a0 : DIPeer) (a1 : Int) (a2 : Int) (a3 : DIQc) (a4 : DIVote) : Q_s_Answered n a0 a1 a2 a3 a4 =
    bif decide (a1 = (2 : Int)) then
 some
 (a1, a0.fst, a2, a4.snd.fst, (0 : Int), ((0 : Int), (0 : Int), (0 : Int), (0 : Int), PUnit.unit), a4, PUnit.unit)
 else
 some
 (a1, a0.fst, a2, a0.snd.fst, (0 : Int), a3, ((0 : Int), (0 : Int), (0 : Int), (0 : Int), PUnit.unit),
 PUnit.unit) := by kernel_rfl

end Go.Sx.Try

set_option maxRecDepth 100000
namespace Go.Sx.Try
open Go Go.Sx Go.Proofs

noncomputable def l_s_TimedOut : List (Nat × Con) := [(95, c_s_l01In), (88, c_s_l09Copy), (26, c_s_Entered), (97, c_s_LeaderOf), (96, c_s_Answered)]
theorem l_s_TimedOut_ok : ∀ q ∈ l_s_TimedOut, ConOk Try.prog q.1 q.2 := Try.cons_cons c_s_l01In_ok (Try.cons_cons c_s_l09Copy_ok (Try.cons_cons c_s_Entered_ok (Try.cons_cons c_s_LeaderOf_ok (Try.cons_cons c_s_Answered_ok (Try.cons_nil)))))
def kp_s_TimedOut : KP := []
noncomputable def q_s_TimedOut (n : Nat) (x : Args [tIPeer, tInt]) := evX (false, false, [2, 7, 8, 20, 26, 30]) l_s_TimedOut kp_s_TimedOut [some uIPeer, none, none] Try.f28 (shT [(true, uIPeer), (false, tILetter), (false, tBool)]) n (encA [tIPeer, tInt] x)
noncomputable def c_s_TimedOut : Con := roS [tIPeer, tInt] true (shT [(true, uIPeer), (false, tILetter), (false, tBool)]) (q_s_TimedOut big)
theorem c_s_TimedOut_ok : ConOk Try.prog 28 c_s_TimedOut := roS_ok ⟨Try.f28, by kernel_rfl, rfl, by decide⟩ fun _ _ h => evX_ok l_s_TimedOut_ok (f := Try.f28) (by kernel_rfl) rfl (by kernel_rfl) (by kernel_rfl) big h
noncomputable def Q_s_TimedOut (n : Nat) (a0 : DIPeer) (a1 : Int) : Option (DIPeer × DILetter × Bool × Unit) := q_s_TimedOut n (a0, a1, ())
theorem Q_s_TimedOut_eq (n : Nat) (a0 : DIPeer) (a1 : Int) : Q_s_TimedOut n a0 a1 =
    bif decide ((900 : Int) ≤ a0.snd.fst) then
 (Q_s_l09Copy big a0).bind fun y =>
 some
 (y,
 ((0 : Int), (0 : Int), (0 : Int), (0 : Int), (0 : Int),
 ((0 : Int), (0 : Int), (0 : Int), (0 : Int), PUnit.unit),
 ((0 : Int), (0 : Int), (0 : Int), (0 : Int), PUnit.unit), PUnit.unit),
 false, PUnit.unit)
 else
 (Q_s_l01In big a1 (1 : Int) (7 : Int)).bind fun y =>
 bif !y then
 (Q_s_l09Copy big a0).bind fun y =>
 some
 (y,
 ((0 : Int), (0 : Int), (0 : Int), (0 : Int), (0 : Int),
 ((0 : Int), (0 : Int), (0 : Int), (0 : Int), PUnit.unit),
 ((0 : Int), (0 : Int), (0 : Int), (0 : Int), PUnit.unit), PUnit.unit),
 false, PUnit.unit)
 else
 (Q_s_Entered big a0 (IntKind.i64.wrap (a0.snd.fst + (1 : Int)))).bind fun y =>
 (Q_s_LeaderOf big y.snd.fst a1).bind fun y_1 =>
 some
 (y,
 ((4 : Int), y.fst, y_1, y.snd.fst, (0 : Int), y.snd.snd.fst,
 ((0 : Int), (0 : Int), (0 : Int), (0 : Int), PUnit.unit), PUnit.unit),
 true, PUnit.unit) := by kernel_rfl

end Go.Sx.Try

set_option maxRecDepth 100000
namespace Go.Sx.Try
open Go Go.Sx Go.Proofs

noncomputable def l_i_honest : List (Nat × Con) := [(160, c_i_isPeer), (110, c_i_Lies)]
theorem l_i_honest_ok : ∀ q ∈ l_i_honest, ConOk Try.prog q.1 q.2 := Try.cons_cons c_i_isPeer_ok (Try.cons_cons c_i_Lies_ok (Try.cons_nil))
def kp_i_honest : KP := []
noncomputable def q_i_honest (n : Nat) (x : Args [tICluster, tInt]) := evX (false, false, [2, 6, 11]) l_i_honest kp_i_honest [none] Try.f126 (shV tBool) n (encA [tICluster, tInt] x)
noncomputable def c_i_honest : Con := roS [tICluster, tInt] true (shV tBool) (q_i_honest big)
theorem c_i_honest_ok : ConOk Try.prog 126 c_i_honest := roS_ok ⟨Try.f126, by kernel_rfl, rfl, by decide⟩ fun _ _ h => evX_ok l_i_honest_ok (f := Try.f126) (by kernel_rfl) rfl (by kernel_rfl) (by kernel_rfl) big h
noncomputable def Q_i_honest (n : Nat) (a0 : DICluster) (a1 : Int) : Option Bool := q_i_honest n (a0, a1, ())
theorem Q_i_honest_eq (n : Nat) (a0 : DICluster) (a1 : Int) : Q_i_honest n a0 a1 =
    (Q_i_isPeer big a1 a0.fst).bind fun y =>
 bif y then
 bif decide (a1 < (↑(List.length a0.snd.snd.snd.snd.fst) : Int)) then (Q_i_Lies big a0 a1).bind fun y => some !y
 else some false
 else some false := by kernel_rfl

end Go.Sx.Try

set_option maxRecDepth 100000
namespace Go.Sx.Try
open Go Go.Sx Go.Proofs

noncomputable def l_i_WaitOut : List (Nat × Con) := [(114, c_i_cloneCluster), (126, c_i_honest), (29, c_i_TimedOut)]
theorem l_i_WaitOut_ok : ∀ q ∈ l_i_WaitOut, ConOk Try.prog q.1 q.2 := Try.cons_cons c_i_cloneCluster_ok (Try.cons_cons c_i_honest_ok (Try.cons_cons c_i_TimedOut_ok (Try.cons_nil)))
def kp_i_WaitOut : KP := []
noncomputable def q_i_WaitOut (n : Nat) (x : Args [tICluster, tInt]) := evX (true, false, [2, 6, 7, 8, 18, 23, 32, 37, 41]) l_i_WaitOut kp_i_WaitOut [some uICluster, none] Try.f53 (shT [(true, uICluster), (false, tBool)]) n (encA [tICluster, tInt] x)
noncomputable def c_i_WaitOut : Con := roS [tICluster, tInt] true (shT [(true, uICluster), (false, tBool)]) (q_i_WaitOut big)
theorem c_i_WaitOut_ok : ConOk Try.prog 53 c_i_WaitOut := roS_ok ⟨Try.f53, by kernel_rfl, rfl, by decide⟩ fun _ _ h => evX_ok l_i_WaitOut_ok (f := Try.f53) (by kernel_rfl) rfl (by kernel_rfl) (by kernel_rfl) big h
noncomputable def Q_i_WaitOut (n : Nat) (a0 : DICluster) (a1 : Int) : Option (DICluster × Bool × Unit) := q_i_WaitOut n (a0, a1, ())
theorem Q_i_WaitOut_eq (n : Nat) (a0 : DICluster) (a1 : Int) : Q_i_WaitOut n a0 a1 =
    (Q_i_cloneCluster big a0).bind fun y =>
 (Q_i_honest big a0 a1).bind fun y_1 =>
 bif !y_1 then some (y, false, PUnit.unit)
 else
 if (0 : Int) ≤ a1 then
 (nth a0.snd.snd.snd.snd.fst a1.toNat).bind fun y_2 =>
 both
 ((Q_i_TimedOut big y_2 a0.fst).bind fun y_3 =>
 both
 (bif !y_3.snd.snd.fst then some (y, false, PUnit.unit)
 else
 if (0 : Int) ≤ a1 then
 if a1 < (↑(List.length y.snd.snd.snd.snd.fst) : Int) then
 (nth y.snd.snd.snd.snd.fst a1.toNat).bind fun y_4 =>
 (updO y.snd.snd.snd.snd.fst a1.toNat y_3.fst).bind fun y_5 =>
 bif decide ((↑(List.length y.snd.snd.snd.snd.snd.fst) : Int) < (60 : Int)) then
 if List.length y.snd.snd.snd.snd.snd.fst + [y_3.snd.fst].length ≤ lim then
 some
 ((y.fst, y.snd.fst, y.snd.snd.fst, y.snd.snd.snd.fst, y_5,
 List.append y.snd.snd.snd.snd.snd.fst [y_3.snd.fst], y.snd.snd.snd.snd.snd.snd),
 true, PUnit.unit)
 else none
 else
 some
 ((y.fst, y.snd.fst, y.snd.snd.fst, y.snd.snd.snd.fst, y_5, y.snd.snd.snd.snd.snd), true,
 PUnit.unit)
 else none
 else none)
 (bif !y_3.snd.snd.fst then some (y, false, PUnit.unit)
 else
 if (0 : Int) ≤ a1 then
 if a1 < (↑(List.length y.snd.snd.snd.snd.fst) : Int) then
 (nth y.snd.snd.snd.snd.fst a1.toNat).bind fun y_4 =>
 (updO y.snd.snd.snd.snd.fst a1.toNat y_3.fst).bind fun y_5 =>
 bif decide ((↑(List.length y.snd.snd.snd.snd.snd.fst) : Int) < (60 : Int)) then
 if List.length y.snd.snd.snd.snd.snd.fst + [y_3.snd.fst].length ≤ lim then
 some
 ((y.fst, y.snd.fst, y.snd.snd.fst, y.snd.snd.snd.fst, y_5,
 List.append y.snd.snd.snd.snd.snd.fst [y_3.snd.fst], y.snd.snd.snd.snd.snd.snd),
 true, PUnit.unit)
 else none
 else
 some
 ((y.fst, y.snd.fst, y.snd.snd.fst, y.snd.snd.snd.fst, y_5, y.snd.snd.snd.snd.snd), true,
 PUnit.unit)
 else none
 else none))
 (both
 (both
 ((Q_i_TimedOut big y_2 a0.fst).bind fun y_3 =>
 bif !y_3.snd.snd.fst then some (y, false, PUnit.unit)
 else
 if (0 : Int) ≤ a1 then
 if a1 < (↑(List.length y.snd.snd.snd.snd.fst) : Int) then
 (nth y.snd.snd.snd.snd.fst a1.toNat).bind fun y_4 =>
 (updO y.snd.snd.snd.snd.fst a1.toNat y_3.fst).bind fun y_5 =>
 bif decide ((↑(List.length y.snd.snd.snd.snd.snd.fst) : Int) < (60 : Int)) then
 if List.length y.snd.snd.snd.snd.snd.fst + [y_3.snd.fst].length ≤ lim then
 some
 ((y.fst, y.snd.fst, y.snd.snd.fst, y.snd.snd.snd.fst, y_5,
 List.append y.snd.snd.snd.snd.snd.fst [y_3.snd.fst], y.snd.snd.snd.snd.snd.snd),
 true, PUnit.unit)
 else none
 else
 some
 ((y.fst, y.snd.fst, y.snd.snd.fst, y.snd.snd.snd.fst, y_5, y.snd.snd.snd.snd.snd),
 true, PUnit.unit)
 else none
 else none)
 ((Q_i_TimedOut big y_2 a0.fst).bind fun y_3 =>
 bif !y_3.snd.snd.fst then some (y, false, PUnit.unit)
 else
 if (0 : Int) ≤ a1 then
 if a1 < (↑(List.length y.snd.snd.snd.snd.fst) : Int) then
 (nth y.snd.snd.snd.snd.fst a1.toNat).bind fun y_4 =>
 (updO y.snd.snd.snd.snd.fst a1.toNat y_3.fst).bind fun y_5 =>
 bif decide ((↑(List.length y.snd.snd.snd.snd.snd.fst) : Int) < (60 : Int)) then
 if List.length y.snd.snd.snd.snd.snd.fst + [y_3.snd.fst].length ≤ lim then
 some
 ((y.fst, y.snd.fst, y.snd.snd.fst, y.snd.snd.snd.fst, y_5,
 List.append y.snd.snd.snd.snd.snd.fst [y_3.snd.fst], y.snd.snd.snd.snd.snd.snd),
 true, PUnit.unit)
 else none
 else
 some
 ((y.fst, y.snd.fst, y.snd.snd.fst, y.snd.snd.snd.fst, y_5, y.snd.snd.snd.snd.snd),
 true, PUnit.unit)
 else none
 else none))
 (both
 ((Q_i_TimedOut big y_2 a0.fst).bind fun y_3 =>
 bif !y_3.snd.snd.fst then some (y, false, PUnit.unit)
 else
 if (0 : Int) ≤ a1 then
 if a1 < (↑(List.length y.snd.snd.snd.snd.fst) : Int) then
 (nth y.snd.snd.snd.snd.fst a1.toNat).bind fun y_4 =>
 (updO y.snd.snd.snd.snd.fst a1.toNat y_3.fst).bind fun y_5 =>
 bif decide ((↑(List.length y.snd.snd.snd.snd.snd.fst) : Int) < (60 : Int)) then
 if List.length y.snd.snd.snd.snd.snd.fst + [y_3.snd.fst].length ≤ lim then
 some
 ((y.fst, y.snd.fst, y.snd.snd.fst, y.snd.snd.snd.fst, y_5,
 List.append y.snd.snd.snd.snd.snd.fst [y_3.snd.fst], y.snd.snd.snd.snd.snd.snd),
 true, PUnit.unit)
 else none
 else
 some
 ((y.fst, y.snd.fst, y.snd.snd.fst, y.snd.snd.snd.fst, y_5, y.snd.snd.snd.snd.snd),
 true, PUnit.unit)
 else none
 else none)
 ((Q_i_TimedOut big y_2 a0.fst).bind fun y_3 =>
 bif !y_3.snd.snd.fst then some (y, false, PUnit.unit)
 else
 if (0 : Int) ≤ a1 then
 if a1 < (↑(List.length y.snd.snd.snd.snd.fst) : Int) then
 (nth y.snd.snd.snd.snd.fst a1.toNat).bind fun y_4 =>
 (updO y.snd.snd.snd.snd.fst a1.toNat y_3.fst).bind fun y_5 =>
 bif decide ((↑(List.length y.snd.snd.snd.snd.snd.fst) : Int) < (60 : Int)) then
 if List.length y.snd.snd.snd.snd.snd.fst + [y_3.snd.fst].length ≤ lim then
 some
 ((y.fst, y.snd.fst, y.snd.snd.fst, y.snd.snd.snd.fst, y_5,
 List.append y.snd.snd.snd.snd.snd.fst [y_3.snd.fst], y.snd.snd.snd.snd.snd.snd),
 true, PUnit.unit)
 else none
 else
 some
 ((y.fst, y.snd.fst, y.snd.snd.fst, y.snd.snd.snd.fst, y_5, y.snd.snd.snd.snd.snd),
 true, PUnit.unit)
 else none
 else none)))
 else none := by kernel_rfl

end Go.Sx.Try

set_option maxRecDepth 100000
namespace Go.Sx.Try
open Go Go.Sx Go.Proofs

noncomputable def l_s_l15Honest : List (Nat × Con) := [(95, c_s_l01In), (103, c_s_Lies)]
theorem l_s_l15Honest_ok : ∀ q ∈ l_s_l15Honest, ConOk Try.prog q.1 q.2 := Try.cons_cons c_s_l01In_ok (Try.cons_cons c_s_Lies_ok (Try.cons_nil))
def kp_s_l15Honest : KP := []
noncomputable def q_s_l15Honest (n : Nat) (x : Args [tICluster, tInt]) := evX (false, false, [2, 6, 13]) l_s_l15Honest kp_s_l15Honest [none] Try.f166 (shV tBool) n (encA [tICluster, tInt] x)
noncomputable def c_s_l15Honest : Con := roS [tICluster, tInt] true (shV tBool) (q_s_l15Honest big)
theorem c_s_l15Honest_ok : ConOk Try.prog 166 c_s_l15Honest := roS_ok ⟨Try.f166, by kernel_rfl, rfl, by decide⟩ fun _ _ h => evX_ok l_s_l15Honest_ok (f := Try.f166) (by kernel_rfl) rfl (by kernel_rfl) (by kernel_rfl) big h
noncomputable def Q_s_l15Honest (n : Nat) (a0 : DICluster) (a1 : Int) : Option Bool := q_s_l15Honest n (a0, a1, ())
theorem Q_s_l15Honest_eq (n : Nat) (a0 : DICluster) (a1 : Int) : Q_s_l15Honest n a0 a1 =
    (Q_s_l01In big a1 (0 : Int) (IntKind.i64.wrap ((↑(List.length a0.snd.snd.snd.snd.fst) : Int) - (1 : Int)))).bind
 fun y =>
 bif y then
 (Q_s_l01In big a1 (0 : Int) (IntKind.i64.wrap (a0.fst - (1 : Int)))).bind fun y =>
 bif y then (Q_s_Lies big a0 a1).bind fun y => some !y else some false
 else some false := by kernel_rfl

end Go.Sx.Try

set_option maxRecDepth 100000
namespace Go.Sx.Try
open Go Go.Sx Go.Proofs

noncomputable def l_s_l15Wait : List (Nat × Con) := [(166, c_s_l15Honest), (28, c_s_TimedOut), (119, c_s_l15Post)]
theorem l_s_l15Wait_ok : ∀ q ∈ l_s_l15Wait, ConOk Try.prog q.1 q.2 := Try.cons_cons c_s_l15Honest_ok (Try.cons_cons c_s_TimedOut_ok (Try.cons_cons c_s_l15Post_ok (Try.cons_nil)))
def kp_s_l15Wait : KP := []
noncomputable def q_s_l15Wait (n : Nat) (x : AP.denL [.mu uICluster, .ro tInt]) := evX (true, true, [5, 6, 8, 9, 15, 16, 17, 22, 23, 24, 32, 33, 34]) l_s_l15Wait kp_s_l15Wait [none] Try.f125 (shO (shV tBool) [.mu uICluster]) n (AP.encL [.mu uICluster, .ro tInt] x)
noncomputable def c_s_l15Wait : Con := apS [.mu uICluster, .ro tInt] true (shO (shV tBool) [.mu uICluster]) (q_s_l15Wait big)
theorem c_s_l15Wait_ok : ConOk Try.prog 125 c_s_l15Wait := apS_ok ⟨Try.f125, by kernel_rfl, rfl, by decide⟩ fun _ _ h => evX_ok l_s_l15Wait_ok (f := Try.f125) (by kernel_rfl) rfl (by kernel_rfl) (by kernel_rfl) big h
noncomputable def Q_s_l15Wait (n : Nat) (a0 : DICluster) (a1 : Int) : Option (Bool × DICluster × Unit) := q_s_l15Wait n (a0, a1, ())
theorem Q_s_l15Wait_eq (n : Nat) (a0 : DICluster) (a1 : Int) : Q_s_l15Wait n a0 a1 =
    (Q_s_l15Honest big a0 a1).bind fun y =>
 bif !y then some (false, a0, PUnit.unit)
 else
 if (0 : Int) ≤ a1 then
 if a1 < (↑(List.length a0.snd.snd.snd.snd.fst) : Int) then
 both
 ((nth a0.snd.snd.snd.snd.fst a1.toNat).bind fun y =>
 both
 ((Q_s_TimedOut big y a0.fst).bind fun y_1 =>
 (updO a0.snd.snd.snd.snd.fst a1.toNat y).bind fun y =>
 both
 (bif !y_1.snd.snd.fst then
 some
 (false, (a0.fst, a0.snd.fst, a0.snd.snd.fst, a0.snd.snd.snd.fst, y, a0.snd.snd.snd.snd.snd),
 PUnit.unit)
 else
 if (0 : Int) ≤ a1 then
 if a1 < (↑y.length : Int) then
 (nth y a1.toNat).bind fun y_2 =>
 (updO y a1.toNat y_1.fst).bind fun y =>
 (Q_s_l15Post big
 (a0.fst, a0.snd.fst, a0.snd.snd.fst, a0.snd.snd.snd.fst, y,
 a0.snd.snd.snd.snd.snd)
 [y_1.snd.fst]).bind
 fun y => some (true, y.snd)
 else none
 else none)
 (bif !y_1.snd.snd.fst then
 some
 (false, (a0.fst, a0.snd.fst, a0.snd.snd.fst, a0.snd.snd.snd.fst, y, a0.snd.snd.snd.snd.snd),
 PUnit.unit)
 else
 if (0 : Int) ≤ a1 then
 if a1 < (↑y.length : Int) then
 (nth y a1.toNat).bind fun y_2 =>
 (updO y a1.toNat y_1.fst).bind fun y =>
 (Q_s_l15Post big
 (a0.fst, a0.snd.fst, a0.snd.snd.fst, a0.snd.snd.snd.fst, y,
 a0.snd.snd.snd.snd.snd)
 [y_1.snd.fst]).bind
 fun y => some (true, y.snd)
 else none
 else none))
 (both
 (both
 ((Q_s_TimedOut big y a0.fst).bind fun y_1 =>
 (updO a0.snd.snd.snd.snd.fst a1.toNat y).bind fun y =>
 bif !y_1.snd.snd.fst then
 some
 (false, (a0.fst, a0.snd.fst, a0.snd.snd.fst, a0.snd.snd.snd.fst, y, a0.snd.snd.snd.snd.snd),
 PUnit.unit)
 else
 if (0 : Int) ≤ a1 then
 if a1 < (↑y.length : Int) then
 (nth y a1.toNat).bind fun y_2 =>
 (updO y a1.toNat y_1.fst).bind fun y =>
 (Q_s_l15Post big
 (a0.fst, a0.snd.fst, a0.snd.snd.fst, a0.snd.snd.snd.fst, y,
 a0.snd.snd.snd.snd.snd)
 [y_1.snd.fst]).bind
 fun y => some (true, y.snd)
 else none
 else none)
 ((Q_s_TimedOut big y a0.fst).bind fun y_1 =>
 (updO a0.snd.snd.snd.snd.fst a1.toNat y).bind fun y =>
 bif !y_1.snd.snd.fst then
 some
 (false, (a0.fst, a0.snd.fst, a0.snd.snd.fst, a0.snd.snd.snd.fst, y, a0.snd.snd.snd.snd.snd),
 PUnit.unit)
 else
 if (0 : Int) ≤ a1 then
 if a1 < (↑y.length : Int) then
 (nth y a1.toNat).bind fun y_2 =>
 (updO y a1.toNat y_1.fst).bind fun y =>
 (Q_s_l15Post big
 (a0.fst, a0.snd.fst, a0.snd.snd.fst, a0.snd.snd.snd.fst, y,
 a0.snd.snd.snd.snd.snd)
 [y_1.snd.fst]).bind
 fun y => some (true, y.snd)
 else none
 else none))
 (both
 ((Q_s_TimedOut big y a0.fst).bind fun y_1 =>
 (updO a0.snd.snd.snd.snd.fst a1.toNat y).bind fun y =>
 bif !y_1.snd.snd.fst then
 some
 (false, (a0.fst, a0.snd.fst, a0.snd.snd.fst, a0.snd.snd.snd.fst, y, a0.snd.snd.snd.snd.snd),
 PUnit.unit)
 else
 if (0 : Int) ≤ a1 then
 if a1 < (↑y.length : Int) then
 (nth y a1.toNat).bind fun y_2 =>
 (updO y a1.toNat y_1.fst).bind fun y =>
 (Q_s_l15Post big
 (a0.fst, a0.snd.fst, a0.snd.snd.fst, a0.snd.snd.snd.fst, y,
 a0.snd.snd.snd.snd.snd)
 [y_1.snd.fst]).bind
 fun y => some (true, y.snd)
 else none
 else none)
 ((Q_s_TimedOut big y a0.fst).bind fun y_1 =>
 (updO a0.snd.snd.snd.snd.fst a1.toNat y).bind fun y =>
 bif !y_1.snd.snd.fst then
 some
 (false, (a0.fst, a0.snd.fst, a0.snd.snd.fst, a0.snd.snd.snd.fst, y, a0.snd.snd.snd.snd.snd),
 PUnit.unit)
 else
 if (0 : Int) ≤ a1 then
 if a1 < (↑y.length : Int) then
 (nth y a1.toNat).bind fun y_2 =>
 (updO y a1.toNat y_1.fst).bind fun y =>
 (Q_s_l15Post big
 (a0.fst, a0.snd.fst, a0.snd.snd.fst, a0.snd.snd.snd.fst, y,
 a0.snd.snd.snd.snd.snd)
 [y_1.snd.fst]).bind
 fun y => some (true, y.snd)
 else none
 else none))))
 (both
 (both
 ((nth a0.snd.snd.snd.snd.fst a1.toNat).bind fun y =>
 both
 ((Q_s_TimedOut big y a0.fst).bind fun y_1 =>
 (updO a0.snd.snd.snd.snd.fst a1.toNat y).bind fun y =>
 both
 (bif !y_1.snd.snd.fst then
 some
 (false,
 (a0.fst, a0.snd.fst, a0.snd.snd.fst, a0.snd.snd.snd.fst, y, a0.snd.snd.snd.snd.snd),
 PUnit.unit)
 else
 if (0 : Int) ≤ a1 then
 if a1 < (↑y.length : Int) then
 (nth y a1.toNat).bind fun y_2 =>
 (updO y a1.toNat y_1.fst).bind fun y =>
 (Q_s_l15Post big
 (a0.fst, a0.snd.fst, a0.snd.snd.fst, a0.snd.snd.snd.fst, y,
 a0.snd.snd.snd.snd.snd)
 [y_1.snd.fst]).bind
 fun y => some (true, y.snd)
 else none
 else none)
 (bif !y_1.snd.snd.fst then
 some
 (false,
 (a0.fst, a0.snd.fst, a0.snd.snd.fst, a0.snd.snd.snd.fst, y, a0.snd.snd.snd.snd.snd),
 PUnit.unit)
 else
 if (0 : Int) ≤ a1 then
 if a1 < (↑y.length : Int) then
 (nth y a1.toNat).bind fun y_2 =>
 (updO y a1.toNat y_1.fst).bind fun y =>
 (Q_s_l15Post big
 (a0.fst, a0.snd.fst, a0.snd.snd.fst, a0.snd.snd.snd.fst, y,
 a0.snd.snd.snd.snd.snd)
 [y_1.snd.fst]).bind
 fun y => some (true, y.snd)
 else none
 else none))
 (both
 (both
 ((Q_s_TimedOut big y a0.fst).bind fun y_1 =>
 (updO a0.snd.snd.snd.snd.fst a1.toNat y).bind fun y =>
 bif !y_1.snd.snd.fst then
 some
 (false,
 (a0.fst, a0.snd.fst, a0.snd.snd.fst, a0.snd.snd.snd.fst, y, a0.snd.snd.snd.snd.snd),
 PUnit.unit)
 else
 if (0 : Int) ≤ a1 then
 if a1 < (↑y.length : Int) then
 (nth y a1.toNat).bind fun y_2 =>
 (updO y a1.toNat y_1.fst).bind fun y =>
 (Q_s_l15Post big
 (a0.fst, a0.snd.fst, a0.snd.snd.fst, a0.snd.snd.snd.fst, y,
 a0.snd.snd.snd.snd.snd)
 [y_1.snd.fst]).bind
 fun y => some (true, y.snd)
 else none
 else none)
 ((Q_s_TimedOut big y a0.fst).bind fun y_1 =>
 (updO a0.snd.snd.snd.snd.fst a1.toNat y).bind fun y =>
 bif !y_1.snd.snd.fst then
 some
 (false,
 (a0.fst, a0.snd.fst, a0.snd.snd.fst, a0.snd.snd.snd.fst, y, a0.snd.snd.snd.snd.snd),
 PUnit.unit)
 else
 if (0 : Int) ≤ a1 then
 if a1 < (↑y.length : Int) then
 (nth y a1.toNat).bind fun y_2 =>
 (updO y a1.toNat y_1.fst).bind fun y =>
 (Q_s_l15Post big
 (a0.fst, a0.snd.fst, a0.snd.snd.fst, a0.snd.snd.snd.fst, y,
 a0.snd.snd.snd.snd.snd)
 [y_1.snd.fst]).bind
 fun y => some (true, y.snd)
 else none
 else none))
 (both
 ((Q_s_TimedOut big y a0.fst).bind fun y_1 =>
 (updO a0.snd.snd.snd.snd.fst a1.toNat y).bind fun y =>
 bif !y_1.snd.snd.fst then
 some
 (false,
 (a0.fst, a0.snd.fst, a0.snd.snd.fst, a0.snd.snd.snd.fst, y, a0.snd.snd.snd.snd.snd),
 PUnit.unit)
 else
 if (0 : Int) ≤ a1 then
 if a1 < (↑y.length : Int) then
 (nth y a1.toNat).bind fun y_2 =>
 (updO y a1.toNat y_1.fst).bind fun y =>
 (Q_s_l15Post big
 (a0.fst, a0.snd.fst, a0.snd.snd.fst, a0.snd.snd.snd.fst, y,
 a0.snd.snd.snd.snd.snd)
 [y_1.snd.fst]).bind
 fun y => some (true, y.snd)
 else none
 else none)
 ((Q_s_TimedOut big y a0.fst).bind fun y_1 =>
 (updO a0.snd.snd.snd.snd.fst a1.toNat y).bind fun y =>
 bif !y_1.snd.snd.fst then
 some
 (false,
 (a0.fst, a0.snd.fst, a0.snd.snd.fst, a0.snd.snd.snd.fst, y, a0.snd.snd.snd.snd.snd),
 PUnit.unit)
 else
 if (0 : Int) ≤ a1 then
 if a1 < (↑y.length : Int) then
 (nth y a1.toNat).bind fun y_2 =>
 (updO y a1.toNat y_1.fst).bind fun y =>
 (Q_s_l15Post big
 (a0.fst, a0.snd.fst, a0.snd.snd.fst, a0.snd.snd.snd.fst, y,
 a0.snd.snd.snd.snd.snd)
 [y_1.snd.fst]).bind
 fun y => some (true, y.snd)
 else none
 else none))))
 (both
 (both
 ((nth a0.snd.snd.snd.snd.fst a1.toNat).bind fun y =>
 both
 ((Q_s_TimedOut big y a0.fst).bind fun y_1 =>
 (updO a0.snd.snd.snd.snd.fst a1.toNat y).bind fun y =>
 both
 (bif !y_1.snd.snd.fst then
 some
 (false,
 (a0.fst, a0.snd.fst, a0.snd.snd.fst, a0.snd.snd.snd.fst, y, a0.snd.snd.snd.snd.snd),
 PUnit.unit)
 else
 if (0 : Int) ≤ a1 then
 if a1 < (↑y.length : Int) then
 (nth y a1.toNat).bind fun y_2 =>
 (updO y a1.toNat y_1.fst).bind fun y =>
 (Q_s_l15Post big
 (a0.fst, a0.snd.fst, a0.snd.snd.fst, a0.snd.snd.snd.fst, y,
 a0.snd.snd.snd.snd.snd)
 [y_1.snd.fst]).bind
 fun y => some (true, y.snd)
 else none
 else none)
 (bif !y_1.snd.snd.fst then
 some
 (false,
 (a0.fst, a0.snd.fst, a0.snd.snd.fst, a0.snd.snd.snd.fst, y, a0.snd.snd.snd.snd.snd),
 PUnit.unit)
 else
 if (0 : Int) ≤ a1 then
 if a1 < (↑y.length : Int) then
 (nth y a1.toNat).bind fun y_2 =>
 (updO y a1.toNat y_1.fst).bind fun y =>
 (Q_s_l15Post big
 (a0.fst, a0.snd.fst, a0.snd.snd.fst, a0.snd.snd.snd.fst, y,
 a0.snd.snd.snd.snd.snd)
 [y_1.snd.fst]).bind
 fun y => some (true, y.snd)
 else none
 else none))
 (both
 (both
 ((Q_s_TimedOut big y a0.fst).bind fun y_1 =>
 (updO a0.snd.snd.snd.snd.fst a1.toNat y).bind fun y =>
 bif !y_1.snd.snd.fst then
 some
 (false,
 (a0.fst, a0.snd.fst, a0.snd.snd.fst, a0.snd.snd.snd.fst, y,
 a0.snd.snd.snd.snd.snd),
 PUnit.unit)
 else
 if (0 : Int) ≤ a1 then
 if a1 < (↑y.length : Int) then
 (nth y a1.toNat).bind fun y_2 =>
 (updO y a1.toNat y_1.fst).bind fun y =>
 (Q_s_l15Post big
 (a0.fst, a0.snd.fst, a0.snd.snd.fst, a0.snd.snd.snd.fst, y,
 a0.snd.snd.snd.snd.snd)
 [y_1.snd.fst]).bind
 fun y => some (true, y.snd)
 else none
 else none)
 ((Q_s_TimedOut big y a0.fst).bind fun y_1 =>
 (updO a0.snd.snd.snd.snd.fst a1.toNat y).bind fun y =>
 bif !y_1.snd.snd.fst then
 some
 (false,
 (a0.fst, a0.snd.fst, a0.snd.snd.fst, a0.snd.snd.snd.fst, y,
 a0.snd.snd.snd.snd.snd),
 PUnit.unit)
 else
 if (0 : Int) ≤ a1 then
 if a1 < (↑y.length : Int) then
 (nth y a1.toNat).bind fun y_2 =>
 (updO y a1.toNat y_1.fst).bind fun y =>
 (Q_s_l15Post big
 (a0.fst, a0.snd.fst, a0.snd.snd.fst, a0.snd.snd.snd.fst, y,
 a0.snd.snd.snd.snd.snd)
 [y_1.snd.fst]).bind
 fun y => some (true, y.snd)
 else none
 else none))
 (both
 ((Q_s_TimedOut big y a0.fst).bind fun y_1 =>
 (updO a0.snd.snd.snd.snd.fst a1.toNat y).bind fun y =>
 bif !y_1.snd.snd.fst then
 some
 (false,
 (a0.fst, a0.snd.fst, a0.snd.snd.fst, a0.snd.snd.snd.fst, y,
 a0.snd.snd.snd.snd.snd),
 PUnit.unit)
 else
 if (0 : Int) ≤ a1 then
 if a1 < (↑y.length : Int) then
 (nth y a1.toNat).bind fun y_2 =>
 (updO y a1.toNat y_1.fst).bind fun y =>
 (Q_s_l15Post big
 (a0.fst, a0.snd.fst, a0.snd.snd.fst, a0.snd.snd.snd.fst, y,
 a0.snd.snd.snd.snd.snd)
 [y_1.snd.fst]).bind
 fun y => some (true, y.snd)
 else none
 else none)
 ((Q_s_TimedOut big y a0.fst).bind fun y_1 =>
 (updO a0.snd.snd.snd.snd.fst a1.toNat y).bind fun y =>
 bif !y_1.snd.snd.fst then
 some
 (false,
 (a0.fst, a0.snd.fst, a0.snd.snd.fst, a0.snd.snd.snd.fst, y,
 a0.snd.snd.snd.snd.snd),
 PUnit.unit)
 else
 if (0 : Int) ≤ a1 then
 if a1 < (↑y.length : Int) then
 (nth y a1.toNat).bind fun y_2 =>
 (updO y a1.toNat y_1.fst).bind fun y =>
 (Q_s_l15Post big
 (a0.fst, a0.snd.fst, a0.snd.snd.fst, a0.snd.snd.snd.fst, y,
 a0.snd.snd.snd.snd.snd)
 [y_1.snd.fst]).bind
 fun y => some (true, y.snd)
 else none
 else none))))
 (both
 (both
 ((nth a0.snd.snd.snd.snd.fst a1.toNat).bind fun y =>
 both
 ((Q_s_TimedOut big y a0.fst).bind fun y_1 =>
 (updO a0.snd.snd.snd.snd.fst a1.toNat y).bind fun y =>
 both
 (bif !y_1.snd.snd.fst then
 some
 (false,
 (a0.fst, a0.snd.fst, a0.snd.snd.fst, a0.snd.snd.snd.fst, y,
 a0.snd.snd.snd.snd.snd),
 PUnit.unit)
 else
 if (0 : Int) ≤ a1 then
 if a1 < (↑y.length : Int) then
 (nth y a1.toNat).bind fun y_2 =>
 (updO y a1.toNat y_1.fst).bind fun y =>
 (Q_s_l15Post big
 (a0.fst, a0.snd.fst, a0.snd.snd.fst, a0.snd.snd.snd.fst, y,
 a0.snd.snd.snd.snd.snd)
 [y_1.snd.fst]).bind
 fun y => some (true, y.snd)
 else none
 else none)
 (bif !y_1.snd.snd.fst then
 some
 (false,
 (a0.fst, a0.snd.fst, a0.snd.snd.fst, a0.snd.snd.snd.fst, y,
 a0.snd.snd.snd.snd.snd),
 PUnit.unit)
 else
 if (0 : Int) ≤ a1 then
 if a1 < (↑y.length : Int) then
 (nth y a1.toNat).bind fun y_2 =>
 (updO y a1.toNat y_1.fst).bind fun y =>
 (Q_s_l15Post big
 (a0.fst, a0.snd.fst, a0.snd.snd.fst, a0.snd.snd.snd.fst, y,
 a0.snd.snd.snd.snd.snd)
 [y_1.snd.fst]).bind
 fun y => some (true, y.snd)
 else none
 else none))
 (both
 (both
 ((Q_s_TimedOut big y a0.fst).bind fun y_1 =>
 (updO a0.snd.snd.snd.snd.fst a1.toNat y).bind fun y =>
 bif !y_1.snd.snd.fst then
 some
 (false,
 (a0.fst, a0.snd.fst, a0.snd.snd.fst, a0.snd.snd.snd.fst, y,
 a0.snd.snd.snd.snd.snd),
 PUnit.unit)
 else
 if (0 : Int) ≤ a1 then
 if a1 < (↑y.length : Int) then
 (nth y a1.toNat).bind fun y_2 =>
 (updO y a1.toNat y_1.fst).bind fun y =>
 (Q_s_l15Post big
 (a0.fst, a0.snd.fst, a0.snd.snd.fst, a0.snd.snd.snd.fst, y,
 a0.snd.snd.snd.snd.snd)
 [y_1.snd.fst]).bind
 fun y => some (true, y.snd)
 else none
 else none)
 ((Q_s_TimedOut big y a0.fst).bind fun y_1 =>
 (updO a0.snd.snd.snd.snd.fst a1.toNat y).bind fun y =>
 bif !y_1.snd.snd.fst then
 some
 (false,
 (a0.fst, a0.snd.fst, a0.snd.snd.fst, a0.snd.snd.snd.fst, y,
 a0.snd.snd.snd.snd.snd),
 PUnit.unit)
 else
 if (0 : Int) ≤ a1 then
 if a1 < (↑y.length : Int) then
 (nth y a1.toNat).bind fun y_2 =>
 (updO y a1.toNat y_1.fst).bind fun y =>
 (Q_s_l15Post big
 (a0.fst, a0.snd.fst, a0.snd.snd.fst, a0.snd.snd.snd.fst, y,
 a0.snd.snd.snd.snd.snd)
 [y_1.snd.fst]).bind
 fun y => some (true, y.snd)
 else none
 else none))
 (both
 ((Q_s_TimedOut big y a0.fst).bind fun y_1 =>
 (updO a0.snd.snd.snd.snd.fst a1.toNat y).bind fun y =>
 bif !y_1.snd.snd.fst then
 some
 (false,
 (a0.fst, a0.snd.fst, a0.snd.snd.fst, a0.snd.snd.snd.fst, y,
 a0.snd.snd.snd.snd.snd),
 PUnit.unit)
 else
 if (0 : Int) ≤ a1 then
 if a1 < (↑y.length : Int) then
 (nth y a1.toNat).bind fun y_2 =>
 (updO y a1.toNat y_1.fst).bind fun y =>
 (Q_s_l15Post big
 (a0.fst, a0.snd.fst, a0.snd.snd.fst, a0.snd.snd.snd.fst, y,
 a0.snd.snd.snd.snd.snd)
 [y_1.snd.fst]).bind
 fun y => some (true, y.snd)
 else none
 else none)
 ((Q_s_TimedOut big y a0.fst).bind fun y_1 =>
 (updO a0.snd.snd.snd.snd.fst a1.toNat y).bind fun y =>
 bif !y_1.snd.snd.fst then
 some
 (false,
 (a0.fst, a0.snd.fst, a0.snd.snd.fst, a0.snd.snd.snd.fst, y,
 a0.snd.snd.snd.snd.snd),
 PUnit.unit)
 else
 if (0 : Int) ≤ a1 then
 if a1 < (↑y.length : Int) then
 (nth y a1.toNat).bind fun y_2 =>
 (updO y a1.toNat y_1.fst).bind fun y =>
 (Q_s_l15Post big
 (a0.fst, a0.snd.fst, a0.snd.snd.fst, a0.snd.snd.snd.fst, y,
 a0.snd.snd.snd.snd.snd)
 [y_1.snd.fst]).bind
 fun y => some (true, y.snd)
 else none
 else none))))
 (both
 (both
 ((nth a0.snd.snd.snd.snd.fst a1.toNat).bind fun y =>
 both
 ((Q_s_TimedOut big y a0.fst).bind fun y_1 =>
 (updO a0.snd.snd.snd.snd.fst a1.toNat y).bind fun y =>
 bif !y_1.snd.snd.fst then
 some
 (false,
 (a0.fst, a0.snd.fst, a0.snd.snd.fst, a0.snd.snd.snd.fst, y,
 a0.snd.snd.snd.snd.snd),
 PUnit.unit)
 else
 if (0 : Int) ≤ a1 then
 if a1 < (↑y.length : Int) then
 (nth y a1.toNat).bind fun y_2 =>
 (updO y a1.toNat y_1.fst).bind fun y =>
 (Q_s_l15Post big
 (a0.fst, a0.snd.fst, a0.snd.snd.fst, a0.snd.snd.snd.fst, y,
 a0.snd.snd.snd.snd.snd)
 [y_1.snd.fst]).bind
 fun y => some (true, y.snd)
 else none
 else none)
 ((Q_s_TimedOut big y a0.fst).bind fun y_1 =>
 (updO a0.snd.snd.snd.snd.fst a1.toNat y).bind fun y =>
 bif !y_1.snd.snd.fst then
 some
 (false,
 (a0.fst, a0.snd.fst, a0.snd.snd.fst, a0.snd.snd.snd.fst, y,
 a0.snd.snd.snd.snd.snd),
 PUnit.unit)
 else
 if (0 : Int) ≤ a1 then
 if a1 < (↑y.length : Int) then
 (nth y a1.toNat).bind fun y_2 =>
 (updO y a1.toNat y_1.fst).bind fun y =>
 (Q_s_l15Post big
 (a0.fst, a0.snd.fst, a0.snd.snd.fst, a0.snd.snd.snd.fst, y,
 a0.snd.snd.snd.snd.snd)
 [y_1.snd.fst]).bind
 fun y => some (true, y.snd)
 else none
 else none))
 ((nth a0.snd.snd.snd.snd.fst a1.toNat).bind fun y =>
 (Q_s_TimedOut big y a0.fst).bind fun y_1 =>
 (updO a0.snd.snd.snd.snd.fst a1.toNat y).bind fun y =>
 bif !y_1.snd.snd.fst then
 some
 (false,
 (a0.fst, a0.snd.fst, a0.snd.snd.fst, a0.snd.snd.snd.fst, y,
 a0.snd.snd.snd.snd.snd),
 PUnit.unit)
 else
 if (0 : Int) ≤ a1 then
 if a1 < (↑y.length : Int) then
 (nth y a1.toNat).bind fun y_2 =>
 (updO y a1.toNat y_1.fst).bind fun y =>
 (Q_s_l15Post big
 (a0.fst, a0.snd.fst, a0.snd.snd.fst, a0.snd.snd.snd.fst, y,
 a0.snd.snd.snd.snd.snd)
 [y_1.snd.fst]).bind
 fun y => some (true, y.snd)
 else none
 else none))
 (both
 ((nth a0.snd.snd.snd.snd.fst a1.toNat).bind fun y =>
 both
 ((Q_s_TimedOut big y a0.fst).bind fun y_1 =>
 (updO a0.snd.snd.snd.snd.fst a1.toNat y).bind fun y =>
 bif !y_1.snd.snd.fst then
 some
 (false,
 (a0.fst, a0.snd.fst, a0.snd.snd.fst, a0.snd.snd.snd.fst, y,
 a0.snd.snd.snd.snd.snd),
 PUnit.unit)
 else
 if (0 : Int) ≤ a1 then
 if a1 < (↑y.length : Int) then
 (nth y a1.toNat).bind fun y_2 =>
 (updO y a1.toNat y_1.fst).bind fun y =>
 (Q_s_l15Post big
 (a0.fst, a0.snd.fst, a0.snd.snd.fst, a0.snd.snd.snd.fst, y,
 a0.snd.snd.snd.snd.snd)
 [y_1.snd.fst]).bind
 fun y => some (true, y.snd)
 else none
 else none)
 ((Q_s_TimedOut big y a0.fst).bind fun y_1 =>
 (updO a0.snd.snd.snd.snd.fst a1.toNat y).bind fun y =>
 bif !y_1.snd.snd.fst then
 some
 (false,
 (a0.fst, a0.snd.fst, a0.snd.snd.fst, a0.snd.snd.snd.fst, y,
 a0.snd.snd.snd.snd.snd),
 PUnit.unit)
 else
 if (0 : Int) ≤ a1 then
 if a1 < (↑y.length : Int) then
 (nth y a1.toNat).bind fun y_2 =>
 (updO y a1.toNat y_1.fst).bind fun y =>
 (Q_s_l15Post big
 (a0.fst, a0.snd.fst, a0.snd.snd.fst, a0.snd.snd.snd.fst, y,
 a0.snd.snd.snd.snd.snd)
 [y_1.snd.fst]).bind
 fun y => some (true, y.snd)
 else none
 else none))
 ((nth a0.snd.snd.snd.snd.fst a1.toNat).bind fun y =>
 (Q_s_TimedOut big y a0.fst).bind fun y_1 =>
 (updO a0.snd.snd.snd.snd.fst a1.toNat y).bind fun y =>
 bif !y_1.snd.snd.fst then
 some
 (false,
 (a0.fst, a0.snd.fst, a0.snd.snd.fst, a0.snd.snd.snd.fst, y,
 a0.snd.snd.snd.snd.snd),
 PUnit.unit)
 else
 if (0 : Int) ≤ a1 then
 if a1 < (↑y.length : Int) then
 (nth y a1.toNat).bind fun y_2 =>
 (updO y a1.toNat y_1.fst).bind fun y =>
 (Q_s_l15Post big
 (a0.fst, a0.snd.fst, a0.snd.snd.fst, a0.snd.snd.snd.fst, y,
 a0.snd.snd.snd.snd.snd)
 [y_1.snd.fst]).bind
 fun y => some (true, y.snd)
 else none
 else none))))
 (both
 (both
 ((nth a0.snd.snd.snd.snd.fst a1.toNat).bind fun y =>
 both
 ((Q_s_TimedOut big y a0.fst).bind fun y_1 =>
 (updO a0.snd.snd.snd.snd.fst a1.toNat y).bind fun y =>
 bif !y_1.snd.snd.fst then
 some
 (false,
 (a0.fst, a0.snd.fst, a0.snd.snd.fst, a0.snd.snd.snd.fst, y,
 a0.snd.snd.snd.snd.snd),
 PUnit.unit)
 else
 if (0 : Int) ≤ a1 then
 if a1 < (↑y.length : Int) then
 (nth y a1.toNat).bind fun y_2 =>
 (updO y a1.toNat y_1.fst).bind fun y =>
 (Q_s_l15Post big
 (a0.fst, a0.snd.fst, a0.snd.snd.fst, a0.snd.snd.snd.fst, y,
 a0.snd.snd.snd.snd.snd)
 [y_1.snd.fst]).bind
 fun y => some (true, y.snd)
 else none
 else none)
 ((Q_s_TimedOut big y a0.fst).bind fun y_1 =>
 (updO a0.snd.snd.snd.snd.fst a1.toNat y).bind fun y =>
 bif !y_1.snd.snd.fst then
 some
 (false,
 (a0.fst, a0.snd.fst, a0.snd.snd.fst, a0.snd.snd.snd.fst, y,
 a0.snd.snd.snd.snd.snd),
 PUnit.unit)
 else
 if (0 : Int) ≤ a1 then
 if a1 < (↑y.length : Int) then
 (nth y a1.toNat).bind fun y_2 =>
 (updO y a1.toNat y_1.fst).bind fun y =>
 (Q_s_l15Post big
 (a0.fst, a0.snd.fst, a0.snd.snd.fst, a0.snd.snd.snd.fst, y,
 a0.snd.snd.snd.snd.snd)
 [y_1.snd.fst]).bind
 fun y => some (true, y.snd)
 else none
 else none))
 (both
 (both
 ((nth a0.snd.snd.snd.snd.fst a1.toNat).bind fun y =>
 both
 ((Q_s_TimedOut big y a0.fst).bind fun y_1 =>
 (updO a0.snd.snd.snd.snd.fst a1.toNat y).bind fun y =>
 bif !y_1.snd.snd.fst then
 some
 (false,
 (a0.fst, a0.snd.fst, a0.snd.snd.fst, a0.snd.snd.snd.fst, y,
 a0.snd.snd.snd.snd.snd),
 PUnit.unit)
 else
 if (0 : Int) ≤ a1 then
 if a1 < (↑y.length : Int) then
 (nth y a1.toNat).bind fun y_2 =>
 (updO y a1.toNat y_1.fst).bind fun y =>
 (Q_s_l15Post big
 (a0.fst, a0.snd.fst, a0.snd.snd.fst, a0.snd.snd.snd.fst, y,
 a0.snd.snd.snd.snd.snd)
 [y_1.snd.fst]).bind
 fun y => some (true, y.snd)
 else none
 else none)
 ((Q_s_TimedOut big y a0.fst).bind fun y_1 =>
 (updO a0.snd.snd.snd.snd.fst a1.toNat y).bind fun y =>
 bif !y_1.snd.snd.fst then
 some
 (false,
 (a0.fst, a0.snd.fst, a0.snd.snd.fst, a0.snd.snd.snd.fst, y,
 a0.snd.snd.snd.snd.snd),
 PUnit.unit)
 else
 if (0 : Int) ≤ a1 then
 if a1 < (↑y.length : Int) then
 (nth y a1.toNat).bind fun y_2 =>
 (updO y a1.toNat y_1.fst).bind fun y =>
 (Q_s_l15Post big
 (a0.fst, a0.snd.fst, a0.snd.snd.fst, a0.snd.snd.snd.fst, y,
 a0.snd.snd.snd.snd.snd)
 [y_1.snd.fst]).bind
 fun y => some (true, y.snd)
 else none
 else none))
 ((nth a0.snd.snd.snd.snd.fst a1.toNat).bind fun y =>
 (Q_s_TimedOut big y a0.fst).bind fun y_1 =>
 (updO a0.snd.snd.snd.snd.fst a1.toNat y).bind fun y =>
 bif !y_1.snd.snd.fst then
 some
 (false,
 (a0.fst, a0.snd.fst, a0.snd.snd.fst, a0.snd.snd.snd.fst, y,
 a0.snd.snd.snd.snd.snd),
 PUnit.unit)
 else
 if (0 : Int) ≤ a1 then
 if a1 < (↑y.length : Int) then
 (nth y a1.toNat).bind fun y_2 =>
 (updO y a1.toNat y_1.fst).bind fun y =>
 (Q_s_l15Post big
 (a0.fst, a0.snd.fst, a0.snd.snd.fst, a0.snd.snd.snd.fst, y,
 a0.snd.snd.snd.snd.snd)
 [y_1.snd.fst]).bind
 fun y => some (true, y.snd)
 else none
 else none))
 (both
 ((nth a0.snd.snd.snd.snd.fst a1.toNat).bind fun y =>
 (Q_s_TimedOut big y a0.fst).bind fun y_1 =>
 (updO a0.snd.snd.snd.snd.fst a1.toNat y).bind fun y =>
 bif !y_1.snd.snd.fst then
 some
 (false,
 (a0.fst, a0.snd.fst, a0.snd.snd.fst, a0.snd.snd.snd.fst, y,
 a0.snd.snd.snd.snd.snd),
 PUnit.unit)
 else
 if (0 : Int) ≤ a1 then
 if a1 < (↑y.length : Int) then
 (nth y a1.toNat).bind fun y_2 =>
 (updO y a1.toNat y_1.fst).bind fun y =>
 (Q_s_l15Post big
 (a0.fst, a0.snd.fst, a0.snd.snd.fst, a0.snd.snd.snd.fst, y,
 a0.snd.snd.snd.snd.snd)
 [y_1.snd.fst]).bind
 fun y => some (true, y.snd)
 else none
 else none)
 ((nth a0.snd.snd.snd.snd.fst a1.toNat).bind fun y =>
 (Q_s_TimedOut big y a0.fst).bind fun y_1 =>
 (updO a0.snd.snd.snd.snd.fst a1.toNat y).bind fun y =>
 bif !y_1.snd.snd.fst then
 some
 (false,
 (a0.fst, a0.snd.fst, a0.snd.snd.fst, a0.snd.snd.snd.fst, y,
 a0.snd.snd.snd.snd.snd),
 PUnit.unit)
 else
 if (0 : Int) ≤ a1 then
 if a1 < (↑y.length : Int) then
 (nth y a1.toNat).bind fun y_2 =>
 (updO y a1.toNat y_1.fst).bind fun y =>
 (Q_s_l15Post big
 (a0.fst, a0.snd.fst, a0.snd.snd.fst, a0.snd.snd.snd.fst, y,
 a0.snd.snd.snd.snd.snd)
 [y_1.snd.fst]).bind
 fun y => some (true, y.snd)
 else none
 else none))))
 (both
 ((nth a0.snd.snd.snd.snd.fst a1.toNat).bind fun y =>
 both
 ((Q_s_TimedOut big y a0.fst).bind fun y_1 =>
 (updO a0.snd.snd.snd.snd.fst a1.toNat y).bind fun y =>
 bif !y_1.snd.snd.fst then
 some
 (false,
 (a0.fst, a0.snd.fst, a0.snd.snd.fst, a0.snd.snd.snd.fst, y,
 a0.snd.snd.snd.snd.snd),
 PUnit.unit)
 else
 if (0 : Int) ≤ a1 then
 if a1 < (↑y.length : Int) then
 (nth y a1.toNat).bind fun y_2 =>
 (updO y a1.toNat y_1.fst).bind fun y =>
 (Q_s_l15Post big
 (a0.fst, a0.snd.fst, a0.snd.snd.fst, a0.snd.snd.snd.fst, y,
 a0.snd.snd.snd.snd.snd)
 [y_1.snd.fst]).bind
 fun y => some (true, y.snd)
 else none
 else none)
 ((Q_s_TimedOut big y a0.fst).bind fun y_1 =>
 (updO a0.snd.snd.snd.snd.fst a1.toNat y).bind fun y =>
 bif !y_1.snd.snd.fst then
 some
 (false,
 (a0.fst, a0.snd.fst, a0.snd.snd.fst, a0.snd.snd.snd.fst, y,
 a0.snd.snd.snd.snd.snd),
 PUnit.unit)
 else
 if (0 : Int) ≤ a1 then
 if a1 < (↑y.length : Int) then
 (nth y a1.toNat).bind fun y_2 =>
 (updO y a1.toNat y_1.fst).bind fun y =>
 (Q_s_l15Post big
 (a0.fst, a0.snd.fst, a0.snd.snd.fst, a0.snd.snd.snd.fst, y,
 a0.snd.snd.snd.snd.snd)
 [y_1.snd.fst]).bind
 fun y => some (true, y.snd)
 else none
 else none))
 (both
 (both
 ((nth a0.snd.snd.snd.snd.fst a1.toNat).bind fun y =>
 both
 ((Q_s_TimedOut big y a0.fst).bind fun y_1 =>
 (updO a0.snd.snd.snd.snd.fst a1.toNat y).bind fun y =>
 bif !y_1.snd.snd.fst then
 some
 (false,
 (a0.fst, a0.snd.fst, a0.snd.snd.fst, a0.snd.snd.snd.fst, y,
 a0.snd.snd.snd.snd.snd),
 PUnit.unit)
 else
 if (0 : Int) ≤ a1 then
 if a1 < (↑y.length : Int) then
 (nth y a1.toNat).bind fun y_2 =>
 (updO y a1.toNat y_1.fst).bind fun y =>
 (Q_s_l15Post big
 (a0.fst, a0.snd.fst, a0.snd.snd.fst, a0.snd.snd.snd.fst, y,
 a0.snd.snd.snd.snd.snd)
 [y_1.snd.fst]).bind
 fun y => some (true, y.snd)
 else none
 else none)
 ((Q_s_TimedOut big y a0.fst).bind fun y_1 =>
 (updO a0.snd.snd.snd.snd.fst a1.toNat y).bind fun y =>
 bif !y_1.snd.snd.fst then
 some
 (false,
 (a0.fst, a0.snd.fst, a0.snd.snd.fst, a0.snd.snd.snd.fst, y,
 a0.snd.snd.snd.snd.snd),
 PUnit.unit)
 else
 if (0 : Int) ≤ a1 then
 if a1 < (↑y.length : Int) then
 (nth y a1.toNat).bind fun y_2 =>
 (updO y a1.toNat y_1.fst).bind fun y =>
 (Q_s_l15Post big
 (a0.fst, a0.snd.fst, a0.snd.snd.fst, a0.snd.snd.snd.fst, y,
 a0.snd.snd.snd.snd.snd)
 [y_1.snd.fst]).bind
 fun y => some (true, y.snd)
 else none
 else none))
 ((nth a0.snd.snd.snd.snd.fst a1.toNat).bind fun y =>
 (Q_s_TimedOut big y a0.fst).bind fun y_1 =>
 (updO a0.snd.snd.snd.snd.fst a1.toNat y).bind fun y =>
 bif !y_1.snd.snd.fst then
 some
 (false,
 (a0.fst, a0.snd.fst, a0.snd.snd.fst, a0.snd.snd.snd.fst, y,
 a0.snd.snd.snd.snd.snd),
 PUnit.unit)
 else
 if (0 : Int) ≤ a1 then
 if a1 < (↑y.length : Int) then
 (nth y a1.toNat).bind fun y_2 =>
 (updO y a1.toNat y_1.fst).bind fun y =>
 (Q_s_l15Post big
 (a0.fst, a0.snd.fst, a0.snd.snd.fst, a0.snd.snd.snd.fst, y,
 a0.snd.snd.snd.snd.snd)
 [y_1.snd.fst]).bind
 fun y => some (true, y.snd)
 else none
 else none))
 (both
 ((nth a0.snd.snd.snd.snd.fst a1.toNat).bind fun y =>
 (Q_s_TimedOut big y a0.fst).bind fun y_1 =>
 (updO a0.snd.snd.snd.snd.fst a1.toNat y).bind fun y =>
 bif !y_1.snd.snd.fst then
 some
 (false,
 (a0.fst, a0.snd.fst, a0.snd.snd.fst, a0.snd.snd.snd.fst, y,
 a0.snd.snd.snd.snd.snd),
 PUnit.unit)
 else
 if (0 : Int) ≤ a1 then
 if a1 < (↑y.length : Int) then
 (nth y a1.toNat).bind fun y_2 =>
 (updO y a1.toNat y_1.fst).bind fun y =>
 (Q_s_l15Post big
 (a0.fst, a0.snd.fst, a0.snd.snd.fst, a0.snd.snd.snd.fst, y,
 a0.snd.snd.snd.snd.snd)
 [y_1.snd.fst]).bind
 fun y => some (true, y.snd)
 else none
 else none)
 ((nth a0.snd.snd.snd.snd.fst a1.toNat).bind fun y =>
 (Q_s_TimedOut big y a0.fst).bind fun y_1 =>
 (updO a0.snd.snd.snd.snd.fst a1.toNat y).bind fun y =>
 bif !y_1.snd.snd.fst then
 some
 (false,
 (a0.fst, a0.snd.fst, a0.snd.snd.fst, a0.snd.snd.snd.fst, y,
 a0.snd.snd.snd.snd.snd),
 PUnit.unit)
 else
 if (0 : Int) ≤ a1 then
 if a1 < (↑y.length : Int) then
 (nth y a1.toNat).bind fun y_2 =>
 (updO y a1.toNat y_1.fst).bind fun y =>
 (Q_s_l15Post big
 (a0.fst, a0.snd.fst, a0.snd.snd.fst, a0.snd.snd.snd.fst, y,
 a0.snd.snd.snd.snd.snd)
 [y_1.snd.fst]).bind
 fun y => some (true, y.snd)
 else none
 else none)))))))
 (both
 (both
 ((nth a0.snd.snd.snd.snd.fst a1.toNat).bind fun y =>
 both
 ((Q_s_TimedOut big y a0.fst).bind fun y_1 =>
 (updO a0.snd.snd.snd.snd.fst a1.toNat y).bind fun y =>
 bif !y_1.snd.snd.fst then
 some
 (false,
 (a0.fst, a0.snd.fst, a0.snd.snd.fst, a0.snd.snd.snd.fst, y, a0.snd.snd.snd.snd.snd),
 PUnit.unit)
 else
 if (0 : Int) ≤ a1 then
 if a1 < (↑y.length : Int) then
 (nth y a1.toNat).bind fun y_2 =>
 (updO y a1.toNat y_1.fst).bind fun y =>
 (Q_s_l15Post big
 (a0.fst, a0.snd.fst, a0.snd.snd.fst, a0.snd.snd.snd.fst, y,
 a0.snd.snd.snd.snd.snd)
 [y_1.snd.fst]).bind
 fun y => some (true, y.snd)
 else none
 else none)
 ((Q_s_TimedOut big y a0.fst).bind fun y_1 =>
 (updO a0.snd.snd.snd.snd.fst a1.toNat y).bind fun y =>
 bif !y_1.snd.snd.fst then
 some
 (false,
 (a0.fst, a0.snd.fst, a0.snd.snd.fst, a0.snd.snd.snd.fst, y, a0.snd.snd.snd.snd.snd),
 PUnit.unit)
 else
 if (0 : Int) ≤ a1 then
 if a1 < (↑y.length : Int) then
 (nth y a1.toNat).bind fun y_2 =>
 (updO y a1.toNat y_1.fst).bind fun y =>
 (Q_s_l15Post big
 (a0.fst, a0.snd.fst, a0.snd.snd.fst, a0.snd.snd.snd.fst, y,
 a0.snd.snd.snd.snd.snd)
 [y_1.snd.fst]).bind
 fun y => some (true, y.snd)
 else none
 else none))
 (both
 (both
 ((nth a0.snd.snd.snd.snd.fst a1.toNat).bind fun y =>
 both
 ((Q_s_TimedOut big y a0.fst).bind fun y_1 =>
 (updO a0.snd.snd.snd.snd.fst a1.toNat y).bind fun y =>
 bif !y_1.snd.snd.fst then
 some
 (false,
 (a0.fst, a0.snd.fst, a0.snd.snd.fst, a0.snd.snd.snd.fst, y,
 a0.snd.snd.snd.snd.snd),
 PUnit.unit)
 else
 if (0 : Int) ≤ a1 then
 if a1 < (↑y.length : Int) then
 (nth y a1.toNat).bind fun y_2 =>
 (updO y a1.toNat y_1.fst).bind fun y =>
 (Q_s_l15Post big
 (a0.fst, a0.snd.fst, a0.snd.snd.fst, a0.snd.snd.snd.fst, y,
 a0.snd.snd.snd.snd.snd)
 [y_1.snd.fst]).bind
 fun y => some (true, y.snd)
 else none
 else none)
 ((Q_s_TimedOut big y a0.fst).bind fun y_1 =>
 (updO a0.snd.snd.snd.snd.fst a1.toNat y).bind fun y =>
 bif !y_1.snd.snd.fst then
 some
 (false,
 (a0.fst, a0.snd.fst, a0.snd.snd.fst, a0.snd.snd.snd.fst, y,
 a0.snd.snd.snd.snd.snd),
 PUnit.unit)
 else
 if (0 : Int) ≤ a1 then
 if a1 < (↑y.length : Int) then
 (nth y a1.toNat).bind fun y_2 =>
 (updO y a1.toNat y_1.fst).bind fun y =>
 (Q_s_l15Post big
 (a0.fst, a0.snd.fst, a0.snd.snd.fst, a0.snd.snd.snd.fst, y,
 a0.snd.snd.snd.snd.snd)
 [y_1.snd.fst]).bind
 fun y => some (true, y.snd)
 else none
 else none))
 (both
 (both
 ((nth a0.snd.snd.snd.snd.fst a1.toNat).bind fun y =>
 both
 ((Q_s_TimedOut big y a0.fst).bind fun y_1 =>
 (updO a0.snd.snd.snd.snd.fst a1.toNat y).bind fun y =>
 bif !y_1.snd.snd.fst then
 some
 (false,
 (a0.fst, a0.snd.fst, a0.snd.snd.fst, a0.snd.snd.snd.fst, y,
 a0.snd.snd.snd.snd.snd),
 PUnit.unit)
 else
 if (0 : Int) ≤ a1 then
 if a1 < (↑y.length : Int) then
 (nth y a1.toNat).bind fun y_2 =>
 (updO y a1.toNat y_1.fst).bind fun y =>
 (Q_s_l15Post big
 (a0.fst, a0.snd.fst, a0.snd.snd.fst, a0.snd.snd.snd.fst, y,
 a0.snd.snd.snd.snd.snd)
 [y_1.snd.fst]).bind
 fun y => some (true, y.snd)
 else none
 else none)
 ((Q_s_TimedOut big y a0.fst).bind fun y_1 =>
 (updO a0.snd.snd.snd.snd.fst a1.toNat y).bind fun y =>
 bif !y_1.snd.snd.fst then
 some
 (false,
 (a0.fst, a0.snd.fst, a0.snd.snd.fst, a0.snd.snd.snd.fst, y,
 a0.snd.snd.snd.snd.snd),
 PUnit.unit)
 else
 if (0 : Int) ≤ a1 then
 if a1 < (↑y.length : Int) then
 (nth y a1.toNat).bind fun y_2 =>
 (updO y a1.toNat y_1.fst).bind fun y =>
 (Q_s_l15Post big
 (a0.fst, a0.snd.fst, a0.snd.snd.fst, a0.snd.snd.snd.fst, y,
 a0.snd.snd.snd.snd.snd)
 [y_1.snd.fst]).bind
 fun y => some (true, y.snd)
 else none
 else none))
 ((nth a0.snd.snd.snd.snd.fst a1.toNat).bind fun y =>
 (Q_s_TimedOut big y a0.fst).bind fun y_1 =>
 (updO a0.snd.snd.snd.snd.fst a1.toNat y).bind fun y =>
 bif !y_1.snd.snd.fst then
 some
 (false,
 (a0.fst, a0.snd.fst, a0.snd.snd.fst, a0.snd.snd.snd.fst, y,
 a0.snd.snd.snd.snd.snd),
 PUnit.unit)
 else
 if (0 : Int) ≤ a1 then
 if a1 < (↑y.length : Int) then
 (nth y a1.toNat).bind fun y_2 =>
 (updO y a1.toNat y_1.fst).bind fun y =>
 (Q_s_l15Post big
 (a0.fst, a0.snd.fst, a0.snd.snd.fst, a0.snd.snd.snd.fst, y,
 a0.snd.snd.snd.snd.snd)
 [y_1.snd.fst]).bind
 fun y => some (true, y.snd)
 else none
 else none))
 (both
 ((nth a0.snd.snd.snd.snd.fst a1.toNat).bind fun y =>
 (Q_s_TimedOut big y a0.fst).bind fun y_1 =>
 (updO a0.snd.snd.snd.snd.fst a1.toNat y).bind fun y =>
 bif !y_1.snd.snd.fst then
 some
 (false,
 (a0.fst, a0.snd.fst, a0.snd.snd.fst, a0.snd.snd.snd.fst, y,
 a0.snd.snd.snd.snd.snd),
 PUnit.unit)
 else
 if (0 : Int) ≤ a1 then
 if a1 < (↑y.length : Int) then
 (nth y a1.toNat).bind fun y_2 =>
 (updO y a1.toNat y_1.fst).bind fun y =>
 (Q_s_l15Post big
 (a0.fst, a0.snd.fst, a0.snd.snd.fst, a0.snd.snd.snd.fst, y,
 a0.snd.snd.snd.snd.snd)
 [y_1.snd.fst]).bind
 fun y => some (true, y.snd)
 else none
 else none)
 ((nth a0.snd.snd.snd.snd.fst a1.toNat).bind fun y =>
 (Q_s_TimedOut big y a0.fst).bind fun y_1 =>
 (updO a0.snd.snd.snd.snd.fst a1.toNat y).bind fun y =>
 bif !y_1.snd.snd.fst then
 some
 (false,
 (a0.fst, a0.snd.fst, a0.snd.snd.fst, a0.snd.snd.snd.fst, y,
 a0.snd.snd.snd.snd.snd),
 PUnit.unit)
 else
 if (0 : Int) ≤ a1 then
 if a1 < (↑y.length : Int) then
 (nth y a1.toNat).bind fun y_2 =>
 (updO y a1.toNat y_1.fst).bind fun y =>
 (Q_s_l15Post big
 (a0.fst, a0.snd.fst, a0.snd.snd.fst, a0.snd.snd.snd.fst, y,
 a0.snd.snd.snd.snd.snd)
 [y_1.snd.fst]).bind
 fun y => some (true, y.snd)
 else none
 else none))))
 (both
 ((nth a0.snd.snd.snd.snd.fst a1.toNat).bind fun y =>
 (Q_s_TimedOut big y a0.fst).bind fun y_1 =>
 (updO a0.snd.snd.snd.snd.fst a1.toNat y).bind fun y =>
 bif !y_1.snd.snd.fst then
 some
 (false,
 (a0.fst, a0.snd.fst, a0.snd.snd.fst, a0.snd.snd.snd.fst, y,
 a0.snd.snd.snd.snd.snd),
 PUnit.unit)
 else
 if (0 : Int) ≤ a1 then
 if a1 < (↑y.length : Int) then
 (nth y a1.toNat).bind fun y_2 =>
 (updO y a1.toNat y_1.fst).bind fun y =>
 (Q_s_l15Post big
 (a0.fst, a0.snd.fst, a0.snd.snd.fst, a0.snd.snd.snd.fst, y,
 a0.snd.snd.snd.snd.snd)
 [y_1.snd.fst]).bind
 fun y => some (true, y.snd)
 else none
 else none)
 (both
 ((nth a0.snd.snd.snd.snd.fst a1.toNat).bind fun y =>
 (Q_s_TimedOut big y a0.fst).bind fun y_1 =>
 (updO a0.snd.snd.snd.snd.fst a1.toNat y).bind fun y =>
 bif !y_1.snd.snd.fst then
 some
 (false,
 (a0.fst, a0.snd.fst, a0.snd.snd.fst, a0.snd.snd.snd.fst, y,
 a0.snd.snd.snd.snd.snd),
 PUnit.unit)
 else
 if (0 : Int) ≤ a1 then
 if a1 < (↑y.length : Int) then
 (nth y a1.toNat).bind fun y_2 =>
 (updO y a1.toNat y_1.fst).bind fun y =>
 (Q_s_l15Post big
 (a0.fst, a0.snd.fst, a0.snd.snd.fst, a0.snd.snd.snd.fst, y,
 a0.snd.snd.snd.snd.snd)
 [y_1.snd.fst]).bind
 fun y => some (true, y.snd)
 else none
 else none)
 ((nth a0.snd.snd.snd.snd.fst a1.toNat).bind fun y =>
 (Q_s_TimedOut big y a0.fst).bind fun y_1 =>
 (updO a0.snd.snd.snd.snd.fst a1.toNat y).bind fun y =>
 bif !y_1.snd.snd.fst then
 some
 (false,
 (a0.fst, a0.snd.fst, a0.snd.snd.fst, a0.snd.snd.snd.fst, y,
 a0.snd.snd.snd.snd.snd),
 PUnit.unit)
 else
 if (0 : Int) ≤ a1 then
 if a1 < (↑y.length : Int) then
 (nth y a1.toNat).bind fun y_2 =>
 (updO y a1.toNat y_1.fst).bind fun y =>
 (Q_s_l15Post big
 (a0.fst, a0.snd.fst, a0.snd.snd.fst, a0.snd.snd.snd.fst, y,
 a0.snd.snd.snd.snd.snd)
 [y_1.snd.fst]).bind
 fun y => some (true, y.snd)
 else none
 else none)))))
 (both
 ((nth a0.snd.snd.snd.snd.fst a1.toNat).bind fun y =>
 both
 ((Q_s_TimedOut big y a0.fst).bind fun y_1 =>
 (updO a0.snd.snd.snd.snd.fst a1.toNat y).bind fun y =>
 bif !y_1.snd.snd.fst then
 some
 (false,
 (a0.fst, a0.snd.fst, a0.snd.snd.fst, a0.snd.snd.snd.fst, y, a0.snd.snd.snd.snd.snd),
 PUnit.unit)
 else
 if (0 : Int) ≤ a1 then
 if a1 < (↑y.length : Int) then
 (nth y a1.toNat).bind fun y_2 =>
 (updO y a1.toNat y_1.fst).bind fun y =>
 (Q_s_l15Post big
 (a0.fst, a0.snd.fst, a0.snd.snd.fst, a0.snd.snd.snd.fst, y,
 a0.snd.snd.snd.snd.snd)
 [y_1.snd.fst]).bind
 fun y => some (true, y.snd)
 else none
 else none)
 ((Q_s_TimedOut big y a0.fst).bind fun y_1 =>
 (updO a0.snd.snd.snd.snd.fst a1.toNat y).bind fun y =>
 bif !y_1.snd.snd.fst then
 some
 (false,
 (a0.fst, a0.snd.fst, a0.snd.snd.fst, a0.snd.snd.snd.fst, y, a0.snd.snd.snd.snd.snd),
 PUnit.unit)
 else
 if (0 : Int) ≤ a1 then
 if a1 < (↑y.length : Int) then
 (nth y a1.toNat).bind fun y_2 =>
 (updO y a1.toNat y_1.fst).bind fun y =>
 (Q_s_l15Post big
 (a0.fst, a0.snd.fst, a0.snd.snd.fst, a0.snd.snd.snd.fst, y,
 a0.snd.snd.snd.snd.snd)
 [y_1.snd.fst]).bind
 fun y => some (true, y.snd)
 else none
 else none))
 (both
 (both
 ((nth a0.snd.snd.snd.snd.fst a1.toNat).bind fun y =>
 both
 ((Q_s_TimedOut big y a0.fst).bind fun y_1 =>
 (updO a0.snd.snd.snd.snd.fst a1.toNat y).bind fun y =>
 bif !y_1.snd.snd.fst then
 some
 (false,
 (a0.fst, a0.snd.fst, a0.snd.snd.fst, a0.snd.snd.snd.fst, y,
 a0.snd.snd.snd.snd.snd),
 PUnit.unit)
 else
 if (0 : Int) ≤ a1 then
 if a1 < (↑y.length : Int) then
 (nth y a1.toNat).bind fun y_2 =>
 (updO y a1.toNat y_1.fst).bind fun y =>
 (Q_s_l15Post big
 (a0.fst, a0.snd.fst, a0.snd.snd.fst, a0.snd.snd.snd.fst, y,
 a0.snd.snd.snd.snd.snd)
 [y_1.snd.fst]).bind
 fun y => some (true, y.snd)
 else none
 else none)
 ((Q_s_TimedOut big y a0.fst).bind fun y_1 =>
 (updO a0.snd.snd.snd.snd.fst a1.toNat y).bind fun y =>
 bif !y_1.snd.snd.fst then
 some
 (false,
 (a0.fst, a0.snd.fst, a0.snd.snd.fst, a0.snd.snd.snd.fst, y,
 a0.snd.snd.snd.snd.snd),
 PUnit.unit)
 else
 if (0 : Int) ≤ a1 then
 if a1 < (↑y.length : Int) then
 (nth y a1.toNat).bind fun y_2 =>
 (updO y a1.toNat y_1.fst).bind fun y =>
 (Q_s_l15Post big
 (a0.fst, a0.snd.fst, a0.snd.snd.fst, a0.snd.snd.snd.fst, y,
 a0.snd.snd.snd.snd.snd)
 [y_1.snd.fst]).bind
 fun y => some (true, y.snd)
 else none
 else none))
 (both
 (both
 ((nth a0.snd.snd.snd.snd.fst a1.toNat).bind fun y =>
 both
 ((Q_s_TimedOut big y a0.fst).bind fun y_1 =>
 (updO a0.snd.snd.snd.snd.fst a1.toNat y).bind fun y =>
 bif !y_1.snd.snd.fst then
 some
 (false,
 (a0.fst, a0.snd.fst, a0.snd.snd.fst, a0.snd.snd.snd.fst, y,
 a0.snd.snd.snd.snd.snd),
 PUnit.unit)
 else
 if (0 : Int) ≤ a1 then
 if a1 < (↑y.length : Int) then
 (nth y a1.toNat).bind fun y_2 =>
 (updO y a1.toNat y_1.fst).bind fun y =>
 (Q_s_l15Post big
 (a0.fst, a0.snd.fst, a0.snd.snd.fst, a0.snd.snd.snd.fst, y,
 a0.snd.snd.snd.snd.snd)
 [y_1.snd.fst]).bind
 fun y => some (true, y.snd)
 else none
 else none)
 ((Q_s_TimedOut big y a0.fst).bind fun y_1 =>
 (updO a0.snd.snd.snd.snd.fst a1.toNat y).bind fun y =>
 bif !y_1.snd.snd.fst then
 some
 (false,
 (a0.fst, a0.snd.fst, a0.snd.snd.fst, a0.snd.snd.snd.fst, y,
 a0.snd.snd.snd.snd.snd),
 PUnit.unit)
 else
 if (0 : Int) ≤ a1 then
 if a1 < (↑y.length : Int) then
 (nth y a1.toNat).bind fun y_2 =>
 (updO y a1.toNat y_1.fst).bind fun y =>
 (Q_s_l15Post big
 (a0.fst, a0.snd.fst, a0.snd.snd.fst, a0.snd.snd.snd.fst, y,
 a0.snd.snd.snd.snd.snd)
 [y_1.snd.fst]).bind
 fun y => some (true, y.snd)
 else none
 else none))
 ((nth a0.snd.snd.snd.snd.fst a1.toNat).bind fun y =>
 (Q_s_TimedOut big y a0.fst).bind fun y_1 =>
 (updO a0.snd.snd.snd.snd.fst a1.toNat y).bind fun y =>
 bif !y_1.snd.snd.fst then
 some
 (false,
 (a0.fst, a0.snd.fst, a0.snd.snd.fst, a0.snd.snd.snd.fst, y,
 a0.snd.snd.snd.snd.snd),
 PUnit.unit)
 else
 if (0 : Int) ≤ a1 then
 if a1 < (↑y.length : Int) then
 (nth y a1.toNat).bind fun y_2 =>
 (updO y a1.toNat y_1.fst).bind fun y =>
 (Q_s_l15Post big
 (a0.fst, a0.snd.fst, a0.snd.snd.fst, a0.snd.snd.snd.fst, y,
 a0.snd.snd.snd.snd.snd)
 [y_1.snd.fst]).bind
 fun y => some (true, y.snd)
 else none
 else none))
 (both
 ((nth a0.snd.snd.snd.snd.fst a1.toNat).bind fun y =>
 (Q_s_TimedOut big y a0.fst).bind fun y_1 =>
 (updO a0.snd.snd.snd.snd.fst a1.toNat y).bind fun y =>
 bif !y_1.snd.snd.fst then
 some
 (false,
 (a0.fst, a0.snd.fst, a0.snd.snd.fst, a0.snd.snd.snd.fst, y,
 a0.snd.snd.snd.snd.snd),
 PUnit.unit)
 else
 if (0 : Int) ≤ a1 then
 if a1 < (↑y.length : Int) then
 (nth y a1.toNat).bind fun y_2 =>
 (updO y a1.toNat y_1.fst).bind fun y =>
 (Q_s_l15Post big
 (a0.fst, a0.snd.fst, a0.snd.snd.fst, a0.snd.snd.snd.fst, y,
 a0.snd.snd.snd.snd.snd)
 [y_1.snd.fst]).bind
 fun y => some (true, y.snd)
 else none
 else none)
 ((nth a0.snd.snd.snd.snd.fst a1.toNat).bind fun y =>
 (Q_s_TimedOut big y a0.fst).bind fun y_1 =>
 (updO a0.snd.snd.snd.snd.fst a1.toNat y).bind fun y =>
 bif !y_1.snd.snd.fst then
 some
 (false,
 (a0.fst, a0.snd.fst, a0.snd.snd.fst, a0.snd.snd.snd.fst, y,
 a0.snd.snd.snd.snd.snd),
 PUnit.unit)
 else
 if (0 : Int) ≤ a1 then
 if a1 < (↑y.length : Int) then
 (nth y a1.toNat).bind fun y_2 =>
 (updO y a1.toNat y_1.fst).bind fun y =>
 (Q_s_l15Post big
 (a0.fst, a0.snd.fst, a0.snd.snd.fst, a0.snd.snd.snd.fst, y,
 a0.snd.snd.snd.snd.snd)
 [y_1.snd.fst]).bind
 fun y => some (true, y.snd)
 else none
 else none))))
 (both
 ((nth a0.snd.snd.snd.snd.fst a1.toNat).bind fun y =>
 (Q_s_TimedOut big y a0.fst).bind fun y_1 =>
 (updO a0.snd.snd.snd.snd.fst a1.toNat y).bind fun y =>
 bif !y_1.snd.snd.fst then
 some
 (false,
 (a0.fst, a0.snd.fst, a0.snd.snd.fst, a0.snd.snd.snd.fst, y,
 a0.snd.snd.snd.snd.snd),
 PUnit.unit)
 else
 if (0 : Int) ≤ a1 then
 if a1 < (↑y.length : Int) then
 (nth y a1.toNat).bind fun y_2 =>
 (updO y a1.toNat y_1.fst).bind fun y =>
 (Q_s_l15Post big
 (a0.fst, a0.snd.fst, a0.snd.snd.fst, a0.snd.snd.snd.fst, y,
 a0.snd.snd.snd.snd.snd)
 [y_1.snd.fst]).bind
 fun y => some (true, y.snd)
 else none
 else none)
 (both
 ((nth a0.snd.snd.snd.snd.fst a1.toNat).bind fun y =>
 (Q_s_TimedOut big y a0.fst).bind fun y_1 =>
 (updO a0.snd.snd.snd.snd.fst a1.toNat y).bind fun y =>
 bif !y_1.snd.snd.fst then
 some
 (false,
 (a0.fst, a0.snd.fst, a0.snd.snd.fst, a0.snd.snd.snd.fst, y,
 a0.snd.snd.snd.snd.snd),
 PUnit.unit)
 else
 if (0 : Int) ≤ a1 then
 if a1 < (↑y.length : Int) then
 (nth y a1.toNat).bind fun y_2 =>
 (updO y a1.toNat y_1.fst).bind fun y =>
 (Q_s_l15Post big
 (a0.fst, a0.snd.fst, a0.snd.snd.fst, a0.snd.snd.snd.fst, y,
 a0.snd.snd.snd.snd.snd)
 [y_1.snd.fst]).bind
 fun y => some (true, y.snd)
 else none
 else none)
 ((nth a0.snd.snd.snd.snd.fst a1.toNat).bind fun y =>
 (Q_s_TimedOut big y a0.fst).bind fun y_1 =>
 (updO a0.snd.snd.snd.snd.fst a1.toNat y).bind fun y =>
 bif !y_1.snd.snd.fst then
 some
 (false,
 (a0.fst, a0.snd.fst, a0.snd.snd.fst, a0.snd.snd.snd.fst, y,
 a0.snd.snd.snd.snd.snd),
 PUnit.unit)
 else
 if (0 : Int) ≤ a1 then
 if a1 < (↑y.length : Int) then
 (nth y a1.toNat).bind fun y_2 =>
 (updO y a1.toNat y_1.fst).bind fun y =>
 (Q_s_l15Post big
 (a0.fst, a0.snd.fst, a0.snd.snd.fst, a0.snd.snd.snd.fst, y,
 a0.snd.snd.snd.snd.snd)
 [y_1.snd.fst]).bind
 fun y => some (true, y.snd)
 else none
 else none))))))))
 (both
 (both
 ((nth a0.snd.snd.snd.snd.fst a1.toNat).bind fun y =>
 both
 ((Q_s_TimedOut big y a0.fst).bind fun y_1 =>
 (updO a0.snd.snd.snd.snd.fst a1.toNat y).bind fun y =>
 bif !y_1.snd.snd.fst then
 some
 (false,
 (a0.fst, a0.snd.fst, a0.snd.snd.fst, a0.snd.snd.snd.fst, y, a0.snd.snd.snd.snd.snd),
 PUnit.unit)
 else
 if (0 : Int) ≤ a1 then
 if a1 < (↑y.length : Int) then
 (nth y a1.toNat).bind fun y_2 =>
 (updO y a1.toNat y_1.fst).bind fun y =>
 (Q_s_l15Post big
 (a0.fst, a0.snd.fst, a0.snd.snd.fst, a0.snd.snd.snd.fst, y,
 a0.snd.snd.snd.snd.snd)
 [y_1.snd.fst]).bind
 fun y => some (true, y.snd)
 else none
 else none)
 ((Q_s_TimedOut big y a0.fst).bind fun y_1 =>
 (updO a0.snd.snd.snd.snd.fst a1.toNat y).bind fun y =>
 bif !y_1.snd.snd.fst then
 some
 (false,
 (a0.fst, a0.snd.fst, a0.snd.snd.fst, a0.snd.snd.snd.fst, y, a0.snd.snd.snd.snd.snd),
 PUnit.unit)
 else
 if (0 : Int) ≤ a1 then
 if a1 < (↑y.length : Int) then
 (nth y a1.toNat).bind fun y_2 =>
 (updO y a1.toNat y_1.fst).bind fun y =>
 (Q_s_l15Post big
 (a0.fst, a0.snd.fst, a0.snd.snd.fst, a0.snd.snd.snd.fst, y,
 a0.snd.snd.snd.snd.snd)
 [y_1.snd.fst]).bind
 fun y => some (true, y.snd)
 else none
 else none))
 (both
 (both
 ((nth a0.snd.snd.snd.snd.fst a1.toNat).bind fun y =>
 both
 ((Q_s_TimedOut big y a0.fst).bind fun y_1 =>
 (updO a0.snd.snd.snd.snd.fst a1.toNat y).bind fun y =>
 bif !y_1.snd.snd.fst then
 some
 (false,
 (a0.fst, a0.snd.fst, a0.snd.snd.fst, a0.snd.snd.snd.fst, y, a0.snd.snd.snd.snd.snd),
 PUnit.unit)
 else
 if (0 : Int) ≤ a1 then
 if a1 < (↑y.length : Int) then
 (nth y a1.toNat).bind fun y_2 =>
 (updO y a1.toNat y_1.fst).bind fun y =>
 (Q_s_l15Post big
 (a0.fst, a0.snd.fst, a0.snd.snd.fst, a0.snd.snd.snd.fst, y,
 a0.snd.snd.snd.snd.snd)
 [y_1.snd.fst]).bind
 fun y => some (true, y.snd)
 else none
 else none)
 ((Q_s_TimedOut big y a0.fst).bind fun y_1 =>
 (updO a0.snd.snd.snd.snd.fst a1.toNat y).bind fun y =>
 bif !y_1.snd.snd.fst then
 some
 (false,
 (a0.fst, a0.snd.fst, a0.snd.snd.fst, a0.snd.snd.snd.fst, y, a0.snd.snd.snd.snd.snd),
 PUnit.unit)
 else
 if (0 : Int) ≤ a1 then
 if a1 < (↑y.length : Int) then
 (nth y a1.toNat).bind fun y_2 =>
 (updO y a1.toNat y_1.fst).bind fun y =>
 (Q_s_l15Post big
 (a0.fst, a0.snd.fst, a0.snd.snd.fst, a0.snd.snd.snd.fst, y,
 a0.snd.snd.snd.snd.snd)
 [y_1.snd.fst]).bind
 fun y => some (true, y.snd)
 else none
 else none))
 (both
 (both
 ((nth a0.snd.snd.snd.snd.fst a1.toNat).bind fun y =>
 both
 ((Q_s_TimedOut big y a0.fst).bind fun y_1 =>
 (updO a0.snd.snd.snd.snd.fst a1.toNat y).bind fun y =>
 bif !y_1.snd.snd.fst then
 some
 (false,
 (a0.fst, a0.snd.fst, a0.snd.snd.fst, a0.snd.snd.snd.fst, y,
 a0.snd.snd.snd.snd.snd),
 PUnit.unit)
 else
 if (0 : Int) ≤ a1 then
 if a1 < (↑y.length : Int) then
 (nth y a1.toNat).bind fun y_2 =>
 (updO y a1.toNat y_1.fst).bind fun y =>
 (Q_s_l15Post big
 (a0.fst, a0.snd.fst, a0.snd.snd.fst, a0.snd.snd.snd.fst, y,
 a0.snd.snd.snd.snd.snd)
 [y_1.snd.fst]).bind
 fun y => some (true, y.snd)
 else none
 else none)
 ((Q_s_TimedOut big y a0.fst).bind fun y_1 =>
 (updO a0.snd.snd.snd.snd.fst a1.toNat y).bind fun y =>
 bif !y_1.snd.snd.fst then
 some
 (false,
 (a0.fst, a0.snd.fst, a0.snd.snd.fst, a0.snd.snd.snd.fst, y,
 a0.snd.snd.snd.snd.snd),
 PUnit.unit)
 else
 if (0 : Int) ≤ a1 then
 if a1 < (↑y.length : Int) then
 (nth y a1.toNat).bind fun y_2 =>
 (updO y a1.toNat y_1.fst).bind fun y =>
 (Q_s_l15Post big
 (a0.fst, a0.snd.fst, a0.snd.snd.fst, a0.snd.snd.snd.fst, y,
 a0.snd.snd.snd.snd.snd)
 [y_1.snd.fst]).bind
 fun y => some (true, y.snd)
 else none
 else none))
 (both
 (both
 ((nth a0.snd.snd.snd.snd.fst a1.toNat).bind fun y =>
 both
 ((Q_s_TimedOut big y a0.fst).bind fun y_1 =>
 (updO a0.snd.snd.snd.snd.fst a1.toNat y).bind fun y =>
 bif !y_1.snd.snd.fst then
 some
 (false,
 (a0.fst, a0.snd.fst, a0.snd.snd.fst, a0.snd.snd.snd.fst, y,
 a0.snd.snd.snd.snd.snd),
 PUnit.unit)
 else
 if (0 : Int) ≤ a1 then
 if a1 < (↑y.length : Int) then
 (nth y a1.toNat).bind fun y_2 =>
 (updO y a1.toNat y_1.fst).bind fun y =>
 (Q_s_l15Post big
 (a0.fst, a0.snd.fst, a0.snd.snd.fst, a0.snd.snd.snd.fst, y,
 a0.snd.snd.snd.snd.snd)
 [y_1.snd.fst]).bind
 fun y => some (true, y.snd)
 else none
 else none)
 ((Q_s_TimedOut big y a0.fst).bind fun y_1 =>
 (updO a0.snd.snd.snd.snd.fst a1.toNat y).bind fun y =>
 bif !y_1.snd.snd.fst then
 some
 (false,
 (a0.fst, a0.snd.fst, a0.snd.snd.fst, a0.snd.snd.snd.fst, y,
 a0.snd.snd.snd.snd.snd),
 PUnit.unit)
 else
 if (0 : Int) ≤ a1 then
 if a1 < (↑y.length : Int) then
 (nth y a1.toNat).bind fun y_2 =>
 (updO y a1.toNat y_1.fst).bind fun y =>
 (Q_s_l15Post big
 (a0.fst, a0.snd.fst, a0.snd.snd.fst, a0.snd.snd.snd.fst, y,
 a0.snd.snd.snd.snd.snd)
 [y_1.snd.fst]).bind
 fun y => some (true, y.snd)
 else none
 else none))
 ((nth a0.snd.snd.snd.snd.fst a1.toNat).bind fun y =>
 (Q_s_TimedOut big y a0.fst).bind fun y_1 =>
 (updO a0.snd.snd.snd.snd.fst a1.toNat y).bind fun y =>
 bif !y_1.snd.snd.fst then
 some
 (false,
 (a0.fst, a0.snd.fst, a0.snd.snd.fst, a0.snd.snd.snd.fst, y,
 a0.snd.snd.snd.snd.snd),
 PUnit.unit)
 else
 if (0 : Int) ≤ a1 then
 if a1 < (↑y.length : Int) then
 (nth y a1.toNat).bind fun y_2 =>
 (updO y a1.toNat y_1.fst).bind fun y =>
 (Q_s_l15Post big
 (a0.fst, a0.snd.fst, a0.snd.snd.fst, a0.snd.snd.snd.fst, y,
 a0.snd.snd.snd.snd.snd)
 [y_1.snd.fst]).bind
 fun y => some (true, y.snd)
 else none
 else none))
 (both
 ((nth a0.snd.snd.snd.snd.fst a1.toNat).bind fun y =>
 (Q_s_TimedOut big y a0.fst).bind fun y_1 =>
 (updO a0.snd.snd.snd.snd.fst a1.toNat y).bind fun y =>
 bif !y_1.snd.snd.fst then
 some
 (false,
 (a0.fst, a0.snd.fst, a0.snd.snd.fst, a0.snd.snd.snd.fst, y,
 a0.snd.snd.snd.snd.snd),
 PUnit.unit)
 else
 if (0 : Int) ≤ a1 then
 if a1 < (↑y.length : Int) then
 (nth y a1.toNat).bind fun y_2 =>
 (updO y a1.toNat y_1.fst).bind fun y =>
 (Q_s_l15Post big
 (a0.fst, a0.snd.fst, a0.snd.snd.fst, a0.snd.snd.snd.fst, y,
 a0.snd.snd.snd.snd.snd)
 [y_1.snd.fst]).bind
 fun y => some (true, y.snd)
 else none
 else none)
 ((nth a0.snd.snd.snd.snd.fst a1.toNat).bind fun y =>
 (Q_s_TimedOut big y a0.fst).bind fun y_1 =>
 (updO a0.snd.snd.snd.snd.fst a1.toNat y).bind fun y =>
 bif !y_1.snd.snd.fst then
 some
 (false,
 (a0.fst, a0.snd.fst, a0.snd.snd.fst, a0.snd.snd.snd.fst, y,
 a0.snd.snd.snd.snd.snd),
 PUnit.unit)
 else
 if (0 : Int) ≤ a1 then
 if a1 < (↑y.length : Int) then
 (nth y a1.toNat).bind fun y_2 =>
 (updO y a1.toNat y_1.fst).bind fun y =>
 (Q_s_l15Post big
 (a0.fst, a0.snd.fst, a0.snd.snd.fst, a0.snd.snd.snd.fst, y,
 a0.snd.snd.snd.snd.snd)
 [y_1.snd.fst]).bind
 fun y => some (true, y.snd)
 else none
 else none))))
 (both
 ((nth a0.snd.snd.snd.snd.fst a1.toNat).bind fun y =>
 (Q_s_TimedOut big y a0.fst).bind fun y_1 =>
 (updO a0.snd.snd.snd.snd.fst a1.toNat y).bind fun y =>
 bif !y_1.snd.snd.fst then
 some
 (false,
 (a0.fst, a0.snd.fst, a0.snd.snd.fst, a0.snd.snd.snd.fst, y,
 a0.snd.snd.snd.snd.snd),
 PUnit.unit)
 else
 if (0 : Int) ≤ a1 then
 if a1 < (↑y.length : Int) then
 (nth y a1.toNat).bind fun y_2 =>
 (updO y a1.toNat y_1.fst).bind fun y =>
 (Q_s_l15Post big
 (a0.fst, a0.snd.fst, a0.snd.snd.fst, a0.snd.snd.snd.fst, y,
 a0.snd.snd.snd.snd.snd)
 [y_1.snd.fst]).bind
 fun y => some (true, y.snd)
 else none
 else none)
 (both
 ((nth a0.snd.snd.snd.snd.fst a1.toNat).bind fun y =>
 (Q_s_TimedOut big y a0.fst).bind fun y_1 =>
 (updO a0.snd.snd.snd.snd.fst a1.toNat y).bind fun y =>
 bif !y_1.snd.snd.fst then
 some
 (false,
 (a0.fst, a0.snd.fst, a0.snd.snd.fst, a0.snd.snd.snd.fst, y,
 a0.snd.snd.snd.snd.snd),
 PUnit.unit)
 else
 if (0 : Int) ≤ a1 then
 if a1 < (↑y.length : Int) then
 (nth y a1.toNat).bind fun y_2 =>
 (updO y a1.toNat y_1.fst).bind fun y =>
 (Q_s_l15Post big
 (a0.fst, a0.snd.fst, a0.snd.snd.fst, a0.snd.snd.snd.fst, y,
 a0.snd.snd.snd.snd.snd)
 [y_1.snd.fst]).bind
 fun y => some (true, y.snd)
 else none
 else none)
 ((nth a0.snd.snd.snd.snd.fst a1.toNat).bind fun y =>
 (Q_s_TimedOut big y a0.fst).bind fun y_1 =>
 (updO a0.snd.snd.snd.snd.fst a1.toNat y).bind fun y =>
 bif !y_1.snd.snd.fst then
 some
 (false,
 (a0.fst, a0.snd.fst, a0.snd.snd.fst, a0.snd.snd.snd.fst, y,
 a0.snd.snd.snd.snd.snd),
 PUnit.unit)
 else
 if (0 : Int) ≤ a1 then
 if a1 < (↑y.length : Int) then
 (nth y a1.toNat).bind fun y_2 =>
 (updO y a1.toNat y_1.fst).bind fun y =>
 (Q_s_l15Post big
 (a0.fst, a0.snd.fst, a0.snd.snd.fst, a0.snd.snd.snd.fst, y,
 a0.snd.snd.snd.snd.snd)
 [y_1.snd.fst]).bind
 fun y => some (true, y.snd)
 else none
 else none)))))
 (both
 ((nth a0.snd.snd.snd.snd.fst a1.toNat).bind fun y =>
 (Q_s_TimedOut big y a0.fst).bind fun y_1 =>
 (updO a0.snd.snd.snd.snd.fst a1.toNat y).bind fun y =>
 bif !y_1.snd.snd.fst then
 some
 (false,
 (a0.fst, a0.snd.fst, a0.snd.snd.fst, a0.snd.snd.snd.fst, y, a0.snd.snd.snd.snd.snd),
 PUnit.unit)
 else
 if (0 : Int) ≤ a1 then
 if a1 < (↑y.length : Int) then
 (nth y a1.toNat).bind fun y_2 =>
 (updO y a1.toNat y_1.fst).bind fun y =>
 (Q_s_l15Post big
 (a0.fst, a0.snd.fst, a0.snd.snd.fst, a0.snd.snd.snd.fst, y,
 a0.snd.snd.snd.snd.snd)
 [y_1.snd.fst]).bind
 fun y => some (true, y.snd)
 else none
 else none)
 (both
 ((nth a0.snd.snd.snd.snd.fst a1.toNat).bind fun y =>
 (Q_s_TimedOut big y a0.fst).bind fun y_1 =>
 (updO a0.snd.snd.snd.snd.fst a1.toNat y).bind fun y =>
 bif !y_1.snd.snd.fst then
 some
 (false,
 (a0.fst, a0.snd.fst, a0.snd.snd.fst, a0.snd.snd.snd.fst, y, a0.snd.snd.snd.snd.snd),
 PUnit.unit)
 else
 if (0 : Int) ≤ a1 then
 if a1 < (↑y.length : Int) then
 (nth y a1.toNat).bind fun y_2 =>
 (updO y a1.toNat y_1.fst).bind fun y =>
 (Q_s_l15Post big
 (a0.fst, a0.snd.fst, a0.snd.snd.fst, a0.snd.snd.snd.fst, y,
 a0.snd.snd.snd.snd.snd)
 [y_1.snd.fst]).bind
 fun y => some (true, y.snd)
 else none
 else none)
 (both
 ((nth a0.snd.snd.snd.snd.fst a1.toNat).bind fun y =>
 (Q_s_TimedOut big y a0.fst).bind fun y_1 =>
 (updO a0.snd.snd.snd.snd.fst a1.toNat y).bind fun y =>
 bif !y_1.snd.snd.fst then
 some
 (false,
 (a0.fst, a0.snd.fst, a0.snd.snd.fst, a0.snd.snd.snd.fst, y,
 a0.snd.snd.snd.snd.snd),
 PUnit.unit)
 else
 if (0 : Int) ≤ a1 then
 if a1 < (↑y.length : Int) then
 (nth y a1.toNat).bind fun y_2 =>
 (updO y a1.toNat y_1.fst).bind fun y =>
 (Q_s_l15Post big
 (a0.fst, a0.snd.fst, a0.snd.snd.fst, a0.snd.snd.snd.fst, y,
 a0.snd.snd.snd.snd.snd)
 [y_1.snd.fst]).bind
 fun y => some (true, y.snd)
 else none
 else none)
 ((nth a0.snd.snd.snd.snd.fst a1.toNat).bind fun y =>
 (Q_s_TimedOut big y a0.fst).bind fun y_1 =>
 (updO a0.snd.snd.snd.snd.fst a1.toNat y).bind fun y =>
 bif !y_1.snd.snd.fst then
 some
 (false,
 (a0.fst, a0.snd.fst, a0.snd.snd.fst, a0.snd.snd.snd.fst, y,
 a0.snd.snd.snd.snd.snd),
 PUnit.unit)
 else
 if (0 : Int) ≤ a1 then
 if a1 < (↑y.length : Int) then
 (nth y a1.toNat).bind fun y_2 =>
 (updO y a1.toNat y_1.fst).bind fun y =>
 (Q_s_l15Post big
 (a0.fst, a0.snd.fst, a0.snd.snd.fst, a0.snd.snd.snd.fst, y,
 a0.snd.snd.snd.snd.snd)
 [y_1.snd.fst]).bind
 fun y => some (true, y.snd)
 else none
 else none))))))
 (both
 ((nth a0.snd.snd.snd.snd.fst a1.toNat).bind fun y =>
 both
 ((Q_s_TimedOut big y a0.fst).bind fun y_1 =>
 (updO a0.snd.snd.snd.snd.fst a1.toNat y).bind fun y =>
 bif !y_1.snd.snd.fst then
 some
 (false,
 (a0.fst, a0.snd.fst, a0.snd.snd.fst, a0.snd.snd.snd.fst, y, a0.snd.snd.snd.snd.snd),
 PUnit.unit)
 else
 if (0 : Int) ≤ a1 then
 if a1 < (↑y.length : Int) then
 (nth y a1.toNat).bind fun y_2 =>
 (updO y a1.toNat y_1.fst).bind fun y =>
 (Q_s_l15Post big
 (a0.fst, a0.snd.fst, a0.snd.snd.fst, a0.snd.snd.snd.fst, y,
 a0.snd.snd.snd.snd.snd)
 [y_1.snd.fst]).bind
 fun y => some (true, y.snd)
 else none
 else none)
 ((Q_s_TimedOut big y a0.fst).bind fun y_1 =>
 (updO a0.snd.snd.snd.snd.fst a1.toNat y).bind fun y =>
 bif !y_1.snd.snd.fst then
 some
 (false,
 (a0.fst, a0.snd.fst, a0.snd.snd.fst, a0.snd.snd.snd.fst, y, a0.snd.snd.snd.snd.snd),
 PUnit.unit)
 else
 if (0 : Int) ≤ a1 then
 if a1 < (↑y.length : Int) then
 (nth y a1.toNat).bind fun y_2 =>
 (updO y a1.toNat y_1.fst).bind fun y =>
 (Q_s_l15Post big
 (a0.fst, a0.snd.fst, a0.snd.snd.fst, a0.snd.snd.snd.fst, y,
 a0.snd.snd.snd.snd.snd)
 [y_1.snd.fst]).bind
 fun y => some (true, y.snd)
 else none
 else none))
 (both
 (both
 ((nth a0.snd.snd.snd.snd.fst a1.toNat).bind fun y =>
 both
 ((Q_s_TimedOut big y a0.fst).bind fun y_1 =>
 (updO a0.snd.snd.snd.snd.fst a1.toNat y).bind fun y =>
 bif !y_1.snd.snd.fst then
 some
 (false,
 (a0.fst, a0.snd.fst, a0.snd.snd.fst, a0.snd.snd.snd.fst, y, a0.snd.snd.snd.snd.snd),
 PUnit.unit)
 else
 if (0 : Int) ≤ a1 then
 if a1 < (↑y.length : Int) then
 (nth y a1.toNat).bind fun y_2 =>
 (updO y a1.toNat y_1.fst).bind fun y =>
 (Q_s_l15Post big
 (a0.fst, a0.snd.fst, a0.snd.snd.fst, a0.snd.snd.snd.fst, y,
 a0.snd.snd.snd.snd.snd)
 [y_1.snd.fst]).bind
 fun y => some (true, y.snd)
 else none
 else none)
 ((Q_s_TimedOut big y a0.fst).bind fun y_1 =>
 (updO a0.snd.snd.snd.snd.fst a1.toNat y).bind fun y =>
 bif !y_1.snd.snd.fst then
 some
 (false,
 (a0.fst, a0.snd.fst, a0.snd.snd.fst, a0.snd.snd.snd.fst, y, a0.snd.snd.snd.snd.snd),
 PUnit.unit)
 else
 if (0 : Int) ≤ a1 then
 if a1 < (↑y.length : Int) then
 (nth y a1.toNat).bind fun y_2 =>
 (updO y a1.toNat y_1.fst).bind fun y =>
 (Q_s_l15Post big
 (a0.fst, a0.snd.fst, a0.snd.snd.fst, a0.snd.snd.snd.fst, y,
 a0.snd.snd.snd.snd.snd)
 [y_1.snd.fst]).bind
 fun y => some (true, y.snd)
 else none
 else none))
 (both
 (both
 ((nth a0.snd.snd.snd.snd.fst a1.toNat).bind fun y =>
 both
 ((Q_s_TimedOut big y a0.fst).bind fun y_1 =>
 (updO a0.snd.snd.snd.snd.fst a1.toNat y).bind fun y =>
 bif !y_1.snd.snd.fst then
 some
 (false,
 (a0.fst, a0.snd.fst, a0.snd.snd.fst, a0.snd.snd.snd.fst, y,
 a0.snd.snd.snd.snd.snd),
 PUnit.unit)
 else
 if (0 : Int) ≤ a1 then
 if a1 < (↑y.length : Int) then
 (nth y a1.toNat).bind fun y_2 =>
 (updO y a1.toNat y_1.fst).bind fun y =>
 (Q_s_l15Post big
 (a0.fst, a0.snd.fst, a0.snd.snd.fst, a0.snd.snd.snd.fst, y,
 a0.snd.snd.snd.snd.snd)
 [y_1.snd.fst]).bind
 fun y => some (true, y.snd)
 else none
 else none)
 ((Q_s_TimedOut big y a0.fst).bind fun y_1 =>
 (updO a0.snd.snd.snd.snd.fst a1.toNat y).bind fun y =>
 bif !y_1.snd.snd.fst then
 some
 (false,
 (a0.fst, a0.snd.fst, a0.snd.snd.fst, a0.snd.snd.snd.fst, y,
 a0.snd.snd.snd.snd.snd),
 PUnit.unit)
 else
 if (0 : Int) ≤ a1 then
 if a1 < (↑y.length : Int) then
 (nth y a1.toNat).bind fun y_2 =>
 (updO y a1.toNat y_1.fst).bind fun y =>
 (Q_s_l15Post big
 (a0.fst, a0.snd.fst, a0.snd.snd.fst, a0.snd.snd.snd.fst, y,
 a0.snd.snd.snd.snd.snd)
 [y_1.snd.fst]).bind
 fun y => some (true, y.snd)
 else none
 else none))
 (both
 (both
 ((nth a0.snd.snd.snd.snd.fst a1.toNat).bind fun y =>
 both
 ((Q_s_TimedOut big y a0.fst).bind fun y_1 =>
 (updO a0.snd.snd.snd.snd.fst a1.toNat y).bind fun y =>
 bif !y_1.snd.snd.fst then
 some
 (false,
 (a0.fst, a0.snd.fst, a0.snd.snd.fst, a0.snd.snd.snd.fst, y,
 a0.snd.snd.snd.snd.snd),
 PUnit.unit)
 else
 if (0 : Int) ≤ a1 then
 if a1 < (↑y.length : Int) then
 (nth y a1.toNat).bind fun y_2 =>
 (updO y a1.toNat y_1.fst).bind fun y =>
 (Q_s_l15Post big
 (a0.fst, a0.snd.fst, a0.snd.snd.fst, a0.snd.snd.snd.fst, y,
 a0.snd.snd.snd.snd.snd)
 [y_1.snd.fst]).bind
 fun y => some (true, y.snd)
 else none
 else none)
 ((Q_s_TimedOut big y a0.fst).bind fun y_1 =>
 (updO a0.snd.snd.snd.snd.fst a1.toNat y).bind fun y =>
 bif !y_1.snd.snd.fst then
 some
 (false,
 (a0.fst, a0.snd.fst, a0.snd.snd.fst, a0.snd.snd.snd.fst, y,
 a0.snd.snd.snd.snd.snd),
 PUnit.unit)
 else
 if (0 : Int) ≤ a1 then
 if a1 < (↑y.length : Int) then
 (nth y a1.toNat).bind fun y_2 =>
 (updO y a1.toNat y_1.fst).bind fun y =>
 (Q_s_l15Post big
 (a0.fst, a0.snd.fst, a0.snd.snd.fst, a0.snd.snd.snd.fst, y,
 a0.snd.snd.snd.snd.snd)
 [y_1.snd.fst]).bind
 fun y => some (true, y.snd)
 else none
 else none))
 ((nth a0.snd.snd.snd.snd.fst a1.toNat).bind fun y =>
 (Q_s_TimedOut big y a0.fst).bind fun y_1 =>
 (updO a0.snd.snd.snd.snd.fst a1.toNat y).bind fun y =>
 bif !y_1.snd.snd.fst then
 some
 (false,
 (a0.fst, a0.snd.fst, a0.snd.snd.fst, a0.snd.snd.snd.fst, y,
 a0.snd.snd.snd.snd.snd),
 PUnit.unit)
 else
 if (0 : Int) ≤ a1 then
 if a1 < (↑y.length : Int) then
 (nth y a1.toNat).bind fun y_2 =>
 (updO y a1.toNat y_1.fst).bind fun y =>
 (Q_s_l15Post big
 (a0.fst, a0.snd.fst, a0.snd.snd.fst, a0.snd.snd.snd.fst, y,
 a0.snd.snd.snd.snd.snd)
 [y_1.snd.fst]).bind
 fun y => some (true, y.snd)
 else none
 else none))
 (both
 ((nth a0.snd.snd.snd.snd.fst a1.toNat).bind fun y =>
 (Q_s_TimedOut big y a0.fst).bind fun y_1 =>
 (updO a0.snd.snd.snd.snd.fst a1.toNat y).bind fun y =>
 bif !y_1.snd.snd.fst then
 some
 (false,
 (a0.fst, a0.snd.fst, a0.snd.snd.fst, a0.snd.snd.snd.fst, y,
 a0.snd.snd.snd.snd.snd),
 PUnit.unit)
 else
 if (0 : Int) ≤ a1 then
 if a1 < (↑y.length : Int) then
 (nth y a1.toNat).bind fun y_2 =>
 (updO y a1.toNat y_1.fst).bind fun y =>
 (Q_s_l15Post big
 (a0.fst, a0.snd.fst, a0.snd.snd.fst, a0.snd.snd.snd.fst, y,
 a0.snd.snd.snd.snd.snd)
 [y_1.snd.fst]).bind
 fun y => some (true, y.snd)
 else none
 else none)
 ((nth a0.snd.snd.snd.snd.fst a1.toNat).bind fun y =>
 (Q_s_TimedOut big y a0.fst).bind fun y_1 =>
 (updO a0.snd.snd.snd.snd.fst a1.toNat y).bind fun y =>
 bif !y_1.snd.snd.fst then
 some
 (false,
 (a0.fst, a0.snd.fst, a0.snd.snd.fst, a0.snd.snd.snd.fst, y,
 a0.snd.snd.snd.snd.snd),
 PUnit.unit)
 else
 if (0 : Int) ≤ a1 then
 if a1 < (↑y.length : Int) then
 (nth y a1.toNat).bind fun y_2 =>
 (updO y a1.toNat y_1.fst).bind fun y =>
 (Q_s_l15Post big
 (a0.fst, a0.snd.fst, a0.snd.snd.fst, a0.snd.snd.snd.fst, y,
 a0.snd.snd.snd.snd.snd)
 [y_1.snd.fst]).bind
 fun y => some (true, y.snd)
 else none
 else none))))
 (both
 ((nth a0.snd.snd.snd.snd.fst a1.toNat).bind fun y =>
 (Q_s_TimedOut big y a0.fst).bind fun y_1 =>
 (updO a0.snd.snd.snd.snd.fst a1.toNat y).bind fun y =>
 bif !y_1.snd.snd.fst then
 some
 (false,
 (a0.fst, a0.snd.fst, a0.snd.snd.fst, a0.snd.snd.snd.fst, y,
 a0.snd.snd.snd.snd.snd),
 PUnit.unit)
 else
 if (0 : Int) ≤ a1 then
 if a1 < (↑y.length : Int) then
 (nth y a1.toNat).bind fun y_2 =>
 (updO y a1.toNat y_1.fst).bind fun y =>
 (Q_s_l15Post big
 (a0.fst, a0.snd.fst, a0.snd.snd.fst, a0.snd.snd.snd.fst, y,
 a0.snd.snd.snd.snd.snd)
 [y_1.snd.fst]).bind
 fun y => some (true, y.snd)
 else none
 else none)
 (both
 ((nth a0.snd.snd.snd.snd.fst a1.toNat).bind fun y =>
 (Q_s_TimedOut big y a0.fst).bind fun y_1 =>
 (updO a0.snd.snd.snd.snd.fst a1.toNat y).bind fun y =>
 bif !y_1.snd.snd.fst then
 some
 (false,
 (a0.fst, a0.snd.fst, a0.snd.snd.fst, a0.snd.snd.snd.fst, y,
 a0.snd.snd.snd.snd.snd),
 PUnit.unit)
 else
 if (0 : Int) ≤ a1 then
 if a1 < (↑y.length : Int) then
 (nth y a1.toNat).bind fun y_2 =>
 (updO y a1.toNat y_1.fst).bind fun y =>
 (Q_s_l15Post big
 (a0.fst, a0.snd.fst, a0.snd.snd.fst, a0.snd.snd.snd.fst, y,
 a0.snd.snd.snd.snd.snd)
 [y_1.snd.fst]).bind
 fun y => some (true, y.snd)
 else none
 else none)
 ((nth a0.snd.snd.snd.snd.fst a1.toNat).bind fun y =>
 (Q_s_TimedOut big y a0.fst).bind fun y_1 =>
 (updO a0.snd.snd.snd.snd.fst a1.toNat y).bind fun y =>
 bif !y_1.snd.snd.fst then
 some
 (false,
 (a0.fst, a0.snd.fst, a0.snd.snd.fst, a0.snd.snd.snd.fst, y,
 a0.snd.snd.snd.snd.snd),
 PUnit.unit)
 else
 if (0 : Int) ≤ a1 then
 if a1 < (↑y.length : Int) then
 (nth y a1.toNat).bind fun y_2 =>
 (updO y a1.toNat y_1.fst).bind fun y =>
 (Q_s_l15Post big
 (a0.fst, a0.snd.fst, a0.snd.snd.fst, a0.snd.snd.snd.fst, y,
 a0.snd.snd.snd.snd.snd)
 [y_1.snd.fst]).bind
 fun y => some (true, y.snd)
 else none
 else none)))))
 (both
 ((nth a0.snd.snd.snd.snd.fst a1.toNat).bind fun y =>
 (Q_s_TimedOut big y a0.fst).bind fun y_1 =>
 (updO a0.snd.snd.snd.snd.fst a1.toNat y).bind fun y =>
 bif !y_1.snd.snd.fst then
 some
 (false,
 (a0.fst, a0.snd.fst, a0.snd.snd.fst, a0.snd.snd.snd.fst, y, a0.snd.snd.snd.snd.snd),
 PUnit.unit)
 else
 if (0 : Int) ≤ a1 then
 if a1 < (↑y.length : Int) then
 (nth y a1.toNat).bind fun y_2 =>
 (updO y a1.toNat y_1.fst).bind fun y =>
 (Q_s_l15Post big
 (a0.fst, a0.snd.fst, a0.snd.snd.fst, a0.snd.snd.snd.fst, y,
 a0.snd.snd.snd.snd.snd)
 [y_1.snd.fst]).bind
 fun y => some (true, y.snd)
 else none
 else none)
 (both
 ((nth a0.snd.snd.snd.snd.fst a1.toNat).bind fun y =>
 (Q_s_TimedOut big y a0.fst).bind fun y_1 =>
 (updO a0.snd.snd.snd.snd.fst a1.toNat y).bind fun y =>
 bif !y_1.snd.snd.fst then
 some
 (false,
 (a0.fst, a0.snd.fst, a0.snd.snd.fst, a0.snd.snd.snd.fst, y, a0.snd.snd.snd.snd.snd),
 PUnit.unit)
 else
 if (0 : Int) ≤ a1 then
 if a1 < (↑y.length : Int) then
 (nth y a1.toNat).bind fun y_2 =>
 (updO y a1.toNat y_1.fst).bind fun y =>
 (Q_s_l15Post big
 (a0.fst, a0.snd.fst, a0.snd.snd.fst, a0.snd.snd.snd.fst, y,
 a0.snd.snd.snd.snd.snd)
 [y_1.snd.fst]).bind
 fun y => some (true, y.snd)
 else none
 else none)
 (both
 ((nth a0.snd.snd.snd.snd.fst a1.toNat).bind fun y =>
 (Q_s_TimedOut big y a0.fst).bind fun y_1 =>
 (updO a0.snd.snd.snd.snd.fst a1.toNat y).bind fun y =>
 bif !y_1.snd.snd.fst then
 some
 (false,
 (a0.fst, a0.snd.fst, a0.snd.snd.fst, a0.snd.snd.snd.fst, y,
 a0.snd.snd.snd.snd.snd),
 PUnit.unit)
 else
 if (0 : Int) ≤ a1 then
 if a1 < (↑y.length : Int) then
 (nth y a1.toNat).bind fun y_2 =>
 (updO y a1.toNat y_1.fst).bind fun y =>
 (Q_s_l15Post big
 (a0.fst, a0.snd.fst, a0.snd.snd.fst, a0.snd.snd.snd.fst, y,
 a0.snd.snd.snd.snd.snd)
 [y_1.snd.fst]).bind
 fun y => some (true, y.snd)
 else none
 else none)
 ((nth a0.snd.snd.snd.snd.fst a1.toNat).bind fun y =>
 (Q_s_TimedOut big y a0.fst).bind fun y_1 =>
 (updO a0.snd.snd.snd.snd.fst a1.toNat y).bind fun y =>
 bif !y_1.snd.snd.fst then
 some
 (false,
 (a0.fst, a0.snd.fst, a0.snd.snd.fst, a0.snd.snd.snd.fst, y,
 a0.snd.snd.snd.snd.snd),
 PUnit.unit)
 else
 if (0 : Int) ≤ a1 then
 if a1 < (↑y.length : Int) then
 (nth y a1.toNat).bind fun y_2 =>
 (updO y a1.toNat y_1.fst).bind fun y =>
 (Q_s_l15Post big
 (a0.fst, a0.snd.fst, a0.snd.snd.fst, a0.snd.snd.snd.fst, y,
 a0.snd.snd.snd.snd.snd)
 [y_1.snd.fst]).bind
 fun y => some (true, y.snd)
 else none
 else none))))))))
 else none
 else none := by kernel_rfl

end Go.Sx.Try

set_option maxRecDepth 100000
namespace Go.Sx.Try
open Go Go.Sx Go.Proofs

noncomputable def l_s_WaitOut : List (Nat × Con) := [(112, c_s_l15Copy), (125, c_s_l15Wait)]
theorem l_s_WaitOut_ok : ∀ q ∈ l_s_WaitOut, ConOk Try.prog q.1 q.2 := Try.cons_cons c_s_l15Copy_ok (Try.cons_cons c_s_l15Wait_ok (Try.cons_nil))
def kp_s_WaitOut : KP := []
noncomputable def q_s_WaitOut (n : Nat) (x : Args [tICluster, tInt]) := evX (false, false, [2, 6]) l_s_WaitOut kp_s_WaitOut [some uICluster, none] Try.f52 (shT [(true, uICluster), (false, tBool)]) n (encA [tICluster, tInt] x)
noncomputable def c_s_WaitOut : Con := roS [tICluster, tInt] true (shT [(true, uICluster), (false, tBool)]) (q_s_WaitOut big)
theorem c_s_WaitOut_ok : ConOk Try.prog 52 c_s_WaitOut := roS_ok ⟨Try.f52, by kernel_rfl, rfl, by decide⟩ fun _ _ h => evX_ok l_s_WaitOut_ok (f := Try.f52) (by kernel_rfl) rfl (by kernel_rfl) (by kernel_rfl) big h
noncomputable def Q_s_WaitOut (n : Nat) (a0 : DICluster) (a1 : Int) : Option (DICluster × Bool × Unit) := q_s_WaitOut n (a0, a1, ())
theorem Q_s_WaitOut_eq (n : Nat) (a0 : DICluster) (a1 : Int) : Q_s_WaitOut n a0 a1 =
    (Q_s_l15Copy big a0).bind fun y => (Q_s_l15Wait big y a1).bind fun y => some (y.snd.fst, y.fst, PUnit.unit) := by kernel_rfl

end Go.Sx.Try

set_option maxRecDepth 100000
namespace Go.Sx.Try
open Go Go.Sx Go.Proofs

noncomputable def l_l_FnExactWaitOut : List (Nat × Con) := [(31, c_l_szCluster), (33, c_l_toCluster), (52, c_s_WaitOut), (53, c_i_WaitOut), (35, c_l_eqCluster), (40, c_l_markCluster), (41, c_l_heldCluster)]
theorem l_l_FnExactWaitOut_ok : ∀ q ∈ l_l_FnExactWaitOut, ConOk Try.prog q.1 q.2 := Try.cons_cons c_l_szCluster_ok (Try.cons_cons c_l_toCluster_ok (Try.cons_cons c_s_WaitOut_ok (Try.cons_cons c_i_WaitOut_ok (Try.cons_cons c_l_eqCluster_ok (Try.cons_cons c_l_markCluster_ok (Try.cons_cons c_l_heldCluster_ok (Try.cons_nil)))))))
def kp_l_FnExactWaitOut : KP := []
noncomputable def q_l_FnExactWaitOut (n : Nat) (x : Args [tLCluster, tInt]) := evX (false, false, [2, 6, 8, 9, 14]) l_l_FnExactWaitOut kp_l_FnExactWaitOut [none] Try.f12 (shV tBool) n (encA [tLCluster, tInt] x)
noncomputable def c_l_FnExactWaitOut : Con := roS [tLCluster, tInt] true (shV tBool) (q_l_FnExactWaitOut big)
theorem c_l_FnExactWaitOut_ok : ConOk Try.prog 12 c_l_FnExactWaitOut := roS_ok ⟨Try.f12, by kernel_rfl, rfl, by decide⟩ fun _ _ h => evX_ok l_l_FnExactWaitOut_ok (f := Try.f12) (by kernel_rfl) rfl (by kernel_rfl) (by kernel_rfl) big h
noncomputable def Q_l_FnExactWaitOut (n : Nat) (a0 : DLCluster) (a1 : Int) : Option Bool := q_l_FnExactWaitOut n (a0, a1, ())
theorem Q_l_FnExactWaitOut_eq (n : Nat) (a0 : DLCluster) (a1 : Int) : Q_l_FnExactWaitOut n a0 a1 =
    (Q_l_szCluster big a0 (1048576 : Int)).bind fun y =>
 bif decide (y < (0 : Int)) then some true
 else
 (Q_l_toCluster big a0).bind fun y =>
 (Q_s_WaitOut big y a1).bind fun y =>
 (Q_l_toCluster big a0).bind fun y_1 =>
 (Q_i_WaitOut big y_1 a1).bind fun y_2 =>
 (Q_l_eqCluster big y_2.fst y.fst).bind fun y_3 =>
 bif !y_3 then some false
 else
 bif !y_2.snd.fst == y.snd.fst then some false
 else
 (Q_l_toCluster big a0).bind fun y_4 =>
 (Q_l_eqCluster big y_1 y_4).bind fun y_5 =>
 bif !y_5 then some false
 else
 (Q_l_markCluster big y_1 (1 : Int)).bind fun y_6 =>
 bif decide (y_6.fst < (0 : Int)) then some false
 else
 (Q_l_eqCluster big y_2.fst y.fst).bind fun y_7 =>
 bif !y_7 then some false
 else
 bif !y_2.snd.fst == y.snd.fst then some false
 else
 (Q_l_markCluster big y_2.fst (1 : Int)).bind fun y_8 =>
 (Q_l_heldCluster big
 (y_2.fst.fst, y_2.fst.snd.fst, y_2.fst.snd.snd.fst, y_8.snd.fst.snd.snd.snd)
 (1 : Int)).bind
 fun y_9 =>
 bif decide (y_9 < (0 : Int)) then some false
 else
 bif !decide (y_9 = y_8.fst) then some false
 else
 (Q_l_toCluster big a0).bind fun y_10 =>
 (Q_i_WaitOut big y_10 a1).bind fun y_11 =>
 (Q_l_eqCluster big y_11.fst y.fst).bind fun y_12 =>
 bif !y_12 then some false
 else
 bif !y_11.snd.fst == y.snd.fst then some false
 else
 (Q_l_heldCluster big
 (y_2.fst.fst, y_2.fst.snd.fst, y_2.fst.snd.snd.fst,
 y_8.snd.fst.snd.snd.snd)
 (1 : Int)).bind
 fun y =>
 bif decide (y < (0 : Int)) then some false
 else
 bif !decide (y = y_8.fst) then some false
 else some true := by kernel_rfl

end Go.Sx.Try
