/- The functions of the seat: what each comes to. -/
import Derived.Test.YtbamlihfaobfeaaTypes
import Derived.Test.YtbamlihfaobfeaaOfferF1
set_option linter.unusedVariables false
set_option linter.unusedSimpArgs false
set_option maxRecDepth 100000
namespace Go.Sx.Try
open Go Go.Sx Go.Proofs

noncomputable def l_s_Offer : List (Nat × Con) := [(112, c_s_l15Copy), (113, c_s_CmdOk)]
theorem l_s_Offer_ok : ∀ q ∈ l_s_Offer, ConOk Try.prog q.1 q.2 := Try.cons_cons c_s_l15Copy_ok (Try.cons_cons c_s_CmdOk_ok (Try.cons_nil))
def kp_s_Offer : KP := []
noncomputable def q_s_Offer (n : Nat) (x : Args [tICluster, tICmd]) := evX (false, false, [2, 3, 6, 13, 19]) l_s_Offer kp_s_Offer [some uICluster, none] Try.f37 (shT [(true, uICluster), (false, tBool)]) n (encA [tICluster, tICmd] x)
noncomputable def c_s_Offer : Con := roS [tICluster, tICmd] true (shT [(true, uICluster), (false, tBool)]) (q_s_Offer big)
theorem c_s_Offer_ok : ConOk Try.prog 37 c_s_Offer := roS_ok ⟨Try.f37, by kernel_rfl, rfl, by decide⟩ fun _ _ h => evX_ok l_s_Offer_ok (f := Try.f37) (by kernel_rfl) rfl (by kernel_rfl) (by kernel_rfl) big h
noncomputable def Q_s_Offer (n : Nat) (a0 : DICluster) (a1 : DICmd) : Option (DICluster × Bool × Unit) := q_s_Offer n (a0, a1, ())
theorem Q_s_Offer_eq (n : Nat) (a0 : DICluster) (a1 : DICmd) : Q_s_Offer n a0 a1 =
    (Q_s_l15Copy big a0).bind fun y =>
 (Q_s_CmdOk big a1).bind fun y_1 =>
 bif !y_1 then some (y, false, PUnit.unit)
 else
 bif decide ((8 : Int) ≤ (↑(List.length a0.snd.snd.snd.snd.snd.snd.snd.fst) : Int)) then
 some (y, false, PUnit.unit)
 else
 if List.length y.snd.snd.snd.snd.snd.snd.snd.fst + [a1].length ≤ lim then
 some
 ((y.fst, y.snd.fst, y.snd.snd.fst, y.snd.snd.snd.fst, y.snd.snd.snd.snd.fst, y.snd.snd.snd.snd.snd.fst,
 y.snd.snd.snd.snd.snd.snd.fst, List.append y.snd.snd.snd.snd.snd.snd.snd.fst [a1], PUnit.unit),
 true, PUnit.unit)
 else none := by kernel_rfl

end Go.Sx.Try

set_option maxRecDepth 100000
namespace Go.Sx.Try
open Go Go.Sx Go.Proofs

noncomputable def l_l_FnExactOffer : List (Nat × Con) := [(31, c_l_szCluster), (36, c_l_szCmd), (33, c_l_toCluster), (38, c_l_toCmd), (37, c_s_Offer), (39, c_i_Offer), (35, c_l_eqCluster), (40, c_l_markCluster), (41, c_l_heldCluster)]
theorem l_l_FnExactOffer_ok : ∀ q ∈ l_l_FnExactOffer, ConOk Try.prog q.1 q.2 := Try.cons_cons c_l_szCluster_ok (Try.cons_cons c_l_szCmd_ok (Try.cons_cons c_l_toCluster_ok (Try.cons_cons c_l_toCmd_ok (Try.cons_cons c_s_Offer_ok (Try.cons_cons c_i_Offer_ok (Try.cons_cons c_l_eqCluster_ok (Try.cons_cons c_l_markCluster_ok (Try.cons_cons c_l_heldCluster_ok (Try.cons_nil)))))))))
def kp_l_FnExactOffer : KP := []
noncomputable def q_l_FnExactOffer (n : Nat) (x : Args [tLCluster, tLCmd]) := evX (false, false, [2, 3, 6, 8, 9, 14]) l_l_FnExactOffer kp_l_FnExactOffer [none] Try.f8 (shV tBool) n (encA [tLCluster, tLCmd] x)
noncomputable def c_l_FnExactOffer : Con := roS [tLCluster, tLCmd] true (shV tBool) (q_l_FnExactOffer big)
theorem c_l_FnExactOffer_ok : ConOk Try.prog 8 c_l_FnExactOffer := roS_ok ⟨Try.f8, by kernel_rfl, rfl, by decide⟩ fun _ _ h => evX_ok l_l_FnExactOffer_ok (f := Try.f8) (by kernel_rfl) rfl (by kernel_rfl) (by kernel_rfl) big h
noncomputable def Q_l_FnExactOffer (n : Nat) (a0 : DLCluster) (a1 : DLCmd) : Option Bool := q_l_FnExactOffer n (a0, a1, ())
theorem Q_l_FnExactOffer_eq (n : Nat) (a0 : DLCluster) (a1 : DLCmd) : Q_l_FnExactOffer n a0 a1 =
    (Q_l_szCluster big a0 (1048576 : Int)).bind fun y =>
 bif decide (y < (0 : Int)) then some true
 else
 (Q_l_szCmd big a1 y).bind fun y =>
 bif decide (y < (0 : Int)) then some true
 else
 both
 ((Q_l_toCluster big a0).bind fun y =>
 both
 (both
 ((Q_s_Offer big y a1).bind fun y =>
 (Q_l_toCluster big a0).bind fun y_1 =>
 both
 (both
 ((Q_i_Offer big y_1 a1).bind fun y_2 =>
 (Q_l_eqCluster big y_2.fst y.fst).bind fun y_3 =>
 bif !y_3 then some false
 else
 bif !y_2.snd.fst == y.snd.fst then some false
 else
 (Q_l_toCluster big a0).bind fun y_4 =>
 (Q_l_eqCluster big y_1 y_4).bind fun y_5 =>
 bif !y_5 then some false
 else
 (Q_l_markCluster big y_1 (1 : Int)).bind fun y_6 =>
 bif decide (y_6.fst < (0 : Int)) then some false
 else
 (Q_l_eqCluster big y_2.fst y.fst).bind fun y_7 =>
 bif !y_7 then some false
 else
 bif !y_2.snd.fst == y.snd.fst then some false
 else
 (Q_l_markCluster big y_2.fst (1 : Int)).bind fun y_8 =>
 (Q_l_heldCluster big
 (y_2.fst.fst, y_2.fst.snd.fst, y_2.fst.snd.snd.fst,
 y_8.snd.fst.snd.snd.snd)
 (1 : Int)).bind
 fun y_9 =>
 bif decide (y_9 < (0 : Int)) then some false
 else
 bif !decide (y_9 = y_8.fst) then some false
 else
 both
 ((Q_l_toCluster big a0).bind fun y_10 =>
 both
 (both
 ((Q_i_Offer big y_10 a1).bind fun y_11 =>
 (Q_l_eqCluster big y_11.fst y.fst).bind fun y_12 =>
 bif !y_12 then some false
 else
 bif !y_11.snd.fst == y.snd.fst then some false
 else
 (Q_l_heldCluster big
 (y_2.fst.fst, y_2.fst.snd.fst,
 y_2.fst.snd.snd.fst,
 y_8.snd.fst.snd.snd.snd)
 (1 : Int)).bind
 fun y =>
 bif decide (y < (0 : Int)) then some false
 else
 bif !decide (y = y_8.fst) then some false
 else some true)
 ((Q_i_Offer big y_10 a1).bind fun y_11 =>
 (Q_l_eqCluster big y_11.fst y.fst).bind fun y_12 =>
 bif !y_12 then some false
 else
 bif !y_11.snd.fst == y.snd.fst then some false
 else
 (Q_l_heldCluster big
 (y_2.fst.fst, y_2.fst.snd.fst,
 y_2.fst.snd.snd.fst,
 y_8.snd.fst.snd.snd.snd)
 (1 : Int)).bind
 fun y =>
 bif decide (y < (0 : Int)) then some false
 else
 bif !decide (y = y_8.fst) then some false
 else some true))
 ((Q_i_Offer big y_10 a1).bind fun y_11 =>
 (Q_l_eqCluster big y_11.fst y.fst).bind fun y_12 =>
 bif !y_12 then some false
 else
 bif !y_11.snd.fst == y.snd.fst then some false
 else
 (Q_l_heldCluster big
 (y_2.fst.fst, y_2.fst.snd.fst,
 y_2.fst.snd.snd.fst,
 y_8.snd.fst.snd.snd.snd)
 (1 : Int)).bind
 fun y =>
 bif decide (y < (0 : Int)) then some false
 else
 bif !decide (y = y_8.fst) then some false
 else some true))
 ((Q_l_toCluster big a0).bind fun y_10 =>
 (Q_i_Offer big y_10 a1).bind fun y_11 =>
 (Q_l_eqCluster big y_11.fst y.fst).bind fun y_12 =>
 bif !y_12 then some false
 else
 bif !y_11.snd.fst == y.snd.fst then some false
 else
 (Q_l_heldCluster big
 (y_2.fst.fst, y_2.fst.snd.fst,
 y_2.fst.snd.snd.fst,
 y_8.snd.fst.snd.snd.snd)
 (1 : Int)).bind
 fun y =>
 bif decide (y < (0 : Int)) then some false
 else
 bif !decide (y = y_8.fst) then some false
 else some true))
 ((Q_i_Offer big y_1 a1).bind fun y_2 =>
 (Q_l_eqCluster big y_2.fst y.fst).bind fun y_3 =>
 bif !y_3 then some false
 else
 bif !y_2.snd.fst == y.snd.fst then some false
 else
 (Q_l_toCluster big a0).bind fun y_4 =>
 (Q_l_eqCluster big y_1 y_4).bind fun y_5 =>
 bif !y_5 then some false
 else
 (Q_l_markCluster big y_1 (1 : Int)).bind fun y_6 =>
 bif decide (y_6.fst < (0 : Int)) then some false
 else
 (Q_l_eqCluster big y_2.fst y.fst).bind fun y_7 =>
 bif !y_7 then some false
 else
 bif !y_2.snd.fst == y.snd.fst then some false
 else
 (Q_l_markCluster big y_2.fst (1 : Int)).bind fun y_8 =>
 (Q_l_heldCluster big
 (y_2.fst.fst, y_2.fst.snd.fst, y_2.fst.snd.snd.fst,
 y_8.snd.fst.snd.snd.snd)
 (1 : Int)).bind
 fun y_9 =>
 bif decide (y_9 < (0 : Int)) then some false
 else
 bif !decide (y_9 = y_8.fst) then some false
 else
 both
 ((Q_l_toCluster big a0).bind fun y_10 =>
 both
 (both
 ((Q_i_Offer big y_10 a1).bind fun y_11 =>
 (Q_l_eqCluster big y_11.fst y.fst).bind fun y_12 =>
 bif !y_12 then some false
 else
 bif !y_11.snd.fst == y.snd.fst then some false
 else
 (Q_l_heldCluster big
 (y_2.fst.fst, y_2.fst.snd.fst,
 y_2.fst.snd.snd.fst,
 y_8.snd.fst.snd.snd.snd)
 (1 : Int)).bind
 fun y =>
 bif decide (y < (0 : Int)) then some false
 else
 bif !decide (y = y_8.fst) then some false
 else some true)
 ((Q_i_Offer big y_10 a1).bind fun y_11 =>
 (Q_l_eqCluster big y_11.fst y.fst).bind fun y_12 =>
 bif !y_12 then some false
 else
 bif !y_11.snd.fst == y.snd.fst then some false
 else
 (Q_l_heldCluster big
 (y_2.fst.fst, y_2.fst.snd.fst,
 y_2.fst.snd.snd.fst,
 y_8.snd.fst.snd.snd.snd)
 (1 : Int)).bind
 fun y =>
 bif decide (y < (0 : Int)) then some false
 else
 bif !decide (y = y_8.fst) then some false
 else some true))
 ((Q_i_Offer big y_10 a1).bind fun y_11 =>
 (Q_l_eqCluster big y_11.fst y.fst).bind fun y_12 =>
 bif !y_12 then some false
 else
 bif !y_11.snd.fst == y.snd.fst then some false
 else
 (Q_l_heldCluster big
 (y_2.fst.fst, y_2.fst.snd.fst,
 y_2.fst.snd.snd.fst,
 y_8.snd.fst.snd.snd.snd)
 (1 : Int)).bind
 fun y =>
 bif decide (y < (0 : Int)) then some false
 else
 bif !decide (y = y_8.fst) then some false
 else some true))
 ((Q_l_toCluster big a0).bind fun y_10 =>
 (Q_i_Offer big y_10 a1).bind fun y_11 =>
 (Q_l_eqCluster big y_11.fst y.fst).bind fun y_12 =>
 bif !y_12 then some false
 else
 bif !y_11.snd.fst == y.snd.fst then some false
 else
 (Q_l_heldCluster big
 (y_2.fst.fst, y_2.fst.snd.fst,
 y_2.fst.snd.snd.fst,
 y_8.snd.fst.snd.snd.snd)
 (1 : Int)).bind
 fun y =>
 bif decide (y < (0 : Int)) then some false
 else
 bif !decide (y = y_8.fst) then some false
 else some true)))
 ((Q_i_Offer big y_1 a1).bind fun y_2 =>
 (Q_l_eqCluster big y_2.fst y.fst).bind fun y_3 =>
 bif !y_3 then some false
 else
 bif !y_2.snd.fst == y.snd.fst then some false
 else
 (Q_l_toCluster big a0).bind fun y_4 =>
 (Q_l_eqCluster big y_1 y_4).bind fun y_5 =>
 bif !y_5 then some false
 else
 (Q_l_markCluster big y_1 (1 : Int)).bind fun y_6 =>
 bif decide (y_6.fst < (0 : Int)) then some false
 else
 (Q_l_eqCluster big y_2.fst y.fst).bind fun y_7 =>
 bif !y_7 then some false
 else
 bif !y_2.snd.fst == y.snd.fst then some false
 else
 (Q_l_markCluster big y_2.fst (1 : Int)).bind fun y_8 =>
 (Q_l_heldCluster big
 (y_2.fst.fst, y_2.fst.snd.fst, y_2.fst.snd.snd.fst,
 y_8.snd.fst.snd.snd.snd)
 (1 : Int)).bind
 fun y_9 =>
 bif decide (y_9 < (0 : Int)) then some false
 else
 bif !decide (y_9 = y_8.fst) then some false
 else
 both
 ((Q_l_toCluster big a0).bind fun y_10 =>
 both
 (both
 ((Q_i_Offer big y_10 a1).bind fun y_11 =>
 (Q_l_eqCluster big y_11.fst y.fst).bind fun y_12 =>
 bif !y_12 then some false
 else
 bif !y_11.snd.fst == y.snd.fst then some false
 else
 (Q_l_heldCluster big
 (y_2.fst.fst, y_2.fst.snd.fst,
 y_2.fst.snd.snd.fst,
 y_8.snd.fst.snd.snd.snd)
 (1 : Int)).bind
 fun y =>
 bif decide (y < (0 : Int)) then some false
 else
 bif !decide (y = y_8.fst) then some false
 else some true)
 ((Q_i_Offer big y_10 a1).bind fun y_11 =>
 (Q_l_eqCluster big y_11.fst y.fst).bind fun y_12 =>
 bif !y_12 then some false
 else
 bif !y_11.snd.fst == y.snd.fst then some false
 else
 (Q_l_heldCluster big
 (y_2.fst.fst, y_2.fst.snd.fst,
 y_2.fst.snd.snd.fst,
 y_8.snd.fst.snd.snd.snd)
 (1 : Int)).bind
 fun y =>
 bif decide (y < (0 : Int)) then some false
 else
 bif !decide (y = y_8.fst) then some false
 else some true))
 ((Q_i_Offer big y_10 a1).bind fun y_11 =>
 (Q_l_eqCluster big y_11.fst y.fst).bind fun y_12 =>
 bif !y_12 then some false
 else
 bif !y_11.snd.fst == y.snd.fst then some false
 else
 (Q_l_heldCluster big
 (y_2.fst.fst, y_2.fst.snd.fst,
 y_2.fst.snd.snd.fst,
 y_8.snd.fst.snd.snd.snd)
 (1 : Int)).bind
 fun y =>
 bif decide (y < (0 : Int)) then some false
 else
 bif !decide (y = y_8.fst) then some false
 else some true))
 ((Q_l_toCluster big a0).bind fun y_10 =>
 (Q_i_Offer big y_10 a1).bind fun y_11 =>
 (Q_l_eqCluster big y_11.fst y.fst).bind fun y_12 =>
 bif !y_12 then some false
 else
 bif !y_11.snd.fst == y.snd.fst then some false
 else
 (Q_l_heldCluster big
 (y_2.fst.fst, y_2.fst.snd.fst,
 y_2.fst.snd.snd.fst,
 y_8.snd.fst.snd.snd.snd)
 (1 : Int)).bind
 fun y =>
 bif decide (y < (0 : Int)) then some false
 else
 bif !decide (y = y_8.fst) then some false
 else some true)))
 ((Q_s_Offer big y a1).bind fun y =>
 (Q_l_toCluster big a0).bind fun y_1 =>
 both
 (both
 ((Q_i_Offer big y_1 a1).bind fun y_2 =>
 (Q_l_eqCluster big y_2.fst y.fst).bind fun y_3 =>
 bif !y_3 then some false
 else
 bif !y_2.snd.fst == y.snd.fst then some false
 else
 (Q_l_toCluster big a0).bind fun y_4 =>
 (Q_l_eqCluster big y_1 y_4).bind fun y_5 =>
 bif !y_5 then some false
 else
 (Q_l_markCluster big y_1 (1 : Int)).bind fun y_6 =>
 bif decide (y_6.fst < (0 : Int)) then some false
 else
 (Q_l_eqCluster big y_2.fst y.fst).bind fun y_7 =>
 bif !y_7 then some false
 else
 bif !y_2.snd.fst == y.snd.fst then some false
 else
 (Q_l_markCluster big y_2.fst (1 : Int)).bind fun y_8 =>
 (Q_l_heldCluster big
 (y_2.fst.fst, y_2.fst.snd.fst, y_2.fst.snd.snd.fst,
 y_8.snd.fst.snd.snd.snd)
 (1 : Int)).bind
 fun y_9 =>
 bif decide (y_9 < (0 : Int)) then some false
 else
 bif !decide (y_9 = y_8.fst) then some false
 else
 both
 ((Q_l_toCluster big a0).bind fun y_10 =>
 both
 (both
 ((Q_i_Offer big y_10 a1).bind fun y_11 =>
 (Q_l_eqCluster big y_11.fst y.fst).bind fun y_12 =>
 bif !y_12 then some false
 else
 bif !y_11.snd.fst == y.snd.fst then some false
 else
 (Q_l_heldCluster big
 (y_2.fst.fst, y_2.fst.snd.fst,
 y_2.fst.snd.snd.fst,
 y_8.snd.fst.snd.snd.snd)
 (1 : Int)).bind
 fun y =>
 bif decide (y < (0 : Int)) then some false
 else
 bif !decide (y = y_8.fst) then some false
 else some true)
 ((Q_i_Offer big y_10 a1).bind fun y_11 =>
 (Q_l_eqCluster big y_11.fst y.fst).bind fun y_12 =>
 bif !y_12 then some false
 else
 bif !y_11.snd.fst == y.snd.fst then some false
 else
 (Q_l_heldCluster big
 (y_2.fst.fst, y_2.fst.snd.fst,
 y_2.fst.snd.snd.fst,
 y_8.snd.fst.snd.snd.snd)
 (1 : Int)).bind
 fun y =>
 bif decide (y < (0 : Int)) then some false
 else
 bif !decide (y = y_8.fst) then some false
 else some true))
 ((Q_i_Offer big y_10 a1).bind fun y_11 =>
 (Q_l_eqCluster big y_11.fst y.fst).bind fun y_12 =>
 bif !y_12 then some false
 else
 bif !y_11.snd.fst == y.snd.fst then some false
 else
 (Q_l_heldCluster big
 (y_2.fst.fst, y_2.fst.snd.fst,
 y_2.fst.snd.snd.fst,
 y_8.snd.fst.snd.snd.snd)
 (1 : Int)).bind
 fun y =>
 bif decide (y < (0 : Int)) then some false
 else
 bif !decide (y = y_8.fst) then some false
 else some true))
 ((Q_l_toCluster big a0).bind fun y_10 =>
 (Q_i_Offer big y_10 a1).bind fun y_11 =>
 (Q_l_eqCluster big y_11.fst y.fst).bind fun y_12 =>
 bif !y_12 then some false
 else
 bif !y_11.snd.fst == y.snd.fst then some false
 else
 (Q_l_heldCluster big
 (y_2.fst.fst, y_2.fst.snd.fst,
 y_2.fst.snd.snd.fst,
 y_8.snd.fst.snd.snd.snd)
 (1 : Int)).bind
 fun y =>
 bif decide (y < (0 : Int)) then some false
 else
 bif !decide (y = y_8.fst) then some false
 else some true))
 ((Q_i_Offer big y_1 a1).bind fun y_2 =>
 (Q_l_eqCluster big y_2.fst y.fst).bind fun y_3 =>
 bif !y_3 then some false
 else
 bif !y_2.snd.fst == y.snd.fst then some false
 else
 (Q_l_toCluster big a0).bind fun y_4 =>
 (Q_l_eqCluster big y_1 y_4).bind fun y_5 =>
 bif !y_5 then some false
 else
 (Q_l_markCluster big y_1 (1 : Int)).bind fun y_6 =>
 bif decide (y_6.fst < (0 : Int)) then some false
 else
 (Q_l_eqCluster big y_2.fst y.fst).bind fun y_7 =>
 bif !y_7 then some false
 else
 bif !y_2.snd.fst == y.snd.fst then some false
 else
 (Q_l_markCluster big y_2.fst (1 : Int)).bind fun y_8 =>
 (Q_l_heldCluster big
 (y_2.fst.fst, y_2.fst.snd.fst, y_2.fst.snd.snd.fst,
 y_8.snd.fst.snd.snd.snd)
 (1 : Int)).bind
 fun y_9 =>
 bif decide (y_9 < (0 : Int)) then some false
 else
 bif !decide (y_9 = y_8.fst) then some false
 else
 both
 ((Q_l_toCluster big a0).bind fun y_10 =>
 both
 (both
 ((Q_i_Offer big y_10 a1).bind fun y_11 =>
 (Q_l_eqCluster big y_11.fst y.fst).bind fun y_12 =>
 bif !y_12 then some false
 else
 bif !y_11.snd.fst == y.snd.fst then some false
 else
 (Q_l_heldCluster big
 (y_2.fst.fst, y_2.fst.snd.fst,
 y_2.fst.snd.snd.fst,
 y_8.snd.fst.snd.snd.snd)
 (1 : Int)).bind
 fun y =>
 bif decide (y < (0 : Int)) then some false
 else
 bif !decide (y = y_8.fst) then some false
 else some true)
 ((Q_i_Offer big y_10 a1).bind fun y_11 =>
 (Q_l_eqCluster big y_11.fst y.fst).bind fun y_12 =>
 bif !y_12 then some false
 else
 bif !y_11.snd.fst == y.snd.fst then some false
 else
 (Q_l_heldCluster big
 (y_2.fst.fst, y_2.fst.snd.fst,
 y_2.fst.snd.snd.fst,
 y_8.snd.fst.snd.snd.snd)
 (1 : Int)).bind
 fun y =>
 bif decide (y < (0 : Int)) then some false
 else
 bif !decide (y = y_8.fst) then some false
 else some true))
 ((Q_i_Offer big y_10 a1).bind fun y_11 =>
 (Q_l_eqCluster big y_11.fst y.fst).bind fun y_12 =>
 bif !y_12 then some false
 else
 bif !y_11.snd.fst == y.snd.fst then some false
 else
 (Q_l_heldCluster big
 (y_2.fst.fst, y_2.fst.snd.fst,
 y_2.fst.snd.snd.fst,
 y_8.snd.fst.snd.snd.snd)
 (1 : Int)).bind
 fun y =>
 bif decide (y < (0 : Int)) then some false
 else
 bif !decide (y = y_8.fst) then some false
 else some true))
 ((Q_l_toCluster big a0).bind fun y_10 =>
 (Q_i_Offer big y_10 a1).bind fun y_11 =>
 (Q_l_eqCluster big y_11.fst y.fst).bind fun y_12 =>
 bif !y_12 then some false
 else
 bif !y_11.snd.fst == y.snd.fst then some false
 else
 (Q_l_heldCluster big
 (y_2.fst.fst, y_2.fst.snd.fst,
 y_2.fst.snd.snd.fst,
 y_8.snd.fst.snd.snd.snd)
 (1 : Int)).bind
 fun y =>
 bif decide (y < (0 : Int)) then some false
 else
 bif !decide (y = y_8.fst) then some false
 else some true)))
 ((Q_i_Offer big y_1 a1).bind fun y_2 =>
 (Q_l_eqCluster big y_2.fst y.fst).bind fun y_3 =>
 bif !y_3 then some false
 else
 bif !y_2.snd.fst == y.snd.fst then some false
 else
 (Q_l_toCluster big a0).bind fun y_4 =>
 (Q_l_eqCluster big y_1 y_4).bind fun y_5 =>
 bif !y_5 then some false
 else
 (Q_l_markCluster big y_1 (1 : Int)).bind fun y_6 =>
 bif decide (y_6.fst < (0 : Int)) then some false
 else
 (Q_l_eqCluster big y_2.fst y.fst).bind fun y_7 =>
 bif !y_7 then some false
 else
 bif !y_2.snd.fst == y.snd.fst then some false
 else
 (Q_l_markCluster big y_2.fst (1 : Int)).bind fun y_8 =>
 (Q_l_heldCluster big
 (y_2.fst.fst, y_2.fst.snd.fst, y_2.fst.snd.snd.fst,
 y_8.snd.fst.snd.snd.snd)
 (1 : Int)).bind
 fun y_9 =>
 bif decide (y_9 < (0 : Int)) then some false
 else
 bif !decide (y_9 = y_8.fst) then some false
 else
 both
 ((Q_l_toCluster big a0).bind fun y_10 =>
 both
 (both
 ((Q_i_Offer big y_10 a1).bind fun y_11 =>
 (Q_l_eqCluster big y_11.fst y.fst).bind fun y_12 =>
 bif !y_12 then some false
 else
 bif !y_11.snd.fst == y.snd.fst then some false
 else
 (Q_l_heldCluster big
 (y_2.fst.fst, y_2.fst.snd.fst,
 y_2.fst.snd.snd.fst,
 y_8.snd.fst.snd.snd.snd)
 (1 : Int)).bind
 fun y =>
 bif decide (y < (0 : Int)) then some false
 else
 bif !decide (y = y_8.fst) then some false
 else some true)
 ((Q_i_Offer big y_10 a1).bind fun y_11 =>
 (Q_l_eqCluster big y_11.fst y.fst).bind fun y_12 =>
 bif !y_12 then some false
 else
 bif !y_11.snd.fst == y.snd.fst then some false
 else
 (Q_l_heldCluster big
 (y_2.fst.fst, y_2.fst.snd.fst,
 y_2.fst.snd.snd.fst,
 y_8.snd.fst.snd.snd.snd)
 (1 : Int)).bind
 fun y =>
 bif decide (y < (0 : Int)) then some false
 else
 bif !decide (y = y_8.fst) then some false
 else some true))
 ((Q_i_Offer big y_10 a1).bind fun y_11 =>
 (Q_l_eqCluster big y_11.fst y.fst).bind fun y_12 =>
 bif !y_12 then some false
 else
 bif !y_11.snd.fst == y.snd.fst then some false
 else
 (Q_l_heldCluster big
 (y_2.fst.fst, y_2.fst.snd.fst,
 y_2.fst.snd.snd.fst,
 y_8.snd.fst.snd.snd.snd)
 (1 : Int)).bind
 fun y =>
 bif decide (y < (0 : Int)) then some false
 else
 bif !decide (y = y_8.fst) then some false
 else some true))
 ((Q_l_toCluster big a0).bind fun y_10 =>
 (Q_i_Offer big y_10 a1).bind fun y_11 =>
 (Q_l_eqCluster big y_11.fst y.fst).bind fun y_12 =>
 bif !y_12 then some false
 else
 bif !y_11.snd.fst == y.snd.fst then some false
 else
 (Q_l_heldCluster big
 (y_2.fst.fst, y_2.fst.snd.fst,
 y_2.fst.snd.snd.fst,
 y_8.snd.fst.snd.snd.snd)
 (1 : Int)).bind
 fun y =>
 bif decide (y < (0 : Int)) then some false
 else
 bif !decide (y = y_8.fst) then some false
 else some true))))
 ((Q_s_Offer big y a1).bind fun y =>
 (Q_l_toCluster big a0).bind fun y_1 =>
 both
 (both
 ((Q_i_Offer big y_1 a1).bind fun y_2 =>
 (Q_l_eqCluster big y_2.fst y.fst).bind fun y_3 =>
 bif !y_3 then some false
 else
 bif !y_2.snd.fst == y.snd.fst then some false
 else
 (Q_l_toCluster big a0).bind fun y_4 =>
 (Q_l_eqCluster big y_1 y_4).bind fun y_5 =>
 bif !y_5 then some false
 else
 (Q_l_markCluster big y_1 (1 : Int)).bind fun y_6 =>
 bif decide (y_6.fst < (0 : Int)) then some false
 else
 (Q_l_eqCluster big y_2.fst y.fst).bind fun y_7 =>
 bif !y_7 then some false
 else
 bif !y_2.snd.fst == y.snd.fst then some false
 else
 (Q_l_markCluster big y_2.fst (1 : Int)).bind fun y_8 =>
 (Q_l_heldCluster big
 (y_2.fst.fst, y_2.fst.snd.fst, y_2.fst.snd.snd.fst,
 y_8.snd.fst.snd.snd.snd)
 (1 : Int)).bind
 fun y_9 =>
 bif decide (y_9 < (0 : Int)) then some false
 else
 bif !decide (y_9 = y_8.fst) then some false
 else
 both
 ((Q_l_toCluster big a0).bind fun y_10 =>
 both
 (both
 ((Q_i_Offer big y_10 a1).bind fun y_11 =>
 (Q_l_eqCluster big y_11.fst y.fst).bind fun y_12 =>
 bif !y_12 then some false
 else
 bif !y_11.snd.fst == y.snd.fst then some false
 else
 (Q_l_heldCluster big
 (y_2.fst.fst, y_2.fst.snd.fst,
 y_2.fst.snd.snd.fst,
 y_8.snd.fst.snd.snd.snd)
 (1 : Int)).bind
 fun y =>
 bif decide (y < (0 : Int)) then some false
 else
 bif !decide (y = y_8.fst) then some false
 else some true)
 ((Q_i_Offer big y_10 a1).bind fun y_11 =>
 (Q_l_eqCluster big y_11.fst y.fst).bind fun y_12 =>
 bif !y_12 then some false
 else
 bif !y_11.snd.fst == y.snd.fst then some false
 else
 (Q_l_heldCluster big
 (y_2.fst.fst, y_2.fst.snd.fst,
 y_2.fst.snd.snd.fst,
 y_8.snd.fst.snd.snd.snd)
 (1 : Int)).bind
 fun y =>
 bif decide (y < (0 : Int)) then some false
 else
 bif !decide (y = y_8.fst) then some false
 else some true))
 ((Q_i_Offer big y_10 a1).bind fun y_11 =>
 (Q_l_eqCluster big y_11.fst y.fst).bind fun y_12 =>
 bif !y_12 then some false
 else
 bif !y_11.snd.fst == y.snd.fst then some false
 else
 (Q_l_heldCluster big
 (y_2.fst.fst, y_2.fst.snd.fst,
 y_2.fst.snd.snd.fst,
 y_8.snd.fst.snd.snd.snd)
 (1 : Int)).bind
 fun y =>
 bif decide (y < (0 : Int)) then some false
 else
 bif !decide (y = y_8.fst) then some false
 else some true))
 ((Q_l_toCluster big a0).bind fun y_10 =>
 (Q_i_Offer big y_10 a1).bind fun y_11 =>
 (Q_l_eqCluster big y_11.fst y.fst).bind fun y_12 =>
 bif !y_12 then some false
 else
 bif !y_11.snd.fst == y.snd.fst then some false
 else
 (Q_l_heldCluster big
 (y_2.fst.fst, y_2.fst.snd.fst,
 y_2.fst.snd.snd.fst,
 y_8.snd.fst.snd.snd.snd)
 (1 : Int)).bind
 fun y =>
 bif decide (y < (0 : Int)) then some false
 else
 bif !decide (y = y_8.fst) then some false
 else some true))
 ((Q_i_Offer big y_1 a1).bind fun y_2 =>
 (Q_l_eqCluster big y_2.fst y.fst).bind fun y_3 =>
 bif !y_3 then some false
 else
 bif !y_2.snd.fst == y.snd.fst then some false
 else
 (Q_l_toCluster big a0).bind fun y_4 =>
 (Q_l_eqCluster big y_1 y_4).bind fun y_5 =>
 bif !y_5 then some false
 else
 (Q_l_markCluster big y_1 (1 : Int)).bind fun y_6 =>
 bif decide (y_6.fst < (0 : Int)) then some false
 else
 (Q_l_eqCluster big y_2.fst y.fst).bind fun y_7 =>
 bif !y_7 then some false
 else
 bif !y_2.snd.fst == y.snd.fst then some false
 else
 (Q_l_markCluster big y_2.fst (1 : Int)).bind fun y_8 =>
 (Q_l_heldCluster big
 (y_2.fst.fst, y_2.fst.snd.fst, y_2.fst.snd.snd.fst,
 y_8.snd.fst.snd.snd.snd)
 (1 : Int)).bind
 fun y_9 =>
 bif decide (y_9 < (0 : Int)) then some false
 else
 bif !decide (y_9 = y_8.fst) then some false
 else
 both
 ((Q_l_toCluster big a0).bind fun y_10 =>
 both
 (both
 ((Q_i_Offer big y_10 a1).bind fun y_11 =>
 (Q_l_eqCluster big y_11.fst y.fst).bind fun y_12 =>
 bif !y_12 then some false
 else
 bif !y_11.snd.fst == y.snd.fst then some false
 else
 (Q_l_heldCluster big
 (y_2.fst.fst, y_2.fst.snd.fst,
 y_2.fst.snd.snd.fst,
 y_8.snd.fst.snd.snd.snd)
 (1 : Int)).bind
 fun y =>
 bif decide (y < (0 : Int)) then some false
 else
 bif !decide (y = y_8.fst) then some false
 else some true)
 ((Q_i_Offer big y_10 a1).bind fun y_11 =>
 (Q_l_eqCluster big y_11.fst y.fst).bind fun y_12 =>
 bif !y_12 then some false
 else
 bif !y_11.snd.fst == y.snd.fst then some false
 else
 (Q_l_heldCluster big
 (y_2.fst.fst, y_2.fst.snd.fst,
 y_2.fst.snd.snd.fst,
 y_8.snd.fst.snd.snd.snd)
 (1 : Int)).bind
 fun y =>
 bif decide (y < (0 : Int)) then some false
 else
 bif !decide (y = y_8.fst) then some false
 else some true))
 ((Q_i_Offer big y_10 a1).bind fun y_11 =>
 (Q_l_eqCluster big y_11.fst y.fst).bind fun y_12 =>
 bif !y_12 then some false
 else
 bif !y_11.snd.fst == y.snd.fst then some false
 else
 (Q_l_heldCluster big
 (y_2.fst.fst, y_2.fst.snd.fst,
 y_2.fst.snd.snd.fst,
 y_8.snd.fst.snd.snd.snd)
 (1 : Int)).bind
 fun y =>
 bif decide (y < (0 : Int)) then some false
 else
 bif !decide (y = y_8.fst) then some false
 else some true))
 ((Q_l_toCluster big a0).bind fun y_10 =>
 (Q_i_Offer big y_10 a1).bind fun y_11 =>
 (Q_l_eqCluster big y_11.fst y.fst).bind fun y_12 =>
 bif !y_12 then some false
 else
 bif !y_11.snd.fst == y.snd.fst then some false
 else
 (Q_l_heldCluster big
 (y_2.fst.fst, y_2.fst.snd.fst,
 y_2.fst.snd.snd.fst,
 y_8.snd.fst.snd.snd.snd)
 (1 : Int)).bind
 fun y =>
 bif decide (y < (0 : Int)) then some false
 else
 bif !decide (y = y_8.fst) then some false
 else some true)))
 ((Q_i_Offer big y_1 a1).bind fun y_2 =>
 (Q_l_eqCluster big y_2.fst y.fst).bind fun y_3 =>
 bif !y_3 then some false
 else
 bif !y_2.snd.fst == y.snd.fst then some false
 else
 (Q_l_toCluster big a0).bind fun y_4 =>
 (Q_l_eqCluster big y_1 y_4).bind fun y_5 =>
 bif !y_5 then some false
 else
 (Q_l_markCluster big y_1 (1 : Int)).bind fun y_6 =>
 bif decide (y_6.fst < (0 : Int)) then some false
 else
 (Q_l_eqCluster big y_2.fst y.fst).bind fun y_7 =>
 bif !y_7 then some false
 else
 bif !y_2.snd.fst == y.snd.fst then some false
 else
 (Q_l_markCluster big y_2.fst (1 : Int)).bind fun y_8 =>
 (Q_l_heldCluster big
 (y_2.fst.fst, y_2.fst.snd.fst, y_2.fst.snd.snd.fst,
 y_8.snd.fst.snd.snd.snd)
 (1 : Int)).bind
 fun y_9 =>
 bif decide (y_9 < (0 : Int)) then some false
 else
 bif !decide (y_9 = y_8.fst) then some false
 else
 both
 ((Q_l_toCluster big a0).bind fun y_10 =>
 both
 (both
 ((Q_i_Offer big y_10 a1).bind fun y_11 =>
 (Q_l_eqCluster big y_11.fst y.fst).bind fun y_12 =>
 bif !y_12 then some false
 else
 bif !y_11.snd.fst == y.snd.fst then some false
 else
 (Q_l_heldCluster big
 (y_2.fst.fst, y_2.fst.snd.fst,
 y_2.fst.snd.snd.fst,
 y_8.snd.fst.snd.snd.snd)
 (1 : Int)).bind
 fun y =>
 bif decide (y < (0 : Int)) then some false
 else
 bif !decide (y = y_8.fst) then some false
 else some true)
 ((Q_i_Offer big y_10 a1).bind fun y_11 =>
 (Q_l_eqCluster big y_11.fst y.fst).bind fun y_12 =>
 bif !y_12 then some false
 else
 bif !y_11.snd.fst == y.snd.fst then some false
 else
 (Q_l_heldCluster big
 (y_2.fst.fst, y_2.fst.snd.fst,
 y_2.fst.snd.snd.fst,
 y_8.snd.fst.snd.snd.snd)
 (1 : Int)).bind
 fun y =>
 bif decide (y < (0 : Int)) then some false
 else
 bif !decide (y = y_8.fst) then some false
 else some true))
 ((Q_i_Offer big y_10 a1).bind fun y_11 =>
 (Q_l_eqCluster big y_11.fst y.fst).bind fun y_12 =>
 bif !y_12 then some false
 else
 bif !y_11.snd.fst == y.snd.fst then some false
 else
 (Q_l_heldCluster big
 (y_2.fst.fst, y_2.fst.snd.fst,
 y_2.fst.snd.snd.fst,
 y_8.snd.fst.snd.snd.snd)
 (1 : Int)).bind
 fun y =>
 bif decide (y < (0 : Int)) then some false
 else
 bif !decide (y = y_8.fst) then some false
 else some true))
 ((Q_l_toCluster big a0).bind fun y_10 =>
 (Q_i_Offer big y_10 a1).bind fun y_11 =>
 (Q_l_eqCluster big y_11.fst y.fst).bind fun y_12 =>
 bif !y_12 then some false
 else
 bif !y_11.snd.fst == y.snd.fst then some false
 else
 (Q_l_heldCluster big
 (y_2.fst.fst, y_2.fst.snd.fst,
 y_2.fst.snd.snd.fst, y_8.snd.fst.snd.snd.snd)
 (1 : Int)).bind
 fun y =>
 bif decide (y < (0 : Int)) then some false
 else
 bif !decide (y = y_8.fst) then some false
 else some true))))
 ((Q_l_toCluster big a0).bind fun y =>
 (Q_s_Offer big y a1).bind fun y =>
 (Q_l_toCluster big a0).bind fun y_1 =>
 both
 (both
 ((Q_i_Offer big y_1 a1).bind fun y_2 =>
 (Q_l_eqCluster big y_2.fst y.fst).bind fun y_3 =>
 bif !y_3 then some false
 else
 bif !y_2.snd.fst == y.snd.fst then some false
 else
 (Q_l_toCluster big a0).bind fun y_4 =>
 (Q_l_eqCluster big y_1 y_4).bind fun y_5 =>
 bif !y_5 then some false
 else
 (Q_l_markCluster big y_1 (1 : Int)).bind fun y_6 =>
 bif decide (y_6.fst < (0 : Int)) then some false
 else
 (Q_l_eqCluster big y_2.fst y.fst).bind fun y_7 =>
 bif !y_7 then some false
 else
 bif !y_2.snd.fst == y.snd.fst then some false
 else
 (Q_l_markCluster big y_2.fst (1 : Int)).bind fun y_8 =>
 (Q_l_heldCluster big
 (y_2.fst.fst, y_2.fst.snd.fst, y_2.fst.snd.snd.fst,
 y_8.snd.fst.snd.snd.snd)
 (1 : Int)).bind
 fun y_9 =>
 bif decide (y_9 < (0 : Int)) then some false
 else
 bif !decide (y_9 = y_8.fst) then some false
 else
 both
 ((Q_l_toCluster big a0).bind fun y_10 =>
 both
 (both
 ((Q_i_Offer big y_10 a1).bind fun y_11 =>
 (Q_l_eqCluster big y_11.fst y.fst).bind fun y_12 =>
 bif !y_12 then some false
 else
 bif !y_11.snd.fst == y.snd.fst then some false
 else
 (Q_l_heldCluster big
 (y_2.fst.fst, y_2.fst.snd.fst,
 y_2.fst.snd.snd.fst,
 y_8.snd.fst.snd.snd.snd)
 (1 : Int)).bind
 fun y =>
 bif decide (y < (0 : Int)) then some false
 else
 bif !decide (y = y_8.fst) then some false
 else some true)
 ((Q_i_Offer big y_10 a1).bind fun y_11 =>
 (Q_l_eqCluster big y_11.fst y.fst).bind fun y_12 =>
 bif !y_12 then some false
 else
 bif !y_11.snd.fst == y.snd.fst then some false
 else
 (Q_l_heldCluster big
 (y_2.fst.fst, y_2.fst.snd.fst,
 y_2.fst.snd.snd.fst,
 y_8.snd.fst.snd.snd.snd)
 (1 : Int)).bind
 fun y =>
 bif decide (y < (0 : Int)) then some false
 else
 bif !decide (y = y_8.fst) then some false
 else some true))
 ((Q_i_Offer big y_10 a1).bind fun y_11 =>
 (Q_l_eqCluster big y_11.fst y.fst).bind fun y_12 =>
 bif !y_12 then some false
 else
 bif !y_11.snd.fst == y.snd.fst then some false
 else
 (Q_l_heldCluster big
 (y_2.fst.fst, y_2.fst.snd.fst,
 y_2.fst.snd.snd.fst,
 y_8.snd.fst.snd.snd.snd)
 (1 : Int)).bind
 fun y =>
 bif decide (y < (0 : Int)) then some false
 else
 bif !decide (y = y_8.fst) then some false
 else some true))
 ((Q_l_toCluster big a0).bind fun y_10 =>
 (Q_i_Offer big y_10 a1).bind fun y_11 =>
 (Q_l_eqCluster big y_11.fst y.fst).bind fun y_12 =>
 bif !y_12 then some false
 else
 bif !y_11.snd.fst == y.snd.fst then some false
 else
 (Q_l_heldCluster big
 (y_2.fst.fst, y_2.fst.snd.fst,
 y_2.fst.snd.snd.fst, y_8.snd.fst.snd.snd.snd)
 (1 : Int)).bind
 fun y =>
 bif decide (y < (0 : Int)) then some false
 else
 bif !decide (y = y_8.fst) then some false
 else some true))
 ((Q_i_Offer big y_1 a1).bind fun y_2 =>
 (Q_l_eqCluster big y_2.fst y.fst).bind fun y_3 =>
 bif !y_3 then some false
 else
 bif !y_2.snd.fst == y.snd.fst then some false
 else
 (Q_l_toCluster big a0).bind fun y_4 =>
 (Q_l_eqCluster big y_1 y_4).bind fun y_5 =>
 bif !y_5 then some false
 else
 (Q_l_markCluster big y_1 (1 : Int)).bind fun y_6 =>
 bif decide (y_6.fst < (0 : Int)) then some false
 else
 (Q_l_eqCluster big y_2.fst y.fst).bind fun y_7 =>
 bif !y_7 then some false
 else
 bif !y_2.snd.fst == y.snd.fst then some false
 else
 (Q_l_markCluster big y_2.fst (1 : Int)).bind fun y_8 =>
 (Q_l_heldCluster big
 (y_2.fst.fst, y_2.fst.snd.fst, y_2.fst.snd.snd.fst,
 y_8.snd.fst.snd.snd.snd)
 (1 : Int)).bind
 fun y_9 =>
 bif decide (y_9 < (0 : Int)) then some false
 else
 bif !decide (y_9 = y_8.fst) then some false
 else
 both
 ((Q_l_toCluster big a0).bind fun y_10 =>
 both
 (both
 ((Q_i_Offer big y_10 a1).bind fun y_11 =>
 (Q_l_eqCluster big y_11.fst y.fst).bind fun y_12 =>
 bif !y_12 then some false
 else
 bif !y_11.snd.fst == y.snd.fst then some false
 else
 (Q_l_heldCluster big
 (y_2.fst.fst, y_2.fst.snd.fst,
 y_2.fst.snd.snd.fst,
 y_8.snd.fst.snd.snd.snd)
 (1 : Int)).bind
 fun y =>
 bif decide (y < (0 : Int)) then some false
 else
 bif !decide (y = y_8.fst) then some false
 else some true)
 ((Q_i_Offer big y_10 a1).bind fun y_11 =>
 (Q_l_eqCluster big y_11.fst y.fst).bind fun y_12 =>
 bif !y_12 then some false
 else
 bif !y_11.snd.fst == y.snd.fst then some false
 else
 (Q_l_heldCluster big
 (y_2.fst.fst, y_2.fst.snd.fst,
 y_2.fst.snd.snd.fst,
 y_8.snd.fst.snd.snd.snd)
 (1 : Int)).bind
 fun y =>
 bif decide (y < (0 : Int)) then some false
 else
 bif !decide (y = y_8.fst) then some false
 else some true))
 ((Q_i_Offer big y_10 a1).bind fun y_11 =>
 (Q_l_eqCluster big y_11.fst y.fst).bind fun y_12 =>
 bif !y_12 then some false
 else
 bif !y_11.snd.fst == y.snd.fst then some false
 else
 (Q_l_heldCluster big
 (y_2.fst.fst, y_2.fst.snd.fst,
 y_2.fst.snd.snd.fst,
 y_8.snd.fst.snd.snd.snd)
 (1 : Int)).bind
 fun y =>
 bif decide (y < (0 : Int)) then some false
 else
 bif !decide (y = y_8.fst) then some false
 else some true))
 ((Q_l_toCluster big a0).bind fun y_10 =>
 (Q_i_Offer big y_10 a1).bind fun y_11 =>
 (Q_l_eqCluster big y_11.fst y.fst).bind fun y_12 =>
 bif !y_12 then some false
 else
 bif !y_11.snd.fst == y.snd.fst then some false
 else
 (Q_l_heldCluster big
 (y_2.fst.fst, y_2.fst.snd.fst,
 y_2.fst.snd.snd.fst, y_8.snd.fst.snd.snd.snd)
 (1 : Int)).bind
 fun y =>
 bif decide (y < (0 : Int)) then some false
 else
 bif !decide (y = y_8.fst) then some false
 else some true)))
 ((Q_i_Offer big y_1 a1).bind fun y_2 =>
 (Q_l_eqCluster big y_2.fst y.fst).bind fun y_3 =>
 bif !y_3 then some false
 else
 bif !y_2.snd.fst == y.snd.fst then some false
 else
 (Q_l_toCluster big a0).bind fun y_4 =>
 (Q_l_eqCluster big y_1 y_4).bind fun y_5 =>
 bif !y_5 then some false
 else
 (Q_l_markCluster big y_1 (1 : Int)).bind fun y_6 =>
 bif decide (y_6.fst < (0 : Int)) then some false
 else
 (Q_l_eqCluster big y_2.fst y.fst).bind fun y_7 =>
 bif !y_7 then some false
 else
 bif !y_2.snd.fst == y.snd.fst then some false
 else
 (Q_l_markCluster big y_2.fst (1 : Int)).bind fun y_8 =>
 (Q_l_heldCluster big
 (y_2.fst.fst, y_2.fst.snd.fst, y_2.fst.snd.snd.fst,
 y_8.snd.fst.snd.snd.snd)
 (1 : Int)).bind
 fun y_9 =>
 bif decide (y_9 < (0 : Int)) then some false
 else
 bif !decide (y_9 = y_8.fst) then some false
 else
 both
 ((Q_l_toCluster big a0).bind fun y_10 =>
 both
 (both
 ((Q_i_Offer big y_10 a1).bind fun y_11 =>
 (Q_l_eqCluster big y_11.fst y.fst).bind fun y_12 =>
 bif !y_12 then some false
 else
 bif !y_11.snd.fst == y.snd.fst then some false
 else
 (Q_l_heldCluster big
 (y_2.fst.fst, y_2.fst.snd.fst,
 y_2.fst.snd.snd.fst,
 y_8.snd.fst.snd.snd.snd)
 (1 : Int)).bind
 fun y =>
 bif decide (y < (0 : Int)) then some false
 else
 bif !decide (y = y_8.fst) then some false
 else some true)
 ((Q_i_Offer big y_10 a1).bind fun y_11 =>
 (Q_l_eqCluster big y_11.fst y.fst).bind fun y_12 =>
 bif !y_12 then some false
 else
 bif !y_11.snd.fst == y.snd.fst then some false
 else
 (Q_l_heldCluster big
 (y_2.fst.fst, y_2.fst.snd.fst,
 y_2.fst.snd.snd.fst,
 y_8.snd.fst.snd.snd.snd)
 (1 : Int)).bind
 fun y =>
 bif decide (y < (0 : Int)) then some false
 else
 bif !decide (y = y_8.fst) then some false
 else some true))
 ((Q_i_Offer big y_10 a1).bind fun y_11 =>
 (Q_l_eqCluster big y_11.fst y.fst).bind fun y_12 =>
 bif !y_12 then some false
 else
 bif !y_11.snd.fst == y.snd.fst then some false
 else
 (Q_l_heldCluster big
 (y_2.fst.fst, y_2.fst.snd.fst,
 y_2.fst.snd.snd.fst, y_8.snd.fst.snd.snd.snd)
 (1 : Int)).bind
 fun y =>
 bif decide (y < (0 : Int)) then some false
 else
 bif !decide (y = y_8.fst) then some false
 else some true))
 ((Q_l_toCluster big a0).bind fun y_10 =>
 (Q_i_Offer big y_10 a1).bind fun y_11 =>
 (Q_l_eqCluster big y_11.fst y.fst).bind fun y_12 =>
 bif !y_12 then some false
 else
 bif !y_11.snd.fst == y.snd.fst then some false
 else
 (Q_l_heldCluster big
 (y_2.fst.fst, y_2.fst.snd.fst,
 y_2.fst.snd.snd.fst, y_8.snd.fst.snd.snd.snd)
 (1 : Int)).bind
 fun y =>
 bif decide (y < (0 : Int)) then some false
 else
 bif !decide (y = y_8.fst) then some false
 else some true))) := by kernel_rfl

end Go.Sx.Try
