/- The functions of the seat: what each comes to. -/
import Derived.Test.YtbamlihfaobfeaaTypes
import Derived.Test.YtbamlihfaobfeaaLoseAtF1
set_option linter.unusedVariables false
set_option linter.unusedSimpArgs false
set_option maxRecDepth 100000
namespace Go.Sx.Try
open Go Go.Sx Go.Proofs

noncomputable def l_s_l15Out : List (Nat × Con) := [(95, c_s_l01In)]
theorem l_s_l15Out_ok : ∀ q ∈ l_s_l15Out, ConOk Try.prog q.1 q.2 := Try.cons_cons c_s_l01In_ok (Try.cons_nil)
def kp_s_l15Out : KP := []
noncomputable def q_s_l15Out (n : Nat) (x : AP.denL [.mu uICluster, .ro tInt]) := evX (false, false, [6, 8, 9, 10, 17, 18, 19, 24, 26, 27, 28, 33, 34, 35, 41]) l_s_l15Out kp_s_l15Out [none, none] Try.f121 (shO (shT [(false, tILetter), (false, tBool)]) [.mu uICluster]) n (AP.encL [.mu uICluster, .ro tInt] x)
noncomputable def c_s_l15Out : Con := apS [.mu uICluster, .ro tInt] true (shO (shT [(false, tILetter), (false, tBool)]) [.mu uICluster]) (q_s_l15Out big)
theorem c_s_l15Out_ok : ConOk Try.prog 121 c_s_l15Out := apS_ok ⟨Try.f121, by kernel_rfl, rfl, by decide⟩ fun _ _ h => evX_ok l_s_l15Out_ok (f := Try.f121) (by kernel_rfl) rfl (by kernel_rfl) (by kernel_rfl) big h
noncomputable def Q_s_l15Out (n : Nat) (a0 : DICluster) (a1 : Int) : Option ((DILetter × Bool × Unit) × DICluster × Unit) := q_s_l15Out n (a0, a1, ())
theorem Q_s_l15Out_eq (n : Nat) (a0 : DICluster) (a1 : Int) : Q_s_l15Out n a0 a1 =
    (Q_s_l01In big a1 (0 : Int) (IntKind.i64.wrap ((↑(List.length a0.snd.snd.snd.snd.snd.fst) : Int) - (1 : Int)))).bind
 fun y =>
 bif !y then
 some
 ((((0 : Int), (0 : Int), (0 : Int), (0 : Int), (0 : Int),
 ((0 : Int), (0 : Int), (0 : Int), (0 : Int), PUnit.unit),
 ((0 : Int), (0 : Int), (0 : Int), (0 : Int), PUnit.unit), PUnit.unit),
 false, PUnit.unit),
 a0, PUnit.unit)
 else
 if (0 : Int) ≤ a1 then
 if a1 < (↑(List.length a0.snd.snd.snd.snd.snd.fst) : Int) then
 (nth a0.snd.snd.snd.snd.snd.fst a1.toNat).bind fun y =>
 both
 (if (0 : Int) ≤ a1 then
 if a1 ≤ (↑(List.length a0.snd.snd.snd.snd.snd.fst) : Int) then
 both
 (if
 (0 : Nat) +
 (List.take (a1.toNat - (0 : Nat)) (List.drop (0 : Nat) a0.snd.snd.snd.snd.snd.fst)).length ≤
 lim then
 if (0 : Int) ≤ IntKind.i64.wrap (a1 + (1 : Int)) then
 if IntKind.i64.wrap (a1 + (1 : Int)) ≤ (↑(List.length a0.snd.snd.snd.snd.snd.fst) : Int) then
 if
 (List.take (a1.toNat - (0 : Nat))
 (List.drop (0 : Nat) a0.snd.snd.snd.snd.snd.fst)).length +
 (List.take
 (List.length a0.snd.snd.snd.snd.snd.fst -
 (IntKind.i64.wrap (a1 + (1 : Int))).toNat)
 (List.drop (IntKind.i64.wrap (a1 + (1 : Int))).toNat
 a0.snd.snd.snd.snd.snd.fst)).length ≤
 lim then
 some
 ((y, true, PUnit.unit),
 (a0.fst, a0.snd.fst, a0.snd.snd.fst, a0.snd.snd.snd.fst, a0.snd.snd.snd.snd.fst,
 (List.take (a1.toNat - (0 : Nat))
 (List.drop (0 : Nat) a0.snd.snd.snd.snd.snd.fst)).append
 (List.take
 (List.length a0.snd.snd.snd.snd.snd.fst -
 (IntKind.i64.wrap (a1 + (1 : Int))).toNat)
 (List.drop (IntKind.i64.wrap (a1 + (1 : Int))).toNat a0.snd.snd.snd.snd.snd.fst)),
 a0.snd.snd.snd.snd.snd.snd),
 PUnit.unit)
 else none
 else none
 else none
 else none)
 (both
 (if
 (0 : Nat) +
 (List.take (a1.toNat - (0 : Nat))
 (List.drop (0 : Nat) a0.snd.snd.snd.snd.snd.fst)).length ≤
 lim then
 if (0 : Int) ≤ IntKind.i64.wrap (a1 + (1 : Int)) then
 if IntKind.i64.wrap (a1 + (1 : Int)) ≤ (↑(List.length a0.snd.snd.snd.snd.snd.fst) : Int) then
 if
 (List.take (a1.toNat - (0 : Nat))
 (List.drop (0 : Nat) a0.snd.snd.snd.snd.snd.fst)).length +
 (List.take
 (List.length a0.snd.snd.snd.snd.snd.fst -
 (IntKind.i64.wrap (a1 + (1 : Int))).toNat)
 (List.drop (IntKind.i64.wrap (a1 + (1 : Int))).toNat
 a0.snd.snd.snd.snd.snd.fst)).length ≤
 lim then
 some
 ((y, true, PUnit.unit),
 (a0.fst, a0.snd.fst, a0.snd.snd.fst, a0.snd.snd.snd.fst, a0.snd.snd.snd.snd.fst,
 (List.take (a1.toNat - (0 : Nat))
 (List.drop (0 : Nat) a0.snd.snd.snd.snd.snd.fst)).append
 (List.take
 (List.length a0.snd.snd.snd.snd.snd.fst -
 (IntKind.i64.wrap (a1 + (1 : Int))).toNat)
 (List.drop (IntKind.i64.wrap (a1 + (1 : Int))).toNat
 a0.snd.snd.snd.snd.snd.fst)),
 a0.snd.snd.snd.snd.snd.snd),
 PUnit.unit)
 else none
 else none
 else none
 else none)
 (if (0 : Int) ≤ IntKind.i64.wrap (a1 + (1 : Int)) then
 if IntKind.i64.wrap (a1 + (1 : Int)) ≤ (↑(List.length a0.snd.snd.snd.snd.snd.fst) : Int) then
 if
 (0 : Nat) +
 (List.take (a1.toNat - (0 : Nat))
 (List.drop (0 : Nat) a0.snd.snd.snd.snd.snd.fst)).length ≤
 lim then
 if
 (List.take (a1.toNat - (0 : Nat))
 (List.drop (0 : Nat) a0.snd.snd.snd.snd.snd.fst)).length +
 (List.take
 (List.length a0.snd.snd.snd.snd.snd.fst -
 (IntKind.i64.wrap (a1 + (1 : Int))).toNat)
 (List.drop (IntKind.i64.wrap (a1 + (1 : Int))).toNat
 a0.snd.snd.snd.snd.snd.fst)).length ≤
 lim then
 some
 ((y, true, PUnit.unit),
 (a0.fst, a0.snd.fst, a0.snd.snd.fst, a0.snd.snd.snd.fst, a0.snd.snd.snd.snd.fst,
 (List.take (a1.toNat - (0 : Nat))
 (List.drop (0 : Nat) a0.snd.snd.snd.snd.snd.fst)).append
 (List.take
 (List.length a0.snd.snd.snd.snd.snd.fst -
 (IntKind.i64.wrap (a1 + (1 : Int))).toNat)
 (List.drop (IntKind.i64.wrap (a1 + (1 : Int))).toNat
 a0.snd.snd.snd.snd.snd.fst)),
 a0.snd.snd.snd.snd.snd.snd),
 PUnit.unit)
 else none
 else none
 else none
 else none))
 else none
 else none)
 (both
 (if (0 : Int) ≤ a1 then
 if a1 ≤ (↑(List.length a0.snd.snd.snd.snd.snd.fst) : Int) then
 both
 (both
 (if
 (0 : Nat) +
 (List.take (a1.toNat - (0 : Nat))
 (List.drop (0 : Nat) a0.snd.snd.snd.snd.snd.fst)).length ≤
 lim then
 if (0 : Int) ≤ IntKind.i64.wrap (a1 + (1 : Int)) then
 if
 IntKind.i64.wrap (a1 + (1 : Int)) ≤
 (↑(List.length a0.snd.snd.snd.snd.snd.fst) : Int) then
 if
 (List.take (a1.toNat - (0 : Nat))
 (List.drop (0 : Nat) a0.snd.snd.snd.snd.snd.fst)).length +
 (List.take
 (List.length a0.snd.snd.snd.snd.snd.fst -
 (IntKind.i64.wrap (a1 + (1 : Int))).toNat)
 (List.drop (IntKind.i64.wrap (a1 + (1 : Int))).toNat
 a0.snd.snd.snd.snd.snd.fst)).length ≤
 lim then
 some
 ((y, true, PUnit.unit),
 (a0.fst, a0.snd.fst, a0.snd.snd.fst, a0.snd.snd.snd.fst, a0.snd.snd.snd.snd.fst,
 (List.take (a1.toNat - (0 : Nat))
 (List.drop (0 : Nat) a0.snd.snd.snd.snd.snd.fst)).append
 (List.take
 (List.length a0.snd.snd.snd.snd.snd.fst -
 (IntKind.i64.wrap (a1 + (1 : Int))).toNat)
 (List.drop (IntKind.i64.wrap (a1 + (1 : Int))).toNat
 a0.snd.snd.snd.snd.snd.fst)),
 a0.snd.snd.snd.snd.snd.snd),
 PUnit.unit)
 else none
 else none
 else none
 else none)
 (both
 (if
 (0 : Nat) +
 (List.take (a1.toNat - (0 : Nat))
 (List.drop (0 : Nat) a0.snd.snd.snd.snd.snd.fst)).length ≤
 lim then
 if (0 : Int) ≤ IntKind.i64.wrap (a1 + (1 : Int)) then
 if
 IntKind.i64.wrap (a1 + (1 : Int)) ≤
 (↑(List.length a0.snd.snd.snd.snd.snd.fst) : Int) then
 if
 (List.take (a1.toNat - (0 : Nat))
 (List.drop (0 : Nat) a0.snd.snd.snd.snd.snd.fst)).length +
 (List.take
 (List.length a0.snd.snd.snd.snd.snd.fst -
 (IntKind.i64.wrap (a1 + (1 : Int))).toNat)
 (List.drop (IntKind.i64.wrap (a1 + (1 : Int))).toNat
 a0.snd.snd.snd.snd.snd.fst)).length ≤
 lim then
 some
 ((y, true, PUnit.unit),
 (a0.fst, a0.snd.fst, a0.snd.snd.fst, a0.snd.snd.snd.fst, a0.snd.snd.snd.snd.fst,
 (List.take (a1.toNat - (0 : Nat))
 (List.drop (0 : Nat) a0.snd.snd.snd.snd.snd.fst)).append
 (List.take
 (List.length a0.snd.snd.snd.snd.snd.fst -
 (IntKind.i64.wrap (a1 + (1 : Int))).toNat)
 (List.drop (IntKind.i64.wrap (a1 + (1 : Int))).toNat
 a0.snd.snd.snd.snd.snd.fst)),
 a0.snd.snd.snd.snd.snd.snd),
 PUnit.unit)
 else none
 else none
 else none
 else none)
 (if (0 : Int) ≤ IntKind.i64.wrap (a1 + (1 : Int)) then
 if
 IntKind.i64.wrap (a1 + (1 : Int)) ≤
 (↑(List.length a0.snd.snd.snd.snd.snd.fst) : Int) then
 if
 (0 : Nat) +
 (List.take (a1.toNat - (0 : Nat))
 (List.drop (0 : Nat) a0.snd.snd.snd.snd.snd.fst)).length ≤
 lim then
 if
 (List.take (a1.toNat - (0 : Nat))
 (List.drop (0 : Nat) a0.snd.snd.snd.snd.snd.fst)).length +
 (List.take
 (List.length a0.snd.snd.snd.snd.snd.fst -
 (IntKind.i64.wrap (a1 + (1 : Int))).toNat)
 (List.drop (IntKind.i64.wrap (a1 + (1 : Int))).toNat
 a0.snd.snd.snd.snd.snd.fst)).length ≤
 lim then
 some
 ((y, true, PUnit.unit),
 (a0.fst, a0.snd.fst, a0.snd.snd.fst, a0.snd.snd.snd.fst, a0.snd.snd.snd.snd.fst,
 (List.take (a1.toNat - (0 : Nat))
 (List.drop (0 : Nat) a0.snd.snd.snd.snd.snd.fst)).append
 (List.take
 (List.length a0.snd.snd.snd.snd.snd.fst -
 (IntKind.i64.wrap (a1 + (1 : Int))).toNat)
 (List.drop (IntKind.i64.wrap (a1 + (1 : Int))).toNat
 a0.snd.snd.snd.snd.snd.fst)),
 a0.snd.snd.snd.snd.snd.snd),
 PUnit.unit)
 else none
 else none
 else none
 else none)))
 (both
 (both
 (if
 (0 : Nat) +
 (List.take (a1.toNat - (0 : Nat))
 (List.drop (0 : Nat) a0.snd.snd.snd.snd.snd.fst)).length ≤
 lim then
 if (0 : Int) ≤ IntKind.i64.wrap (a1 + (1 : Int)) then
 if
 IntKind.i64.wrap (a1 + (1 : Int)) ≤
 (↑(List.length a0.snd.snd.snd.snd.snd.fst) : Int) then
 if
 (List.take (a1.toNat - (0 : Nat))
 (List.drop (0 : Nat) a0.snd.snd.snd.snd.snd.fst)).length +
 (List.take
 (List.length a0.snd.snd.snd.snd.snd.fst -
 (IntKind.i64.wrap (a1 + (1 : Int))).toNat)
 (List.drop (IntKind.i64.wrap (a1 + (1 : Int))).toNat
 a0.snd.snd.snd.snd.snd.fst)).length ≤
 lim then
 some
 ((y, true, PUnit.unit),
 (a0.fst, a0.snd.fst, a0.snd.snd.fst, a0.snd.snd.snd.fst, a0.snd.snd.snd.snd.fst,
 (List.take (a1.toNat - (0 : Nat))
 (List.drop (0 : Nat) a0.snd.snd.snd.snd.snd.fst)).append
 (List.take
 (List.length a0.snd.snd.snd.snd.snd.fst -
 (IntKind.i64.wrap (a1 + (1 : Int))).toNat)
 (List.drop (IntKind.i64.wrap (a1 + (1 : Int))).toNat
 a0.snd.snd.snd.snd.snd.fst)),
 a0.snd.snd.snd.snd.snd.snd),
 PUnit.unit)
 else none
 else none
 else none
 else none)
 (if (0 : Int) ≤ IntKind.i64.wrap (a1 + (1 : Int)) then
 if
 IntKind.i64.wrap (a1 + (1 : Int)) ≤
 (↑(List.length a0.snd.snd.snd.snd.snd.fst) : Int) then
 if
 (0 : Nat) +
 (List.take (a1.toNat - (0 : Nat))
 (List.drop (0 : Nat) a0.snd.snd.snd.snd.snd.fst)).length ≤
 lim then
 if
 (List.take (a1.toNat - (0 : Nat))
 (List.drop (0 : Nat) a0.snd.snd.snd.snd.snd.fst)).length +
 (List.take
 (List.length a0.snd.snd.snd.snd.snd.fst -
 (IntKind.i64.wrap (a1 + (1 : Int))).toNat)
 (List.drop (IntKind.i64.wrap (a1 + (1 : Int))).toNat
 a0.snd.snd.snd.snd.snd.fst)).length ≤
 lim then
 some
 ((y, true, PUnit.unit),
 (a0.fst, a0.snd.fst, a0.snd.snd.fst, a0.snd.snd.snd.fst, a0.snd.snd.snd.snd.fst,
 (List.take (a1.toNat - (0 : Nat))
 (List.drop (0 : Nat) a0.snd.snd.snd.snd.snd.fst)).append
 (List.take
 (List.length a0.snd.snd.snd.snd.snd.fst -
 (IntKind.i64.wrap (a1 + (1 : Int))).toNat)
 (List.drop (IntKind.i64.wrap (a1 + (1 : Int))).toNat
 a0.snd.snd.snd.snd.snd.fst)),
 a0.snd.snd.snd.snd.snd.snd),
 PUnit.unit)
 else none
 else none
 else none
 else none))
 (if (0 : Int) ≤ IntKind.i64.wrap (a1 + (1 : Int)) then
 if IntKind.i64.wrap (a1 + (1 : Int)) ≤ (↑(List.length a0.snd.snd.snd.snd.snd.fst) : Int) then
 if
 (0 : Nat) +
 (List.take (a1.toNat - (0 : Nat))
 (List.drop (0 : Nat) a0.snd.snd.snd.snd.snd.fst)).length ≤
 lim then
 if
 (List.take (a1.toNat - (0 : Nat))
 (List.drop (0 : Nat) a0.snd.snd.snd.snd.snd.fst)).length +
 (List.take
 (List.length a0.snd.snd.snd.snd.snd.fst -
 (IntKind.i64.wrap (a1 + (1 : Int))).toNat)
 (List.drop (IntKind.i64.wrap (a1 + (1 : Int))).toNat
 a0.snd.snd.snd.snd.snd.fst)).length ≤
 lim then
 some
 ((y, true, PUnit.unit),
 (a0.fst, a0.snd.fst, a0.snd.snd.fst, a0.snd.snd.snd.fst, a0.snd.snd.snd.snd.fst,
 (List.take (a1.toNat - (0 : Nat))
 (List.drop (0 : Nat) a0.snd.snd.snd.snd.snd.fst)).append
 (List.take
 (List.length a0.snd.snd.snd.snd.snd.fst -
 (IntKind.i64.wrap (a1 + (1 : Int))).toNat)
 (List.drop (IntKind.i64.wrap (a1 + (1 : Int))).toNat
 a0.snd.snd.snd.snd.snd.fst)),
 a0.snd.snd.snd.snd.snd.snd),
 PUnit.unit)
 else none
 else none
 else none
 else none))
 else none
 else none)
 (both
 (if (0 : Int) ≤ a1 then
 if a1 ≤ (↑(List.length a0.snd.snd.snd.snd.snd.fst) : Int) then
 both
 (if
 (0 : Nat) +
 (List.take (a1.toNat - (0 : Nat))
 (List.drop (0 : Nat) a0.snd.snd.snd.snd.snd.fst)).length ≤
 lim then
 if (0 : Int) ≤ IntKind.i64.wrap (a1 + (1 : Int)) then
 if
 IntKind.i64.wrap (a1 + (1 : Int)) ≤
 (↑(List.length a0.snd.snd.snd.snd.snd.fst) : Int) then
 if
 (List.take (a1.toNat - (0 : Nat))
 (List.drop (0 : Nat) a0.snd.snd.snd.snd.snd.fst)).length +
 (List.take
 (List.length a0.snd.snd.snd.snd.snd.fst -
 (IntKind.i64.wrap (a1 + (1 : Int))).toNat)
 (List.drop (IntKind.i64.wrap (a1 + (1 : Int))).toNat
 a0.snd.snd.snd.snd.snd.fst)).length ≤
 lim then
 some
 ((y, true, PUnit.unit),
 (a0.fst, a0.snd.fst, a0.snd.snd.fst, a0.snd.snd.snd.fst, a0.snd.snd.snd.snd.fst,
 (List.take (a1.toNat - (0 : Nat))
 (List.drop (0 : Nat) a0.snd.snd.snd.snd.snd.fst)).append
 (List.take
 (List.length a0.snd.snd.snd.snd.snd.fst -
 (IntKind.i64.wrap (a1 + (1 : Int))).toNat)
 (List.drop (IntKind.i64.wrap (a1 + (1 : Int))).toNat
 a0.snd.snd.snd.snd.snd.fst)),
 a0.snd.snd.snd.snd.snd.snd),
 PUnit.unit)
 else none
 else none
 else none
 else none)
 (if (0 : Int) ≤ IntKind.i64.wrap (a1 + (1 : Int)) then
 if IntKind.i64.wrap (a1 + (1 : Int)) ≤ (↑(List.length a0.snd.snd.snd.snd.snd.fst) : Int) then
 if
 (0 : Nat) +
 (List.take (a1.toNat - (0 : Nat))
 (List.drop (0 : Nat) a0.snd.snd.snd.snd.snd.fst)).length ≤
 lim then
 if
 (List.take (a1.toNat - (0 : Nat))
 (List.drop (0 : Nat) a0.snd.snd.snd.snd.snd.fst)).length +
 (List.take
 (List.length a0.snd.snd.snd.snd.snd.fst -
 (IntKind.i64.wrap (a1 + (1 : Int))).toNat)
 (List.drop (IntKind.i64.wrap (a1 + (1 : Int))).toNat
 a0.snd.snd.snd.snd.snd.fst)).length ≤
 lim then
 some
 ((y, true, PUnit.unit),
 (a0.fst, a0.snd.fst, a0.snd.snd.fst, a0.snd.snd.snd.fst, a0.snd.snd.snd.snd.fst,
 (List.take (a1.toNat - (0 : Nat))
 (List.drop (0 : Nat) a0.snd.snd.snd.snd.snd.fst)).append
 (List.take
 (List.length a0.snd.snd.snd.snd.snd.fst -
 (IntKind.i64.wrap (a1 + (1 : Int))).toNat)
 (List.drop (IntKind.i64.wrap (a1 + (1 : Int))).toNat
 a0.snd.snd.snd.snd.snd.fst)),
 a0.snd.snd.snd.snd.snd.snd),
 PUnit.unit)
 else none
 else none
 else none
 else none)
 else none
 else none)
 (both
 (if (0 : Int) ≤ a1 then
 if a1 ≤ (↑(List.length a0.snd.snd.snd.snd.snd.fst) : Int) then
 both
 (both
 (if
 (0 : Nat) +
 (List.take (a1.toNat - (0 : Nat))
 (List.drop (0 : Nat) a0.snd.snd.snd.snd.snd.fst)).length ≤
 lim then
 if (0 : Int) ≤ IntKind.i64.wrap (a1 + (1 : Int)) then
 if
 IntKind.i64.wrap (a1 + (1 : Int)) ≤
 (↑(List.length a0.snd.snd.snd.snd.snd.fst) : Int) then
 if
 (List.take (a1.toNat - (0 : Nat))
 (List.drop (0 : Nat) a0.snd.snd.snd.snd.snd.fst)).length +
 (List.take
 (List.length a0.snd.snd.snd.snd.snd.fst -
 (IntKind.i64.wrap (a1 + (1 : Int))).toNat)
 (List.drop (IntKind.i64.wrap (a1 + (1 : Int))).toNat
 a0.snd.snd.snd.snd.snd.fst)).length ≤
 lim then
 some
 ((y, true, PUnit.unit),
 (a0.fst, a0.snd.fst, a0.snd.snd.fst, a0.snd.snd.snd.fst, a0.snd.snd.snd.snd.fst,
 (List.take (a1.toNat - (0 : Nat))
 (List.drop (0 : Nat) a0.snd.snd.snd.snd.snd.fst)).append
 (List.take
 (List.length a0.snd.snd.snd.snd.snd.fst -
 (IntKind.i64.wrap (a1 + (1 : Int))).toNat)
 (List.drop (IntKind.i64.wrap (a1 + (1 : Int))).toNat
 a0.snd.snd.snd.snd.snd.fst)),
 a0.snd.snd.snd.snd.snd.snd),
 PUnit.unit)
 else none
 else none
 else none
 else none)
 (if (0 : Int) ≤ IntKind.i64.wrap (a1 + (1 : Int)) then
 if
 IntKind.i64.wrap (a1 + (1 : Int)) ≤
 (↑(List.length a0.snd.snd.snd.snd.snd.fst) : Int) then
 if
 (0 : Nat) +
 (List.take (a1.toNat - (0 : Nat))
 (List.drop (0 : Nat) a0.snd.snd.snd.snd.snd.fst)).length ≤
 lim then
 if
 (List.take (a1.toNat - (0 : Nat))
 (List.drop (0 : Nat) a0.snd.snd.snd.snd.snd.fst)).length +
 (List.take
 (List.length a0.snd.snd.snd.snd.snd.fst -
 (IntKind.i64.wrap (a1 + (1 : Int))).toNat)
 (List.drop (IntKind.i64.wrap (a1 + (1 : Int))).toNat
 a0.snd.snd.snd.snd.snd.fst)).length ≤
 lim then
 some
 ((y, true, PUnit.unit),
 (a0.fst, a0.snd.fst, a0.snd.snd.fst, a0.snd.snd.snd.fst, a0.snd.snd.snd.snd.fst,
 (List.take (a1.toNat - (0 : Nat))
 (List.drop (0 : Nat) a0.snd.snd.snd.snd.snd.fst)).append
 (List.take
 (List.length a0.snd.snd.snd.snd.snd.fst -
 (IntKind.i64.wrap (a1 + (1 : Int))).toNat)
 (List.drop (IntKind.i64.wrap (a1 + (1 : Int))).toNat
 a0.snd.snd.snd.snd.snd.fst)),
 a0.snd.snd.snd.snd.snd.snd),
 PUnit.unit)
 else none
 else none
 else none
 else none))
 (if (0 : Int) ≤ IntKind.i64.wrap (a1 + (1 : Int)) then
 if
 IntKind.i64.wrap (a1 + (1 : Int)) ≤
 (↑(List.length a0.snd.snd.snd.snd.snd.fst) : Int) then
 if
 (0 : Nat) +
 (List.take (a1.toNat - (0 : Nat))
 (List.drop (0 : Nat) a0.snd.snd.snd.snd.snd.fst)).length ≤
 lim then
 if
 (List.take (a1.toNat - (0 : Nat))
 (List.drop (0 : Nat) a0.snd.snd.snd.snd.snd.fst)).length +
 (List.take
 (List.length a0.snd.snd.snd.snd.snd.fst -
 (IntKind.i64.wrap (a1 + (1 : Int))).toNat)
 (List.drop (IntKind.i64.wrap (a1 + (1 : Int))).toNat
 a0.snd.snd.snd.snd.snd.fst)).length ≤
 lim then
 some
 ((y, true, PUnit.unit),
 (a0.fst, a0.snd.fst, a0.snd.snd.fst, a0.snd.snd.snd.fst, a0.snd.snd.snd.snd.fst,
 (List.take (a1.toNat - (0 : Nat))
 (List.drop (0 : Nat) a0.snd.snd.snd.snd.snd.fst)).append
 (List.take
 (List.length a0.snd.snd.snd.snd.snd.fst -
 (IntKind.i64.wrap (a1 + (1 : Int))).toNat)
 (List.drop (IntKind.i64.wrap (a1 + (1 : Int))).toNat
 a0.snd.snd.snd.snd.snd.fst)),
 a0.snd.snd.snd.snd.snd.snd),
 PUnit.unit)
 else none
 else none
 else none
 else none)
 else none
 else none)
 (if (0 : Int) ≤ IntKind.i64.wrap (a1 + (1 : Int)) then
 if IntKind.i64.wrap (a1 + (1 : Int)) ≤ (↑(List.length a0.snd.snd.snd.snd.snd.fst) : Int) then
 both
 (if (0 : Int) ≤ a1 then
 if a1 ≤ (↑(List.length a0.snd.snd.snd.snd.snd.fst) : Int) then
 if
 (0 : Nat) +
 (List.take (a1.toNat - (0 : Nat))
 (List.drop (0 : Nat) a0.snd.snd.snd.snd.snd.fst)).length ≤
 lim then
 if
 (List.take (a1.toNat - (0 : Nat))
 (List.drop (0 : Nat) a0.snd.snd.snd.snd.snd.fst)).length +
 (List.take
 (List.length a0.snd.snd.snd.snd.snd.fst -
 (IntKind.i64.wrap (a1 + (1 : Int))).toNat)
 (List.drop (IntKind.i64.wrap (a1 + (1 : Int))).toNat
 a0.snd.snd.snd.snd.snd.fst)).length ≤
 lim then
 some
 ((y, true, PUnit.unit),
 (a0.fst, a0.snd.fst, a0.snd.snd.fst, a0.snd.snd.snd.fst, a0.snd.snd.snd.snd.fst,
 (List.take (a1.toNat - (0 : Nat))
 (List.drop (0 : Nat) a0.snd.snd.snd.snd.snd.fst)).append
 (List.take
 (List.length a0.snd.snd.snd.snd.snd.fst -
 (IntKind.i64.wrap (a1 + (1 : Int))).toNat)
 (List.drop (IntKind.i64.wrap (a1 + (1 : Int))).toNat
 a0.snd.snd.snd.snd.snd.fst)),
 a0.snd.snd.snd.snd.snd.snd),
 PUnit.unit)
 else none
 else none
 else none
 else none)
 (if (0 : Int) ≤ a1 then
 if a1 ≤ (↑(List.length a0.snd.snd.snd.snd.snd.fst) : Int) then
 if
 (0 : Nat) +
 (List.take (a1.toNat - (0 : Nat))
 (List.drop (0 : Nat) a0.snd.snd.snd.snd.snd.fst)).length ≤
 lim then
 if
 (List.take (a1.toNat - (0 : Nat))
 (List.drop (0 : Nat) a0.snd.snd.snd.snd.snd.fst)).length +
 (List.take
 (List.length a0.snd.snd.snd.snd.snd.fst -
 (IntKind.i64.wrap (a1 + (1 : Int))).toNat)
 (List.drop (IntKind.i64.wrap (a1 + (1 : Int))).toNat
 a0.snd.snd.snd.snd.snd.fst)).length ≤
 lim then
 some
 ((y, true, PUnit.unit),
 (a0.fst, a0.snd.fst, a0.snd.snd.fst, a0.snd.snd.snd.fst, a0.snd.snd.snd.snd.fst,
 (List.take (a1.toNat - (0 : Nat))
 (List.drop (0 : Nat) a0.snd.snd.snd.snd.snd.fst)).append
 (List.take
 (List.length a0.snd.snd.snd.snd.snd.fst -
 (IntKind.i64.wrap (a1 + (1 : Int))).toNat)
 (List.drop (IntKind.i64.wrap (a1 + (1 : Int))).toNat
 a0.snd.snd.snd.snd.snd.fst)),
 a0.snd.snd.snd.snd.snd.snd),
 PUnit.unit)
 else none
 else none
 else none
 else none)
 else none
 else none))))
 else none
 else none := by kernel_rfl

end Go.Sx.Try

set_option maxRecDepth 100000
namespace Go.Sx.Try
open Go Go.Sx Go.Proofs

noncomputable def l_s_LoseAt : List (Nat × Con) := [(112, c_s_l15Copy), (121, c_s_l15Out)]
theorem l_s_LoseAt_ok : ∀ q ∈ l_s_LoseAt, ConOk Try.prog q.1 q.2 := Try.cons_cons c_s_l15Copy_ok (Try.cons_cons c_s_l15Out_ok (Try.cons_nil))
def kp_s_LoseAt : KP := []
noncomputable def q_s_LoseAt (n : Nat) (x : Args [tICluster, tInt]) := evX (false, false, [2, 6]) l_s_LoseAt kp_s_LoseAt [some uICluster, none] Try.f48 (shT [(true, uICluster), (false, tBool)]) n (encA [tICluster, tInt] x)
noncomputable def c_s_LoseAt : Con := roS [tICluster, tInt] true (shT [(true, uICluster), (false, tBool)]) (q_s_LoseAt big)
theorem c_s_LoseAt_ok : ConOk Try.prog 48 c_s_LoseAt := roS_ok ⟨Try.f48, by kernel_rfl, rfl, by decide⟩ fun _ _ h => evX_ok l_s_LoseAt_ok (f := Try.f48) (by kernel_rfl) rfl (by kernel_rfl) (by kernel_rfl) big h
noncomputable def Q_s_LoseAt (n : Nat) (a0 : DICluster) (a1 : Int) : Option (DICluster × Bool × Unit) := q_s_LoseAt n (a0, a1, ())
theorem Q_s_LoseAt_eq (n : Nat) (a0 : DICluster) (a1 : Int) : Q_s_LoseAt n a0 a1 =
    (Q_s_l15Copy big a0).bind fun y => (Q_s_l15Out big y a1).bind fun y => some (y.snd.fst, y.fst.snd) := by kernel_rfl

end Go.Sx.Try

set_option maxRecDepth 100000
namespace Go.Sx.Try
open Go Go.Sx Go.Proofs

noncomputable def l_l_FnExactLoseAt : List (Nat × Con) := [(31, c_l_szCluster), (33, c_l_toCluster), (48, c_s_LoseAt), (49, c_i_LoseAt), (35, c_l_eqCluster), (40, c_l_markCluster), (41, c_l_heldCluster)]
theorem l_l_FnExactLoseAt_ok : ∀ q ∈ l_l_FnExactLoseAt, ConOk Try.prog q.1 q.2 := Try.cons_cons c_l_szCluster_ok (Try.cons_cons c_l_toCluster_ok (Try.cons_cons c_s_LoseAt_ok (Try.cons_cons c_i_LoseAt_ok (Try.cons_cons c_l_eqCluster_ok (Try.cons_cons c_l_markCluster_ok (Try.cons_cons c_l_heldCluster_ok (Try.cons_nil)))))))
def kp_l_FnExactLoseAt : KP := []
noncomputable def q_l_FnExactLoseAt (n : Nat) (x : Args [tLCluster, tInt]) := evX (false, false, [2, 6, 8, 9, 14, 999999]) l_l_FnExactLoseAt kp_l_FnExactLoseAt [none] Try.f10 (shV tBool) n (encA [tLCluster, tInt] x)
noncomputable def c_l_FnExactLoseAt : Con := roS [tLCluster, tInt] true (shV tBool) (q_l_FnExactLoseAt big)
theorem c_l_FnExactLoseAt_ok : ConOk Try.prog 10 c_l_FnExactLoseAt := roS_ok ⟨Try.f10, by kernel_rfl, rfl, by decide⟩ fun _ _ h => evX_ok l_l_FnExactLoseAt_ok (f := Try.f10) (by kernel_rfl) rfl (by kernel_rfl) (by kernel_rfl) big h
noncomputable def Q_l_FnExactLoseAt (n : Nat) (a0 : DLCluster) (a1 : Int) : Option Bool := q_l_FnExactLoseAt n (a0, a1, ())
theorem Q_l_FnExactLoseAt_eq (n : Nat) (a0 : DLCluster) (a1 : Int) : Q_l_FnExactLoseAt n a0 a1 =
    (Q_l_szCluster big a0 (1048576 : Int)).bind fun y =>
 bif decide (y < (0 : Int)) then some true
 else
 (Q_l_toCluster big a0).bind fun y =>
 (Q_s_LoseAt big y a1).bind fun y =>
 (Q_l_toCluster big a0).bind fun y_1 =>
 (Q_i_LoseAt big y_1 a1).bind fun y_2 =>
 (Q_l_eqCluster big y_2.fst y.fst).bind fun y_3 =>
 bif !y_3 then some false
 else
 bif !y_2.snd.fst == y.snd.fst then some false
 else
 (Q_l_toCluster big a0).bind fun y_4 =>
 (Q_l_eqCluster big y_1 y_4).bind fun y_5 =>
 bif !y_5 then some false
 else
 (Q_l_markCluster big y_1 (1 : Int)).bind fun y_6 =>
 bif decide (y_6.fst < (0 : Int)) then some false
 else
 (Q_l_eqCluster big y_2.fst y.fst).bind fun y_7 =>
 bif !y_7 then some false
 else
 bif !y_2.snd.fst == y.snd.fst then some false
 else
 (Q_l_markCluster big y_2.fst (1 : Int)).bind fun y_8 =>
 (Q_l_heldCluster big
 (y_2.fst.fst, y_2.fst.snd.fst, y_2.fst.snd.snd.fst, y_8.snd.fst.snd.snd.snd)
 (1 : Int)).bind
 fun y_9 =>
 bif decide (y_9 < (0 : Int)) then some false
 else
 bif !decide (y_9 = y_8.fst) then some false
 else
 (Q_l_toCluster big a0).bind fun y_10 =>
 (Q_i_LoseAt big y_10 a1).bind fun y_11 =>
 (Q_l_eqCluster big y_11.fst y.fst).bind fun y_12 =>
 bif !y_12 then some false
 else
 bif !y_11.snd.fst == y.snd.fst then some false
 else
 (Q_l_heldCluster big
 (y_2.fst.fst, y_2.fst.snd.fst, y_2.fst.snd.snd.fst,
 y_8.snd.fst.snd.snd.snd)
 (1 : Int)).bind
 fun y =>
 bif decide (y < (0 : Int)) then some false
 else
 bif !decide (y = y_8.fst) then some false
 else some true := by kernel_rfl

end Go.Sx.Try
