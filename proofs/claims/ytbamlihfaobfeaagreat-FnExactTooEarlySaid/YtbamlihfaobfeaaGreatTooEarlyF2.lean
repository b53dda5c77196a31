/- The functions of the seat: what each comes to. -/
import Derived.Test.YtbamlihfaobfeaaGreatTypes
import Derived.Test.YtbamlihfaobfeaaGreatTooEarlyF1
set_option linter.unusedVariables false
set_option linter.unusedSimpArgs false
set_option maxRecDepth 100000
namespace Go.Sx.Tryz
open Go Go.Sx Go.Proofs

noncomputable def l_s_Extends : List (Nat × Con) := [(69, c_s_HeightOf)]
theorem l_s_Extends_ok : ∀ q ∈ l_s_Extends, ConOk Tryz.prog q.1 q.2 := Tryz.cons_cons c_s_HeightOf_ok (Tryz.cons_nil)
abbrev k_s_Extends_3 : List Keep × List BK := ([.ro tSlLBlock, .ro tInt64, .ro tInt64, .drop, .drop, .drop, .drop, .drop, .drop, .drop, .drop, .drop, .drop, .drop, .drop, .drop, .drop, .drop, .drop, .drop, .drop, .drop, .drop, .drop, .drop, .drop], [])
def kp_s_Extends : KP := [(3, k_s_Extends_3)]
noncomputable def q_s_Extends (n : Nat) (x : Args [tSlIBlock, tInt, tInt]) := evX (false, false, []) l_s_Extends kp_s_Extends [none] Tryz.f25 (shV tBool) n (encA [tSlIBlock, tInt, tInt] x)
noncomputable def c_s_Extends : Con := roS [tSlIBlock, tInt, tInt] true (shV tBool) (q_s_Extends big)
theorem c_s_Extends_ok : ConOk Tryz.prog 25 c_s_Extends := roS_ok ⟨Tryz.f25, by kernel_rfl, rfl, by decide⟩ fun _ _ h => evX_ok l_s_Extends_ok (f := Tryz.f25) (by kernel_rfl) rfl (by kernel_rfl) (by kernel_rfl) big h
noncomputable def Q_s_Extends (n : Nat) (a0 : DSlIBlock) (a1 : Int) (a2 : Int) : Option Bool := q_s_Extends n (a0, a1, a2, ())
noncomputable def r_s_Extends_3 (n : Nat) (x : KD k_s_Extends_3.1) (y : BD k_s_Extends_3.2) := rounds (env (false, false, []) l_s_Extends) kp_s_Extends (body Tryz.f25) (finX (false, false, []) l_s_Extends [none] Tryz.f25 (shV tBool) [.val tSlIBlock (zeroD tSlIBlock), .val tInt (zeroD tInt), .val tInt (zeroD tInt)]) n 3 k_s_Extends_3 x y
noncomputable def R_s_Extends_3 (n : Nat) (s0 : DSlLBlock) (s1 : Int) (s2 : Int) : Option Bool := r_s_Extends_3 n (s0, s1, s2, ()) ()
theorem Q_s_Extends_eq (n : Nat) (a0 : DSlIBlock) (a1 : Int) (a2 : Int) : Q_s_Extends n a0 a1 a2 =
    (Q_s_HeightOf big a0 a1).bind fun y =>
 bif decide (y < (0 : Int)) then some false else R_s_Extends_3 n a0 a1 a2 := by kernel_rfl
theorem R_s_Extends_3_eq (n : Nat) (s0 : DSlLBlock) (s1 : Int) (s2 : Int) : R_s_Extends_3 (n + 1) s0 s1 s2 =
    bif decide ((0 : Int) < s1) then
 bif !decide (s1 = s2) then
 if (0 : Int) ≤ s1 then (nth s0 s1.toNat).bind fun y => R_s_Extends_3 n s0 y.fst s2 else none
 else some (decide (s1 = s2))
 else some (decide (s1 = s2)) := by kernel_rfl

end Go.Sx.Tryz

set_option maxRecDepth 100000
namespace Go.Sx.Tryz
open Go Go.Sx Go.Proofs

noncomputable def l_s_RowTo : List (Nat × Con) := [(69, c_s_HeightOf)]
theorem l_s_RowTo_ok : ∀ q ∈ l_s_RowTo, ConOk Tryz.prog q.1 q.2 := Tryz.cons_cons c_s_HeightOf_ok (Tryz.cons_nil)
abbrev k_s_RowTo_4 : List Keep × List BK := ([.ro tSlLBlock, .ro tInt64, .drop, .drop, .drop, .own tInt64, .drop, .drop, .drop, .drop, .drop, .drop, .drop, .drop, .drop, .drop, .drop, .drop, .drop, .drop, .drop, .drop, .drop, .drop], [])
def kp_s_RowTo : KP := [(4, k_s_RowTo_4)]
noncomputable def q_s_RowTo (n : Nat) (x : Args [tSlIBlock, tInt]) := evX (false, false, []) l_s_RowTo kp_s_RowTo [some uSlInt] Tryz.f71 (shF uSlInt) n (encA [tSlIBlock, tInt] x)
noncomputable def c_s_RowTo : Con := roS [tSlIBlock, tInt] true (shF uSlInt) (q_s_RowTo big)
theorem c_s_RowTo_ok : ConOk Tryz.prog 71 c_s_RowTo := roS_ok ⟨Tryz.f71, by kernel_rfl, rfl, by decide⟩ fun _ _ h => evX_ok l_s_RowTo_ok (f := Tryz.f71) (by kernel_rfl) rfl (by kernel_rfl) (by kernel_rfl) big h
noncomputable def Q_s_RowTo (n : Nat) (a0 : DSlIBlock) (a1 : Int) : Option DSlInt := q_s_RowTo n (a0, a1, ())
noncomputable def r_s_RowTo_4 (n : Nat) (x : KD k_s_RowTo_4.1) (y : BD k_s_RowTo_4.2) := rounds (env (false, false, []) l_s_RowTo) kp_s_RowTo (body Tryz.f71) (finX (false, false, []) l_s_RowTo [some uSlInt] Tryz.f71 (shF uSlInt) [.val tSlIBlock (zeroD tSlIBlock), .val tInt (zeroD tInt)]) n 4 k_s_RowTo_4 x y
noncomputable def R_s_RowTo_4 (n : Nat) (s0 : DSlLBlock) (s1 : Int) (s5 : (List Int)) : Option DSlInt := r_s_RowTo_4 n (s0, s1, s5, ()) ()
theorem Q_s_RowTo_eq (n : Nat) (a0 : DSlIBlock) (a1 : Int) : Q_s_RowTo n a0 a1 =
    (Q_s_HeightOf big a0 a1).bind fun y => bif decide (y < (0 : Int)) then some [] else R_s_RowTo_4 n a0 a1 [] := by kernel_rfl
theorem R_s_RowTo_4_eq (n : Nat) (s0 : DSlLBlock) (s1 : Int) (s5 : (List Int)) : R_s_RowTo_4 (n + 1) s0 s1 s5 =
    bif decide ((0 : Int) < s1) then
 if [s1].length + s5.length ≤ lim then
 if (0 : Int) ≤ s1 then (nth s0 s1.toNat).bind fun y => R_s_RowTo_4 n s0 y.fst (s1 :: s5) else none
 else none
 else some s5 := by kernel_rfl

end Go.Sx.Tryz

set_option maxRecDepth 100000
namespace Go.Sx.Tryz
open Go Go.Sx Go.Proofs

noncomputable def l_s_RowAfter : List (Nat × Con) := [(25, c_s_Extends), (71, c_s_RowTo)]
theorem l_s_RowAfter_ok : ∀ q ∈ l_s_RowAfter, ConOk Tryz.prog q.1 q.2 := Tryz.cons_cons c_s_Extends_ok (Tryz.cons_cons c_s_RowTo_ok (Tryz.cons_nil))
abbrev k_s_RowAfter_6 : List Keep × List BK := ([.drop, .drop, .ro tInt64, .drop, .drop, .drop, .drop, .is (.own 0 0), .own tInt64, .ro tInt64, .drop, .drop, .drop, .drop, .drop, .drop, .drop, .drop, .drop, .drop, .drop, .drop, .drop, .drop, .drop, .drop, .drop, .drop, .drop, .drop, .drop, .drop, .drop, .drop, .drop, .drop, .drop, .drop, .drop, .drop], [.arr tInt64])
def kp_s_RowAfter : KP := [(6, k_s_RowAfter_6)]
noncomputable def q_s_RowAfter (n : Nat) (x : Args [tSlIBlock, tInt, tInt]) := evX (false, false, []) l_s_RowAfter kp_s_RowAfter [some uSlInt] Tryz.f28 (shF uSlInt) n (encA [tSlIBlock, tInt, tInt] x)
noncomputable def c_s_RowAfter : Con := roS [tSlIBlock, tInt, tInt] true (shF uSlInt) (q_s_RowAfter big)
theorem c_s_RowAfter_ok : ConOk Tryz.prog 28 c_s_RowAfter := roS_ok ⟨Tryz.f28, by kernel_rfl, rfl, by decide⟩ fun _ _ h => evX_ok l_s_RowAfter_ok (f := Tryz.f28) (by kernel_rfl) rfl (by kernel_rfl) (by kernel_rfl) big h
noncomputable def Q_s_RowAfter (n : Nat) (a0 : DSlIBlock) (a1 : Int) (a2 : Int) : Option DSlInt := q_s_RowAfter n (a0, a1, a2, ())
noncomputable def r_s_RowAfter_6 (n : Nat) (x : KD k_s_RowAfter_6.1) (y : BD k_s_RowAfter_6.2) := rounds (env (false, false, []) l_s_RowAfter) kp_s_RowAfter (body Tryz.f28) (finX (false, false, []) l_s_RowAfter [some uSlInt] Tryz.f28 (shF uSlInt) [.val tSlIBlock (zeroD tSlIBlock), .val tInt (zeroD tInt), .val tInt (zeroD tInt)]) n 6 k_s_RowAfter_6 x y
noncomputable def R_s_RowAfter_6 (n : Nat) (s2 : Int) (s8 : (List Int)) (s9 : Int) (b0 : (List Int)) : Option DSlInt := r_s_RowAfter_6 n (s2, s8, s9, ()) (b0, ())
theorem Q_s_RowAfter_eq (n : Nat) (a0 : DSlIBlock) (a1 : Int) (a2 : Int) : Q_s_RowAfter n a0 a1 a2 =
    (Q_s_Extends big a0 a1 a2).bind fun y =>
 bif !y then some [] else (Q_s_RowTo big a0 a1).bind fun y => R_s_RowAfter_6 n a2 [] (0 : Int) y := by kernel_rfl
theorem R_s_RowAfter_6_eq (n : Nat) (s2 : Int) (s8 : (List Int)) (s9 : Int) (b0 : (List Int)) : R_s_RowAfter_6 (n + 1) s2 s8 s9 b0 =
    bif decide (s9 < (↑b0.length : Int)) then
 if (0 : Int) ≤ s9 then
 if s9 < (↑b0.length : Int) then
 (nth b0 s9.toNat).bind fun y =>
 bif decide (s2 < y) then
 if (0 : Int) ≤ s9 then
 if s9 < (↑b0.length : Int) then
 (nth b0 s9.toNat).bind fun y =>
 if s8.length + [y].length ≤ lim then
 R_s_RowAfter_6 n s2 (s8.append [y]) (IntKind.i64.wrap (s9 + (1 : Int))) b0
 else none
 else none
 else none
 else R_s_RowAfter_6 n s2 s8 (IntKind.i64.wrap (s9 + (1 : Int))) b0
 else none
 else none
 else some s8 := by kernel_rfl

end Go.Sx.Tryz

set_option maxRecDepth 100000
namespace Go.Sx.Tryz
open Go Go.Sx Go.Proofs

noncomputable def l_i_Undone_1 : List (Nat × Con) := []
theorem l_i_Undone_1_ok : ∀ q ∈ l_i_Undone_1, ConOk Tryz.prog q.1 q.2 := Tryz.cons_nil
def kp_i_Undone_1 : KP := []
noncomputable def q_i_Undone_1 (n : Nat) (x : AP.denL [.ro tICell, .mr tIUndo]) := evX (false, false, [1, 2, 4, 6]) l_i_Undone_1 kp_i_Undone_1 [none] Tryz.f115 (shO (shV tBool) [.mr tIUndo]) n (AP.encL [.ro tICell, .mr tIUndo] x)
noncomputable def c_i_Undone_1 : Con := apS [.ro tICell, .mr tIUndo] true (shO (shV tBool) [.mr tIUndo]) (q_i_Undone_1 big)
theorem c_i_Undone_1_ok : ConOk Tryz.prog 115 c_i_Undone_1 := apS_ok ⟨Tryz.f115, by kernel_rfl, rfl, by decide⟩ fun _ _ h => evX_ok l_i_Undone_1_ok (f := Tryz.f115) (by kernel_rfl) rfl (by kernel_rfl) (by kernel_rfl) big h
noncomputable def Q_i_Undone_1 (n : Nat) (a0 : DICell) (a1 : DIUndo) : Option (Bool × DIUndo × Unit) := q_i_Undone_1 n (a0, a1, ())
theorem Q_i_Undone_1_eq (n : Nat) (a0 : DICell) (a1 : DIUndo) : Q_i_Undone_1 n a0 a1 =
    some (decide (a0.fst = a1.fst), a1, PUnit.unit) := by kernel_rfl

end Go.Sx.Tryz

set_option maxRecDepth 100000
namespace Go.Sx.Tryz
open Go Go.Sx Go.Proofs

noncomputable def l_g_IndexFunc_ICell__i_Undone_1 : List (Nat × Con) := [(115, c_i_Undone_1)]
theorem l_g_IndexFunc_ICell__i_Undone_1_ok : ∀ q ∈ l_g_IndexFunc_ICell__i_Undone_1, ConOk Tryz.prog q.1 q.2 := Tryz.cons_cons c_i_Undone_1_ok (Tryz.cons_nil)
abbrev k_g_IndexFunc_ICell__i_Undone_1_2 : List Keep × List BK := ([.ro tSlLCell, .is (.fn 115 [.ptr 0 0]), .drop, .drop, .drop, .drop, .drop, .ro tInt64, .ro tInt64, .drop, .drop, .drop, .drop, .drop, .drop, .drop, .drop, .drop, .drop], [.vars [.ro tString, .ro tBool, .ro tInt64]])
def kp_g_IndexFunc_ICell__i_Undone_1 : KP := [(2, k_g_IndexFunc_ICell__i_Undone_1_2)]
noncomputable def q_g_IndexFunc_ICell__i_Undone_1 (n : Nat) (x : AP.denL [.ro tSlICell, .fn 115 [tIUndo]]) := evX (false, false, []) l_g_IndexFunc_ICell__i_Undone_1 kp_g_IndexFunc_ICell__i_Undone_1 [none] Tryz.f117 (shO (shV tInt) [.fn 115 [tIUndo]]) n (AP.encL [.ro tSlICell, .fn 115 [tIUndo]] x)
noncomputable def c_g_IndexFunc_ICell__i_Undone_1 : Con := apS [.ro tSlICell, .fn 115 [tIUndo]] true (shO (shV tInt) [.fn 115 [tIUndo]]) (q_g_IndexFunc_ICell__i_Undone_1 big)
theorem c_g_IndexFunc_ICell__i_Undone_1_ok : ConOk Tryz.prog 117 c_g_IndexFunc_ICell__i_Undone_1 := apS_ok ⟨Tryz.f117, by kernel_rfl, rfl, by decide⟩ fun _ _ h => evX_ok l_g_IndexFunc_ICell__i_Undone_1_ok (f := Tryz.f117) (by kernel_rfl) rfl (by kernel_rfl) (by kernel_rfl) big h
noncomputable def Q_g_IndexFunc_ICell__i_Undone_1 (n : Nat) (a0 : DSlICell) (a1 : (DIUndo × Unit)) : Option (Int × (DIUndo × Unit) × Unit) := q_g_IndexFunc_ICell__i_Undone_1 n (a0, a1, ())
noncomputable def r_g_IndexFunc_ICell__i_Undone_1_2 (n : Nat) (x : KD k_g_IndexFunc_ICell__i_Undone_1_2.1) (y : BD k_g_IndexFunc_ICell__i_Undone_1_2.2) := rounds (env (false, false, []) l_g_IndexFunc_ICell__i_Undone_1) kp_g_IndexFunc_ICell__i_Undone_1 (body Tryz.f117) (finX (false, false, []) l_g_IndexFunc_ICell__i_Undone_1 [none] Tryz.f117 (shO (shV tInt) [.fn 115 [tIUndo]]) [AP.enc (.ro tSlICell) (zeroD tSlICell), AP.enc (.fn 115 [tIUndo]) (zeroD tIUndo, ())]) n 2 k_g_IndexFunc_ICell__i_Undone_1_2 x y
noncomputable def R_g_IndexFunc_ICell__i_Undone_1_2 (n : Nat) (s0 : DSlLCell) (s7 : Int) (s8 : Int) (b0_0 : ByteArray) (b0_1 : Bool) (b0_2 : Int) : Option (Int × (DIUndo × Unit) × Unit) := r_g_IndexFunc_ICell__i_Undone_1_2 n (s0, s7, s8, ()) ((b0_0, b0_1, b0_2, ()), ())
theorem Q_g_IndexFunc_ICell__i_Undone_1_eq (n : Nat) (a0 : DSlICell) (a1 : (DIUndo × Unit)) : Q_g_IndexFunc_ICell__i_Undone_1 n a0 a1 =
    R_g_IndexFunc_ICell__i_Undone_1_2 n a0 (↑(List.length a0) : Int) (0 : Int) a1.fst.fst a1.fst.snd.fst
 a1.fst.snd.snd.fst := by kernel_rfl
theorem R_g_IndexFunc_ICell__i_Undone_1_2_eq (n : Nat) (s0 : DSlLCell) (s7 : Int) (s8 : Int) (b0_0 : ByteArray) (b0_1 : Bool) (b0_2 : Int) : R_g_IndexFunc_ICell__i_Undone_1_2 (n + 1) s0 s7 s8 b0_0 b0_1 b0_2 =
    bif decide (s8 < s7) then
 if (0 : Int) ≤ s8 then
 (nth s0 s8.toNat).bind fun y =>
 bif decide (y.fst = b0_0) then some (s8, ((b0_0, b0_1, b0_2, PUnit.unit), PUnit.unit), PUnit.unit)
 else R_g_IndexFunc_ICell__i_Undone_1_2 n s0 s7 (IntKind.i64.wrap (s8 + (1 : Int))) b0_0 b0_1 b0_2
 else none
 else some ((-1 : Int), ((b0_0, b0_1, b0_2, PUnit.unit), PUnit.unit), PUnit.unit) := by kernel_rfl

end Go.Sx.Tryz

set_option maxRecDepth 100000
namespace Go.Sx.Tryz
open Go Go.Sx Go.Proofs

noncomputable def l_g_DeleteFunc_ICell__i_Undone_1 : List (Nat × Con) := [(117, c_g_IndexFunc_ICell__i_Undone_1), (115, c_i_Undone_1)]
theorem l_g_DeleteFunc_ICell__i_Undone_1_ok : ∀ q ∈ l_g_DeleteFunc_ICell__i_Undone_1, ConOk Tryz.prog q.1 q.2 := Tryz.cons_cons c_g_IndexFunc_ICell__i_Undone_1_ok (Tryz.cons_cons c_i_Undone_1_ok (Tryz.cons_nil))
abbrev k_g_DeleteFunc_ICell__i_Undone_1_5 : List Keep × List BK := ([.is (.own 0 0), .is (.fn 115 [.ptr 1 0]), .drop, .drop, .drop, .ro tInt64, .ro tInt64, .drop, .drop, .drop, .drop, .drop, .drop, .drop, .drop, .drop, .drop, .drop, .drop, .drop, .drop, .drop, .drop, .drop, .drop, .drop, .drop, .drop, .drop, .drop, .drop, .drop, .drop, .drop, .drop, .drop, .drop, .drop, .drop, .drop, .drop, .drop], [.arr tXstruct_Key_string_Num_int_, .vars [.ro tString, .ro tBool, .ro tInt64]])
def kp_g_DeleteFunc_ICell__i_Undone_1 : KP := [(5, k_g_DeleteFunc_ICell__i_Undone_1_5)]
noncomputable def q_g_DeleteFunc_ICell__i_Undone_1 (n : Nat) (x : AP.denL [.gv tICell, .fn 115 [tIUndo]]) := evX (false, false, [7, 999998]) l_g_DeleteFunc_ICell__i_Undone_1 kp_g_DeleteFunc_ICell__i_Undone_1 [some uSlICell] Tryz.f114 (shO (shF uSlICell) [.fn 115 [tIUndo]]) n (AP.encL [.gv tICell, .fn 115 [tIUndo]] x)
noncomputable def c_g_DeleteFunc_ICell__i_Undone_1 : Con := apS [.gv tICell, .fn 115 [tIUndo]] true (shO (shF uSlICell) [.fn 115 [tIUndo]]) (q_g_DeleteFunc_ICell__i_Undone_1 big)
theorem c_g_DeleteFunc_ICell__i_Undone_1_ok : ConOk Tryz.prog 114 c_g_DeleteFunc_ICell__i_Undone_1 := apS_ok ⟨Tryz.f114, by kernel_rfl, rfl, by decide⟩ fun _ _ h => evX_ok l_g_DeleteFunc_ICell__i_Undone_1_ok (f := Tryz.f114) (by kernel_rfl) rfl (by kernel_rfl) (by kernel_rfl) big h
noncomputable def Q_g_DeleteFunc_ICell__i_Undone_1 (n : Nat) (a0 : DSlICell) (a1 : (DIUndo × Unit)) : Option (DSlICell × (DIUndo × Unit) × Unit) := q_g_DeleteFunc_ICell__i_Undone_1 n (a0, a1, ())
noncomputable def r_g_DeleteFunc_ICell__i_Undone_1_5 (n : Nat) (x : KD k_g_DeleteFunc_ICell__i_Undone_1_5.1) (y : BD k_g_DeleteFunc_ICell__i_Undone_1_5.2) := rounds (env (false, false, [7, 999998]) l_g_DeleteFunc_ICell__i_Undone_1) kp_g_DeleteFunc_ICell__i_Undone_1 (body Tryz.f114) (finX (false, false, [7, 999998]) l_g_DeleteFunc_ICell__i_Undone_1 [some uSlICell] Tryz.f114 (shO (shF uSlICell) [.fn 115 [tIUndo]]) [AP.enc (.gv tICell) [], AP.enc (.fn 115 [tIUndo]) (zeroD tIUndo, ())]) n 5 k_g_DeleteFunc_ICell__i_Undone_1_5 x y
noncomputable def R_g_DeleteFunc_ICell__i_Undone_1_5 (n : Nat) (s5 : Int) (s6 : Int) (b0 : (List DXstruct_Key_string_Num_int_)) (b1_0 : ByteArray) (b1_1 : Bool) (b1_2 : Int) : Option (DSlICell × (DIUndo × Unit) × Unit) := r_g_DeleteFunc_ICell__i_Undone_1_5 n (s5, s6, ()) (b0, (b1_0, b1_1, b1_2, ()), ())
theorem Q_g_DeleteFunc_ICell__i_Undone_1_eq (n : Nat) (a0 : DSlICell) (a1 : (DIUndo × Unit)) : Q_g_DeleteFunc_ICell__i_Undone_1 n a0 a1 =
    (Q_g_IndexFunc_ICell__i_Undone_1 big a0 a1).bind fun y =>
 bif decide (y.fst = (-1 : Int)) then some (a0, y.snd)
 else
 R_g_DeleteFunc_ICell__i_Undone_1_5 n y.fst (IntKind.i64.wrap (y.fst + (1 : Int))) a0 y.snd.fst.fst.fst
 y.snd.fst.fst.snd.fst y.snd.fst.fst.snd.snd.fst := by kernel_rfl
theorem R_g_DeleteFunc_ICell__i_Undone_1_5_eq (n : Nat) (s5 : Int) (s6 : Int) (b0 : (List DXstruct_Key_string_Num_int_)) (b1_0 : ByteArray) (b1_1 : Bool) (b1_2 : Int) : R_g_DeleteFunc_ICell__i_Undone_1_5 (n + 1) s5 s6 b0 b1_0 b1_1 b1_2 =
    bif decide (s6 < (↑b0.length : Int)) then
 if (0 : Int) ≤ s6 then
 if s6 < (↑b0.length : Int) then
 (nth b0 s6.toNat).bind fun y =>
 bif !decide (y.fst = b1_0) then
 if (0 : Int) ≤ s5 then
 if s5 < (↑b0.length : Int) then
 (nth b0 s5.toNat).bind fun y_1 =>
 (updO b0 s5.toNat y).bind fun y =>
 R_g_DeleteFunc_ICell__i_Undone_1_5 n (IntKind.i64.wrap (s5 + (1 : Int)))
 (IntKind.i64.wrap (s6 + (1 : Int))) y b1_0 b1_1 b1_2
 else none
 else none
 else R_g_DeleteFunc_ICell__i_Undone_1_5 n s5 (IntKind.i64.wrap (s6 + (1 : Int))) b0 b1_0 b1_1 b1_2
 else none
 else none
 else
 if (0 : Int) ≤ s5 then
 if s5 ≤ (↑b0.length : Int) then
 if s5.toNat + (b0.length - s5.toNat) ≤ b0.length then
 if (0 : Int) ≤ s5 then
 if
 s5 ≤
 (↑((List.take s5.toNat b0).append
 ((List.replicate (b0.length - s5.toNat) (zeroD tXstruct_Key_string_Num_int_)).append
 (List.drop (s5.toNat + (b0.length - s5.toNat)) b0))).length :
 Int) then
 some
 (List.take (s5.toNat - (0 : Nat))
 (List.drop (0 : Nat)
 ((List.take s5.toNat b0).append
 ((List.replicate (b0.length - s5.toNat) (zeroD tXstruct_Key_string_Num_int_)).append
 (List.drop (s5.toNat + (b0.length - s5.toNat)) b0)))),
 ((b1_0, b1_1, b1_2, PUnit.unit), PUnit.unit), PUnit.unit)
 else none
 else none
 else none
 else none
 else none := by kernel_rfl

end Go.Sx.Tryz

set_option maxRecDepth 100000
namespace Go.Sx.Tryz
open Go Go.Sx Go.Proofs

noncomputable def l_i_Undone : List (Nat × Con) := [(80, c_g_Clone_ICell), (106, c_i_CellsOk), (112, c_i_KeyOk), (113, c_i_isNum), (109, c_i_withCell), (114, c_g_DeleteFunc_ICell__i_Undone_1)]
theorem l_i_Undone_ok : ∀ q ∈ l_i_Undone, ConOk Tryz.prog q.1 q.2 := Tryz.cons_cons c_g_Clone_ICell_ok (Tryz.cons_cons c_i_CellsOk_ok (Tryz.cons_cons c_i_KeyOk_ok (Tryz.cons_cons c_i_isNum_ok (Tryz.cons_cons c_i_withCell_ok (Tryz.cons_cons c_g_DeleteFunc_ICell__i_Undone_1_ok (Tryz.cons_nil))))))
def kp_i_Undone : KP := []
noncomputable def q_i_Undone (n : Nat) (x : Args [tSlICell, tIUndo]) := evX (false, false, [3, 12, 18, 24, 27, 29]) l_i_Undone kp_i_Undone [some uSlICell] Tryz.f104 (shF uSlICell) n (encA [tSlICell, tIUndo] x)
noncomputable def c_i_Undone : Con := roS [tSlICell, tIUndo] true (shF uSlICell) (q_i_Undone big)
theorem c_i_Undone_ok : ConOk Tryz.prog 104 c_i_Undone := roS_ok ⟨Tryz.f104, by kernel_rfl, rfl, by decide⟩ fun _ _ h => evX_ok l_i_Undone_ok (f := Tryz.f104) (by kernel_rfl) rfl (by kernel_rfl) (by kernel_rfl) big h
noncomputable def Q_i_Undone (n : Nat) (a0 : DSlICell) (a1 : DIUndo) : Option DSlICell := q_i_Undone n (a0, a1, ())
theorem Q_i_Undone_eq (n : Nat) (a0 : DSlICell) (a1 : DIUndo) : Q_i_Undone n a0 a1 =
    (Q_g_Clone_ICell big a0).bind fun y =>
 (Q_i_CellsOk big a0).bind fun y_1 =>
 bif !y_1 then some y
 else
 (Q_i_KeyOk big a1.fst).bind fun y_2 =>
 bif !y_2 then some y
 else
 (Q_i_isNum big a1.snd.snd.fst).bind fun y_3 =>
 bif !y_3 then some y
 else
 bif a1.snd.fst then (Q_i_withCell big a0 a1.fst a1.snd.snd.fst).bind fun y => some y
 else (Q_g_DeleteFunc_ICell__i_Undone_1 big y (a1, ())).bind fun y => some y.fst := by kernel_rfl

end Go.Sx.Tryz

set_option maxRecDepth 100000
namespace Go.Sx.Tryz
open Go Go.Sx Go.Proofs

noncomputable def l_i_UndoneAll : List (Nat × Con) := [(80, c_g_Clone_ICell), (104, c_i_Undone)]
theorem l_i_UndoneAll_ok : ∀ q ∈ l_i_UndoneAll, ConOk Tryz.prog q.1 q.2 := Tryz.cons_cons c_g_Clone_ICell_ok (Tryz.cons_cons c_i_Undone_ok (Tryz.cons_nil))
abbrev k_i_UndoneAll_3 : List Keep × List BK := ([.drop, .ro tSlLUndo, .drop, .drop, .drop, .own tXstruct_Key_string_Num_int_, .ro tInt64, .drop, .drop, .drop, .drop, .drop, .drop, .drop, .drop, .drop, .drop, .drop, .drop, .drop, .drop, .drop, .drop], [])
def kp_i_UndoneAll : KP := [(3, k_i_UndoneAll_3)]
noncomputable def q_i_UndoneAll (n : Nat) (x : Args [tSlICell, tSlIUndo]) := evX (false, false, []) l_i_UndoneAll kp_i_UndoneAll [some uSlICell] Tryz.f84 (shF uSlICell) n (encA [tSlICell, tSlIUndo] x)
noncomputable def c_i_UndoneAll : Con := roS [tSlICell, tSlIUndo] true (shF uSlICell) (q_i_UndoneAll big)
theorem c_i_UndoneAll_ok : ConOk Tryz.prog 84 c_i_UndoneAll := roS_ok ⟨Tryz.f84, by kernel_rfl, rfl, by decide⟩ fun _ _ h => evX_ok l_i_UndoneAll_ok (f := Tryz.f84) (by kernel_rfl) rfl (by kernel_rfl) (by kernel_rfl) big h
noncomputable def Q_i_UndoneAll (n : Nat) (a0 : DSlICell) (a1 : DSlIUndo) : Option DSlICell := q_i_UndoneAll n (a0, a1, ())
noncomputable def r_i_UndoneAll_3 (n : Nat) (x : KD k_i_UndoneAll_3.1) (y : BD k_i_UndoneAll_3.2) := rounds (env (false, false, []) l_i_UndoneAll) kp_i_UndoneAll (body Tryz.f84) (finX (false, false, []) l_i_UndoneAll [some uSlICell] Tryz.f84 (shF uSlICell) [.val tSlICell (zeroD tSlICell), .val tSlIUndo (zeroD tSlIUndo)]) n 3 k_i_UndoneAll_3 x y
noncomputable def R_i_UndoneAll_3 (n : Nat) (s1 : DSlLUndo) (s5 : (List DXstruct_Key_string_Num_int_)) (s6 : Int) : Option DSlICell := r_i_UndoneAll_3 n (s1, s5, s6, ()) ()
theorem Q_i_UndoneAll_eq (n : Nat) (a0 : DSlICell) (a1 : DSlIUndo) : Q_i_UndoneAll n a0 a1 =
    (Q_g_Clone_ICell big a0).bind fun y =>
 R_i_UndoneAll_3 n a1 y (IntKind.i64.wrap ((↑(List.length a1) : Int) - (1 : Int))) := by kernel_rfl
theorem R_i_UndoneAll_3_eq (n : Nat) (s1 : DSlLUndo) (s5 : (List DXstruct_Key_string_Num_int_)) (s6 : Int) : R_i_UndoneAll_3 (n + 1) s1 s5 s6 =
    bif decide ((0 : Int) ≤ s6) then
 if (0 : Int) ≤ s6 then
 (nth s1 s6.toNat).bind fun y =>
 (Q_i_Undone big s5 y).bind fun y => R_i_UndoneAll_3 n s1 y (IntKind.i64.wrap (s6 - (1 : Int)))
 else none
 else some s5 := by kernel_rfl

end Go.Sx.Tryz

set_option maxRecDepth 100000
namespace Go.Sx.Tryz
open Go Go.Sx Go.Proofs

noncomputable def l_s_Undone : List (Nat × Con) := [(99, c_s_CellsOk), (111, c_s_KeyOk), (97, c_s_l01In), (102, c_s_l03Put)]
theorem l_s_Undone_ok : ∀ q ∈ l_s_Undone, ConOk Tryz.prog q.1 q.2 := Tryz.cons_cons c_s_CellsOk_ok (Tryz.cons_cons c_s_KeyOk_ok (Tryz.cons_cons c_s_l01In_ok (Tryz.cons_cons c_s_l03Put_ok (Tryz.cons_nil))))
abbrev k_s_Undone_7 : List Keep × List BK := ([.ro tSlLCell, .drop, .drop, .is (.ptr 0 0), .drop, .own tXstruct_Key_string_Num_int_, .ro tInt64, .drop, .drop, .drop, .drop, .drop, .drop, .drop, .drop, .drop, .drop, .drop, .drop, .drop, .drop, .drop, .drop, .drop, .drop, .drop, .drop, .drop, .drop, .drop, .drop, .drop, .drop, .drop, .drop, .drop, .drop, .drop, .drop, .drop, .drop, .drop, .drop, .drop, .drop, .drop, .drop, .drop, .drop, .drop, .drop, .drop, .drop, .drop, .drop, .drop, .drop], [.vars [.ro tString, .ro tBool, .ro tInt64]])
def kp_s_Undone : KP := [(7, k_s_Undone_7)]
noncomputable def q_s_Undone (n : Nat) (x : Args [tSlICell, tIUndo]) := evX (false, false, [3, 11, 17, 25, 28, 30, 46]) l_s_Undone kp_s_Undone [some uSlICell] Tryz.f98 (shF uSlICell) n (encA [tSlICell, tIUndo] x)
noncomputable def c_s_Undone : Con := roS [tSlICell, tIUndo] true (shF uSlICell) (q_s_Undone big)
theorem c_s_Undone_ok : ConOk Tryz.prog 98 c_s_Undone := roS_ok ⟨Tryz.f98, by kernel_rfl, rfl, by decide⟩ fun _ _ h => evX_ok l_s_Undone_ok (f := Tryz.f98) (by kernel_rfl) rfl (by kernel_rfl) (by kernel_rfl) big h
noncomputable def Q_s_Undone (n : Nat) (a0 : DSlICell) (a1 : DIUndo) : Option DSlICell := q_s_Undone n (a0, a1, ())
noncomputable def r_s_Undone_7 (n : Nat) (x : KD k_s_Undone_7.1) (y : BD k_s_Undone_7.2) := rounds (env (false, false, [3, 11, 17, 25, 28, 30, 46]) l_s_Undone) kp_s_Undone (body Tryz.f98) (finX (false, false, [3, 11, 17, 25, 28, 30, 46]) l_s_Undone [some uSlICell] Tryz.f98 (shF uSlICell) [.val tSlICell (zeroD tSlICell), .val tIUndo (zeroD tIUndo)]) n 7 k_s_Undone_7 x y
noncomputable def R_s_Undone_7 (n : Nat) (s0 : DSlLCell) (s5 : (List DXstruct_Key_string_Num_int_)) (s6 : Int) (b0_0 : ByteArray) (b0_1 : Bool) (b0_2 : Int) : Option DSlICell := r_s_Undone_7 n (s0, s5, s6, ()) ((b0_0, b0_1, b0_2, ()), ())
theorem Q_s_Undone_eq (n : Nat) (a0 : DSlICell) (a1 : DIUndo) : Q_s_Undone n a0 a1 =
    (Q_s_CellsOk big a0).bind fun y =>
 bif !y then if (0 : Nat) + List.length a0 ≤ lim then some a0 else none
 else
 (Q_s_KeyOk big a1.fst).bind fun y =>
 bif !y then if (0 : Nat) + List.length a0 ≤ lim then some a0 else none
 else
 (Q_s_l01In big a1.snd.snd.fst (0 : Int) (1000000000 : Int)).bind fun y =>
 bif !y then if (0 : Nat) + List.length a0 ≤ lim then some a0 else none
 else
 bif a1.snd.fst then (Q_s_l03Put big a0 (a1.fst, a1.snd.snd)).bind fun y => some y
 else R_s_Undone_7 n a0 [] (0 : Int) a1.fst a1.snd.fst a1.snd.snd.fst := by kernel_rfl
theorem R_s_Undone_7_eq (n : Nat) (s0 : DSlLCell) (s5 : (List DXstruct_Key_string_Num_int_)) (s6 : Int) (b0_0 : ByteArray) (b0_1 : Bool) (b0_2 : Int) : R_s_Undone_7 (n + 1) s0 s5 s6 b0_0 b0_1 b0_2 =
    bif decide (s6 < (↑(List.length s0) : Int)) then
 if (0 : Int) ≤ s6 then
 (nth s0 s6.toNat).bind fun y =>
 bif !decide (y.fst = b0_0) then
 if (0 : Int) ≤ s6 then
 (nth s0 s6.toNat).bind fun y =>
 if s5.length + [y].length ≤ lim then
 R_s_Undone_7 n s0 (s5.append [y]) (IntKind.i64.wrap (s6 + (1 : Int))) b0_0 b0_1 b0_2
 else none
 else none
 else R_s_Undone_7 n s0 s5 (IntKind.i64.wrap (s6 + (1 : Int))) b0_0 b0_1 b0_2
 else none
 else some s5 := by kernel_rfl

end Go.Sx.Tryz

set_option maxRecDepth 100000
namespace Go.Sx.Tryz
open Go Go.Sx Go.Proofs

noncomputable def l_s_UndoneAll : List (Nat × Con) := [(98, c_s_Undone)]
theorem l_s_UndoneAll_ok : ∀ q ∈ l_s_UndoneAll, ConOk Tryz.prog q.1 q.2 := Tryz.cons_cons c_s_Undone_ok (Tryz.cons_nil)
abbrev k_s_UndoneAll_3 : List Keep × List BK := ([.drop, .ro tSlLUndo, .drop, .drop, .drop, .own tXstruct_Key_string_Num_int_, .ro tInt64, .drop, .drop, .drop, .drop, .drop, .drop, .drop, .drop, .drop, .drop, .drop, .drop, .drop, .drop, .drop, .drop, .drop], [])
def kp_s_UndoneAll : KP := [(3, k_s_UndoneAll_3)]
noncomputable def q_s_UndoneAll (n : Nat) (x : Args [tSlICell, tSlIUndo]) := evX (false, false, []) l_s_UndoneAll kp_s_UndoneAll [some uSlICell] Tryz.f70 (shF uSlICell) n (encA [tSlICell, tSlIUndo] x)
noncomputable def c_s_UndoneAll : Con := roS [tSlICell, tSlIUndo] true (shF uSlICell) (q_s_UndoneAll big)
theorem c_s_UndoneAll_ok : ConOk Tryz.prog 70 c_s_UndoneAll := roS_ok ⟨Tryz.f70, by kernel_rfl, rfl, by decide⟩ fun _ _ h => evX_ok l_s_UndoneAll_ok (f := Tryz.f70) (by kernel_rfl) rfl (by kernel_rfl) (by kernel_rfl) big h
noncomputable def Q_s_UndoneAll (n : Nat) (a0 : DSlICell) (a1 : DSlIUndo) : Option DSlICell := q_s_UndoneAll n (a0, a1, ())
noncomputable def r_s_UndoneAll_3 (n : Nat) (x : KD k_s_UndoneAll_3.1) (y : BD k_s_UndoneAll_3.2) := rounds (env (false, false, []) l_s_UndoneAll) kp_s_UndoneAll (body Tryz.f70) (finX (false, false, []) l_s_UndoneAll [some uSlICell] Tryz.f70 (shF uSlICell) [.val tSlICell (zeroD tSlICell), .val tSlIUndo (zeroD tSlIUndo)]) n 3 k_s_UndoneAll_3 x y
noncomputable def R_s_UndoneAll_3 (n : Nat) (s1 : DSlLUndo) (s5 : (List DXstruct_Key_string_Num_int_)) (s6 : Int) : Option DSlICell := r_s_UndoneAll_3 n (s1, s5, s6, ()) ()
theorem Q_s_UndoneAll_eq (n : Nat) (a0 : DSlICell) (a1 : DSlIUndo) : Q_s_UndoneAll n a0 a1 =
    if (0 : Nat) + List.length a0 ≤ lim then
 R_s_UndoneAll_3 n a1 a0 (IntKind.i64.wrap ((↑(List.length a1) : Int) - (1 : Int)))
 else none := by kernel_rfl
theorem R_s_UndoneAll_3_eq (n : Nat) (s1 : DSlLUndo) (s5 : (List DXstruct_Key_string_Num_int_)) (s6 : Int) : R_s_UndoneAll_3 (n + 1) s1 s5 s6 =
    bif decide ((0 : Int) ≤ s6) then
 if (0 : Int) ≤ s6 then
 (nth s1 s6.toNat).bind fun y =>
 (Q_s_Undone big s5 y).bind fun y => R_s_UndoneAll_3 n s1 y (IntKind.i64.wrap (s6 - (1 : Int)))
 else none
 else some s5 := by kernel_rfl

end Go.Sx.Tryz

set_option maxRecDepth 100000
namespace Go.Sx.Tryz
open Go Go.Sx Go.Proofs

noncomputable def l_i_UndoOf : List (Nat × Con) := [(108, c_i_CellAt)]
theorem l_i_UndoOf_ok : ∀ q ∈ l_i_UndoOf, ConOk Tryz.prog q.1 q.2 := Tryz.cons_cons c_i_CellAt_ok (Tryz.cons_nil)
def kp_i_UndoOf : KP := []
noncomputable def q_i_UndoOf (n : Nat) (x : Args [tSlICell, tString]) := evX (false, false, []) l_i_UndoOf kp_i_UndoOf [none] Tryz.f95 (shV tIUndo) n (encA [tSlICell, tString] x)
noncomputable def c_i_UndoOf : Con := roS [tSlICell, tString] true (shV tIUndo) (q_i_UndoOf big)
theorem c_i_UndoOf_ok : ConOk Tryz.prog 95 c_i_UndoOf := roS_ok ⟨Tryz.f95, by kernel_rfl, rfl, by decide⟩ fun _ _ h => evX_ok l_i_UndoOf_ok (f := Tryz.f95) (by kernel_rfl) rfl (by kernel_rfl) (by kernel_rfl) big h
noncomputable def Q_i_UndoOf (n : Nat) (a0 : DSlICell) (a1 : ByteArray) : Option DIUndo := q_i_UndoOf n (a0, a1, ())
theorem Q_i_UndoOf_eq (n : Nat) (a0 : DSlICell) (a1 : ByteArray) : Q_i_UndoOf n a0 a1 =
    (Q_i_CellAt big a0 a1).bind fun y =>
 bif decide (y < (0 : Int)) then some (a1, false, (0 : Int), PUnit.unit)
 else if (0 : Int) ≤ y then (nth a0 (Int.toNat y)).bind fun y => some (a1, true, y.snd) else none := by kernel_rfl

end Go.Sx.Tryz

set_option maxRecDepth 100000
namespace Go.Sx.Tryz
open Go Go.Sx Go.Proofs

noncomputable def l_i_DoneBack : List (Nat × Con) := [(80, c_g_Clone_ICell), (95, c_i_UndoOf), (87, c_i_Done)]
theorem l_i_DoneBack_ok : ∀ q ∈ l_i_DoneBack, ConOk Tryz.prog q.1 q.2 := Tryz.cons_cons c_g_Clone_ICell_ok (Tryz.cons_cons c_i_UndoOf_ok (Tryz.cons_cons c_i_Done_ok (Tryz.cons_nil)))
abbrev k_i_DoneBack_4 : List Keep × List BK := ([.drop, .drop, .drop, .drop, .drop, .drop, .own tXstruct_Key_string_Num_int_, .own tXstruct_Key_string_Had_bool_Num_int_, .drop, .drop, .drop, .drop, .drop, .ro tSlLCmd, .ro tInt64, .ro tInt64, .drop, .drop, .drop, .drop, .drop, .drop, .drop, .drop, .drop, .drop, .drop, .drop, .drop, .drop, .drop, .drop, .drop, .drop, .drop], [])
def kp_i_DoneBack : KP := [(4, k_i_DoneBack_4)]
noncomputable def q_i_DoneBack (n : Nat) (x : Args [tSlICell, tSlICmd]) := evX (false, false, [9, 21, 999997]) l_i_DoneBack kp_i_DoneBack [some uSlICell, some uSlIUndo] Tryz.f65 (shT [(true, uSlICell), (true, uSlIUndo)]) n (encA [tSlICell, tSlICmd] x)
noncomputable def c_i_DoneBack : Con := roS [tSlICell, tSlICmd] true (shT [(true, uSlICell), (true, uSlIUndo)]) (q_i_DoneBack big)
theorem c_i_DoneBack_ok : ConOk Tryz.prog 65 c_i_DoneBack := roS_ok ⟨Tryz.f65, by kernel_rfl, rfl, by decide⟩ fun _ _ h => evX_ok l_i_DoneBack_ok (f := Tryz.f65) (by kernel_rfl) rfl (by kernel_rfl) (by kernel_rfl) big h
noncomputable def Q_i_DoneBack (n : Nat) (a0 : DSlICell) (a1 : DSlICmd) : Option (DSlICell × DSlIUndo × Unit) := q_i_DoneBack n (a0, a1, ())
noncomputable def r_i_DoneBack_4 (n : Nat) (x : KD k_i_DoneBack_4.1) (y : BD k_i_DoneBack_4.2) := rounds (env (false, false, [9, 21, 999997]) l_i_DoneBack) kp_i_DoneBack (body Tryz.f65) (finX (false, false, [9, 21, 999997]) l_i_DoneBack [some uSlICell, some uSlIUndo] Tryz.f65 (shT [(true, uSlICell), (true, uSlIUndo)]) [.val tSlICell (zeroD tSlICell), .val tSlICmd (zeroD tSlICmd)]) n 4 k_i_DoneBack_4 x y
noncomputable def R_i_DoneBack_4 (n : Nat) (s6 : (List DXstruct_Key_string_Num_int_)) (s7 : (List DXstruct_Key_string_Had_bool_Num_int_)) (s13 : DSlLCmd) (s14 : Int) (s15 : Int) : Option (DSlICell × DSlIUndo × Unit) := r_i_DoneBack_4 n (s6, s7, s13, s14, s15, ()) ()
theorem Q_i_DoneBack_eq (n : Nat) (a0 : DSlICell) (a1 : DSlICmd) : Q_i_DoneBack n a0 a1 =
    (Q_g_Clone_ICell big a0).bind fun y => R_i_DoneBack_4 n y [] a1 (↑(List.length a1) : Int) (0 : Int) := by kernel_rfl
theorem R_i_DoneBack_4_eq (n : Nat) (s6 : (List DXstruct_Key_string_Num_int_)) (s7 : (List DXstruct_Key_string_Had_bool_Num_int_)) (s13 : DSlLCmd) (s14 : Int) (s15 : Int) : R_i_DoneBack_4 (n + 1) s6 s7 s13 s14 s15 =
    bif decide (s15 < s14) then
 if (0 : Int) ≤ s15 then
 (nth s13 s15.toNat).bind fun y =>
 (Q_i_UndoOf big s6 y.snd.fst).bind fun y_1 =>
 if s7.length + [y_1].length ≤ lim2 then
 (Q_i_Done big s6 y).bind fun y =>
 R_i_DoneBack_4 n y.fst (s7.append [y_1]) s13 s14 (IntKind.i64.wrap (s15 + (1 : Int)))
 else none
 else none
 else some (s6, s7, PUnit.unit) := by kernel_rfl

end Go.Sx.Tryz

set_option maxRecDepth 100000
namespace Go.Sx.Tryz
open Go Go.Sx Go.Proofs

noncomputable def l_s_UndoOf : List (Nat × Con) := [(101, c_s_CellAt)]
theorem l_s_UndoOf_ok : ∀ q ∈ l_s_UndoOf, ConOk Tryz.prog q.1 q.2 := Tryz.cons_cons c_s_CellAt_ok (Tryz.cons_nil)
def kp_s_UndoOf : KP := []
noncomputable def q_s_UndoOf (n : Nat) (x : Args [tSlICell, tString]) := evX (false, false, []) l_s_UndoOf kp_s_UndoOf [none] Tryz.f94 (shV tIUndo) n (encA [tSlICell, tString] x)
noncomputable def c_s_UndoOf : Con := roS [tSlICell, tString] true (shV tIUndo) (q_s_UndoOf big)
theorem c_s_UndoOf_ok : ConOk Tryz.prog 94 c_s_UndoOf := roS_ok ⟨Tryz.f94, by kernel_rfl, rfl, by decide⟩ fun _ _ h => evX_ok l_s_UndoOf_ok (f := Tryz.f94) (by kernel_rfl) rfl (by kernel_rfl) (by kernel_rfl) big h
noncomputable def Q_s_UndoOf (n : Nat) (a0 : DSlICell) (a1 : ByteArray) : Option DIUndo := q_s_UndoOf n (a0, a1, ())
theorem Q_s_UndoOf_eq (n : Nat) (a0 : DSlICell) (a1 : ByteArray) : Q_s_UndoOf n a0 a1 =
    (Q_s_CellAt big a0 a1).bind fun y =>
 bif decide (y < (0 : Int)) then some (a1, false, (0 : Int), PUnit.unit)
 else if (0 : Int) ≤ y then (nth a0 (Int.toNat y)).bind fun y => some (a1, true, y.snd) else none := by kernel_rfl

end Go.Sx.Tryz

set_option maxRecDepth 100000
namespace Go.Sx.Tryz
open Go Go.Sx Go.Proofs

noncomputable def l_s_DoneBack : List (Nat × Con) := [(94, c_s_UndoOf), (72, c_s_Done)]
theorem l_s_DoneBack_ok : ∀ q ∈ l_s_DoneBack, ConOk Tryz.prog q.1 q.2 := Tryz.cons_cons c_s_UndoOf_ok (Tryz.cons_cons c_s_Done_ok (Tryz.cons_nil))
abbrev k_s_DoneBack_4 : List Keep × List BK := ([.drop, .ro tSlLCmd, .drop, .drop, .drop, .drop, .own tXstruct_Key_string_Num_int_, .own tXstruct_Key_string_Had_bool_Num_int_, .ro tInt64, .drop, .drop, .drop, .drop, .drop, .drop, .drop, .drop, .drop, .drop, .drop, .drop, .drop, .drop, .drop, .drop, .drop, .drop, .drop, .drop, .drop, .drop, .drop, .drop, .drop, .drop, .drop, .drop, .drop, .drop, .drop], [])
def kp_s_DoneBack : KP := [(4, k_s_DoneBack_4)]
noncomputable def q_s_DoneBack (n : Nat) (x : Args [tSlICell, tSlICmd]) := evX (false, false, []) l_s_DoneBack kp_s_DoneBack [some uSlICell, some uSlIUndo] Tryz.f64 (shT [(true, uSlICell), (true, uSlIUndo)]) n (encA [tSlICell, tSlICmd] x)
noncomputable def c_s_DoneBack : Con := roS [tSlICell, tSlICmd] true (shT [(true, uSlICell), (true, uSlIUndo)]) (q_s_DoneBack big)
theorem c_s_DoneBack_ok : ConOk Tryz.prog 64 c_s_DoneBack := roS_ok ⟨Tryz.f64, by kernel_rfl, rfl, by decide⟩ fun _ _ h => evX_ok l_s_DoneBack_ok (f := Tryz.f64) (by kernel_rfl) rfl (by kernel_rfl) (by kernel_rfl) big h
noncomputable def Q_s_DoneBack (n : Nat) (a0 : DSlICell) (a1 : DSlICmd) : Option (DSlICell × DSlIUndo × Unit) := q_s_DoneBack n (a0, a1, ())
noncomputable def r_s_DoneBack_4 (n : Nat) (x : KD k_s_DoneBack_4.1) (y : BD k_s_DoneBack_4.2) := rounds (env (false, false, []) l_s_DoneBack) kp_s_DoneBack (body Tryz.f64) (finX (false, false, []) l_s_DoneBack [some uSlICell, some uSlIUndo] Tryz.f64 (shT [(true, uSlICell), (true, uSlIUndo)]) [.val tSlICell (zeroD tSlICell), .val tSlICmd (zeroD tSlICmd)]) n 4 k_s_DoneBack_4 x y
noncomputable def R_s_DoneBack_4 (n : Nat) (s1 : DSlLCmd) (s6 : (List DXstruct_Key_string_Num_int_)) (s7 : (List DXstruct_Key_string_Had_bool_Num_int_)) (s8 : Int) : Option (DSlICell × DSlIUndo × Unit) := r_s_DoneBack_4 n (s1, s6, s7, s8, ()) ()
theorem Q_s_DoneBack_eq (n : Nat) (a0 : DSlICell) (a1 : DSlICmd) : Q_s_DoneBack n a0 a1 =
    if (0 : Nat) + List.length a0 ≤ lim then R_s_DoneBack_4 n a1 a0 [] (0 : Int) else none := by kernel_rfl
theorem R_s_DoneBack_4_eq (n : Nat) (s1 : DSlLCmd) (s6 : (List DXstruct_Key_string_Num_int_)) (s7 : (List DXstruct_Key_string_Had_bool_Num_int_)) (s8 : Int) : R_s_DoneBack_4 (n + 1) s1 s6 s7 s8 =
    bif decide (s8 < (↑(List.length s1) : Int)) then
 if (0 : Int) ≤ s8 then
 (nth s1 s8.toNat).bind fun y =>
 (Q_s_UndoOf big s6 y.snd.fst).bind fun y =>
 if s7.length + [y].length ≤ lim then
 if (0 : Int) ≤ s8 then
 (nth s1 s8.toNat).bind fun y_1 =>
 (Q_s_Done big s6 y_1).bind fun y_2 =>
 R_s_DoneBack_4 n s1 y_2.fst (s7.append [y]) (IntKind.i64.wrap (s8 + (1 : Int)))
 else none
 else none
 else none
 else some (s6, s7, PUnit.unit) := by kernel_rfl

end Go.Sx.Tryz

set_option maxRecDepth 100000
namespace Go.Sx.Tryz
open Go Go.Sx Go.Proofs

noncomputable def l_i_lastRow : List (Nat × Con) := []
theorem l_i_lastRow_ok : ∀ q ∈ l_i_lastRow, ConOk Tryz.prog q.1 q.2 := Tryz.cons_nil
def kp_i_lastRow : KP := []
noncomputable def q_i_lastRow (n : Nat) (x : Args [tIPeer]) := evX (false, false, [1, 3, 7, 9]) l_i_lastRow kp_i_lastRow [none] Tryz.f39 (shV tInt) n (encA [tIPeer] x)
noncomputable def c_i_lastRow : Con := roS [tIPeer] true (shV tInt) (q_i_lastRow big)
theorem c_i_lastRow_ok : ConOk Tryz.prog 39 c_i_lastRow := roS_ok ⟨Tryz.f39, by kernel_rfl, rfl, by decide⟩ fun _ _ h => evX_ok l_i_lastRow_ok (f := Tryz.f39) (by kernel_rfl) rfl (by kernel_rfl) (by kernel_rfl) big h
noncomputable def Q_i_lastRow (n : Nat) (a0 : DIPeer) : Option Int := q_i_lastRow n (a0, ())
theorem Q_i_lastRow_eq (n : Nat) (a0 : DIPeer) : Q_i_lastRow n a0 =
    bif decide ((↑(List.length a0.snd.snd.snd.snd.snd.fst) : Int) = (0 : Int)) then some (0 : Int)
 else
 if (0 : Int) ≤ IntKind.i64.wrap ((↑(List.length a0.snd.snd.snd.snd.snd.fst) : Int) - (1 : Int)) then
 (nth a0.snd.snd.snd.snd.snd.fst
 (IntKind.i64.wrap ((↑(List.length a0.snd.snd.snd.snd.snd.fst) : Int) - (1 : Int))).toNat).bind
 fun y => some y
 else none := by kernel_rfl

end Go.Sx.Tryz

set_option maxRecDepth 100000
namespace Go.Sx.Tryz
open Go Go.Sx Go.Proofs

noncomputable def l_i_takenBack : List (Nat × Con) := [(40, c_i_clonePeer), (84, c_i_UndoneAll)]
theorem l_i_takenBack_ok : ∀ q ∈ l_i_takenBack, ConOk Tryz.prog q.1 q.2 := Tryz.cons_cons c_i_clonePeer_ok (Tryz.cons_cons c_i_UndoneAll_ok (Tryz.cons_nil))
def kp_i_takenBack : KP := []
noncomputable def q_i_takenBack (n : Nat) (x : Args [tIPeer]) := evX (false, false, [1, 3, 6, 8]) l_i_takenBack kp_i_takenBack [some uIPeer] Tryz.f41 (shF uIPeer) n (encA [tIPeer] x)
noncomputable def c_i_takenBack : Con := roS [tIPeer] true (shF uIPeer) (q_i_takenBack big)
theorem c_i_takenBack_ok : ConOk Tryz.prog 41 c_i_takenBack := roS_ok ⟨Tryz.f41, by kernel_rfl, rfl, by decide⟩ fun _ _ h => evX_ok l_i_takenBack_ok (f := Tryz.f41) (by kernel_rfl) rfl (by kernel_rfl) (by kernel_rfl) big h
noncomputable def Q_i_takenBack (n : Nat) (a0 : DIPeer) : Option DIPeer := q_i_takenBack n (a0, ())
theorem Q_i_takenBack_eq (n : Nat) (a0 : DIPeer) : Q_i_takenBack n a0 =
    (Q_i_clonePeer big a0).bind fun y =>
 (Q_i_UndoneAll big a0.snd.snd.snd.snd.snd.snd.fst a0.snd.snd.snd.snd.snd.snd.snd.snd.fst).bind fun y_1 =>
 some
 (y.fst, y.snd.fst, y.snd.snd.fst, y.snd.snd.snd.fst, y.snd.snd.snd.snd.fst, y.snd.snd.snd.snd.snd.fst, y_1, [],
 [], y.snd.snd.snd.snd.snd.snd.snd.snd.snd) := by kernel_rfl

end Go.Sx.Tryz

set_option maxRecDepth 100000
namespace Go.Sx.Tryz
open Go Go.Sx Go.Proofs

noncomputable def l_i_Through : List (Nat × Con) := [(39, c_i_lastRow), (38, c_i_Extends), (40, c_i_clonePeer), (41, c_i_takenBack), (42, c_i_RowAfter), (44, c_i_cmdsOf), (43, c_i_DoneAll)]
theorem l_i_Through_ok : ∀ q ∈ l_i_Through, ConOk Tryz.prog q.1 q.2 := Tryz.cons_cons c_i_lastRow_ok (Tryz.cons_cons c_i_Extends_ok (Tryz.cons_cons c_i_clonePeer_ok (Tryz.cons_cons c_i_takenBack_ok (Tryz.cons_cons c_i_RowAfter_ok (Tryz.cons_cons c_i_cmdsOf_ok (Tryz.cons_cons c_i_DoneAll_ok (Tryz.cons_nil)))))))
def kp_i_Through : KP := []
noncomputable def q_i_Through (n : Nat) (x : Args [tSlIBlock, tIPeer, tInt]) := evX (false, false, [4, 7, 24, 30]) l_i_Through kp_i_Through [some uIPeer] Tryz.f10 (shF uIPeer) n (encA [tSlIBlock, tIPeer, tInt] x)
noncomputable def c_i_Through : Con := roS [tSlIBlock, tIPeer, tInt] true (shF uIPeer) (q_i_Through big)
theorem c_i_Through_ok : ConOk Tryz.prog 10 c_i_Through := roS_ok ⟨Tryz.f10, by kernel_rfl, rfl, by decide⟩ fun _ _ h => evX_ok l_i_Through_ok (f := Tryz.f10) (by kernel_rfl) rfl (by kernel_rfl) (by kernel_rfl) big h
noncomputable def Q_i_Through (n : Nat) (a0 : DSlIBlock) (a1 : DIPeer) (a2 : Int) : Option DIPeer := q_i_Through n (a0, a1, a2, ())
theorem Q_i_Through_eq (n : Nat) (a0 : DSlIBlock) (a1 : DIPeer) (a2 : Int) : Q_i_Through n a0 a1 a2 =
    (Q_i_lastRow big a1).bind fun y =>
 (Q_i_Extends big a0 a2 y).bind fun y =>
 bif !y then (Q_i_clonePeer big a1).bind fun y => some y
 else
 (Q_i_takenBack big a1).bind fun y =>
 (Q_i_lastRow big a1).bind fun y_1 =>
 (Q_i_RowAfter big a0 a2 y_1).bind fun y_2 =>
 if List.length y.snd.snd.snd.snd.snd.fst + List.length y_2 ≤ lim then
 (Q_i_cmdsOf big a0 y_2).bind fun y_3 =>
 (Q_i_DoneAll big y.snd.snd.snd.snd.snd.snd.fst y_3).bind fun y_4 =>
 some
 (y.fst, y.snd.fst, y.snd.snd.fst, y.snd.snd.snd.fst, y.snd.snd.snd.snd.fst,
 List.append y.snd.snd.snd.snd.snd.fst y_2, y_4.fst, y.snd.snd.snd.snd.snd.snd.snd)
 else none := by kernel_rfl

end Go.Sx.Tryz

set_option maxRecDepth 100000
namespace Go.Sx.Tryz
open Go Go.Sx Go.Proofs

noncomputable def l_s_l10Last : List (Nat × Con) := []
theorem l_s_l10Last_ok : ∀ q ∈ l_s_l10Last, ConOk Tryz.prog q.1 q.2 := Tryz.cons_nil
def kp_s_l10Last : KP := []
noncomputable def q_s_l10Last (n : Nat) (x : Args [tIPeer]) := evX (false, false, [1, 3, 7, 9]) l_s_l10Last kp_s_l10Last [none] Tryz.f26 (shV tInt) n (encA [tIPeer] x)
noncomputable def c_s_l10Last : Con := roS [tIPeer] true (shV tInt) (q_s_l10Last big)
theorem c_s_l10Last_ok : ConOk Tryz.prog 26 c_s_l10Last := roS_ok ⟨Tryz.f26, by kernel_rfl, rfl, by decide⟩ fun _ _ h => evX_ok l_s_l10Last_ok (f := Tryz.f26) (by kernel_rfl) rfl (by kernel_rfl) (by kernel_rfl) big h
noncomputable def Q_s_l10Last (n : Nat) (a0 : DIPeer) : Option Int := q_s_l10Last n (a0, ())
theorem Q_s_l10Last_eq (n : Nat) (a0 : DIPeer) : Q_s_l10Last n a0 =
    bif decide ((↑(List.length a0.snd.snd.snd.snd.snd.fst) : Int) = (0 : Int)) then some (0 : Int)
 else
 if (0 : Int) ≤ IntKind.i64.wrap ((↑(List.length a0.snd.snd.snd.snd.snd.fst) : Int) - (1 : Int)) then
 (nth a0.snd.snd.snd.snd.snd.fst
 (IntKind.i64.wrap ((↑(List.length a0.snd.snd.snd.snd.snd.fst) : Int) - (1 : Int))).toNat).bind
 fun y => some y
 else none := by kernel_rfl

end Go.Sx.Tryz

set_option maxRecDepth 100000
namespace Go.Sx.Tryz
open Go Go.Sx Go.Proofs

noncomputable def l_s_l10Back : List (Nat × Con) := [(70, c_s_UndoneAll)]
theorem l_s_l10Back_ok : ∀ q ∈ l_s_l10Back, ConOk Tryz.prog q.1 q.2 := Tryz.cons_cons c_s_UndoneAll_ok (Tryz.cons_nil)
def kp_s_l10Back : KP := []
noncomputable def q_s_l10Back (n : Nat) (x : AP.denL [.mu uIPeer]) := evX (false, false, [2, 3, 4, 5, 7, 8, 9, 12, 14, 16, 18, 20]) l_s_l10Back kp_s_l10Back [] Tryz.f27 (shO shN [.mu uIPeer]) n (AP.encL [.mu uIPeer] x)
noncomputable def c_s_l10Back : Con := apS [.mu uIPeer] true (shO shN [.mu uIPeer]) (q_s_l10Back big)
theorem c_s_l10Back_ok : ConOk Tryz.prog 27 c_s_l10Back := apS_ok ⟨Tryz.f27, by kernel_rfl, rfl, by decide⟩ fun _ _ h => evX_ok l_s_l10Back_ok (f := Tryz.f27) (by kernel_rfl) rfl (by kernel_rfl) (by kernel_rfl) big h
noncomputable def Q_s_l10Back (n : Nat) (a0 : DIPeer) : Option (Unit × DIPeer × Unit) := q_s_l10Back n (a0, ())
theorem Q_s_l10Back_eq (n : Nat) (a0 : DIPeer) : Q_s_l10Back n a0 =
    (Q_s_UndoneAll big a0.snd.snd.snd.snd.snd.snd.fst a0.snd.snd.snd.snd.snd.snd.snd.snd.fst).bind fun y =>
 some
 (PUnit.unit,
 (a0.fst, a0.snd.fst, a0.snd.snd.fst, a0.snd.snd.snd.fst, a0.snd.snd.snd.snd.fst, a0.snd.snd.snd.snd.snd.fst, y,
 [], [], a0.snd.snd.snd.snd.snd.snd.snd.snd.snd),
 PUnit.unit) := by kernel_rfl

end Go.Sx.Tryz

set_option maxRecDepth 100000
namespace Go.Sx.Tryz
open Go Go.Sx Go.Proofs

noncomputable def l_s_Through : List (Nat × Con) := [(24, c_s_l09Copy), (26, c_s_l10Last), (25, c_s_Extends), (27, c_s_l10Back), (28, c_s_RowAfter), (29, c_s_DoneAll)]
theorem l_s_Through_ok : ∀ q ∈ l_s_Through, ConOk Tryz.prog q.1 q.2 := Tryz.cons_cons c_s_l09Copy_ok (Tryz.cons_cons c_s_l10Last_ok (Tryz.cons_cons c_s_Extends_ok (Tryz.cons_cons c_s_l10Back_ok (Tryz.cons_cons c_s_RowAfter_ok (Tryz.cons_cons c_s_DoneAll_ok (Tryz.cons_nil))))))
abbrev k_s_Through_7 : List Keep × List BK := ([.ro tSlLBlock, .drop, .drop, .drop, .drop, .drop, .is (.ptr 1 0), .is (.ptr 8 0), .is (.own 15 0), .ro tInt64, .drop, .drop, .drop, .drop, .drop, .drop, .drop, .drop, .drop, .drop, .drop, .drop, .drop, .drop, .drop, .drop, .drop, .drop, .drop, .drop, .drop, .drop, .drop, .drop, .drop, .drop, .drop, .drop, .drop, .drop, .drop, .drop, .drop, .drop, .drop, .drop, .drop, .drop, .drop, .drop, .drop, .drop, .drop, .drop, .drop, .drop], [.drop, .vars [.ro tInt64, .ro tInt64, .ro tInt64, .ro tInt64, .ro tInt64, .ro tInt64, .ro tInt64, .ro tInt64, .ro tInt64, .ro tInt64, .ro tInt64, .ro tInt64, .ro tInt64, .ro tInt64, .own tInt, .own tICell, .own tInt, .own tIUndo, .own tIVote, .own tILetter, .ro tInt64], .drop, .drop, .drop, .drop, .drop, .drop, .vars [.ro tInt64, .ro tInt64, .ro tInt64, .ro tInt64, .ro tInt64, .ro tInt64, .ro tInt64, .ro tInt64, .ro tInt64, .ro tInt64, .ro tInt64, .ro tInt64, .ro tInt64, .ro tInt64, .own tInt64, .own tXstruct_Key_string_Num_int_, .own tInt64, .own tXstruct_Key_string_Had_bool_Num_int_, .own tXstruct_Phase_int_View_int_Block_int_Sign, .own tXstruct_Kind_int_From_int_To_int_View_int, .ro tInt64], .drop, .drop, .drop, .drop, .drop, .drop, .arr tInt64])
def kp_s_Through : KP := [(7, k_s_Through_7)]
noncomputable def q_s_Through (n : Nat) (x : Args [tSlIBlock, tIPeer, tInt]) := evX (false, false, [4, 7, 31, 41]) l_s_Through kp_s_Through [some uIPeer] Tryz.f7 (shF uIPeer) n (encA [tSlIBlock, tIPeer, tInt] x)
noncomputable def c_s_Through : Con := roS [tSlIBlock, tIPeer, tInt] true (shF uIPeer) (q_s_Through big)
theorem c_s_Through_ok : ConOk Tryz.prog 7 c_s_Through := roS_ok ⟨Tryz.f7, by kernel_rfl, rfl, by decide⟩ fun _ _ h => evX_ok l_s_Through_ok (f := Tryz.f7) (by kernel_rfl) rfl (by kernel_rfl) (by kernel_rfl) big h
noncomputable def Q_s_Through (n : Nat) (a0 : DSlIBlock) (a1 : DIPeer) (a2 : Int) : Option DIPeer := q_s_Through n (a0, a1, a2, ())
noncomputable def r_s_Through_7 (n : Nat) (x : KD k_s_Through_7.1) (y : BD k_s_Through_7.2) := rounds (env (false, false, [4, 7, 31, 41]) l_s_Through) kp_s_Through (body Tryz.f7) (finX (false, false, [4, 7, 31, 41]) l_s_Through [some uIPeer] Tryz.f7 (shF uIPeer) [.val tSlIBlock (zeroD tSlIBlock), .val tIPeer (zeroD tIPeer), .val tInt (zeroD tInt)]) n 7 k_s_Through_7 x y
noncomputable def R_s_Through_7 (n : Nat) (s0 : DSlLBlock) (s9 : Int) (b1_0 : Int) (b1_1 : Int) (b1_2 : Int) (b1_3 : Int) (b1_4 : Int) (b1_5 : Int) (b1_6 : Int) (b1_7 : Int) (b1_8 : Int) (b1_9 : Int) (b1_10 : Int) (b1_11 : Int) (b1_12 : Int) (b1_13 : Int) (b1_14 : (List Int)) (b1_15 : (List DICell)) (b1_16 : (List Int)) (b1_17 : (List DIUndo)) (b1_18 : (List DIVote)) (b1_19 : (List DILetter)) (b1_20 : Int) (b8_0 : Int) (b8_1 : Int) (b8_2 : Int) (b8_3 : Int) (b8_4 : Int) (b8_5 : Int) (b8_6 : Int) (b8_7 : Int) (b8_8 : Int) (b8_9 : Int) (b8_10 : Int) (b8_11 : Int) (b8_12 : Int) (b8_13 : Int) (b8_14 : (List Int)) (b8_15 : (List DXstruct_Key_string_Num_int_)) (b8_16 : (List Int)) (b8_17 : (List DXstruct_Key_string_Had_bool_Num_int_)) (b8_18 : (List DXstruct_Phase_int_View_int_Block_int_Sign)) (b8_19 : (List DXstruct_Kind_int_From_int_To_int_View_int)) (b8_20 : Int) (b15 : (List Int)) : Option DIPeer := r_s_Through_7 n (s0, s9, ()) ((b1_0, b1_1, b1_2, b1_3, b1_4, b1_5, b1_6, b1_7, b1_8, b1_9, b1_10, b1_11, b1_12, b1_13, b1_14, b1_15, b1_16, b1_17, b1_18, b1_19, b1_20, ()), (b8_0, b8_1, b8_2, b8_3, b8_4, b8_5, b8_6, b8_7, b8_8, b8_9, b8_10, b8_11, b8_12, b8_13, b8_14, b8_15, b8_16, b8_17, b8_18, b8_19, b8_20, ()), b15, ())
theorem Q_s_Through_eq (n : Nat) (a0 : DSlIBlock) (a1 : DIPeer) (a2 : Int) : Q_s_Through n a0 a1 a2 =
    (Q_s_l09Copy big a1).bind fun y =>
 (Q_s_l10Last big a1).bind fun y_1 =>
 (Q_s_Extends big a0 a2 y_1).bind fun y_2 =>
 bif !y_2 then some y
 else
 (Q_s_l10Back big y).bind fun y =>
 (Q_s_l10Last big a1).bind fun y_3 =>
 (Q_s_RowAfter big a0 a2 y_3).bind fun y_4 =>
 R_s_Through_7 n a0 (0 : Int) (0 : Int) (0 : Int) (0 : Int) (0 : Int) (0 : Int) (0 : Int) (0 : Int)
 (0 : Int) (0 : Int) (0 : Int) (0 : Int) (0 : Int) (0 : Int) (0 : Int) [] [] [] [] [] [] (0 : Int)
 y.snd.fst.fst y.snd.fst.snd.fst y.snd.fst.snd.snd.fst.fst y.snd.fst.snd.snd.fst.snd.fst
 y.snd.fst.snd.snd.fst.snd.snd.fst y.snd.fst.snd.snd.fst.snd.snd.snd.fst y.snd.fst.snd.snd.snd.fst.fst
 y.snd.fst.snd.snd.snd.fst.snd.fst y.snd.fst.snd.snd.snd.fst.snd.snd.fst
 y.snd.fst.snd.snd.snd.fst.snd.snd.snd.fst y.snd.fst.snd.snd.snd.snd.fst.fst
 y.snd.fst.snd.snd.snd.snd.fst.snd.fst y.snd.fst.snd.snd.snd.snd.fst.snd.snd.fst
 y.snd.fst.snd.snd.snd.snd.fst.snd.snd.snd.fst y.snd.fst.snd.snd.snd.snd.snd.fst
 y.snd.fst.snd.snd.snd.snd.snd.snd.fst y.snd.fst.snd.snd.snd.snd.snd.snd.snd.fst
 y.snd.fst.snd.snd.snd.snd.snd.snd.snd.snd.fst y.snd.fst.snd.snd.snd.snd.snd.snd.snd.snd.snd.fst
 y.snd.fst.snd.snd.snd.snd.snd.snd.snd.snd.snd.snd.fst
 y.snd.fst.snd.snd.snd.snd.snd.snd.snd.snd.snd.snd.snd.fst y_4 := by kernel_rfl
theorem R_s_Through_7_eq (n : Nat) (s0 : DSlLBlock) (s9 : Int) (b1_0 : Int) (b1_1 : Int) (b1_2 : Int) (b1_3 : Int) (b1_4 : Int) (b1_5 : Int) (b1_6 : Int) (b1_7 : Int) (b1_8 : Int) (b1_9 : Int) (b1_10 : Int) (b1_11 : Int) (b1_12 : Int) (b1_13 : Int) (b1_14 : (List Int)) (b1_15 : (List DICell)) (b1_16 : (List Int)) (b1_17 : (List DIUndo)) (b1_18 : (List DIVote)) (b1_19 : (List DILetter)) (b1_20 : Int) (b8_0 : Int) (b8_1 : Int) (b8_2 : Int) (b8_3 : Int) (b8_4 : Int) (b8_5 : Int) (b8_6 : Int) (b8_7 : Int) (b8_8 : Int) (b8_9 : Int) (b8_10 : Int) (b8_11 : Int) (b8_12 : Int) (b8_13 : Int) (b8_14 : (List Int)) (b8_15 : (List DXstruct_Key_string_Num_int_)) (b8_16 : (List Int)) (b8_17 : (List DXstruct_Key_string_Had_bool_Num_int_)) (b8_18 : (List DXstruct_Phase_int_View_int_Block_int_Sign)) (b8_19 : (List DXstruct_Kind_int_From_int_To_int_View_int)) (b8_20 : Int) (b15 : (List Int)) : R_s_Through_7 (n + 1) s0 s9 b1_0 b1_1 b1_2 b1_3 b1_4 b1_5 b1_6 b1_7 b1_8 b1_9 b1_10 b1_11 b1_12 b1_13 b1_14 b1_15 b1_16 b1_17 b1_18 b1_19 b1_20 b8_0 b8_1 b8_2 b8_3 b8_4 b8_5 b8_6 b8_7 b8_8 b8_9 b8_10 b8_11 b8_12 b8_13 b8_14 b8_15 b8_16 b8_17 b8_18 b8_19 b8_20 b15 =
    bif decide (s9 < (↑b15.length : Int)) then
 if (0 : Int) ≤ s9 then
 if s9 < (↑b15.length : Int) then
 (nth b15 s9.toNat).bind fun y =>
 if b8_14.length + [y].length ≤ lim then
 if (0 : Int) ≤ s9 then
 if s9 < (↑b15.length : Int) then
 (nth b15 s9.toNat).bind fun y_1 =>
 if (0 : Int) ≤ y_1 then
 (nth s0 (Int.toNat y_1)).bind fun y_2 =>
 (Q_s_DoneAll big b8_15 y_2.snd.snd.fst).bind fun y_3 =>
 R_s_Through_7 n s0 (IntKind.i64.wrap (s9 + (1 : Int))) b1_0 b1_1 b1_2 b1_3 b1_4 b1_5 b1_6 b1_7
 b1_8 b1_9 b1_10 b1_11 b1_12 b1_13 b1_14 b1_15 b1_16 b1_17 b1_18 b1_19 b1_20 b8_0 b8_1 b8_2
 b8_3 b8_4 b8_5 b8_6 b8_7 b8_8 b8_9 b8_10 b8_11 b8_12 b8_13 (b8_14.append [y]) y_3.fst b8_16
 b8_17 b8_18 b8_19 b8_20 b15
 else none
 else none
 else none
 else none
 else none
 else none
 else
 some
 (b8_0, b8_1, (b8_2, b8_3, b8_4, b8_5, PUnit.unit), (b8_6, b8_7, b8_8, b8_9, PUnit.unit),
 (b8_10, b8_11, b8_12, b8_13, PUnit.unit), b8_14, b8_15, b8_16, b8_17, b8_18, b8_19, b8_20, PUnit.unit) := by kernel_rfl

end Go.Sx.Tryz

set_option maxRecDepth 100000
namespace Go.Sx.Tryz
open Go Go.Sx Go.Proofs

noncomputable def l_i_TooEarly : List (Nat × Con) := [(41, c_i_takenBack), (39, c_i_lastRow), (42, c_i_RowAfter), (44, c_i_cmdsOf), (65, c_i_DoneBack)]
theorem l_i_TooEarly_ok : ∀ q ∈ l_i_TooEarly, ConOk Tryz.prog q.1 q.2 := Tryz.cons_cons c_i_takenBack_ok (Tryz.cons_cons c_i_lastRow_ok (Tryz.cons_cons c_i_RowAfter_ok (Tryz.cons_cons c_i_cmdsOf_ok (Tryz.cons_cons c_i_DoneBack_ok (Tryz.cons_nil)))))
def kp_i_TooEarly : KP := []
noncomputable def q_i_TooEarly (n : Nat) (x : Args [tSlIBlock, tIPeer, tInt]) := evX (false, false, [4, 7, 19]) l_i_TooEarly kp_i_TooEarly [some uIPeer] Tryz.f17 (shF uIPeer) n (encA [tSlIBlock, tIPeer, tInt] x)
noncomputable def c_i_TooEarly : Con := roS [tSlIBlock, tIPeer, tInt] true (shF uIPeer) (q_i_TooEarly big)
theorem c_i_TooEarly_ok : ConOk Tryz.prog 17 c_i_TooEarly := roS_ok ⟨Tryz.f17, by kernel_rfl, rfl, by decide⟩ fun _ _ h => evX_ok l_i_TooEarly_ok (f := Tryz.f17) (by kernel_rfl) rfl (by kernel_rfl) (by kernel_rfl) big h
noncomputable def Q_i_TooEarly (n : Nat) (a0 : DSlIBlock) (a1 : DIPeer) (a2 : Int) : Option DIPeer := q_i_TooEarly n (a0, a1, a2, ())
theorem Q_i_TooEarly_eq (n : Nat) (a0 : DSlIBlock) (a1 : DIPeer) (a2 : Int) : Q_i_TooEarly n a0 a1 a2 =
    (Q_i_takenBack big a1).bind fun y =>
 (Q_i_lastRow big a1).bind fun y_1 =>
 (Q_i_RowAfter big a0 a2 y_1).bind fun y_2 =>
 (Q_i_cmdsOf big a0 y_2).bind fun y_3 =>
 (Q_i_DoneBack big y.snd.snd.snd.snd.snd.snd.fst y_3).bind fun y_4 =>
 some
 (y.fst, y.snd.fst, y.snd.snd.fst, y.snd.snd.snd.fst, y.snd.snd.snd.snd.fst, y.snd.snd.snd.snd.snd.fst,
 y_4.fst, y_2, y_4.snd.fst, y.snd.snd.snd.snd.snd.snd.snd.snd.snd) := by kernel_rfl

end Go.Sx.Tryz

set_option maxRecDepth 100000
namespace Go.Sx.Tryz
open Go Go.Sx Go.Proofs

noncomputable def l_s_TooEarly : List (Nat × Con) := [(24, c_s_l09Copy), (27, c_s_l10Back), (26, c_s_l10Last), (28, c_s_RowAfter), (64, c_s_DoneBack)]
theorem l_s_TooEarly_ok : ∀ q ∈ l_s_TooEarly, ConOk Tryz.prog q.1 q.2 := Tryz.cons_cons c_s_l09Copy_ok (Tryz.cons_cons c_s_l10Back_ok (Tryz.cons_cons c_s_l10Last_ok (Tryz.cons_cons c_s_RowAfter_ok (Tryz.cons_cons c_s_DoneBack_ok (Tryz.cons_nil)))))
abbrev k_s_TooEarly_5 : List Keep × List BK := ([.ro tSlLBlock, .drop, .drop, .drop, .drop, .drop, .is (.ptr 1 0), .is (.ptr 8 0), .is (.own 15 0), .ro tInt64, .drop, .drop, .drop, .drop, .drop, .drop, .drop, .drop, .drop, .drop, .drop, .drop, .drop, .drop, .drop, .drop, .drop, .drop, .drop, .drop, .drop, .drop, .drop, .drop, .drop, .drop, .drop, .drop, .drop, .drop, .drop, .drop, .drop, .drop, .drop, .drop, .drop, .drop, .drop, .drop, .drop, .drop, .drop, .drop, .drop, .drop, .drop], [.drop, .vars [.ro tInt64, .ro tInt64, .ro tInt64, .ro tInt64, .ro tInt64, .ro tInt64, .ro tInt64, .ro tInt64, .ro tInt64, .ro tInt64, .ro tInt64, .ro tInt64, .ro tInt64, .ro tInt64, .own tInt, .own tICell, .own tInt, .own tIUndo, .own tIVote, .own tILetter, .ro tInt64], .drop, .drop, .drop, .drop, .drop, .drop, .vars [.ro tInt64, .ro tInt64, .ro tInt64, .ro tInt64, .ro tInt64, .ro tInt64, .ro tInt64, .ro tInt64, .ro tInt64, .ro tInt64, .ro tInt64, .ro tInt64, .ro tInt64, .ro tInt64, .own tInt64, .own tXstruct_Key_string_Num_int_, .own tInt64, .own tXstruct_Key_string_Had_bool_Num_int_, .own tXstruct_Phase_int_View_int_Block_int_Sign, .own tXstruct_Kind_int_From_int_To_int_View_int, .ro tInt64], .drop, .drop, .drop, .drop, .drop, .drop, .arr tInt64])
def kp_s_TooEarly : KP := [(5, k_s_TooEarly_5)]
noncomputable def q_s_TooEarly (n : Nat) (x : Args [tSlIBlock, tIPeer, tInt]) := evX (false, false, [4, 7, 27, 42, 51]) l_s_TooEarly kp_s_TooEarly [some uIPeer] Tryz.f16 (shF uIPeer) n (encA [tSlIBlock, tIPeer, tInt] x)
noncomputable def c_s_TooEarly : Con := roS [tSlIBlock, tIPeer, tInt] true (shF uIPeer) (q_s_TooEarly big)
theorem c_s_TooEarly_ok : ConOk Tryz.prog 16 c_s_TooEarly := roS_ok ⟨Tryz.f16, by kernel_rfl, rfl, by decide⟩ fun _ _ h => evX_ok l_s_TooEarly_ok (f := Tryz.f16) (by kernel_rfl) rfl (by kernel_rfl) (by kernel_rfl) big h
noncomputable def Q_s_TooEarly (n : Nat) (a0 : DSlIBlock) (a1 : DIPeer) (a2 : Int) : Option DIPeer := q_s_TooEarly n (a0, a1, a2, ())
noncomputable def r_s_TooEarly_5 (n : Nat) (x : KD k_s_TooEarly_5.1) (y : BD k_s_TooEarly_5.2) := rounds (env (false, false, [4, 7, 27, 42, 51]) l_s_TooEarly) kp_s_TooEarly (body Tryz.f16) (finX (false, false, [4, 7, 27, 42, 51]) l_s_TooEarly [some uIPeer] Tryz.f16 (shF uIPeer) [.val tSlIBlock (zeroD tSlIBlock), .val tIPeer (zeroD tIPeer), .val tInt (zeroD tInt)]) n 5 k_s_TooEarly_5 x y
noncomputable def R_s_TooEarly_5 (n : Nat) (s0 : DSlLBlock) (s9 : Int) (b1_0 : Int) (b1_1 : Int) (b1_2 : Int) (b1_3 : Int) (b1_4 : Int) (b1_5 : Int) (b1_6 : Int) (b1_7 : Int) (b1_8 : Int) (b1_9 : Int) (b1_10 : Int) (b1_11 : Int) (b1_12 : Int) (b1_13 : Int) (b1_14 : (List Int)) (b1_15 : (List DICell)) (b1_16 : (List Int)) (b1_17 : (List DIUndo)) (b1_18 : (List DIVote)) (b1_19 : (List DILetter)) (b1_20 : Int) (b8_0 : Int) (b8_1 : Int) (b8_2 : Int) (b8_3 : Int) (b8_4 : Int) (b8_5 : Int) (b8_6 : Int) (b8_7 : Int) (b8_8 : Int) (b8_9 : Int) (b8_10 : Int) (b8_11 : Int) (b8_12 : Int) (b8_13 : Int) (b8_14 : (List Int)) (b8_15 : (List DXstruct_Key_string_Num_int_)) (b8_16 : (List Int)) (b8_17 : (List DXstruct_Key_string_Had_bool_Num_int_)) (b8_18 : (List DXstruct_Phase_int_View_int_Block_int_Sign)) (b8_19 : (List DXstruct_Kind_int_From_int_To_int_View_int)) (b8_20 : Int) (b15 : (List Int)) : Option DIPeer := r_s_TooEarly_5 n (s0, s9, ()) ((b1_0, b1_1, b1_2, b1_3, b1_4, b1_5, b1_6, b1_7, b1_8, b1_9, b1_10, b1_11, b1_12, b1_13, b1_14, b1_15, b1_16, b1_17, b1_18, b1_19, b1_20, ()), (b8_0, b8_1, b8_2, b8_3, b8_4, b8_5, b8_6, b8_7, b8_8, b8_9, b8_10, b8_11, b8_12, b8_13, b8_14, b8_15, b8_16, b8_17, b8_18, b8_19, b8_20, ()), b15, ())
theorem Q_s_TooEarly_eq (n : Nat) (a0 : DSlIBlock) (a1 : DIPeer) (a2 : Int) : Q_s_TooEarly n a0 a1 a2 =
    (Q_s_l09Copy big a1).bind fun y =>
 (Q_s_l10Back big y).bind fun y =>
 (Q_s_l10Last big a1).bind fun y_1 =>
 (Q_s_RowAfter big a0 a2 y_1).bind fun y_2 =>
 R_s_TooEarly_5 n a0 (0 : Int) (0 : Int) (0 : Int) (0 : Int) (0 : Int) (0 : Int) (0 : Int) (0 : Int) (0 : Int)
 (0 : Int) (0 : Int) (0 : Int) (0 : Int) (0 : Int) (0 : Int) [] [] [] [] [] [] (0 : Int) y.snd.fst.fst
 y.snd.fst.snd.fst y.snd.fst.snd.snd.fst.fst y.snd.fst.snd.snd.fst.snd.fst y.snd.fst.snd.snd.fst.snd.snd.fst
 y.snd.fst.snd.snd.fst.snd.snd.snd.fst y.snd.fst.snd.snd.snd.fst.fst y.snd.fst.snd.snd.snd.fst.snd.fst
 y.snd.fst.snd.snd.snd.fst.snd.snd.fst y.snd.fst.snd.snd.snd.fst.snd.snd.snd.fst
 y.snd.fst.snd.snd.snd.snd.fst.fst y.snd.fst.snd.snd.snd.snd.fst.snd.fst
 y.snd.fst.snd.snd.snd.snd.fst.snd.snd.fst y.snd.fst.snd.snd.snd.snd.fst.snd.snd.snd.fst
 y.snd.fst.snd.snd.snd.snd.snd.fst y.snd.fst.snd.snd.snd.snd.snd.snd.fst
 y.snd.fst.snd.snd.snd.snd.snd.snd.snd.fst y.snd.fst.snd.snd.snd.snd.snd.snd.snd.snd.fst
 y.snd.fst.snd.snd.snd.snd.snd.snd.snd.snd.snd.fst y.snd.fst.snd.snd.snd.snd.snd.snd.snd.snd.snd.snd.fst
 y.snd.fst.snd.snd.snd.snd.snd.snd.snd.snd.snd.snd.snd.fst y_2 := by kernel_rfl
theorem R_s_TooEarly_5_eq (n : Nat) (s0 : DSlLBlock) (s9 : Int) (b1_0 : Int) (b1_1 : Int) (b1_2 : Int) (b1_3 : Int) (b1_4 : Int) (b1_5 : Int) (b1_6 : Int) (b1_7 : Int) (b1_8 : Int) (b1_9 : Int) (b1_10 : Int) (b1_11 : Int) (b1_12 : Int) (b1_13 : Int) (b1_14 : (List Int)) (b1_15 : (List DICell)) (b1_16 : (List Int)) (b1_17 : (List DIUndo)) (b1_18 : (List DIVote)) (b1_19 : (List DILetter)) (b1_20 : Int) (b8_0 : Int) (b8_1 : Int) (b8_2 : Int) (b8_3 : Int) (b8_4 : Int) (b8_5 : Int) (b8_6 : Int) (b8_7 : Int) (b8_8 : Int) (b8_9 : Int) (b8_10 : Int) (b8_11 : Int) (b8_12 : Int) (b8_13 : Int) (b8_14 : (List Int)) (b8_15 : (List DXstruct_Key_string_Num_int_)) (b8_16 : (List Int)) (b8_17 : (List DXstruct_Key_string_Had_bool_Num_int_)) (b8_18 : (List DXstruct_Phase_int_View_int_Block_int_Sign)) (b8_19 : (List DXstruct_Kind_int_From_int_To_int_View_int)) (b8_20 : Int) (b15 : (List Int)) : R_s_TooEarly_5 (n + 1) s0 s9 b1_0 b1_1 b1_2 b1_3 b1_4 b1_5 b1_6 b1_7 b1_8 b1_9 b1_10 b1_11 b1_12 b1_13 b1_14 b1_15 b1_16 b1_17 b1_18 b1_19 b1_20 b8_0 b8_1 b8_2 b8_3 b8_4 b8_5 b8_6 b8_7 b8_8 b8_9 b8_10 b8_11 b8_12 b8_13 b8_14 b8_15 b8_16 b8_17 b8_18 b8_19 b8_20 b15 =
    bif decide (s9 < (↑b15.length : Int)) then
 if (0 : Int) ≤ s9 then
 if s9 < (↑b15.length : Int) then
 (nth b15 s9.toNat).bind fun y =>
 if (0 : Int) ≤ y then
 (nth s0 (Int.toNat y)).bind fun y =>
 (Q_s_DoneBack big b8_15 y.snd.snd.fst).bind fun y =>
 if (0 : Int) ≤ s9 then
 if s9 < (↑b15.length : Int) then
 (nth b15 s9.toNat).bind fun y_1 =>
 if b8_16.length + [y_1].length ≤ lim then
 if b8_17.length + List.length y.snd.fst ≤ lim then
 R_s_TooEarly_5 n s0 (IntKind.i64.wrap (s9 + (1 : Int))) b1_0 b1_1 b1_2 b1_3 b1_4 b1_5 b1_6
 b1_7 b1_8 b1_9 b1_10 b1_11 b1_12 b1_13 b1_14 b1_15 b1_16 b1_17 b1_18 b1_19 b1_20 b8_0 b8_1
 b8_2 b8_3 b8_4 b8_5 b8_6 b8_7 b8_8 b8_9 b8_10 b8_11 b8_12 b8_13 b8_14 y.fst
 (b8_16.append [y_1]) (b8_17.append y.snd.fst) b8_18 b8_19 b8_20 b15
 else none
 else none
 else none
 else none
 else none
 else none
 else none
 else
 some
 (b8_0, b8_1, (b8_2, b8_3, b8_4, b8_5, PUnit.unit), (b8_6, b8_7, b8_8, b8_9, PUnit.unit),
 (b8_10, b8_11, b8_12, b8_13, PUnit.unit), b8_14, b8_15, b8_16, b8_17, b8_18, b8_19, b8_20, PUnit.unit) := by kernel_rfl

end Go.Sx.Tryz

set_option maxRecDepth 100000
namespace Go.Sx.Tryz
open Go Go.Sx Go.Proofs

noncomputable def l_l_FnExactTooEarly : List (Nat × Con) := [(5, c_l_szBlockS), (6, c_l_szPeer), (8, c_l_toBlockS), (9, c_l_toPeer), (16, c_s_TooEarly), (17, c_i_TooEarly), (11, c_l_eqPeer), (12, c_l_eqBlockS), (13, c_l_markBlockS), (14, c_l_markPeer), (15, c_l_heldPeer)]
theorem l_l_FnExactTooEarly_ok : ∀ q ∈ l_l_FnExactTooEarly, ConOk Tryz.prog q.1 q.2 := Tryz.cons_cons c_l_szBlockS_ok (Tryz.cons_cons c_l_szPeer_ok (Tryz.cons_cons c_l_toBlockS_ok (Tryz.cons_cons c_l_toPeer_ok (Tryz.cons_cons c_s_TooEarly_ok (Tryz.cons_cons c_i_TooEarly_ok (Tryz.cons_cons c_l_eqPeer_ok (Tryz.cons_cons c_l_eqBlockS_ok (Tryz.cons_cons c_l_markBlockS_ok (Tryz.cons_cons c_l_markPeer_ok (Tryz.cons_cons c_l_heldPeer_ok (Tryz.cons_nil)))))))))))
def kp_l_FnExactTooEarly : KP := []
noncomputable def q_l_FnExactTooEarly (n : Nat) (x : Args [tSlLBlock, tLPeer, tInt]) := evX (false, false, [4, 8, 10, 11, 15, 999999]) l_l_FnExactTooEarly kp_l_FnExactTooEarly [none] Tryz.f4 (shV tBool) n (encA [tSlLBlock, tLPeer, tInt] x)
noncomputable def c_l_FnExactTooEarly : Con := roS [tSlLBlock, tLPeer, tInt] true (shV tBool) (q_l_FnExactTooEarly big)
theorem c_l_FnExactTooEarly_ok : ConOk Tryz.prog 4 c_l_FnExactTooEarly := roS_ok ⟨Tryz.f4, by kernel_rfl, rfl, by decide⟩ fun _ _ h => evX_ok l_l_FnExactTooEarly_ok (f := Tryz.f4) (by kernel_rfl) rfl (by kernel_rfl) (by kernel_rfl) big h
noncomputable def Q_l_FnExactTooEarly (n : Nat) (a0 : DSlLBlock) (a1 : DLPeer) (a2 : Int) : Option Bool := q_l_FnExactTooEarly n (a0, a1, a2, ())
theorem Q_l_FnExactTooEarly_eq (n : Nat) (a0 : DSlLBlock) (a1 : DLPeer) (a2 : Int) : Q_l_FnExactTooEarly n a0 a1 a2 =
    (Q_l_szBlockS big a0 (1048576 : Int)).bind fun y =>
 bif decide (y < (0 : Int)) then some true
 else
 (Q_l_szPeer big a1 y).bind fun y =>
 bif decide (y < (0 : Int)) then some true
 else
 (Q_l_toBlockS big a0).bind fun y =>
 (Q_l_toPeer big a1).bind fun y_1 =>
 (Q_s_TooEarly big y y_1 a2).bind fun y =>
 (Q_l_toBlockS big a0).bind fun y_2 =>
 (Q_l_toPeer big a1).bind fun y_3 =>
 (Q_i_TooEarly big y_2 y_3 a2).bind fun y_4 =>
 (Q_l_eqPeer big y_4 y).bind fun y_5 =>
 bif !y_5 then some false
 else
 (Q_l_toBlockS big a0).bind fun y_6 =>
 (Q_l_eqBlockS big y_2 y_6).bind fun y_7 =>
 bif !y_7 then some false
 else
 (Q_l_toPeer big a1).bind fun y_8 =>
 (Q_l_eqPeer big y_3 y_8).bind fun y_9 =>
 bif !y_9 then some false
 else
 (Q_l_markBlockS big y_2 (1 : Int)).bind fun y_10 =>
 (Q_l_markPeer big y_3 y_10.fst).bind fun y_11 =>
 bif decide (y_11.fst < (0 : Int)) then some false
 else
 (Q_l_eqPeer big y_4 y).bind fun y_12 =>
 bif !y_12 then some false
 else
 (Q_l_markPeer big y_4 (1 : Int)).bind fun y_13 =>
 (Q_l_heldPeer big
 (y_4.fst, y_4.snd.fst, y_4.snd.snd.fst, y_4.snd.snd.snd.fst,
 y_4.snd.snd.snd.snd.fst, y_13.snd.fst.snd.snd.snd.snd.snd.fst,
 y_13.snd.fst.snd.snd.snd.snd.snd.snd.fst,
 y_13.snd.fst.snd.snd.snd.snd.snd.snd.snd.fst,
 y_13.snd.fst.snd.snd.snd.snd.snd.snd.snd.snd.fst,
 y_13.snd.fst.snd.snd.snd.snd.snd.snd.snd.snd.snd.fst,
 y_13.snd.fst.snd.snd.snd.snd.snd.snd.snd.snd.snd.snd.fst,
 y_4.snd.snd.snd.snd.snd.snd.snd.snd.snd.snd.snd)
 (1 : Int)).bind
 fun y_14 =>
 bif decide (y_14 < (0 : Int)) then some false
 else
 bif !decide (y_14 = y_13.fst) then some false
 else
 (Q_l_toBlockS big a0).bind fun y_15 =>
 (Q_l_toPeer big a1).bind fun y_16 =>
 (Q_i_TooEarly big y_15 y_16 a2).bind fun y_17 =>
 (Q_l_eqPeer big y_17 y).bind fun y =>
 bif !y then some false
 else
 (Q_l_heldPeer big
 (y_4.fst, y_4.snd.fst, y_4.snd.snd.fst,
 y_4.snd.snd.snd.fst, y_4.snd.snd.snd.snd.fst,
 y_13.snd.fst.snd.snd.snd.snd.snd.fst,
 y_13.snd.fst.snd.snd.snd.snd.snd.snd.fst,
 y_13.snd.fst.snd.snd.snd.snd.snd.snd.snd.fst,
 y_13.snd.fst.snd.snd.snd.snd.snd.snd.snd.snd.fst,
 y_13.snd.fst.snd.snd.snd.snd.snd.snd.snd.snd.snd.fst,
 y_13.snd.fst.snd.snd.snd.snd.snd.snd.snd.snd.snd.snd.fst,
 y_4.snd.snd.snd.snd.snd.snd.snd.snd.snd.snd.snd)
 (1 : Int)).bind
 fun y =>
 bif decide (y < (0 : Int)) then some false
 else
 bif !decide (y = y_13.fst) then some false
 else some true := by kernel_rfl

end Go.Sx.Tryz
