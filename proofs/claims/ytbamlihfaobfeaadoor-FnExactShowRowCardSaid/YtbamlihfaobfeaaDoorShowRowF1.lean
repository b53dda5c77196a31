/- The functions of the seat: what each comes to. -/
import Derived.Test.YtbamlihfaobfeaaDoorTypes
import Derived.Shelf.Strconv.Itoa3
set_option linter.unusedVariables false
set_option linter.unusedSimpArgs false
set_option maxRecDepth 100000
namespace Go.Sx.Tryd
open Go Go.Sx Go.Proofs

noncomputable def l_l_szCmd : List (Nat × Con) := []
theorem l_l_szCmd_ok : ∀ q ∈ l_l_szCmd, ConOk Tryd.prog q.1 q.2 := Tryd.cons_nil
def kp_l_szCmd : KP := []
noncomputable def q_l_szCmd (n : Nat) (x : Args [tLCmd, tInt]) := evX (false, false, [2, 6]) l_l_szCmd kp_l_szCmd [none] Tryd.f26 (shV tInt) n (encA [tLCmd, tInt] x)
noncomputable def c_l_szCmd : Con := roS [tLCmd, tInt] true (shV tInt) (q_l_szCmd big)
theorem c_l_szCmd_ok : ConOk Tryd.prog 26 c_l_szCmd := roS_ok ⟨Tryd.f26, by kernel_rfl, rfl, by decide⟩ fun _ _ h => evX_ok l_l_szCmd_ok (f := Tryd.f26) (by kernel_rfl) rfl (by kernel_rfl) (by kernel_rfl) big h
noncomputable def Q_l_szCmd (n : Nat) (a0 : DLCmd) (a1 : Int) : Option Int := q_l_szCmd n (a0, a1, ())
theorem Q_l_szCmd_eq (n : Nat) (a0 : DLCmd) (a1 : Int) : Q_l_szCmd n a0 a1 =
    bif decide (IntKind.i64.wrap (a1 - (↑(ByteArray.size a0.snd.fst) : Int)) < (0 : Int)) then some (-1 : Int)
 else some (IntKind.i64.wrap (a1 - (↑(ByteArray.size a0.snd.fst) : Int))) := by kernel_rfl

end Go.Sx.Tryd

set_option maxRecDepth 100000
namespace Go.Sx.Tryd
open Go Go.Sx Go.Proofs

noncomputable def l_l_szCmdS : List (Nat × Con) := [(26, c_l_szCmd)]
theorem l_l_szCmdS_ok : ∀ q ∈ l_l_szCmdS, ConOk Tryd.prog q.1 q.2 := Tryd.cons_cons c_l_szCmd_ok (Tryd.cons_nil)
abbrev k_l_szCmdS_5 : List Keep × List BK := ([.ro tSlLCmd, .ro tInt64, .drop, .drop, .drop, .ro tInt64, .drop, .drop, .drop, .drop, .drop, .drop, .drop, .drop, .drop, .drop, .drop, .drop, .drop, .drop, .drop, .drop, .drop, .drop, .drop, .drop, .drop], [])
def kp_l_szCmdS : KP := [(5, k_l_szCmdS_5)]
noncomputable def q_l_szCmdS (n : Nat) (x : Args [tSlLCmd, tInt]) := evX (false, false, []) l_l_szCmdS kp_l_szCmdS [none] Tryd.f19 (shV tInt) n (encA [tSlLCmd, tInt] x)
noncomputable def c_l_szCmdS : Con := roS [tSlLCmd, tInt] true (shV tInt) (q_l_szCmdS big)
theorem c_l_szCmdS_ok : ConOk Tryd.prog 19 c_l_szCmdS := roS_ok ⟨Tryd.f19, by kernel_rfl, rfl, by decide⟩ fun _ _ h => evX_ok l_l_szCmdS_ok (f := Tryd.f19) (by kernel_rfl) rfl (by kernel_rfl) (by kernel_rfl) big h
noncomputable def Q_l_szCmdS (n : Nat) (a0 : DSlLCmd) (a1 : Int) : Option Int := q_l_szCmdS n (a0, a1, ())
noncomputable def r_l_szCmdS_5 (n : Nat) (x : KD k_l_szCmdS_5.1) (y : BD k_l_szCmdS_5.2) := rounds (env (false, false, []) l_l_szCmdS) kp_l_szCmdS (body Tryd.f19) (finX (false, false, []) l_l_szCmdS [none] Tryd.f19 (shV tInt) [.val tSlLCmd (zeroD tSlLCmd), .val tInt (zeroD tInt)]) n 5 k_l_szCmdS_5 x y
noncomputable def R_l_szCmdS_5 (n : Nat) (s0 : DSlLCmd) (s1 : Int) (s5 : Int) : Option Int := r_l_szCmdS_5 n (s0, s1, s5, ()) ()
theorem Q_l_szCmdS_eq (n : Nat) (a0 : DSlLCmd) (a1 : Int) : Q_l_szCmdS n a0 a1 =
    bif decide (IntKind.i64.wrap (a1 - (↑(List.length a0) : Int)) < (0 : Int)) then some (-1 : Int)
 else R_l_szCmdS_5 n a0 (IntKind.i64.wrap (a1 - (↑(List.length a0) : Int))) (0 : Int) := by kernel_rfl
theorem R_l_szCmdS_5_eq (n : Nat) (s0 : DSlLCmd) (s1 : Int) (s5 : Int) : R_l_szCmdS_5 (n + 1) s0 s1 s5 =
    bif decide (s5 < (↑(List.length s0) : Int)) then
 if (0 : Int) ≤ s5 then
 (nth s0 s5.toNat).bind fun y =>
 (Q_l_szCmd big y s1).bind fun y =>
 bif decide (y < (0 : Int)) then some (-1 : Int) else R_l_szCmdS_5 n s0 y (IntKind.i64.wrap (s5 + (1 : Int)))
 else none
 else some s1 := by kernel_rfl

end Go.Sx.Tryd

set_option maxRecDepth 100000
namespace Go.Sx.Tryd
open Go Go.Sx Go.Proofs

noncomputable def l_l_szBlock : List (Nat × Con) := [(19, c_l_szCmdS)]
theorem l_l_szBlock_ok : ∀ q ∈ l_l_szBlock, ConOk Tryd.prog q.1 q.2 := Tryd.cons_cons c_l_szCmdS_ok (Tryd.cons_nil)
def kp_l_szBlock : KP := []
noncomputable def q_l_szBlock (n : Nat) (x : Args [tLBlock, tInt]) := evX (false, false, [2, 5]) l_l_szBlock kp_l_szBlock [none] Tryd.f11 (shV tInt) n (encA [tLBlock, tInt] x)
noncomputable def c_l_szBlock : Con := roS [tLBlock, tInt] true (shV tInt) (q_l_szBlock big)
theorem c_l_szBlock_ok : ConOk Tryd.prog 11 c_l_szBlock := roS_ok ⟨Tryd.f11, by kernel_rfl, rfl, by decide⟩ fun _ _ h => evX_ok l_l_szBlock_ok (f := Tryd.f11) (by kernel_rfl) rfl (by kernel_rfl) (by kernel_rfl) big h
noncomputable def Q_l_szBlock (n : Nat) (a0 : DLBlock) (a1 : Int) : Option Int := q_l_szBlock n (a0, a1, ())
theorem Q_l_szBlock_eq (n : Nat) (a0 : DLBlock) (a1 : Int) : Q_l_szBlock n a0 a1 =
    (Q_l_szCmdS big a0.snd.snd.fst a1).bind fun y => bif decide (y < (0 : Int)) then some (-1 : Int) else some y := by kernel_rfl

end Go.Sx.Tryd

set_option maxRecDepth 100000
namespace Go.Sx.Tryd
open Go Go.Sx Go.Proofs

noncomputable def l_l_szBlockS : List (Nat × Con) := [(11, c_l_szBlock)]
theorem l_l_szBlockS_ok : ∀ q ∈ l_l_szBlockS, ConOk Tryd.prog q.1 q.2 := Tryd.cons_cons c_l_szBlock_ok (Tryd.cons_nil)
abbrev k_l_szBlockS_5 : List Keep × List BK := ([.ro tSlLBlock, .ro tInt64, .drop, .drop, .drop, .ro tInt64, .drop, .drop, .drop, .drop, .drop, .drop, .drop, .drop, .drop, .drop, .drop, .drop, .drop, .drop, .drop, .drop, .drop, .drop, .drop, .drop, .drop], [])
def kp_l_szBlockS : KP := [(5, k_l_szBlockS_5)]
noncomputable def q_l_szBlockS (n : Nat) (x : Args [tSlLBlock, tInt]) := evX (false, false, []) l_l_szBlockS kp_l_szBlockS [none] Tryd.f4 (shV tInt) n (encA [tSlLBlock, tInt] x)
noncomputable def c_l_szBlockS : Con := roS [tSlLBlock, tInt] true (shV tInt) (q_l_szBlockS big)
theorem c_l_szBlockS_ok : ConOk Tryd.prog 4 c_l_szBlockS := roS_ok ⟨Tryd.f4, by kernel_rfl, rfl, by decide⟩ fun _ _ h => evX_ok l_l_szBlockS_ok (f := Tryd.f4) (by kernel_rfl) rfl (by kernel_rfl) (by kernel_rfl) big h
noncomputable def Q_l_szBlockS (n : Nat) (a0 : DSlLBlock) (a1 : Int) : Option Int := q_l_szBlockS n (a0, a1, ())
noncomputable def r_l_szBlockS_5 (n : Nat) (x : KD k_l_szBlockS_5.1) (y : BD k_l_szBlockS_5.2) := rounds (env (false, false, []) l_l_szBlockS) kp_l_szBlockS (body Tryd.f4) (finX (false, false, []) l_l_szBlockS [none] Tryd.f4 (shV tInt) [.val tSlLBlock (zeroD tSlLBlock), .val tInt (zeroD tInt)]) n 5 k_l_szBlockS_5 x y
noncomputable def R_l_szBlockS_5 (n : Nat) (s0 : DSlLBlock) (s1 : Int) (s5 : Int) : Option Int := r_l_szBlockS_5 n (s0, s1, s5, ()) ()
theorem Q_l_szBlockS_eq (n : Nat) (a0 : DSlLBlock) (a1 : Int) : Q_l_szBlockS n a0 a1 =
    bif decide (IntKind.i64.wrap (a1 - (↑(List.length a0) : Int)) < (0 : Int)) then some (-1 : Int)
 else R_l_szBlockS_5 n a0 (IntKind.i64.wrap (a1 - (↑(List.length a0) : Int))) (0 : Int) := by kernel_rfl
theorem R_l_szBlockS_5_eq (n : Nat) (s0 : DSlLBlock) (s1 : Int) (s5 : Int) : R_l_szBlockS_5 (n + 1) s0 s1 s5 =
    bif decide (s5 < (↑(List.length s0) : Int)) then
 if (0 : Int) ≤ s5 then
 (nth s0 s5.toNat).bind fun y =>
 (Q_l_szBlock big y s1).bind fun y =>
 bif decide (y < (0 : Int)) then some (-1 : Int) else R_l_szBlockS_5 n s0 y (IntKind.i64.wrap (s5 + (1 : Int)))
 else none
 else some s1 := by kernel_rfl

end Go.Sx.Tryd

set_option maxRecDepth 100000
namespace Go.Sx.Tryd
open Go Go.Sx Go.Proofs

noncomputable def l_l_toCmd : List (Nat × Con) := []
theorem l_l_toCmd_ok : ∀ q ∈ l_l_toCmd, ConOk Tryd.prog q.1 q.2 := Tryd.cons_nil
def kp_l_toCmd : KP := []
noncomputable def q_l_toCmd (n : Nat) (x : Args [tLCmd]) := evX (false, false, [1, 3, 4, 7, 10]) l_l_toCmd kp_l_toCmd [none] Tryd.f27 (shV tICmd) n (encA [tLCmd] x)
noncomputable def c_l_toCmd : Con := roS [tLCmd] true (shV tICmd) (q_l_toCmd big)
theorem c_l_toCmd_ok : ConOk Tryd.prog 27 c_l_toCmd := roS_ok ⟨Tryd.f27, by kernel_rfl, rfl, by decide⟩ fun _ _ h => evX_ok l_l_toCmd_ok (f := Tryd.f27) (by kernel_rfl) rfl (by kernel_rfl) (by kernel_rfl) big h
noncomputable def Q_l_toCmd (n : Nat) (a0 : DLCmd) : Option DICmd := q_l_toCmd n (a0, ())
theorem Q_l_toCmd_eq (n : Nat) (a0 : DLCmd) : Q_l_toCmd n a0 =
    some a0 := by kernel_rfl

end Go.Sx.Tryd

set_option maxRecDepth 100000
namespace Go.Sx.Tryd
open Go Go.Sx Go.Proofs

noncomputable def l_l_toCmdS : List (Nat × Con) := [(27, c_l_toCmd)]
theorem l_l_toCmdS_ok : ∀ q ∈ l_l_toCmdS, ConOk Tryd.prog q.1 q.2 := Tryd.cons_cons c_l_toCmd_ok (Tryd.cons_nil)
abbrev k_l_toCmdS_3 : List Keep × List BK := ([.ro tSlLCmd, .drop, .drop, .is (.own 0 0), .ro tInt64, .drop, .drop, .drop, .drop, .drop, .drop, .drop, .drop, .drop, .drop, .drop, .drop, .drop, .drop, .drop, .drop, .drop, .drop], [.arr tXstruct_Kind_int_Key_string_Num_int_])
def kp_l_toCmdS : KP := [(3, k_l_toCmdS_3)]
noncomputable def q_l_toCmdS (n : Nat) (x : Args [tSlLCmd]) := evX (false, false, []) l_l_toCmdS kp_l_toCmdS [some uSlICmd] Tryd.f21 (shF uSlICmd) n (encA [tSlLCmd] x)
noncomputable def c_l_toCmdS : Con := roS [tSlLCmd] true (shF uSlICmd) (q_l_toCmdS big)
theorem c_l_toCmdS_ok : ConOk Tryd.prog 21 c_l_toCmdS := roS_ok ⟨Tryd.f21, by kernel_rfl, rfl, by decide⟩ fun _ _ h => evX_ok l_l_toCmdS_ok (f := Tryd.f21) (by kernel_rfl) rfl (by kernel_rfl) (by kernel_rfl) big h
noncomputable def Q_l_toCmdS (n : Nat) (a0 : DSlLCmd) : Option DSlICmd := q_l_toCmdS n (a0, ())
noncomputable def r_l_toCmdS_3 (n : Nat) (x : KD k_l_toCmdS_3.1) (y : BD k_l_toCmdS_3.2) := rounds (env (false, false, []) l_l_toCmdS) kp_l_toCmdS (body Tryd.f21) (finX (false, false, []) l_l_toCmdS [some uSlICmd] Tryd.f21 (shF uSlICmd) [.val tSlLCmd (zeroD tSlLCmd)]) n 3 k_l_toCmdS_3 x y
noncomputable def R_l_toCmdS_3 (n : Nat) (s0 : DSlLCmd) (s4 : Int) (b0 : (List DXstruct_Kind_int_Key_string_Num_int_)) : Option DSlICmd := r_l_toCmdS_3 n (s0, s4, ()) (b0, ())
theorem Q_l_toCmdS_eq (n : Nat) (a0 : DSlLCmd) : Q_l_toCmdS n a0 =
    if (↑(List.length a0) : Int) ≤ (↑(List.length a0) : Int) then
 if (↑(List.length a0) : Int) ≤ (↑lim : Int) then
 R_l_toCmdS_3 n a0 (0 : Int)
 (List.replicate (↑(List.length a0) : Int).toNat
 (zeroD (bif (env (false, false, []) l_l_toCmdS).nest then tICmd.uq else tICmd)))
 else none
 else none := by kernel_rfl
theorem R_l_toCmdS_3_eq (n : Nat) (s0 : DSlLCmd) (s4 : Int) (b0 : (List DXstruct_Kind_int_Key_string_Num_int_)) : R_l_toCmdS_3 (n + 1) s0 s4 b0 =
    bif decide (s4 < (↑(List.length s0) : Int)) then
 if (0 : Int) ≤ s4 then
 (nth s0 s4.toNat).bind fun y =>
 if (0 : Int) ≤ s4 then
 if s4 < (↑b0.length : Int) then
 (nth b0 s4.toNat).bind fun y_1 =>
 (updO b0 s4.toNat y).bind fun y => R_l_toCmdS_3 n s0 (IntKind.i64.wrap (s4 + (1 : Int))) y
 else none
 else none
 else none
 else some b0 := by kernel_rfl

end Go.Sx.Tryd

set_option maxRecDepth 100000
namespace Go.Sx.Tryd
open Go Go.Sx Go.Proofs

noncomputable def l_l_toQc : List (Nat × Con) := []
theorem l_l_toQc_ok : ∀ q ∈ l_l_toQc, ConOk Tryd.prog q.1 q.2 := Tryd.cons_nil
def kp_l_toQc : KP := []
noncomputable def q_l_toQc (n : Nat) (x : Args [tLQc]) := evX (false, false, [1, 3, 4, 7, 10, 13]) l_l_toQc kp_l_toQc [none] Tryd.f22 (shV tIQc) n (encA [tLQc] x)
noncomputable def c_l_toQc : Con := roS [tLQc] true (shV tIQc) (q_l_toQc big)
theorem c_l_toQc_ok : ConOk Tryd.prog 22 c_l_toQc := roS_ok ⟨Tryd.f22, by kernel_rfl, rfl, by decide⟩ fun _ _ h => evX_ok l_l_toQc_ok (f := Tryd.f22) (by kernel_rfl) rfl (by kernel_rfl) (by kernel_rfl) big h
noncomputable def Q_l_toQc (n : Nat) (a0 : DLQc) : Option DIQc := q_l_toQc n (a0, ())
theorem Q_l_toQc_eq (n : Nat) (a0 : DLQc) : Q_l_toQc n a0 =
    some a0 := by kernel_rfl

end Go.Sx.Tryd

set_option maxRecDepth 100000
namespace Go.Sx.Tryd
open Go Go.Sx Go.Proofs

noncomputable def l_l_toBlock : List (Nat × Con) := [(21, c_l_toCmdS), (22, c_l_toQc)]
theorem l_l_toBlock_ok : ∀ q ∈ l_l_toBlock, ConOk Tryd.prog q.1 q.2 := Tryd.cons_cons c_l_toCmdS_ok (Tryd.cons_cons c_l_toQc_ok (Tryd.cons_nil))
def kp_l_toBlock : KP := []
noncomputable def q_l_toBlock (n : Nat) (x : Args [tLBlock]) := evX (false, false, [1, 3, 4, 7, 10, 14]) l_l_toBlock kp_l_toBlock [some uIBlock] Tryd.f15 (shF uIBlock) n (encA [tLBlock] x)
noncomputable def c_l_toBlock : Con := roS [tLBlock] true (shF uIBlock) (q_l_toBlock big)
theorem c_l_toBlock_ok : ConOk Tryd.prog 15 c_l_toBlock := roS_ok ⟨Tryd.f15, by kernel_rfl, rfl, by decide⟩ fun _ _ h => evX_ok l_l_toBlock_ok (f := Tryd.f15) (by kernel_rfl) rfl (by kernel_rfl) (by kernel_rfl) big h
noncomputable def Q_l_toBlock (n : Nat) (a0 : DLBlock) : Option DIBlock := q_l_toBlock n (a0, ())
theorem Q_l_toBlock_eq (n : Nat) (a0 : DLBlock) : Q_l_toBlock n a0 =
    (Q_l_toCmdS big a0.snd.snd.fst).bind fun y => some (a0.fst, a0.snd.fst, y, a0.snd.snd.snd) := by kernel_rfl

end Go.Sx.Tryd

set_option maxRecDepth 100000
namespace Go.Sx.Tryd
open Go Go.Sx Go.Proofs

noncomputable def l_l_toBlockS : List (Nat × Con) := [(15, c_l_toBlock)]
theorem l_l_toBlockS_ok : ∀ q ∈ l_l_toBlockS, ConOk Tryd.prog q.1 q.2 := Tryd.cons_cons c_l_toBlock_ok (Tryd.cons_nil)
abbrev k_l_toBlockS_3 : List Keep × List BK := ([.ro tSlLBlock, .drop, .drop, .is (.own 0 0), .ro tInt64, .drop, .drop, .drop, .drop, .drop, .drop, .drop, .drop, .drop, .drop, .drop, .drop, .drop, .drop, .drop, .drop, .drop, .drop], [.arr uXstruct_Parent_int_View_int_Cmds_laws_Cmd])
def kp_l_toBlockS : KP := [(3, k_l_toBlockS_3)]
noncomputable def q_l_toBlockS (n : Nat) (x : Args [tSlLBlock]) := evX (true, false, []) l_l_toBlockS kp_l_toBlockS [some uSlIBlock] Tryd.f6 (shF uSlIBlock) n (encA [tSlLBlock] x)
noncomputable def c_l_toBlockS : Con := roS [tSlLBlock] true (shF uSlIBlock) (q_l_toBlockS big)
theorem c_l_toBlockS_ok : ConOk Tryd.prog 6 c_l_toBlockS := roS_ok ⟨Tryd.f6, by kernel_rfl, rfl, by decide⟩ fun _ _ h => evX_ok l_l_toBlockS_ok (f := Tryd.f6) (by kernel_rfl) rfl (by kernel_rfl) (by kernel_rfl) big h
noncomputable def Q_l_toBlockS (n : Nat) (a0 : DSlLBlock) : Option DSlIBlock := q_l_toBlockS n (a0, ())
noncomputable def r_l_toBlockS_3 (n : Nat) (x : KD k_l_toBlockS_3.1) (y : BD k_l_toBlockS_3.2) := rounds (env (true, false, []) l_l_toBlockS) kp_l_toBlockS (body Tryd.f6) (finX (true, false, []) l_l_toBlockS [some uSlIBlock] Tryd.f6 (shF uSlIBlock) [.val tSlLBlock (zeroD tSlLBlock)]) n 3 k_l_toBlockS_3 x y
noncomputable def R_l_toBlockS_3 (n : Nat) (s0 : DSlLBlock) (s4 : Int) (b0 : (List DXstruct_Parent_int_View_int_Cmds_laws_Cmd)) : Option DSlIBlock := r_l_toBlockS_3 n (s0, s4, ()) (b0, ())
theorem Q_l_toBlockS_eq (n : Nat) (a0 : DSlLBlock) : Q_l_toBlockS n a0 =
    if (↑(List.length a0) : Int) ≤ (↑(List.length a0) : Int) then
 if (↑(List.length a0) : Int) ≤ (↑lim : Int) then
 R_l_toBlockS_3 n a0 (0 : Int)
 (List.replicate (↑(List.length a0) : Int).toNat
 (zeroD (bif (env (true, false, []) l_l_toBlockS).nest then tIBlock.uq else tIBlock)))
 else none
 else none := by kernel_rfl
theorem R_l_toBlockS_3_eq (n : Nat) (s0 : DSlLBlock) (s4 : Int) (b0 : (List DXstruct_Parent_int_View_int_Cmds_laws_Cmd)) : R_l_toBlockS_3 (n + 1) s0 s4 b0 =
    bif decide (s4 < (↑(List.length s0) : Int)) then
 if (0 : Int) ≤ s4 then
 (nth s0 s4.toNat).bind fun y =>
 (Q_l_toBlock big y).bind fun y =>
 if (0 : Int) ≤ s4 then
 if s4 < (↑b0.length : Int) then
 (nth b0 s4.toNat).bind fun y_1 =>
 (updO b0 s4.toNat y).bind fun y => R_l_toBlockS_3 n s0 (IntKind.i64.wrap (s4 + (1 : Int))) y
 else none
 else none
 else none
 else some b0 := by kernel_rfl

end Go.Sx.Tryd

set_option maxRecDepth 100000
namespace Go.Sx.Tryd
open Go Go.Sx Go.Proofs

noncomputable def l_l_toIntS : List (Nat × Con) := []
theorem l_l_toIntS_ok : ∀ q ∈ l_l_toIntS, ConOk Tryd.prog q.1 q.2 := Tryd.cons_nil
abbrev k_l_toIntS_3 : List Keep × List BK := ([.ro tSlInt, .drop, .drop, .is (.own 0 0), .ro tInt64, .drop, .drop, .drop, .drop, .drop, .drop, .drop, .drop, .drop, .drop, .drop, .drop, .drop, .drop, .drop, .drop, .drop], [.arr tInt64])
def kp_l_toIntS : KP := [(3, k_l_toIntS_3)]
noncomputable def q_l_toIntS (n : Nat) (x : Args [tSlInt]) := evX (false, false, []) l_l_toIntS kp_l_toIntS [some uSlInt] Tryd.f7 (shF uSlInt) n (encA [tSlInt] x)
noncomputable def c_l_toIntS : Con := roS [tSlInt] true (shF uSlInt) (q_l_toIntS big)
theorem c_l_toIntS_ok : ConOk Tryd.prog 7 c_l_toIntS := roS_ok ⟨Tryd.f7, by kernel_rfl, rfl, by decide⟩ fun _ _ h => evX_ok l_l_toIntS_ok (f := Tryd.f7) (by kernel_rfl) rfl (by kernel_rfl) (by kernel_rfl) big h
noncomputable def Q_l_toIntS (n : Nat) (a0 : DSlInt) : Option DSlInt := q_l_toIntS n (a0, ())
noncomputable def r_l_toIntS_3 (n : Nat) (x : KD k_l_toIntS_3.1) (y : BD k_l_toIntS_3.2) := rounds (env (false, false, []) l_l_toIntS) kp_l_toIntS (body Tryd.f7) (finX (false, false, []) l_l_toIntS [some uSlInt] Tryd.f7 (shF uSlInt) [.val tSlInt (zeroD tSlInt)]) n 3 k_l_toIntS_3 x y
noncomputable def R_l_toIntS_3 (n : Nat) (s0 : DSlInt) (s4 : Int) (b0 : (List Int)) : Option DSlInt := r_l_toIntS_3 n (s0, s4, ()) (b0, ())
theorem Q_l_toIntS_eq (n : Nat) (a0 : DSlInt) : Q_l_toIntS n a0 =
    if (↑(List.length a0) : Int) ≤ (↑(List.length a0) : Int) then
 if (↑(List.length a0) : Int) ≤ (↑lim : Int) then
 R_l_toIntS_3 n a0 (0 : Int)
 (List.replicate (↑(List.length a0) : Int).toNat
 (zeroD (bif (env (false, false, []) l_l_toIntS).nest then tInt.uq else tInt)))
 else none
 else none := by kernel_rfl
theorem R_l_toIntS_3_eq (n : Nat) (s0 : DSlInt) (s4 : Int) (b0 : (List Int)) : R_l_toIntS_3 (n + 1) s0 s4 b0 =
    bif decide (s4 < (↑(List.length s0) : Int)) then
 if (0 : Int) ≤ s4 then
 (nth s0 s4.toNat).bind fun y =>
 if (0 : Int) ≤ s4 then
 if s4 < (↑b0.length : Int) then
 (nth b0 s4.toNat).bind fun y_1 =>
 (updO b0 s4.toNat y).bind fun y => R_l_toIntS_3 n s0 (IntKind.i64.wrap (s4 + (1 : Int))) y
 else none
 else none
 else none
 else some b0 := by kernel_rfl

end Go.Sx.Tryd

set_option maxRecDepth 100000
namespace Go.Sx.Tryd
open Go Go.Sx Go.Proofs

noncomputable def l_l_eqCmd : List (Nat × Con) := []
theorem l_l_eqCmd_ok : ∀ q ∈ l_l_eqCmd, ConOk Tryd.prog q.1 q.2 := Tryd.cons_nil
def kp_l_eqCmd : KP := []
noncomputable def q_l_eqCmd (n : Nat) (x : Args [tICmd, tICmd]) := evX (false, false, [2, 3, 5, 7, 10, 12, 15, 17]) l_l_eqCmd kp_l_eqCmd [none] Tryd.f29 (shV tBool) n (encA [tICmd, tICmd] x)
noncomputable def c_l_eqCmd : Con := roS [tICmd, tICmd] true (shV tBool) (q_l_eqCmd big)
theorem c_l_eqCmd_ok : ConOk Tryd.prog 29 c_l_eqCmd := roS_ok ⟨Tryd.f29, by kernel_rfl, rfl, by decide⟩ fun _ _ h => evX_ok l_l_eqCmd_ok (f := Tryd.f29) (by kernel_rfl) rfl (by kernel_rfl) (by kernel_rfl) big h
noncomputable def Q_l_eqCmd (n : Nat) (a0 : DICmd) (a1 : DICmd) : Option Bool := q_l_eqCmd n (a0, a1, ())
theorem Q_l_eqCmd_eq (n : Nat) (a0 : DICmd) (a1 : DICmd) : Q_l_eqCmd n a0 a1 =
    bif !decide (a0.fst = a1.fst) then some false
 else
 bif !decide (a0.snd.fst = a1.snd.fst) then some false
 else bif !decide (a0.snd.snd.fst = a1.snd.snd.fst) then some false else some true := by kernel_rfl

end Go.Sx.Tryd

set_option maxRecDepth 100000
namespace Go.Sx.Tryd
open Go Go.Sx Go.Proofs

noncomputable def l_l_eqCmdS : List (Nat × Con) := [(29, c_l_eqCmd)]
theorem l_l_eqCmdS_ok : ∀ q ∈ l_l_eqCmdS, ConOk Tryd.prog q.1 q.2 := Tryd.cons_cons c_l_eqCmd_ok (Tryd.cons_nil)
abbrev k_l_eqCmdS_4 : List Keep × List BK := ([.ro tSlLCmd, .ro tSlLCmd, .drop, .drop, .drop, .ro tInt64, .drop, .drop, .drop, .drop, .drop, .drop, .drop, .drop, .drop, .drop, .drop, .drop, .drop, .drop, .drop, .drop, .drop, .drop, .drop, .drop, .drop], [])
def kp_l_eqCmdS : KP := [(4, k_l_eqCmdS_4)]
noncomputable def q_l_eqCmdS (n : Nat) (x : Args [tSlICmd, tSlICmd]) := evX (false, false, []) l_l_eqCmdS kp_l_eqCmdS [none] Tryd.f24 (shV tBool) n (encA [tSlICmd, tSlICmd] x)
noncomputable def c_l_eqCmdS : Con := roS [tSlICmd, tSlICmd] true (shV tBool) (q_l_eqCmdS big)
theorem c_l_eqCmdS_ok : ConOk Tryd.prog 24 c_l_eqCmdS := roS_ok ⟨Tryd.f24, by kernel_rfl, rfl, by decide⟩ fun _ _ h => evX_ok l_l_eqCmdS_ok (f := Tryd.f24) (by kernel_rfl) rfl (by kernel_rfl) (by kernel_rfl) big h
noncomputable def Q_l_eqCmdS (n : Nat) (a0 : DSlICmd) (a1 : DSlICmd) : Option Bool := q_l_eqCmdS n (a0, a1, ())
noncomputable def r_l_eqCmdS_4 (n : Nat) (x : KD k_l_eqCmdS_4.1) (y : BD k_l_eqCmdS_4.2) := rounds (env (false, false, []) l_l_eqCmdS) kp_l_eqCmdS (body Tryd.f24) (finX (false, false, []) l_l_eqCmdS [none] Tryd.f24 (shV tBool) [.val tSlICmd (zeroD tSlICmd), .val tSlICmd (zeroD tSlICmd)]) n 4 k_l_eqCmdS_4 x y
noncomputable def R_l_eqCmdS_4 (n : Nat) (s0 : DSlLCmd) (s1 : DSlLCmd) (s5 : Int) : Option Bool := r_l_eqCmdS_4 n (s0, s1, s5, ()) ()
theorem Q_l_eqCmdS_eq (n : Nat) (a0 : DSlICmd) (a1 : DSlICmd) : Q_l_eqCmdS n a0 a1 =
    bif !decide ((↑(List.length a0) : Int) = (↑(List.length a1) : Int)) then some false
 else R_l_eqCmdS_4 n a0 a1 (0 : Int) := by kernel_rfl
theorem R_l_eqCmdS_4_eq (n : Nat) (s0 : DSlLCmd) (s1 : DSlLCmd) (s5 : Int) : R_l_eqCmdS_4 (n + 1) s0 s1 s5 =
    bif decide (s5 < (↑(List.length s0) : Int)) then
 if (0 : Int) ≤ s5 then
 (nth s0 s5.toNat).bind fun y =>
 if (0 : Int) ≤ s5 then
 (nth s1 s5.toNat).bind fun y_1 =>
 (Q_l_eqCmd big y y_1).bind fun y =>
 bif !y then some false else R_l_eqCmdS_4 n s0 s1 (IntKind.i64.wrap (s5 + (1 : Int)))
 else none
 else none
 else some true := by kernel_rfl

end Go.Sx.Tryd

set_option maxRecDepth 100000
namespace Go.Sx.Tryd
open Go Go.Sx Go.Proofs

noncomputable def l_l_eqQc : List (Nat × Con) := []
theorem l_l_eqQc_ok : ∀ q ∈ l_l_eqQc, ConOk Tryd.prog q.1 q.2 := Tryd.cons_nil
def kp_l_eqQc : KP := []
noncomputable def q_l_eqQc (n : Nat) (x : Args [tIQc, tIQc]) := evX (false, false, [2, 3, 5, 7, 10, 12, 15, 17, 20, 22]) l_l_eqQc kp_l_eqQc [none] Tryd.f25 (shV tBool) n (encA [tIQc, tIQc] x)
noncomputable def c_l_eqQc : Con := roS [tIQc, tIQc] true (shV tBool) (q_l_eqQc big)
theorem c_l_eqQc_ok : ConOk Tryd.prog 25 c_l_eqQc := roS_ok ⟨Tryd.f25, by kernel_rfl, rfl, by decide⟩ fun _ _ h => evX_ok l_l_eqQc_ok (f := Tryd.f25) (by kernel_rfl) rfl (by kernel_rfl) (by kernel_rfl) big h
noncomputable def Q_l_eqQc (n : Nat) (a0 : DIQc) (a1 : DIQc) : Option Bool := q_l_eqQc n (a0, a1, ())
theorem Q_l_eqQc_eq (n : Nat) (a0 : DIQc) (a1 : DIQc) : Q_l_eqQc n a0 a1 =
    bif !decide (a0.fst = a1.fst) then some false
 else
 bif !decide (a0.snd.fst = a1.snd.fst) then some false
 else
 bif !decide (a0.snd.snd.fst = a1.snd.snd.fst) then some false
 else bif !decide (a0.snd.snd.snd.fst = a1.snd.snd.snd.fst) then some false else some true := by kernel_rfl

end Go.Sx.Tryd

set_option maxRecDepth 100000
namespace Go.Sx.Tryd
open Go Go.Sx Go.Proofs

noncomputable def l_l_eqBlock : List (Nat × Con) := [(24, c_l_eqCmdS), (25, c_l_eqQc)]
theorem l_l_eqBlock_ok : ∀ q ∈ l_l_eqBlock, ConOk Tryd.prog q.1 q.2 := Tryd.cons_cons c_l_eqCmdS_ok (Tryd.cons_cons c_l_eqQc_ok (Tryd.cons_nil))
def kp_l_eqBlock : KP := []
noncomputable def q_l_eqBlock (n : Nat) (x : Args [tIBlock, tIBlock]) := evX (false, false, [2, 3, 5, 7, 10, 12, 15, 17, 21, 23]) l_l_eqBlock kp_l_eqBlock [none] Tryd.f18 (shV tBool) n (encA [tIBlock, tIBlock] x)
noncomputable def c_l_eqBlock : Con := roS [tIBlock, tIBlock] true (shV tBool) (q_l_eqBlock big)
theorem c_l_eqBlock_ok : ConOk Tryd.prog 18 c_l_eqBlock := roS_ok ⟨Tryd.f18, by kernel_rfl, rfl, by decide⟩ fun _ _ h => evX_ok l_l_eqBlock_ok (f := Tryd.f18) (by kernel_rfl) rfl (by kernel_rfl) (by kernel_rfl) big h
noncomputable def Q_l_eqBlock (n : Nat) (a0 : DIBlock) (a1 : DIBlock) : Option Bool := q_l_eqBlock n (a0, a1, ())
theorem Q_l_eqBlock_eq (n : Nat) (a0 : DIBlock) (a1 : DIBlock) : Q_l_eqBlock n a0 a1 =
    bif !decide (a0.fst = a1.fst) then some false
 else
 bif !decide (a0.snd.fst = a1.snd.fst) then some false
 else
 (Q_l_eqCmdS big a0.snd.snd.fst a1.snd.snd.fst).bind fun y =>
 bif !y then some false
 else
 (Q_l_eqQc big a0.snd.snd.snd.fst a1.snd.snd.snd.fst).bind fun y =>
 bif !y then some false else some true := by kernel_rfl

end Go.Sx.Tryd

set_option maxRecDepth 100000
namespace Go.Sx.Tryd
open Go Go.Sx Go.Proofs

noncomputable def l_l_eqBlockS : List (Nat × Con) := [(18, c_l_eqBlock)]
theorem l_l_eqBlockS_ok : ∀ q ∈ l_l_eqBlockS, ConOk Tryd.prog q.1 q.2 := Tryd.cons_cons c_l_eqBlock_ok (Tryd.cons_nil)
abbrev k_l_eqBlockS_4 : List Keep × List BK := ([.ro tSlLBlock, .ro tSlLBlock, .drop, .drop, .drop, .ro tInt64, .drop, .drop, .drop, .drop, .drop, .drop, .drop, .drop, .drop, .drop, .drop, .drop, .drop, .drop, .drop, .drop, .drop, .drop, .drop, .drop, .drop], [])
def kp_l_eqBlockS : KP := [(4, k_l_eqBlockS_4)]
noncomputable def q_l_eqBlockS (n : Nat) (x : Args [tSlIBlock, tSlIBlock]) := evX (false, false, []) l_l_eqBlockS kp_l_eqBlockS [none] Tryd.f9 (shV tBool) n (encA [tSlIBlock, tSlIBlock] x)
noncomputable def c_l_eqBlockS : Con := roS [tSlIBlock, tSlIBlock] true (shV tBool) (q_l_eqBlockS big)
theorem c_l_eqBlockS_ok : ConOk Tryd.prog 9 c_l_eqBlockS := roS_ok ⟨Tryd.f9, by kernel_rfl, rfl, by decide⟩ fun _ _ h => evX_ok l_l_eqBlockS_ok (f := Tryd.f9) (by kernel_rfl) rfl (by kernel_rfl) (by kernel_rfl) big h
noncomputable def Q_l_eqBlockS (n : Nat) (a0 : DSlIBlock) (a1 : DSlIBlock) : Option Bool := q_l_eqBlockS n (a0, a1, ())
noncomputable def r_l_eqBlockS_4 (n : Nat) (x : KD k_l_eqBlockS_4.1) (y : BD k_l_eqBlockS_4.2) := rounds (env (false, false, []) l_l_eqBlockS) kp_l_eqBlockS (body Tryd.f9) (finX (false, false, []) l_l_eqBlockS [none] Tryd.f9 (shV tBool) [.val tSlIBlock (zeroD tSlIBlock), .val tSlIBlock (zeroD tSlIBlock)]) n 4 k_l_eqBlockS_4 x y
noncomputable def R_l_eqBlockS_4 (n : Nat) (s0 : DSlLBlock) (s1 : DSlLBlock) (s5 : Int) : Option Bool := r_l_eqBlockS_4 n (s0, s1, s5, ()) ()
theorem Q_l_eqBlockS_eq (n : Nat) (a0 : DSlIBlock) (a1 : DSlIBlock) : Q_l_eqBlockS n a0 a1 =
    bif !decide ((↑(List.length a0) : Int) = (↑(List.length a1) : Int)) then some false
 else R_l_eqBlockS_4 n a0 a1 (0 : Int) := by kernel_rfl
theorem R_l_eqBlockS_4_eq (n : Nat) (s0 : DSlLBlock) (s1 : DSlLBlock) (s5 : Int) : R_l_eqBlockS_4 (n + 1) s0 s1 s5 =
    bif decide (s5 < (↑(List.length s0) : Int)) then
 if (0 : Int) ≤ s5 then
 (nth s0 s5.toNat).bind fun y =>
 if (0 : Int) ≤ s5 then
 (nth s1 s5.toNat).bind fun y_1 =>
 (Q_l_eqBlock big y y_1).bind fun y =>
 bif !y then some false else R_l_eqBlockS_4 n s0 s1 (IntKind.i64.wrap (s5 + (1 : Int)))
 else none
 else none
 else some true := by kernel_rfl

end Go.Sx.Tryd

set_option maxRecDepth 100000
namespace Go.Sx.Tryd
open Go Go.Sx Go.Proofs

noncomputable def l_l_eqIntS : List (Nat × Con) := []
theorem l_l_eqIntS_ok : ∀ q ∈ l_l_eqIntS, ConOk Tryd.prog q.1 q.2 := Tryd.cons_nil
abbrev k_l_eqIntS_4 : List Keep × List BK := ([.ro tSlInt, .ro tSlInt, .drop, .drop, .drop, .ro tInt64, .drop, .drop, .drop, .drop, .drop, .drop, .drop, .drop, .drop, .drop, .drop, .drop, .drop, .drop, .drop, .drop, .drop, .drop, .drop, .drop], [])
def kp_l_eqIntS : KP := [(4, k_l_eqIntS_4)]
noncomputable def q_l_eqIntS (n : Nat) (x : Args [tSlInt, tSlInt]) := evX (false, false, []) l_l_eqIntS kp_l_eqIntS [none] Tryd.f10 (shV tBool) n (encA [tSlInt, tSlInt] x)
noncomputable def c_l_eqIntS : Con := roS [tSlInt, tSlInt] true (shV tBool) (q_l_eqIntS big)
theorem c_l_eqIntS_ok : ConOk Tryd.prog 10 c_l_eqIntS := roS_ok ⟨Tryd.f10, by kernel_rfl, rfl, by decide⟩ fun _ _ h => evX_ok l_l_eqIntS_ok (f := Tryd.f10) (by kernel_rfl) rfl (by kernel_rfl) (by kernel_rfl) big h
noncomputable def Q_l_eqIntS (n : Nat) (a0 : DSlInt) (a1 : DSlInt) : Option Bool := q_l_eqIntS n (a0, a1, ())
noncomputable def r_l_eqIntS_4 (n : Nat) (x : KD k_l_eqIntS_4.1) (y : BD k_l_eqIntS_4.2) := rounds (env (false, false, []) l_l_eqIntS) kp_l_eqIntS (body Tryd.f10) (finX (false, false, []) l_l_eqIntS [none] Tryd.f10 (shV tBool) [.val tSlInt (zeroD tSlInt), .val tSlInt (zeroD tSlInt)]) n 4 k_l_eqIntS_4 x y
noncomputable def R_l_eqIntS_4 (n : Nat) (s0 : DSlInt) (s1 : DSlInt) (s5 : Int) : Option Bool := r_l_eqIntS_4 n (s0, s1, s5, ()) ()
theorem Q_l_eqIntS_eq (n : Nat) (a0 : DSlInt) (a1 : DSlInt) : Q_l_eqIntS n a0 a1 =
    bif !decide ((↑(List.length a0) : Int) = (↑(List.length a1) : Int)) then some false
 else R_l_eqIntS_4 n a0 a1 (0 : Int) := by kernel_rfl
theorem R_l_eqIntS_4_eq (n : Nat) (s0 : DSlInt) (s1 : DSlInt) (s5 : Int) : R_l_eqIntS_4 (n + 1) s0 s1 s5 =
    bif decide (s5 < (↑(List.length s0) : Int)) then
 if (0 : Int) ≤ s5 then
 (nth s0 s5.toNat).bind fun y =>
 if (0 : Int) ≤ s5 then
 (nth s1 s5.toNat).bind fun y_1 =>
 bif !decide (y = y_1) then some false else R_l_eqIntS_4 n s0 s1 (IntKind.i64.wrap (s5 + (1 : Int)))
 else none
 else none
 else some true := by kernel_rfl

end Go.Sx.Tryd

set_option maxRecDepth 100000
namespace Go.Proofs
open Go Go.Shelf
def Tryd.laysM171_ren : Go.Shelf.Ren := ⟨fun | 171 => 23 | 243 => 28 | 246 => 30 | 283 => 31 | 284 => 32 | 285 => 33 | 286 => 34 | 129 => 36 | 317 => 35 | 318 => 37 | 319 => 38 | 320 => 39 | 337 => 40 | 338 => 41 | n => n, fun | 3 => 3 | 9 => 9 | 2 => 2 | 4 => 4 | 171 => 60 | 0 => 0 | 53 => 61 | 37 => 48 | 5 => 5 | 173 => 64 | 212 => 68 | 51 => 69 | 20 => 20 | 213 => 70 | 46 => 72 | 232 => 75 | 233 => 76 | n => n, fun | 17 => 0 | 18 => 1 | 19 => 2 | n => n⟩
theorem Tryd.laysM171 : Go.Proofs.LaysM.n171 Tryd.prog Tryd.laysM171_ren := {
  mixed := by kernel_rfl
  f129 := Tryd.func36.trans (congrArg some (by kernel_rfl))
  f171 := Tryd.func23.trans (congrArg some (by kernel_rfl))
  f243 := Tryd.func28.trans (congrArg some (by kernel_rfl))
  f246 := Tryd.func30.trans (congrArg some (by kernel_rfl))
  f283 := Tryd.func31.trans (congrArg some (by kernel_rfl))
  f284 := Tryd.func32.trans (congrArg some (by kernel_rfl))
  f285 := Tryd.func33.trans (congrArg some (by kernel_rfl))
  f286 := Tryd.func34.trans (congrArg some (by kernel_rfl))
  f317 := Tryd.func35.trans (congrArg some (by kernel_rfl))
  f318 := Tryd.func37.trans (congrArg some (by kernel_rfl))
  f319 := Tryd.func38.trans (congrArg some (by kernel_rfl))
  f320 := Tryd.func39.trans (congrArg some (by kernel_rfl))
  f337 := Tryd.func40.trans (congrArg some (by kernel_rfl))
  f338 := Tryd.func41.trans (congrArg some (by kernel_rfl))
  t0 := Tryd.underlying0
  a0 := Tryd.isAgg0
  z0 := Tryd.sizeOf0
  v0 := Tryd.zeroValue0
  t2 := Tryd.underlying2
  a2 := Tryd.isAgg2
  z2 := Tryd.sizeOf2
  v2 := Tryd.zeroValue2
  t3 := Tryd.underlying3
  a3 := Tryd.isAgg3
  z3 := Tryd.sizeOf3
  v3 := Tryd.zeroValue3
  t4 := Tryd.underlying4
  a4 := Tryd.isAgg4
  z4 := Tryd.sizeOf4
  v4 := Tryd.zeroValue4
  t5 := Tryd.underlying5
  a5 := Tryd.isAgg5
  z5 := Tryd.sizeOf5
  v5 := Tryd.zeroValue5
  t9 := Tryd.underlying9
  a9 := Tryd.isAgg9
  z9 := Tryd.sizeOf9
  v9 := Tryd.zeroValue9
  t20 := Tryd.underlying20
  a20 := Tryd.isAgg20
  z20 := Tryd.sizeOf20
  v20 := Tryd.zeroValue20
  t37 := Tryd.underlying48
  a37 := Tryd.isAgg48
  z37 := Tryd.sizeOf48
  v37 := Tryd.zeroValue48
  t46 := Tryd.underlying72
  a46 := Tryd.isAgg72
  z46 := Tryd.sizeOf72
  v46 := Tryd.zeroValue72
  t51 := Tryd.underlying69
  a51 := Tryd.isAgg69
  z51 := Tryd.sizeOf69
  v51 := Tryd.zeroValue69
  t53 := Tryd.underlying61
  a53 := Tryd.isAgg61
  z53 := Tryd.sizeOf61
  v53 := Tryd.zeroValue61
  t171 := Tryd.underlying60
  a171 := Tryd.isAgg60
  z171 := Tryd.sizeOf60
  v171 := Tryd.zeroValue60
  t173 := Tryd.underlying64
  a173 := Tryd.isAgg64
  z173 := Tryd.sizeOf64
  v173 := Tryd.zeroValue64
  t212 := Tryd.underlying68
  a212 := Tryd.isAgg68
  z212 := Tryd.sizeOf68
  v212 := Tryd.zeroValue68
  t213 := Tryd.underlying70
  a213 := Tryd.isAgg70
  z213 := Tryd.sizeOf70
  t232 := Tryd.underlying75
  a232 := Tryd.isAgg75
  z232 := Tryd.sizeOf75
  v232 := Tryd.zeroValue75
  t233 := Tryd.underlying76
  a233 := Tryd.isAgg76
  z233 := Tryd.sizeOf76
  v233 := Tryd.zeroValue76
  g17 := by kernel_rfl
  g18 := by kernel_rfl
  g19 := by kernel_rfl
  i0 := by kernel_rfl
  i2 := by kernel_rfl
  i3 := by kernel_rfl
  i4 := by kernel_rfl
  i5 := by kernel_rfl
  i9 := by kernel_rfl
  i20 := by kernel_rfl
  i37 := by kernel_rfl
  i46 := by kernel_rfl
  i51 := by kernel_rfl
  i53 := by kernel_rfl
  i171 := by kernel_rfl
  i173 := by kernel_rfl
  i212 := by kernel_rfl
  i232 := by kernel_rfl
  i233 := by kernel_rfl
  m17 := by kernel_rfl
  m18 := by kernel_rfl
  m19 := by kernel_rfl }

end Go.Proofs
namespace Go.Sx.Tryd
open Go Go.Sx Go.Proofs

theorem need_pow {p : Nat → Prop} {w : World} (h : Need p w) : Lib.TabIs Tryd.prog w "internal/strconv.uint64pow10" .u64 Lib.pow10Tab := by
  have hg : Tryd.prog.globalNamed "internal/strconv.uint64pow10" = some 0 := by kernel_rfl
  obtain ⟨_, e, f, he⟩ := h _ (show _ ∈ tabs from List.mem_cons_self)
  unfold Lib.TabIs World.var?
  rw [hg]
  simp only [Option.bind_some, he]

theorem kept_grow (w : World) (k : Nat) (os : Array Obj) : Kept w (Go.Sort.grow (w.drewN k) os) [] := by
  have hs : w.heap.size ≤ (w.heap ++ os).size := by rw [Array.size_append]; omega
  have hh : ∀ i, i < w.heap.size → (w.heap ++ os)[i]? = w.heap[i]? := fun i hi => by rw [Array.getElem?_append_left hi]
  refine ⟨hs, fun i hi _ => hh i hi, ⟨fun i hi => .inl ?_, rfl, rfl, hs⟩⟩
  show frzO (w.heap ++ os)[i]? = _
  rw [hh i hi]

theorem CVL_one {p : Nat → Prop} {w : World} {k : IntKind} {n : Int} {cargs : List Value} {S : List Nat} {B : List LC} (h : CVL p w [.val (.int k) n] cargs S B) : cargs = [.int k n] ∧ S = [] ∧ B = [] := by
  simp only [CVL] at h
  obtain ⟨c, r, S1, S2, B1, B2, rfl, rfl, rfl, h1, rfl, rfl, rfl⟩ := h
  simp only [CV] at h1
  obtain ⟨rfl, rfl, cs, hr, rfl⟩ := h1
  simp only [TR] at hr
  obtain ⟨rfl, _⟩ := hr
  exact ⟨rfl, rfl, rfl⟩

/-- the numeral -/
noncomputable def itoaB (n : Int) : ByteArray := ⟨(Lib.itoa n).toArray⟩

noncomputable def q_x_strconv_Itoa (_n : Nat) (x : Args [tInt]) : Option ByteArray := if -9223372036854775808 ≤ x.1 then (if x.1 ≤ 9223372036854775807 then some (itoaB x.1) else none) else none
noncomputable def c_x_strconv_Itoa : Con := roS [tInt] true (shV tString) (q_x_strconv_Itoa big)
theorem c_x_strconv_Itoa_ok : ConOk Tryd.prog 23 c_x_strconv_Itoa := roS_ok ⟨Tryd.f23, by kernel_rfl, rfl, by decide⟩ fun xs v h => by
  obtain ⟨a0, u⟩ := xs
  cases u
  unfold q_x_strconv_Itoa at h
  dsimp only at h
  split at h
  · rename_i h0
    split at h
    · rename_i h1
      simp only [Option.some.injEq] at h
      subst h
      intro p w cargs S B hcv hnd hS hp hnt
      obtain ⟨rfl, rfl, rfl⟩ := CVL_one hcv
      refine (Any.strconv_Itoa Tryd.laysM171 a0 h0 h1 w (need_pow hnt)).mono ?_
      rintro e w' ⟨rfl, k, os, rfl⟩
      exact ⟨_, [], [], rfl, List.nodup_nil, (fun k hk => by cases hk), kept_grow w k os, ⟨rfl, rfl, [.string (itoaB a0)], ⟨rfl, rfl⟩, rfl⟩, rfl⟩
    · cases h
  · cases h
noncomputable def Q_x_strconv_Itoa (n : Nat) (a0 : Int) : Option ByteArray := q_x_strconv_Itoa n (a0, ())
theorem Q_x_strconv_Itoa_eq (n : Nat) (a0 : Int) : Q_x_strconv_Itoa n a0 = if -9223372036854775808 ≤ a0 then (if a0 ≤ 9223372036854775807 then some (itoaB a0) else none) else none := rfl
end Go.Sx.Tryd

set_option maxRecDepth 100000
namespace Go.Sx.Tryd
open Go Go.Sx Go.Proofs

noncomputable def l_i_Decimal : List (Nat × Con) := [(23, c_x_strconv_Itoa)]
theorem l_i_Decimal_ok : ∀ q ∈ l_i_Decimal, ConOk Tryd.prog q.1 q.2 := Tryd.cons_cons c_x_strconv_Itoa_ok (Tryd.cons_nil)
def kp_i_Decimal : KP := []
noncomputable def q_i_Decimal (n : Nat) (x : Args [tInt]) := evX (false, false, []) l_i_Decimal kp_i_Decimal [none] Tryd.f17 (shV tString) n (encA [tInt] x)
noncomputable def c_i_Decimal : Con := roS [tInt] true (shV tString) (q_i_Decimal big)
theorem c_i_Decimal_ok : ConOk Tryd.prog 17 c_i_Decimal := roS_ok ⟨Tryd.f17, by kernel_rfl, rfl, by decide⟩ fun _ _ h => evX_ok l_i_Decimal_ok (f := Tryd.f17) (by kernel_rfl) rfl (by kernel_rfl) (by kernel_rfl) big h
noncomputable def Q_i_Decimal (n : Nat) (a0 : Int) : Option ByteArray := q_i_Decimal n (a0, ())
theorem Q_i_Decimal_eq (n : Nat) (a0 : Int) : Q_i_Decimal n a0 =
    (Q_x_strconv_Itoa big a0).bind fun y => some y := by kernel_rfl

end Go.Sx.Tryd

set_option maxRecDepth 100000
namespace Go.Sx.Tryd
open Go Go.Sx Go.Proofs

noncomputable def l_s_l01Figure : List (Nat × Con) := []
theorem l_s_l01Figure_ok : ∀ q ∈ l_s_l01Figure, ConOk Tryd.prog q.1 q.2 := Tryd.cons_nil
def kp_s_l01Figure : KP := []
noncomputable def q_s_l01Figure (n : Nat) (x : Args [tInt]) := evX (false, false, []) l_s_l01Figure kp_s_l01Figure [none] Tryd.f20 (shV tUint8) n (encA [tInt] x)
noncomputable def c_s_l01Figure : Con := roS [tInt] true (shV tUint8) (q_s_l01Figure big)
theorem c_s_l01Figure_ok : ConOk Tryd.prog 20 c_s_l01Figure := roS_ok ⟨Tryd.f20, by kernel_rfl, rfl, by decide⟩ fun _ _ h => evX_ok l_s_l01Figure_ok (f := Tryd.f20) (by kernel_rfl) rfl (by kernel_rfl) (by kernel_rfl) big h
noncomputable def Q_s_l01Figure (n : Nat) (a0 : Int) : Option Int := q_s_l01Figure n (a0, ())
theorem Q_s_l01Figure_eq (n : Nat) (a0 : Int) : Q_s_l01Figure n a0 =
    bif decide (a0 < (10 : Int)) then some (IntKind.u8.wrap (IntKind.i64.wrap ((48 : Int) + a0)))
 else some (IntKind.u8.wrap (IntKind.i64.wrap (IntKind.i64.wrap ((97 : Int) + a0) - (10 : Int)))) := by kernel_rfl

end Go.Sx.Tryd

set_option maxRecDepth 100000
namespace Go.Sx.Tryd
open Go Go.Sx Go.Proofs

noncomputable def l_s_Decimal : List (Nat × Con) := [(20, c_s_l01Figure)]
theorem l_s_Decimal_ok : ∀ q ∈ l_s_Decimal, ConOk Tryd.prog q.1 q.2 := Tryd.cons_cons c_s_l01Figure_ok (Tryd.cons_nil)
abbrev k_s_Decimal_5 : List Keep × List BK := ([.ro tInt64, .drop, .drop, .ro tBool, .ro tString, .drop, .drop, .drop, .drop, .drop, .drop, .drop, .drop, .drop, .drop, .drop, .drop, .drop, .drop, .drop, .drop, .drop, .drop, .drop, .drop, .drop, .drop, .drop, .drop, .drop], [])
def kp_s_Decimal : KP := [(5, k_s_Decimal_5)]
noncomputable def q_s_Decimal (n : Nat) (x : Args [tInt]) := evX (false, false, []) l_s_Decimal kp_s_Decimal [none] Tryd.f14 (shV tString) n (encA [tInt] x)
noncomputable def c_s_Decimal : Con := roS [tInt] true (shV tString) (q_s_Decimal big)
theorem c_s_Decimal_ok : ConOk Tryd.prog 14 c_s_Decimal := roS_ok ⟨Tryd.f14, by kernel_rfl, rfl, by decide⟩ fun _ _ h => evX_ok l_s_Decimal_ok (f := Tryd.f14) (by kernel_rfl) rfl (by kernel_rfl) (by kernel_rfl) big h
noncomputable def Q_s_Decimal (n : Nat) (a0 : Int) : Option ByteArray := q_s_Decimal n (a0, ())
noncomputable def r_s_Decimal_5 (n : Nat) (x : KD k_s_Decimal_5.1) (y : BD k_s_Decimal_5.2) := rounds (env (false, false, []) l_s_Decimal) kp_s_Decimal (body Tryd.f14) (finX (false, false, []) l_s_Decimal [none] Tryd.f14 (shV tString) [.val tInt (zeroD tInt)]) n 5 k_s_Decimal_5 x y
noncomputable def R_s_Decimal_5 (n : Nat) (s0 : Int) (s3 : Bool) (s4 : ByteArray) : Option ByteArray := r_s_Decimal_5 n (s0, s3, s4, ()) ()
theorem Q_s_Decimal_eq (n : Nat) (a0 : Int) : Q_s_Decimal n a0 =
    bif decide (a0 = (0 : Int)) then some (ByteArray.mk #[(48 : UInt8)])
 else R_s_Decimal_5 n a0 (decide (a0 < (0 : Int))) (ByteArray.mk #[]) := by kernel_rfl
theorem R_s_Decimal_5_eq (n : Nat) (s0 : Int) (s3 : Bool) (s4 : ByteArray) : R_s_Decimal_5 (n + 1) s0 s3 s4 =
    bif !decide (s0 = (0 : Int)) then
 bif decide (s0.tmod (10 : Int) < (0 : Int)) then
 (Q_s_l01Figure big (IntKind.i64.wrap ((0 : Int) - s0.tmod (10 : Int)))).bind fun y =>
 if (ByteArray.mk (List.map (fun n => UInt8.ofNat n.toNat) [y]).toArray).size + s4.size ≤ lim then
 R_s_Decimal_5 n (IntKind.i64.wrap (s0.tdiv (10 : Int))) s3
 (ByteArray.mk (List.map (fun n => UInt8.ofNat n.toNat) [y]).toArray ++ s4)
 else none
 else
 (Q_s_l01Figure big (s0.tmod (10 : Int))).bind fun y =>
 if (ByteArray.mk (List.map (fun n => UInt8.ofNat n.toNat) [y]).toArray).size + s4.size ≤ lim then
 R_s_Decimal_5 n (IntKind.i64.wrap (s0.tdiv (10 : Int))) s3
 (ByteArray.mk (List.map (fun n => UInt8.ofNat n.toNat) [y]).toArray ++ s4)
 else none
 else
 bif s3 then
 if (ByteArray.mk #[(45 : UInt8)]).size + s4.size ≤ lim then some (ByteArray.mk #[(45 : UInt8)] ++ s4) else none
 else some s4 := by kernel_rfl

end Go.Sx.Tryd

set_option maxRecDepth 100000
namespace Go.Sx.Tryd
open Go Go.Sx Go.Proofs

noncomputable def l_i_in : List (Nat × Con) := []
theorem l_i_in_ok : ∀ q ∈ l_i_in, ConOk Tryd.prog q.1 q.2 := Tryd.cons_nil
def kp_i_in : KP := []
noncomputable def q_i_in (n : Nat) (x : Args [tInt, tInt, tInt]) := evX (false, false, []) l_i_in kp_i_in [none] Tryd.f16 (shV tBool) n (encA [tInt, tInt, tInt] x)
noncomputable def c_i_in : Con := roS [tInt, tInt, tInt] true (shV tBool) (q_i_in big)
theorem c_i_in_ok : ConOk Tryd.prog 16 c_i_in := roS_ok ⟨Tryd.f16, by kernel_rfl, rfl, by decide⟩ fun _ _ h => evX_ok l_i_in_ok (f := Tryd.f16) (by kernel_rfl) rfl (by kernel_rfl) (by kernel_rfl) big h
noncomputable def Q_i_in (n : Nat) (a0 : Int) (a1 : Int) (a2 : Int) : Option Bool := q_i_in n (a0, a1, a2, ())
theorem Q_i_in_eq (n : Nat) (a0 : Int) (a1 : Int) (a2 : Int) : Q_i_in n a0 a1 a2 =
    bif decide (a1 ≤ a0) then some (decide (a0 ≤ a2)) else some false := by kernel_rfl

end Go.Sx.Tryd

set_option maxRecDepth 100000
namespace Go.Sx.Tryd
open Go Go.Sx Go.Proofs

noncomputable def l_s_l01In : List (Nat × Con) := []
theorem l_s_l01In_ok : ∀ q ∈ l_s_l01In, ConOk Tryd.prog q.1 q.2 := Tryd.cons_nil
def kp_s_l01In : KP := []
noncomputable def q_s_l01In (n : Nat) (x : Args [tInt, tInt, tInt]) := evX (false, false, []) l_s_l01In kp_s_l01In [none] Tryd.f12 (shV tBool) n (encA [tInt, tInt, tInt] x)
noncomputable def c_s_l01In : Con := roS [tInt, tInt, tInt] true (shV tBool) (q_s_l01In big)
theorem c_s_l01In_ok : ConOk Tryd.prog 12 c_s_l01In := roS_ok ⟨Tryd.f12, by kernel_rfl, rfl, by decide⟩ fun _ _ h => evX_ok l_s_l01In_ok (f := Tryd.f12) (by kernel_rfl) rfl (by kernel_rfl) (by kernel_rfl) big h
noncomputable def Q_s_l01In (n : Nat) (a0 : Int) (a1 : Int) (a2 : Int) : Option Bool := q_s_l01In n (a0, a1, a2, ())
theorem Q_s_l01In_eq (n : Nat) (a0 : Int) (a1 : Int) (a2 : Int) : Q_s_l01In n a0 a1 a2 =
    bif decide (a1 ≤ a0) then some (decide (a0 ≤ a2)) else some false := by kernel_rfl

end Go.Sx.Tryd

set_option maxRecDepth 100000
namespace Go.Sx.Tryd
open Go Go.Sx Go.Proofs

noncomputable def l_i_ShowRow : List (Nat × Con) := [(16, c_i_in), (17, c_i_Decimal)]
theorem l_i_ShowRow_ok : ∀ q ∈ l_i_ShowRow, ConOk Tryd.prog q.1 q.2 := Tryd.cons_cons c_i_in_ok (Tryd.cons_cons c_i_Decimal_ok (Tryd.cons_nil))
abbrev k_i_ShowRow_3 : List Keep × List BK := ([.ro tSlLBlock, .drop, .drop, .drop, .drop, .ro tString, .drop, .drop, .drop, .ro tSlInt, .ro tInt64, .ro tInt64, .drop, .drop, .drop, .drop, .drop, .drop, .drop, .drop, .drop, .drop, .drop, .drop, .drop, .drop, .drop, .drop, .drop, .drop, .drop, .drop, .drop, .drop, .drop, .drop, .drop, .drop, .drop, .drop, .drop, .drop, .drop, .drop, .drop, .drop], [])
def kp_i_ShowRow : KP := [(3, k_i_ShowRow_3)]
noncomputable def q_i_ShowRow (n : Nat) (x : Args [tSlIBlock, tSlInt]) := evX (false, false, [8, 31, 37]) l_i_ShowRow kp_i_ShowRow [none] Tryd.f8 (shV tString) n (encA [tSlIBlock, tSlInt] x)
noncomputable def c_i_ShowRow : Con := roS [tSlIBlock, tSlInt] true (shV tString) (q_i_ShowRow big)
theorem c_i_ShowRow_ok : ConOk Tryd.prog 8 c_i_ShowRow := roS_ok ⟨Tryd.f8, by kernel_rfl, rfl, by decide⟩ fun _ _ h => evX_ok l_i_ShowRow_ok (f := Tryd.f8) (by kernel_rfl) rfl (by kernel_rfl) (by kernel_rfl) big h
noncomputable def Q_i_ShowRow (n : Nat) (a0 : DSlIBlock) (a1 : DSlInt) : Option ByteArray := q_i_ShowRow n (a0, a1, ())
noncomputable def r_i_ShowRow_3 (n : Nat) (x : KD k_i_ShowRow_3.1) (y : BD k_i_ShowRow_3.2) := rounds (env (false, false, [8, 31, 37]) l_i_ShowRow) kp_i_ShowRow (body Tryd.f8) (finX (false, false, [8, 31, 37]) l_i_ShowRow [none] Tryd.f8 (shV tString) [.val tSlIBlock (zeroD tSlIBlock), .val tSlInt (zeroD tSlInt)]) n 3 k_i_ShowRow_3 x y
noncomputable def R_i_ShowRow_3 (n : Nat) (s0 : DSlLBlock) (s5 : ByteArray) (s9 : DSlInt) (s10 : Int) (s11 : Int) : Option ByteArray := r_i_ShowRow_3 n (s0, s5, s9, s10, s11, ()) ()
theorem Q_i_ShowRow_eq (n : Nat) (a0 : DSlIBlock) (a1 : DSlInt) : Q_i_ShowRow n a0 a1 =
    R_i_ShowRow_3 n a0 (ByteArray.mk #[]) a1 (↑(List.length a1) : Int) (0 : Int) := by kernel_rfl
theorem R_i_ShowRow_3_eq (n : Nat) (s0 : DSlLBlock) (s5 : ByteArray) (s9 : DSlInt) (s10 : Int) (s11 : Int) : R_i_ShowRow_3 (n + 1) s0 s5 s9 s10 s11 =
    bif decide (s11 < s10) then
 if (0 : Int) ≤ s11 then
 (nth s9 s11.toNat).bind fun y =>
 (Q_i_in big y (0 : Int) (IntKind.i64.wrap ((↑(List.length s0) : Int) - (1 : Int)))).bind fun y_1 =>
 bif y_1 then
 if (0 : Int) ≤ y then
 (nth s0 (Int.toNat y)).bind fun y_2 =>
 (Q_i_Decimal big (max (0 : Int) y)).bind fun y =>
 if (ByteArray.mk #[(98 : UInt8)]).size + ByteArray.size y ≤ lim then
 if (ByteArray.mk #[(98 : UInt8)] ++ y).size + (ByteArray.mk #[(118 : UInt8)]).size ≤ lim then
 (Q_i_Decimal big (max (0 : Int) y_2.snd.fst)).bind fun y_3 =>
 if
 (ByteArray.mk #[(98 : UInt8)] ++ y ++ ByteArray.mk #[(118 : UInt8)]).size +
 ByteArray.size y_3 ≤
 lim then
 if
 (ByteArray.mk #[(98 : UInt8)] ++ y ++ ByteArray.mk #[(118 : UInt8)] ++ y_3).size +
 (ByteArray.mk #[(32 : UInt8)]).size ≤
 lim then
 (Q_i_Decimal big (↑(List.length y_2.snd.snd.fst) : Int)).bind fun y_4 =>
 if
 (ByteArray.mk #[(98 : UInt8)] ++ y ++ ByteArray.mk #[(118 : UInt8)] ++ y_3 ++
 ByteArray.mk #[(32 : UInt8)]).size +
 ByteArray.size y_4 ≤
 lim then
 if
 (ByteArray.mk #[(98 : UInt8)] ++ y ++ ByteArray.mk #[(118 : UInt8)] ++ y_3 ++
 ByteArray.mk #[(32 : UInt8)] ++
 y_4).size +
 (ByteArray.mk #[(10 : UInt8)]).size ≤
 lim then
 if
 s5.size +
 (ByteArray.mk #[(98 : UInt8)] ++ y ++ ByteArray.mk #[(118 : UInt8)] ++ y_3 ++
 ByteArray.mk #[(32 : UInt8)] ++
 y_4 ++
 ByteArray.mk #[(10 : UInt8)]).size ≤
 lim then
 R_i_ShowRow_3 n s0
 (s5 ++
 (ByteArray.mk #[(98 : UInt8)] ++ y ++ ByteArray.mk #[(118 : UInt8)] ++ y_3 ++
 ByteArray.mk #[(32 : UInt8)] ++
 y_4 ++
 ByteArray.mk #[(10 : UInt8)]))
 s9 s10 (IntKind.i64.wrap (s11 + (1 : Int)))
 else none
 else none
 else none
 else none
 else none
 else none
 else none
 else none
 else
 (Q_i_Decimal big (max (0 : Int) y)).bind fun y =>
 if (ByteArray.mk #[(98 : UInt8)]).size + ByteArray.size y ≤ lim then
 if (ByteArray.mk #[(98 : UInt8)] ++ y).size + (ByteArray.mk #[(118 : UInt8)]).size ≤ lim then
 if
 (ByteArray.mk #[(98 : UInt8)] ++ y ++ ByteArray.mk #[(118 : UInt8)]).size +
 (itoaB (max (0 : Int) (0 : Int))).size ≤
 lim then
 if
 (ByteArray.mk #[(98 : UInt8)] ++ y ++ ByteArray.mk #[(118 : UInt8)] ++
 itoaB (max (0 : Int) (0 : Int))).size +
 (ByteArray.mk #[(32 : UInt8)]).size ≤
 lim then
 if
 (ByteArray.mk #[(98 : UInt8)] ++ y ++ ByteArray.mk #[(118 : UInt8)] ++
 itoaB (max (0 : Int) (0 : Int)) ++
 ByteArray.mk #[(32 : UInt8)]).size +
 (itoaB (0 : Int)).size ≤
 lim then
 if
 (ByteArray.mk #[(98 : UInt8)] ++ y ++ ByteArray.mk #[(118 : UInt8)] ++
 itoaB (max (0 : Int) (0 : Int)) ++
 ByteArray.mk #[(32 : UInt8)] ++
 itoaB (0 : Int)).size +
 (ByteArray.mk #[(10 : UInt8)]).size ≤
 lim then
 if
 s5.size +
 (ByteArray.mk #[(98 : UInt8)] ++ y ++ ByteArray.mk #[(118 : UInt8)] ++
 itoaB (max (0 : Int) (0 : Int)) ++
 ByteArray.mk #[(32 : UInt8)] ++
 itoaB (0 : Int) ++
 ByteArray.mk #[(10 : UInt8)]).size ≤
 lim then
 R_i_ShowRow_3 n s0
 (s5 ++
 (ByteArray.mk #[(98 : UInt8)] ++ y ++ ByteArray.mk #[(118 : UInt8)] ++
 itoaB (max (0 : Int) (0 : Int)) ++
 ByteArray.mk #[(32 : UInt8)] ++
 itoaB (0 : Int) ++
 ByteArray.mk #[(10 : UInt8)]))
 s9 s10 (IntKind.i64.wrap (s11 + (1 : Int)))
 else none
 else none
 else none
 else none
 else none
 else none
 else none
 else none
 else some s5 := by kernel_rfl

end Go.Sx.Tryd

set_option maxRecDepth 100000
namespace Go.Sx.Tryd
open Go Go.Sx Go.Proofs

noncomputable def l_s_l21Num : List (Nat × Con) := [(14, c_s_Decimal)]
theorem l_s_l21Num_ok : ∀ q ∈ l_s_l21Num, ConOk Tryd.prog q.1 q.2 := Tryd.cons_cons c_s_Decimal_ok (Tryd.cons_nil)
def kp_s_l21Num : KP := []
noncomputable def q_s_l21Num (n : Nat) (x : Args [tInt]) := evX (false, false, []) l_s_l21Num kp_s_l21Num [none] Tryd.f13 (shV tString) n (encA [tInt] x)
noncomputable def c_s_l21Num : Con := roS [tInt] true (shV tString) (q_s_l21Num big)
theorem c_s_l21Num_ok : ConOk Tryd.prog 13 c_s_l21Num := roS_ok ⟨Tryd.f13, by kernel_rfl, rfl, by decide⟩ fun _ _ h => evX_ok l_s_l21Num_ok (f := Tryd.f13) (by kernel_rfl) rfl (by kernel_rfl) (by kernel_rfl) big h
noncomputable def Q_s_l21Num (n : Nat) (a0 : Int) : Option ByteArray := q_s_l21Num n (a0, ())
theorem Q_s_l21Num_eq (n : Nat) (a0 : Int) : Q_s_l21Num n a0 =
    bif decide (a0 < (0 : Int)) then some (ByteArray.mk #[(48 : UInt8)])
 else (Q_s_Decimal big a0).bind fun y => some y := by kernel_rfl

end Go.Sx.Tryd

set_option maxRecDepth 100000
namespace Go.Sx.Tryd
open Go Go.Sx Go.Proofs

noncomputable def l_s_ShowRow : List (Nat × Con) := [(12, c_s_l01In), (13, c_s_l21Num), (14, c_s_Decimal)]
theorem l_s_ShowRow_ok : ∀ q ∈ l_s_ShowRow, ConOk Tryd.prog q.1 q.2 := Tryd.cons_cons c_s_l01In_ok (Tryd.cons_cons c_s_l21Num_ok (Tryd.cons_cons c_s_Decimal_ok (Tryd.cons_nil)))
abbrev k_s_ShowRow_3 : List Keep × List BK := ([.ro tSlLBlock, .ro tSlInt, .drop, .drop, .drop, .ro tString, .ro tInt64, .drop, .drop, .drop, .drop, .drop, .drop, .drop, .drop, .drop, .drop, .drop, .drop, .drop, .drop, .drop, .drop, .drop, .drop, .drop, .drop, .drop, .drop, .drop, .drop, .drop, .drop, .drop, .drop, .drop, .drop, .drop, .drop, .drop, .drop, .drop, .drop, .drop, .drop, .drop, .drop, .drop, .drop, .drop, .drop, .drop, .drop, .drop, .drop, .drop, .drop, .drop], [])
def kp_s_ShowRow : KP := [(3, k_s_ShowRow_3)]
noncomputable def q_s_ShowRow (n : Nat) (x : Args [tSlIBlock, tSlInt]) := evX (false, false, []) l_s_ShowRow kp_s_ShowRow [none] Tryd.f5 (shV tString) n (encA [tSlIBlock, tSlInt] x)
noncomputable def c_s_ShowRow : Con := roS [tSlIBlock, tSlInt] true (shV tString) (q_s_ShowRow big)
theorem c_s_ShowRow_ok : ConOk Tryd.prog 5 c_s_ShowRow := roS_ok ⟨Tryd.f5, by kernel_rfl, rfl, by decide⟩ fun _ _ h => evX_ok l_s_ShowRow_ok (f := Tryd.f5) (by kernel_rfl) rfl (by kernel_rfl) (by kernel_rfl) big h
noncomputable def Q_s_ShowRow (n : Nat) (a0 : DSlIBlock) (a1 : DSlInt) : Option ByteArray := q_s_ShowRow n (a0, a1, ())
noncomputable def r_s_ShowRow_3 (n : Nat) (x : KD k_s_ShowRow_3.1) (y : BD k_s_ShowRow_3.2) := rounds (env (false, false, []) l_s_ShowRow) kp_s_ShowRow (body Tryd.f5) (finX (false, false, []) l_s_ShowRow [none] Tryd.f5 (shV tString) [.val tSlIBlock (zeroD tSlIBlock), .val tSlInt (zeroD tSlInt)]) n 3 k_s_ShowRow_3 x y
noncomputable def R_s_ShowRow_3 (n : Nat) (s0 : DSlLBlock) (s1 : DSlInt) (s5 : ByteArray) (s6 : Int) : Option ByteArray := r_s_ShowRow_3 n (s0, s1, s5, s6, ()) ()
theorem Q_s_ShowRow_eq (n : Nat) (a0 : DSlIBlock) (a1 : DSlInt) : Q_s_ShowRow n a0 a1 =
    R_s_ShowRow_3 n a0 a1 (ByteArray.mk #[]) (0 : Int) := by kernel_rfl
theorem R_s_ShowRow_3_eq (n : Nat) (s0 : DSlLBlock) (s1 : DSlInt) (s5 : ByteArray) (s6 : Int) : R_s_ShowRow_3 (n + 1) s0 s1 s5 s6 =
    bif decide (s6 < (↑(List.length s1) : Int)) then
 if (0 : Int) ≤ s6 then
 (nth s1 s6.toNat).bind fun y =>
 (Q_s_l01In big y (0 : Int) (IntKind.i64.wrap ((↑(List.length s0) : Int) - (1 : Int)))).bind fun y =>
 bif y then
 if (0 : Int) ≤ s6 then
 (nth s1 s6.toNat).bind fun y =>
 if (0 : Int) ≤ y then
 (nth s0 (Int.toNat y)).bind fun y =>
 if (0 : Int) ≤ s6 then
 (nth s1 s6.toNat).bind fun y_1 =>
 if (0 : Int) ≤ y_1 then
 (nth s0 (Int.toNat y_1)).bind fun y_2 =>
 if s5.size + (ByteArray.mk #[(98 : UInt8)]).size ≤ lim then
 if (0 : Int) ≤ s6 then
 (nth s1 s6.toNat).bind fun y_3 =>
 (Q_s_l21Num big y_3).bind fun y_4 =>
 if (s5 ++ ByteArray.mk #[(98 : UInt8)]).size + ByteArray.size y_4 ≤ lim then
 if
 (s5 ++ ByteArray.mk #[(98 : UInt8)] ++ y_4).size +
 (ByteArray.mk #[(118 : UInt8)]).size ≤
 lim then
 (Q_s_l21Num big y.snd.fst).bind fun y =>
 if
 (s5 ++ ByteArray.mk #[(98 : UInt8)] ++ y_4 ++
 ByteArray.mk #[(118 : UInt8)]).size +
 ByteArray.size y ≤
 lim then
 if
 (s5 ++ ByteArray.mk #[(98 : UInt8)] ++ y_4 ++
 ByteArray.mk #[(118 : UInt8)] ++
 y).size +
 (ByteArray.mk #[(32 : UInt8)]).size ≤
 lim then
 (Q_s_Decimal big (↑(List.length y_2.snd.snd.fst) : Int)).bind fun y_5 =>
 if
 (s5 ++ ByteArray.mk #[(98 : UInt8)] ++ y_4 ++
 ByteArray.mk #[(118 : UInt8)] ++
 y ++
 ByteArray.mk #[(32 : UInt8)]).size +
 ByteArray.size y_5 ≤
 lim then
 if
 (s5 ++ ByteArray.mk #[(98 : UInt8)] ++ y_4 ++
 ByteArray.mk #[(118 : UInt8)] ++
 y ++
 ByteArray.mk #[(32 : UInt8)] ++
 y_5).size +
 (ByteArray.mk #[(10 : UInt8)]).size ≤
 lim then
 R_s_ShowRow_3 n s0 s1
 (s5 ++ ByteArray.mk #[(98 : UInt8)] ++ y_4 ++
 ByteArray.mk #[(118 : UInt8)] ++
 y ++
 ByteArray.mk #[(32 : UInt8)] ++
 y_5 ++
 ByteArray.mk #[(10 : UInt8)])
 (IntKind.i64.wrap (s6 + (1 : Int)))
 else none
 else none
 else none
 else none
 else none
 else none
 else none
 else none
 else none
 else none
 else none
 else none
 else
 if s5.size + (ByteArray.mk #[(98 : UInt8)]).size ≤ lim then
 if (0 : Int) ≤ s6 then
 (nth s1 s6.toNat).bind fun y =>
 (Q_s_l21Num big y).bind fun y =>
 if (s5 ++ ByteArray.mk #[(98 : UInt8)]).size + ByteArray.size y ≤ lim then
 if
 (s5 ++ ByteArray.mk #[(98 : UInt8)] ++ y).size + (ByteArray.mk #[(118 : UInt8)]).size ≤
 lim then
 if
 (s5 ++ ByteArray.mk #[(98 : UInt8)] ++ y ++ ByteArray.mk #[(118 : UInt8)]).size +
 (ByteArray.mk #[(48 : UInt8)]).size ≤
 lim then
 if
 (s5 ++ ByteArray.mk #[(98 : UInt8)] ++ y ++ ByteArray.mk #[(118 : UInt8)] ++
 ByteArray.mk #[(48 : UInt8)]).size +
 (ByteArray.mk #[(32 : UInt8)]).size ≤
 lim then
 if
 (s5 ++ ByteArray.mk #[(98 : UInt8)] ++ y ++ ByteArray.mk #[(118 : UInt8)] ++
 ByteArray.mk #[(48 : UInt8)] ++
 ByteArray.mk #[(32 : UInt8)]).size +
 (ByteArray.mk #[(48 : UInt8)]).size ≤
 lim then
 if
 (s5 ++ ByteArray.mk #[(98 : UInt8)] ++ y ++ ByteArray.mk #[(118 : UInt8)] ++
 ByteArray.mk #[(48 : UInt8)] ++
 ByteArray.mk #[(32 : UInt8)] ++
 ByteArray.mk #[(48 : UInt8)]).size +
 (ByteArray.mk #[(10 : UInt8)]).size ≤
 lim then
 R_s_ShowRow_3 n s0 s1
 (s5 ++ ByteArray.mk #[(98 : UInt8)] ++ y ++ ByteArray.mk #[(118 : UInt8)] ++
 ByteArray.mk #[(48 : UInt8)] ++
 ByteArray.mk #[(32 : UInt8)] ++
 ByteArray.mk #[(48 : UInt8)] ++
 ByteArray.mk #[(10 : UInt8)])
 (IntKind.i64.wrap (s6 + (1 : Int)))
 else none
 else none
 else none
 else none
 else none
 else none
 else none
 else none
 else none
 else some s5 := by kernel_rfl

end Go.Sx.Tryd

set_option maxRecDepth 100000
namespace Go.Sx.Tryd
open Go Go.Sx Go.Proofs

noncomputable def l_l_FnExactShowRow : List (Nat × Con) := [(4, c_l_szBlockS), (6, c_l_toBlockS), (7, c_l_toIntS), (5, c_s_ShowRow), (8, c_i_ShowRow), (9, c_l_eqBlockS), (10, c_l_eqIntS)]
theorem l_l_FnExactShowRow_ok : ∀ q ∈ l_l_FnExactShowRow, ConOk Tryd.prog q.1 q.2 := Tryd.cons_cons c_l_szBlockS_ok (Tryd.cons_cons c_l_toBlockS_ok (Tryd.cons_cons c_l_toIntS_ok (Tryd.cons_cons c_s_ShowRow_ok (Tryd.cons_cons c_i_ShowRow_ok (Tryd.cons_cons c_l_eqBlockS_ok (Tryd.cons_cons c_l_eqIntS_ok (Tryd.cons_nil)))))))
def kp_l_FnExactShowRow : KP := []
noncomputable def q_l_FnExactShowRow (n : Nat) (x : Args [tSlLBlock, tSlInt]) := evX (false, false, [999999]) l_l_FnExactShowRow kp_l_FnExactShowRow [none] Tryd.f3 (shV tBool) n (encA [tSlLBlock, tSlInt] x)
noncomputable def c_l_FnExactShowRow : Con := roS [tSlLBlock, tSlInt] true (shV tBool) (q_l_FnExactShowRow big)
theorem c_l_FnExactShowRow_ok : ConOk Tryd.prog 3 c_l_FnExactShowRow := roS_ok ⟨Tryd.f3, by kernel_rfl, rfl, by decide⟩ fun _ _ h => evX_ok l_l_FnExactShowRow_ok (f := Tryd.f3) (by kernel_rfl) rfl (by kernel_rfl) (by kernel_rfl) big h
noncomputable def Q_l_FnExactShowRow (n : Nat) (a0 : DSlLBlock) (a1 : DSlInt) : Option Bool := q_l_FnExactShowRow n (a0, a1, ())
theorem Q_l_FnExactShowRow_eq (n : Nat) (a0 : DSlLBlock) (a1 : DSlInt) : Q_l_FnExactShowRow n a0 a1 =
    bif decide ((1048576 : Int) < (↑(List.length a1) : Int)) then some true
 else
 (Q_l_szBlockS big a0 (1048576 : Int)).bind fun y =>
 bif decide (y < (0 : Int)) then some true
 else
 (Q_l_toBlockS big a0).bind fun y =>
 (Q_l_toIntS big a1).bind fun y_1 =>
 (Q_s_ShowRow big y y_1).bind fun y =>
 (Q_l_toBlockS big a0).bind fun y_2 =>
 (Q_l_toIntS big a1).bind fun y_3 =>
 (Q_i_ShowRow big y_2 y_3).bind fun y_4 =>
 bif !decide (y_4 = y) then some false
 else
 (Q_l_toBlockS big a0).bind fun y =>
 (Q_l_eqBlockS big y_2 y).bind fun y =>
 bif !y then some false
 else
 (Q_l_toIntS big a1).bind fun y =>
 (Q_l_eqIntS big y_3 y).bind fun y => bif !y then some false else some true := by kernel_rfl

end Go.Sx.Tryd
