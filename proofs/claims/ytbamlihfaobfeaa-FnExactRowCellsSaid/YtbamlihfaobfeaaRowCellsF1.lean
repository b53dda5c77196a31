/- The functions of the seat: what each comes to. -/
import Derived.Test.YtbamlihfaobfeaaTypes
import Derived.Shelf.RegionOpenPlain
import Derived.WalkKit
import Derived.Lib.Walk
import Derived.Lib.SliceRun
import Derived.Lib.JoinLaws
import Derived.Lib.AppendZeros
import Derived.Lib.AppendZerosOnto
import Derived.Lib.Overlaps
import Derived.Laws.Externs
import Derived.Laws.IdiomCopy
import Derived.Laws.NewBlocks
import Derived.Shelf.Spec.SlicesInsert
set_option linter.unusedVariables false
set_option linter.unusedSimpArgs false
set_option maxRecDepth 100000
namespace Go.Sx.Try
open Go Go.Sx Go.Proofs

noncomputable def l_l_szCmd : List (Nat × Con) := []
theorem l_l_szCmd_ok : ∀ q ∈ l_l_szCmd, ConOk Try.prog q.1 q.2 := Try.cons_nil
def kp_l_szCmd : KP := []
noncomputable def q_l_szCmd (n : Nat) (x : Args [tLCmd, tInt]) := evX (false, false, [2, 6]) l_l_szCmd kp_l_szCmd [none] Try.f36 (shV tInt) n (encA [tLCmd, tInt] x)
noncomputable def c_l_szCmd : Con := roS [tLCmd, tInt] true (shV tInt) (q_l_szCmd big)
theorem c_l_szCmd_ok : ConOk Try.prog 36 c_l_szCmd := roS_ok ⟨Try.f36, by kernel_rfl, rfl, by decide⟩ fun _ _ h => evX_ok l_l_szCmd_ok (f := Try.f36) (by kernel_rfl) rfl (by kernel_rfl) (by kernel_rfl) big h
noncomputable def Q_l_szCmd (n : Nat) (a0 : DLCmd) (a1 : Int) : Option Int := q_l_szCmd n (a0, a1, ())
theorem Q_l_szCmd_eq (n : Nat) (a0 : DLCmd) (a1 : Int) : Q_l_szCmd n a0 a1 =
    bif decide (IntKind.i64.wrap (a1 - (↑(ByteArray.size a0.snd.fst) : Int)) < (0 : Int)) then some (-1 : Int)
 else some (IntKind.i64.wrap (a1 - (↑(ByteArray.size a0.snd.fst) : Int))) := by kernel_rfl

end Go.Sx.Try

set_option maxRecDepth 100000
namespace Go.Sx.Try
open Go Go.Sx Go.Proofs

noncomputable def l_l_szCmdS : List (Nat × Con) := [(36, c_l_szCmd)]
theorem l_l_szCmdS_ok : ∀ q ∈ l_l_szCmdS, ConOk Try.prog q.1 q.2 := Try.cons_cons c_l_szCmd_ok (Try.cons_nil)
abbrev k_l_szCmdS_5 : List Keep × List BK := ([.ro tSlLCmd, .ro tInt64, .drop, .drop, .drop, .ro tInt64, .drop, .drop, .drop, .drop, .drop, .drop, .drop, .drop, .drop, .drop, .drop, .drop, .drop, .drop, .drop, .drop, .drop, .drop, .drop, .drop, .drop], [])
def kp_l_szCmdS : KP := [(5, k_l_szCmdS_5)]
noncomputable def q_l_szCmdS (n : Nat) (x : Args [tSlLCmd, tInt]) := evX (false, false, []) l_l_szCmdS kp_l_szCmdS [none] Try.f68 (shV tInt) n (encA [tSlLCmd, tInt] x)
noncomputable def c_l_szCmdS : Con := roS [tSlLCmd, tInt] true (shV tInt) (q_l_szCmdS big)
theorem c_l_szCmdS_ok : ConOk Try.prog 68 c_l_szCmdS := roS_ok ⟨Try.f68, by kernel_rfl, rfl, by decide⟩ fun _ _ h => evX_ok l_l_szCmdS_ok (f := Try.f68) (by kernel_rfl) rfl (by kernel_rfl) (by kernel_rfl) big h
noncomputable def Q_l_szCmdS (n : Nat) (a0 : DSlLCmd) (a1 : Int) : Option Int := q_l_szCmdS n (a0, a1, ())
noncomputable def r_l_szCmdS_5 (n : Nat) (x : KD k_l_szCmdS_5.1) (y : BD k_l_szCmdS_5.2) := rounds (env (false, false, []) l_l_szCmdS) kp_l_szCmdS (body Try.f68) (finX (false, false, []) l_l_szCmdS [none] Try.f68 (shV tInt) [.val tSlLCmd (zeroD tSlLCmd), .val tInt (zeroD tInt)]) n 5 k_l_szCmdS_5 x y
noncomputable def R_l_szCmdS_5 (n : Nat) (s0 : DSlLCmd) (s1 : Int) (s5 : Int) : Option Int := r_l_szCmdS_5 n (s0, s1, s5, ()) ()
theorem Q_l_szCmdS_eq (n : Nat) (a0 : DSlLCmd) (a1 : Int) : Q_l_szCmdS n a0 a1 =
    bif decide (IntKind.i64.wrap (a1 - (↑(List.length a0) : Int)) < (0 : Int)) then some (-1 : Int)
 else R_l_szCmdS_5 n a0 (IntKind.i64.wrap (a1 - (↑(List.length a0) : Int))) (0 : Int) := by kernel_rfl
theorem R_l_szCmdS_5_eq (n : Nat) (s0 : DSlLCmd) (s1 : Int) (s5 : Int) : R_l_szCmdS_5 (n + 1) s0 s1 s5 =
    bif decide (s5 < (↑(List.length s0) : Int)) then
 if (0 : Int) ≤ s5 then
 (nth s0 s5.toNat).bind fun y =>
 (Q_l_szCmd big y s1).bind fun y =>
 bif decide (y < (0 : Int)) then some (-1 : Int) else R_l_szCmdS_5 n s0 y (IntKind.i64.wrap (s5 + (1 : Int)))
 else none
 else some s1 := by kernel_rfl

end Go.Sx.Try

set_option maxRecDepth 100000
namespace Go.Sx.Try
open Go Go.Sx Go.Proofs

noncomputable def l_l_szBlock : List (Nat × Con) := [(68, c_l_szCmdS)]
theorem l_l_szBlock_ok : ∀ q ∈ l_l_szBlock, ConOk Try.prog q.1 q.2 := Try.cons_cons c_l_szCmdS_ok (Try.cons_nil)
def kp_l_szBlock : KP := []
noncomputable def q_l_szBlock (n : Nat) (x : Args [tLBlock, tInt]) := evX (false, false, [2, 5]) l_l_szBlock kp_l_szBlock [none] Try.f133 (shV tInt) n (encA [tLBlock, tInt] x)
noncomputable def c_l_szBlock : Con := roS [tLBlock, tInt] true (shV tInt) (q_l_szBlock big)
theorem c_l_szBlock_ok : ConOk Try.prog 133 c_l_szBlock := roS_ok ⟨Try.f133, by kernel_rfl, rfl, by decide⟩ fun _ _ h => evX_ok l_l_szBlock_ok (f := Try.f133) (by kernel_rfl) rfl (by kernel_rfl) (by kernel_rfl) big h
noncomputable def Q_l_szBlock (n : Nat) (a0 : DLBlock) (a1 : Int) : Option Int := q_l_szBlock n (a0, a1, ())
theorem Q_l_szBlock_eq (n : Nat) (a0 : DLBlock) (a1 : Int) : Q_l_szBlock n a0 a1 =
    (Q_l_szCmdS big a0.snd.snd.fst a1).bind fun y => bif decide (y < (0 : Int)) then some (-1 : Int) else some y := by kernel_rfl

end Go.Sx.Try

set_option maxRecDepth 100000
namespace Go.Sx.Try
open Go Go.Sx Go.Proofs

noncomputable def l_l_szBlockS : List (Nat × Con) := [(133, c_l_szBlock)]
theorem l_l_szBlockS_ok : ∀ q ∈ l_l_szBlockS, ConOk Try.prog q.1 q.2 := Try.cons_cons c_l_szBlock_ok (Try.cons_nil)
abbrev k_l_szBlockS_5 : List Keep × List BK := ([.ro tSlLBlock, .ro tInt64, .drop, .drop, .drop, .ro tInt64, .drop, .drop, .drop, .drop, .drop, .drop, .drop, .drop, .drop, .drop, .drop, .drop, .drop, .drop, .drop, .drop, .drop, .drop, .drop, .drop, .drop], [])
def kp_l_szBlockS : KP := [(5, k_l_szBlockS_5)]
noncomputable def q_l_szBlockS (n : Nat) (x : Args [tSlLBlock, tInt]) := evX (false, false, []) l_l_szBlockS kp_l_szBlockS [none] Try.f56 (shV tInt) n (encA [tSlLBlock, tInt] x)
noncomputable def c_l_szBlockS : Con := roS [tSlLBlock, tInt] true (shV tInt) (q_l_szBlockS big)
theorem c_l_szBlockS_ok : ConOk Try.prog 56 c_l_szBlockS := roS_ok ⟨Try.f56, by kernel_rfl, rfl, by decide⟩ fun _ _ h => evX_ok l_l_szBlockS_ok (f := Try.f56) (by kernel_rfl) rfl (by kernel_rfl) (by kernel_rfl) big h
noncomputable def Q_l_szBlockS (n : Nat) (a0 : DSlLBlock) (a1 : Int) : Option Int := q_l_szBlockS n (a0, a1, ())
noncomputable def r_l_szBlockS_5 (n : Nat) (x : KD k_l_szBlockS_5.1) (y : BD k_l_szBlockS_5.2) := rounds (env (false, false, []) l_l_szBlockS) kp_l_szBlockS (body Try.f56) (finX (false, false, []) l_l_szBlockS [none] Try.f56 (shV tInt) [.val tSlLBlock (zeroD tSlLBlock), .val tInt (zeroD tInt)]) n 5 k_l_szBlockS_5 x y
noncomputable def R_l_szBlockS_5 (n : Nat) (s0 : DSlLBlock) (s1 : Int) (s5 : Int) : Option Int := r_l_szBlockS_5 n (s0, s1, s5, ()) ()
theorem Q_l_szBlockS_eq (n : Nat) (a0 : DSlLBlock) (a1 : Int) : Q_l_szBlockS n a0 a1 =
    bif decide (IntKind.i64.wrap (a1 - (↑(List.length a0) : Int)) < (0 : Int)) then some (-1 : Int)
 else R_l_szBlockS_5 n a0 (IntKind.i64.wrap (a1 - (↑(List.length a0) : Int))) (0 : Int) := by kernel_rfl
theorem R_l_szBlockS_5_eq (n : Nat) (s0 : DSlLBlock) (s1 : Int) (s5 : Int) : R_l_szBlockS_5 (n + 1) s0 s1 s5 =
    bif decide (s5 < (↑(List.length s0) : Int)) then
 if (0 : Int) ≤ s5 then
 (nth s0 s5.toNat).bind fun y =>
 (Q_l_szBlock big y s1).bind fun y =>
 bif decide (y < (0 : Int)) then some (-1 : Int) else R_l_szBlockS_5 n s0 y (IntKind.i64.wrap (s5 + (1 : Int)))
 else none
 else some s1 := by kernel_rfl

end Go.Sx.Try

set_option maxRecDepth 100000
namespace Go.Sx.Try
open Go Go.Sx Go.Proofs

noncomputable def l_l_toCmd : List (Nat × Con) := []
theorem l_l_toCmd_ok : ∀ q ∈ l_l_toCmd, ConOk Try.prog q.1 q.2 := Try.cons_nil
def kp_l_toCmd : KP := []
noncomputable def q_l_toCmd (n : Nat) (x : Args [tLCmd]) := evX (false, false, [1, 3, 4, 7, 10]) l_l_toCmd kp_l_toCmd [none] Try.f38 (shV tICmd) n (encA [tLCmd] x)
noncomputable def c_l_toCmd : Con := roS [tLCmd] true (shV tICmd) (q_l_toCmd big)
theorem c_l_toCmd_ok : ConOk Try.prog 38 c_l_toCmd := roS_ok ⟨Try.f38, by kernel_rfl, rfl, by decide⟩ fun _ _ h => evX_ok l_l_toCmd_ok (f := Try.f38) (by kernel_rfl) rfl (by kernel_rfl) (by kernel_rfl) big h
noncomputable def Q_l_toCmd (n : Nat) (a0 : DLCmd) : Option DICmd := q_l_toCmd n (a0, ())
theorem Q_l_toCmd_eq (n : Nat) (a0 : DLCmd) : Q_l_toCmd n a0 =
    some a0 := by kernel_rfl

end Go.Sx.Try

set_option maxRecDepth 100000
namespace Go.Sx.Try
open Go Go.Sx Go.Proofs

noncomputable def l_l_toCmdS : List (Nat × Con) := [(38, c_l_toCmd)]
theorem l_l_toCmdS_ok : ∀ q ∈ l_l_toCmdS, ConOk Try.prog q.1 q.2 := Try.cons_cons c_l_toCmd_ok (Try.cons_nil)
abbrev k_l_toCmdS_3 : List Keep × List BK := ([.ro tSlLCmd, .drop, .drop, .is (.own 0 0), .ro tInt64, .drop, .drop, .drop, .drop, .drop, .drop, .drop, .drop, .drop, .drop, .drop, .drop, .drop, .drop, .drop, .drop, .drop, .drop], [.arr tXstruct_Kind_int_Key_string_Num_int_])
def kp_l_toCmdS : KP := [(3, k_l_toCmdS_3)]
noncomputable def q_l_toCmdS (n : Nat) (x : Args [tSlLCmd]) := evX (false, false, []) l_l_toCmdS kp_l_toCmdS [some uSlICmd] Try.f70 (shF uSlICmd) n (encA [tSlLCmd] x)
noncomputable def c_l_toCmdS : Con := roS [tSlLCmd] true (shF uSlICmd) (q_l_toCmdS big)
theorem c_l_toCmdS_ok : ConOk Try.prog 70 c_l_toCmdS := roS_ok ⟨Try.f70, by kernel_rfl, rfl, by decide⟩ fun _ _ h => evX_ok l_l_toCmdS_ok (f := Try.f70) (by kernel_rfl) rfl (by kernel_rfl) (by kernel_rfl) big h
noncomputable def Q_l_toCmdS (n : Nat) (a0 : DSlLCmd) : Option DSlICmd := q_l_toCmdS n (a0, ())
noncomputable def r_l_toCmdS_3 (n : Nat) (x : KD k_l_toCmdS_3.1) (y : BD k_l_toCmdS_3.2) := rounds (env (false, false, []) l_l_toCmdS) kp_l_toCmdS (body Try.f70) (finX (false, false, []) l_l_toCmdS [some uSlICmd] Try.f70 (shF uSlICmd) [.val tSlLCmd (zeroD tSlLCmd)]) n 3 k_l_toCmdS_3 x y
noncomputable def R_l_toCmdS_3 (n : Nat) (s0 : DSlLCmd) (s4 : Int) (b0 : (List DXstruct_Kind_int_Key_string_Num_int_)) : Option DSlICmd := r_l_toCmdS_3 n (s0, s4, ()) (b0, ())
theorem Q_l_toCmdS_eq (n : Nat) (a0 : DSlLCmd) : Q_l_toCmdS n a0 =
    if (↑(List.length a0) : Int) ≤ (↑(List.length a0) : Int) then
 if (↑(List.length a0) : Int) ≤ (↑lim : Int) then
 R_l_toCmdS_3 n a0 (0 : Int)
 (List.replicate (↑(List.length a0) : Int).toNat
 (zeroD (bif (env (false, false, []) l_l_toCmdS).nest then tICmd.uq else tICmd)))
 else none
 else none := by kernel_rfl
theorem R_l_toCmdS_3_eq (n : Nat) (s0 : DSlLCmd) (s4 : Int) (b0 : (List DXstruct_Kind_int_Key_string_Num_int_)) : R_l_toCmdS_3 (n + 1) s0 s4 b0 =
    bif decide (s4 < (↑(List.length s0) : Int)) then
 if (0 : Int) ≤ s4 then
 (nth s0 s4.toNat).bind fun y =>
 if (0 : Int) ≤ s4 then
 if s4 < (↑b0.length : Int) then
 (nth b0 s4.toNat).bind fun y_1 =>
 (updO b0 s4.toNat y).bind fun y => R_l_toCmdS_3 n s0 (IntKind.i64.wrap (s4 + (1 : Int))) y
 else none
 else none
 else none
 else some b0 := by kernel_rfl

end Go.Sx.Try

set_option maxRecDepth 100000
namespace Go.Sx.Try
open Go Go.Sx Go.Proofs

noncomputable def l_l_toQc : List (Nat × Con) := []
theorem l_l_toQc_ok : ∀ q ∈ l_l_toQc, ConOk Try.prog q.1 q.2 := Try.cons_nil
def kp_l_toQc : KP := []
noncomputable def q_l_toQc (n : Nat) (x : Args [tLQc]) := evX (false, false, [1, 3, 4, 7, 10, 13]) l_l_toQc kp_l_toQc [none] Try.f89 (shV tIQc) n (encA [tLQc] x)
noncomputable def c_l_toQc : Con := roS [tLQc] true (shV tIQc) (q_l_toQc big)
theorem c_l_toQc_ok : ConOk Try.prog 89 c_l_toQc := roS_ok ⟨Try.f89, by kernel_rfl, rfl, by decide⟩ fun _ _ h => evX_ok l_l_toQc_ok (f := Try.f89) (by kernel_rfl) rfl (by kernel_rfl) (by kernel_rfl) big h
noncomputable def Q_l_toQc (n : Nat) (a0 : DLQc) : Option DIQc := q_l_toQc n (a0, ())
theorem Q_l_toQc_eq (n : Nat) (a0 : DLQc) : Q_l_toQc n a0 =
    some a0 := by kernel_rfl

end Go.Sx.Try

set_option maxRecDepth 100000
namespace Go.Sx.Try
open Go Go.Sx Go.Proofs

noncomputable def l_l_toBlock : List (Nat × Con) := [(70, c_l_toCmdS), (89, c_l_toQc)]
theorem l_l_toBlock_ok : ∀ q ∈ l_l_toBlock, ConOk Try.prog q.1 q.2 := Try.cons_cons c_l_toCmdS_ok (Try.cons_cons c_l_toQc_ok (Try.cons_nil))
def kp_l_toBlock : KP := []
noncomputable def q_l_toBlock (n : Nat) (x : Args [tLBlock]) := evX (false, false, [1, 3, 4, 7, 10, 14]) l_l_toBlock kp_l_toBlock [some uIBlock] Try.f135 (shF uIBlock) n (encA [tLBlock] x)
noncomputable def c_l_toBlock : Con := roS [tLBlock] true (shF uIBlock) (q_l_toBlock big)
theorem c_l_toBlock_ok : ConOk Try.prog 135 c_l_toBlock := roS_ok ⟨Try.f135, by kernel_rfl, rfl, by decide⟩ fun _ _ h => evX_ok l_l_toBlock_ok (f := Try.f135) (by kernel_rfl) rfl (by kernel_rfl) (by kernel_rfl) big h
noncomputable def Q_l_toBlock (n : Nat) (a0 : DLBlock) : Option DIBlock := q_l_toBlock n (a0, ())
theorem Q_l_toBlock_eq (n : Nat) (a0 : DLBlock) : Q_l_toBlock n a0 =
    (Q_l_toCmdS big a0.snd.snd.fst).bind fun y => some (a0.fst, a0.snd.fst, y, a0.snd.snd.snd) := by kernel_rfl

end Go.Sx.Try

set_option maxRecDepth 100000
namespace Go.Sx.Try
open Go Go.Sx Go.Proofs

noncomputable def l_l_toBlockS : List (Nat × Con) := [(135, c_l_toBlock)]
theorem l_l_toBlockS_ok : ∀ q ∈ l_l_toBlockS, ConOk Try.prog q.1 q.2 := Try.cons_cons c_l_toBlock_ok (Try.cons_nil)
abbrev k_l_toBlockS_3 : List Keep × List BK := ([.ro tSlLBlock, .drop, .drop, .is (.own 0 0), .ro tInt64, .drop, .drop, .drop, .drop, .drop, .drop, .drop, .drop, .drop, .drop, .drop, .drop, .drop, .drop, .drop, .drop, .drop, .drop], [.arr uXstruct_Parent_int_View_int_Cmds_laws_Cmd])
def kp_l_toBlockS : KP := [(3, k_l_toBlockS_3)]
noncomputable def q_l_toBlockS (n : Nat) (x : Args [tSlLBlock]) := evX (true, false, []) l_l_toBlockS kp_l_toBlockS [some uSlIBlock] Try.f58 (shF uSlIBlock) n (encA [tSlLBlock] x)
noncomputable def c_l_toBlockS : Con := roS [tSlLBlock] true (shF uSlIBlock) (q_l_toBlockS big)
theorem c_l_toBlockS_ok : ConOk Try.prog 58 c_l_toBlockS := roS_ok ⟨Try.f58, by kernel_rfl, rfl, by decide⟩ fun _ _ h => evX_ok l_l_toBlockS_ok (f := Try.f58) (by kernel_rfl) rfl (by kernel_rfl) (by kernel_rfl) big h
noncomputable def Q_l_toBlockS (n : Nat) (a0 : DSlLBlock) : Option DSlIBlock := q_l_toBlockS n (a0, ())
noncomputable def r_l_toBlockS_3 (n : Nat) (x : KD k_l_toBlockS_3.1) (y : BD k_l_toBlockS_3.2) := rounds (env (true, false, []) l_l_toBlockS) kp_l_toBlockS (body Try.f58) (finX (true, false, []) l_l_toBlockS [some uSlIBlock] Try.f58 (shF uSlIBlock) [.val tSlLBlock (zeroD tSlLBlock)]) n 3 k_l_toBlockS_3 x y
noncomputable def R_l_toBlockS_3 (n : Nat) (s0 : DSlLBlock) (s4 : Int) (b0 : (List DXstruct_Parent_int_View_int_Cmds_laws_Cmd)) : Option DSlIBlock := r_l_toBlockS_3 n (s0, s4, ()) (b0, ())
theorem Q_l_toBlockS_eq (n : Nat) (a0 : DSlLBlock) : Q_l_toBlockS n a0 =
    if (↑(List.length a0) : Int) ≤ (↑(List.length a0) : Int) then
 if (↑(List.length a0) : Int) ≤ (↑lim : Int) then
 R_l_toBlockS_3 n a0 (0 : Int)
 (List.replicate (↑(List.length a0) : Int).toNat
 (zeroD (bif (env (true, false, []) l_l_toBlockS).nest then tIBlock.uq else tIBlock)))
 else none
 else none := by kernel_rfl
theorem R_l_toBlockS_3_eq (n : Nat) (s0 : DSlLBlock) (s4 : Int) (b0 : (List DXstruct_Parent_int_View_int_Cmds_laws_Cmd)) : R_l_toBlockS_3 (n + 1) s0 s4 b0 =
    bif decide (s4 < (↑(List.length s0) : Int)) then
 if (0 : Int) ≤ s4 then
 (nth s0 s4.toNat).bind fun y =>
 (Q_l_toBlock big y).bind fun y =>
 if (0 : Int) ≤ s4 then
 if s4 < (↑b0.length : Int) then
 (nth b0 s4.toNat).bind fun y_1 =>
 (updO b0 s4.toNat y).bind fun y => R_l_toBlockS_3 n s0 (IntKind.i64.wrap (s4 + (1 : Int))) y
 else none
 else none
 else none
 else some b0 := by kernel_rfl

end Go.Sx.Try

set_option maxRecDepth 100000
namespace Go.Sx.Try
open Go Go.Sx Go.Proofs

noncomputable def l_l_toIntS : List (Nat × Con) := []
theorem l_l_toIntS_ok : ∀ q ∈ l_l_toIntS, ConOk Try.prog q.1 q.2 := Try.cons_nil
abbrev k_l_toIntS_3 : List Keep × List BK := ([.ro tSlInt, .drop, .drop, .is (.own 0 0), .ro tInt64, .drop, .drop, .drop, .drop, .drop, .drop, .drop, .drop, .drop, .drop, .drop, .drop, .drop, .drop, .drop, .drop, .drop], [.arr tInt64])
def kp_l_toIntS : KP := [(3, k_l_toIntS_3)]
noncomputable def q_l_toIntS (n : Nat) (x : Args [tSlInt]) := evX (false, false, []) l_l_toIntS kp_l_toIntS [some uSlInt] Try.f59 (shF uSlInt) n (encA [tSlInt] x)
noncomputable def c_l_toIntS : Con := roS [tSlInt] true (shF uSlInt) (q_l_toIntS big)
theorem c_l_toIntS_ok : ConOk Try.prog 59 c_l_toIntS := roS_ok ⟨Try.f59, by kernel_rfl, rfl, by decide⟩ fun _ _ h => evX_ok l_l_toIntS_ok (f := Try.f59) (by kernel_rfl) rfl (by kernel_rfl) (by kernel_rfl) big h
noncomputable def Q_l_toIntS (n : Nat) (a0 : DSlInt) : Option DSlInt := q_l_toIntS n (a0, ())
noncomputable def r_l_toIntS_3 (n : Nat) (x : KD k_l_toIntS_3.1) (y : BD k_l_toIntS_3.2) := rounds (env (false, false, []) l_l_toIntS) kp_l_toIntS (body Try.f59) (finX (false, false, []) l_l_toIntS [some uSlInt] Try.f59 (shF uSlInt) [.val tSlInt (zeroD tSlInt)]) n 3 k_l_toIntS_3 x y
noncomputable def R_l_toIntS_3 (n : Nat) (s0 : DSlInt) (s4 : Int) (b0 : (List Int)) : Option DSlInt := r_l_toIntS_3 n (s0, s4, ()) (b0, ())
theorem Q_l_toIntS_eq (n : Nat) (a0 : DSlInt) : Q_l_toIntS n a0 =
    if (↑(List.length a0) : Int) ≤ (↑(List.length a0) : Int) then
 if (↑(List.length a0) : Int) ≤ (↑lim : Int) then
 R_l_toIntS_3 n a0 (0 : Int)
 (List.replicate (↑(List.length a0) : Int).toNat
 (zeroD (bif (env (false, false, []) l_l_toIntS).nest then tInt.uq else tInt)))
 else none
 else none := by kernel_rfl
theorem R_l_toIntS_3_eq (n : Nat) (s0 : DSlInt) (s4 : Int) (b0 : (List Int)) : R_l_toIntS_3 (n + 1) s0 s4 b0 =
    bif decide (s4 < (↑(List.length s0) : Int)) then
 if (0 : Int) ≤ s4 then
 (nth s0 s4.toNat).bind fun y =>
 if (0 : Int) ≤ s4 then
 if s4 < (↑b0.length : Int) then
 (nth b0 s4.toNat).bind fun y_1 =>
 (updO b0 s4.toNat y).bind fun y => R_l_toIntS_3 n s0 (IntKind.i64.wrap (s4 + (1 : Int))) y
 else none
 else none
 else none
 else some b0 := by kernel_rfl

end Go.Sx.Try

set_option maxRecDepth 100000
namespace Go.Sx.Try
open Go Go.Sx Go.Proofs

noncomputable def l_l_eqCell : List (Nat × Con) := []
theorem l_l_eqCell_ok : ∀ q ∈ l_l_eqCell, ConOk Try.prog q.1 q.2 := Try.cons_nil
def kp_l_eqCell : KP := []
noncomputable def q_l_eqCell (n : Nat) (x : Args [tICell, tICell]) := evX (false, false, [2, 3, 5, 7, 10, 12]) l_l_eqCell kp_l_eqCell [none] Try.f138 (shV tBool) n (encA [tICell, tICell] x)
noncomputable def c_l_eqCell : Con := roS [tICell, tICell] true (shV tBool) (q_l_eqCell big)
theorem c_l_eqCell_ok : ConOk Try.prog 138 c_l_eqCell := roS_ok ⟨Try.f138, by kernel_rfl, rfl, by decide⟩ fun _ _ h => evX_ok l_l_eqCell_ok (f := Try.f138) (by kernel_rfl) rfl (by kernel_rfl) (by kernel_rfl) big h
noncomputable def Q_l_eqCell (n : Nat) (a0 : DICell) (a1 : DICell) : Option Bool := q_l_eqCell n (a0, a1, ())
theorem Q_l_eqCell_eq (n : Nat) (a0 : DICell) (a1 : DICell) : Q_l_eqCell n a0 a1 =
    bif !decide (a0.fst = a1.fst) then some false
 else bif !decide (a0.snd.fst = a1.snd.fst) then some false else some true := by kernel_rfl

end Go.Sx.Try

set_option maxRecDepth 100000
namespace Go.Sx.Try
open Go Go.Sx Go.Proofs

noncomputable def l_l_eqCellS : List (Nat × Con) := [(138, c_l_eqCell)]
theorem l_l_eqCellS_ok : ∀ q ∈ l_l_eqCellS, ConOk Try.prog q.1 q.2 := Try.cons_cons c_l_eqCell_ok (Try.cons_nil)
abbrev k_l_eqCellS_4 : List Keep × List BK := ([.ro tSlICell, .ro tSlICell, .drop, .drop, .drop, .ro tInt64, .drop, .drop, .drop, .drop, .drop, .drop, .drop, .drop, .drop, .drop, .drop, .drop, .drop, .drop, .drop, .drop, .drop, .drop, .drop, .drop, .drop], [])
def kp_l_eqCellS : KP := [(4, k_l_eqCellS_4)]
noncomputable def q_l_eqCellS (n : Nat) (x : Args [tSlICell, tSlICell]) := evX (false, false, []) l_l_eqCellS kp_l_eqCellS [none] Try.f61 (shV tBool) n (encA [tSlICell, tSlICell] x)
noncomputable def c_l_eqCellS : Con := roS [tSlICell, tSlICell] true (shV tBool) (q_l_eqCellS big)
theorem c_l_eqCellS_ok : ConOk Try.prog 61 c_l_eqCellS := roS_ok ⟨Try.f61, by kernel_rfl, rfl, by decide⟩ fun _ _ h => evX_ok l_l_eqCellS_ok (f := Try.f61) (by kernel_rfl) rfl (by kernel_rfl) (by kernel_rfl) big h
noncomputable def Q_l_eqCellS (n : Nat) (a0 : DSlICell) (a1 : DSlICell) : Option Bool := q_l_eqCellS n (a0, a1, ())
noncomputable def r_l_eqCellS_4 (n : Nat) (x : KD k_l_eqCellS_4.1) (y : BD k_l_eqCellS_4.2) := rounds (env (false, false, []) l_l_eqCellS) kp_l_eqCellS (body Try.f61) (finX (false, false, []) l_l_eqCellS [none] Try.f61 (shV tBool) [.val tSlICell (zeroD tSlICell), .val tSlICell (zeroD tSlICell)]) n 4 k_l_eqCellS_4 x y
noncomputable def R_l_eqCellS_4 (n : Nat) (s0 : DSlICell) (s1 : DSlICell) (s5 : Int) : Option Bool := r_l_eqCellS_4 n (s0, s1, s5, ()) ()
theorem Q_l_eqCellS_eq (n : Nat) (a0 : DSlICell) (a1 : DSlICell) : Q_l_eqCellS n a0 a1 =
    bif !decide ((↑(List.length a0) : Int) = (↑(List.length a1) : Int)) then some false
 else R_l_eqCellS_4 n a0 a1 (0 : Int) := by kernel_rfl
theorem R_l_eqCellS_4_eq (n : Nat) (s0 : DSlICell) (s1 : DSlICell) (s5 : Int) : R_l_eqCellS_4 (n + 1) s0 s1 s5 =
    bif decide (s5 < (↑(List.length s0) : Int)) then
 if (0 : Int) ≤ s5 then
 (nth s0 s5.toNat).bind fun y =>
 if (0 : Int) ≤ s5 then
 (nth s1 s5.toNat).bind fun y_1 =>
 (Q_l_eqCell big y y_1).bind fun y =>
 bif !y then some false else R_l_eqCellS_4 n s0 s1 (IntKind.i64.wrap (s5 + (1 : Int)))
 else none
 else none
 else some true := by kernel_rfl

end Go.Sx.Try

set_option maxRecDepth 100000
namespace Go.Sx.Try
open Go Go.Sx Go.Proofs

noncomputable def l_l_eqCmd : List (Nat × Con) := []
theorem l_l_eqCmd_ok : ∀ q ∈ l_l_eqCmd, ConOk Try.prog q.1 q.2 := Try.cons_nil
def kp_l_eqCmd : KP := []
noncomputable def q_l_eqCmd (n : Nat) (x : Args [tICmd, tICmd]) := evX (false, false, [2, 3, 5, 7, 10, 12, 15, 17]) l_l_eqCmd kp_l_eqCmd [none] Try.f146 (shV tBool) n (encA [tICmd, tICmd] x)
noncomputable def c_l_eqCmd : Con := roS [tICmd, tICmd] true (shV tBool) (q_l_eqCmd big)
theorem c_l_eqCmd_ok : ConOk Try.prog 146 c_l_eqCmd := roS_ok ⟨Try.f146, by kernel_rfl, rfl, by decide⟩ fun _ _ h => evX_ok l_l_eqCmd_ok (f := Try.f146) (by kernel_rfl) rfl (by kernel_rfl) (by kernel_rfl) big h
noncomputable def Q_l_eqCmd (n : Nat) (a0 : DICmd) (a1 : DICmd) : Option Bool := q_l_eqCmd n (a0, a1, ())
theorem Q_l_eqCmd_eq (n : Nat) (a0 : DICmd) (a1 : DICmd) : Q_l_eqCmd n a0 a1 =
    bif !decide (a0.fst = a1.fst) then some false
 else
 bif !decide (a0.snd.fst = a1.snd.fst) then some false
 else bif !decide (a0.snd.snd.fst = a1.snd.snd.fst) then some false else some true := by kernel_rfl

end Go.Sx.Try

set_option maxRecDepth 100000
namespace Go.Sx.Try
open Go Go.Sx Go.Proofs

noncomputable def l_l_eqCmdS : List (Nat × Con) := [(146, c_l_eqCmd)]
theorem l_l_eqCmdS_ok : ∀ q ∈ l_l_eqCmdS, ConOk Try.prog q.1 q.2 := Try.cons_cons c_l_eqCmd_ok (Try.cons_nil)
abbrev k_l_eqCmdS_4 : List Keep × List BK := ([.ro tSlLCmd, .ro tSlLCmd, .drop, .drop, .drop, .ro tInt64, .drop, .drop, .drop, .drop, .drop, .drop, .drop, .drop, .drop, .drop, .drop, .drop, .drop, .drop, .drop, .drop, .drop, .drop, .drop, .drop, .drop], [])
def kp_l_eqCmdS : KP := [(4, k_l_eqCmdS_4)]
noncomputable def q_l_eqCmdS (n : Nat) (x : Args [tSlICmd, tSlICmd]) := evX (false, false, []) l_l_eqCmdS kp_l_eqCmdS [none] Try.f72 (shV tBool) n (encA [tSlICmd, tSlICmd] x)
noncomputable def c_l_eqCmdS : Con := roS [tSlICmd, tSlICmd] true (shV tBool) (q_l_eqCmdS big)
theorem c_l_eqCmdS_ok : ConOk Try.prog 72 c_l_eqCmdS := roS_ok ⟨Try.f72, by kernel_rfl, rfl, by decide⟩ fun _ _ h => evX_ok l_l_eqCmdS_ok (f := Try.f72) (by kernel_rfl) rfl (by kernel_rfl) (by kernel_rfl) big h
noncomputable def Q_l_eqCmdS (n : Nat) (a0 : DSlICmd) (a1 : DSlICmd) : Option Bool := q_l_eqCmdS n (a0, a1, ())
noncomputable def r_l_eqCmdS_4 (n : Nat) (x : KD k_l_eqCmdS_4.1) (y : BD k_l_eqCmdS_4.2) := rounds (env (false, false, []) l_l_eqCmdS) kp_l_eqCmdS (body Try.f72) (finX (false, false, []) l_l_eqCmdS [none] Try.f72 (shV tBool) [.val tSlICmd (zeroD tSlICmd), .val tSlICmd (zeroD tSlICmd)]) n 4 k_l_eqCmdS_4 x y
noncomputable def R_l_eqCmdS_4 (n : Nat) (s0 : DSlLCmd) (s1 : DSlLCmd) (s5 : Int) : Option Bool := r_l_eqCmdS_4 n (s0, s1, s5, ()) ()
theorem Q_l_eqCmdS_eq (n : Nat) (a0 : DSlICmd) (a1 : DSlICmd) : Q_l_eqCmdS n a0 a1 =
    bif !decide ((↑(List.length a0) : Int) = (↑(List.length a1) : Int)) then some false
 else R_l_eqCmdS_4 n a0 a1 (0 : Int) := by kernel_rfl
theorem R_l_eqCmdS_4_eq (n : Nat) (s0 : DSlLCmd) (s1 : DSlLCmd) (s5 : Int) : R_l_eqCmdS_4 (n + 1) s0 s1 s5 =
    bif decide (s5 < (↑(List.length s0) : Int)) then
 if (0 : Int) ≤ s5 then
 (nth s0 s5.toNat).bind fun y =>
 if (0 : Int) ≤ s5 then
 (nth s1 s5.toNat).bind fun y_1 =>
 (Q_l_eqCmd big y y_1).bind fun y =>
 bif !y then some false else R_l_eqCmdS_4 n s0 s1 (IntKind.i64.wrap (s5 + (1 : Int)))
 else none
 else none
 else some true := by kernel_rfl

end Go.Sx.Try

set_option maxRecDepth 100000
namespace Go.Sx.Try
open Go Go.Sx Go.Proofs

noncomputable def l_l_eqQc : List (Nat × Con) := []
theorem l_l_eqQc_ok : ∀ q ∈ l_l_eqQc, ConOk Try.prog q.1 q.2 := Try.cons_nil
def kp_l_eqQc : KP := []
noncomputable def q_l_eqQc (n : Nat) (x : Args [tIQc, tIQc]) := evX (false, false, [2, 3, 5, 7, 10, 12, 15, 17, 20, 22]) l_l_eqQc kp_l_eqQc [none] Try.f75 (shV tBool) n (encA [tIQc, tIQc] x)
noncomputable def c_l_eqQc : Con := roS [tIQc, tIQc] true (shV tBool) (q_l_eqQc big)
theorem c_l_eqQc_ok : ConOk Try.prog 75 c_l_eqQc := roS_ok ⟨Try.f75, by kernel_rfl, rfl, by decide⟩ fun _ _ h => evX_ok l_l_eqQc_ok (f := Try.f75) (by kernel_rfl) rfl (by kernel_rfl) (by kernel_rfl) big h
noncomputable def Q_l_eqQc (n : Nat) (a0 : DIQc) (a1 : DIQc) : Option Bool := q_l_eqQc n (a0, a1, ())
theorem Q_l_eqQc_eq (n : Nat) (a0 : DIQc) (a1 : DIQc) : Q_l_eqQc n a0 a1 =
    bif !decide (a0.fst = a1.fst) then some false
 else
 bif !decide (a0.snd.fst = a1.snd.fst) then some false
 else
 bif !decide (a0.snd.snd.fst = a1.snd.snd.fst) then some false
 else bif !decide (a0.snd.snd.snd.fst = a1.snd.snd.snd.fst) then some false else some true := by kernel_rfl

end Go.Sx.Try

set_option maxRecDepth 100000
namespace Go.Sx.Try
open Go Go.Sx Go.Proofs

noncomputable def l_l_eqBlock : List (Nat × Con) := [(72, c_l_eqCmdS), (75, c_l_eqQc)]
theorem l_l_eqBlock_ok : ∀ q ∈ l_l_eqBlock, ConOk Try.prog q.1 q.2 := Try.cons_cons c_l_eqCmdS_ok (Try.cons_cons c_l_eqQc_ok (Try.cons_nil))
def kp_l_eqBlock : KP := []
noncomputable def q_l_eqBlock (n : Nat) (x : Args [tIBlock, tIBlock]) := evX (false, false, [2, 3, 5, 7, 10, 12, 15, 17, 21, 23]) l_l_eqBlock kp_l_eqBlock [none] Try.f139 (shV tBool) n (encA [tIBlock, tIBlock] x)
noncomputable def c_l_eqBlock : Con := roS [tIBlock, tIBlock] true (shV tBool) (q_l_eqBlock big)
theorem c_l_eqBlock_ok : ConOk Try.prog 139 c_l_eqBlock := roS_ok ⟨Try.f139, by kernel_rfl, rfl, by decide⟩ fun _ _ h => evX_ok l_l_eqBlock_ok (f := Try.f139) (by kernel_rfl) rfl (by kernel_rfl) (by kernel_rfl) big h
noncomputable def Q_l_eqBlock (n : Nat) (a0 : DIBlock) (a1 : DIBlock) : Option Bool := q_l_eqBlock n (a0, a1, ())
theorem Q_l_eqBlock_eq (n : Nat) (a0 : DIBlock) (a1 : DIBlock) : Q_l_eqBlock n a0 a1 =
    bif !decide (a0.fst = a1.fst) then some false
 else
 bif !decide (a0.snd.fst = a1.snd.fst) then some false
 else
 (Q_l_eqCmdS big a0.snd.snd.fst a1.snd.snd.fst).bind fun y =>
 bif !y then some false
 else
 (Q_l_eqQc big a0.snd.snd.snd.fst a1.snd.snd.snd.fst).bind fun y =>
 bif !y then some false else some true := by kernel_rfl

end Go.Sx.Try

set_option maxRecDepth 100000
namespace Go.Sx.Try
open Go Go.Sx Go.Proofs

noncomputable def l_l_eqBlockS : List (Nat × Con) := [(139, c_l_eqBlock)]
theorem l_l_eqBlockS_ok : ∀ q ∈ l_l_eqBlockS, ConOk Try.prog q.1 q.2 := Try.cons_cons c_l_eqBlock_ok (Try.cons_nil)
abbrev k_l_eqBlockS_4 : List Keep × List BK := ([.ro tSlLBlock, .ro tSlLBlock, .drop, .drop, .drop, .ro tInt64, .drop, .drop, .drop, .drop, .drop, .drop, .drop, .drop, .drop, .drop, .drop, .drop, .drop, .drop, .drop, .drop, .drop, .drop, .drop, .drop, .drop], [])
def kp_l_eqBlockS : KP := [(4, k_l_eqBlockS_4)]
noncomputable def q_l_eqBlockS (n : Nat) (x : Args [tSlIBlock, tSlIBlock]) := evX (false, false, []) l_l_eqBlockS kp_l_eqBlockS [none] Try.f62 (shV tBool) n (encA [tSlIBlock, tSlIBlock] x)
noncomputable def c_l_eqBlockS : Con := roS [tSlIBlock, tSlIBlock] true (shV tBool) (q_l_eqBlockS big)
theorem c_l_eqBlockS_ok : ConOk Try.prog 62 c_l_eqBlockS := roS_ok ⟨Try.f62, by kernel_rfl, rfl, by decide⟩ fun _ _ h => evX_ok l_l_eqBlockS_ok (f := Try.f62) (by kernel_rfl) rfl (by kernel_rfl) (by kernel_rfl) big h
noncomputable def Q_l_eqBlockS (n : Nat) (a0 : DSlIBlock) (a1 : DSlIBlock) : Option Bool := q_l_eqBlockS n (a0, a1, ())
noncomputable def r_l_eqBlockS_4 (n : Nat) (x : KD k_l_eqBlockS_4.1) (y : BD k_l_eqBlockS_4.2) := rounds (env (false, false, []) l_l_eqBlockS) kp_l_eqBlockS (body Try.f62) (finX (false, false, []) l_l_eqBlockS [none] Try.f62 (shV tBool) [.val tSlIBlock (zeroD tSlIBlock), .val tSlIBlock (zeroD tSlIBlock)]) n 4 k_l_eqBlockS_4 x y
noncomputable def R_l_eqBlockS_4 (n : Nat) (s0 : DSlLBlock) (s1 : DSlLBlock) (s5 : Int) : Option Bool := r_l_eqBlockS_4 n (s0, s1, s5, ()) ()
theorem Q_l_eqBlockS_eq (n : Nat) (a0 : DSlIBlock) (a1 : DSlIBlock) : Q_l_eqBlockS n a0 a1 =
    bif !decide ((↑(List.length a0) : Int) = (↑(List.length a1) : Int)) then some false
 else R_l_eqBlockS_4 n a0 a1 (0 : Int) := by kernel_rfl
theorem R_l_eqBlockS_4_eq (n : Nat) (s0 : DSlLBlock) (s1 : DSlLBlock) (s5 : Int) : R_l_eqBlockS_4 (n + 1) s0 s1 s5 =
    bif decide (s5 < (↑(List.length s0) : Int)) then
 if (0 : Int) ≤ s5 then
 (nth s0 s5.toNat).bind fun y =>
 if (0 : Int) ≤ s5 then
 (nth s1 s5.toNat).bind fun y_1 =>
 (Q_l_eqBlock big y y_1).bind fun y =>
 bif !y then some false else R_l_eqBlockS_4 n s0 s1 (IntKind.i64.wrap (s5 + (1 : Int)))
 else none
 else none
 else some true := by kernel_rfl

end Go.Sx.Try

set_option maxRecDepth 100000
namespace Go.Sx.Try
open Go Go.Sx Go.Proofs

noncomputable def l_l_eqIntS : List (Nat × Con) := []
theorem l_l_eqIntS_ok : ∀ q ∈ l_l_eqIntS, ConOk Try.prog q.1 q.2 := Try.cons_nil
abbrev k_l_eqIntS_4 : List Keep × List BK := ([.ro tSlInt, .ro tSlInt, .drop, .drop, .drop, .ro tInt64, .drop, .drop, .drop, .drop, .drop, .drop, .drop, .drop, .drop, .drop, .drop, .drop, .drop, .drop, .drop, .drop, .drop, .drop, .drop, .drop], [])
def kp_l_eqIntS : KP := [(4, k_l_eqIntS_4)]
noncomputable def q_l_eqIntS (n : Nat) (x : Args [tSlInt, tSlInt]) := evX (false, false, []) l_l_eqIntS kp_l_eqIntS [none] Try.f63 (shV tBool) n (encA [tSlInt, tSlInt] x)
noncomputable def c_l_eqIntS : Con := roS [tSlInt, tSlInt] true (shV tBool) (q_l_eqIntS big)
theorem c_l_eqIntS_ok : ConOk Try.prog 63 c_l_eqIntS := roS_ok ⟨Try.f63, by kernel_rfl, rfl, by decide⟩ fun _ _ h => evX_ok l_l_eqIntS_ok (f := Try.f63) (by kernel_rfl) rfl (by kernel_rfl) (by kernel_rfl) big h
noncomputable def Q_l_eqIntS (n : Nat) (a0 : DSlInt) (a1 : DSlInt) : Option Bool := q_l_eqIntS n (a0, a1, ())
noncomputable def r_l_eqIntS_4 (n : Nat) (x : KD k_l_eqIntS_4.1) (y : BD k_l_eqIntS_4.2) := rounds (env (false, false, []) l_l_eqIntS) kp_l_eqIntS (body Try.f63) (finX (false, false, []) l_l_eqIntS [none] Try.f63 (shV tBool) [.val tSlInt (zeroD tSlInt), .val tSlInt (zeroD tSlInt)]) n 4 k_l_eqIntS_4 x y
noncomputable def R_l_eqIntS_4 (n : Nat) (s0 : DSlInt) (s1 : DSlInt) (s5 : Int) : Option Bool := r_l_eqIntS_4 n (s0, s1, s5, ()) ()
theorem Q_l_eqIntS_eq (n : Nat) (a0 : DSlInt) (a1 : DSlInt) : Q_l_eqIntS n a0 a1 =
    bif !decide ((↑(List.length a0) : Int) = (↑(List.length a1) : Int)) then some false
 else R_l_eqIntS_4 n a0 a1 (0 : Int) := by kernel_rfl
theorem R_l_eqIntS_4_eq (n : Nat) (s0 : DSlInt) (s1 : DSlInt) (s5 : Int) : R_l_eqIntS_4 (n + 1) s0 s1 s5 =
    bif decide (s5 < (↑(List.length s0) : Int)) then
 if (0 : Int) ≤ s5 then
 (nth s0 s5.toNat).bind fun y =>
 if (0 : Int) ≤ s5 then
 (nth s1 s5.toNat).bind fun y_1 =>
 bif !decide (y = y_1) then some false else R_l_eqIntS_4 n s0 s1 (IntKind.i64.wrap (s5 + (1 : Int)))
 else none
 else none
 else some true := by kernel_rfl

end Go.Sx.Try

set_option maxRecDepth 100000
namespace Go.Sx.Try
open Go Go.Sx Go.Proofs

noncomputable def l_l_markIntS : List (Nat × Con) := []
theorem l_l_markIntS_ok : ∀ q ∈ l_l_markIntS, ConOk Try.prog q.1 q.2 := Try.cons_nil
abbrev k_l_markIntS_2 : List Keep × List BK := ([.is (.own 0 0), .ro tInt64, .drop, .drop, .drop, .ro tInt64, .drop, .drop, .drop, .drop, .drop, .drop, .drop, .drop, .drop, .drop, .drop, .drop, .drop], [.arr tInt])
def kp_l_markIntS : KP := [(2, k_l_markIntS_2)]
noncomputable def q_l_markIntS (n : Nat) (x : AP.denL [.io tInt, .ro tInt]) := evX (false, false, []) l_l_markIntS kp_l_markIntS [none] Try.f65 (shO (shV tInt) [.io tInt]) n (AP.encL [.io tInt, .ro tInt] x)
noncomputable def c_l_markIntS : Con := apS [.io tInt, .ro tInt] true (shO (shV tInt) [.io tInt]) (q_l_markIntS big)
theorem c_l_markIntS_ok : ConOk Try.prog 65 c_l_markIntS := apS_ok ⟨Try.f65, by kernel_rfl, rfl, by decide⟩ fun _ _ h => evX_ok l_l_markIntS_ok (f := Try.f65) (by kernel_rfl) rfl (by kernel_rfl) (by kernel_rfl) big h
noncomputable def Q_l_markIntS (n : Nat) (a0 : DSlInt) (a1 : Int) : Option (Int × DSlInt × Unit) := q_l_markIntS n (a0, a1, ())
noncomputable def r_l_markIntS_2 (n : Nat) (x : KD k_l_markIntS_2.1) (y : BD k_l_markIntS_2.2) := rounds (env (false, false, []) l_l_markIntS) kp_l_markIntS (body Try.f65) (finX (false, false, []) l_l_markIntS [none] Try.f65 (shO (shV tInt) [.io tInt]) [AP.enc (.io tInt) [], AP.enc (.ro tInt) (zeroD tInt)]) n 2 k_l_markIntS_2 x y
noncomputable def R_l_markIntS_2 (n : Nat) (s1 : Int) (s5 : Int) (b0 : (List Int)) : Option (Int × DSlInt × Unit) := r_l_markIntS_2 n (s1, s5, ()) (b0, ())
theorem Q_l_markIntS_eq (n : Nat) (a0 : DSlInt) (a1 : Int) : Q_l_markIntS n a0 a1 =
    R_l_markIntS_2 n a1 (0 : Int) a0 := by kernel_rfl
theorem R_l_markIntS_2_eq (n : Nat) (s1 : Int) (s5 : Int) (b0 : (List Int)) : R_l_markIntS_2 (n + 1) s1 s5 b0 =
    bif decide (s5 < (↑b0.length : Int)) then
 if (0 : Int) ≤ s5 then
 if s5 < (↑b0.length : Int) then
 (nth b0 s5.toNat).bind fun y =>
 (updO b0 s5.toNat s1).bind fun y =>
 R_l_markIntS_2 n (IntKind.i64.wrap (s1 + (1 : Int))) (IntKind.i64.wrap (s5 + (1 : Int))) y
 else none
 else none
 else some (s1, b0, PUnit.unit) := by kernel_rfl

end Go.Sx.Try

set_option maxRecDepth 100000
namespace Go.Sx.Try
open Go Go.Sx Go.Proofs

noncomputable def l_l_heldIntS : List (Nat × Con) := []
theorem l_l_heldIntS_ok : ∀ q ∈ l_l_heldIntS, ConOk Try.prog q.1 q.2 := Try.cons_nil
abbrev k_l_heldIntS_2 : List Keep × List BK := ([.ro tSlInt, .ro tInt64, .drop, .drop, .drop, .ro tInt64, .drop, .drop, .drop, .drop, .drop, .drop, .drop, .drop, .drop, .drop, .drop, .drop, .drop, .drop, .drop], [])
def kp_l_heldIntS : KP := [(2, k_l_heldIntS_2)]
noncomputable def q_l_heldIntS (n : Nat) (x : Args [tSlInt, tInt]) := evX (false, false, []) l_l_heldIntS kp_l_heldIntS [none] Try.f80 (shV tInt) n (encA [tSlInt, tInt] x)
noncomputable def c_l_heldIntS : Con := roS [tSlInt, tInt] true (shV tInt) (q_l_heldIntS big)
theorem c_l_heldIntS_ok : ConOk Try.prog 80 c_l_heldIntS := roS_ok ⟨Try.f80, by kernel_rfl, rfl, by decide⟩ fun _ _ h => evX_ok l_l_heldIntS_ok (f := Try.f80) (by kernel_rfl) rfl (by kernel_rfl) (by kernel_rfl) big h
noncomputable def Q_l_heldIntS (n : Nat) (a0 : DSlInt) (a1 : Int) : Option Int := q_l_heldIntS n (a0, a1, ())
noncomputable def r_l_heldIntS_2 (n : Nat) (x : KD k_l_heldIntS_2.1) (y : BD k_l_heldIntS_2.2) := rounds (env (false, false, []) l_l_heldIntS) kp_l_heldIntS (body Try.f80) (finX (false, false, []) l_l_heldIntS [none] Try.f80 (shV tInt) [.val tSlInt (zeroD tSlInt), .val tInt (zeroD tInt)]) n 2 k_l_heldIntS_2 x y
noncomputable def R_l_heldIntS_2 (n : Nat) (s0 : DSlInt) (s1 : Int) (s5 : Int) : Option Int := r_l_heldIntS_2 n (s0, s1, s5, ()) ()
theorem Q_l_heldIntS_eq (n : Nat) (a0 : DSlInt) (a1 : Int) : Q_l_heldIntS n a0 a1 =
    R_l_heldIntS_2 n a0 a1 (0 : Int) := by kernel_rfl
theorem R_l_heldIntS_2_eq (n : Nat) (s0 : DSlInt) (s1 : Int) (s5 : Int) : R_l_heldIntS_2 (n + 1) s0 s1 s5 =
    bif decide (s5 < (↑(List.length s0) : Int)) then
 if (0 : Int) ≤ s5 then
 (nth s0 s5.toNat).bind fun y =>
 bif !decide (y = s1) then some (-1 : Int)
 else R_l_heldIntS_2 n s0 (IntKind.i64.wrap (s1 + (1 : Int))) (IntKind.i64.wrap (s5 + (1 : Int)))
 else none
 else some s1 := by kernel_rfl

end Go.Sx.Try

set_option maxRecDepth 100000
namespace Go.Sx.Try
open Go Go.Sx Go.Proofs

noncomputable def l_l_markText : List (Nat × Con) := []
theorem l_l_markText_ok : ∀ q ∈ l_l_markText, ConOk Try.prog q.1 q.2 := Try.cons_nil
abbrev k_l_markText_4 : List Keep × List BK := ([.ro tInt64, .drop, .drop, .ro tString, .drop, .drop, .drop, .drop, .drop, .drop, .drop, .drop, .drop, .drop, .drop, .drop, .drop, .drop, .drop, .drop], [])
def kp_l_markText : KP := [(4, k_l_markText_4)]
noncomputable def q_l_markText (n : Nat) (x : Args [tInt]) := evX (false, false, []) l_l_markText kp_l_markText [none] Try.f140 (shV tString) n (encA [tInt] x)
noncomputable def c_l_markText : Con := roS [tInt] true (shV tString) (q_l_markText big)
theorem c_l_markText_ok : ConOk Try.prog 140 c_l_markText := roS_ok ⟨Try.f140, by kernel_rfl, rfl, by decide⟩ fun _ _ h => evX_ok l_l_markText_ok (f := Try.f140) (by kernel_rfl) rfl (by kernel_rfl) (by kernel_rfl) big h
noncomputable def Q_l_markText (n : Nat) (a0 : Int) : Option ByteArray := q_l_markText n (a0, ())
noncomputable def r_l_markText_4 (n : Nat) (x : KD k_l_markText_4.1) (y : BD k_l_markText_4.2) := rounds (env (false, false, []) l_l_markText) kp_l_markText (body Try.f140) (finX (false, false, []) l_l_markText [none] Try.f140 (shV tString) [.val tInt (zeroD tInt)]) n 4 k_l_markText_4 x y
noncomputable def R_l_markText_4 (n : Nat) (s0 : Int) (s3 : ByteArray) : Option ByteArray := r_l_markText_4 n (s0, s3, ()) ()
theorem Q_l_markText_eq (n : Nat) (a0 : Int) : Q_l_markText n a0 =
    bif decide (a0 ≤ (0 : Int)) then some (ByteArray.mk #[(109 : UInt8), (48 : UInt8)])
 else R_l_markText_4 n a0 (ByteArray.mk #[]) := by kernel_rfl
theorem R_l_markText_4_eq (n : Nat) (s0 : Int) (s3 : ByteArray) : R_l_markText_4 (n + 1) s0 s3 =
    bif decide ((0 : Int) < s0) then
 if
 (ByteArray.mk
 (List.map (fun n => UInt8.ofNat n.toNat)
 [IntKind.u8.wrap (IntKind.i64.wrap ((48 : Int) + s0.tmod (10 : Int)))]).toArray).size +
 s3.size ≤
 lim then
 R_l_markText_4 n (IntKind.i64.wrap (s0.tdiv (10 : Int)))
 (ByteArray.mk
 (List.map (fun n => UInt8.ofNat n.toNat)
 [IntKind.u8.wrap (IntKind.i64.wrap ((48 : Int) + s0.tmod (10 : Int)))]).toArray ++
 s3)
 else none
 else
 if (ByteArray.mk #[(109 : UInt8)]).size + s3.size ≤ lim then some (ByteArray.mk #[(109 : UInt8)] ++ s3)
 else none := by kernel_rfl

end Go.Sx.Try

set_option maxRecDepth 100000
namespace Go.Sx.Try
open Go Go.Sx Go.Proofs

noncomputable def l_l_markCellS : List (Nat × Con) := [(140, c_l_markText)]
theorem l_l_markCellS_ok : ∀ q ∈ l_l_markCellS, ConOk Try.prog q.1 q.2 := Try.cons_cons c_l_markText_ok (Try.cons_nil)
abbrev k_l_markCellS_2 : List Keep × List BK := ([.is (.own 0 0), .ro tInt64, .drop, .drop, .drop, .ro tInt64, .drop, .drop, .drop, .drop, .drop, .drop, .drop, .drop, .drop, .drop, .drop, .drop, .drop, .drop, .drop, .drop, .drop, .drop, .drop, .drop, .drop, .drop], [.arr tICell])
def kp_l_markCellS : KP := [(2, k_l_markCellS_2)]
noncomputable def q_l_markCellS (n : Nat) (x : AP.denL [.io tICell, .ro tInt]) := evX (false, false, []) l_l_markCellS kp_l_markCellS [none] Try.f66 (shO (shV tInt) [.io tICell]) n (AP.encL [.io tICell, .ro tInt] x)
noncomputable def c_l_markCellS : Con := apS [.io tICell, .ro tInt] true (shO (shV tInt) [.io tICell]) (q_l_markCellS big)
theorem c_l_markCellS_ok : ConOk Try.prog 66 c_l_markCellS := apS_ok ⟨Try.f66, by kernel_rfl, rfl, by decide⟩ fun _ _ h => evX_ok l_l_markCellS_ok (f := Try.f66) (by kernel_rfl) rfl (by kernel_rfl) (by kernel_rfl) big h
noncomputable def Q_l_markCellS (n : Nat) (a0 : DSlICell) (a1 : Int) : Option (Int × DSlICell × Unit) := q_l_markCellS n (a0, a1, ())
noncomputable def r_l_markCellS_2 (n : Nat) (x : KD k_l_markCellS_2.1) (y : BD k_l_markCellS_2.2) := rounds (env (false, false, []) l_l_markCellS) kp_l_markCellS (body Try.f66) (finX (false, false, []) l_l_markCellS [none] Try.f66 (shO (shV tInt) [.io tICell]) [AP.enc (.io tICell) [], AP.enc (.ro tInt) (zeroD tInt)]) n 2 k_l_markCellS_2 x y
noncomputable def R_l_markCellS_2 (n : Nat) (s1 : Int) (s5 : Int) (b0 : (List DICell)) : Option (Int × DSlICell × Unit) := r_l_markCellS_2 n (s1, s5, ()) (b0, ())
theorem Q_l_markCellS_eq (n : Nat) (a0 : DSlICell) (a1 : Int) : Q_l_markCellS n a0 a1 =
    R_l_markCellS_2 n a1 (0 : Int) a0 := by kernel_rfl
theorem R_l_markCellS_2_eq (n : Nat) (s1 : Int) (s5 : Int) (b0 : (List DICell)) : R_l_markCellS_2 (n + 1) s1 s5 b0 =
    bif decide (s5 < (↑b0.length : Int)) then
 (Q_l_markText big s1).bind fun y =>
 if (0 : Int) ≤ s5 then
 if s5 < (↑b0.length : Int) then
 (nth b0 s5.toNat).bind fun y_1 =>
 (updO b0 s5.toNat (y, y_1.snd)).bind fun y =>
 if (0 : Int) ≤ s5 then
 if s5 < (↑y.length : Int) then
 (nth y s5.toNat).bind fun y_2 =>
 (updO y s5.toNat (y_2.fst, IntKind.i64.wrap (s1 + (1 : Int)), ())).bind fun y =>
 R_l_markCellS_2 n (IntKind.i64.wrap (IntKind.i64.wrap (s1 + (1 : Int)) + (1 : Int)))
 (IntKind.i64.wrap (s5 + (1 : Int))) y
 else none
 else none
 else none
 else none
 else some (s1, b0, PUnit.unit) := by kernel_rfl

end Go.Sx.Try

set_option maxRecDepth 100000
namespace Go.Sx.Try
open Go Go.Sx Go.Proofs

noncomputable def l_l_heldCellS : List (Nat × Con) := [(140, c_l_markText)]
theorem l_l_heldCellS_ok : ∀ q ∈ l_l_heldCellS, ConOk Try.prog q.1 q.2 := Try.cons_cons c_l_markText_ok (Try.cons_nil)
abbrev k_l_heldCellS_2 : List Keep × List BK := ([.ro tSlICell, .ro tInt64, .drop, .drop, .drop, .ro tInt64, .drop, .drop, .drop, .drop, .drop, .drop, .drop, .drop, .drop, .drop, .drop, .drop, .drop, .drop, .drop, .drop, .drop, .drop, .drop, .drop, .drop, .drop, .drop, .drop, .drop, .drop], [])
def kp_l_heldCellS : KP := [(2, k_l_heldCellS_2)]
noncomputable def q_l_heldCellS (n : Nat) (x : Args [tSlICell, tInt]) := evX (false, false, []) l_l_heldCellS kp_l_heldCellS [none] Try.f67 (shV tInt) n (encA [tSlICell, tInt] x)
noncomputable def c_l_heldCellS : Con := roS [tSlICell, tInt] true (shV tInt) (q_l_heldCellS big)
theorem c_l_heldCellS_ok : ConOk Try.prog 67 c_l_heldCellS := roS_ok ⟨Try.f67, by kernel_rfl, rfl, by decide⟩ fun _ _ h => evX_ok l_l_heldCellS_ok (f := Try.f67) (by kernel_rfl) rfl (by kernel_rfl) (by kernel_rfl) big h
noncomputable def Q_l_heldCellS (n : Nat) (a0 : DSlICell) (a1 : Int) : Option Int := q_l_heldCellS n (a0, a1, ())
noncomputable def r_l_heldCellS_2 (n : Nat) (x : KD k_l_heldCellS_2.1) (y : BD k_l_heldCellS_2.2) := rounds (env (false, false, []) l_l_heldCellS) kp_l_heldCellS (body Try.f67) (finX (false, false, []) l_l_heldCellS [none] Try.f67 (shV tInt) [.val tSlICell (zeroD tSlICell), .val tInt (zeroD tInt)]) n 2 k_l_heldCellS_2 x y
noncomputable def R_l_heldCellS_2 (n : Nat) (s0 : DSlICell) (s1 : Int) (s5 : Int) : Option Int := r_l_heldCellS_2 n (s0, s1, s5, ()) ()
theorem Q_l_heldCellS_eq (n : Nat) (a0 : DSlICell) (a1 : Int) : Q_l_heldCellS n a0 a1 =
    R_l_heldCellS_2 n a0 a1 (0 : Int) := by kernel_rfl
theorem R_l_heldCellS_2_eq (n : Nat) (s0 : DSlICell) (s1 : Int) (s5 : Int) : R_l_heldCellS_2 (n + 1) s0 s1 s5 =
    bif decide (s5 < (↑(List.length s0) : Int)) then
 if (0 : Int) ≤ s5 then
 (nth s0 s5.toNat).bind fun y =>
 (Q_l_markText big s1).bind fun y_1 =>
 bif !decide (y.fst = y_1) then some (-1 : Int)
 else
 if (0 : Int) ≤ s5 then
 (nth s0 s5.toNat).bind fun y =>
 bif !decide (y.snd.fst = IntKind.i64.wrap (s1 + (1 : Int))) then some (-1 : Int)
 else
 R_l_heldCellS_2 n s0 (IntKind.i64.wrap (IntKind.i64.wrap (s1 + (1 : Int)) + (1 : Int)))
 (IntKind.i64.wrap (s5 + (1 : Int)))
 else none
 else none
 else some s1 := by kernel_rfl

end Go.Sx.Try

set_option maxRecDepth 100000
namespace Go.Sx.Try
open Go Go.Sx Go.Proofs

noncomputable def l_l_markUndoS : List (Nat × Con) := [(140, c_l_markText)]
theorem l_l_markUndoS_ok : ∀ q ∈ l_l_markUndoS, ConOk Try.prog q.1 q.2 := Try.cons_cons c_l_markText_ok (Try.cons_nil)
abbrev k_l_markUndoS_2 : List Keep × List BK := ([.is (.own 0 0), .ro tInt64, .drop, .drop, .drop, .ro tInt64, .drop, .drop, .drop, .drop, .drop, .drop, .drop, .drop, .drop, .drop, .drop, .drop, .drop, .drop, .drop, .drop, .drop, .drop, .drop, .drop, .drop, .drop, .drop, .drop, .drop, .drop, .drop, .drop, .drop, .drop, .drop], [.arr tIUndo])
def kp_l_markUndoS : KP := [(2, k_l_markUndoS_2)]
noncomputable def q_l_markUndoS (n : Nat) (x : AP.denL [.io tIUndo, .ro tInt]) := evX (false, false, []) l_l_markUndoS kp_l_markUndoS [none] Try.f78 (shO (shV tInt) [.io tIUndo]) n (AP.encL [.io tIUndo, .ro tInt] x)
noncomputable def c_l_markUndoS : Con := apS [.io tIUndo, .ro tInt] true (shO (shV tInt) [.io tIUndo]) (q_l_markUndoS big)
theorem c_l_markUndoS_ok : ConOk Try.prog 78 c_l_markUndoS := apS_ok ⟨Try.f78, by kernel_rfl, rfl, by decide⟩ fun _ _ h => evX_ok l_l_markUndoS_ok (f := Try.f78) (by kernel_rfl) rfl (by kernel_rfl) (by kernel_rfl) big h
noncomputable def Q_l_markUndoS (n : Nat) (a0 : DSlIUndo) (a1 : Int) : Option (Int × DSlIUndo × Unit) := q_l_markUndoS n (a0, a1, ())
noncomputable def r_l_markUndoS_2 (n : Nat) (x : KD k_l_markUndoS_2.1) (y : BD k_l_markUndoS_2.2) := rounds (env (false, false, []) l_l_markUndoS) kp_l_markUndoS (body Try.f78) (finX (false, false, []) l_l_markUndoS [none] Try.f78 (shO (shV tInt) [.io tIUndo]) [AP.enc (.io tIUndo) [], AP.enc (.ro tInt) (zeroD tInt)]) n 2 k_l_markUndoS_2 x y
noncomputable def R_l_markUndoS_2 (n : Nat) (s1 : Int) (s5 : Int) (b0 : (List DIUndo)) : Option (Int × DSlIUndo × Unit) := r_l_markUndoS_2 n (s1, s5, ()) (b0, ())
theorem Q_l_markUndoS_eq (n : Nat) (a0 : DSlIUndo) (a1 : Int) : Q_l_markUndoS n a0 a1 =
    R_l_markUndoS_2 n a1 (0 : Int) a0 := by kernel_rfl
theorem R_l_markUndoS_2_eq (n : Nat) (s1 : Int) (s5 : Int) (b0 : (List DIUndo)) : R_l_markUndoS_2 (n + 1) s1 s5 b0 =
    bif decide (s5 < (↑b0.length : Int)) then
 (Q_l_markText big s1).bind fun y =>
 if (0 : Int) ≤ s5 then
 if s5 < (↑b0.length : Int) then
 (nth b0 s5.toNat).bind fun y_1 =>
 (updO b0 s5.toNat (y, y_1.snd)).bind fun y =>
 if (0 : Int) ≤ s5 then
 if s5 < (↑y.length : Int) then
 (nth y s5.toNat).bind fun y_2 =>
 (updO y s5.toNat
 (y_2.fst, decide ((IntKind.i64.wrap (s1 + (1 : Int))).tmod (3 : Int) = (0 : Int)),
 y_2.snd.snd)).bind
 fun y =>
 if (0 : Int) ≤ s5 then
 if s5 < (↑y.length : Int) then
 (nth y s5.toNat).bind fun y_3 =>
 (updO y s5.toNat
 (y_3.fst, y_3.snd.fst,
 IntKind.i64.wrap (IntKind.i64.wrap (s1 + (1 : Int)) + (1 : Int)), ())).bind
 fun y =>
 R_l_markUndoS_2 n
 (IntKind.i64.wrap
 (IntKind.i64.wrap (IntKind.i64.wrap (s1 + (1 : Int)) + (1 : Int)) + (1 : Int)))
 (IntKind.i64.wrap (s5 + (1 : Int))) y
 else none
 else none
 else none
 else none
 else none
 else none
 else some (s1, b0, PUnit.unit) := by kernel_rfl

end Go.Sx.Try

set_option maxRecDepth 100000
namespace Go.Sx.Try
open Go Go.Sx Go.Proofs

noncomputable def l_l_heldUndoS : List (Nat × Con) := [(140, c_l_markText)]
theorem l_l_heldUndoS_ok : ∀ q ∈ l_l_heldUndoS, ConOk Try.prog q.1 q.2 := Try.cons_cons c_l_markText_ok (Try.cons_nil)
abbrev k_l_heldUndoS_2 : List Keep × List BK := ([.ro tSlIUndo, .ro tInt64, .drop, .drop, .drop, .ro tInt64, .drop, .drop, .drop, .drop, .drop, .drop, .drop, .drop, .drop, .drop, .drop, .drop, .drop, .drop, .drop, .drop, .drop, .drop, .drop, .drop, .drop, .drop, .drop, .drop, .drop, .drop, .drop, .drop, .drop, .drop, .drop, .drop, .drop, .drop, .drop, .drop, .drop], [])
def kp_l_heldUndoS : KP := [(2, k_l_heldUndoS_2)]
noncomputable def q_l_heldUndoS (n : Nat) (x : Args [tSlIUndo, tInt]) := evX (false, false, []) l_l_heldUndoS kp_l_heldUndoS [none] Try.f81 (shV tInt) n (encA [tSlIUndo, tInt] x)
noncomputable def c_l_heldUndoS : Con := roS [tSlIUndo, tInt] true (shV tInt) (q_l_heldUndoS big)
theorem c_l_heldUndoS_ok : ConOk Try.prog 81 c_l_heldUndoS := roS_ok ⟨Try.f81, by kernel_rfl, rfl, by decide⟩ fun _ _ h => evX_ok l_l_heldUndoS_ok (f := Try.f81) (by kernel_rfl) rfl (by kernel_rfl) (by kernel_rfl) big h
noncomputable def Q_l_heldUndoS (n : Nat) (a0 : DSlIUndo) (a1 : Int) : Option Int := q_l_heldUndoS n (a0, a1, ())
noncomputable def r_l_heldUndoS_2 (n : Nat) (x : KD k_l_heldUndoS_2.1) (y : BD k_l_heldUndoS_2.2) := rounds (env (false, false, []) l_l_heldUndoS) kp_l_heldUndoS (body Try.f81) (finX (false, false, []) l_l_heldUndoS [none] Try.f81 (shV tInt) [.val tSlIUndo (zeroD tSlIUndo), .val tInt (zeroD tInt)]) n 2 k_l_heldUndoS_2 x y
noncomputable def R_l_heldUndoS_2 (n : Nat) (s0 : DSlIUndo) (s1 : Int) (s5 : Int) : Option Int := r_l_heldUndoS_2 n (s0, s1, s5, ()) ()
theorem Q_l_heldUndoS_eq (n : Nat) (a0 : DSlIUndo) (a1 : Int) : Q_l_heldUndoS n a0 a1 =
    R_l_heldUndoS_2 n a0 a1 (0 : Int) := by kernel_rfl
theorem R_l_heldUndoS_2_eq (n : Nat) (s0 : DSlIUndo) (s1 : Int) (s5 : Int) : R_l_heldUndoS_2 (n + 1) s0 s1 s5 =
    bif decide (s5 < (↑(List.length s0) : Int)) then
 if (0 : Int) ≤ s5 then
 (nth s0 s5.toNat).bind fun y =>
 (Q_l_markText big s1).bind fun y_1 =>
 bif !decide (y.fst = y_1) then some (-1 : Int)
 else
 if (0 : Int) ≤ s5 then
 (nth s0 s5.toNat).bind fun y =>
 bif !y.snd.fst == decide ((IntKind.i64.wrap (s1 + (1 : Int))).tmod (3 : Int) = (0 : Int)) then
 some (-1 : Int)
 else
 if (0 : Int) ≤ s5 then
 (nth s0 s5.toNat).bind fun y =>
 bif
 !decide
 (y.snd.snd.fst = IntKind.i64.wrap (IntKind.i64.wrap (s1 + (1 : Int)) + (1 : Int))) then
 some (-1 : Int)
 else
 R_l_heldUndoS_2 n s0
 (IntKind.i64.wrap
 (IntKind.i64.wrap (IntKind.i64.wrap (s1 + (1 : Int)) + (1 : Int)) + (1 : Int)))
 (IntKind.i64.wrap (s5 + (1 : Int)))
 else none
 else none
 else none
 else some s1 := by kernel_rfl

end Go.Sx.Try

set_option maxRecDepth 100000
namespace Go.Sx.Try
open Go Go.Sx Go.Proofs

noncomputable def l_l_markVoteS : List (Nat × Con) := []
theorem l_l_markVoteS_ok : ∀ q ∈ l_l_markVoteS, ConOk Try.prog q.1 q.2 := Try.cons_nil
abbrev k_l_markVoteS_2 : List Keep × List BK := ([.is (.own 0 0), .ro tInt64, .drop, .drop, .drop, .ro tInt64, .drop, .drop, .drop, .drop, .drop, .drop, .drop, .drop, .drop, .drop, .drop, .drop, .drop, .drop, .drop, .drop, .drop, .drop, .drop, .drop, .drop, .drop, .drop, .drop, .drop, .drop, .drop, .drop, .drop, .drop, .drop, .drop, .drop, .drop, .drop], [.arr tIVote])
def kp_l_markVoteS : KP := [(2, k_l_markVoteS_2)]
noncomputable def q_l_markVoteS (n : Nat) (x : AP.denL [.io tIVote, .ro tInt]) := evX (false, false, []) l_l_markVoteS kp_l_markVoteS [none] Try.f79 (shO (shV tInt) [.io tIVote]) n (AP.encL [.io tIVote, .ro tInt] x)
noncomputable def c_l_markVoteS : Con := apS [.io tIVote, .ro tInt] true (shO (shV tInt) [.io tIVote]) (q_l_markVoteS big)
theorem c_l_markVoteS_ok : ConOk Try.prog 79 c_l_markVoteS := apS_ok ⟨Try.f79, by kernel_rfl, rfl, by decide⟩ fun _ _ h => evX_ok l_l_markVoteS_ok (f := Try.f79) (by kernel_rfl) rfl (by kernel_rfl) (by kernel_rfl) big h
noncomputable def Q_l_markVoteS (n : Nat) (a0 : DSlIVote) (a1 : Int) : Option (Int × DSlIVote × Unit) := q_l_markVoteS n (a0, a1, ())
noncomputable def r_l_markVoteS_2 (n : Nat) (x : KD k_l_markVoteS_2.1) (y : BD k_l_markVoteS_2.2) := rounds (env (false, false, []) l_l_markVoteS) kp_l_markVoteS (body Try.f79) (finX (false, false, []) l_l_markVoteS [none] Try.f79 (shO (shV tInt) [.io tIVote]) [AP.enc (.io tIVote) [], AP.enc (.ro tInt) (zeroD tInt)]) n 2 k_l_markVoteS_2 x y
noncomputable def R_l_markVoteS_2 (n : Nat) (s1 : Int) (s5 : Int) (b0 : (List DIVote)) : Option (Int × DSlIVote × Unit) := r_l_markVoteS_2 n (s1, s5, ()) (b0, ())
theorem Q_l_markVoteS_eq (n : Nat) (a0 : DSlIVote) (a1 : Int) : Q_l_markVoteS n a0 a1 =
    R_l_markVoteS_2 n a1 (0 : Int) a0 := by kernel_rfl
theorem R_l_markVoteS_2_eq (n : Nat) (s1 : Int) (s5 : Int) (b0 : (List DIVote)) : R_l_markVoteS_2 (n + 1) s1 s5 b0 =
    bif decide (s5 < (↑b0.length : Int)) then
 if (0 : Int) ≤ s5 then
 if s5 < (↑b0.length : Int) then
 (nth b0 s5.toNat).bind fun y =>
 (updO b0 s5.toNat (s1, y.snd)).bind fun y =>
 if (0 : Int) ≤ s5 then
 if s5 < (↑y.length : Int) then
 (nth y s5.toNat).bind fun y_1 =>
 (updO y s5.toNat (y_1.fst, IntKind.i64.wrap (s1 + (1 : Int)), y_1.snd.snd)).bind fun y =>
 if (0 : Int) ≤ s5 then
 if s5 < (↑y.length : Int) then
 (nth y s5.toNat).bind fun y_2 =>
 (updO y s5.toNat
 (y_2.fst, y_2.snd.fst, IntKind.i64.wrap (IntKind.i64.wrap (s1 + (1 : Int)) + (1 : Int)),
 y_2.snd.snd.snd)).bind
 fun y =>
 if (0 : Int) ≤ s5 then
 if s5 < (↑y.length : Int) then
 (nth y s5.toNat).bind fun y_3 =>
 (updO y s5.toNat
 (y_3.fst, y_3.snd.fst, y_3.snd.snd.fst,
 IntKind.i64.wrap
 (IntKind.i64.wrap (IntKind.i64.wrap (s1 + (1 : Int)) + (1 : Int)) +
 (1 : Int)),
 ())).bind
 fun y =>
 R_l_markVoteS_2 n
 (IntKind.i64.wrap
 (IntKind.i64.wrap
 (IntKind.i64.wrap (IntKind.i64.wrap (s1 + (1 : Int)) + (1 : Int)) +
 (1 : Int)) +
 (1 : Int)))
 (IntKind.i64.wrap (s5 + (1 : Int))) y
 else none
 else none
 else none
 else none
 else none
 else none
 else none
 else none
 else some (s1, b0, PUnit.unit) := by kernel_rfl

end Go.Sx.Try

set_option maxRecDepth 100000
namespace Go.Sx.Try
open Go Go.Sx Go.Proofs

noncomputable def l_l_heldVoteS : List (Nat × Con) := []
theorem l_l_heldVoteS_ok : ∀ q ∈ l_l_heldVoteS, ConOk Try.prog q.1 q.2 := Try.cons_nil
abbrev k_l_heldVoteS_2 : List Keep × List BK := ([.ro tSlIVote, .ro tInt64, .drop, .drop, .drop, .ro tInt64, .drop, .drop, .drop, .drop, .drop, .drop, .drop, .drop, .drop, .drop, .drop, .drop, .drop, .drop, .drop, .drop, .drop, .drop, .drop, .drop, .drop, .drop, .drop, .drop, .drop, .drop, .drop, .drop, .drop, .drop, .drop, .drop, .drop, .drop, .drop, .drop, .drop, .drop, .drop, .drop, .drop, .drop, .drop], [])
def kp_l_heldVoteS : KP := [(2, k_l_heldVoteS_2)]
noncomputable def q_l_heldVoteS (n : Nat) (x : Args [tSlIVote, tInt]) := evX (false, false, []) l_l_heldVoteS kp_l_heldVoteS [none] Try.f82 (shV tInt) n (encA [tSlIVote, tInt] x)
noncomputable def c_l_heldVoteS : Con := roS [tSlIVote, tInt] true (shV tInt) (q_l_heldVoteS big)
theorem c_l_heldVoteS_ok : ConOk Try.prog 82 c_l_heldVoteS := roS_ok ⟨Try.f82, by kernel_rfl, rfl, by decide⟩ fun _ _ h => evX_ok l_l_heldVoteS_ok (f := Try.f82) (by kernel_rfl) rfl (by kernel_rfl) (by kernel_rfl) big h
noncomputable def Q_l_heldVoteS (n : Nat) (a0 : DSlIVote) (a1 : Int) : Option Int := q_l_heldVoteS n (a0, a1, ())
noncomputable def r_l_heldVoteS_2 (n : Nat) (x : KD k_l_heldVoteS_2.1) (y : BD k_l_heldVoteS_2.2) := rounds (env (false, false, []) l_l_heldVoteS) kp_l_heldVoteS (body Try.f82) (finX (false, false, []) l_l_heldVoteS [none] Try.f82 (shV tInt) [.val tSlIVote (zeroD tSlIVote), .val tInt (zeroD tInt)]) n 2 k_l_heldVoteS_2 x y
noncomputable def R_l_heldVoteS_2 (n : Nat) (s0 : DSlIVote) (s1 : Int) (s5 : Int) : Option Int := r_l_heldVoteS_2 n (s0, s1, s5, ()) ()
theorem Q_l_heldVoteS_eq (n : Nat) (a0 : DSlIVote) (a1 : Int) : Q_l_heldVoteS n a0 a1 =
    R_l_heldVoteS_2 n a0 a1 (0 : Int) := by kernel_rfl
theorem R_l_heldVoteS_2_eq (n : Nat) (s0 : DSlIVote) (s1 : Int) (s5 : Int) : R_l_heldVoteS_2 (n + 1) s0 s1 s5 =
    bif decide (s5 < (↑(List.length s0) : Int)) then
 if (0 : Int) ≤ s5 then
 (nth s0 s5.toNat).bind fun y =>
 bif !decide (y.fst = s1) then some (-1 : Int)
 else
 if (0 : Int) ≤ s5 then
 (nth s0 s5.toNat).bind fun y =>
 bif !decide (y.snd.fst = IntKind.i64.wrap (s1 + (1 : Int))) then some (-1 : Int)
 else
 if (0 : Int) ≤ s5 then
 (nth s0 s5.toNat).bind fun y =>
 bif !decide (y.snd.snd.fst = IntKind.i64.wrap (IntKind.i64.wrap (s1 + (1 : Int)) + (1 : Int))) then
 some (-1 : Int)
 else
 if (0 : Int) ≤ s5 then
 (nth s0 s5.toNat).bind fun y =>
 bif
 !decide
 (y.snd.snd.snd.fst =
 IntKind.i64.wrap
 (IntKind.i64.wrap (IntKind.i64.wrap (s1 + (1 : Int)) + (1 : Int)) +
 (1 : Int))) then
 some (-1 : Int)
 else
 R_l_heldVoteS_2 n s0
 (IntKind.i64.wrap
 (IntKind.i64.wrap
 (IntKind.i64.wrap (IntKind.i64.wrap (s1 + (1 : Int)) + (1 : Int)) + (1 : Int)) +
 (1 : Int)))
 (IntKind.i64.wrap (s5 + (1 : Int)))
 else none
 else none
 else none
 else none
 else some s1 := by kernel_rfl

end Go.Sx.Try

set_option maxRecDepth 100000
namespace Go.Sx.Try
open Go Go.Sx Go.Proofs

noncomputable def l_l_markLetterS : List (Nat × Con) := []
theorem l_l_markLetterS_ok : ∀ q ∈ l_l_markLetterS, ConOk Try.prog q.1 q.2 := Try.cons_nil
abbrev k_l_markLetterS_2 : List Keep × List BK := ([.is (.own 0 0), .ro tInt64, .drop, .drop, .drop, .ro tInt64, .drop, .drop, .drop, .drop, .drop, .drop, .drop, .drop, .drop, .drop, .drop, .drop, .drop, .drop, .drop, .drop, .drop, .drop, .drop, .drop, .drop, .drop, .drop, .drop, .drop, .drop, .drop, .drop, .drop, .drop, .drop, .drop, .drop, .drop, .drop, .drop, .drop, .drop, .drop, .drop, .drop, .drop, .drop, .drop, .drop, .drop, .drop, .drop, .drop, .drop, .drop, .drop, .drop, .drop, .drop, .drop, .drop, .drop, .drop, .drop, .drop, .drop, .drop, .drop, .drop, .drop, .drop, .drop, .drop, .drop, .drop, .drop, .drop, .drop, .drop, .drop, .drop, .drop, .drop, .drop, .drop, .drop, .drop, .drop, .drop, .drop, .drop, .drop, .drop, .drop, .drop, .drop, .drop, .drop, .drop, .drop, .drop, .drop, .drop, .drop, .drop, .drop, .drop, .drop, .drop, .drop], [.arr tILetter])
def kp_l_markLetterS : KP := [(2, k_l_markLetterS_2)]
noncomputable def q_l_markLetterS (n : Nat) (x : AP.denL [.io tILetter, .ro tInt]) := evX (false, false, []) l_l_markLetterS kp_l_markLetterS [none] Try.f47 (shO (shV tInt) [.io tILetter]) n (AP.encL [.io tILetter, .ro tInt] x)
noncomputable def c_l_markLetterS : Con := apS [.io tILetter, .ro tInt] true (shO (shV tInt) [.io tILetter]) (q_l_markLetterS big)
theorem c_l_markLetterS_ok : ConOk Try.prog 47 c_l_markLetterS := apS_ok ⟨Try.f47, by kernel_rfl, rfl, by decide⟩ fun _ _ h => evX_ok l_l_markLetterS_ok (f := Try.f47) (by kernel_rfl) rfl (by kernel_rfl) (by kernel_rfl) big h
noncomputable def Q_l_markLetterS (n : Nat) (a0 : DSlILetter) (a1 : Int) : Option (Int × DSlILetter × Unit) := q_l_markLetterS n (a0, a1, ())
noncomputable def r_l_markLetterS_2 (n : Nat) (x : KD k_l_markLetterS_2.1) (y : BD k_l_markLetterS_2.2) := rounds (env (false, false, []) l_l_markLetterS) kp_l_markLetterS (body Try.f47) (finX (false, false, []) l_l_markLetterS [none] Try.f47 (shO (shV tInt) [.io tILetter]) [AP.enc (.io tILetter) [], AP.enc (.ro tInt) (zeroD tInt)]) n 2 k_l_markLetterS_2 x y
noncomputable def R_l_markLetterS_2 (n : Nat) (s1 : Int) (s5 : Int) (b0 : (List DILetter)) : Option (Int × DSlILetter × Unit) := r_l_markLetterS_2 n (s1, s5, ()) (b0, ())
theorem Q_l_markLetterS_eq (n : Nat) (a0 : DSlILetter) (a1 : Int) : Q_l_markLetterS n a0 a1 =
    R_l_markLetterS_2 n a1 (0 : Int) a0 := by kernel_rfl
theorem R_l_markLetterS_2_eq (n : Nat) (s1 : Int) (s5 : Int) (b0 : (List DILetter)) : R_l_markLetterS_2 (n + 1) s1 s5 b0 =
    bif decide (s5 < (↑b0.length : Int)) then
 if (0 : Int) ≤ s5 then
 if s5 < (↑b0.length : Int) then
 (nth b0 s5.toNat).bind fun y =>
 (updO b0 s5.toNat (s1, y.snd)).bind fun y =>
 if (0 : Int) ≤ s5 then
 if s5 < (↑y.length : Int) then
 (nth y s5.toNat).bind fun y_1 =>
 (updO y s5.toNat (y_1.fst, IntKind.i64.wrap (s1 + (1 : Int)), y_1.snd.snd)).bind fun y =>
 if (0 : Int) ≤ s5 then
 if s5 < (↑y.length : Int) then
 (nth y s5.toNat).bind fun y_2 =>
 (updO y s5.toNat
 (y_2.fst, y_2.snd.fst, IntKind.i64.wrap (IntKind.i64.wrap (s1 + (1 : Int)) + (1 : Int)),
 y_2.snd.snd.snd)).bind
 fun y =>
 if (0 : Int) ≤ s5 then
 if s5 < (↑y.length : Int) then
 (nth y s5.toNat).bind fun y_3 =>
 (updO y s5.toNat
 (y_3.fst, y_3.snd.fst, y_3.snd.snd.fst,
 IntKind.i64.wrap
 (IntKind.i64.wrap (IntKind.i64.wrap (s1 + (1 : Int)) + (1 : Int)) +
 (1 : Int)),
 y_3.snd.snd.snd.snd)).bind
 fun y =>
 if (0 : Int) ≤ s5 then
 if s5 < (↑y.length : Int) then
 (nth y s5.toNat).bind fun y_4 =>
 (updO y s5.toNat
 (y_4.fst, y_4.snd.fst, y_4.snd.snd.fst, y_4.snd.snd.snd.fst,
 IntKind.i64.wrap
 (IntKind.i64.wrap
 (IntKind.i64.wrap
 (IntKind.i64.wrap (s1 + (1 : Int)) + (1 : Int)) +
 (1 : Int)) +
 (1 : Int)),
 y_4.snd.snd.snd.snd.snd)).bind
 fun y =>
 if (0 : Int) ≤ s5 then
 if s5 < (↑y.length : Int) then
 (nth y s5.toNat).bind fun y_5 =>
 (updO y s5.toNat
 (y_5.fst, y_5.snd.fst, y_5.snd.snd.fst, y_5.snd.snd.snd.fst,
 y_5.snd.snd.snd.snd.fst,
 (IntKind.i64.wrap
 (IntKind.i64.wrap
 (IntKind.i64.wrap
 (IntKind.i64.wrap
 (IntKind.i64.wrap (s1 + (1 : Int)) +
 (1 : Int)) +
 (1 : Int)) +
 (1 : Int)) +
 (1 : Int)),
 y_5.snd.snd.snd.snd.snd.fst.snd),
 y_5.snd.snd.snd.snd.snd.snd)).bind
 fun y =>
 if (0 : Int) ≤ s5 then
 if s5 < (↑y.length : Int) then
 (nth y s5.toNat).bind fun y_6 =>
 (updO y s5.toNat
 (y_6.fst, y_6.snd.fst, y_6.snd.snd.fst,
 y_6.snd.snd.snd.fst, y_6.snd.snd.snd.snd.fst,
 (y_6.snd.snd.snd.snd.snd.fst.fst,
 IntKind.i64.wrap
 (IntKind.i64.wrap
 (IntKind.i64.wrap
 (IntKind.i64.wrap
 (IntKind.i64.wrap
 (IntKind.i64.wrap
 (s1 + (1 : Int)) +
 (1 : Int)) +
 (1 : Int)) +
 (1 : Int)) +
 (1 : Int)) +
 (1 : Int)),
 y_6.snd.snd.snd.snd.snd.fst.snd.snd),
 y_6.snd.snd.snd.snd.snd.snd)).bind
 fun y =>
 if (0 : Int) ≤ s5 then
 if s5 < (↑y.length : Int) then
 (nth y s5.toNat).bind fun y_7 =>
 (updO y s5.toNat
 (y_7.fst, y_7.snd.fst, y_7.snd.snd.fst,
 y_7.snd.snd.snd.fst, y_7.snd.snd.snd.snd.fst,
 (y_7.snd.snd.snd.snd.snd.fst.fst,
 y_7.snd.snd.snd.snd.snd.fst.snd.fst,
 IntKind.i64.wrap
 (IntKind.i64.wrap
 (IntKind.i64.wrap
 (IntKind.i64.wrap
 (IntKind.i64.wrap
 (IntKind.i64.wrap
 (IntKind.i64.wrap
 (s1 + (1 : Int)) +
 (1 : Int)) +
 (1 : Int)) +
 (1 : Int)) +
 (1 : Int)) +
 (1 : Int)) +
 (1 : Int)),
 y_7.snd.snd.snd.snd.snd.fst.snd.snd.snd),
 y_7.snd.snd.snd.snd.snd.snd)).bind
 fun y =>
 if (0 : Int) ≤ s5 then
 if s5 < (↑y.length : Int) then
 (nth y s5.toNat).bind fun y_8 =>
 (updO y s5.toNat
 (y_8.fst, y_8.snd.fst, y_8.snd.snd.fst,
 y_8.snd.snd.snd.fst,
 y_8.snd.snd.snd.snd.fst,
 (y_8.snd.snd.snd.snd.snd.fst.fst,
 y_8.snd.snd.snd.snd.snd.fst.snd.fst,
 y_8.snd.snd.snd.snd.snd.fst.snd.snd.fst,
 IntKind.i64.wrap
 (IntKind.i64.wrap
 (IntKind.i64.wrap
 (IntKind.i64.wrap
 (IntKind.i64.wrap
 (IntKind.i64.wrap
 (IntKind.i64.wrap
 (IntKind.i64.wrap
 (s1 +
 (1 :
 Int)) +
 (1 :
 Int)) +
 (1 : Int)) +
 (1 : Int)) +
 (1 : Int)) +
 (1 : Int)) +
 (1 : Int)) +
 (1 : Int)),
 ()),
 y_8.snd.snd.snd.snd.snd.snd)).bind
 fun y =>
 if (0 : Int) ≤ s5 then
 if s5 < (↑y.length : Int) then
 (nth y s5.toNat).bind fun y_9 =>
 (updO y s5.toNat
 (y_9.fst, y_9.snd.fst,
 y_9.snd.snd.fst,
 y_9.snd.snd.snd.fst,
 y_9.snd.snd.snd.snd.fst,
 y_9.snd.snd.snd.snd.snd.fst,
 (IntKind.i64.wrap
 (IntKind.i64.wrap
 (IntKind.i64.wrap
 (IntKind.i64.wrap
 (IntKind.i64.wrap
 (IntKind.i64.wrap
 (IntKind.i64.wrap
 (IntKind.i64.wrap
 (IntKind.i64.wrap
 (s1 +
 (1 :
 Int)) +
 (1 :
 Int)) +
 (1 :
 Int)) +
 (1 :
 Int)) +
 (1 :
 Int)) +
 (1 : Int)) +
 (1 : Int)) +
 (1 : Int)) +
 (1 : Int)),
 y_9.snd.snd.snd.snd.snd.snd.fst.snd),
 ())).bind
 fun y =>
 if (0 : Int) ≤ s5 then
 if s5 < (↑y.length : Int) then
 (nth y s5.toNat).bind
 fun y_10 =>
 (updO y s5.toNat
 (y_10.fst, y_10.snd.fst,
 y_10.snd.snd.fst,
 y_10.snd.snd.snd.fst,
 y_10.snd.snd.snd.snd.fst,
 y_10.snd.snd.snd.snd.snd.fst,
 (y_10.snd.snd.snd.snd.snd.snd.fst.fst,
 IntKind.i64.wrap
 (IntKind.i64.wrap
 (IntKind.i64.wrap
 (IntKind.i64.wrap
 (IntKind.i64.wrap
 (IntKind.i64.wrap
 (IntKind.i64.wrap
 (IntKind.i64.wrap
 (IntKind.i64.wrap
 (IntKind.i64.wrap
 (s1 +
 (1 :
 Int)) +
 (1 :
 Int)) +
 (1 :
 Int)) +
 (1 :
 Int)) +
 (1 :
 Int)) +
 (1 :
 Int)) +
 (1 :
 Int)) +
 (1 :
 Int)) +
 (1 : Int)) +
 (1 : Int)),
 y_10.snd.snd.snd.snd.snd.snd.fst.snd.snd),
 ())).bind
 fun y =>
 if (0 : Int) ≤ s5 then
 if
 s5 <
 (↑y.length :
 Int) then
 (nth y s5.toNat).bind
 fun y_11 =>
 (updO y s5.toNat
 (y_11.fst,
 y_11.snd.fst,
 y_11.snd.snd.fst,
 y_11.snd.snd.snd.fst,
 y_11.snd.snd.snd.snd.fst,
 y_11.snd.snd.snd.snd.snd.fst,
 (y_11.snd.snd.snd.snd.snd.snd.fst.fst,
 y_11.snd.snd.snd.snd.snd.snd.fst.snd.fst,
 IntKind.i64.wrap
 (IntKind.i64.wrap
 (IntKind.i64.wrap
 (IntKind.i64.wrap
 (IntKind.i64.wrap
 (IntKind.i64.wrap
 (IntKind.i64.wrap
 (IntKind.i64.wrap
 (IntKind.i64.wrap
 (IntKind.i64.wrap
 (IntKind.i64.wrap
 (s1 +
 (1 :
 Int)) +
 (1 :
 Int)) +
 (1 :
 Int)) +
 (1 :
 Int)) +
 (1 :
 Int)) +
 (1 :
 Int)) +
 (1 :
 Int)) +
 (1 :
 Int)) +
 (1 :
 Int)) +
 (1 :
 Int)) +
 (1 :
 Int)),
 y_11.snd.snd.snd.snd.snd.snd.fst.snd.snd.snd),
 ())).bind
 fun y =>
 if
 (0 : Int) ≤
 s5 then
 if
 s5 <
 (↑y.length :
 Int) then
 (nth y
 s5.toNat).bind
 fun y_12 =>
 (updO y
 s5.toNat
 (y_12.fst,
 y_12.snd.fst,
 y_12.snd.snd.fst,
 y_12.snd.snd.snd.fst,
 y_12.snd.snd.snd.snd.fst,
 y_12.snd.snd.snd.snd.snd.fst,
 (y_12.snd.snd.snd.snd.snd.snd.fst.fst,
 y_12.snd.snd.snd.snd.snd.snd.fst.snd.fst,
 y_12.snd.snd.snd.snd.snd.snd.fst.snd.snd.fst,
 IntKind.i64.wrap
 (IntKind.i64.wrap
 (IntKind.i64.wrap
 (IntKind.i64.wrap
 (IntKind.i64.wrap
 (IntKind.i64.wrap
 (IntKind.i64.wrap
 (IntKind.i64.wrap
 (IntKind.i64.wrap
 (IntKind.i64.wrap
 (IntKind.i64.wrap
 (IntKind.i64.wrap
 (s1 +
 (1 :
 Int)) +
 (1 :
 Int)) +
 (1 :
 Int)) +
 (1 :
 Int)) +
 (1 :
 Int)) +
 (1 :
 Int)) +
 (1 :
 Int)) +
 (1 :
 Int)) +
 (1 :
 Int)) +
 (1 :
 Int)) +
 (1 :
 Int)) +
 (1 :
 Int)),
 ()),
 ())).bind
 fun y =>
 R_l_markLetterS_2
 n
 (IntKind.i64.wrap
 (IntKind.i64.wrap
 (IntKind.i64.wrap
 (IntKind.i64.wrap
 (IntKind.i64.wrap
 (IntKind.i64.wrap
 (IntKind.i64.wrap
 (IntKind.i64.wrap
 (IntKind.i64.wrap
 (IntKind.i64.wrap
 (IntKind.i64.wrap
 (IntKind.i64.wrap
 (IntKind.i64.wrap
 (s1 +
 (1 :
 Int)) +
 (1 :
 Int)) +
 (1 :
 Int)) +
 (1 :
 Int)) +
 (1 :
 Int)) +
 (1 :
 Int)) +
 (1 :
 Int)) +
 (1 :
 Int)) +
 (1 :
 Int)) +
 (1 :
 Int)) +
 (1 :
 Int)) +
 (1 :
 Int)) +
 (1 :
 Int)))
 (IntKind.i64.wrap
 (s5 +
 (1 :
 Int)))
 y
 else none
 else none
 else none
 else none
 else none
 else none
 else none
 else none
 else none
 else none
 else none
 else none
 else none
 else none
 else none
 else none
 else none
 else none
 else none
 else none
 else none
 else none
 else none
 else none
 else none
 else none
 else some (s1, b0, PUnit.unit) := by kernel_rfl

end Go.Sx.Try

set_option maxRecDepth 100000
namespace Go.Sx.Try
open Go Go.Sx Go.Proofs

noncomputable def l_l_heldLetterS : List (Nat × Con) := []
theorem l_l_heldLetterS_ok : ∀ q ∈ l_l_heldLetterS, ConOk Try.prog q.1 q.2 := Try.cons_nil
abbrev k_l_heldLetterS_2 : List Keep × List BK := ([.ro tSlILetter, .ro tInt64, .drop, .drop, .drop, .ro tInt64, .drop, .drop, .drop, .drop, .drop, .drop, .drop, .drop, .drop, .drop, .drop, .drop, .drop, .drop, .drop, .drop, .drop, .drop, .drop, .drop, .drop, .drop, .drop, .drop, .drop, .drop, .drop, .drop, .drop, .drop, .drop, .drop, .drop, .drop, .drop, .drop, .drop, .drop, .drop, .drop, .drop, .drop, .drop, .drop, .drop, .drop, .drop, .drop, .drop, .drop, .drop, .drop, .drop, .drop, .drop, .drop, .drop, .drop, .drop, .drop, .drop, .drop, .drop, .drop, .drop, .drop, .drop, .drop, .drop, .drop, .drop, .drop, .drop, .drop, .drop, .drop, .drop, .drop, .drop, .drop, .drop, .drop, .drop, .drop, .drop, .drop, .drop, .drop, .drop, .drop, .drop, .drop, .drop, .drop, .drop, .drop, .drop, .drop, .drop, .drop, .drop, .drop, .drop, .drop, .drop, .drop, .drop, .drop, .drop, .drop, .drop, .drop, .drop, .drop, .drop, .drop, .drop, .drop, .drop, .drop, .drop, .drop, .drop, .drop, .drop, .drop, .drop, .drop, .drop, .drop, .drop, .drop], [])
def kp_l_heldLetterS : KP := [(2, k_l_heldLetterS_2)]
noncomputable def q_l_heldLetterS (n : Nat) (x : Args [tSlILetter, tInt]) := evX (false, false, []) l_l_heldLetterS kp_l_heldLetterS [none] Try.f83 (shV tInt) n (encA [tSlILetter, tInt] x)
noncomputable def c_l_heldLetterS : Con := roS [tSlILetter, tInt] true (shV tInt) (q_l_heldLetterS big)
theorem c_l_heldLetterS_ok : ConOk Try.prog 83 c_l_heldLetterS := roS_ok ⟨Try.f83, by kernel_rfl, rfl, by decide⟩ fun _ _ h => evX_ok l_l_heldLetterS_ok (f := Try.f83) (by kernel_rfl) rfl (by kernel_rfl) (by kernel_rfl) big h
noncomputable def Q_l_heldLetterS (n : Nat) (a0 : DSlILetter) (a1 : Int) : Option Int := q_l_heldLetterS n (a0, a1, ())
noncomputable def r_l_heldLetterS_2 (n : Nat) (x : KD k_l_heldLetterS_2.1) (y : BD k_l_heldLetterS_2.2) := rounds (env (false, false, []) l_l_heldLetterS) kp_l_heldLetterS (body Try.f83) (finX (false, false, []) l_l_heldLetterS [none] Try.f83 (shV tInt) [.val tSlILetter (zeroD tSlILetter), .val tInt (zeroD tInt)]) n 2 k_l_heldLetterS_2 x y
noncomputable def R_l_heldLetterS_2 (n : Nat) (s0 : DSlILetter) (s1 : Int) (s5 : Int) : Option Int := r_l_heldLetterS_2 n (s0, s1, s5, ()) ()
theorem Q_l_heldLetterS_eq (n : Nat) (a0 : DSlILetter) (a1 : Int) : Q_l_heldLetterS n a0 a1 =
    R_l_heldLetterS_2 n a0 a1 (0 : Int) := by kernel_rfl
theorem R_l_heldLetterS_2_eq (n : Nat) (s0 : DSlILetter) (s1 : Int) (s5 : Int) : R_l_heldLetterS_2 (n + 1) s0 s1 s5 =
    bif decide (s5 < (↑(List.length s0) : Int)) then
 if (0 : Int) ≤ s5 then
 (nth s0 s5.toNat).bind fun y =>
 bif !decide (y.fst = s1) then some (-1 : Int)
 else
 if (0 : Int) ≤ s5 then
 (nth s0 s5.toNat).bind fun y =>
 bif !decide (y.snd.fst = IntKind.i64.wrap (s1 + (1 : Int))) then some (-1 : Int)
 else
 if (0 : Int) ≤ s5 then
 (nth s0 s5.toNat).bind fun y =>
 bif !decide (y.snd.snd.fst = IntKind.i64.wrap (IntKind.i64.wrap (s1 + (1 : Int)) + (1 : Int))) then
 some (-1 : Int)
 else
 if (0 : Int) ≤ s5 then
 (nth s0 s5.toNat).bind fun y =>
 bif
 !decide
 (y.snd.snd.snd.fst =
 IntKind.i64.wrap
 (IntKind.i64.wrap (IntKind.i64.wrap (s1 + (1 : Int)) + (1 : Int)) +
 (1 : Int))) then
 some (-1 : Int)
 else
 if (0 : Int) ≤ s5 then
 (nth s0 s5.toNat).bind fun y =>
 bif
 !decide
 (y.snd.snd.snd.snd.fst =
 IntKind.i64.wrap
 (IntKind.i64.wrap
 (IntKind.i64.wrap (IntKind.i64.wrap (s1 + (1 : Int)) + (1 : Int)) +
 (1 : Int)) +
 (1 : Int))) then
 some (-1 : Int)
 else
 if (0 : Int) ≤ s5 then
 (nth s0 s5.toNat).bind fun y =>
 bif
 !decide
 (y.snd.snd.snd.snd.snd.fst.fst =
 IntKind.i64.wrap
 (IntKind.i64.wrap
 (IntKind.i64.wrap
 (IntKind.i64.wrap
 (IntKind.i64.wrap (s1 + (1 : Int)) + (1 : Int)) +
 (1 : Int)) +
 (1 : Int)) +
 (1 : Int))) then
 some (-1 : Int)
 else
 if (0 : Int) ≤ s5 then
 (nth s0 s5.toNat).bind fun y =>
 bif
 !decide
 (y.snd.snd.snd.snd.snd.fst.snd.fst =
 IntKind.i64.wrap
 (IntKind.i64.wrap
 (IntKind.i64.wrap
 (IntKind.i64.wrap
 (IntKind.i64.wrap
 (IntKind.i64.wrap (s1 + (1 : Int)) +
 (1 : Int)) +
 (1 : Int)) +
 (1 : Int)) +
 (1 : Int)) +
 (1 : Int))) then
 some (-1 : Int)
 else
 if (0 : Int) ≤ s5 then
 (nth s0 s5.toNat).bind fun y =>
 bif
 !decide
 (y.snd.snd.snd.snd.snd.fst.snd.snd.fst =
 IntKind.i64.wrap
 (IntKind.i64.wrap
 (IntKind.i64.wrap
 (IntKind.i64.wrap
 (IntKind.i64.wrap
 (IntKind.i64.wrap
 (IntKind.i64.wrap (s1 + (1 : Int)) +
 (1 : Int)) +
 (1 : Int)) +
 (1 : Int)) +
 (1 : Int)) +
 (1 : Int)) +
 (1 : Int))) then
 some (-1 : Int)
 else
 if (0 : Int) ≤ s5 then
 (nth s0 s5.toNat).bind fun y =>
 bif
 !decide
 (y.snd.snd.snd.snd.snd.fst.snd.snd.snd.fst =
 IntKind.i64.wrap
 (IntKind.i64.wrap
 (IntKind.i64.wrap
 (IntKind.i64.wrap
 (IntKind.i64.wrap
 (IntKind.i64.wrap
 (IntKind.i64.wrap
 (IntKind.i64.wrap
 (s1 + (1 : Int)) +
 (1 : Int)) +
 (1 : Int)) +
 (1 : Int)) +
 (1 : Int)) +
 (1 : Int)) +
 (1 : Int)) +
 (1 : Int))) then
 some (-1 : Int)
 else
 if (0 : Int) ≤ s5 then
 (nth s0 s5.toNat).bind fun y =>
 bif
 !decide
 (y.snd.snd.snd.snd.snd.snd.fst.fst =
 IntKind.i64.wrap
 (IntKind.i64.wrap
 (IntKind.i64.wrap
 (IntKind.i64.wrap
 (IntKind.i64.wrap
 (IntKind.i64.wrap
 (IntKind.i64.wrap
 (IntKind.i64.wrap
 (IntKind.i64.wrap
 (s1 +
 (1 : Int)) +
 (1 : Int)) +
 (1 : Int)) +
 (1 : Int)) +
 (1 : Int)) +
 (1 : Int)) +
 (1 : Int)) +
 (1 : Int)) +
 (1 : Int))) then
 some (-1 : Int)
 else
 if (0 : Int) ≤ s5 then
 (nth s0 s5.toNat).bind fun y =>
 bif
 !decide
 (y.snd.snd.snd.snd.snd.snd.fst.snd.fst =
 IntKind.i64.wrap
 (IntKind.i64.wrap
 (IntKind.i64.wrap
 (IntKind.i64.wrap
 (IntKind.i64.wrap
 (IntKind.i64.wrap
 (IntKind.i64.wrap
 (IntKind.i64.wrap
 (IntKind.i64.wrap
 (IntKind.i64.wrap
 (s1 +
 (1 :
 Int)) +
 (1 :
 Int)) +
 (1 :
 Int)) +
 (1 : Int)) +
 (1 : Int)) +
 (1 : Int)) +
 (1 : Int)) +
 (1 : Int)) +
 (1 : Int)) +
 (1 : Int))) then
 some (-1 : Int)
 else
 if (0 : Int) ≤ s5 then
 (nth s0 s5.toNat).bind fun y =>
 bif
 !decide
 (y.snd.snd.snd.snd.snd.snd.fst.snd.snd.fst =
 IntKind.i64.wrap
 (IntKind.i64.wrap
 (IntKind.i64.wrap
 (IntKind.i64.wrap
 (IntKind.i64.wrap
 (IntKind.i64.wrap
 (IntKind.i64.wrap
 (IntKind.i64.wrap
 (IntKind.i64.wrap
 (IntKind.i64.wrap
 (IntKind.i64.wrap
 (s1 +
 (1 :
 Int)) +
 (1 :
 Int)) +
 (1 :
 Int)) +
 (1 :
 Int)) +
 (1 :
 Int)) +
 (1 : Int)) +
 (1 : Int)) +
 (1 : Int)) +
 (1 : Int)) +
 (1 : Int)) +
 (1 : Int))) then
 some (-1 : Int)
 else
 if (0 : Int) ≤ s5 then
 (nth s0 s5.toNat).bind fun y =>
 bif
 !decide
 (y.snd.snd.snd.snd.snd.snd.fst.snd.snd.snd.fst =
 IntKind.i64.wrap
 (IntKind.i64.wrap
 (IntKind.i64.wrap
 (IntKind.i64.wrap
 (IntKind.i64.wrap
 (IntKind.i64.wrap
 (IntKind.i64.wrap
 (IntKind.i64.wrap
 (IntKind.i64.wrap
 (IntKind.i64.wrap
 (IntKind.i64.wrap
 (IntKind.i64.wrap
 (s1 +
 (1 :
 Int)) +
 (1 :
 Int)) +
 (1 :
 Int)) +
 (1 :
 Int)) +
 (1 :
 Int)) +
 (1 :
 Int)) +
 (1 :
 Int)) +
 (1 :
 Int)) +
 (1 : Int)) +
 (1 : Int)) +
 (1 : Int)) +
 (1 : Int))) then
 some (-1 : Int)
 else
 R_l_heldLetterS_2 n s0
 (IntKind.i64.wrap
 (IntKind.i64.wrap
 (IntKind.i64.wrap
 (IntKind.i64.wrap
 (IntKind.i64.wrap
 (IntKind.i64.wrap
 (IntKind.i64.wrap
 (IntKind.i64.wrap
 (IntKind.i64.wrap
 (IntKind.i64.wrap
 (IntKind.i64.wrap
 (IntKind.i64.wrap
 (IntKind.i64.wrap
 (s1 +
 (1 :
 Int)) +
 (1 :
 Int)) +
 (1 :
 Int)) +
 (1 :
 Int)) +
 (1 :
 Int)) +
 (1 :
 Int)) +
 (1 :
 Int)) +
 (1 : Int)) +
 (1 : Int)) +
 (1 : Int)) +
 (1 : Int)) +
 (1 : Int)) +
 (1 : Int)))
 (IntKind.i64.wrap (s5 + (1 : Int)))
 else none
 else none
 else none
 else none
 else none
 else none
 else none
 else none
 else none
 else none
 else none
 else none
 else none
 else some s1 := by kernel_rfl

end Go.Sx.Try

set_option maxRecDepth 100000
namespace Go.Sx.Try
open Go Go.Sx Go.Proofs

noncomputable def l_l_markPeer : List (Nat × Con) := [(65, c_l_markIntS), (66, c_l_markCellS), (78, c_l_markUndoS), (79, c_l_markVoteS), (47, c_l_markLetterS)]
theorem l_l_markPeer_ok : ∀ q ∈ l_l_markPeer, ConOk Try.prog q.1 q.2 := Try.cons_cons c_l_markIntS_ok (Try.cons_cons c_l_markCellS_ok (Try.cons_cons c_l_markUndoS_ok (Try.cons_cons c_l_markVoteS_ok (Try.cons_cons c_l_markLetterS_ok (Try.cons_nil)))))
def kp_l_markPeer : KP := []
noncomputable def q_l_markPeer (n : Nat) (x : AP.denL [.mo uIPeer, .ro tInt]) := evX (false, false, [2, 5, 9, 13, 17, 21, 25]) l_l_markPeer kp_l_markPeer [none] Try.f19 (shO (shV tInt) [.mo uIPeer]) n (AP.encL [.mo uIPeer, .ro tInt] x)
noncomputable def c_l_markPeer : Con := apS [.mo uIPeer, .ro tInt] true (shO (shV tInt) [.mo uIPeer]) (q_l_markPeer big)
theorem c_l_markPeer_ok : ConOk Try.prog 19 c_l_markPeer := apS_ok ⟨Try.f19, by kernel_rfl, rfl, by decide⟩ fun _ _ h => evX_ok l_l_markPeer_ok (f := Try.f19) (by kernel_rfl) rfl (by kernel_rfl) (by kernel_rfl) big h
noncomputable def Q_l_markPeer (n : Nat) (a0 : DIPeer) (a1 : Int) : Option (Int × (Unit × Unit × (Unit × Unit × Unit × Unit × Unit) × (Unit × Unit × Unit × Unit × Unit) × (Unit × Unit × Unit × Unit × Unit) × (List Int) × (List DICell) × (List Int) × (List DIUndo) × (List DIVote) × (List DILetter) × Unit × Unit) × Unit) := q_l_markPeer n (a0, a1, ())
theorem Q_l_markPeer_eq (n : Nat) (a0 : DIPeer) (a1 : Int) : Q_l_markPeer n a0 a1 =
    (Q_l_markIntS big a0.snd.snd.snd.snd.snd.fst a1).bind fun y =>
 (Q_l_markCellS big a0.snd.snd.snd.snd.snd.snd.fst y.fst).bind fun y_1 =>
 (Q_l_markIntS big a0.snd.snd.snd.snd.snd.snd.snd.fst y_1.fst).bind fun y_2 =>
 (Q_l_markUndoS big a0.snd.snd.snd.snd.snd.snd.snd.snd.fst y_2.fst).bind fun y_3 =>
 (Q_l_markVoteS big a0.snd.snd.snd.snd.snd.snd.snd.snd.snd.fst y_3.fst).bind fun y_4 =>
 (Q_l_markLetterS big a0.snd.snd.snd.snd.snd.snd.snd.snd.snd.snd.fst y_4.fst).bind fun y_5 =>
 some
 (y_5.fst,
 (PUnit.unit, PUnit.unit, (PUnit.unit, PUnit.unit, PUnit.unit, PUnit.unit, PUnit.unit),
 (PUnit.unit, PUnit.unit, PUnit.unit, PUnit.unit, PUnit.unit),
 (PUnit.unit, PUnit.unit, PUnit.unit, PUnit.unit, PUnit.unit), y.snd.fst, y_1.snd.fst, y_2.snd.fst,
 y_3.snd.fst, y_4.snd.fst, y_5.snd.fst, PUnit.unit, PUnit.unit),
 PUnit.unit) := by kernel_rfl

end Go.Sx.Try

set_option maxRecDepth 100000
namespace Go.Sx.Try
open Go Go.Sx Go.Proofs

noncomputable def l_l_heldPeer : List (Nat × Con) := [(80, c_l_heldIntS), (67, c_l_heldCellS), (81, c_l_heldUndoS), (82, c_l_heldVoteS), (83, c_l_heldLetterS)]
theorem l_l_heldPeer_ok : ∀ q ∈ l_l_heldPeer, ConOk Try.prog q.1 q.2 := Try.cons_cons c_l_heldIntS_ok (Try.cons_cons c_l_heldCellS_ok (Try.cons_cons c_l_heldUndoS_ok (Try.cons_cons c_l_heldVoteS_ok (Try.cons_cons c_l_heldLetterS_ok (Try.cons_nil)))))
def kp_l_heldPeer : KP := []
noncomputable def q_l_heldPeer (n : Nat) (x : Args [tIPeer, tInt]) := evX (false, false, [2, 5, 11, 17, 23, 29, 35]) l_l_heldPeer kp_l_heldPeer [none] Try.f20 (shV tInt) n (encA [tIPeer, tInt] x)
noncomputable def c_l_heldPeer : Con := roS [tIPeer, tInt] true (shV tInt) (q_l_heldPeer big)
theorem c_l_heldPeer_ok : ConOk Try.prog 20 c_l_heldPeer := roS_ok ⟨Try.f20, by kernel_rfl, rfl, by decide⟩ fun _ _ h => evX_ok l_l_heldPeer_ok (f := Try.f20) (by kernel_rfl) rfl (by kernel_rfl) (by kernel_rfl) big h
noncomputable def Q_l_heldPeer (n : Nat) (a0 : DIPeer) (a1 : Int) : Option Int := q_l_heldPeer n (a0, a1, ())
theorem Q_l_heldPeer_eq (n : Nat) (a0 : DIPeer) (a1 : Int) : Q_l_heldPeer n a0 a1 =
    (Q_l_heldIntS big a0.snd.snd.snd.snd.snd.fst a1).bind fun y =>
 bif decide (y < (0 : Int)) then some (-1 : Int)
 else
 (Q_l_heldCellS big a0.snd.snd.snd.snd.snd.snd.fst y).bind fun y =>
 bif decide (y < (0 : Int)) then some (-1 : Int)
 else
 (Q_l_heldIntS big a0.snd.snd.snd.snd.snd.snd.snd.fst y).bind fun y =>
 bif decide (y < (0 : Int)) then some (-1 : Int)
 else
 (Q_l_heldUndoS big a0.snd.snd.snd.snd.snd.snd.snd.snd.fst y).bind fun y =>
 bif decide (y < (0 : Int)) then some (-1 : Int)
 else
 (Q_l_heldVoteS big a0.snd.snd.snd.snd.snd.snd.snd.snd.snd.fst y).bind fun y =>
 bif decide (y < (0 : Int)) then some (-1 : Int)
 else
 (Q_l_heldLetterS big a0.snd.snd.snd.snd.snd.snd.snd.snd.snd.snd.fst y).bind fun y =>
 bif decide (y < (0 : Int)) then some (-1 : Int) else some y := by kernel_rfl

end Go.Sx.Try

set_option maxRecDepth 100000
namespace Go.Sx.Try
open Go Go.Sx Go.Proofs

noncomputable def l_g_Clone_Int : List (Nat × Con) := []
theorem l_g_Clone_Int_ok : ∀ q ∈ l_g_Clone_Int, ConOk Try.prog q.1 q.2 := Try.cons_nil
def kp_g_Clone_Int : KP := []
noncomputable def q_g_Clone_Int (n : Nat) (x : Args [tSlInt]) := evX (false, false, []) l_g_Clone_Int kp_g_Clone_Int [some uSlInt] Try.f152 (shF uSlInt) n (encA [tSlInt] x)
noncomputable def c_g_Clone_Int : Con := roS [tSlInt] true (shF uSlInt) (q_g_Clone_Int big)
theorem c_g_Clone_Int_ok : ConOk Try.prog 152 c_g_Clone_Int := roS_ok ⟨Try.f152, by kernel_rfl, rfl, by decide⟩ fun _ _ h => evX_ok l_g_Clone_Int_ok (f := Try.f152) (by kernel_rfl) rfl (by kernel_rfl) (by kernel_rfl) big h
noncomputable def Q_g_Clone_Int (n : Nat) (a0 : DSlInt) : Option DSlInt := q_g_Clone_Int n (a0, ())
theorem Q_g_Clone_Int_eq (n : Nat) (a0 : DSlInt) : Q_g_Clone_Int n a0 =
    nilC a0 fun b => bif b then some [] else if (0 : Nat) + List.length a0 ≤ lim then some a0 else none := by kernel_rfl

end Go.Sx.Try

set_option maxRecDepth 100000
namespace Go.Sx.Try
open Go Go.Sx Go.Proofs

noncomputable def l_g_Clone_ICell : List (Nat × Con) := []
theorem l_g_Clone_ICell_ok : ∀ q ∈ l_g_Clone_ICell, ConOk Try.prog q.1 q.2 := Try.cons_nil
def kp_g_Clone_ICell : KP := []
noncomputable def q_g_Clone_ICell (n : Nat) (x : Args [tSlICell]) := evX (false, false, []) l_g_Clone_ICell kp_g_Clone_ICell [some uSlICell] Try.f153 (shF uSlICell) n (encA [tSlICell] x)
noncomputable def c_g_Clone_ICell : Con := roS [tSlICell] true (shF uSlICell) (q_g_Clone_ICell big)
theorem c_g_Clone_ICell_ok : ConOk Try.prog 153 c_g_Clone_ICell := roS_ok ⟨Try.f153, by kernel_rfl, rfl, by decide⟩ fun _ _ h => evX_ok l_g_Clone_ICell_ok (f := Try.f153) (by kernel_rfl) rfl (by kernel_rfl) (by kernel_rfl) big h
noncomputable def Q_g_Clone_ICell (n : Nat) (a0 : DSlICell) : Option DSlICell := q_g_Clone_ICell n (a0, ())
theorem Q_g_Clone_ICell_eq (n : Nat) (a0 : DSlICell) : Q_g_Clone_ICell n a0 =
    nilC a0 fun b => bif b then some [] else if (0 : Nat) + List.length a0 ≤ lim then some a0 else none := by kernel_rfl

end Go.Sx.Try

set_option maxRecDepth 100000
namespace Go.Sx.Try
open Go Go.Sx Go.Proofs

noncomputable def l_g_Clone_IUndo : List (Nat × Con) := []
theorem l_g_Clone_IUndo_ok : ∀ q ∈ l_g_Clone_IUndo, ConOk Try.prog q.1 q.2 := Try.cons_nil
def kp_g_Clone_IUndo : KP := []
noncomputable def q_g_Clone_IUndo (n : Nat) (x : Args [tSlIUndo]) := evX (false, false, []) l_g_Clone_IUndo kp_g_Clone_IUndo [some uSlIUndo] Try.f154 (shF uSlIUndo) n (encA [tSlIUndo] x)
noncomputable def c_g_Clone_IUndo : Con := roS [tSlIUndo] true (shF uSlIUndo) (q_g_Clone_IUndo big)
theorem c_g_Clone_IUndo_ok : ConOk Try.prog 154 c_g_Clone_IUndo := roS_ok ⟨Try.f154, by kernel_rfl, rfl, by decide⟩ fun _ _ h => evX_ok l_g_Clone_IUndo_ok (f := Try.f154) (by kernel_rfl) rfl (by kernel_rfl) (by kernel_rfl) big h
noncomputable def Q_g_Clone_IUndo (n : Nat) (a0 : DSlIUndo) : Option DSlIUndo := q_g_Clone_IUndo n (a0, ())
theorem Q_g_Clone_IUndo_eq (n : Nat) (a0 : DSlIUndo) : Q_g_Clone_IUndo n a0 =
    nilC a0 fun b => bif b then some [] else if (0 : Nat) + List.length a0 ≤ lim then some a0 else none := by kernel_rfl

end Go.Sx.Try

set_option maxRecDepth 100000
namespace Go.Sx.Try
open Go Go.Sx Go.Proofs

noncomputable def l_g_Clone_IVote : List (Nat × Con) := []
theorem l_g_Clone_IVote_ok : ∀ q ∈ l_g_Clone_IVote, ConOk Try.prog q.1 q.2 := Try.cons_nil
def kp_g_Clone_IVote : KP := []
noncomputable def q_g_Clone_IVote (n : Nat) (x : Args [tSlIVote]) := evX (false, false, []) l_g_Clone_IVote kp_g_Clone_IVote [some uSlIVote] Try.f155 (shF uSlIVote) n (encA [tSlIVote] x)
noncomputable def c_g_Clone_IVote : Con := roS [tSlIVote] true (shF uSlIVote) (q_g_Clone_IVote big)
theorem c_g_Clone_IVote_ok : ConOk Try.prog 155 c_g_Clone_IVote := roS_ok ⟨Try.f155, by kernel_rfl, rfl, by decide⟩ fun _ _ h => evX_ok l_g_Clone_IVote_ok (f := Try.f155) (by kernel_rfl) rfl (by kernel_rfl) (by kernel_rfl) big h
noncomputable def Q_g_Clone_IVote (n : Nat) (a0 : DSlIVote) : Option DSlIVote := q_g_Clone_IVote n (a0, ())
theorem Q_g_Clone_IVote_eq (n : Nat) (a0 : DSlIVote) : Q_g_Clone_IVote n a0 =
    nilC a0 fun b => bif b then some [] else if (0 : Nat) + List.length a0 ≤ lim then some a0 else none := by kernel_rfl

end Go.Sx.Try

set_option maxRecDepth 100000
namespace Go.Sx.Try
open Go Go.Sx Go.Proofs

noncomputable def l_g_Clone_ILetter : List (Nat × Con) := []
theorem l_g_Clone_ILetter_ok : ∀ q ∈ l_g_Clone_ILetter, ConOk Try.prog q.1 q.2 := Try.cons_nil
def kp_g_Clone_ILetter : KP := []
noncomputable def q_g_Clone_ILetter (n : Nat) (x : Args [tSlILetter]) := evX (false, false, []) l_g_Clone_ILetter kp_g_Clone_ILetter [some uSlILetter] Try.f156 (shF uSlILetter) n (encA [tSlILetter] x)
noncomputable def c_g_Clone_ILetter : Con := roS [tSlILetter] true (shF uSlILetter) (q_g_Clone_ILetter big)
theorem c_g_Clone_ILetter_ok : ConOk Try.prog 156 c_g_Clone_ILetter := roS_ok ⟨Try.f156, by kernel_rfl, rfl, by decide⟩ fun _ _ h => evX_ok l_g_Clone_ILetter_ok (f := Try.f156) (by kernel_rfl) rfl (by kernel_rfl) (by kernel_rfl) big h
noncomputable def Q_g_Clone_ILetter (n : Nat) (a0 : DSlILetter) : Option DSlILetter := q_g_Clone_ILetter n (a0, ())
theorem Q_g_Clone_ILetter_eq (n : Nat) (a0 : DSlILetter) : Q_g_Clone_ILetter n a0 =
    nilC a0 fun b => bif b then some [] else if (0 : Nat) + List.length a0 ≤ lim then some a0 else none := by kernel_rfl

end Go.Sx.Try

set_option maxRecDepth 100000
namespace Go.Sx.Try
open Go Go.Sx Go.Proofs

noncomputable def l_i_clonePeer : List (Nat × Con) := [(152, c_g_Clone_Int), (153, c_g_Clone_ICell), (154, c_g_Clone_IUndo), (155, c_g_Clone_IVote), (156, c_g_Clone_ILetter)]
theorem l_i_clonePeer_ok : ∀ q ∈ l_i_clonePeer, ConOk Try.prog q.1 q.2 := Try.cons_cons c_g_Clone_Int_ok (Try.cons_cons c_g_Clone_ICell_ok (Try.cons_cons c_g_Clone_IUndo_ok (Try.cons_cons c_g_Clone_IVote_ok (Try.cons_cons c_g_Clone_ILetter_ok (Try.cons_nil)))))
def kp_i_clonePeer : KP := []
noncomputable def q_i_clonePeer (n : Nat) (x : Args [tIPeer]) := evX (false, false, [1, 3, 6, 9, 12, 15, 18]) l_i_clonePeer kp_i_clonePeer [some uIPeer] Try.f94 (shF uIPeer) n (encA [tIPeer] x)
noncomputable def c_i_clonePeer : Con := roS [tIPeer] true (shF uIPeer) (q_i_clonePeer big)
theorem c_i_clonePeer_ok : ConOk Try.prog 94 c_i_clonePeer := roS_ok ⟨Try.f94, by kernel_rfl, rfl, by decide⟩ fun _ _ h => evX_ok l_i_clonePeer_ok (f := Try.f94) (by kernel_rfl) rfl (by kernel_rfl) (by kernel_rfl) big h
noncomputable def Q_i_clonePeer (n : Nat) (a0 : DIPeer) : Option DIPeer := q_i_clonePeer n (a0, ())
theorem Q_i_clonePeer_eq (n : Nat) (a0 : DIPeer) : Q_i_clonePeer n a0 =
    (Q_g_Clone_Int big a0.snd.snd.snd.snd.snd.fst).bind fun y =>
 (Q_g_Clone_ICell big a0.snd.snd.snd.snd.snd.snd.fst).bind fun y_1 =>
 (Q_g_Clone_Int big a0.snd.snd.snd.snd.snd.snd.snd.fst).bind fun y_2 =>
 (Q_g_Clone_IUndo big a0.snd.snd.snd.snd.snd.snd.snd.snd.fst).bind fun y_3 =>
 (Q_g_Clone_IVote big a0.snd.snd.snd.snd.snd.snd.snd.snd.snd.fst).bind fun y_4 =>
 (Q_g_Clone_ILetter big a0.snd.snd.snd.snd.snd.snd.snd.snd.snd.snd.fst).bind fun y_5 =>
 some
 (a0.fst, a0.snd.fst, a0.snd.snd.fst, a0.snd.snd.snd.fst, a0.snd.snd.snd.snd.fst, y, y_1, y_2, y_3, y_4,
 y_5, a0.snd.snd.snd.snd.snd.snd.snd.snd.snd.snd.snd) := by kernel_rfl

end Go.Sx.Try

set_option maxRecDepth 100000
namespace Go.Sx.Try
open Go Go.Sx Go.Proofs

noncomputable def l_s_l09Copy : List (Nat × Con) := []
theorem l_s_l09Copy_ok : ∀ q ∈ l_s_l09Copy, ConOk Try.prog q.1 q.2 := Try.cons_nil
def kp_s_l09Copy : KP := []
noncomputable def q_s_l09Copy (n : Nat) (x : Args [tIPeer]) := evX (false, false, [1, 3, 6, 11, 16, 21, 26, 31]) l_s_l09Copy kp_s_l09Copy [some uIPeer] Try.f88 (shF uIPeer) n (encA [tIPeer] x)
noncomputable def c_s_l09Copy : Con := roS [tIPeer] true (shF uIPeer) (q_s_l09Copy big)
theorem c_s_l09Copy_ok : ConOk Try.prog 88 c_s_l09Copy := roS_ok ⟨Try.f88, by kernel_rfl, rfl, by decide⟩ fun _ _ h => evX_ok l_s_l09Copy_ok (f := Try.f88) (by kernel_rfl) rfl (by kernel_rfl) (by kernel_rfl) big h
noncomputable def Q_s_l09Copy (n : Nat) (a0 : DIPeer) : Option DIPeer := q_s_l09Copy n (a0, ())
theorem Q_s_l09Copy_eq (n : Nat) (a0 : DIPeer) : Q_s_l09Copy n a0 =
    if (0 : Nat) + List.length a0.snd.snd.snd.snd.snd.fst ≤ lim then
 if (0 : Nat) + List.length a0.snd.snd.snd.snd.snd.snd.fst ≤ lim then
 if (0 : Nat) + List.length a0.snd.snd.snd.snd.snd.snd.snd.fst ≤ lim then
 if (0 : Nat) + List.length a0.snd.snd.snd.snd.snd.snd.snd.snd.fst ≤ lim then
 if (0 : Nat) + List.length a0.snd.snd.snd.snd.snd.snd.snd.snd.snd.fst ≤ lim then
 if (0 : Nat) + List.length a0.snd.snd.snd.snd.snd.snd.snd.snd.snd.snd.fst ≤ lim then some a0 else none
 else none
 else none
 else none
 else none
 else none := by kernel_rfl

end Go.Sx.Try

set_option maxRecDepth 100000
namespace Go.Sx.Try
open Go Go.Sx Go.Proofs

noncomputable def l_l_markCmdS : List (Nat × Con) := [(140, c_l_markText)]
theorem l_l_markCmdS_ok : ∀ q ∈ l_l_markCmdS, ConOk Try.prog q.1 q.2 := Try.cons_cons c_l_markText_ok (Try.cons_nil)
abbrev k_l_markCmdS_2 : List Keep × List BK := ([.is (.own 0 0), .ro tInt64, .drop, .drop, .drop, .ro tInt64, .drop, .drop, .drop, .drop, .drop, .drop, .drop, .drop, .drop, .drop, .drop, .drop, .drop, .drop, .drop, .drop, .drop, .drop, .drop, .drop, .drop, .drop, .drop, .drop, .drop, .drop, .drop, .drop, .drop], [.arr tICmd])
def kp_l_markCmdS : KP := [(2, k_l_markCmdS_2)]
noncomputable def q_l_markCmdS (n : Nat) (x : AP.denL [.io tICmd, .ro tInt]) := evX (false, false, []) l_l_markCmdS kp_l_markCmdS [none] Try.f73 (shO (shV tInt) [.io tICmd]) n (AP.encL [.io tICmd, .ro tInt] x)
noncomputable def c_l_markCmdS : Con := apS [.io tICmd, .ro tInt] true (shO (shV tInt) [.io tICmd]) (q_l_markCmdS big)
theorem c_l_markCmdS_ok : ConOk Try.prog 73 c_l_markCmdS := apS_ok ⟨Try.f73, by kernel_rfl, rfl, by decide⟩ fun _ _ h => evX_ok l_l_markCmdS_ok (f := Try.f73) (by kernel_rfl) rfl (by kernel_rfl) (by kernel_rfl) big h
noncomputable def Q_l_markCmdS (n : Nat) (a0 : DSlICmd) (a1 : Int) : Option (Int × DSlICmd × Unit) := q_l_markCmdS n (a0, a1, ())
noncomputable def r_l_markCmdS_2 (n : Nat) (x : KD k_l_markCmdS_2.1) (y : BD k_l_markCmdS_2.2) := rounds (env (false, false, []) l_l_markCmdS) kp_l_markCmdS (body Try.f73) (finX (false, false, []) l_l_markCmdS [none] Try.f73 (shO (shV tInt) [.io tICmd]) [AP.enc (.io tICmd) [], AP.enc (.ro tInt) (zeroD tInt)]) n 2 k_l_markCmdS_2 x y
noncomputable def R_l_markCmdS_2 (n : Nat) (s1 : Int) (s5 : Int) (b0 : (List DICmd)) : Option (Int × DSlICmd × Unit) := r_l_markCmdS_2 n (s1, s5, ()) (b0, ())
theorem Q_l_markCmdS_eq (n : Nat) (a0 : DSlICmd) (a1 : Int) : Q_l_markCmdS n a0 a1 =
    R_l_markCmdS_2 n a1 (0 : Int) a0 := by kernel_rfl
theorem R_l_markCmdS_2_eq (n : Nat) (s1 : Int) (s5 : Int) (b0 : (List DICmd)) : R_l_markCmdS_2 (n + 1) s1 s5 b0 =
    bif decide (s5 < (↑b0.length : Int)) then
 if (0 : Int) ≤ s5 then
 if s5 < (↑b0.length : Int) then
 (nth b0 s5.toNat).bind fun y =>
 (updO b0 s5.toNat (s1, y.snd)).bind fun y =>
 (Q_l_markText big (IntKind.i64.wrap (s1 + (1 : Int)))).bind fun y_1 =>
 if (0 : Int) ≤ s5 then
 if s5 < (↑y.length : Int) then
 (nth y s5.toNat).bind fun y_2 =>
 (updO y s5.toNat (y_2.fst, y_1, y_2.snd.snd)).bind fun y =>
 if (0 : Int) ≤ s5 then
 if s5 < (↑y.length : Int) then
 (nth y s5.toNat).bind fun y_3 =>
 (updO y s5.toNat
 (y_3.fst, y_3.snd.fst,
 IntKind.i64.wrap (IntKind.i64.wrap (s1 + (1 : Int)) + (1 : Int)), ())).bind
 fun y =>
 R_l_markCmdS_2 n
 (IntKind.i64.wrap
 (IntKind.i64.wrap (IntKind.i64.wrap (s1 + (1 : Int)) + (1 : Int)) + (1 : Int)))
 (IntKind.i64.wrap (s5 + (1 : Int))) y
 else none
 else none
 else none
 else none
 else none
 else none
 else some (s1, b0, PUnit.unit) := by kernel_rfl

end Go.Sx.Try

set_option maxRecDepth 100000
namespace Go.Sx.Try
open Go Go.Sx Go.Proofs

noncomputable def l_l_markBlockS : List (Nat × Con) := [(73, c_l_markCmdS)]
theorem l_l_markBlockS_ok : ∀ q ∈ l_l_markBlockS, ConOk Try.prog q.1 q.2 := Try.cons_cons c_l_markCmdS_ok (Try.cons_nil)
abbrev k_l_markBlockS_2 : List Keep × List BK := ([.is (.own 0 0), .ro tInt64, .drop, .drop, .drop, .ro tInt64, .drop, .drop, .drop, .drop, .drop, .drop, .drop, .drop, .drop, .drop, .drop, .drop, .drop, .drop, .drop, .drop, .drop, .drop, .drop, .drop, .drop, .drop, .drop, .drop, .drop, .drop, .drop, .drop, .drop, .drop, .drop, .drop, .drop, .drop, .drop, .drop, .drop, .drop, .drop, .drop, .drop, .drop, .drop, .drop, .drop, .drop, .drop, .drop, .drop, .drop, .drop, .drop, .drop, .drop, .drop, .drop, .drop, .drop, .drop, .drop], [.arr uIBlock])
def kp_l_markBlockS : KP := [(2, k_l_markBlockS_2)]
noncomputable def q_l_markBlockS (n : Nat) (x : AP.denL [.io uIBlock, .ro tInt]) := evX (true, true, []) l_l_markBlockS kp_l_markBlockS [none] Try.f64 (shO (shV tInt) [.io uIBlock]) n (AP.encL [.io uIBlock, .ro tInt] x)
noncomputable def c_l_markBlockS : Con := apS [.io uIBlock, .ro tInt] true (shO (shV tInt) [.io uIBlock]) (q_l_markBlockS big)
theorem c_l_markBlockS_ok : ConOk Try.prog 64 c_l_markBlockS := apS_ok ⟨Try.f64, by kernel_rfl, rfl, by decide⟩ fun _ _ h => evX_ok l_l_markBlockS_ok (f := Try.f64) (by kernel_rfl) rfl (by kernel_rfl) (by kernel_rfl) big h
noncomputable def Q_l_markBlockS (n : Nat) (a0 : DSlIBlock) (a1 : Int) : Option (Int × DSlIBlock × Unit) := q_l_markBlockS n (a0, a1, ())
noncomputable def r_l_markBlockS_2 (n : Nat) (x : KD k_l_markBlockS_2.1) (y : BD k_l_markBlockS_2.2) := rounds (env (true, true, []) l_l_markBlockS) kp_l_markBlockS (body Try.f64) (finX (true, true, []) l_l_markBlockS [none] Try.f64 (shO (shV tInt) [.io uIBlock]) [AP.enc (.io uIBlock) [], AP.enc (.ro tInt) (zeroD tInt)]) n 2 k_l_markBlockS_2 x y
noncomputable def R_l_markBlockS_2 (n : Nat) (s1 : Int) (s5 : Int) (b0 : (List DIBlock)) : Option (Int × DSlIBlock × Unit) := r_l_markBlockS_2 n (s1, s5, ()) (b0, ())
theorem Q_l_markBlockS_eq (n : Nat) (a0 : DSlIBlock) (a1 : Int) : Q_l_markBlockS n a0 a1 =
    R_l_markBlockS_2 n a1 (0 : Int) a0 := by kernel_rfl
theorem R_l_markBlockS_2_eq (n : Nat) (s1 : Int) (s5 : Int) (b0 : (List DIBlock)) : R_l_markBlockS_2 (n + 1) s1 s5 b0 =
    bif decide (s5 < (↑b0.length : Int)) then
 if (0 : Int) ≤ s5 then
 if s5 < (↑b0.length : Int) then
 (nth b0 s5.toNat).bind fun y =>
 (updO b0 s5.toNat (s1, y.snd)).bind fun y =>
 if (0 : Int) ≤ s5 then
 if s5 < (↑y.length : Int) then
 (nth y s5.toNat).bind fun y_1 =>
 (updO y s5.toNat (y_1.fst, IntKind.i64.wrap (s1 + (1 : Int)), y_1.snd.snd)).bind fun y =>
 if (0 : Int) ≤ s5 then
 if s5 < (↑y.length : Int) then
 (nth y s5.toNat).bind fun y_2 =>
 (Q_l_markCmdS big y_2.snd.snd.fst
 (IntKind.i64.wrap (IntKind.i64.wrap (s1 + (1 : Int)) + (1 : Int)))).bind
 fun y_3 =>
 (updO y s5.toNat (y_2.fst, y_2.snd.fst, y_3.snd.fst, y_2.snd.snd.snd)).bind fun y =>
 if (0 : Int) ≤ s5 then
 if s5 < (↑y.length : Int) then
 (nth y s5.toNat).bind fun y_4 =>
 (updO y s5.toNat
 (y_4.fst, y_4.snd.fst, y_4.snd.snd.fst, (y_3.fst, y_4.snd.snd.snd.fst.snd),
 ())).bind
 fun y =>
 if (0 : Int) ≤ s5 then
 if s5 < (↑y.length : Int) then
 (nth y s5.toNat).bind fun y_5 =>
 (updO y s5.toNat
 (y_5.fst, y_5.snd.fst, y_5.snd.snd.fst,
 (y_5.snd.snd.snd.fst.fst, IntKind.i64.wrap (y_3.fst + (1 : Int)),
 y_5.snd.snd.snd.fst.snd.snd),
 ())).bind
 fun y =>
 if (0 : Int) ≤ s5 then
 if s5 < (↑y.length : Int) then
 (nth y s5.toNat).bind fun y_6 =>
 (updO y s5.toNat
 (y_6.fst, y_6.snd.fst, y_6.snd.snd.fst,
 (y_6.snd.snd.snd.fst.fst, y_6.snd.snd.snd.fst.snd.fst,
 IntKind.i64.wrap
 (IntKind.i64.wrap (y_3.fst + (1 : Int)) + (1 : Int)),
 y_6.snd.snd.snd.fst.snd.snd.snd),
 ())).bind
 fun y =>
 if (0 : Int) ≤ s5 then
 if s5 < (↑y.length : Int) then
 (nth y s5.toNat).bind fun y_7 =>
 (updO y s5.toNat
 (y_7.fst, y_7.snd.fst, y_7.snd.snd.fst,
 (y_7.snd.snd.snd.fst.fst,
 y_7.snd.snd.snd.fst.snd.fst,
 y_7.snd.snd.snd.fst.snd.snd.fst,
 IntKind.i64.wrap
 (IntKind.i64.wrap
 (IntKind.i64.wrap (y_3.fst + (1 : Int)) +
 (1 : Int)) +
 (1 : Int)),
 ()),
 ())).bind
 fun y =>
 R_l_markBlockS_2 n
 (IntKind.i64.wrap
 (IntKind.i64.wrap
 (IntKind.i64.wrap
 (IntKind.i64.wrap (y_3.fst + (1 : Int)) +
 (1 : Int)) +
 (1 : Int)) +
 (1 : Int)))
 (IntKind.i64.wrap (s5 + (1 : Int))) y
 else none
 else none
 else none
 else none
 else none
 else none
 else none
 else none
 else none
 else none
 else none
 else none
 else none
 else none
 else some (s1, b0, PUnit.unit) := by kernel_rfl

end Go.Sx.Try

set_option maxRecDepth 100000
namespace Go.Sx.Try
open Go Go.Sx Go.Proofs

noncomputable def l_l_heldCmdS : List (Nat × Con) := [(140, c_l_markText)]
theorem l_l_heldCmdS_ok : ∀ q ∈ l_l_heldCmdS, ConOk Try.prog q.1 q.2 := Try.cons_cons c_l_markText_ok (Try.cons_nil)
abbrev k_l_heldCmdS_2 : List Keep × List BK := ([.ro tSlLCmd, .ro tInt64, .drop, .drop, .drop, .ro tInt64, .drop, .drop, .drop, .drop, .drop, .drop, .drop, .drop, .drop, .drop, .drop, .drop, .drop, .drop, .drop, .drop, .drop, .drop, .drop, .drop, .drop, .drop, .drop, .drop, .drop, .drop, .drop, .drop, .drop, .drop, .drop, .drop, .drop, .drop, .drop], [])
def kp_l_heldCmdS : KP := [(2, k_l_heldCmdS_2)]
noncomputable def q_l_heldCmdS (n : Nat) (x : Args [tSlICmd, tInt]) := evX (false, false, []) l_l_heldCmdS kp_l_heldCmdS [none] Try.f118 (shV tInt) n (encA [tSlICmd, tInt] x)
noncomputable def c_l_heldCmdS : Con := roS [tSlICmd, tInt] true (shV tInt) (q_l_heldCmdS big)
theorem c_l_heldCmdS_ok : ConOk Try.prog 118 c_l_heldCmdS := roS_ok ⟨Try.f118, by kernel_rfl, rfl, by decide⟩ fun _ _ h => evX_ok l_l_heldCmdS_ok (f := Try.f118) (by kernel_rfl) rfl (by kernel_rfl) (by kernel_rfl) big h
noncomputable def Q_l_heldCmdS (n : Nat) (a0 : DSlICmd) (a1 : Int) : Option Int := q_l_heldCmdS n (a0, a1, ())
noncomputable def r_l_heldCmdS_2 (n : Nat) (x : KD k_l_heldCmdS_2.1) (y : BD k_l_heldCmdS_2.2) := rounds (env (false, false, []) l_l_heldCmdS) kp_l_heldCmdS (body Try.f118) (finX (false, false, []) l_l_heldCmdS [none] Try.f118 (shV tInt) [.val tSlICmd (zeroD tSlICmd), .val tInt (zeroD tInt)]) n 2 k_l_heldCmdS_2 x y
noncomputable def R_l_heldCmdS_2 (n : Nat) (s0 : DSlLCmd) (s1 : Int) (s5 : Int) : Option Int := r_l_heldCmdS_2 n (s0, s1, s5, ()) ()
theorem Q_l_heldCmdS_eq (n : Nat) (a0 : DSlICmd) (a1 : Int) : Q_l_heldCmdS n a0 a1 =
    R_l_heldCmdS_2 n a0 a1 (0 : Int) := by kernel_rfl
theorem R_l_heldCmdS_2_eq (n : Nat) (s0 : DSlLCmd) (s1 : Int) (s5 : Int) : R_l_heldCmdS_2 (n + 1) s0 s1 s5 =
    bif decide (s5 < (↑(List.length s0) : Int)) then
 if (0 : Int) ≤ s5 then
 (nth s0 s5.toNat).bind fun y =>
 bif !decide (y.fst = s1) then some (-1 : Int)
 else
 if (0 : Int) ≤ s5 then
 (nth s0 s5.toNat).bind fun y =>
 (Q_l_markText big (IntKind.i64.wrap (s1 + (1 : Int)))).bind fun y_1 =>
 bif !decide (y.snd.fst = y_1) then some (-1 : Int)
 else
 if (0 : Int) ≤ s5 then
 (nth s0 s5.toNat).bind fun y =>
 bif
 !decide
 (y.snd.snd.fst = IntKind.i64.wrap (IntKind.i64.wrap (s1 + (1 : Int)) + (1 : Int))) then
 some (-1 : Int)
 else
 R_l_heldCmdS_2 n s0
 (IntKind.i64.wrap
 (IntKind.i64.wrap (IntKind.i64.wrap (s1 + (1 : Int)) + (1 : Int)) + (1 : Int)))
 (IntKind.i64.wrap (s5 + (1 : Int)))
 else none
 else none
 else none
 else some s1 := by kernel_rfl

end Go.Sx.Try

set_option maxRecDepth 100000
namespace Go.Sx.Try
open Go Go.Sx Go.Proofs

noncomputable def l_l_heldBlockS : List (Nat × Con) := [(118, c_l_heldCmdS)]
theorem l_l_heldBlockS_ok : ∀ q ∈ l_l_heldBlockS, ConOk Try.prog q.1 q.2 := Try.cons_cons c_l_heldCmdS_ok (Try.cons_nil)
abbrev k_l_heldBlockS_2 : List Keep × List BK := ([.ro tSlLBlock, .ro tInt64, .drop, .drop, .drop, .ro tInt64, .drop, .drop, .drop, .drop, .drop, .drop, .drop, .drop, .drop, .drop, .drop, .drop, .drop, .drop, .drop, .drop, .drop, .drop, .drop, .drop, .drop, .drop, .drop, .drop, .drop, .drop, .drop, .drop, .drop, .drop, .drop, .drop, .drop, .drop, .drop, .drop, .drop, .drop, .drop, .drop, .drop, .drop, .drop, .drop, .drop, .drop, .drop, .drop, .drop, .drop, .drop, .drop, .drop, .drop, .drop, .drop, .drop, .drop, .drop, .drop, .drop, .drop, .drop, .drop, .drop, .drop, .drop, .drop, .drop, .drop, .drop, .drop, .drop, .drop], [])
def kp_l_heldBlockS : KP := [(2, k_l_heldBlockS_2)]
noncomputable def q_l_heldBlockS (n : Nat) (x : Args [tSlIBlock, tInt]) := evX (false, false, []) l_l_heldBlockS kp_l_heldBlockS [none] Try.f74 (shV tInt) n (encA [tSlIBlock, tInt] x)
noncomputable def c_l_heldBlockS : Con := roS [tSlIBlock, tInt] true (shV tInt) (q_l_heldBlockS big)
theorem c_l_heldBlockS_ok : ConOk Try.prog 74 c_l_heldBlockS := roS_ok ⟨Try.f74, by kernel_rfl, rfl, by decide⟩ fun _ _ h => evX_ok l_l_heldBlockS_ok (f := Try.f74) (by kernel_rfl) rfl (by kernel_rfl) (by kernel_rfl) big h
noncomputable def Q_l_heldBlockS (n : Nat) (a0 : DSlIBlock) (a1 : Int) : Option Int := q_l_heldBlockS n (a0, a1, ())
noncomputable def r_l_heldBlockS_2 (n : Nat) (x : KD k_l_heldBlockS_2.1) (y : BD k_l_heldBlockS_2.2) := rounds (env (false, false, []) l_l_heldBlockS) kp_l_heldBlockS (body Try.f74) (finX (false, false, []) l_l_heldBlockS [none] Try.f74 (shV tInt) [.val tSlIBlock (zeroD tSlIBlock), .val tInt (zeroD tInt)]) n 2 k_l_heldBlockS_2 x y
noncomputable def R_l_heldBlockS_2 (n : Nat) (s0 : DSlLBlock) (s1 : Int) (s5 : Int) : Option Int := r_l_heldBlockS_2 n (s0, s1, s5, ()) ()
theorem Q_l_heldBlockS_eq (n : Nat) (a0 : DSlIBlock) (a1 : Int) : Q_l_heldBlockS n a0 a1 =
    R_l_heldBlockS_2 n a0 a1 (0 : Int) := by kernel_rfl
theorem R_l_heldBlockS_2_eq (n : Nat) (s0 : DSlLBlock) (s1 : Int) (s5 : Int) : R_l_heldBlockS_2 (n + 1) s0 s1 s5 =
    bif decide (s5 < (↑(List.length s0) : Int)) then
 if (0 : Int) ≤ s5 then
 (nth s0 s5.toNat).bind fun y =>
 bif !decide (y.fst = s1) then some (-1 : Int)
 else
 if (0 : Int) ≤ s5 then
 (nth s0 s5.toNat).bind fun y =>
 bif !decide (y.snd.fst = IntKind.i64.wrap (s1 + (1 : Int))) then some (-1 : Int)
 else
 if (0 : Int) ≤ s5 then
 (nth s0 s5.toNat).bind fun y =>
 (Q_l_heldCmdS big y.snd.snd.fst
 (IntKind.i64.wrap (IntKind.i64.wrap (s1 + (1 : Int)) + (1 : Int)))).bind
 fun y =>
 bif decide (y < (0 : Int)) then some (-1 : Int)
 else
 if (0 : Int) ≤ s5 then
 (nth s0 s5.toNat).bind fun y_1 =>
 bif !decide (y_1.snd.snd.snd.fst.fst = y) then some (-1 : Int)
 else
 if (0 : Int) ≤ s5 then
 (nth s0 s5.toNat).bind fun y_2 =>
 bif !decide (y_2.snd.snd.snd.fst.snd.fst = IntKind.i64.wrap (y + (1 : Int))) then
 some (-1 : Int)
 else
 if (0 : Int) ≤ s5 then
 (nth s0 s5.toNat).bind fun y_3 =>
 bif
 !decide
 (y_3.snd.snd.snd.fst.snd.snd.fst =
 IntKind.i64.wrap (IntKind.i64.wrap (y + (1 : Int)) + (1 : Int))) then
 some (-1 : Int)
 else
 if (0 : Int) ≤ s5 then
 (nth s0 s5.toNat).bind fun y_4 =>
 bif
 !decide
 (y_4.snd.snd.snd.fst.snd.snd.snd.fst =
 IntKind.i64.wrap
 (IntKind.i64.wrap
 (IntKind.i64.wrap (y + (1 : Int)) + (1 : Int)) +
 (1 : Int))) then
 some (-1 : Int)
 else
 R_l_heldBlockS_2 n s0
 (IntKind.i64.wrap
 (IntKind.i64.wrap
 (IntKind.i64.wrap
 (IntKind.i64.wrap (y + (1 : Int)) + (1 : Int)) +
 (1 : Int)) +
 (1 : Int)))
 (IntKind.i64.wrap (s5 + (1 : Int)))
 else none
 else none
 else none
 else none
 else none
 else none
 else none
 else some s1 := by kernel_rfl

end Go.Sx.Try

set_option maxRecDepth 100000
namespace Go.Sx.Try
open Go Go.Sx Go.Proofs

noncomputable def l_l_markPeerS : List (Nat × Con) := [(65, c_l_markIntS), (66, c_l_markCellS), (78, c_l_markUndoS), (79, c_l_markVoteS), (47, c_l_markLetterS)]
theorem l_l_markPeerS_ok : ∀ q ∈ l_l_markPeerS, ConOk Try.prog q.1 q.2 := Try.cons_cons c_l_markIntS_ok (Try.cons_cons c_l_markCellS_ok (Try.cons_cons c_l_markUndoS_ok (Try.cons_cons c_l_markVoteS_ok (Try.cons_cons c_l_markLetterS_ok (Try.cons_nil)))))
abbrev k_l_markPeerS_2 : List Keep × List BK := ([.is (.own 0 0), .ro tInt64, .drop, .drop, .drop, .ro tInt64, .drop, .drop, .drop, .drop, .drop, .drop, .drop, .drop, .drop, .drop, .drop, .drop, .drop, .drop, .drop, .drop, .drop, .drop, .drop, .drop, .drop, .drop, .drop, .drop, .drop, .drop, .drop, .drop, .drop, .drop, .drop, .drop, .drop, .drop, .drop, .drop, .drop, .drop, .drop, .drop, .drop, .drop, .drop, .drop, .drop, .drop, .drop, .drop, .drop, .drop, .drop, .drop, .drop, .drop, .drop, .drop, .drop, .drop, .drop, .drop, .drop, .drop, .drop, .drop, .drop, .drop, .drop, .drop, .drop, .drop, .drop, .drop, .drop, .drop, .drop, .drop, .drop, .drop, .drop, .drop, .drop, .drop, .drop, .drop, .drop, .drop, .drop, .drop, .drop, .drop, .drop, .drop, .drop, .drop, .drop, .drop, .drop, .drop, .drop, .drop, .drop, .drop, .drop, .drop, .drop, .drop, .drop, .drop, .drop, .drop, .drop, .drop, .drop, .drop, .drop, .drop, .drop, .drop, .drop, .drop, .drop, .drop, .drop, .drop, .drop, .drop, .drop, .drop, .drop, .drop, .drop, .drop, .drop, .drop, .drop, .drop, .drop, .drop, .drop, .drop, .drop, .drop, .drop, .drop, .drop, .drop, .drop, .drop, .drop, .drop, .drop, .drop, .drop, .drop, .drop, .drop, .drop, .drop, .drop, .drop, .drop, .drop, .drop, .drop, .drop, .drop], [.arr uIPeer])
def kp_l_markPeerS : KP := [(2, k_l_markPeerS_2)]
noncomputable def q_l_markPeerS (n : Nat) (x : AP.denL [.io uIPeer, .ro tInt]) := evX (true, true, []) l_l_markPeerS kp_l_markPeerS [none] Try.f116 (shO (shV tInt) [.io uIPeer]) n (AP.encL [.io uIPeer, .ro tInt] x)
noncomputable def c_l_markPeerS : Con := apS [.io uIPeer, .ro tInt] true (shO (shV tInt) [.io uIPeer]) (q_l_markPeerS big)
theorem c_l_markPeerS_ok : ConOk Try.prog 116 c_l_markPeerS := apS_ok ⟨Try.f116, by kernel_rfl, rfl, by decide⟩ fun _ _ h => evX_ok l_l_markPeerS_ok (f := Try.f116) (by kernel_rfl) rfl (by kernel_rfl) (by kernel_rfl) big h
noncomputable def Q_l_markPeerS (n : Nat) (a0 : DSlIPeer) (a1 : Int) : Option (Int × DSlIPeer × Unit) := q_l_markPeerS n (a0, a1, ())
noncomputable def r_l_markPeerS_2 (n : Nat) (x : KD k_l_markPeerS_2.1) (y : BD k_l_markPeerS_2.2) := rounds (env (true, true, []) l_l_markPeerS) kp_l_markPeerS (body Try.f116) (finX (true, true, []) l_l_markPeerS [none] Try.f116 (shO (shV tInt) [.io uIPeer]) [AP.enc (.io uIPeer) [], AP.enc (.ro tInt) (zeroD tInt)]) n 2 k_l_markPeerS_2 x y
noncomputable def R_l_markPeerS_2 (n : Nat) (s1 : Int) (s5 : Int) (b0 : (List DIPeer)) : Option (Int × DSlIPeer × Unit) := r_l_markPeerS_2 n (s1, s5, ()) (b0, ())
theorem Q_l_markPeerS_eq (n : Nat) (a0 : DSlIPeer) (a1 : Int) : Q_l_markPeerS n a0 a1 =
    R_l_markPeerS_2 n a1 (0 : Int) a0 := by kernel_rfl
theorem R_l_markPeerS_2_eq (n : Nat) (s1 : Int) (s5 : Int) (b0 : (List DIPeer)) : R_l_markPeerS_2 (n + 1) s1 s5 b0 =
    bif decide (s5 < (↑b0.length : Int)) then
 if (0 : Int) ≤ s5 then
 if s5 < (↑b0.length : Int) then
 (nth b0 s5.toNat).bind fun y =>
 (updO b0 s5.toNat (s1, y.snd)).bind fun y =>
 if (0 : Int) ≤ s5 then
 if s5 < (↑y.length : Int) then
 (nth y s5.toNat).bind fun y_1 =>
 (updO y s5.toNat (y_1.fst, IntKind.i64.wrap (s1 + (1 : Int)), y_1.snd.snd)).bind fun y =>
 if (0 : Int) ≤ s5 then
 if s5 < (↑y.length : Int) then
 (nth y s5.toNat).bind fun y_2 =>
 (updO y s5.toNat
 (y_2.fst, y_2.snd.fst,
 (IntKind.i64.wrap (IntKind.i64.wrap (s1 + (1 : Int)) + (1 : Int)),
 y_2.snd.snd.fst.snd),
 y_2.snd.snd.snd)).bind
 fun y =>
 if (0 : Int) ≤ s5 then
 if s5 < (↑y.length : Int) then
 (nth y s5.toNat).bind fun y_3 =>
 (updO y s5.toNat
 (y_3.fst, y_3.snd.fst,
 (y_3.snd.snd.fst.fst,
 IntKind.i64.wrap
 (IntKind.i64.wrap (IntKind.i64.wrap (s1 + (1 : Int)) + (1 : Int)) +
 (1 : Int)),
 y_3.snd.snd.fst.snd.snd),
 y_3.snd.snd.snd)).bind
 fun y =>
 if (0 : Int) ≤ s5 then
 if s5 < (↑y.length : Int) then
 (nth y s5.toNat).bind fun y_4 =>
 (updO y s5.toNat
 (y_4.fst, y_4.snd.fst,
 (y_4.snd.snd.fst.fst, y_4.snd.snd.fst.snd.fst,
 IntKind.i64.wrap
 (IntKind.i64.wrap
 (IntKind.i64.wrap
 (IntKind.i64.wrap (s1 + (1 : Int)) + (1 : Int)) +
 (1 : Int)) +
 (1 : Int)),
 y_4.snd.snd.fst.snd.snd.snd),
 y_4.snd.snd.snd)).bind
 fun y =>
 if (0 : Int) ≤ s5 then
 if s5 < (↑y.length : Int) then
 (nth y s5.toNat).bind fun y_5 =>
 (updO y s5.toNat
 (y_5.fst, y_5.snd.fst,
 (y_5.snd.snd.fst.fst, y_5.snd.snd.fst.snd.fst,
 y_5.snd.snd.fst.snd.snd.fst,
 IntKind.i64.wrap
 (IntKind.i64.wrap
 (IntKind.i64.wrap
 (IntKind.i64.wrap
 (IntKind.i64.wrap (s1 + (1 : Int)) +
 (1 : Int)) +
 (1 : Int)) +
 (1 : Int)) +
 (1 : Int)),
 ()),
 y_5.snd.snd.snd)).bind
 fun y =>
 if (0 : Int) ≤ s5 then
 if s5 < (↑y.length : Int) then
 (nth y s5.toNat).bind fun y_6 =>
 (updO y s5.toNat
 (y_6.fst, y_6.snd.fst, y_6.snd.snd.fst,
 (IntKind.i64.wrap
 (IntKind.i64.wrap
 (IntKind.i64.wrap
 (IntKind.i64.wrap
 (IntKind.i64.wrap
 (IntKind.i64.wrap
 (s1 + (1 : Int)) +
 (1 : Int)) +
 (1 : Int)) +
 (1 : Int)) +
 (1 : Int)) +
 (1 : Int)),
 y_6.snd.snd.snd.fst.snd),
 y_6.snd.snd.snd.snd)).bind
 fun y =>
 if (0 : Int) ≤ s5 then
 if s5 < (↑y.length : Int) then
 (nth y s5.toNat).bind fun y_7 =>
 (updO y s5.toNat
 (y_7.fst, y_7.snd.fst, y_7.snd.snd.fst,
 (y_7.snd.snd.snd.fst.fst,
 IntKind.i64.wrap
 (IntKind.i64.wrap
 (IntKind.i64.wrap
 (IntKind.i64.wrap
 (IntKind.i64.wrap
 (IntKind.i64.wrap
 (IntKind.i64.wrap
 (s1 + (1 : Int)) +
 (1 : Int)) +
 (1 : Int)) +
 (1 : Int)) +
 (1 : Int)) +
 (1 : Int)) +
 (1 : Int)),
 y_7.snd.snd.snd.fst.snd.snd),
 y_7.snd.snd.snd.snd)).bind
 fun y =>
 if (0 : Int) ≤ s5 then
 if s5 < (↑y.length : Int) then
 (nth y s5.toNat).bind fun y_8 =>
 (updO y s5.toNat
 (y_8.fst, y_8.snd.fst, y_8.snd.snd.fst,
 (y_8.snd.snd.snd.fst.fst,
 y_8.snd.snd.snd.fst.snd.fst,
 IntKind.i64.wrap
 (IntKind.i64.wrap
 (IntKind.i64.wrap
 (IntKind.i64.wrap
 (IntKind.i64.wrap
 (IntKind.i64.wrap
 (IntKind.i64.wrap
 (IntKind.i64.wrap
 (s1 +
 (1 :
 Int)) +
 (1 :
 Int)) +
 (1 : Int)) +
 (1 : Int)) +
 (1 : Int)) +
 (1 : Int)) +
 (1 : Int)) +
 (1 : Int)),
 y_8.snd.snd.snd.fst.snd.snd.snd),
 y_8.snd.snd.snd.snd)).bind
 fun y =>
 if (0 : Int) ≤ s5 then
 if s5 < (↑y.length : Int) then
 (nth y s5.toNat).bind fun y_9 =>
 (updO y s5.toNat
 (y_9.fst, y_9.snd.fst,
 y_9.snd.snd.fst,
 (y_9.snd.snd.snd.fst.fst,
 y_9.snd.snd.snd.fst.snd.fst,
 y_9.snd.snd.snd.fst.snd.snd.fst,
 IntKind.i64.wrap
 (IntKind.i64.wrap
 (IntKind.i64.wrap
 (IntKind.i64.wrap
 (IntKind.i64.wrap
 (IntKind.i64.wrap
 (IntKind.i64.wrap
 (IntKind.i64.wrap
 (IntKind.i64.wrap
 (s1 +
 (1 :
 Int)) +
 (1 :
 Int)) +
 (1 :
 Int)) +
 (1 :
 Int)) +
 (1 :
 Int)) +
 (1 : Int)) +
 (1 : Int)) +
 (1 : Int)) +
 (1 : Int)),
 ()),
 y_9.snd.snd.snd.snd)).bind
 fun y =>
 if (0 : Int) ≤ s5 then
 if s5 < (↑y.length : Int) then
 (nth y s5.toNat).bind
 fun y_10 =>
 (updO y s5.toNat
 (y_10.fst, y_10.snd.fst,
 y_10.snd.snd.fst,
 y_10.snd.snd.snd.fst,
 (IntKind.i64.wrap
 (IntKind.i64.wrap
 (IntKind.i64.wrap
 (IntKind.i64.wrap
 (IntKind.i64.wrap
 (IntKind.i64.wrap
 (IntKind.i64.wrap
 (IntKind.i64.wrap
 (IntKind.i64.wrap
 (IntKind.i64.wrap
 (s1 +
 (1 :
 Int)) +
 (1 :
 Int)) +
 (1 :
 Int)) +
 (1 :
 Int)) +
 (1 :
 Int)) +
 (1 :
 Int)) +
 (1 :
 Int)) +
 (1 :
 Int)) +
 (1 : Int)) +
 (1 : Int)),
 y_10.snd.snd.snd.snd.fst.snd),
 y_10.snd.snd.snd.snd.snd)).bind
 fun y =>
 if (0 : Int) ≤ s5 then
 if
 s5 <
 (↑y.length :
 Int) then
 (nth y s5.toNat).bind
 fun y_11 =>
 (updO y s5.toNat
 (y_11.fst,
 y_11.snd.fst,
 y_11.snd.snd.fst,
 y_11.snd.snd.snd.fst,
 (y_11.snd.snd.snd.snd.fst.fst,
 IntKind.i64.wrap
 (IntKind.i64.wrap
 (IntKind.i64.wrap
 (IntKind.i64.wrap
 (IntKind.i64.wrap
 (IntKind.i64.wrap
 (IntKind.i64.wrap
 (IntKind.i64.wrap
 (IntKind.i64.wrap
 (IntKind.i64.wrap
 (IntKind.i64.wrap
 (s1 +
 (1 :
 Int)) +
 (1 :
 Int)) +
 (1 :
 Int)) +
 (1 :
 Int)) +
 (1 :
 Int)) +
 (1 :
 Int)) +
 (1 :
 Int)) +
 (1 :
 Int)) +
 (1 :
 Int)) +
 (1 :
 Int)) +
 (1 :
 Int)),
 y_11.snd.snd.snd.snd.fst.snd.snd),
 y_11.snd.snd.snd.snd.snd)).bind
 fun y =>
 if
 (0 : Int) ≤
 s5 then
 if
 s5 <
 (↑y.length :
 Int) then
 (nth y
 s5.toNat).bind
 fun y_12 =>
 (updO y
 s5.toNat
 (y_12.fst,
 y_12.snd.fst,
 y_12.snd.snd.fst,
 y_12.snd.snd.snd.fst,
 (y_12.snd.snd.snd.snd.fst.fst,
 y_12.snd.snd.snd.snd.fst.snd.fst,
 IntKind.i64.wrap
 (IntKind.i64.wrap
 (IntKind.i64.wrap
 (IntKind.i64.wrap
 (IntKind.i64.wrap
 (IntKind.i64.wrap
 (IntKind.i64.wrap
 (IntKind.i64.wrap
 (IntKind.i64.wrap
 (IntKind.i64.wrap
 (IntKind.i64.wrap
 (IntKind.i64.wrap
 (s1 +
 (1 :
 Int)) +
 (1 :
 Int)) +
 (1 :
 Int)) +
 (1 :
 Int)) +
 (1 :
 Int)) +
 (1 :
 Int)) +
 (1 :
 Int)) +
 (1 :
 Int)) +
 (1 :
 Int)) +
 (1 :
 Int)) +
 (1 :
 Int)) +
 (1 :
 Int)),
 y_12.snd.snd.snd.snd.fst.snd.snd.snd),
 y_12.snd.snd.snd.snd.snd)).bind
 fun y =>
 if
 (0 :
 Int) ≤
 s5 then
 if
 s5 <
 (↑y.length :
 Int) then
 (nth y
 s5.toNat).bind
 fun
 y_13 =>
 (updO
 y
 s5.toNat
 (y_13.fst,
 y_13.snd.fst,
 y_13.snd.snd.fst,
 y_13.snd.snd.snd.fst,
 (y_13.snd.snd.snd.snd.fst.fst,
 y_13.snd.snd.snd.snd.fst.snd.fst,
 y_13.snd.snd.snd.snd.fst.snd.snd.fst,
 IntKind.i64.wrap
 (IntKind.i64.wrap
 (IntKind.i64.wrap
 (IntKind.i64.wrap
 (IntKind.i64.wrap
 (IntKind.i64.wrap
 (IntKind.i64.wrap
 (IntKind.i64.wrap
 (IntKind.i64.wrap
 (IntKind.i64.wrap
 (IntKind.i64.wrap
 (IntKind.i64.wrap
 (IntKind.i64.wrap
 (s1 +
 (1 :
 Int)) +
 (1 :
 Int)) +
 (1 :
 Int)) +
 (1 :
 Int)) +
 (1 :
 Int)) +
 (1 :
 Int)) +
 (1 :
 Int)) +
 (1 :
 Int)) +
 (1 :
 Int)) +
 (1 :
 Int)) +
 (1 :
 Int)) +
 (1 :
 Int)) +
 (1 :
 Int)),
 ()),
 y_13.snd.snd.snd.snd.snd)).bind
 fun
 y =>
 if
 (0 :
 Int) ≤
 s5 then
 if
 s5 <
 (↑y.length :
 Int) then
 (nth
 y
 s5.toNat).bind
 fun
 y_14 =>
 (Q_l_markIntS
 big
 y_14.snd.snd.snd.snd.snd.fst
 (IntKind.i64.wrap
 (IntKind.i64.wrap
 (IntKind.i64.wrap
 (IntKind.i64.wrap
 (IntKind.i64.wrap
 (IntKind.i64.wrap
 (IntKind.i64.wrap
 (IntKind.i64.wrap
 (IntKind.i64.wrap
 (IntKind.i64.wrap
 (IntKind.i64.wrap
 (IntKind.i64.wrap
 (IntKind.i64.wrap
 (IntKind.i64.wrap
 (s1 +
 (1 :
 Int)) +
 (1 :
 Int)) +
 (1 :
 Int)) +
 (1 :
 Int)) +
 (1 :
 Int)) +
 (1 :
 Int)) +
 (1 :
 Int)) +
 (1 :
 Int)) +
 (1 :
 Int)) +
 (1 :
 Int)) +
 (1 :
 Int)) +
 (1 :
 Int)) +
 (1 :
 Int)) +
 (1 :
 Int)))).bind
 fun
 y_15 =>
 (updO
 y
 s5.toNat
 (y_14.fst,
 y_14.snd.fst,
 y_14.snd.snd.fst,
 y_14.snd.snd.snd.fst,
 y_14.snd.snd.snd.snd.fst,
 y_15.snd.fst,
 y_14.snd.snd.snd.snd.snd.snd)).bind
 fun
 y =>
 if
 (0 :
 Int) ≤
 s5 then
 if
 s5 <
 (↑y.length :
 Int) then
 (nth
 y
 s5.toNat).bind
 fun
 y_16 =>
 (Q_l_markCellS
 big
 y_16.snd.snd.snd.snd.snd.snd.fst
 y_15.fst).bind
 fun
 y_17 =>
 (updO
 y
 s5.toNat
 (y_16.fst,
 y_16.snd.fst,
 y_16.snd.snd.fst,
 y_16.snd.snd.snd.fst,
 y_16.snd.snd.snd.snd.fst,
 y_16.snd.snd.snd.snd.snd.fst,
 y_17.snd.fst,
 y_16.snd.snd.snd.snd.snd.snd.snd)).bind
 fun
 y =>
 if
 (0 :
 Int) ≤
 s5 then
 if
 s5 <
 (↑y.length :
 Int) then
 (nth
 y
 s5.toNat).bind
 fun
 y_18 =>
 (Q_l_markIntS
 big
 y_18.snd.snd.snd.snd.snd.snd.snd.fst
 y_17.fst).bind
 fun
 y_19 =>
 (updO
 y
 s5.toNat
 (y_18.fst,
 y_18.snd.fst,
 y_18.snd.snd.fst,
 y_18.snd.snd.snd.fst,
 y_18.snd.snd.snd.snd.fst,
 y_18.snd.snd.snd.snd.snd.fst,
 y_18.snd.snd.snd.snd.snd.snd.fst,
 y_19.snd.fst,
 y_18.snd.snd.snd.snd.snd.snd.snd.snd)).bind
 fun
 y =>
 if
 (0 :
 Int) ≤
 s5 then
 if
 s5 <
 (↑y.length :
 Int) then
 (nth
 y
 s5.toNat).bind
 fun
 y_20 =>
 (Q_l_markUndoS
 big
 y_20.snd.snd.snd.snd.snd.snd.snd.snd.fst
 y_19.fst).bind
 fun
 y_21 =>
 (updO
 y
 s5.toNat
 (y_20.fst,
 y_20.snd.fst,
 y_20.snd.snd.fst,
 y_20.snd.snd.snd.fst,
 y_20.snd.snd.snd.snd.fst,
 y_20.snd.snd.snd.snd.snd.fst,
 y_20.snd.snd.snd.snd.snd.snd.fst,
 y_20.snd.snd.snd.snd.snd.snd.snd.fst,
 y_21.snd.fst,
 y_20.snd.snd.snd.snd.snd.snd.snd.snd.snd)).bind
 fun
 y =>
 if
 (0 :
 Int) ≤
 s5 then
 if
 s5 <
 (↑y.length :
 Int) then
 (nth
 y
 s5.toNat).bind
 fun
 y_22 =>
 (Q_l_markVoteS
 big
 y_22.snd.snd.snd.snd.snd.snd.snd.snd.snd.fst
 y_21.fst).bind
 fun
 y_23 =>
 (updO
 y
 s5.toNat
 (y_22.fst,
 y_22.snd.fst,
 y_22.snd.snd.fst,
 y_22.snd.snd.snd.fst,
 y_22.snd.snd.snd.snd.fst,
 y_22.snd.snd.snd.snd.snd.fst,
 y_22.snd.snd.snd.snd.snd.snd.fst,
 y_22.snd.snd.snd.snd.snd.snd.snd.fst,
 y_22.snd.snd.snd.snd.snd.snd.snd.snd.fst,
 y_23.snd.fst,
 y_22.snd.snd.snd.snd.snd.snd.snd.snd.snd.snd)).bind
 fun
 y =>
 if
 (0 :
 Int) ≤
 s5 then
 if
 s5 <
 (↑y.length :
 Int) then
 (nth
 y
 s5.toNat).bind
 fun
 y_24 =>
 (Q_l_markLetterS
 big
 y_24.snd.snd.snd.snd.snd.snd.snd.snd.snd.snd.fst
 y_23.fst).bind
 fun
 y_25 =>
 (updO
 y
 s5.toNat
 (y_24.fst,
 y_24.snd.fst,
 y_24.snd.snd.fst,
 y_24.snd.snd.snd.fst,
 y_24.snd.snd.snd.snd.fst,
 y_24.snd.snd.snd.snd.snd.fst,
 y_24.snd.snd.snd.snd.snd.snd.fst,
 y_24.snd.snd.snd.snd.snd.snd.snd.fst,
 y_24.snd.snd.snd.snd.snd.snd.snd.snd.fst,
 y_24.snd.snd.snd.snd.snd.snd.snd.snd.snd.fst,
 y_25.snd.fst,
 y_24.snd.snd.snd.snd.snd.snd.snd.snd.snd.snd.snd)).bind
 fun
 y =>
 if
 (0 :
 Int) ≤
 s5 then
 if
 s5 <
 (↑y.length :
 Int) then
 (nth
 y
 s5.toNat).bind
 fun
 y_26 =>
 (updO
 y
 s5.toNat
 (y_26.fst,
 y_26.snd.fst,
 y_26.snd.snd.fst,
 y_26.snd.snd.snd.fst,
 y_26.snd.snd.snd.snd.fst,
 y_26.snd.snd.snd.snd.snd.fst,
 y_26.snd.snd.snd.snd.snd.snd.fst,
 y_26.snd.snd.snd.snd.snd.snd.snd.fst,
 y_26.snd.snd.snd.snd.snd.snd.snd.snd.fst,
 y_26.snd.snd.snd.snd.snd.snd.snd.snd.snd.fst,
 y_26.snd.snd.snd.snd.snd.snd.snd.snd.snd.snd.fst,
 y_25.fst,
 ())).bind
 fun
 y =>
 R_l_markPeerS_2
 n
 (IntKind.i64.wrap
 (y_25.fst +
 (1 :
 Int)))
 (IntKind.i64.wrap
 (s5 +
 (1 :
 Int)))
 y
 else
 none
 else
 none
 else
 none
 else
 none
 else
 none
 else
 none
 else
 none
 else
 none
 else
 none
 else
 none
 else
 none
 else
 none
 else
 none
 else
 none
 else none
 else none
 else none
 else none
 else none
 else none
 else none
 else none
 else none
 else none
 else none
 else none
 else none
 else none
 else none
 else none
 else none
 else none
 else none
 else none
 else none
 else none
 else none
 else none
 else none
 else none
 else none
 else none
 else some (s1, b0, PUnit.unit) := by kernel_rfl

end Go.Sx.Try

set_option maxRecDepth 100000
namespace Go.Sx.Try
open Go Go.Sx Go.Proofs

noncomputable def l_l_heldPeerS : List (Nat × Con) := [(80, c_l_heldIntS), (67, c_l_heldCellS), (81, c_l_heldUndoS), (82, c_l_heldVoteS), (83, c_l_heldLetterS)]
theorem l_l_heldPeerS_ok : ∀ q ∈ l_l_heldPeerS, ConOk Try.prog q.1 q.2 := Try.cons_cons c_l_heldIntS_ok (Try.cons_cons c_l_heldCellS_ok (Try.cons_cons c_l_heldUndoS_ok (Try.cons_cons c_l_heldVoteS_ok (Try.cons_cons c_l_heldLetterS_ok (Try.cons_nil)))))
abbrev k_l_heldPeerS_2 : List Keep × List BK := ([.ro tSlLPeer, .ro tInt64, .drop, .drop, .drop, .ro tInt64, .drop, .drop, .drop, .drop, .drop, .drop, .drop, .drop, .drop, .drop, .drop, .drop, .drop, .drop, .drop, .drop, .drop, .drop, .drop, .drop, .drop, .drop, .drop, .drop, .drop, .drop, .drop, .drop, .drop, .drop, .drop, .drop, .drop, .drop, .drop, .drop, .drop, .drop, .drop, .drop, .drop, .drop, .drop, .drop, .drop, .drop, .drop, .drop, .drop, .drop, .drop, .drop, .drop, .drop, .drop, .drop, .drop, .drop, .drop, .drop, .drop, .drop, .drop, .drop, .drop, .drop, .drop, .drop, .drop, .drop, .drop, .drop, .drop, .drop, .drop, .drop, .drop, .drop, .drop, .drop, .drop, .drop, .drop, .drop, .drop, .drop, .drop, .drop, .drop, .drop, .drop, .drop, .drop, .drop, .drop, .drop, .drop, .drop, .drop, .drop, .drop, .drop, .drop, .drop, .drop, .drop, .drop, .drop, .drop, .drop, .drop, .drop, .drop, .drop, .drop, .drop, .drop, .drop, .drop, .drop, .drop, .drop, .drop, .drop, .drop, .drop, .drop, .drop, .drop, .drop, .drop, .drop, .drop, .drop, .drop, .drop, .drop, .drop, .drop, .drop, .drop, .drop, .drop, .drop, .drop, .drop, .drop, .drop, .drop, .drop, .drop, .drop, .drop, .drop, .drop, .drop, .drop, .drop, .drop, .drop, .drop, .drop, .drop, .drop, .drop, .drop, .drop, .drop, .drop, .drop, .drop, .drop, .drop, .drop, .drop, .drop, .drop, .drop, .drop, .drop, .drop, .drop, .drop, .drop, .drop, .drop, .drop, .drop, .drop, .drop, .drop, .drop, .drop, .drop, .drop, .drop, .drop, .drop, .drop, .drop, .drop, .drop, .drop, .drop, .drop, .drop, .drop, .drop], [])
def kp_l_heldPeerS : KP := [(2, k_l_heldPeerS_2)]
noncomputable def q_l_heldPeerS (n : Nat) (x : Args [tSlIPeer, tInt]) := evX (false, false, []) l_l_heldPeerS kp_l_heldPeerS [none] Try.f117 (shV tInt) n (encA [tSlIPeer, tInt] x)
noncomputable def c_l_heldPeerS : Con := roS [tSlIPeer, tInt] true (shV tInt) (q_l_heldPeerS big)
theorem c_l_heldPeerS_ok : ConOk Try.prog 117 c_l_heldPeerS := roS_ok ⟨Try.f117, by kernel_rfl, rfl, by decide⟩ fun _ _ h => evX_ok l_l_heldPeerS_ok (f := Try.f117) (by kernel_rfl) rfl (by kernel_rfl) (by kernel_rfl) big h
noncomputable def Q_l_heldPeerS (n : Nat) (a0 : DSlIPeer) (a1 : Int) : Option Int := q_l_heldPeerS n (a0, a1, ())
noncomputable def r_l_heldPeerS_2 (n : Nat) (x : KD k_l_heldPeerS_2.1) (y : BD k_l_heldPeerS_2.2) := rounds (env (false, false, []) l_l_heldPeerS) kp_l_heldPeerS (body Try.f117) (finX (false, false, []) l_l_heldPeerS [none] Try.f117 (shV tInt) [.val tSlIPeer (zeroD tSlIPeer), .val tInt (zeroD tInt)]) n 2 k_l_heldPeerS_2 x y
noncomputable def R_l_heldPeerS_2 (n : Nat) (s0 : DSlLPeer) (s1 : Int) (s5 : Int) : Option Int := r_l_heldPeerS_2 n (s0, s1, s5, ()) ()
theorem Q_l_heldPeerS_eq (n : Nat) (a0 : DSlIPeer) (a1 : Int) : Q_l_heldPeerS n a0 a1 =
    R_l_heldPeerS_2 n a0 a1 (0 : Int) := by kernel_rfl
theorem R_l_heldPeerS_2_eq (n : Nat) (s0 : DSlLPeer) (s1 : Int) (s5 : Int) : R_l_heldPeerS_2 (n + 1) s0 s1 s5 =
    bif decide (s5 < (↑(List.length s0) : Int)) then
 if (0 : Int) ≤ s5 then
 (nth s0 s5.toNat).bind fun y =>
 bif !decide (y.fst = s1) then some (-1 : Int)
 else
 if (0 : Int) ≤ s5 then
 (nth s0 s5.toNat).bind fun y =>
 bif !decide (y.snd.fst = IntKind.i64.wrap (s1 + (1 : Int))) then some (-1 : Int)
 else
 if (0 : Int) ≤ s5 then
 (nth s0 s5.toNat).bind fun y =>
 bif
 !decide
 (y.snd.snd.fst.fst = IntKind.i64.wrap (IntKind.i64.wrap (s1 + (1 : Int)) + (1 : Int))) then
 some (-1 : Int)
 else
 if (0 : Int) ≤ s5 then
 (nth s0 s5.toNat).bind fun y =>
 bif
 !decide
 (y.snd.snd.fst.snd.fst =
 IntKind.i64.wrap
 (IntKind.i64.wrap (IntKind.i64.wrap (s1 + (1 : Int)) + (1 : Int)) +
 (1 : Int))) then
 some (-1 : Int)
 else
 if (0 : Int) ≤ s5 then
 (nth s0 s5.toNat).bind fun y =>
 bif
 !decide
 (y.snd.snd.fst.snd.snd.fst =
 IntKind.i64.wrap
 (IntKind.i64.wrap
 (IntKind.i64.wrap (IntKind.i64.wrap (s1 + (1 : Int)) + (1 : Int)) +
 (1 : Int)) +
 (1 : Int))) then
 some (-1 : Int)
 else
 if (0 : Int) ≤ s5 then
 (nth s0 s5.toNat).bind fun y =>
 bif
 !decide
 (y.snd.snd.fst.snd.snd.snd.fst =
 IntKind.i64.wrap
 (IntKind.i64.wrap
 (IntKind.i64.wrap
 (IntKind.i64.wrap
 (IntKind.i64.wrap (s1 + (1 : Int)) + (1 : Int)) +
 (1 : Int)) +
 (1 : Int)) +
 (1 : Int))) then
 some (-1 : Int)
 else
 if (0 : Int) ≤ s5 then
 (nth s0 s5.toNat).bind fun y =>
 bif
 !decide
 (y.snd.snd.snd.fst.fst =
 IntKind.i64.wrap
 (IntKind.i64.wrap
 (IntKind.i64.wrap
 (IntKind.i64.wrap
 (IntKind.i64.wrap
 (IntKind.i64.wrap (s1 + (1 : Int)) +
 (1 : Int)) +
 (1 : Int)) +
 (1 : Int)) +
 (1 : Int)) +
 (1 : Int))) then
 some (-1 : Int)
 else
 if (0 : Int) ≤ s5 then
 (nth s0 s5.toNat).bind fun y =>
 bif
 !decide
 (y.snd.snd.snd.fst.snd.fst =
 IntKind.i64.wrap
 (IntKind.i64.wrap
 (IntKind.i64.wrap
 (IntKind.i64.wrap
 (IntKind.i64.wrap
 (IntKind.i64.wrap
 (IntKind.i64.wrap (s1 + (1 : Int)) +
 (1 : Int)) +
 (1 : Int)) +
 (1 : Int)) +
 (1 : Int)) +
 (1 : Int)) +
 (1 : Int))) then
 some (-1 : Int)
 else
 if (0 : Int) ≤ s5 then
 (nth s0 s5.toNat).bind fun y =>
 bif
 !decide
 (y.snd.snd.snd.fst.snd.snd.fst =
 IntKind.i64.wrap
 (IntKind.i64.wrap
 (IntKind.i64.wrap
 (IntKind.i64.wrap
 (IntKind.i64.wrap
 (IntKind.i64.wrap
 (IntKind.i64.wrap
 (IntKind.i64.wrap
 (s1 + (1 : Int)) +
 (1 : Int)) +
 (1 : Int)) +
 (1 : Int)) +
 (1 : Int)) +
 (1 : Int)) +
 (1 : Int)) +
 (1 : Int))) then
 some (-1 : Int)
 else
 if (0 : Int) ≤ s5 then
 (nth s0 s5.toNat).bind fun y =>
 bif
 !decide
 (y.snd.snd.snd.fst.snd.snd.snd.fst =
 IntKind.i64.wrap
 (IntKind.i64.wrap
 (IntKind.i64.wrap
 (IntKind.i64.wrap
 (IntKind.i64.wrap
 (IntKind.i64.wrap
 (IntKind.i64.wrap
 (IntKind.i64.wrap
 (IntKind.i64.wrap
 (s1 +
 (1 : Int)) +
 (1 : Int)) +
 (1 : Int)) +
 (1 : Int)) +
 (1 : Int)) +
 (1 : Int)) +
 (1 : Int)) +
 (1 : Int)) +
 (1 : Int))) then
 some (-1 : Int)
 else
 if (0 : Int) ≤ s5 then
 (nth s0 s5.toNat).bind fun y =>
 bif
 !decide
 (y.snd.snd.snd.snd.fst.fst =
 IntKind.i64.wrap
 (IntKind.i64.wrap
 (IntKind.i64.wrap
 (IntKind.i64.wrap
 (IntKind.i64.wrap
 (IntKind.i64.wrap
 (IntKind.i64.wrap
 (IntKind.i64.wrap
 (IntKind.i64.wrap
 (IntKind.i64.wrap
 (s1 +
 (1 :
 Int)) +
 (1 :
 Int)) +
 (1 :
 Int)) +
 (1 : Int)) +
 (1 : Int)) +
 (1 : Int)) +
 (1 : Int)) +
 (1 : Int)) +
 (1 : Int)) +
 (1 : Int))) then
 some (-1 : Int)
 else
 if (0 : Int) ≤ s5 then
 (nth s0 s5.toNat).bind fun y =>
 bif
 !decide
 (y.snd.snd.snd.snd.fst.snd.fst =
 IntKind.i64.wrap
 (IntKind.i64.wrap
 (IntKind.i64.wrap
 (IntKind.i64.wrap
 (IntKind.i64.wrap
 (IntKind.i64.wrap
 (IntKind.i64.wrap
 (IntKind.i64.wrap
 (IntKind.i64.wrap
 (IntKind.i64.wrap
 (IntKind.i64.wrap
 (s1 +
 (1 :
 Int)) +
 (1 :
 Int)) +
 (1 :
 Int)) +
 (1 :
 Int)) +
 (1 :
 Int)) +
 (1 : Int)) +
 (1 : Int)) +
 (1 : Int)) +
 (1 : Int)) +
 (1 : Int)) +
 (1 : Int))) then
 some (-1 : Int)
 else
 if (0 : Int) ≤ s5 then
 (nth s0 s5.toNat).bind fun y =>
 bif
 !decide
 (y.snd.snd.snd.snd.fst.snd.snd.fst =
 IntKind.i64.wrap
 (IntKind.i64.wrap
 (IntKind.i64.wrap
 (IntKind.i64.wrap
 (IntKind.i64.wrap
 (IntKind.i64.wrap
 (IntKind.i64.wrap
 (IntKind.i64.wrap
 (IntKind.i64.wrap
 (IntKind.i64.wrap
 (IntKind.i64.wrap
 (IntKind.i64.wrap
 (s1 +
 (1 :
 Int)) +
 (1 :
 Int)) +
 (1 :
 Int)) +
 (1 :
 Int)) +
 (1 :
 Int)) +
 (1 :
 Int)) +
 (1 :
 Int)) +
 (1 :
 Int)) +
 (1 : Int)) +
 (1 : Int)) +
 (1 : Int)) +
 (1 : Int))) then
 some (-1 : Int)
 else
 if (0 : Int) ≤ s5 then
 (nth s0 s5.toNat).bind fun y =>
 bif
 !decide
 (y.snd.snd.snd.snd.fst.snd.snd.snd.fst =
 IntKind.i64.wrap
 (IntKind.i64.wrap
 (IntKind.i64.wrap
 (IntKind.i64.wrap
 (IntKind.i64.wrap
 (IntKind.i64.wrap
 (IntKind.i64.wrap
 (IntKind.i64.wrap
 (IntKind.i64.wrap
 (IntKind.i64.wrap
 (IntKind.i64.wrap
 (IntKind.i64.wrap
 (IntKind.i64.wrap
 (s1 +
 (1 :
 Int)) +
 (1 :
 Int)) +
 (1 :
 Int)) +
 (1 :
 Int)) +
 (1 :
 Int)) +
 (1 :
 Int)) +
 (1 :
 Int)) +
 (1 :
 Int)) +
 (1 :
 Int)) +
 (1 :
 Int)) +
 (1 : Int)) +
 (1 : Int)) +
 (1 : Int))) then
 some (-1 : Int)
 else
 if (0 : Int) ≤ s5 then
 (nth s0 s5.toNat).bind
 fun y =>
 (Q_l_heldIntS big
 y.snd.snd.snd.snd.snd.fst
 (IntKind.i64.wrap
 (IntKind.i64.wrap
 (IntKind.i64.wrap
 (IntKind.i64.wrap
 (IntKind.i64.wrap
 (IntKind.i64.wrap
 (IntKind.i64.wrap
 (IntKind.i64.wrap
 (IntKind.i64.wrap
 (IntKind.i64.wrap
 (IntKind.i64.wrap
 (IntKind.i64.wrap
 (IntKind.i64.wrap
 (IntKind.i64.wrap
 (s1 +
 (1 :
 Int)) +
 (1 :
 Int)) +
 (1 :
 Int)) +
 (1 :
 Int)) +
 (1 :
 Int)) +
 (1 :
 Int)) +
 (1 :
 Int)) +
 (1 :
 Int)) +
 (1 :
 Int)) +
 (1 :
 Int)) +
 (1 :
 Int)) +
 (1 :
 Int)) +
 (1 : Int)) +
 (1 : Int)))).bind
 fun y =>
 bif
 decide
 (y < (0 : Int)) then
 some (-1 : Int)
 else
 if (0 : Int) ≤ s5 then
 (nth s0 s5.toNat).bind
 fun y_1 =>
 (Q_l_heldCellS big
 y_1.snd.snd.snd.snd.snd.snd.fst
 y).bind
 fun y =>
 bif
 decide
 (y <
 (0 :
 Int)) then
 some (-1 : Int)
 else
 if
 (0 : Int) ≤
 s5 then
 (nth s0
 s5.toNat).bind
 fun y_2 =>
 (Q_l_heldIntS
 big
 y_2.snd.snd.snd.snd.snd.snd.snd.fst
 y).bind
 fun y =>
 bif
 decide
 (y <
 (0 :
 Int)) then
 some
 (-1 :
 Int)
 else
 if
 (0 :
 Int) ≤
 s5 then
 (nth
 s0
 s5.toNat).bind
 fun
 y_3 =>
 (Q_l_heldUndoS
 big
 y_3.snd.snd.snd.snd.snd.snd.snd.snd.fst
 y).bind
 fun
 y =>
 bif
 decide
 (y <
 (0 :
 Int)) then
 some
 (-1 :
 Int)
 else
 if
 (0 :
 Int) ≤
 s5 then
 (nth
 s0
 s5.toNat).bind
 fun
 y_4 =>
 (Q_l_heldVoteS
 big
 y_4.snd.snd.snd.snd.snd.snd.snd.snd.snd.fst
 y).bind
 fun
 y =>
 bif
 decide
 (y <
 (0 :
 Int)) then
 some
 (-1 :
 Int)
 else
 if
 (0 :
 Int) ≤
 s5 then
 (nth
 s0
 s5.toNat).bind
 fun
 y_5 =>
 (Q_l_heldLetterS
 big
 y_5.snd.snd.snd.snd.snd.snd.snd.snd.snd.snd.fst
 y).bind
 fun
 y =>
 bif
 decide
 (y <
 (0 :
 Int)) then
 some
 (-1 :
 Int)
 else
 if
 (0 :
 Int) ≤
 s5 then
 (nth
 s0
 s5.toNat).bind
 fun
 y_6 =>
 bif
 !decide
 (y_6.snd.snd.snd.snd.snd.snd.snd.snd.snd.snd.snd.fst =
 y) then
 some
 (-1 :
 Int)
 else
 R_l_heldPeerS_2
 n
 s0
 (IntKind.i64.wrap
 (y +
 (1 :
 Int)))
 (IntKind.i64.wrap
 (s5 +
 (1 :
 Int)))
 else
 none
 else
 none
 else
 none
 else
 none
 else none
 else none
 else none
 else none
 else none
 else none
 else none
 else none
 else none
 else none
 else none
 else none
 else none
 else none
 else none
 else none
 else none
 else some s1 := by kernel_rfl

end Go.Sx.Try

set_option maxRecDepth 100000
namespace Go.Sx.Try
open Go Go.Sx Go.Proofs

noncomputable def l_l_markCluster : List (Nat × Con) := [(64, c_l_markBlockS), (116, c_l_markPeerS), (47, c_l_markLetterS), (79, c_l_markVoteS), (73, c_l_markCmdS)]
theorem l_l_markCluster_ok : ∀ q ∈ l_l_markCluster, ConOk Try.prog q.1 q.2 := Try.cons_cons c_l_markBlockS_ok (Try.cons_cons c_l_markPeerS_ok (Try.cons_cons c_l_markLetterS_ok (Try.cons_cons c_l_markVoteS_ok (Try.cons_cons c_l_markCmdS_ok (Try.cons_nil)))))
def kp_l_markCluster : KP := []
noncomputable def q_l_markCluster (n : Nat) (x : AP.denL [.mo uICluster, .ro tInt]) := evX (false, false, [2, 5, 9, 13, 17, 21]) l_l_markCluster kp_l_markCluster [none] Try.f40 (shO (shV tInt) [.mo uICluster]) n (AP.encL [.mo uICluster, .ro tInt] x)
noncomputable def c_l_markCluster : Con := apS [.mo uICluster, .ro tInt] true (shO (shV tInt) [.mo uICluster]) (q_l_markCluster big)
theorem c_l_markCluster_ok : ConOk Try.prog 40 c_l_markCluster := apS_ok ⟨Try.f40, by kernel_rfl, rfl, by decide⟩ fun _ _ h => evX_ok l_l_markCluster_ok (f := Try.f40) (by kernel_rfl) rfl (by kernel_rfl) (by kernel_rfl) big h
noncomputable def Q_l_markCluster (n : Nat) (a0 : DICluster) (a1 : Int) : Option (Int × (Unit × Unit × Unit × (List DIBlock) × (List DIPeer) × (List DILetter) × (List DIVote) × (List DICmd) × Unit) × Unit) := q_l_markCluster n (a0, a1, ())
theorem Q_l_markCluster_eq (n : Nat) (a0 : DICluster) (a1 : Int) : Q_l_markCluster n a0 a1 =
    (Q_l_markBlockS big a0.snd.snd.snd.fst a1).bind fun y =>
 (Q_l_markPeerS big a0.snd.snd.snd.snd.fst y.fst).bind fun y_1 =>
 (Q_l_markLetterS big a0.snd.snd.snd.snd.snd.fst y_1.fst).bind fun y_2 =>
 (Q_l_markVoteS big a0.snd.snd.snd.snd.snd.snd.fst y_2.fst).bind fun y_3 =>
 (Q_l_markCmdS big a0.snd.snd.snd.snd.snd.snd.snd.fst y_3.fst).bind fun y_4 =>
 some
 (y_4.fst, (PUnit.unit, PUnit.unit, PUnit.unit, y.snd.fst, y_1.snd.fst, y_2.snd.fst, y_3.snd.fst, y_4.snd),
 PUnit.unit) := by kernel_rfl

end Go.Sx.Try

set_option maxRecDepth 100000
namespace Go.Sx.Try
open Go Go.Sx Go.Proofs

noncomputable def l_l_heldCluster : List (Nat × Con) := [(74, c_l_heldBlockS), (117, c_l_heldPeerS), (83, c_l_heldLetterS), (82, c_l_heldVoteS), (118, c_l_heldCmdS)]
theorem l_l_heldCluster_ok : ∀ q ∈ l_l_heldCluster, ConOk Try.prog q.1 q.2 := Try.cons_cons c_l_heldBlockS_ok (Try.cons_cons c_l_heldPeerS_ok (Try.cons_cons c_l_heldLetterS_ok (Try.cons_cons c_l_heldVoteS_ok (Try.cons_cons c_l_heldCmdS_ok (Try.cons_nil)))))
def kp_l_heldCluster : KP := []
noncomputable def q_l_heldCluster (n : Nat) (x : Args [tICluster, tInt]) := evX (false, false, [2, 5, 11, 17, 23, 29]) l_l_heldCluster kp_l_heldCluster [none] Try.f41 (shV tInt) n (encA [tICluster, tInt] x)
noncomputable def c_l_heldCluster : Con := roS [tICluster, tInt] true (shV tInt) (q_l_heldCluster big)
theorem c_l_heldCluster_ok : ConOk Try.prog 41 c_l_heldCluster := roS_ok ⟨Try.f41, by kernel_rfl, rfl, by decide⟩ fun _ _ h => evX_ok l_l_heldCluster_ok (f := Try.f41) (by kernel_rfl) rfl (by kernel_rfl) (by kernel_rfl) big h
noncomputable def Q_l_heldCluster (n : Nat) (a0 : DICluster) (a1 : Int) : Option Int := q_l_heldCluster n (a0, a1, ())
theorem Q_l_heldCluster_eq (n : Nat) (a0 : DICluster) (a1 : Int) : Q_l_heldCluster n a0 a1 =
    (Q_l_heldBlockS big a0.snd.snd.snd.fst a1).bind fun y =>
 bif decide (y < (0 : Int)) then some (-1 : Int)
 else
 (Q_l_heldPeerS big a0.snd.snd.snd.snd.fst y).bind fun y =>
 bif decide (y < (0 : Int)) then some (-1 : Int)
 else
 (Q_l_heldLetterS big a0.snd.snd.snd.snd.snd.fst y).bind fun y =>
 bif decide (y < (0 : Int)) then some (-1 : Int)
 else
 (Q_l_heldVoteS big a0.snd.snd.snd.snd.snd.snd.fst y).bind fun y =>
 bif decide (y < (0 : Int)) then some (-1 : Int)
 else
 (Q_l_heldCmdS big a0.snd.snd.snd.snd.snd.snd.snd.fst y).bind fun y =>
 bif decide (y < (0 : Int)) then some (-1 : Int) else some y := by kernel_rfl

end Go.Sx.Try

set_option maxRecDepth 100000
namespace Go.Sx.Try
open Go Go.Sx Go.Proofs

noncomputable def l_i_in : List (Nat × Con) := []
theorem l_i_in_ok : ∀ q ∈ l_i_in, ConOk Try.prog q.1 q.2 := Try.cons_nil
def kp_i_in : KP := []
noncomputable def q_i_in (n : Nat) (x : Args [tInt, tInt, tInt]) := evX (false, false, []) l_i_in kp_i_in [none] Try.f98 (shV tBool) n (encA [tInt, tInt, tInt] x)
noncomputable def c_i_in : Con := roS [tInt, tInt, tInt] true (shV tBool) (q_i_in big)
theorem c_i_in_ok : ConOk Try.prog 98 c_i_in := roS_ok ⟨Try.f98, by kernel_rfl, rfl, by decide⟩ fun _ _ h => evX_ok l_i_in_ok (f := Try.f98) (by kernel_rfl) rfl (by kernel_rfl) (by kernel_rfl) big h
noncomputable def Q_i_in (n : Nat) (a0 : Int) (a1 : Int) (a2 : Int) : Option Bool := q_i_in n (a0, a1, a2, ())
theorem Q_i_in_eq (n : Nat) (a0 : Int) (a1 : Int) (a2 : Int) : Q_i_in n a0 a1 a2 =
    bif decide (a1 ≤ a0) then some (decide (a0 ≤ a2)) else some false := by kernel_rfl

end Go.Sx.Try

set_option maxRecDepth 100000
namespace Go.Sx.Try
open Go Go.Sx Go.Proofs

noncomputable def l_i_KeyOk : List (Nat × Con) := [(98, c_i_in)]
theorem l_i_KeyOk_ok : ∀ q ∈ l_i_KeyOk, ConOk Try.prog q.1 q.2 := Try.cons_cons c_i_in_ok (Try.cons_nil)
abbrev k_i_KeyOk_2 : List Keep × List BK := ([.ro tString, .drop, .drop, .drop, .drop, .ro tInt64, .ro tInt64, .drop, .drop, .drop, .drop, .drop, .drop, .drop, .drop, .drop, .drop, .drop, .drop, .drop, .drop, .drop, .drop], [])
def kp_i_KeyOk : KP := [(2, k_i_KeyOk_2)]
noncomputable def q_i_KeyOk (n : Nat) (x : Args [tString]) := evX (false, false, []) l_i_KeyOk kp_i_KeyOk [none] Try.f164 (shV tBool) n (encA [tString] x)
noncomputable def c_i_KeyOk : Con := roS [tString] true (shV tBool) (q_i_KeyOk big)
theorem c_i_KeyOk_ok : ConOk Try.prog 164 c_i_KeyOk := roS_ok ⟨Try.f164, by kernel_rfl, rfl, by decide⟩ fun _ _ h => evX_ok l_i_KeyOk_ok (f := Try.f164) (by kernel_rfl) rfl (by kernel_rfl) (by kernel_rfl) big h
noncomputable def Q_i_KeyOk (n : Nat) (a0 : ByteArray) : Option Bool := q_i_KeyOk n (a0, ())
noncomputable def r_i_KeyOk_2 (n : Nat) (x : KD k_i_KeyOk_2.1) (y : BD k_i_KeyOk_2.2) := rounds (env (false, false, []) l_i_KeyOk) kp_i_KeyOk (body Try.f164) (finX (false, false, []) l_i_KeyOk [none] Try.f164 (shV tBool) [.val tString (zeroD tString)]) n 2 k_i_KeyOk_2 x y
noncomputable def R_i_KeyOk_2 (n : Nat) (s0 : ByteArray) (s5 : Int) (s6 : Int) : Option Bool := r_i_KeyOk_2 n (s0, s5, s6, ()) ()
theorem Q_i_KeyOk_eq (n : Nat) (a0 : ByteArray) : Q_i_KeyOk n a0 =
    R_i_KeyOk_2 n a0 (↑a0.size : Int) (0 : Int) := by kernel_rfl
theorem R_i_KeyOk_2_eq (n : Nat) (s0 : ByteArray) (s5 : Int) (s6 : Int) : R_i_KeyOk_2 (n + 1) s0 s5 s6 =
    bif decide (s6 < s5) then
 if (0 : Int) ≤ s6 then
 (nth s0.data.toList s6.toNat).bind fun y =>
 bif decide ((↑y.toNat : Int) < (97 : Int)) then some false
 else
 if (0 : Int) ≤ s6 then
 (nth s0.data.toList s6.toNat).bind fun y =>
 bif decide ((122 : Int) < (↑y.toNat : Int)) then some false
 else R_i_KeyOk_2 n s0 s5 (IntKind.i64.wrap (s6 + (1 : Int)))
 else none
 else none
 else (Q_i_in big (↑s0.size : Int) (1 : Int) (3 : Int)).bind fun y => some y := by kernel_rfl

end Go.Sx.Try

set_option maxRecDepth 100000
namespace Go.Sx.Try
open Go Go.Sx Go.Proofs

noncomputable def l_i_isNum : List (Nat × Con) := [(98, c_i_in)]
theorem l_i_isNum_ok : ∀ q ∈ l_i_isNum, ConOk Try.prog q.1 q.2 := Try.cons_cons c_i_in_ok (Try.cons_nil)
def kp_i_isNum : KP := []
noncomputable def q_i_isNum (n : Nat) (x : Args [tInt]) := evX (false, false, []) l_i_isNum kp_i_isNum [none] Try.f165 (shV tBool) n (encA [tInt] x)
noncomputable def c_i_isNum : Con := roS [tInt] true (shV tBool) (q_i_isNum big)
theorem c_i_isNum_ok : ConOk Try.prog 165 c_i_isNum := roS_ok ⟨Try.f165, by kernel_rfl, rfl, by decide⟩ fun _ _ h => evX_ok l_i_isNum_ok (f := Try.f165) (by kernel_rfl) rfl (by kernel_rfl) (by kernel_rfl) big h
noncomputable def Q_i_isNum (n : Nat) (a0 : Int) : Option Bool := q_i_isNum n (a0, ())
theorem Q_i_isNum_eq (n : Nat) (a0 : Int) : Q_i_isNum n a0 =
    (Q_i_in big a0 (0 : Int) (1000000000 : Int)).bind fun y => some y := by kernel_rfl

end Go.Sx.Try

set_option maxRecDepth 100000
namespace Go.Sx.Try
open Go Go.Sx Go.Proofs

noncomputable def l_i_cellsForm : List (Nat × Con) := [(164, c_i_KeyOk), (165, c_i_isNum)]
theorem l_i_cellsForm_ok : ∀ q ∈ l_i_cellsForm, ConOk Try.prog q.1 q.2 := Try.cons_cons c_i_KeyOk_ok (Try.cons_cons c_i_isNum_ok (Try.cons_nil))
abbrev k_i_cellsForm_2 : List Keep × List BK := ([.ro tSlICell, .drop, .drop, .drop, .drop, .ro tSlICell, .ro tInt64, .ro tInt64, .drop, .drop, .drop, .drop, .drop, .drop, .drop, .drop, .drop, .drop, .drop, .drop, .drop, .drop, .drop, .drop, .drop, .drop, .drop, .drop, .drop, .drop, .drop, .drop, .drop, .drop, .drop, .drop, .drop, .drop], [])
def kp_i_cellsForm : KP := [(2, k_i_cellsForm_2)]
noncomputable def q_i_cellsForm (n : Nat) (x : Args [tSlICell]) := evX (false, false, [4, 12, 17, 32]) l_i_cellsForm kp_i_cellsForm [none] Try.f190 (shV tBool) n (encA [tSlICell] x)
noncomputable def c_i_cellsForm : Con := roS [tSlICell] true (shV tBool) (q_i_cellsForm big)
theorem c_i_cellsForm_ok : ConOk Try.prog 190 c_i_cellsForm := roS_ok ⟨Try.f190, by kernel_rfl, rfl, by decide⟩ fun _ _ h => evX_ok l_i_cellsForm_ok (f := Try.f190) (by kernel_rfl) rfl (by kernel_rfl) (by kernel_rfl) big h
noncomputable def Q_i_cellsForm (n : Nat) (a0 : DSlICell) : Option Bool := q_i_cellsForm n (a0, ())
noncomputable def r_i_cellsForm_2 (n : Nat) (x : KD k_i_cellsForm_2.1) (y : BD k_i_cellsForm_2.2) := rounds (env (false, false, [4, 12, 17, 32]) l_i_cellsForm) kp_i_cellsForm (body Try.f190) (finX (false, false, [4, 12, 17, 32]) l_i_cellsForm [none] Try.f190 (shV tBool) [.val tSlICell (zeroD tSlICell)]) n 2 k_i_cellsForm_2 x y
noncomputable def R_i_cellsForm_2 (n : Nat) (s0 : DSlICell) (s5 : DSlICell) (s6 : Int) (s7 : Int) : Option Bool := r_i_cellsForm_2 n (s0, s5, s6, s7, ()) ()
theorem Q_i_cellsForm_eq (n : Nat) (a0 : DSlICell) : Q_i_cellsForm n a0 =
    R_i_cellsForm_2 n a0 a0 (↑(List.length a0) : Int) (0 : Int) := by kernel_rfl
theorem R_i_cellsForm_2_eq (n : Nat) (s0 : DSlICell) (s5 : DSlICell) (s6 : Int) (s7 : Int) : R_i_cellsForm_2 (n + 1) s0 s5 s6 s7 =
    bif decide (s7 < s6) then
 if (0 : Int) ≤ s7 then
 (nth s5 s7.toNat).bind fun y =>
 (Q_i_KeyOk big y.fst).bind fun y_1 =>
 bif !y_1 then some false
 else
 (Q_i_isNum big y.snd.fst).bind fun y_2 =>
 bif !y_2 then some false
 else
 bif decide ((0 : Int) < s7) then
 if (0 : Int) ≤ IntKind.i64.wrap (s7 - (1 : Int)) then
 (nth s0 (IntKind.i64.wrap (s7 - (1 : Int))).toNat).bind fun y_3 =>
 bif !Op.bytesLess (ByteArray.toList y_3.fst) (ByteArray.toList y.fst) then some false
 else R_i_cellsForm_2 n s0 s5 s6 (IntKind.i64.wrap (s7 + (1 : Int)))
 else none
 else R_i_cellsForm_2 n s0 s5 s6 (IntKind.i64.wrap (s7 + (1 : Int)))
 else none
 else some true := by kernel_rfl

end Go.Sx.Try

set_option maxRecDepth 100000
namespace Go.Sx.Try
open Go Go.Sx Go.Proofs

noncomputable def l_i_CellsOk : List (Nat × Con) := [(190, c_i_cellsForm)]
theorem l_i_CellsOk_ok : ∀ q ∈ l_i_CellsOk, ConOk Try.prog q.1 q.2 := Try.cons_cons c_i_cellsForm_ok (Try.cons_nil)
def kp_i_CellsOk : KP := []
noncomputable def q_i_CellsOk (n : Nat) (x : Args [tSlICell]) := evX (false, false, []) l_i_CellsOk kp_i_CellsOk [none] Try.f181 (shV tBool) n (encA [tSlICell] x)
noncomputable def c_i_CellsOk : Con := roS [tSlICell] true (shV tBool) (q_i_CellsOk big)
theorem c_i_CellsOk_ok : ConOk Try.prog 181 c_i_CellsOk := roS_ok ⟨Try.f181, by kernel_rfl, rfl, by decide⟩ fun _ _ h => evX_ok l_i_CellsOk_ok (f := Try.f181) (by kernel_rfl) rfl (by kernel_rfl) (by kernel_rfl) big h
noncomputable def Q_i_CellsOk (n : Nat) (a0 : DSlICell) : Option Bool := q_i_CellsOk n (a0, ())
theorem Q_i_CellsOk_eq (n : Nat) (a0 : DSlICell) : Q_i_CellsOk n a0 =
    bif decide ((↑(List.length a0) : Int) ≤ (12 : Int)) then (Q_i_cellsForm big a0).bind fun y => some y
 else some false := by kernel_rfl

end Go.Sx.Try

set_option maxRecDepth 100000
namespace Go.Sx.Try
open Go Go.Sx Go.Proofs

noncomputable def l_i_CmdOk : List (Nat × Con) := [(98, c_i_in), (164, c_i_KeyOk), (165, c_i_isNum)]
theorem l_i_CmdOk_ok : ∀ q ∈ l_i_CmdOk, ConOk Try.prog q.1 q.2 := Try.cons_cons c_i_in_ok (Try.cons_cons c_i_KeyOk_ok (Try.cons_cons c_i_isNum_ok (Try.cons_nil)))
def kp_i_CmdOk : KP := []
noncomputable def q_i_CmdOk (n : Nat) (x : Args [tICmd]) := evX (false, false, [1, 3, 7, 12]) l_i_CmdOk kp_i_CmdOk [none] Try.f115 (shV tBool) n (encA [tICmd] x)
noncomputable def c_i_CmdOk : Con := roS [tICmd] true (shV tBool) (q_i_CmdOk big)
theorem c_i_CmdOk_ok : ConOk Try.prog 115 c_i_CmdOk := roS_ok ⟨Try.f115, by kernel_rfl, rfl, by decide⟩ fun _ _ h => evX_ok l_i_CmdOk_ok (f := Try.f115) (by kernel_rfl) rfl (by kernel_rfl) (by kernel_rfl) big h
noncomputable def Q_i_CmdOk (n : Nat) (a0 : DICmd) : Option Bool := q_i_CmdOk n (a0, ())
theorem Q_i_CmdOk_eq (n : Nat) (a0 : DICmd) : Q_i_CmdOk n a0 =
    (Q_i_in big a0.fst (1 : Int) (3 : Int)).bind fun y =>
 bif y then
 (Q_i_KeyOk big a0.snd.fst).bind fun y =>
 bif y then (Q_i_isNum big a0.snd.snd.fst).bind fun y => some y else some false
 else some false := by kernel_rfl

end Go.Sx.Try

set_option maxRecDepth 100000
namespace Go.Sx.Try
open Go Go.Sx Go.Proofs

noncomputable def l_i_CellAt_1 : List (Nat × Con) := []
theorem l_i_CellAt_1_ok : ∀ q ∈ l_i_CellAt_1, ConOk Try.prog q.1 q.2 := Try.cons_nil
def kp_i_CellAt_1 : KP := []
noncomputable def q_i_CellAt_1 (n : Nat) (x : AP.denL [.ro tICell, .mr tString]) := evX (false, false, [1, 2, 4]) l_i_CellAt_1 kp_i_CellAt_1 [none] Try.f192 (shO (shV tBool) [.mr tString]) n (AP.encL [.ro tICell, .mr tString] x)
noncomputable def c_i_CellAt_1 : Con := apS [.ro tICell, .mr tString] true (shO (shV tBool) [.mr tString]) (q_i_CellAt_1 big)
theorem c_i_CellAt_1_ok : ConOk Try.prog 192 c_i_CellAt_1 := apS_ok ⟨Try.f192, by kernel_rfl, rfl, by decide⟩ fun _ _ h => evX_ok l_i_CellAt_1_ok (f := Try.f192) (by kernel_rfl) rfl (by kernel_rfl) (by kernel_rfl) big h
noncomputable def Q_i_CellAt_1 (n : Nat) (a0 : DICell) (a1 : ByteArray) : Option (Bool × ByteArray × Unit) := q_i_CellAt_1 n (a0, a1, ())
theorem Q_i_CellAt_1_eq (n : Nat) (a0 : DICell) (a1 : ByteArray) : Q_i_CellAt_1 n a0 a1 =
    some (decide (a0.fst = a1), a1, PUnit.unit) := by kernel_rfl

end Go.Sx.Try

set_option maxRecDepth 100000
namespace Go.Sx.Try
open Go Go.Sx Go.Proofs

noncomputable def l_g_IndexFunc_ICell__i_CellAt_1 : List (Nat × Con) := [(192, c_i_CellAt_1)]
theorem l_g_IndexFunc_ICell__i_CellAt_1_ok : ∀ q ∈ l_g_IndexFunc_ICell__i_CellAt_1, ConOk Try.prog q.1 q.2 := Try.cons_cons c_i_CellAt_1_ok (Try.cons_nil)
abbrev k_g_IndexFunc_ICell__i_CellAt_1_2 : List Keep × List BK := ([.ro tSlICell, .is (.fn 192 [.ptr 0 0]), .drop, .drop, .drop, .drop, .drop, .ro tInt64, .ro tInt64, .drop, .drop, .drop, .drop, .drop, .drop, .drop, .drop, .drop, .drop], [.vars [.ro tString]])
def kp_g_IndexFunc_ICell__i_CellAt_1 : KP := [(2, k_g_IndexFunc_ICell__i_CellAt_1_2)]
noncomputable def q_g_IndexFunc_ICell__i_CellAt_1 (n : Nat) (x : AP.denL [.ro tSlICell, .fn 192 [tString]]) := evX (false, false, []) l_g_IndexFunc_ICell__i_CellAt_1 kp_g_IndexFunc_ICell__i_CellAt_1 [none] Try.f191 (shO (shV tInt) [.fn 192 [tString]]) n (AP.encL [.ro tSlICell, .fn 192 [tString]] x)
noncomputable def c_g_IndexFunc_ICell__i_CellAt_1 : Con := apS [.ro tSlICell, .fn 192 [tString]] true (shO (shV tInt) [.fn 192 [tString]]) (q_g_IndexFunc_ICell__i_CellAt_1 big)
theorem c_g_IndexFunc_ICell__i_CellAt_1_ok : ConOk Try.prog 191 c_g_IndexFunc_ICell__i_CellAt_1 := apS_ok ⟨Try.f191, by kernel_rfl, rfl, by decide⟩ fun _ _ h => evX_ok l_g_IndexFunc_ICell__i_CellAt_1_ok (f := Try.f191) (by kernel_rfl) rfl (by kernel_rfl) (by kernel_rfl) big h
noncomputable def Q_g_IndexFunc_ICell__i_CellAt_1 (n : Nat) (a0 : DSlICell) (a1 : (ByteArray × Unit)) : Option (Int × (ByteArray × Unit) × Unit) := q_g_IndexFunc_ICell__i_CellAt_1 n (a0, a1, ())
noncomputable def r_g_IndexFunc_ICell__i_CellAt_1_2 (n : Nat) (x : KD k_g_IndexFunc_ICell__i_CellAt_1_2.1) (y : BD k_g_IndexFunc_ICell__i_CellAt_1_2.2) := rounds (env (false, false, []) l_g_IndexFunc_ICell__i_CellAt_1) kp_g_IndexFunc_ICell__i_CellAt_1 (body Try.f191) (finX (false, false, []) l_g_IndexFunc_ICell__i_CellAt_1 [none] Try.f191 (shO (shV tInt) [.fn 192 [tString]]) [AP.enc (.ro tSlICell) (zeroD tSlICell), AP.enc (.fn 192 [tString]) (zeroD tString, ())]) n 2 k_g_IndexFunc_ICell__i_CellAt_1_2 x y
noncomputable def R_g_IndexFunc_ICell__i_CellAt_1_2 (n : Nat) (s0 : DSlICell) (s7 : Int) (s8 : Int) (b0_0 : ByteArray) : Option (Int × (ByteArray × Unit) × Unit) := r_g_IndexFunc_ICell__i_CellAt_1_2 n (s0, s7, s8, ()) ((b0_0, ()), ())
theorem Q_g_IndexFunc_ICell__i_CellAt_1_eq (n : Nat) (a0 : DSlICell) (a1 : (ByteArray × Unit)) : Q_g_IndexFunc_ICell__i_CellAt_1 n a0 a1 =
    R_g_IndexFunc_ICell__i_CellAt_1_2 n a0 (↑(List.length a0) : Int) (0 : Int) a1.fst := by kernel_rfl
theorem R_g_IndexFunc_ICell__i_CellAt_1_2_eq (n : Nat) (s0 : DSlICell) (s7 : Int) (s8 : Int) (b0_0 : ByteArray) : R_g_IndexFunc_ICell__i_CellAt_1_2 (n + 1) s0 s7 s8 b0_0 =
    bif decide (s8 < s7) then
 if (0 : Int) ≤ s8 then
 (nth s0 s8.toNat).bind fun y =>
 bif decide (y.fst = b0_0) then some (s8, (b0_0, PUnit.unit), PUnit.unit)
 else R_g_IndexFunc_ICell__i_CellAt_1_2 n s0 s7 (IntKind.i64.wrap (s8 + (1 : Int))) b0_0
 else none
 else some ((-1 : Int), (b0_0, PUnit.unit), PUnit.unit) := by kernel_rfl

end Go.Sx.Try

set_option maxRecDepth 100000
namespace Go.Sx.Try
open Go Go.Sx Go.Proofs

noncomputable def l_i_CellAt : List (Nat × Con) := [(191, c_g_IndexFunc_ICell__i_CellAt_1)]
theorem l_i_CellAt_ok : ∀ q ∈ l_i_CellAt, ConOk Try.prog q.1 q.2 := Try.cons_cons c_g_IndexFunc_ICell__i_CellAt_1_ok (Try.cons_nil)
def kp_i_CellAt : KP := []
noncomputable def q_i_CellAt (n : Nat) (x : Args [tSlICell, tString]) := evX (false, false, []) l_i_CellAt kp_i_CellAt [none] Try.f182 (shV tInt) n (encA [tSlICell, tString] x)
noncomputable def c_i_CellAt : Con := roS [tSlICell, tString] true (shV tInt) (q_i_CellAt big)
theorem c_i_CellAt_ok : ConOk Try.prog 182 c_i_CellAt := roS_ok ⟨Try.f182, by kernel_rfl, rfl, by decide⟩ fun _ _ h => evX_ok l_i_CellAt_ok (f := Try.f182) (by kernel_rfl) rfl (by kernel_rfl) (by kernel_rfl) big h
noncomputable def Q_i_CellAt (n : Nat) (a0 : DSlICell) (a1 : ByteArray) : Option Int := q_i_CellAt n (a0, a1, ())
theorem Q_i_CellAt_eq (n : Nat) (a0 : DSlICell) (a1 : ByteArray) : Q_i_CellAt n a0 a1 =
    (Q_g_IndexFunc_ICell__i_CellAt_1 big a0 (a1, ())).bind fun y => some y.fst := by kernel_rfl

end Go.Sx.Try

set_option maxRecDepth 100000
namespace Go.Sx.Try
section
open Go Go.Proofs Go.Shelf Go.RowKit Go.Lib

theorem run_copy {P : Program} {t t' e ty : TypeId} {inf : TypeInfo} (ht : P.underlying t = some (.slice e)) (hi : P.info? e = some inf) {A : Addr} {dl dc : Nat} {src : Value} {m k : Nat} {cells : List Value} {w w' : World}
    (hl : (Builtin.lenOf src).run P w = .ok m w) (hk : Nat.min m dl = k) (hc : (Builtin.firstCells inf.size k src).run P w = .ok cells.toArray w) (hs : (storeCells A cells).run P w = .ok () w') :
    (Builtin.copy_ #[t, t'] ty #[.slice (some A) dl dc, src]).run P w = .ok (goInt k) w' := by
  unfold Builtin.copy_
  simp only [List.getElem?_toArray, List.getElem?_cons_zero, List.getElem?_cons_succ]
  rw [Sx.run_bind_ok (Sx.run_underlying ht)]
  dsimp only
  rw [Sx.run_bind_ok hl, hk, Sx.run_bind_ok (Sx.run_sizeOf hi), Sx.run_bind_ok hc]
  dsimp only
  rw [Sx.run_bind_ok hs]
  rfl

theorem t27 : Try.prog.underlying 27 = some (.slice 161) := by kernel_rfl
theorem t3 : Try.prog.underlying 3 = some (.int .i64) := by kernel_rfl
theorem t4 : Try.prog.underlying 4 = some .bool := by kernel_rfl
theorem i161 : (Try.prog.info? 161).map (fun i => (i.size, i.bytes)) = some (2, 24) := by kernel_rfl
theorem fInsA : Try.prog.funcs[193]? = some Try.f193 := by kernel_rfl
theorem nIns : Try.f193.ntmps = 95 := by kernel_rfl
theorem fOvA : Try.prog.funcs[196]? = some Try.f196 := by kernel_rfl

set_option maxHeartbeats 4000000 in
theorem ins_shift (b off n c i vb voff vc : Nat) (w W1 W2 : World) (hi : i < n) (hlim : n + 1 ≤ 4294967296) (hroom : n + 1 ≤ c)
    (hov : ∀ lb cb, (callFunc 196 #[.slice (some ⟨vb, voff, none⟩) 1 vc, .slice (some ⟨b, off + (i + 1) * 2, none⟩) lb cb]).run Try.prog w = .ok (.value (.bool false)) w)
    (hcp1 : ∀ ty dc sc, (Builtin.copy_ #[27, 27] ty #[.slice (some ⟨b, off + (i + 1) * 2, none⟩) (n - i) dc, .slice (some ⟨b, off + i * 2, none⟩) (n + 1 - i) sc]).run Try.prog w.drew = .ok (goInt ((n - i : Nat) : Int)) W1)
    (hcp2 : ∀ ty dc, (Builtin.copy_ #[27, 27] ty #[.slice (some ⟨b, off + i * 2, none⟩) (n + 1 - i) dc, .slice (some ⟨vb, voff, none⟩) 1 vc]).run Try.prog W1 = .ok (goInt 1) W2) :
    Calls Try.prog 193 #[.slice (some ⟨b, off, none⟩) n c, .int .i64 i, .slice (some ⟨vb, voff, none⟩) 1 vc] w fun e w' =>
      e = .returned (.slice (some ⟨b, off, none⟩) (n + 1) c) ∧ w' = W2 := by
  have u27 : ∀ w, (underlying 27).run Try.prog w = .ok (.slice 161) w := fun w => Sx.run_underlying t27
  have u3 : ∀ w, (underlying 3).run Try.prog w = .ok (.int .i64) w := fun w => Sx.run_underlying t3
  have u4 : ∀ w, (underlying 4).run Try.prog w = .ok .bool w := fun w => Sx.run_underlying t4
  have z161 : ∀ w, (Go.sizeOf 161).run Try.prog w = .ok 2 w := by
    intro w
    obtain ⟨inf, h1, h2⟩ : ∃ inf, Try.prog.info? 161 = some inf ∧ inf.size = 2 := by
      have := i161
      cases h : Try.prog.info? 161 with
      | none => rw [h] at this; cases this
      | some x => rw [h] at this; simp at this; exact ⟨x, rfl, this.1⟩
    rw [Sx.run_sizeOf h1, h2]
  have t27' := t27
  have mixed : Try.prog.follows .mixedOrders = true := by kernel_rfl
  have hz2 : ¬ ((i : Int) = (n : Int)) := by omega
  have hw1 : IntKind.i64.wrap ((i : Int) + 1) = (i : Int) + 1 := by rw [IntKind.wrap_i64]; omega
  have hb1 : (0 : Int) ≤ (i : Int) + 1 := by omega
  have hin : i ≤ n := by omega
  have htn : ((i : Int) + 1).toNat = i + 1 := by omega
  have hb2 : ¬ (c = i + 1) := by omega
  have hb3 : (i : Int) ≤ (n : Int) + 1 := by omega
  have hb4 : ¬ (c = i) := by omega
  go_enter fInsA, nIns
  go_wp2_with (simp only [hov])
  go_region_law_o (refine step_copy_runI rfl _ _ 27 27 rfl _ _ (by simp [Act.eval, Act.put]) (by simp [Act.eval, Act.put]) (hcp1 _ _ _) ?_)
  go_wp2_with (at_builtin; refine wpList_copy_runI _ rfl _ _ 27 27 rfl _ _ rfl rfl (hcp2 _ _) ?_)
  go_ret
  exact ⟨rfl, rfl⟩

set_option maxHeartbeats 4000000 in
theorem ins_grow (b off n c i vb voff vc nb G : Nat) (w W1 W2 W3 : World) (hi : i < n) (hlim : n + 1 ≤ 4294967296) (hnc : n ≤ c) (hroom : c < n + 1) (hG : n + 1 ≤ G)
    (hap : ∀ ty, (Builtin.append_ #[27, 3] ty #[.slice (some ⟨b, off, none⟩) i c, .int .i64 ((n : Int) + 1 - (i : Int))]).run Try.prog w = .ok (.slice (some ⟨nb, 0, none⟩) (n + 1) G) W1)
    (hcA : ∀ ty dc, (Builtin.copy_ #[27, 27] ty #[.slice (some ⟨nb, i * 2, none⟩) (n + 1 - i) dc, .slice (some ⟨vb, voff, none⟩) 1 vc]).run Try.prog W1 = .ok (goInt 1) W2)
    (hcB : ∀ ty dc sc, (Builtin.copy_ #[27, 27] ty #[.slice (some ⟨nb, (i + 1) * 2, none⟩) (n - i) dc, .slice (some ⟨b, off + i * 2, none⟩) (n - i) sc]).run Try.prog W2.drew = .ok (goInt ((n - i : Nat) : Int)) W3) :
    Calls Try.prog 193 #[.slice (some ⟨b, off, none⟩) n c, .int .i64 i, .slice (some ⟨vb, voff, none⟩) 1 vc] w fun e w' =>
      e = .returned (.slice (some ⟨nb, 0, none⟩) (n + 1) G) ∧ w' = W3 := by
  have u27 : ∀ w, (underlying 27).run Try.prog w = .ok (.slice 161) w := fun w => Sx.run_underlying t27
  have u3 : ∀ w, (underlying 3).run Try.prog w = .ok (.int .i64) w := fun w => Sx.run_underlying t3
  have u4 : ∀ w, (underlying 4).run Try.prog w = .ok .bool w := fun w => Sx.run_underlying t4
  have z161 : ∀ w, (Go.sizeOf 161).run Try.prog w = .ok 2 w := by
    intro w
    obtain ⟨inf, h1, h2⟩ : ∃ inf, Try.prog.info? 161 = some inf ∧ inf.size = 2 := by
      have := i161
      cases h : Try.prog.info? 161 with
      | none => rw [h] at this; cases this
      | some x => rw [h] at this; simp at this; exact ⟨x, rfl, this.1⟩
    rw [Sx.run_sizeOf h1, h2]
  have t27' := t27
  have mixed : Try.prog.follows .mixedOrders = true := by kernel_rfl
  have hz2 : ¬ ((i : Int) = (n : Int)) := by omega
  have hz3 : (c : Int) < (n : Int) + 1 := by omega
  have hw1 : IntKind.i64.wrap ((i : Int) + 1) = (i : Int) + 1 := by rw [IntKind.wrap_i64]; omega
  have hb1 : (0 : Int) ≤ (i : Int) + 1 := by omega
  have hin : i ≤ n := by omega
  have htn : ((i : Int) + 1).toNat = i + 1 := by omega
  have hGi : ¬ (G = i) := by omega
  have hGim : ¬ (G = i + 1) := by omega
  have hci : ¬ (c = i) := by omega
  have hb3 : (i : Int) ≤ (n : Int) := by omega
  go_enter fInsA, nIns
  go_wp2_with (first
    | (at_builtin; refine Lib.wpList_append_run _ rfl _ _ _ _ rfl _ _ rfl rfl _ _ (hap _) ?_)
    | (at_builtin; refine wpList_copy_runI _ rfl _ _ 27 27 rfl _ _ rfl rfl (hcA _ _) ?_))
  go_region_law_o (refine step_copy_runI rfl _ _ 27 27 rfl _ _ (by simp [Act.eval, Act.put]) (by simp [Act.eval, Act.put]) (hcB _ _ _) ?_)
  go_wp2
  go_ret
  exact ⟨rfl, rfl⟩

/-! ### Memory -/
theorem _root_.Go.Sx.BlockAt.pre {w : World} {A : Addr} {n : Nat} {cs : List Value} (h : Sx.BlockAt w A n cs) (k : Nat) : Sx.BlockAt w A n (cs.take k) := by
  obtain ⟨all, e, h1, h2, h3⟩ := h
  refine ⟨all, e, h1, h2, fun j c hj => ?_⟩
  rw [List.getElem?_take] at hj
  split at hj
  · exact h3 j c hj
  · cases hj
theorem _root_.Go.Sx.BlockAt.heap {w w' : World} {A : Addr} {n : Nat} {cs : List Value} (h : Sx.BlockAt w A n cs) (he : w'.heap[A.block]? = w.heap[A.block]?) : Sx.BlockAt w' A n cs := h.mono he

structure Stored (w w' : World) (b : Nat) : Prop where
  same : ∀ k, k ≠ b → w'.heap[k]? = w.heap[k]?
  size : w'.heap.size = w.heap.size
  frz : Sx.Frz w w'

theorem store_at {P : Program} {w : World} {ad : Addr} {N p : Nat} {cs ds : List Value} (all : List Value) (e : TypeId) (h1 : w.heap[ad.block]? = some (.cells all.toArray e (0, 0))) (h2 : ad.off + p + ds.length ≤ all.length)
    (h3 : Sx.BlockAt (Sx.setBlock w ad.block (.cells (Sx.put1 all (ad.off + p) ds).toArray e (0, 0))) ad N cs) (hone : ∀ c ∈ ds, Sx.one c = true) (hne : ds ≠ []) :
    ∃ w', (storeCells ⟨ad.block, ad.off + p, none⟩ ds).run P w = .ok () w' ∧ Sx.BlockAt w' ad N cs ∧ Stored w w' ad.block := by
  have hst := Sx.run_storeCells (P := P) (A := ⟨ad.block, ad.off + p, none⟩) rfl rfl ds 0 w all h1 (by simpa using h2) hone
  simp only [Nat.add_zero, if_neg hne] at hst
  exact ⟨_, hst, h3, fun k hk => Sx.setBlock_ne hk, Sx.setBlock_size, Sx.frz_set⟩
theorem store_more {P : Program} {w : World} {ad : Addr} {N : Nat} {cs ds : List Value} (h : Sx.BlockAt w ad N cs) (hf : cs.length + ds.length ≤ N) (hone : ∀ c ∈ ds, Sx.one c = true) (hne : ds ≠ []) :
    ∃ w', (storeCells ⟨ad.block, ad.off + cs.length, none⟩ ds).run P w = .ok () w' ∧ Sx.BlockAt w' ad N (cs ++ ds) ∧ Stored w w' ad.block := by
  obtain ⟨all, e, h1, h2, h3⟩ := h.more hf
  exact store_at all e h1 h2 h3 hone hne
theorem store_put {P : Program} {w : World} {ad : Addr} {N o : Nat} {cs ds : List Value} (h : Sx.BlockAt w ad N cs) (ho : o + ds.length ≤ cs.length) (hn : cs.length ≤ N) (hone : ∀ c ∈ ds, Sx.one c = true) (hne : ds ≠ []) :
    ∃ w', (storeCells ⟨ad.block, ad.off + o, none⟩ ds).run P w = .ok () w' ∧ Sx.BlockAt w' ad N (Sx.put1 cs o ds) ∧ Stored w w' ad.block := by
  obtain ⟨all, e, h1, h2, h3⟩ := h.put ho hn
  exact store_at all e h1 h2 h3 hone hne

theorem first_cells {P : Program} {w : World} {ad : Addr} {N len cap sz k : Nat} {cs ds : List Value} (h : Sx.BlockAt w ad N cs) (o : Nat) (hd : ds = (cs.drop o).take (k * sz)) (hl : ds.length = k * sz) :
    (Builtin.firstCells sz k (.slice (some ⟨ad.block, ad.off + o, none⟩) len cap)).run P w = .ok ds.toArray w := by
  have hr := (Sx.Reads.of_block h).part o (k * sz)
  rw [← hd] at hr
  exact Sx.run_loadCells (P := P) rfl hl hr

theorem inf161 : ∃ inf, Try.prog.info? 161 = some inf ∧ inf.size = 2 ∧ inf.bytes = 24 ∧ inf.zero = some (Sx.mkV tICell (Sx.zeroVals tICell)) := by
  have h1 : (Try.prog.info? 161).map (fun i => (i.size, i.bytes, i.zero)) = some (2, 24, some (Sx.mkV tICell (Sx.zeroVals tICell))) := by kernel_rfl
  cases h : Try.prog.info? 161 with
  | none => rw [h] at h1; cases h1
  | some x =>
    rw [h] at h1
    simp only [Option.map_some, Option.some.injEq, Prod.mk.injEq] at h1
    exact ⟨x, rfl, h1.1, h1.2.1, h1.2.2⟩

theorem put_mid {a d v : List Value} {i : Nat} (ha : a.length = (i + 1) * 2) (hv : v.length = 2) : Sx.put1 (a ++ d) (i * 2) v = a.take (i * 2) ++ (v ++ d) := by
  unfold Sx.put1
  rw [List.take_append_of_le_length (by omega), hv, show i * 2 + 2 = a.length by omega, List.drop_left, List.append_assoc]

set_option maxHeartbeats 4000000 in
/-- a cell put among others: in place, or in a new row -/
theorem ins_mem (w : World) (ad vad : Addr) (cap vcap n i : Nat) (inner V : List Value) (hs : ad.spot = none) (hvs : vad.spot = none) (hne : vad.block ≠ ad.block) (hb : Sx.BlockAt w ad (cap * 2) inner) (hv : Sx.BlockAt w vad (vcap * 2) V)
    (hil : inner.length = n * 2) (hvl : V.length = 2) (hi1 : ∀ c ∈ inner, Sx.one c = true) (hv1 : ∀ c ∈ V, Sx.one c = true) (hi : i < n) (hnc : n ≤ cap) (hlim : n + 1 ≤ 4294967296) :
    Calls Try.prog 193 #[.slice (some ad) n cap, .int .i64 i, .slice (some vad) 1 vcap] w fun e w' => ∃ (ad' : Addr) (cap' : Nat), e = .returned (.slice (some ad') (n + 1) cap') ∧ ad'.spot = none ∧ n + 1 ≤ cap' ∧
      (ad'.block = ad.block ∨ w.heap.size ≤ ad'.block) ∧ ad'.block < w'.heap.size ∧ Sx.BlockAt w' ad' (cap' * 2) (inner.take (i * 2) ++ (V ++ inner.drop (i * 2))) ∧ Sx.Kept w w' [ad.block] := by
  obtain ⟨b, off, sp⟩ := ad
  obtain ⟨vb, voff, vsp⟩ := vad
  dsimp only at hs hvs hne
  subst hs; subst hvs
  obtain ⟨inf, hinf, hsz, hby, hzero⟩ := inf161
  have hblt : b < w.heap.size := by
    obtain ⟨all, e, h1, _⟩ := hb
    exact (Array.getElem?_eq_some_iff.1 h1).1
  have hvne : V ≠ [] := fun e => by rw [e] at hvl; cases hvl
  have hDl : (inner.drop (i * 2)).length = (n - i) * 2 := by rw [List.length_drop, hil, Nat.sub_mul]
  have hDne : inner.drop (i * 2) ≠ [] := fun e => by rw [e] at hDl; simp at hDl; omega
  have hD1 : ∀ c ∈ inner.drop (i * 2), Sx.one c = true := fun c hc => hi1 c (List.mem_of_mem_drop hc)
  have hlen : ∀ (d : Nat), (Builtin.lenOf (.slice (some ⟨vb, voff, none⟩) 1 vcap)).run Try.prog w = .ok 1 w := fun _ => rfl
  have hDt : inner.drop (i * 2) = (inner.drop (i * 2)).take ((n - i) * 2) := by rw [List.take_of_length_le (Nat.le_of_eq hDl)]
  have hVt : V = (V.drop 0).take (1 * 2) := by rw [List.drop_zero, List.take_of_length_le (by omega)]
  have hTl : (inner.take ((i + 1) * 2)).length = (i + 1) * 2 := by rw [List.length_take, hil]; omega
  have hTl2 : (inner.take (i * 2)).length = i * 2 := by rw [List.length_take, hil]; omega
  by_cases hroom : n + 1 ≤ cap
  · -- there is room
    have hb0 : Sx.BlockAt w.drew ⟨b, off, none⟩ (cap * 2) inner := hb.heap rfl
    obtain ⟨W1, s1, s2, s3⟩ := store_more (P := Try.prog) (hb0.pre ((i + 1) * 2)) (ds := inner.drop (i * 2)) (by rw [hTl, hDl]; omega) hD1 hDne
    obtain ⟨W2, r1, r2, r3⟩ := store_put (P := Try.prog) (o := i * 2) (ds := V) s2 (by rw [List.length_append, hTl, hDl, hvl]; omega) (by rw [List.length_append, hTl, hDl]; omega) hv1 hvne
    rw [put_mid hTl hvl, List.take_take, Nat.min_eq_left (by omega)] at r2
    rw [hTl] at s1
    have hv2 : Sx.BlockAt W1 ⟨vb, voff, none⟩ (vcap * 2) V := hv.heap (s3.same vb hne)
    have hw := ins_shift b off n cap i vb voff vcap w W1 W2 hi hlim hroom (fun lb cb => ?_) (fun ty dc sc => ?_) (fun ty dc => ?_)
    · refine hw.mono ?_
      rintro e w' ⟨rfl, rfl⟩
      refine ⟨⟨b, off, none⟩, cap, rfl, rfl, hroom, .inl rfl, ?_, r2, ?_⟩
      · rw [r3.size, s3.size]; exact hblt
      · have k1 : Sx.Kept w w.drew [b] := ⟨Nat.le_refl _, fun _ _ _ => rfl, ⟨fun _ => .inl rfl, rfl, rfl⟩⟩
        have k2 : Sx.Kept w.drew W1 [b] := ⟨Nat.le_of_eq s3.size.symm, fun k _ hk => s3.same k (by simpa using hk), s3.frz⟩
        have k3 : Sx.Kept W1 w' [b] := ⟨Nat.le_of_eq r3.size.symm, fun k _ hk => r3.same k (by simpa using hk), r3.frz⟩
        exact (k1.trans k2 (fun k hk => .inl hk)).trans k3 (fun k hk => .inl hk)
    · rw [run_callFunc_extern fOvA (by kernel_rfl) (by kernel_rfl) (by kernel_rfl) (e := Extern.SlicesOverlaps.overlaps #[27, 27] #[4]) (by kernel_rfl)]
      obtain ⟨all, e, h1, h2, _⟩ := hb
      obtain ⟨vall, ve, g1, g2, _⟩ := hv
      have hz : ∀ w, (Go.sizeOf 161).run Try.prog w = .ok 2 w := fun w => by rw [Sx.run_sizeOf hinf, hsz]
      dsimp only at h1 h2 g1 g2
      rw [Lib.run_overlaps_apart w 27 4 161 t27 2 hz ⟨vb, voff, none⟩ ⟨b, off + (i + 1) * 2, none⟩ 1 vcap lb cb hne ve e vall.size all.size (by simp only [World.shape?, g1]) (by simp only [World.shape?, h1]) (by omega)
        (by simp only [World.frozen?, g1]; simp) (by simp only [World.frozen?, g1]; simp)]
      rfl
    · refine run_copy (P := Try.prog) (m := n + 1 - i) (k := n - i) t27 hinf rfl (by simp only [Nat.min_def]; split <;> omega) ?_ s1
      rw [hsz]
      exact first_cells hb0 (i * 2) hDt hDl
    · have h0 := run_copy (P := Try.prog) (t := 27) (t' := 27) (ty := ty) (dl := n + 1 - i) (dc := dc) (src := .slice (some ⟨vb, voff, none⟩) 1 vcap) (m := 1) (k := 1) (w := W1) t27 hinf rfl (by simp only [Nat.min_def]; split <;> omega) (by
        rw [hsz]
        have := first_cells (P := Try.prog) (len := 1) (cap := vcap) (sz := 2) (k := 1) hv2 0 hVt (by omega)
        simpa using this) r1
      exact h0
  · -- there is none
    have hroom' : cap < n + 1 := by omega
    have hk : i + (n + 1 - i) = n + 1 := by omega
    have hbn := Sx.nextcap_le hroom' hlim
    have hold : (Builtin.firstCells inf.size i (.slice (some ⟨b, off, none⟩) i cap)).run Try.prog w.drew = .ok (inner.take (i * 2)).toArray w.drew := by
      rw [hsz]
      have := first_cells (P := Try.prog) (w := w.drew) (len := i) (cap := cap) (sz := 2) (k := i) (ds := inner.take (i * 2)) (hb.heap rfl) 0 (by rw [List.drop_zero]) hTl2
      simpa using this
    have hap := Lib.run_append_grow_zeros w 27 3 27 161 inf _ .i64 .i64 t27 t3 hinf hzero (some ⟨b, off, none⟩) i cap (inner.take (i * 2)) hold (n + 1 - i) (by omega) (by omega) (by omega) (by omega) (by rw [hby]; omega) (by rw [hby, hk]; omega)
    obtain ⟨G, hGe⟩ : ∃ G, G = grownCap w (i + (n + 1 - i)) cap 161 := ⟨_, rfl⟩
    have hGn : n + 1 ≤ G := by rw [hGe, hk]; exact grownCap_ge w _ _ _
    rw [← hGe, hk] at hap
    obtain ⟨W1, hW1⟩ : ∃ W1, W1 = w.drew.alloc (.cells ((inner.take (i * 2)).toArray ++ Builtin.zeroCells (Sx.mkV tICell (Sx.zeroVals tICell)).cells (n + 1 - i) ++ Builtin.zeroCells (Sx.mkV tICell (Sx.zeroVals tICell)).cells (G - (n + 1))) 161) := ⟨_, rfl⟩
    rw [← hW1] at hap
    have hnb : Sx.BlockAt W1 ⟨w.heap.size, 0, none⟩ (G * 2) (inner.take (i * 2)) := by
      refine ⟨_, 161, by rw [hW1]; exact Sx.push_new (w := w.drew), ?_, fun j c hj => ?_⟩
      · have hzs : (Sx.mkV tICell (Sx.zeroVals tICell)).cells.size = 2 := by kernel_rfl
        simp only [Array.size_append, Builtin.zeroCells, Array.size_map, Array.size_range, List.size_toArray, hTl2, hzs]
        omega
      · have hjl : j < (inner.take (i * 2)).length := (List.getElem?_eq_some_iff.1 hj).1
        rw [Nat.zero_add, Array.append_assoc, Array.getElem?_append_left (by simpa using hjl)]
        simpa using hj
    have hold1 : ∀ k, k < w.heap.size → W1.heap[k]? = w.heap[k]? := fun k hk => by rw [hW1]; exact Sx.push_get (w := w.drew) hk
    have hsz1 : W1.heap.size = w.heap.size + 1 := by rw [hW1]; exact Array.size_push _
    have hvlt : vb < w.heap.size := by
      obtain ⟨all, e, h1, _⟩ := hv
      exact (Array.getElem?_eq_some_iff.1 h1).1
    have hvn : vb ≠ w.heap.size := by omega
    have hbn2 : b ≠ w.heap.size := by omega
    obtain ⟨W2, s1, s2, s3⟩ := store_more (P := Try.prog) hnb (ds := V) (by rw [hTl2, hvl]; omega) hv1 hvne
    have s2d : Sx.BlockAt W2.drew ⟨w.heap.size, 0, none⟩ (G * 2) (inner.take (i * 2) ++ V) := s2.heap rfl
    obtain ⟨W3, r1, r2, r3⟩ := store_more (P := Try.prog) s2d (ds := inner.drop (i * 2)) (by rw [List.length_append, hTl2, hvl, hDl]; omega) hD1 hDne
    rw [List.append_assoc] at r2
    have hv1' : Sx.BlockAt W1 ⟨vb, voff, none⟩ (vcap * 2) V := hv.heap (hold1 vb hvlt)
    have hb2 : Sx.BlockAt W2.drew ⟨b, off, none⟩ (cap * 2) inner := hb.heap (((show W2.drew.heap[b]? = W2.heap[b]? from rfl).trans (s3.same b hbn2)).trans (hold1 b hblt))
    have hw := ins_grow b off n cap i vb voff vcap w.heap.size G w W1 W2 W3 hi hlim hnc hroom' hGn (fun ty => ?_) (fun ty dc => ?_) (fun ty dc sc => ?_)
    · refine hw.mono ?_
      rintro e w' ⟨rfl, rfl⟩
      refine ⟨⟨w.heap.size, 0, none⟩, G, rfl, rfl, hGn, .inr (Nat.le_refl _), ?_, r2, ?_⟩
      · have h1 := r3.size
        have h2 := s3.size
        have h3 : W2.drew.heap.size = W2.heap.size := rfl
        show w.heap.size < w'.heap.size
        omega
      · refine ⟨?_, fun k hk hnk => ?_, ?_⟩
        · have h1 := r3.size
          have h2 := s3.size
          have h3 : W2.drew.heap.size = W2.heap.size := rfl
          omega
        · have hkn : k ≠ w.heap.size := by omega
          exact (((r3.same k hkn).trans (show W2.drew.heap[k]? = W2.heap[k]? from rfl)).trans (s3.same k hkn)).trans (hold1 k hk)
        · have f1 : Sx.Frz w W1 := by rw [hW1]; exact (show Sx.Frz w w.drew from ⟨fun _ => .inl rfl, rfl, rfl⟩).trans (Sx.frz_push w.drew _ rfl)
          exact ((f1.trans s3.frz).trans (show Sx.Frz W2 W2.drew from ⟨fun _ => .inl rfl, rfl, rfl⟩)).trans r3.frz
    · have := hap
      rw [show ((n + 1 - i : Nat) : Int) = (n : Int) + 1 - (i : Int) by omega] at this
      exact this
    · refine run_copy (P := Try.prog) (m := 1) (k := 1) (cells := V) t27 hinf rfl (by simp only [Nat.min_def]; split <;> omega) ?_ ?_
      · rw [hsz]
        have := first_cells (P := Try.prog) (len := 1) (cap := vcap) (sz := 2) (k := 1) hv1' 0 hVt (by omega)
        simpa using this
      · rw [hTl2] at s1
        simpa using s1
    · refine run_copy (P := Try.prog) (m := n - i) (k := n - i) (cells := inner.drop (i * 2)) t27 hinf rfl (by simp only [Nat.min_def]; split <;> omega) ?_ ?_
      · rw [hsz]
        exact first_cells hb2 (i * 2) hDt hDl
      · rw [List.length_append, hTl2, hvl, show i * 2 + 2 = (i + 1) * 2 by omega] at r1
        simpa using r1

/-! ### The contract -/
theorem cell_flat : tICell.hasSl = false := by kernel_rfl
theorem cell_size : tICell.size = 2 := by kernel_rfl

/-- a list that is given, of plain cells -/
theorem given_at {p : Nat → Prop} {w : World} {xs : List tICell.den} {c : Value} {S : List Nat} (h : Sx.TR p w true (.sl true tICell) xs [c] S) :
    ∃ A cap, c = .slice A xs.length cap ∧ xs.length ≤ cap ∧ (A = none → xs = []) ∧ ∀ ad, A = some ad → ad.spot = none ∧ S = [ad.block] ∧ ∃ inner, Sx.BlockAt w ad (cap * 2) inner ∧ Sx.Reps (Sx.TR (fun _ => False) w false tICell) xs inner [] := by
  obtain ⟨A, cap, h1, h2, h3⟩ := h
  simp only [List.cons.injEq, and_true] at h1
  simp only [Bool.and_self, if_true] at h3
  refine ⟨A, cap, h1, h2, fun e => ?_, fun ad e => ?_⟩
  · subst e; exact h3.1
  · subst e
    obtain ⟨k1, inner, S', k2, k3, k4⟩ := h3
    obtain ⟨k5, k6⟩ := k4.noUq (Sx.Ty.flat_noUq cell_flat)
    subst k5
    rw [cell_size] at k3
    exact ⟨k1, k2, inner, k3, k6.noSl cell_flat⟩

theorem ins_ok (xs : List tICell.den) (i : Nat) (x : tICell.den) (hi : i < xs.length) (hlim : xs.length + 1 ≤ 4294967296) :
    Sx.CallOk Try.prog 193 (Sx.AP.encL [.gv tICell, .ro tInt, .gv tICell] (xs, (i : Int), [x], ())) (.fv (.sl true tICell) (xs.take i ++ ([x] ++ xs.drop i))) [] := by
  intro p w cargs S B hc hn hS hp
  simp only [Sx.AP.encL, Sx.AP.enc, Sx.CVL, Sx.CV] at hc
  obtain ⟨c1, r1, S1, T1, B1, D1, rfl, rfl, rfl, ⟨hB1, _, h1⟩, c2, r2, S2, T2, B2, D2, rfl, rfl, rfl, ⟨rfl, hB2, cs2, h2, rfl⟩, c3, r3, S3, T3, B3, D3, rfl, rfl, rfl, ⟨hB3, _, h3⟩, rfl, rfl, rfl⟩ := hc
  obtain ⟨A, cap, rfl, hl1, hA0, hA⟩ := given_at h1
  obtain ⟨A3, cap3, rfl, hl3, hA30, hA3⟩ := given_at h3
  have hc2 : Sx.mkV tInt cs2 = .int .i64 (i : Int) := by
    obtain ⟨e, _⟩ := (h2 : cs2 = [.int .i64 (i : Int)] ∧ _)
    rw [e]; rfl
  rw [hc2]
  cases A with
  | none => rw [hA0 rfl] at hi; simp at hi
  | some ad =>
  cases A3 with
  | none => cases hA30 rfl
  | some vad =>
  obtain ⟨a1, rfl, inner, a2, a3⟩ := hA ad rfl
  obtain ⟨b1, rfl, V, b2, b3⟩ := hA3 vad rfl
  have hil : inner.length = xs.length * 2 := by rw [← cell_size]; exact Sx.Reps.len (fun _ _ _ hr => hr.len) a3
  have hvl : V.length = 2 := by
    have := Sx.Reps.len (n := tICell.size) (fun _ _ _ hr => hr.len) b3
    rw [cell_size] at this
    simpa using this
  have hne : vad.block ≠ ad.block := by
    have := hn
    simp only [List.nil_append, List.append_nil, List.cons_append, List.nodup_cons, List.mem_singleton] at this
    exact fun e => this.1 e.symm
  have hw := ins_mem w ad vad cap cap3 xs.length i inner V a1 b1 hne a2 b2 hil hvl (Sx.Reps.one (fun _ _ _ hr => hr.ones) a3) (Sx.Reps.one (fun _ _ _ hr => hr.ones) b3) hi hl1 hlim
  refine hw.mono ?_
  rintro e w' ⟨ad', cap', rfl, q1, q2, q3, q4, q5, q6⟩
  have hmem : ∀ k, k ∈ [ad'.block] ++ ([] : List Nat) → k = ad'.block := fun k hk => by simpa using hk
  refine ⟨_, [ad'.block], [], rfl, by simp, fun k hk => ?_, ?_, ?_, ?_⟩
  · rw [hmem k hk]
    refine ⟨q3.imp (fun e => ?_) id, q4⟩
    rw [e]; simp
  · exact ⟨q6.1, fun k hk hnk => q6.2 k hk (fun hm => hnk (by simp only [List.mem_singleton] at hm; subst hm; simp)), q6.3⟩
  · simp only [Sx.CV]
    have hlen : (xs.take i ++ ([x] ++ xs.drop i)).length = xs.length + 1 := by simp only [List.length_append, List.length_take, List.length_drop, List.length_singleton]; omega
    refine ⟨trivial, by kernel_rfl, [.slice (some ad') (xs.length + 1) cap'], ⟨some ad', cap', by rw [hlen], by rw [hlen]; exact q2, ?_⟩, rfl⟩
    simp only [Bool.and_self, if_true]
    refine ⟨q1, inner.take (i * 2) ++ (V ++ inner.drop (i * 2)), [], rfl, by rw [cell_size]; exact q5, ?_⟩
    have k1 := Sx.Reps.take (n := tICell.size) (fun _ _ _ hr => hr.len) i a3
    have k2 := Sx.Reps.drop (n := tICell.size) (fun _ _ _ hr => hr.len) i a3
    rw [cell_size] at k1 k2
    exact Sx.Reps.ofRo (Sx.Ty.flat_noUq cell_flat) ((k1.append (b3.append k2)).noSl cell_flat)
  · simp only [List.append_nil, List.nil_append, hB1, hB2, hB3, Sx.Outs]

end
open Go Go.Sx Go.Proofs

noncomputable def l_m_Insert_ICell : List (Nat × Con) := []
theorem l_m_Insert_ICell_ok : ∀ q ∈ l_m_Insert_ICell, ConOk Try.prog q.1 q.2 := Try.cons_nil
def kp_m_Insert_ICell : KP := []
noncomputable def q_m_Insert_ICell (n : Nat) (x : AP.denL [.gv tICell, .ro tInt, .gv tICell]) := evX (false, false, []) l_m_Insert_ICell kp_m_Insert_ICell [some uSlICell] Try.f193 (shF uSlICell) n (AP.encL [.gv tICell, .ro tInt, .gv tICell] x)
noncomputable def c_m_Insert_ICell : Con := apS [.gv tICell, .ro tInt, .gv tICell] true (shF uSlICell) (q_m_Insert_ICell big)
theorem c_m_Insert_ICell_ok : ConOk Try.prog 193 c_m_Insert_ICell := apS_ok ⟨Try.f193, by kernel_rfl, rfl, by decide⟩ fun _ _ h => evX_ok l_m_Insert_ICell_ok (f := Try.f193) (by kernel_rfl) rfl (by kernel_rfl) (by kernel_rfl) big h
noncomputable def Q_m_Insert_ICell (n : Nat) (a0 : DSlICell) (a1 : Int) (a2 : DSlICell) : Option DSlICell := q_m_Insert_ICell n (a0, a1, a2, ())
theorem Q_m_Insert_ICell_eq (n : Nat) (a0 : DSlICell) (a1 : Int) (a2 : DSlICell) : Q_m_Insert_ICell n a0 a1 a2 =
    if (0 : Int) ≤ a1 then
 if a1 ≤ (↑(List.length a0) : Int) then
 bif decide ((↑(List.length a2) : Int) = (0 : Int)) then some a0
 else
 bif decide (a1 = (↑(List.length a0) : Int)) then
 if List.length a0 + List.length a2 ≤ lim then some (List.append a0 a2) else none
 else none
 else none
 else none := by kernel_rfl


/-- where a cell goes in -/
noncomputable def q_g_Insert_ICell (_n : Nat) (x : AP.denL [.gv tICell, .ro tInt, .gv tICell]) : Option DSlICell :=
  if (0 : Int) ≤ x.2.1 then (if x.2.1 ≤ (List.length x.1 : Int) then (if List.length x.2.2.1 = 1 then (if List.length x.1 + 1 ≤ lim then some (List.take (Int.toNat x.2.1) x.1 ++ (x.2.2.1 ++ List.drop (Int.toNat x.2.1) x.1)) else none) else none) else none) else none
noncomputable def c_g_Insert_ICell : Con := apS [.gv tICell, .ro tInt, .gv tICell] true (shF uSlICell) (q_g_Insert_ICell big)
theorem c_g_Insert_ICell_ok : ConOk Try.prog 193 c_g_Insert_ICell := apS_ok ⟨Try.f193, by kernel_rfl, rfl, by decide⟩ fun xs v h => by
  obtain ⟨a0, a1, a2, u⟩ := xs
  cases u
  unfold q_g_Insert_ICell at h
  dsimp only at h
  split at h
  · rename_i h0
    split at h
    · rename_i h1
      split at h
      · rename_i h2
        split at h
        · rename_i h3
          simp only [Option.some.injEq] at h
          subst h
          obtain ⟨x, rfl⟩ := List.length_eq_one_iff.1 h2
          by_cases he : a1 = (List.length a0 : Int)
          · have hm : Q_m_Insert_ICell big a0 a1 [x] = some (List.append a0 [x]) := by
              rw [Q_m_Insert_ICell_eq, if_pos h0, if_pos h1, decide_eq_false (show ¬ ((List.length [x] : Nat) : Int) = 0 by simp), cond_false, decide_eq_true he, cond_true, if_pos (show List.length a0 + List.length [x] ≤ lim from h3)]
            have hk := evX_ok l_m_Insert_ICell_ok (f := Try.f193) (n := 193) (by kernel_rfl) rfl (by kernel_rfl) (by kernel_rfl) big hm
            have hr : List.take (Int.toNat a1) a0 ++ ([x] ++ List.drop (Int.toNat a1) a0) = List.append a0 [x] := by
              rw [he, Int.toNat_natCast, List.take_length, List.drop_length, List.append_nil]; rfl
            rw [hr]
            exact hk
          · obtain ⟨i, rfl⟩ : ∃ i : Nat, a1 = i := ⟨Int.toNat a1, (Int.toNat_of_nonneg h0).symm⟩
            rw [Int.toNat_natCast]
            refine ins_ok a0 i x ?_ h3
            have k1 : (i : Int) ≤ ((List.length (α := Ty.den tICell) a0 : Nat) : Int) := h1
            have k2 : ¬ (i : Int) = ((List.length (α := Ty.den tICell) a0 : Nat) : Int) := he
            show i < List.length (α := Ty.den tICell) a0
            omega
        · cases h
      · cases h
    · cases h
  · cases h
noncomputable def Q_g_Insert_ICell (n : Nat) (a0 : DSlICell) (a1 : Int) (a2 : DSlICell) : Option DSlICell := q_g_Insert_ICell n (a0, a1, a2, ())
theorem Q_g_Insert_ICell_eq (n : Nat) (a0 : DSlICell) (a1 : Int) (a2 : DSlICell) : Q_g_Insert_ICell n a0 a1 a2 =
    if (0 : Int) ≤ a1 then (if a1 ≤ (List.length a0 : Int) then (if List.length a2 = 1 then (if List.length a0 + 1 ≤ lim then some (List.take (Int.toNat a1) a0 ++ (a2 ++ List.drop (Int.toNat a1) a0)) else none) else none) else none) else none := rfl

end Go.Sx.Try

set_option maxRecDepth 100000
namespace Go.Sx.Try
open Go Go.Sx Go.Proofs

noncomputable def l_i_withCell : List (Nat × Con) := [(153, c_g_Clone_ICell), (182, c_i_CellAt), (193, c_g_Insert_ICell)]
theorem l_i_withCell_ok : ∀ q ∈ l_i_withCell, ConOk Try.prog q.1 q.2 := Try.cons_cons c_g_Clone_ICell_ok (Try.cons_cons c_i_CellAt_ok (Try.cons_cons c_g_Insert_ICell_ok (Try.cons_nil)))
abbrev k_i_withCell_7 : List Keep × List BK := ([.ro tSlICell, .ro tString, .ro tInt64, .drop, .drop, .drop, .drop, .is (.own 0 0), .drop, .ro tInt64, .drop, .drop, .drop, .drop, .drop, .drop, .drop, .drop, .drop, .drop, .drop, .drop, .drop, .drop, .drop, .drop, .drop, .drop, .drop, .drop, .drop, .drop, .drop, .drop, .drop, .drop, .drop, .drop, .drop, .drop, .drop, .drop, .drop, .drop, .drop], [.arr tXstruct_Key_string_Num_int_])
def kp_i_withCell : KP := [(7, k_i_withCell_7)]
noncomputable def q_i_withCell (n : Nat) (x : Args [tSlICell, tString, tInt]) := evX (false, false, []) l_i_withCell kp_i_withCell [some uSlICell] Try.f183 (shF uSlICell) n (encA [tSlICell, tString, tInt] x)
noncomputable def c_i_withCell : Con := roS [tSlICell, tString, tInt] true (shF uSlICell) (q_i_withCell big)
theorem c_i_withCell_ok : ConOk Try.prog 183 c_i_withCell := roS_ok ⟨Try.f183, by kernel_rfl, rfl, by decide⟩ fun _ _ h => evX_ok l_i_withCell_ok (f := Try.f183) (by kernel_rfl) rfl (by kernel_rfl) (by kernel_rfl) big h
noncomputable def Q_i_withCell (n : Nat) (a0 : DSlICell) (a1 : ByteArray) (a2 : Int) : Option DSlICell := q_i_withCell n (a0, a1, a2, ())
noncomputable def r_i_withCell_7 (n : Nat) (x : KD k_i_withCell_7.1) (y : BD k_i_withCell_7.2) := rounds (env (false, false, []) l_i_withCell) kp_i_withCell (body Try.f183) (finX (false, false, []) l_i_withCell [some uSlICell] Try.f183 (shF uSlICell) [.val tSlICell (zeroD tSlICell), .val tString (zeroD tString), .val tInt (zeroD tInt)]) n 7 k_i_withCell_7 x y
noncomputable def R_i_withCell_7 (n : Nat) (s0 : DSlICell) (s1 : ByteArray) (s2 : Int) (s9 : Int) (b0 : (List DXstruct_Key_string_Num_int_)) : Option DSlICell := r_i_withCell_7 n (s0, s1, s2, s9, ()) (b0, ())
theorem Q_i_withCell_eq (n : Nat) (a0 : DSlICell) (a1 : ByteArray) (a2 : Int) : Q_i_withCell n a0 a1 a2 =
    (Q_g_Clone_ICell big a0).bind fun y =>
 (Q_i_CellAt big a0 a1).bind fun y_1 =>
 bif decide ((0 : Int) ≤ y_1) then
 if (0 : Int) ≤ y_1 then
 if y_1 < (↑(List.length y) : Int) then
 (nth y (Int.toNat y_1)).bind fun y_2 => (updO y (Int.toNat y_1) (y_2.fst, a2, ())).bind fun y => some y
 else none
 else none
 else R_i_withCell_7 n a0 a1 a2 (0 : Int) y := by kernel_rfl
theorem R_i_withCell_7_eq (n : Nat) (s0 : DSlICell) (s1 : ByteArray) (s2 : Int) (s9 : Int) (b0 : (List DXstruct_Key_string_Num_int_)) : R_i_withCell_7 (n + 1) s0 s1 s2 s9 b0 =
    bif decide (s9 < (↑(List.length s0) : Int)) then
 if (0 : Int) ≤ s9 then
 (nth s0 s9.toNat).bind fun y =>
 bif Op.bytesLess (ByteArray.toList y.fst) s1.toList then
 R_i_withCell_7 n s0 s1 s2 (IntKind.i64.wrap (s9 + (1 : Int))) b0
 else (Q_g_Insert_ICell big b0 s9 [(s1, s2, ())]).bind fun y => some y
 else none
 else (Q_g_Insert_ICell big b0 s9 [(s1, s2, ())]).bind fun y => some y := by kernel_rfl

end Go.Sx.Try

set_option maxRecDepth 100000
namespace Go.Sx.Try
open Go Go.Sx Go.Proofs

noncomputable def l_i_Done : List (Nat × Con) := [(153, c_g_Clone_ICell), (181, c_i_CellsOk), (115, c_i_CmdOk), (182, c_i_CellAt), (183, c_i_withCell)]
theorem l_i_Done_ok : ∀ q ∈ l_i_Done, ConOk Try.prog q.1 q.2 := Try.cons_cons c_g_Clone_ICell_ok (Try.cons_cons c_i_CellsOk_ok (Try.cons_cons c_i_CmdOk_ok (Try.cons_cons c_i_CellAt_ok (Try.cons_cons c_i_withCell_ok (Try.cons_nil)))))
def kp_i_Done : KP := []
noncomputable def q_i_Done (n : Nat) (x : Args [tSlICell, tICmd]) := evX (false, false, [3, 21, 23, 27, 33, 46]) l_i_Done kp_i_Done [some uSlICell, none] Try.f170 (shT [(true, uSlICell), (false, tInt)]) n (encA [tSlICell, tICmd] x)
noncomputable def c_i_Done : Con := roS [tSlICell, tICmd] true (shT [(true, uSlICell), (false, tInt)]) (q_i_Done big)
theorem c_i_Done_ok : ConOk Try.prog 170 c_i_Done := roS_ok ⟨Try.f170, by kernel_rfl, rfl, by decide⟩ fun _ _ h => evX_ok l_i_Done_ok (f := Try.f170) (by kernel_rfl) rfl (by kernel_rfl) (by kernel_rfl) big h
noncomputable def Q_i_Done (n : Nat) (a0 : DSlICell) (a1 : DICmd) : Option (DSlICell × Int × Unit) := q_i_Done n (a0, a1, ())
theorem Q_i_Done_eq (n : Nat) (a0 : DSlICell) (a1 : DICmd) : Q_i_Done n a0 a1 =
    (Q_g_Clone_ICell big a0).bind fun y =>
 (Q_i_CellsOk big a0).bind fun y_1 =>
 bif !y_1 then some (y, (2 : Int), PUnit.unit)
 else
 (Q_i_CmdOk big a1).bind fun y_2 =>
 bif !y_2 then some (y, (2 : Int), PUnit.unit)
 else
 bif !decide (a1.fst = (1 : Int)) then
 (Q_i_CellAt big a0 a1.snd.fst).bind fun y_3 =>
 bif decide (y_3 < (0 : Int)) then some (y, (1 : Int), PUnit.unit)
 else
 bif decide (a1.fst = (3 : Int)) then
 if (0 : Int) ≤ y_3 then
 (nth a0 (Int.toNat y_3)).bind fun y_4 =>
 (Q_i_withCell big a0 a1.snd.fst
 (IntKind.i64.wrap (IntKind.i64.wrap ((0 : Int) - a1.snd.snd.fst) + y_4.snd.fst))).bind
 fun y_5 =>
 (Q_i_CellsOk big y_5).bind fun y_6 =>
 bif !y_6 then some (y, (2 : Int), PUnit.unit) else some (y_5, (0 : Int), PUnit.unit)
 else none
 else
 if (0 : Int) ≤ y_3 then
 (nth a0 (Int.toNat y_3)).bind fun y_4 =>
 (Q_i_withCell big a0 a1.snd.fst (IntKind.i64.wrap (a1.snd.snd.fst + y_4.snd.fst))).bind
 fun y_5 =>
 (Q_i_CellsOk big y_5).bind fun y_6 =>
 bif !y_6 then some (y, (2 : Int), PUnit.unit) else some (y_5, (0 : Int), PUnit.unit)
 else none
 else
 (Q_i_withCell big a0 a1.snd.fst a1.snd.snd.fst).bind fun y_3 =>
 (Q_i_CellsOk big y_3).bind fun y_4 =>
 bif !y_4 then some (y, (2 : Int), PUnit.unit) else some (y_3, (0 : Int), PUnit.unit) := by kernel_rfl

end Go.Sx.Try

set_option maxRecDepth 100000
namespace Go.Sx.Try
open Go Go.Sx Go.Proofs

noncomputable def l_s_l01In : List (Nat × Con) := []
theorem l_s_l01In_ok : ∀ q ∈ l_s_l01In, ConOk Try.prog q.1 q.2 := Try.cons_nil
def kp_s_l01In : KP := []
noncomputable def q_s_l01In (n : Nat) (x : Args [tInt, tInt, tInt]) := evX (false, false, []) l_s_l01In kp_s_l01In [none] Try.f95 (shV tBool) n (encA [tInt, tInt, tInt] x)
noncomputable def c_s_l01In : Con := roS [tInt, tInt, tInt] true (shV tBool) (q_s_l01In big)
theorem c_s_l01In_ok : ConOk Try.prog 95 c_s_l01In := roS_ok ⟨Try.f95, by kernel_rfl, rfl, by decide⟩ fun _ _ h => evX_ok l_s_l01In_ok (f := Try.f95) (by kernel_rfl) rfl (by kernel_rfl) (by kernel_rfl) big h
noncomputable def Q_s_l01In (n : Nat) (a0 : Int) (a1 : Int) (a2 : Int) : Option Bool := q_s_l01In n (a0, a1, a2, ())
theorem Q_s_l01In_eq (n : Nat) (a0 : Int) (a1 : Int) (a2 : Int) : Q_s_l01In n a0 a1 a2 =
    bif decide (a1 ≤ a0) then some (decide (a0 ≤ a2)) else some false := by kernel_rfl

end Go.Sx.Try

set_option maxRecDepth 100000
namespace Go.Sx.Try
open Go Go.Sx Go.Proofs

noncomputable def l_s_KeyOk : List (Nat × Con) := [(95, c_s_l01In)]
theorem l_s_KeyOk_ok : ∀ q ∈ l_s_KeyOk, ConOk Try.prog q.1 q.2 := Try.cons_cons c_s_l01In_ok (Try.cons_nil)
abbrev k_s_KeyOk_2 : List Keep × List BK := ([.ro tString, .drop, .drop, .ro tInt64, .drop, .drop, .drop, .drop, .drop, .drop, .drop, .drop, .drop, .drop, .drop, .drop, .drop, .drop, .drop, .drop, .drop, .drop, .drop], [])
def kp_s_KeyOk : KP := [(2, k_s_KeyOk_2)]
noncomputable def q_s_KeyOk (n : Nat) (x : Args [tString]) := evX (false, false, []) l_s_KeyOk kp_s_KeyOk [none] Try.f162 (shV tBool) n (encA [tString] x)
noncomputable def c_s_KeyOk : Con := roS [tString] true (shV tBool) (q_s_KeyOk big)
theorem c_s_KeyOk_ok : ConOk Try.prog 162 c_s_KeyOk := roS_ok ⟨Try.f162, by kernel_rfl, rfl, by decide⟩ fun _ _ h => evX_ok l_s_KeyOk_ok (f := Try.f162) (by kernel_rfl) rfl (by kernel_rfl) (by kernel_rfl) big h
noncomputable def Q_s_KeyOk (n : Nat) (a0 : ByteArray) : Option Bool := q_s_KeyOk n (a0, ())
noncomputable def r_s_KeyOk_2 (n : Nat) (x : KD k_s_KeyOk_2.1) (y : BD k_s_KeyOk_2.2) := rounds (env (false, false, []) l_s_KeyOk) kp_s_KeyOk (body Try.f162) (finX (false, false, []) l_s_KeyOk [none] Try.f162 (shV tBool) [.val tString (zeroD tString)]) n 2 k_s_KeyOk_2 x y
noncomputable def R_s_KeyOk_2 (n : Nat) (s0 : ByteArray) (s3 : Int) : Option Bool := r_s_KeyOk_2 n (s0, s3, ()) ()
theorem Q_s_KeyOk_eq (n : Nat) (a0 : ByteArray) : Q_s_KeyOk n a0 =
    R_s_KeyOk_2 n a0 (0 : Int) := by kernel_rfl
theorem R_s_KeyOk_2_eq (n : Nat) (s0 : ByteArray) (s3 : Int) : R_s_KeyOk_2 (n + 1) s0 s3 =
    bif decide (s3 < (↑s0.size : Int)) then
 if (0 : Int) ≤ s3 then
 (nth s0.data.toList s3.toNat).bind fun y =>
 bif decide ((↑y.toNat : Int) < (97 : Int)) then some false
 else
 if (0 : Int) ≤ s3 then
 (nth s0.data.toList s3.toNat).bind fun y =>
 bif decide ((122 : Int) < (↑y.toNat : Int)) then some false
 else R_s_KeyOk_2 n s0 (IntKind.i64.wrap (s3 + (1 : Int)))
 else none
 else none
 else (Q_s_l01In big (↑s0.size : Int) (1 : Int) (3 : Int)).bind fun y => some y := by kernel_rfl

end Go.Sx.Try

set_option maxRecDepth 100000
namespace Go.Sx.Try
open Go Go.Sx Go.Proofs

noncomputable def l_s_CellsOk : List (Nat × Con) := [(162, c_s_KeyOk), (95, c_s_l01In)]
theorem l_s_CellsOk_ok : ∀ q ∈ l_s_CellsOk, ConOk Try.prog q.1 q.2 := Try.cons_cons c_s_KeyOk_ok (Try.cons_cons c_s_l01In_ok (Try.cons_nil))
abbrev k_s_CellsOk_2 : List Keep × List BK := ([.ro tSlICell, .drop, .drop, .ro tInt64, .drop, .drop, .drop, .drop, .drop, .drop, .drop, .drop, .drop, .drop, .drop, .drop, .drop, .drop, .drop, .drop, .drop, .drop, .drop, .drop, .drop, .drop, .drop, .drop, .drop, .drop, .drop, .drop, .drop, .drop, .drop, .drop, .drop, .drop, .drop, .drop, .drop, .drop, .drop, .drop, .drop, .drop, .drop], [])
def kp_s_CellsOk : KP := [(2, k_s_CellsOk_2)]
noncomputable def q_s_CellsOk (n : Nat) (x : Args [tSlICell]) := evX (false, false, []) l_s_CellsOk kp_s_CellsOk [none] Try.f178 (shV tBool) n (encA [tSlICell] x)
noncomputable def c_s_CellsOk : Con := roS [tSlICell] true (shV tBool) (q_s_CellsOk big)
theorem c_s_CellsOk_ok : ConOk Try.prog 178 c_s_CellsOk := roS_ok ⟨Try.f178, by kernel_rfl, rfl, by decide⟩ fun _ _ h => evX_ok l_s_CellsOk_ok (f := Try.f178) (by kernel_rfl) rfl (by kernel_rfl) (by kernel_rfl) big h
noncomputable def Q_s_CellsOk (n : Nat) (a0 : DSlICell) : Option Bool := q_s_CellsOk n (a0, ())
noncomputable def r_s_CellsOk_2 (n : Nat) (x : KD k_s_CellsOk_2.1) (y : BD k_s_CellsOk_2.2) := rounds (env (false, false, []) l_s_CellsOk) kp_s_CellsOk (body Try.f178) (finX (false, false, []) l_s_CellsOk [none] Try.f178 (shV tBool) [.val tSlICell (zeroD tSlICell)]) n 2 k_s_CellsOk_2 x y
noncomputable def R_s_CellsOk_2 (n : Nat) (s0 : DSlICell) (s3 : Int) : Option Bool := r_s_CellsOk_2 n (s0, s3, ()) ()
theorem Q_s_CellsOk_eq (n : Nat) (a0 : DSlICell) : Q_s_CellsOk n a0 =
    R_s_CellsOk_2 n a0 (0 : Int) := by kernel_rfl
theorem R_s_CellsOk_2_eq (n : Nat) (s0 : DSlICell) (s3 : Int) : R_s_CellsOk_2 (n + 1) s0 s3 =
    bif decide (s3 < (↑(List.length s0) : Int)) then
 if (0 : Int) ≤ s3 then
 (nth s0 s3.toNat).bind fun y =>
 (Q_s_KeyOk big y.fst).bind fun y =>
 bif !y then some false
 else
 if (0 : Int) ≤ s3 then
 (nth s0 s3.toNat).bind fun y =>
 (Q_s_l01In big y.snd.fst (0 : Int) (1000000000 : Int)).bind fun y =>
 bif !y then some false
 else
 bif decide ((0 : Int) < s3) then
 if (0 : Int) ≤ IntKind.i64.wrap (s3 - (1 : Int)) then
 (nth s0 (IntKind.i64.wrap (s3 - (1 : Int))).toNat).bind fun y =>
 if (0 : Int) ≤ s3 then
 (nth s0 s3.toNat).bind fun y_1 =>
 bif !Op.bytesLess (ByteArray.toList y.fst) (ByteArray.toList y_1.fst) then some false
 else R_s_CellsOk_2 n s0 (IntKind.i64.wrap (s3 + (1 : Int)))
 else none
 else none
 else R_s_CellsOk_2 n s0 (IntKind.i64.wrap (s3 + (1 : Int)))
 else none
 else none
 else some (decide ((↑(List.length s0) : Int) ≤ (12 : Int))) := by kernel_rfl

end Go.Sx.Try

set_option maxRecDepth 100000
namespace Go.Sx.Try
open Go Go.Sx Go.Proofs

noncomputable def l_s_CmdOk : List (Nat × Con) := [(95, c_s_l01In), (162, c_s_KeyOk)]
theorem l_s_CmdOk_ok : ∀ q ∈ l_s_CmdOk, ConOk Try.prog q.1 q.2 := Try.cons_cons c_s_l01In_ok (Try.cons_cons c_s_KeyOk_ok (Try.cons_nil))
def kp_s_CmdOk : KP := []
noncomputable def q_s_CmdOk (n : Nat) (x : Args [tICmd]) := evX (false, false, [1, 3, 7, 12]) l_s_CmdOk kp_s_CmdOk [none] Try.f113 (shV tBool) n (encA [tICmd] x)
noncomputable def c_s_CmdOk : Con := roS [tICmd] true (shV tBool) (q_s_CmdOk big)
theorem c_s_CmdOk_ok : ConOk Try.prog 113 c_s_CmdOk := roS_ok ⟨Try.f113, by kernel_rfl, rfl, by decide⟩ fun _ _ h => evX_ok l_s_CmdOk_ok (f := Try.f113) (by kernel_rfl) rfl (by kernel_rfl) (by kernel_rfl) big h
noncomputable def Q_s_CmdOk (n : Nat) (a0 : DICmd) : Option Bool := q_s_CmdOk n (a0, ())
theorem Q_s_CmdOk_eq (n : Nat) (a0 : DICmd) : Q_s_CmdOk n a0 =
    (Q_s_l01In big a0.fst (1 : Int) (3 : Int)).bind fun y =>
 bif y then
 (Q_s_KeyOk big a0.snd.fst).bind fun y =>
 bif y then (Q_s_l01In big a0.snd.snd.fst (0 : Int) (1000000000 : Int)).bind fun y => some y else some false
 else some false := by kernel_rfl

end Go.Sx.Try

set_option maxRecDepth 100000
namespace Go.Sx.Try
open Go Go.Sx Go.Proofs

noncomputable def l_s_CellAt : List (Nat × Con) := []
theorem l_s_CellAt_ok : ∀ q ∈ l_s_CellAt, ConOk Try.prog q.1 q.2 := Try.cons_nil
abbrev k_s_CellAt_2 : List Keep × List BK := ([.ro tSlICell, .ro tString, .drop, .drop, .drop, .ro tInt64, .drop, .drop, .drop, .drop, .drop, .drop, .drop, .drop, .drop, .drop, .drop, .drop, .drop, .drop], [])
def kp_s_CellAt : KP := [(2, k_s_CellAt_2)]
noncomputable def q_s_CellAt (n : Nat) (x : Args [tSlICell, tString]) := evX (false, false, []) l_s_CellAt kp_s_CellAt [none] Try.f179 (shV tInt) n (encA [tSlICell, tString] x)
noncomputable def c_s_CellAt : Con := roS [tSlICell, tString] true (shV tInt) (q_s_CellAt big)
theorem c_s_CellAt_ok : ConOk Try.prog 179 c_s_CellAt := roS_ok ⟨Try.f179, by kernel_rfl, rfl, by decide⟩ fun _ _ h => evX_ok l_s_CellAt_ok (f := Try.f179) (by kernel_rfl) rfl (by kernel_rfl) (by kernel_rfl) big h
noncomputable def Q_s_CellAt (n : Nat) (a0 : DSlICell) (a1 : ByteArray) : Option Int := q_s_CellAt n (a0, a1, ())
noncomputable def r_s_CellAt_2 (n : Nat) (x : KD k_s_CellAt_2.1) (y : BD k_s_CellAt_2.2) := rounds (env (false, false, []) l_s_CellAt) kp_s_CellAt (body Try.f179) (finX (false, false, []) l_s_CellAt [none] Try.f179 (shV tInt) [.val tSlICell (zeroD tSlICell), .val tString (zeroD tString)]) n 2 k_s_CellAt_2 x y
noncomputable def R_s_CellAt_2 (n : Nat) (s0 : DSlICell) (s1 : ByteArray) (s5 : Int) : Option Int := r_s_CellAt_2 n (s0, s1, s5, ()) ()
theorem Q_s_CellAt_eq (n : Nat) (a0 : DSlICell) (a1 : ByteArray) : Q_s_CellAt n a0 a1 =
    R_s_CellAt_2 n a0 a1 (0 : Int) := by kernel_rfl
theorem R_s_CellAt_2_eq (n : Nat) (s0 : DSlICell) (s1 : ByteArray) (s5 : Int) : R_s_CellAt_2 (n + 1) s0 s1 s5 =
    bif decide (s5 < (↑(List.length s0) : Int)) then
 if (0 : Int) ≤ s5 then
 (nth s0 s5.toNat).bind fun y =>
 bif decide (y.fst = s1) then some s5 else R_s_CellAt_2 n s0 s1 (IntKind.i64.wrap (s5 + (1 : Int)))
 else none
 else some (-1 : Int) := by kernel_rfl

end Go.Sx.Try

set_option maxRecDepth 100000
namespace Go.Sx.Try
open Go Go.Sx Go.Proofs

noncomputable def l_s_l03Put : List (Nat × Con) := []
theorem l_s_l03Put_ok : ∀ q ∈ l_s_l03Put, ConOk Try.prog q.1 q.2 := Try.cons_nil
abbrev k_s_l03Put_3 : List Keep × List BK := ([.ro tSlICell, .drop, .drop, .is (.ptr 0 0), .drop, .own tXstruct_Key_string_Num_int_, .ro tInt64, .drop, .drop, .drop, .drop, .drop, .drop, .drop, .drop, .drop, .drop, .drop, .drop, .drop, .drop, .drop, .drop, .drop, .drop, .drop, .drop, .drop, .drop, .drop, .drop, .drop, .drop, .drop, .drop, .drop, .drop, .drop, .drop, .drop, .drop, .drop, .drop, .drop, .drop, .drop, .drop, .drop, .drop, .drop, .drop, .drop, .drop, .drop, .drop, .drop], [.vars [.ro tString, .ro tInt64]])
abbrev k_s_l03Put_9 : List Keep × List BK := ([.ro tSlICell, .drop, .drop, .is (.ptr 0 0), .drop, .own tXstruct_Key_string_Num_int_, .drop, .ro tInt64, .drop, .drop, .drop, .drop, .drop, .drop, .drop, .drop, .drop, .drop, .drop, .drop, .drop, .drop, .drop, .drop, .drop, .drop, .drop, .drop, .drop, .drop, .drop, .drop, .drop, .drop, .drop, .drop, .drop, .drop, .drop, .drop, .drop, .drop, .drop, .drop, .drop, .drop, .drop, .drop, .drop, .drop, .drop, .drop, .drop, .drop, .drop, .drop], [.vars [.ro tString, .ro tInt64]])
def kp_s_l03Put : KP := [(3, k_s_l03Put_3), (9, k_s_l03Put_9)]
noncomputable def q_s_l03Put (n : Nat) (x : Args [tSlICell, tICell]) := evX (false, false, [3, 20, 45]) l_s_l03Put kp_s_l03Put [some uSlICell] Try.f180 (shF uSlICell) n (encA [tSlICell, tICell] x)
noncomputable def c_s_l03Put : Con := roS [tSlICell, tICell] true (shF uSlICell) (q_s_l03Put big)
theorem c_s_l03Put_ok : ConOk Try.prog 180 c_s_l03Put := roS_ok ⟨Try.f180, by kernel_rfl, rfl, by decide⟩ fun _ _ h => evX_ok l_s_l03Put_ok (f := Try.f180) (by kernel_rfl) rfl (by kernel_rfl) (by kernel_rfl) big h
noncomputable def Q_s_l03Put (n : Nat) (a0 : DSlICell) (a1 : DICell) : Option DSlICell := q_s_l03Put n (a0, a1, ())
noncomputable def r_s_l03Put_3 (n : Nat) (x : KD k_s_l03Put_3.1) (y : BD k_s_l03Put_3.2) := rounds (env (false, false, [3, 20, 45]) l_s_l03Put) kp_s_l03Put (body Try.f180) (finX (false, false, [3, 20, 45]) l_s_l03Put [some uSlICell] Try.f180 (shF uSlICell) [.val tSlICell (zeroD tSlICell), .val tICell (zeroD tICell)]) n 3 k_s_l03Put_3 x y
noncomputable def R_s_l03Put_3 (n : Nat) (s0 : DSlICell) (s5 : (List DXstruct_Key_string_Num_int_)) (s6 : Int) (b0_0 : ByteArray) (b0_1 : Int) : Option DSlICell := r_s_l03Put_3 n (s0, s5, s6, ()) ((b0_0, b0_1, ()), ())
noncomputable def r_s_l03Put_9 (n : Nat) (x : KD k_s_l03Put_9.1) (y : BD k_s_l03Put_9.2) := rounds (env (false, false, [3, 20, 45]) l_s_l03Put) kp_s_l03Put (body Try.f180) (finX (false, false, [3, 20, 45]) l_s_l03Put [some uSlICell] Try.f180 (shF uSlICell) [.val tSlICell (zeroD tSlICell), .val tICell (zeroD tICell)]) n 9 k_s_l03Put_9 x y
noncomputable def R_s_l03Put_9 (n : Nat) (s0 : DSlICell) (s5 : (List DXstruct_Key_string_Num_int_)) (s7 : Int) (b0_0 : ByteArray) (b0_1 : Int) : Option DSlICell := r_s_l03Put_9 n (s0, s5, s7, ()) ((b0_0, b0_1, ()), ())
theorem Q_s_l03Put_eq (n : Nat) (a0 : DSlICell) (a1 : DICell) : Q_s_l03Put n a0 a1 =
    R_s_l03Put_3 n a0 [] (0 : Int) a1.fst a1.snd.fst := by kernel_rfl
theorem R_s_l03Put_3_eq (n : Nat) (s0 : DSlICell) (s5 : (List DXstruct_Key_string_Num_int_)) (s6 : Int) (b0_0 : ByteArray) (b0_1 : Int) : R_s_l03Put_3 (n + 1) s0 s5 s6 b0_0 b0_1 =
    bif decide (s6 < (↑(List.length s0) : Int)) then
 if (0 : Int) ≤ s6 then
 (nth s0 s6.toNat).bind fun y =>
 bif Op.bytesLess (ByteArray.toList y.fst) b0_0.toList then
 if (0 : Int) ≤ s6 then
 (nth s0 s6.toNat).bind fun y =>
 if s5.length + [y].length ≤ lim then
 R_s_l03Put_3 n s0 (s5.append [y]) (IntKind.i64.wrap (s6 + (1 : Int))) b0_0 b0_1
 else none
 else none
 else R_s_l03Put_3 n s0 s5 (IntKind.i64.wrap (s6 + (1 : Int))) b0_0 b0_1
 else none
 else
 if s5.length + [(b0_0, b0_1, ())].length ≤ lim then
 R_s_l03Put_9 n s0 (s5.append [(b0_0, b0_1, ())]) (0 : Int) b0_0 b0_1
 else none := by kernel_rfl
theorem R_s_l03Put_9_eq (n : Nat) (s0 : DSlICell) (s5 : (List DXstruct_Key_string_Num_int_)) (s7 : Int) (b0_0 : ByteArray) (b0_1 : Int) : R_s_l03Put_9 (n + 1) s0 s5 s7 b0_0 b0_1 =
    bif decide (s7 < (↑(List.length s0) : Int)) then
 if (0 : Int) ≤ s7 then
 (nth s0 s7.toNat).bind fun y =>
 bif !(Op.bytesLess (ByteArray.toList y.fst) b0_0.toList || decide (y.fst = b0_0)) then
 if (0 : Int) ≤ s7 then
 (nth s0 s7.toNat).bind fun y =>
 if s5.length + [y].length ≤ lim then
 R_s_l03Put_9 n s0 (s5.append [y]) (IntKind.i64.wrap (s7 + (1 : Int))) b0_0 b0_1
 else none
 else none
 else R_s_l03Put_9 n s0 s5 (IntKind.i64.wrap (s7 + (1 : Int))) b0_0 b0_1
 else none
 else some s5 := by kernel_rfl

end Go.Sx.Try

set_option maxRecDepth 100000
namespace Go.Sx.Try
open Go Go.Sx Go.Proofs

noncomputable def l_s_Done : List (Nat × Con) := [(178, c_s_CellsOk), (113, c_s_CmdOk), (179, c_s_CellAt), (95, c_s_l01In), (180, c_s_l03Put)]
theorem l_s_Done_ok : ∀ q ∈ l_s_Done, ConOk Try.prog q.1 q.2 := Try.cons_cons c_s_CellsOk_ok (Try.cons_cons c_s_CmdOk_ok (Try.cons_cons c_s_CellAt_ok (Try.cons_cons c_s_l01In_ok (Try.cons_cons c_s_l03Put_ok (Try.cons_nil)))))
def kp_s_Done : KP := []
noncomputable def q_s_Done (n : Nat) (x : Args [tSlICell, tICmd]) := evX (false, false, [3, 22, 25, 27, 38, 41, 49, 66]) l_s_Done kp_s_Done [some uSlICell, none] Try.f169 (shT [(true, uSlICell), (false, tInt)]) n (encA [tSlICell, tICmd] x)
noncomputable def c_s_Done : Con := roS [tSlICell, tICmd] true (shT [(true, uSlICell), (false, tInt)]) (q_s_Done big)
theorem c_s_Done_ok : ConOk Try.prog 169 c_s_Done := roS_ok ⟨Try.f169, by kernel_rfl, rfl, by decide⟩ fun _ _ h => evX_ok l_s_Done_ok (f := Try.f169) (by kernel_rfl) rfl (by kernel_rfl) (by kernel_rfl) big h
noncomputable def Q_s_Done (n : Nat) (a0 : DSlICell) (a1 : DICmd) : Option (DSlICell × Int × Unit) := q_s_Done n (a0, a1, ())
theorem Q_s_Done_eq (n : Nat) (a0 : DSlICell) (a1 : DICmd) : Q_s_Done n a0 a1 =
    if (0 : Nat) + List.length a0 ≤ lim then
 (Q_s_CellsOk big a0).bind fun y =>
 bif !y then some (a0, (2 : Int), PUnit.unit)
 else
 (Q_s_CmdOk big a1).bind fun y =>
 bif !y then some (a0, (2 : Int), PUnit.unit)
 else
 (Q_s_CellAt big a0 a1.snd.fst).bind fun y =>
 bif !decide (a1.fst = (1 : Int)) then
 bif decide (y < (0 : Int)) then some (a0, (1 : Int), PUnit.unit)
 else
 if (0 : Int) ≤ y then
 (nth a0 (Int.toNat y)).bind fun y_1 =>
 bif decide (a1.fst = (3 : Int)) then
 if (0 : Int) ≤ y then
 (nth a0 (Int.toNat y)).bind fun y_2 =>
 (Q_s_l01In big (IntKind.i64.wrap (y_2.snd.fst - a1.snd.snd.fst)) (0 : Int)
 (1000000000 : Int)).bind
 fun y_3 =>
 bif !y_3 then some (a0, (2 : Int), PUnit.unit)
 else
 bif decide (y < (0 : Int)) then
 bif decide ((12 : Int) ≤ (↑(List.length a0) : Int)) then
 some (a0, (2 : Int), PUnit.unit)
 else
 (Q_s_l03Put big a0
 (a1.snd.fst, IntKind.i64.wrap (y_2.snd.fst - a1.snd.snd.fst), ())).bind
 fun y => some (y, (0 : Int), PUnit.unit)
 else
 (Q_s_l03Put big a0
 (a1.snd.fst, IntKind.i64.wrap (y_2.snd.fst - a1.snd.snd.fst), ())).bind
 fun y => some (y, (0 : Int), PUnit.unit)
 else none
 else
 (Q_s_l01In big (IntKind.i64.wrap (y_1.snd.fst + a1.snd.snd.fst)) (0 : Int)
 (1000000000 : Int)).bind
 fun y_2 =>
 bif !y_2 then some (a0, (2 : Int), PUnit.unit)
 else
 bif decide (y < (0 : Int)) then
 bif decide ((12 : Int) ≤ (↑(List.length a0) : Int)) then some (a0, (2 : Int), PUnit.unit)
 else
 (Q_s_l03Put big a0
 (a1.snd.fst, IntKind.i64.wrap (y_1.snd.fst + a1.snd.snd.fst), ())).bind
 fun y => some (y, (0 : Int), PUnit.unit)
 else
 (Q_s_l03Put big a0 (a1.snd.fst, IntKind.i64.wrap (y_1.snd.fst + a1.snd.snd.fst), ())).bind
 fun y => some (y, (0 : Int), PUnit.unit)
 else none
 else
 (Q_s_l01In big a1.snd.snd.fst (0 : Int) (1000000000 : Int)).bind fun y_1 =>
 bif !y_1 then some (a0, (2 : Int), PUnit.unit)
 else
 bif decide (y < (0 : Int)) then
 bif decide ((12 : Int) ≤ (↑(List.length a0) : Int)) then some (a0, (2 : Int), PUnit.unit)
 else (Q_s_l03Put big a0 a1.snd).bind fun y => some (y, (0 : Int), PUnit.unit)
 else (Q_s_l03Put big a0 a1.snd).bind fun y => some (y, (0 : Int), PUnit.unit)
 else none := by kernel_rfl

end Go.Sx.Try

set_option maxRecDepth 100000
namespace Go.Sx.Try
open Go Go.Sx Go.Proofs

noncomputable def l_i_DoneAll : List (Nat × Con) := [(153, c_g_Clone_ICell), (170, c_i_Done)]
theorem l_i_DoneAll_ok : ∀ q ∈ l_i_DoneAll, ConOk Try.prog q.1 q.2 := Try.cons_cons c_g_Clone_ICell_ok (Try.cons_cons c_i_Done_ok (Try.cons_nil))
abbrev k_i_DoneAll_4 : List Keep × List BK := ([.drop, .drop, .drop, .drop, .drop, .drop, .own tXstruct_Key_string_Num_int_, .own tInt64, .drop, .drop, .drop, .drop, .drop, .drop, .drop, .ro tSlLCmd, .ro tInt64, .ro tInt64, .drop, .drop, .drop, .drop, .drop, .drop, .drop, .drop, .drop, .drop, .drop, .drop, .drop, .drop, .drop, .drop, .drop], [])
def kp_i_DoneAll : KP := [(4, k_i_DoneAll_4)]
noncomputable def q_i_DoneAll (n : Nat) (x : Args [tSlICell, tSlICmd]) := evX (false, false, [9, 999997]) l_i_DoneAll kp_i_DoneAll [some uSlICell, some uSlInt] Try.f136 (shT [(true, uSlICell), (true, uSlInt)]) n (encA [tSlICell, tSlICmd] x)
noncomputable def c_i_DoneAll : Con := roS [tSlICell, tSlICmd] true (shT [(true, uSlICell), (true, uSlInt)]) (q_i_DoneAll big)
theorem c_i_DoneAll_ok : ConOk Try.prog 136 c_i_DoneAll := roS_ok ⟨Try.f136, by kernel_rfl, rfl, by decide⟩ fun _ _ h => evX_ok l_i_DoneAll_ok (f := Try.f136) (by kernel_rfl) rfl (by kernel_rfl) (by kernel_rfl) big h
noncomputable def Q_i_DoneAll (n : Nat) (a0 : DSlICell) (a1 : DSlICmd) : Option (DSlICell × DSlInt × Unit) := q_i_DoneAll n (a0, a1, ())
noncomputable def r_i_DoneAll_4 (n : Nat) (x : KD k_i_DoneAll_4.1) (y : BD k_i_DoneAll_4.2) := rounds (env (false, false, [9, 999997]) l_i_DoneAll) kp_i_DoneAll (body Try.f136) (finX (false, false, [9, 999997]) l_i_DoneAll [some uSlICell, some uSlInt] Try.f136 (shT [(true, uSlICell), (true, uSlInt)]) [.val tSlICell (zeroD tSlICell), .val tSlICmd (zeroD tSlICmd)]) n 4 k_i_DoneAll_4 x y
noncomputable def R_i_DoneAll_4 (n : Nat) (s6 : (List DXstruct_Key_string_Num_int_)) (s7 : (List Int)) (s15 : DSlLCmd) (s16 : Int) (s17 : Int) : Option (DSlICell × DSlInt × Unit) := r_i_DoneAll_4 n (s6, s7, s15, s16, s17, ()) ()
theorem Q_i_DoneAll_eq (n : Nat) (a0 : DSlICell) (a1 : DSlICmd) : Q_i_DoneAll n a0 a1 =
    (Q_g_Clone_ICell big a0).bind fun y => R_i_DoneAll_4 n y [] a1 (↑(List.length a1) : Int) (0 : Int) := by kernel_rfl
theorem R_i_DoneAll_4_eq (n : Nat) (s6 : (List DXstruct_Key_string_Num_int_)) (s7 : (List Int)) (s15 : DSlLCmd) (s16 : Int) (s17 : Int) : R_i_DoneAll_4 (n + 1) s6 s7 s15 s16 s17 =
    bif decide (s17 < s16) then
 if (0 : Int) ≤ s17 then
 (nth s15 s17.toNat).bind fun y =>
 (Q_i_Done big s6 y).bind fun y =>
 if s7.length + (1 : Nat) ≤ lim2 then
 R_i_DoneAll_4 n y.fst (s7.append [y.snd.fst]) s15 s16 (IntKind.i64.wrap (s17 + (1 : Int)))
 else none
 else none
 else some (s6, s7, PUnit.unit) := by kernel_rfl

end Go.Sx.Try

set_option maxRecDepth 100000
namespace Go.Sx.Try
open Go Go.Sx Go.Proofs

noncomputable def l_s_DoneAll : List (Nat × Con) := [(169, c_s_Done)]
theorem l_s_DoneAll_ok : ∀ q ∈ l_s_DoneAll, ConOk Try.prog q.1 q.2 := Try.cons_cons c_s_Done_ok (Try.cons_nil)
abbrev k_s_DoneAll_4 : List Keep × List BK := ([.drop, .ro tSlLCmd, .drop, .drop, .drop, .drop, .own tXstruct_Key_string_Num_int_, .own tInt64, .ro tInt64, .drop, .drop, .drop, .drop, .drop, .drop, .drop, .drop, .drop, .drop, .drop, .drop, .drop, .drop, .drop, .drop, .drop, .drop, .drop, .drop, .drop, .drop, .drop, .drop, .drop, .drop, .drop, .drop], [])
def kp_s_DoneAll : KP := [(4, k_s_DoneAll_4)]
noncomputable def q_s_DoneAll (n : Nat) (x : Args [tSlICell, tSlICmd]) := evX (false, false, []) l_s_DoneAll kp_s_DoneAll [some uSlICell, some uSlInt] Try.f134 (shT [(true, uSlICell), (true, uSlInt)]) n (encA [tSlICell, tSlICmd] x)
noncomputable def c_s_DoneAll : Con := roS [tSlICell, tSlICmd] true (shT [(true, uSlICell), (true, uSlInt)]) (q_s_DoneAll big)
theorem c_s_DoneAll_ok : ConOk Try.prog 134 c_s_DoneAll := roS_ok ⟨Try.f134, by kernel_rfl, rfl, by decide⟩ fun _ _ h => evX_ok l_s_DoneAll_ok (f := Try.f134) (by kernel_rfl) rfl (by kernel_rfl) (by kernel_rfl) big h
noncomputable def Q_s_DoneAll (n : Nat) (a0 : DSlICell) (a1 : DSlICmd) : Option (DSlICell × DSlInt × Unit) := q_s_DoneAll n (a0, a1, ())
noncomputable def r_s_DoneAll_4 (n : Nat) (x : KD k_s_DoneAll_4.1) (y : BD k_s_DoneAll_4.2) := rounds (env (false, false, []) l_s_DoneAll) kp_s_DoneAll (body Try.f134) (finX (false, false, []) l_s_DoneAll [some uSlICell, some uSlInt] Try.f134 (shT [(true, uSlICell), (true, uSlInt)]) [.val tSlICell (zeroD tSlICell), .val tSlICmd (zeroD tSlICmd)]) n 4 k_s_DoneAll_4 x y
noncomputable def R_s_DoneAll_4 (n : Nat) (s1 : DSlLCmd) (s6 : (List DXstruct_Key_string_Num_int_)) (s7 : (List Int)) (s8 : Int) : Option (DSlICell × DSlInt × Unit) := r_s_DoneAll_4 n (s1, s6, s7, s8, ()) ()
theorem Q_s_DoneAll_eq (n : Nat) (a0 : DSlICell) (a1 : DSlICmd) : Q_s_DoneAll n a0 a1 =
    if (0 : Nat) + List.length a0 ≤ lim then R_s_DoneAll_4 n a1 a0 [] (0 : Int) else none := by kernel_rfl
theorem R_s_DoneAll_4_eq (n : Nat) (s1 : DSlLCmd) (s6 : (List DXstruct_Key_string_Num_int_)) (s7 : (List Int)) (s8 : Int) : R_s_DoneAll_4 (n + 1) s1 s6 s7 s8 =
    bif decide (s8 < (↑(List.length s1) : Int)) then
 if (0 : Int) ≤ s8 then
 (nth s1 s8.toNat).bind fun y =>
 (Q_s_Done big s6 y).bind fun y =>
 if s7.length + (1 : Nat) ≤ lim then
 R_s_DoneAll_4 n s1 y.fst (s7.append [y.snd.fst]) (IntKind.i64.wrap (s8 + (1 : Int)))
 else none
 else none
 else some (s6, s7, PUnit.unit) := by kernel_rfl

end Go.Sx.Try

set_option maxRecDepth 100000
namespace Go.Sx.Try
open Go Go.Sx Go.Proofs

noncomputable def l_i_cmdsOf : List (Nat × Con) := [(98, c_i_in)]
theorem l_i_cmdsOf_ok : ∀ q ∈ l_i_cmdsOf, ConOk Try.prog q.1 q.2 := Try.cons_cons c_i_in_ok (Try.cons_nil)
abbrev k_i_cmdsOf_3 : List Keep × List BK := ([.ro tSlLBlock, .drop, .drop, .drop, .drop, .own tXstruct_Kind_int_Key_string_Num_int_, .drop, .drop, .drop, .ro tSlInt, .ro tInt64, .ro tInt64, .drop, .drop, .drop, .drop, .drop, .drop, .drop, .drop, .drop, .drop, .drop, .drop, .drop, .drop, .drop, .drop, .drop], [])
def kp_i_cmdsOf : KP := [(3, k_i_cmdsOf_3)]
noncomputable def q_i_cmdsOf (n : Nat) (x : Args [tSlIBlock, tSlInt]) := evX (false, false, [999997]) l_i_cmdsOf kp_i_cmdsOf [some uSlICmd] Try.f137 (shF uSlICmd) n (encA [tSlIBlock, tSlInt] x)
noncomputable def c_i_cmdsOf : Con := roS [tSlIBlock, tSlInt] true (shF uSlICmd) (q_i_cmdsOf big)
theorem c_i_cmdsOf_ok : ConOk Try.prog 137 c_i_cmdsOf := roS_ok ⟨Try.f137, by kernel_rfl, rfl, by decide⟩ fun _ _ h => evX_ok l_i_cmdsOf_ok (f := Try.f137) (by kernel_rfl) rfl (by kernel_rfl) (by kernel_rfl) big h
noncomputable def Q_i_cmdsOf (n : Nat) (a0 : DSlIBlock) (a1 : DSlInt) : Option DSlICmd := q_i_cmdsOf n (a0, a1, ())
noncomputable def r_i_cmdsOf_3 (n : Nat) (x : KD k_i_cmdsOf_3.1) (y : BD k_i_cmdsOf_3.2) := rounds (env (false, false, [999997]) l_i_cmdsOf) kp_i_cmdsOf (body Try.f137) (finX (false, false, [999997]) l_i_cmdsOf [some uSlICmd] Try.f137 (shF uSlICmd) [.val tSlIBlock (zeroD tSlIBlock), .val tSlInt (zeroD tSlInt)]) n 3 k_i_cmdsOf_3 x y
noncomputable def R_i_cmdsOf_3 (n : Nat) (s0 : DSlLBlock) (s5 : (List DXstruct_Kind_int_Key_string_Num_int_)) (s9 : DSlInt) (s10 : Int) (s11 : Int) : Option DSlICmd := r_i_cmdsOf_3 n (s0, s5, s9, s10, s11, ()) ()
theorem Q_i_cmdsOf_eq (n : Nat) (a0 : DSlIBlock) (a1 : DSlInt) : Q_i_cmdsOf n a0 a1 =
    R_i_cmdsOf_3 n a0 [] a1 (↑(List.length a1) : Int) (0 : Int) := by kernel_rfl
theorem R_i_cmdsOf_3_eq (n : Nat) (s0 : DSlLBlock) (s5 : (List DXstruct_Kind_int_Key_string_Num_int_)) (s9 : DSlInt) (s10 : Int) (s11 : Int) : R_i_cmdsOf_3 (n + 1) s0 s5 s9 s10 s11 =
    bif decide (s11 < s10) then
 if (0 : Int) ≤ s11 then
 (nth s9 s11.toNat).bind fun y =>
 (Q_i_in big y (0 : Int) (IntKind.i64.wrap ((↑(List.length s0) : Int) - (1 : Int)))).bind fun y_1 =>
 bif y_1 then
 if (0 : Int) ≤ y then
 (nth s0 (Int.toNat y)).bind fun y =>
 if s5.length + List.length y.snd.snd.fst ≤ lim2 then
 R_i_cmdsOf_3 n s0 (s5.append y.snd.snd.fst) s9 s10 (IntKind.i64.wrap (s11 + (1 : Int)))
 else none
 else none
 else R_i_cmdsOf_3 n s0 s5 s9 s10 (IntKind.i64.wrap (s11 + (1 : Int)))
 else none
 else some s5 := by kernel_rfl

end Go.Sx.Try

set_option maxRecDepth 100000
namespace Go.Sx.Try
open Go Go.Sx Go.Proofs

noncomputable def l_i_RowCells : List (Nat × Con) := [(137, c_i_cmdsOf), (136, c_i_DoneAll)]
theorem l_i_RowCells_ok : ∀ q ∈ l_i_RowCells, ConOk Try.prog q.1 q.2 := Try.cons_cons c_i_cmdsOf_ok (Try.cons_cons c_i_DoneAll_ok (Try.cons_nil))
def kp_i_RowCells : KP := []
noncomputable def q_i_RowCells (n : Nat) (x : Args [tSlIBlock, tSlInt]) := evX (false, false, []) l_i_RowCells kp_i_RowCells [some uSlICell] Try.f60 (shF uSlICell) n (encA [tSlIBlock, tSlInt] x)
noncomputable def c_i_RowCells : Con := roS [tSlIBlock, tSlInt] true (shF uSlICell) (q_i_RowCells big)
theorem c_i_RowCells_ok : ConOk Try.prog 60 c_i_RowCells := roS_ok ⟨Try.f60, by kernel_rfl, rfl, by decide⟩ fun _ _ h => evX_ok l_i_RowCells_ok (f := Try.f60) (by kernel_rfl) rfl (by kernel_rfl) (by kernel_rfl) big h
noncomputable def Q_i_RowCells (n : Nat) (a0 : DSlIBlock) (a1 : DSlInt) : Option DSlICell := q_i_RowCells n (a0, a1, ())
theorem Q_i_RowCells_eq (n : Nat) (a0 : DSlIBlock) (a1 : DSlInt) : Q_i_RowCells n a0 a1 =
    (Q_i_cmdsOf big a0 a1).bind fun y => (Q_i_DoneAll big [] y).bind fun y => some y.fst := by kernel_rfl

end Go.Sx.Try

set_option maxRecDepth 100000
namespace Go.Sx.Try
open Go Go.Sx Go.Proofs

noncomputable def l_s_RowCells : List (Nat × Con) := [(95, c_s_l01In), (134, c_s_DoneAll)]
theorem l_s_RowCells_ok : ∀ q ∈ l_s_RowCells, ConOk Try.prog q.1 q.2 := Try.cons_cons c_s_l01In_ok (Try.cons_cons c_s_DoneAll_ok (Try.cons_nil))
abbrev k_s_RowCells_3 : List Keep × List BK := ([.ro tSlLBlock, .ro tSlInt, .drop, .drop, .drop, .own tXstruct_Key_string_Num_int_, .ro tInt64, .drop, .drop, .drop, .drop, .drop, .drop, .drop, .drop, .drop, .drop, .drop, .drop, .drop, .drop, .drop, .drop, .drop, .drop, .drop, .drop, .drop, .drop, .drop, .drop, .drop, .drop, .drop, .drop, .drop], [])
def kp_s_RowCells : KP := [(3, k_s_RowCells_3)]
noncomputable def q_s_RowCells (n : Nat) (x : Args [tSlIBlock, tSlInt]) := evX (false, false, []) l_s_RowCells kp_s_RowCells [some uSlICell] Try.f57 (shF uSlICell) n (encA [tSlIBlock, tSlInt] x)
noncomputable def c_s_RowCells : Con := roS [tSlIBlock, tSlInt] true (shF uSlICell) (q_s_RowCells big)
theorem c_s_RowCells_ok : ConOk Try.prog 57 c_s_RowCells := roS_ok ⟨Try.f57, by kernel_rfl, rfl, by decide⟩ fun _ _ h => evX_ok l_s_RowCells_ok (f := Try.f57) (by kernel_rfl) rfl (by kernel_rfl) (by kernel_rfl) big h
noncomputable def Q_s_RowCells (n : Nat) (a0 : DSlIBlock) (a1 : DSlInt) : Option DSlICell := q_s_RowCells n (a0, a1, ())
noncomputable def r_s_RowCells_3 (n : Nat) (x : KD k_s_RowCells_3.1) (y : BD k_s_RowCells_3.2) := rounds (env (false, false, []) l_s_RowCells) kp_s_RowCells (body Try.f57) (finX (false, false, []) l_s_RowCells [some uSlICell] Try.f57 (shF uSlICell) [.val tSlIBlock (zeroD tSlIBlock), .val tSlInt (zeroD tSlInt)]) n 3 k_s_RowCells_3 x y
noncomputable def R_s_RowCells_3 (n : Nat) (s0 : DSlLBlock) (s1 : DSlInt) (s5 : (List DXstruct_Key_string_Num_int_)) (s6 : Int) : Option DSlICell := r_s_RowCells_3 n (s0, s1, s5, s6, ()) ()
theorem Q_s_RowCells_eq (n : Nat) (a0 : DSlIBlock) (a1 : DSlInt) : Q_s_RowCells n a0 a1 =
    R_s_RowCells_3 n a0 a1 [] (0 : Int) := by kernel_rfl
theorem R_s_RowCells_3_eq (n : Nat) (s0 : DSlLBlock) (s1 : DSlInt) (s5 : (List DXstruct_Key_string_Num_int_)) (s6 : Int) : R_s_RowCells_3 (n + 1) s0 s1 s5 s6 =
    bif decide (s6 < (↑(List.length s1) : Int)) then
 if (0 : Int) ≤ s6 then
 (nth s1 s6.toNat).bind fun y =>
 (Q_s_l01In big y (0 : Int) (IntKind.i64.wrap ((↑(List.length s0) : Int) - (1 : Int)))).bind fun y =>
 bif y then
 if (0 : Int) ≤ s6 then
 (nth s1 s6.toNat).bind fun y =>
 if (0 : Int) ≤ y then
 (nth s0 (Int.toNat y)).bind fun y =>
 (Q_s_DoneAll big s5 y.snd.snd.fst).bind fun y =>
 R_s_RowCells_3 n s0 s1 y.fst (IntKind.i64.wrap (s6 + (1 : Int)))
 else none
 else none
 else R_s_RowCells_3 n s0 s1 s5 (IntKind.i64.wrap (s6 + (1 : Int)))
 else none
 else some s5 := by kernel_rfl

end Go.Sx.Try

set_option maxRecDepth 100000
namespace Go.Sx.Try
open Go Go.Sx Go.Proofs

noncomputable def l_l_FnExactRowCells : List (Nat × Con) := [(56, c_l_szBlockS), (58, c_l_toBlockS), (59, c_l_toIntS), (57, c_s_RowCells), (60, c_i_RowCells), (61, c_l_eqCellS), (62, c_l_eqBlockS), (63, c_l_eqIntS), (64, c_l_markBlockS), (65, c_l_markIntS), (66, c_l_markCellS), (67, c_l_heldCellS)]
theorem l_l_FnExactRowCells_ok : ∀ q ∈ l_l_FnExactRowCells, ConOk Try.prog q.1 q.2 := Try.cons_cons c_l_szBlockS_ok (Try.cons_cons c_l_toBlockS_ok (Try.cons_cons c_l_toIntS_ok (Try.cons_cons c_s_RowCells_ok (Try.cons_cons c_i_RowCells_ok (Try.cons_cons c_l_eqCellS_ok (Try.cons_cons c_l_eqBlockS_ok (Try.cons_cons c_l_eqIntS_ok (Try.cons_cons c_l_markBlockS_ok (Try.cons_cons c_l_markIntS_ok (Try.cons_cons c_l_markCellS_ok (Try.cons_cons c_l_heldCellS_ok (Try.cons_nil))))))))))))
def kp_l_FnExactRowCells : KP := []
noncomputable def q_l_FnExactRowCells (n : Nat) (x : Args [tSlLBlock, tSlInt]) := evX (false, false, []) l_l_FnExactRowCells kp_l_FnExactRowCells [none] Try.f14 (shV tBool) n (encA [tSlLBlock, tSlInt] x)
noncomputable def c_l_FnExactRowCells : Con := roS [tSlLBlock, tSlInt] true (shV tBool) (q_l_FnExactRowCells big)
theorem c_l_FnExactRowCells_ok : ConOk Try.prog 14 c_l_FnExactRowCells := roS_ok ⟨Try.f14, by kernel_rfl, rfl, by decide⟩ fun _ _ h => evX_ok l_l_FnExactRowCells_ok (f := Try.f14) (by kernel_rfl) rfl (by kernel_rfl) (by kernel_rfl) big h
noncomputable def Q_l_FnExactRowCells (n : Nat) (a0 : DSlLBlock) (a1 : DSlInt) : Option Bool := q_l_FnExactRowCells n (a0, a1, ())
theorem Q_l_FnExactRowCells_eq (n : Nat) (a0 : DSlLBlock) (a1 : DSlInt) : Q_l_FnExactRowCells n a0 a1 =
    bif decide ((1048576 : Int) < (↑(List.length a1) : Int)) then some true
 else
 (Q_l_szBlockS big a0 (1048576 : Int)).bind fun y =>
 bif decide (y < (0 : Int)) then some true
 else
 (Q_l_toBlockS big a0).bind fun y =>
 (Q_l_toIntS big a1).bind fun y_1 =>
 (Q_s_RowCells big y y_1).bind fun y =>
 (Q_l_toBlockS big a0).bind fun y_2 =>
 (Q_l_toIntS big a1).bind fun y_3 =>
 (Q_i_RowCells big y_2 y_3).bind fun y_4 =>
 (Q_l_eqCellS big y_4 y).bind fun y_5 =>
 bif !y_5 then some false
 else
 (Q_l_toBlockS big a0).bind fun y_6 =>
 (Q_l_eqBlockS big y_2 y_6).bind fun y_7 =>
 bif !y_7 then some false
 else
 (Q_l_toIntS big a1).bind fun y_8 =>
 (Q_l_eqIntS big y_3 y_8).bind fun y_9 =>
 bif !y_9 then some false
 else
 (Q_l_markBlockS big y_2 (1 : Int)).bind fun y_10 =>
 (Q_l_markIntS big y_3 y_10.fst).bind fun y_11 =>
 bif decide (y_11.fst < (0 : Int)) then some false
 else
 (Q_l_eqCellS big y_4 y).bind fun y_12 =>
 bif !y_12 then some false
 else
 (Q_l_markCellS big y_4 (1 : Int)).bind fun y_13 =>
 (Q_l_heldCellS big y_13.snd.fst (1 : Int)).bind fun y_14 =>
 bif decide (y_14 < (0 : Int)) then some false
 else
 bif !decide (y_14 = y_13.fst) then some false
 else
 (Q_l_toBlockS big a0).bind fun y_15 =>
 (Q_l_toIntS big a1).bind fun y_16 =>
 (Q_i_RowCells big y_15 y_16).bind fun y_17 =>
 (Q_l_eqCellS big y_17 y).bind fun y =>
 bif !y then some false
 else
 (Q_l_heldCellS big y_13.snd.fst (1 : Int)).bind fun y =>
 bif decide (y < (0 : Int)) then some false
 else
 bif !decide (y = y_13.fst) then some false
 else some true := by kernel_rfl

end Go.Sx.Try
