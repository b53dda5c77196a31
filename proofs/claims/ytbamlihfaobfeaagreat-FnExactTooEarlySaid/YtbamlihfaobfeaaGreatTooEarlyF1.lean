/- The functions of the seat: what each comes to. -/
import Derived.Test.YtbamlihfaobfeaaGreatTypes
import Derived.Shelf.RegionOpenPlain
import Derived.WalkKit
import Derived.Lib.Walk
import Derived.Lib.SliceRun
import Derived.Lib.JoinLaws
import Derived.Lib.AppendZeros
import Derived.Lib.AppendZerosOnto
import Derived.Lib.Overlaps
import Derived.Laws.Externs
import Derived.Laws.IdiomCopy
import Derived.Laws.NewBlocks
import Derived.Shelf.Spec.SlicesInsert
set_option linter.unusedVariables false
set_option linter.unusedSimpArgs false
set_option maxRecDepth 100000
namespace Go.Sx.Tryz
open Go Go.Sx Go.Proofs

noncomputable def l_l_szCmd : List (Nat × Con) := []
theorem l_l_szCmd_ok : ∀ q ∈ l_l_szCmd, ConOk Tryz.prog q.1 q.2 := Tryz.cons_nil
def kp_l_szCmd : KP := []
noncomputable def q_l_szCmd (n : Nat) (x : Args [tLCmd, tInt]) := evX (false, false, [2, 6]) l_l_szCmd kp_l_szCmd [none] Tryz.f96 (shV tInt) n (encA [tLCmd, tInt] x)
noncomputable def c_l_szCmd : Con := roS [tLCmd, tInt] true (shV tInt) (q_l_szCmd big)
theorem c_l_szCmd_ok : ConOk Tryz.prog 96 c_l_szCmd := roS_ok ⟨Tryz.f96, by kernel_rfl, rfl, by decide⟩ fun _ _ h => evX_ok l_l_szCmd_ok (f := Tryz.f96) (by kernel_rfl) rfl (by kernel_rfl) (by kernel_rfl) big h
noncomputable def Q_l_szCmd (n : Nat) (a0 : DLCmd) (a1 : Int) : Option Int := q_l_szCmd n (a0, a1, ())
theorem Q_l_szCmd_eq (n : Nat) (a0 : DLCmd) (a1 : Int) : Q_l_szCmd n a0 a1 =
    bif decide (IntKind.i64.wrap (a1 - (↑(ByteArray.size a0.snd.fst) : Int)) < (0 : Int)) then some (-1 : Int)
 else some (IntKind.i64.wrap (a1 - (↑(ByteArray.size a0.snd.fst) : Int))) := by kernel_rfl

end Go.Sx.Tryz

set_option maxRecDepth 100000
namespace Go.Sx.Tryz
open Go Go.Sx Go.Proofs

noncomputable def l_l_szCmdS : List (Nat × Con) := [(96, c_l_szCmd)]
theorem l_l_szCmdS_ok : ∀ q ∈ l_l_szCmdS, ConOk Tryz.prog q.1 q.2 := Tryz.cons_cons c_l_szCmd_ok (Tryz.cons_nil)
abbrev k_l_szCmdS_5 : List Keep × List BK := ([.ro tSlLCmd, .ro tInt64, .drop, .drop, .drop, .ro tInt64, .drop, .drop, .drop, .drop, .drop, .drop, .drop, .drop, .drop, .drop, .drop, .drop, .drop, .drop, .drop, .drop, .drop, .drop, .drop, .drop, .drop], [])
def kp_l_szCmdS : KP := [(5, k_l_szCmdS_5)]
noncomputable def q_l_szCmdS (n : Nat) (x : Args [tSlLCmd, tInt]) := evX (false, false, []) l_l_szCmdS kp_l_szCmdS [none] Tryz.f66 (shV tInt) n (encA [tSlLCmd, tInt] x)
noncomputable def c_l_szCmdS : Con := roS [tSlLCmd, tInt] true (shV tInt) (q_l_szCmdS big)
theorem c_l_szCmdS_ok : ConOk Tryz.prog 66 c_l_szCmdS := roS_ok ⟨Tryz.f66, by kernel_rfl, rfl, by decide⟩ fun _ _ h => evX_ok l_l_szCmdS_ok (f := Tryz.f66) (by kernel_rfl) rfl (by kernel_rfl) (by kernel_rfl) big h
noncomputable def Q_l_szCmdS (n : Nat) (a0 : DSlLCmd) (a1 : Int) : Option Int := q_l_szCmdS n (a0, a1, ())
noncomputable def r_l_szCmdS_5 (n : Nat) (x : KD k_l_szCmdS_5.1) (y : BD k_l_szCmdS_5.2) := rounds (env (false, false, []) l_l_szCmdS) kp_l_szCmdS (body Tryz.f66) (finX (false, false, []) l_l_szCmdS [none] Tryz.f66 (shV tInt) [.val tSlLCmd (zeroD tSlLCmd), .val tInt (zeroD tInt)]) n 5 k_l_szCmdS_5 x y
noncomputable def R_l_szCmdS_5 (n : Nat) (s0 : DSlLCmd) (s1 : Int) (s5 : Int) : Option Int := r_l_szCmdS_5 n (s0, s1, s5, ()) ()
theorem Q_l_szCmdS_eq (n : Nat) (a0 : DSlLCmd) (a1 : Int) : Q_l_szCmdS n a0 a1 =
    bif decide (IntKind.i64.wrap (a1 - (↑(List.length a0) : Int)) < (0 : Int)) then some (-1 : Int)
 else R_l_szCmdS_5 n a0 (IntKind.i64.wrap (a1 - (↑(List.length a0) : Int))) (0 : Int) := by kernel_rfl
theorem R_l_szCmdS_5_eq (n : Nat) (s0 : DSlLCmd) (s1 : Int) (s5 : Int) : R_l_szCmdS_5 (n + 1) s0 s1 s5 =
    bif decide (s5 < (↑(List.length s0) : Int)) then
 if (0 : Int) ≤ s5 then
 (nth s0 s5.toNat).bind fun y =>
 (Q_l_szCmd big y s1).bind fun y =>
 bif decide (y < (0 : Int)) then some (-1 : Int) else R_l_szCmdS_5 n s0 y (IntKind.i64.wrap (s5 + (1 : Int)))
 else none
 else some s1 := by kernel_rfl

end Go.Sx.Tryz

set_option maxRecDepth 100000
namespace Go.Sx.Tryz
open Go Go.Sx Go.Proofs

noncomputable def l_l_szBlock : List (Nat × Con) := [(66, c_l_szCmdS)]
theorem l_l_szBlock_ok : ∀ q ∈ l_l_szBlock, ConOk Tryz.prog q.1 q.2 := Tryz.cons_cons c_l_szCmdS_ok (Tryz.cons_nil)
def kp_l_szBlock : KP := []
noncomputable def q_l_szBlock (n : Nat) (x : Args [tLBlock, tInt]) := evX (false, false, [2, 5]) l_l_szBlock kp_l_szBlock [none] Tryz.f18 (shV tInt) n (encA [tLBlock, tInt] x)
noncomputable def c_l_szBlock : Con := roS [tLBlock, tInt] true (shV tInt) (q_l_szBlock big)
theorem c_l_szBlock_ok : ConOk Tryz.prog 18 c_l_szBlock := roS_ok ⟨Tryz.f18, by kernel_rfl, rfl, by decide⟩ fun _ _ h => evX_ok l_l_szBlock_ok (f := Tryz.f18) (by kernel_rfl) rfl (by kernel_rfl) (by kernel_rfl) big h
noncomputable def Q_l_szBlock (n : Nat) (a0 : DLBlock) (a1 : Int) : Option Int := q_l_szBlock n (a0, a1, ())
theorem Q_l_szBlock_eq (n : Nat) (a0 : DLBlock) (a1 : Int) : Q_l_szBlock n a0 a1 =
    (Q_l_szCmdS big a0.snd.snd.fst a1).bind fun y => bif decide (y < (0 : Int)) then some (-1 : Int) else some y := by kernel_rfl

end Go.Sx.Tryz

set_option maxRecDepth 100000
namespace Go.Sx.Tryz
open Go Go.Sx Go.Proofs

noncomputable def l_l_szBlockS : List (Nat × Con) := [(18, c_l_szBlock)]
theorem l_l_szBlockS_ok : ∀ q ∈ l_l_szBlockS, ConOk Tryz.prog q.1 q.2 := Tryz.cons_cons c_l_szBlock_ok (Tryz.cons_nil)
abbrev k_l_szBlockS_5 : List Keep × List BK := ([.ro tSlLBlock, .ro tInt64, .drop, .drop, .drop, .ro tInt64, .drop, .drop, .drop, .drop, .drop, .drop, .drop, .drop, .drop, .drop, .drop, .drop, .drop, .drop, .drop, .drop, .drop, .drop, .drop, .drop, .drop], [])
def kp_l_szBlockS : KP := [(5, k_l_szBlockS_5)]
noncomputable def q_l_szBlockS (n : Nat) (x : Args [tSlLBlock, tInt]) := evX (false, false, []) l_l_szBlockS kp_l_szBlockS [none] Tryz.f5 (shV tInt) n (encA [tSlLBlock, tInt] x)
noncomputable def c_l_szBlockS : Con := roS [tSlLBlock, tInt] true (shV tInt) (q_l_szBlockS big)
theorem c_l_szBlockS_ok : ConOk Tryz.prog 5 c_l_szBlockS := roS_ok ⟨Tryz.f5, by kernel_rfl, rfl, by decide⟩ fun _ _ h => evX_ok l_l_szBlockS_ok (f := Tryz.f5) (by kernel_rfl) rfl (by kernel_rfl) (by kernel_rfl) big h
noncomputable def Q_l_szBlockS (n : Nat) (a0 : DSlLBlock) (a1 : Int) : Option Int := q_l_szBlockS n (a0, a1, ())
noncomputable def r_l_szBlockS_5 (n : Nat) (x : KD k_l_szBlockS_5.1) (y : BD k_l_szBlockS_5.2) := rounds (env (false, false, []) l_l_szBlockS) kp_l_szBlockS (body Tryz.f5) (finX (false, false, []) l_l_szBlockS [none] Tryz.f5 (shV tInt) [.val tSlLBlock (zeroD tSlLBlock), .val tInt (zeroD tInt)]) n 5 k_l_szBlockS_5 x y
noncomputable def R_l_szBlockS_5 (n : Nat) (s0 : DSlLBlock) (s1 : Int) (s5 : Int) : Option Int := r_l_szBlockS_5 n (s0, s1, s5, ()) ()
theorem Q_l_szBlockS_eq (n : Nat) (a0 : DSlLBlock) (a1 : Int) : Q_l_szBlockS n a0 a1 =
    bif decide (IntKind.i64.wrap (a1 - (↑(List.length a0) : Int)) < (0 : Int)) then some (-1 : Int)
 else R_l_szBlockS_5 n a0 (IntKind.i64.wrap (a1 - (↑(List.length a0) : Int))) (0 : Int) := by kernel_rfl
theorem R_l_szBlockS_5_eq (n : Nat) (s0 : DSlLBlock) (s1 : Int) (s5 : Int) : R_l_szBlockS_5 (n + 1) s0 s1 s5 =
    bif decide (s5 < (↑(List.length s0) : Int)) then
 if (0 : Int) ≤ s5 then
 (nth s0 s5.toNat).bind fun y =>
 (Q_l_szBlock big y s1).bind fun y =>
 bif decide (y < (0 : Int)) then some (-1 : Int) else R_l_szBlockS_5 n s0 y (IntKind.i64.wrap (s5 + (1 : Int)))
 else none
 else some s1 := by kernel_rfl

end Go.Sx.Tryz

set_option maxRecDepth 100000
namespace Go.Sx.Tryz
open Go Go.Sx Go.Proofs

noncomputable def l_l_szIntS : List (Nat × Con) := []
theorem l_l_szIntS_ok : ∀ q ∈ l_l_szIntS, ConOk Tryz.prog q.1 q.2 := Tryz.cons_nil
def kp_l_szIntS : KP := []
noncomputable def q_l_szIntS (n : Nat) (x : Args [tSlInt, tInt]) := evX (false, false, []) l_l_szIntS kp_l_szIntS [none] Tryz.f19 (shV tInt) n (encA [tSlInt, tInt] x)
noncomputable def c_l_szIntS : Con := roS [tSlInt, tInt] true (shV tInt) (q_l_szIntS big)
theorem c_l_szIntS_ok : ConOk Tryz.prog 19 c_l_szIntS := roS_ok ⟨Tryz.f19, by kernel_rfl, rfl, by decide⟩ fun _ _ h => evX_ok l_l_szIntS_ok (f := Tryz.f19) (by kernel_rfl) rfl (by kernel_rfl) (by kernel_rfl) big h
noncomputable def Q_l_szIntS (n : Nat) (a0 : DSlInt) (a1 : Int) : Option Int := q_l_szIntS n (a0, a1, ())
theorem Q_l_szIntS_eq (n : Nat) (a0 : DSlInt) (a1 : Int) : Q_l_szIntS n a0 a1 =
    bif decide (IntKind.i64.wrap (a1 - (↑(List.length a0) : Int)) < (0 : Int)) then some (-1 : Int)
 else some (IntKind.i64.wrap (a1 - (↑(List.length a0) : Int))) := by kernel_rfl

end Go.Sx.Tryz

set_option maxRecDepth 100000
namespace Go.Sx.Tryz
open Go Go.Sx Go.Proofs

noncomputable def l_l_szCell : List (Nat × Con) := []
theorem l_l_szCell_ok : ∀ q ∈ l_l_szCell, ConOk Tryz.prog q.1 q.2 := Tryz.cons_nil
def kp_l_szCell : KP := []
noncomputable def q_l_szCell (n : Nat) (x : Args [tLCell, tInt]) := evX (false, false, [2, 6]) l_l_szCell kp_l_szCell [none] Tryz.f67 (shV tInt) n (encA [tLCell, tInt] x)
noncomputable def c_l_szCell : Con := roS [tLCell, tInt] true (shV tInt) (q_l_szCell big)
theorem c_l_szCell_ok : ConOk Tryz.prog 67 c_l_szCell := roS_ok ⟨Tryz.f67, by kernel_rfl, rfl, by decide⟩ fun _ _ h => evX_ok l_l_szCell_ok (f := Tryz.f67) (by kernel_rfl) rfl (by kernel_rfl) (by kernel_rfl) big h
noncomputable def Q_l_szCell (n : Nat) (a0 : DLCell) (a1 : Int) : Option Int := q_l_szCell n (a0, a1, ())
theorem Q_l_szCell_eq (n : Nat) (a0 : DLCell) (a1 : Int) : Q_l_szCell n a0 a1 =
    bif decide (IntKind.i64.wrap (a1 - (↑(ByteArray.size a0.fst) : Int)) < (0 : Int)) then some (-1 : Int)
 else some (IntKind.i64.wrap (a1 - (↑(ByteArray.size a0.fst) : Int))) := by kernel_rfl

end Go.Sx.Tryz

set_option maxRecDepth 100000
namespace Go.Sx.Tryz
open Go Go.Sx Go.Proofs

noncomputable def l_l_szCellS : List (Nat × Con) := [(67, c_l_szCell)]
theorem l_l_szCellS_ok : ∀ q ∈ l_l_szCellS, ConOk Tryz.prog q.1 q.2 := Tryz.cons_cons c_l_szCell_ok (Tryz.cons_nil)
abbrev k_l_szCellS_5 : List Keep × List BK := ([.ro tSlLCell, .ro tInt64, .drop, .drop, .drop, .ro tInt64, .drop, .drop, .drop, .drop, .drop, .drop, .drop, .drop, .drop, .drop, .drop, .drop, .drop, .drop, .drop, .drop, .drop, .drop, .drop, .drop, .drop], [])
def kp_l_szCellS : KP := [(5, k_l_szCellS_5)]
noncomputable def q_l_szCellS (n : Nat) (x : Args [tSlLCell, tInt]) := evX (false, false, []) l_l_szCellS kp_l_szCellS [none] Tryz.f20 (shV tInt) n (encA [tSlLCell, tInt] x)
noncomputable def c_l_szCellS : Con := roS [tSlLCell, tInt] true (shV tInt) (q_l_szCellS big)
theorem c_l_szCellS_ok : ConOk Tryz.prog 20 c_l_szCellS := roS_ok ⟨Tryz.f20, by kernel_rfl, rfl, by decide⟩ fun _ _ h => evX_ok l_l_szCellS_ok (f := Tryz.f20) (by kernel_rfl) rfl (by kernel_rfl) (by kernel_rfl) big h
noncomputable def Q_l_szCellS (n : Nat) (a0 : DSlLCell) (a1 : Int) : Option Int := q_l_szCellS n (a0, a1, ())
noncomputable def r_l_szCellS_5 (n : Nat) (x : KD k_l_szCellS_5.1) (y : BD k_l_szCellS_5.2) := rounds (env (false, false, []) l_l_szCellS) kp_l_szCellS (body Tryz.f20) (finX (false, false, []) l_l_szCellS [none] Tryz.f20 (shV tInt) [.val tSlLCell (zeroD tSlLCell), .val tInt (zeroD tInt)]) n 5 k_l_szCellS_5 x y
noncomputable def R_l_szCellS_5 (n : Nat) (s0 : DSlLCell) (s1 : Int) (s5 : Int) : Option Int := r_l_szCellS_5 n (s0, s1, s5, ()) ()
theorem Q_l_szCellS_eq (n : Nat) (a0 : DSlLCell) (a1 : Int) : Q_l_szCellS n a0 a1 =
    bif decide (IntKind.i64.wrap (a1 - (↑(List.length a0) : Int)) < (0 : Int)) then some (-1 : Int)
 else R_l_szCellS_5 n a0 (IntKind.i64.wrap (a1 - (↑(List.length a0) : Int))) (0 : Int) := by kernel_rfl
theorem R_l_szCellS_5_eq (n : Nat) (s0 : DSlLCell) (s1 : Int) (s5 : Int) : R_l_szCellS_5 (n + 1) s0 s1 s5 =
    bif decide (s5 < (↑(List.length s0) : Int)) then
 if (0 : Int) ≤ s5 then
 (nth s0 s5.toNat).bind fun y =>
 (Q_l_szCell big y s1).bind fun y =>
 bif decide (y < (0 : Int)) then some (-1 : Int) else R_l_szCellS_5 n s0 y (IntKind.i64.wrap (s5 + (1 : Int)))
 else none
 else some s1 := by kernel_rfl

end Go.Sx.Tryz

set_option maxRecDepth 100000
namespace Go.Sx.Tryz
open Go Go.Sx Go.Proofs

noncomputable def l_l_szUndo : List (Nat × Con) := []
theorem l_l_szUndo_ok : ∀ q ∈ l_l_szUndo, ConOk Tryz.prog q.1 q.2 := Tryz.cons_nil
def kp_l_szUndo : KP := []
noncomputable def q_l_szUndo (n : Nat) (x : Args [tLUndo, tInt]) := evX (false, false, [2, 6]) l_l_szUndo kp_l_szUndo [none] Tryz.f68 (shV tInt) n (encA [tLUndo, tInt] x)
noncomputable def c_l_szUndo : Con := roS [tLUndo, tInt] true (shV tInt) (q_l_szUndo big)
theorem c_l_szUndo_ok : ConOk Tryz.prog 68 c_l_szUndo := roS_ok ⟨Tryz.f68, by kernel_rfl, rfl, by decide⟩ fun _ _ h => evX_ok l_l_szUndo_ok (f := Tryz.f68) (by kernel_rfl) rfl (by kernel_rfl) (by kernel_rfl) big h
noncomputable def Q_l_szUndo (n : Nat) (a0 : DLUndo) (a1 : Int) : Option Int := q_l_szUndo n (a0, a1, ())
theorem Q_l_szUndo_eq (n : Nat) (a0 : DLUndo) (a1 : Int) : Q_l_szUndo n a0 a1 =
    bif decide (IntKind.i64.wrap (a1 - (↑(ByteArray.size a0.fst) : Int)) < (0 : Int)) then some (-1 : Int)
 else some (IntKind.i64.wrap (a1 - (↑(ByteArray.size a0.fst) : Int))) := by kernel_rfl

end Go.Sx.Tryz

set_option maxRecDepth 100000
namespace Go.Sx.Tryz
open Go Go.Sx Go.Proofs

noncomputable def l_l_szUndoS : List (Nat × Con) := [(68, c_l_szUndo)]
theorem l_l_szUndoS_ok : ∀ q ∈ l_l_szUndoS, ConOk Tryz.prog q.1 q.2 := Tryz.cons_cons c_l_szUndo_ok (Tryz.cons_nil)
abbrev k_l_szUndoS_5 : List Keep × List BK := ([.ro tSlLUndo, .ro tInt64, .drop, .drop, .drop, .ro tInt64, .drop, .drop, .drop, .drop, .drop, .drop, .drop, .drop, .drop, .drop, .drop, .drop, .drop, .drop, .drop, .drop, .drop, .drop, .drop, .drop, .drop], [])
def kp_l_szUndoS : KP := [(5, k_l_szUndoS_5)]
noncomputable def q_l_szUndoS (n : Nat) (x : Args [tSlLUndo, tInt]) := evX (false, false, []) l_l_szUndoS kp_l_szUndoS [none] Tryz.f21 (shV tInt) n (encA [tSlLUndo, tInt] x)
noncomputable def c_l_szUndoS : Con := roS [tSlLUndo, tInt] true (shV tInt) (q_l_szUndoS big)
theorem c_l_szUndoS_ok : ConOk Tryz.prog 21 c_l_szUndoS := roS_ok ⟨Tryz.f21, by kernel_rfl, rfl, by decide⟩ fun _ _ h => evX_ok l_l_szUndoS_ok (f := Tryz.f21) (by kernel_rfl) rfl (by kernel_rfl) (by kernel_rfl) big h
noncomputable def Q_l_szUndoS (n : Nat) (a0 : DSlLUndo) (a1 : Int) : Option Int := q_l_szUndoS n (a0, a1, ())
noncomputable def r_l_szUndoS_5 (n : Nat) (x : KD k_l_szUndoS_5.1) (y : BD k_l_szUndoS_5.2) := rounds (env (false, false, []) l_l_szUndoS) kp_l_szUndoS (body Tryz.f21) (finX (false, false, []) l_l_szUndoS [none] Tryz.f21 (shV tInt) [.val tSlLUndo (zeroD tSlLUndo), .val tInt (zeroD tInt)]) n 5 k_l_szUndoS_5 x y
noncomputable def R_l_szUndoS_5 (n : Nat) (s0 : DSlLUndo) (s1 : Int) (s5 : Int) : Option Int := r_l_szUndoS_5 n (s0, s1, s5, ()) ()
theorem Q_l_szUndoS_eq (n : Nat) (a0 : DSlLUndo) (a1 : Int) : Q_l_szUndoS n a0 a1 =
    bif decide (IntKind.i64.wrap (a1 - (↑(List.length a0) : Int)) < (0 : Int)) then some (-1 : Int)
 else R_l_szUndoS_5 n a0 (IntKind.i64.wrap (a1 - (↑(List.length a0) : Int))) (0 : Int) := by kernel_rfl
theorem R_l_szUndoS_5_eq (n : Nat) (s0 : DSlLUndo) (s1 : Int) (s5 : Int) : R_l_szUndoS_5 (n + 1) s0 s1 s5 =
    bif decide (s5 < (↑(List.length s0) : Int)) then
 if (0 : Int) ≤ s5 then
 (nth s0 s5.toNat).bind fun y =>
 (Q_l_szUndo big y s1).bind fun y =>
 bif decide (y < (0 : Int)) then some (-1 : Int) else R_l_szUndoS_5 n s0 y (IntKind.i64.wrap (s5 + (1 : Int)))
 else none
 else some s1 := by kernel_rfl

end Go.Sx.Tryz

set_option maxRecDepth 100000
namespace Go.Sx.Tryz
open Go Go.Sx Go.Proofs

noncomputable def l_l_szVoteS : List (Nat × Con) := []
theorem l_l_szVoteS_ok : ∀ q ∈ l_l_szVoteS, ConOk Tryz.prog q.1 q.2 := Tryz.cons_nil
def kp_l_szVoteS : KP := []
noncomputable def q_l_szVoteS (n : Nat) (x : Args [tSlLVote, tInt]) := evX (false, false, []) l_l_szVoteS kp_l_szVoteS [none] Tryz.f22 (shV tInt) n (encA [tSlLVote, tInt] x)
noncomputable def c_l_szVoteS : Con := roS [tSlLVote, tInt] true (shV tInt) (q_l_szVoteS big)
theorem c_l_szVoteS_ok : ConOk Tryz.prog 22 c_l_szVoteS := roS_ok ⟨Tryz.f22, by kernel_rfl, rfl, by decide⟩ fun _ _ h => evX_ok l_l_szVoteS_ok (f := Tryz.f22) (by kernel_rfl) rfl (by kernel_rfl) (by kernel_rfl) big h
noncomputable def Q_l_szVoteS (n : Nat) (a0 : DSlLVote) (a1 : Int) : Option Int := q_l_szVoteS n (a0, a1, ())
theorem Q_l_szVoteS_eq (n : Nat) (a0 : DSlLVote) (a1 : Int) : Q_l_szVoteS n a0 a1 =
    bif decide (IntKind.i64.wrap (a1 - (↑(List.length a0) : Int)) < (0 : Int)) then some (-1 : Int)
 else some (IntKind.i64.wrap (a1 - (↑(List.length a0) : Int))) := by kernel_rfl

end Go.Sx.Tryz

set_option maxRecDepth 100000
namespace Go.Sx.Tryz
open Go Go.Sx Go.Proofs

noncomputable def l_l_szLetterS : List (Nat × Con) := []
theorem l_l_szLetterS_ok : ∀ q ∈ l_l_szLetterS, ConOk Tryz.prog q.1 q.2 := Tryz.cons_nil
def kp_l_szLetterS : KP := []
noncomputable def q_l_szLetterS (n : Nat) (x : Args [tSlLLetter, tInt]) := evX (false, false, []) l_l_szLetterS kp_l_szLetterS [none] Tryz.f23 (shV tInt) n (encA [tSlLLetter, tInt] x)
noncomputable def c_l_szLetterS : Con := roS [tSlLLetter, tInt] true (shV tInt) (q_l_szLetterS big)
theorem c_l_szLetterS_ok : ConOk Tryz.prog 23 c_l_szLetterS := roS_ok ⟨Tryz.f23, by kernel_rfl, rfl, by decide⟩ fun _ _ h => evX_ok l_l_szLetterS_ok (f := Tryz.f23) (by kernel_rfl) rfl (by kernel_rfl) (by kernel_rfl) big h
noncomputable def Q_l_szLetterS (n : Nat) (a0 : DSlLLetter) (a1 : Int) : Option Int := q_l_szLetterS n (a0, a1, ())
theorem Q_l_szLetterS_eq (n : Nat) (a0 : DSlLLetter) (a1 : Int) : Q_l_szLetterS n a0 a1 =
    bif decide (IntKind.i64.wrap (a1 - (↑(List.length a0) : Int)) < (0 : Int)) then some (-1 : Int)
 else some (IntKind.i64.wrap (a1 - (↑(List.length a0) : Int))) := by kernel_rfl

end Go.Sx.Tryz

set_option maxRecDepth 100000
namespace Go.Sx.Tryz
open Go Go.Sx Go.Proofs

noncomputable def l_l_szPeer : List (Nat × Con) := [(19, c_l_szIntS), (20, c_l_szCellS), (21, c_l_szUndoS), (22, c_l_szVoteS), (23, c_l_szLetterS)]
theorem l_l_szPeer_ok : ∀ q ∈ l_l_szPeer, ConOk Tryz.prog q.1 q.2 := Tryz.cons_cons c_l_szIntS_ok (Tryz.cons_cons c_l_szCellS_ok (Tryz.cons_cons c_l_szUndoS_ok (Tryz.cons_cons c_l_szVoteS_ok (Tryz.cons_cons c_l_szLetterS_ok (Tryz.cons_nil)))))
def kp_l_szPeer : KP := []
noncomputable def q_l_szPeer (n : Nat) (x : Args [tLPeer, tInt]) := evX (false, false, [2, 5, 11, 17, 23, 29, 35]) l_l_szPeer kp_l_szPeer [none] Tryz.f6 (shV tInt) n (encA [tLPeer, tInt] x)
noncomputable def c_l_szPeer : Con := roS [tLPeer, tInt] true (shV tInt) (q_l_szPeer big)
theorem c_l_szPeer_ok : ConOk Tryz.prog 6 c_l_szPeer := roS_ok ⟨Tryz.f6, by kernel_rfl, rfl, by decide⟩ fun _ _ h => evX_ok l_l_szPeer_ok (f := Tryz.f6) (by kernel_rfl) rfl (by kernel_rfl) (by kernel_rfl) big h
noncomputable def Q_l_szPeer (n : Nat) (a0 : DLPeer) (a1 : Int) : Option Int := q_l_szPeer n (a0, a1, ())
theorem Q_l_szPeer_eq (n : Nat) (a0 : DLPeer) (a1 : Int) : Q_l_szPeer n a0 a1 =
    (Q_l_szIntS big a0.snd.snd.snd.snd.snd.fst a1).bind fun y =>
 bif decide (y < (0 : Int)) then some (-1 : Int)
 else
 (Q_l_szCellS big a0.snd.snd.snd.snd.snd.snd.fst y).bind fun y =>
 bif decide (y < (0 : Int)) then some (-1 : Int)
 else
 (Q_l_szIntS big a0.snd.snd.snd.snd.snd.snd.snd.fst y).bind fun y =>
 bif decide (y < (0 : Int)) then some (-1 : Int)
 else
 (Q_l_szUndoS big a0.snd.snd.snd.snd.snd.snd.snd.snd.fst y).bind fun y =>
 bif decide (y < (0 : Int)) then some (-1 : Int)
 else
 (Q_l_szVoteS big a0.snd.snd.snd.snd.snd.snd.snd.snd.snd.fst y).bind fun y =>
 bif decide (y < (0 : Int)) then some (-1 : Int)
 else
 (Q_l_szLetterS big a0.snd.snd.snd.snd.snd.snd.snd.snd.snd.snd.fst y).bind fun y =>
 bif decide (y < (0 : Int)) then some (-1 : Int) else some y := by kernel_rfl

end Go.Sx.Tryz

set_option maxRecDepth 100000
namespace Go.Sx.Tryz
open Go Go.Sx Go.Proofs

noncomputable def l_l_toCmd : List (Nat × Con) := []
theorem l_l_toCmd_ok : ∀ q ∈ l_l_toCmd, ConOk Tryz.prog q.1 q.2 := Tryz.cons_nil
def kp_l_toCmd : KP := []
noncomputable def q_l_toCmd (n : Nat) (x : Args [tLCmd]) := evX (false, false, [1, 3, 4, 7, 10]) l_l_toCmd kp_l_toCmd [none] Tryz.f103 (shV tICmd) n (encA [tLCmd] x)
noncomputable def c_l_toCmd : Con := roS [tLCmd] true (shV tICmd) (q_l_toCmd big)
theorem c_l_toCmd_ok : ConOk Tryz.prog 103 c_l_toCmd := roS_ok ⟨Tryz.f103, by kernel_rfl, rfl, by decide⟩ fun _ _ h => evX_ok l_l_toCmd_ok (f := Tryz.f103) (by kernel_rfl) rfl (by kernel_rfl) (by kernel_rfl) big h
noncomputable def Q_l_toCmd (n : Nat) (a0 : DLCmd) : Option DICmd := q_l_toCmd n (a0, ())
theorem Q_l_toCmd_eq (n : Nat) (a0 : DLCmd) : Q_l_toCmd n a0 =
    some a0 := by kernel_rfl

end Go.Sx.Tryz

set_option maxRecDepth 100000
namespace Go.Sx.Tryz
open Go Go.Sx Go.Proofs

noncomputable def l_l_toCmdS : List (Nat × Con) := [(103, c_l_toCmd)]
theorem l_l_toCmdS_ok : ∀ q ∈ l_l_toCmdS, ConOk Tryz.prog q.1 q.2 := Tryz.cons_cons c_l_toCmd_ok (Tryz.cons_nil)
abbrev k_l_toCmdS_3 : List Keep × List BK := ([.ro tSlLCmd, .drop, .drop, .is (.own 0 0), .ro tInt64, .drop, .drop, .drop, .drop, .drop, .drop, .drop, .drop, .drop, .drop, .drop, .drop, .drop, .drop, .drop, .drop, .drop, .drop], [.arr tXstruct_Kind_int_Key_string_Num_int_])
def kp_l_toCmdS : KP := [(3, k_l_toCmdS_3)]
noncomputable def q_l_toCmdS (n : Nat) (x : Args [tSlLCmd]) := evX (false, false, []) l_l_toCmdS kp_l_toCmdS [some uSlICmd] Tryz.f73 (shF uSlICmd) n (encA [tSlLCmd] x)
noncomputable def c_l_toCmdS : Con := roS [tSlLCmd] true (shF uSlICmd) (q_l_toCmdS big)
theorem c_l_toCmdS_ok : ConOk Tryz.prog 73 c_l_toCmdS := roS_ok ⟨Tryz.f73, by kernel_rfl, rfl, by decide⟩ fun _ _ h => evX_ok l_l_toCmdS_ok (f := Tryz.f73) (by kernel_rfl) rfl (by kernel_rfl) (by kernel_rfl) big h
noncomputable def Q_l_toCmdS (n : Nat) (a0 : DSlLCmd) : Option DSlICmd := q_l_toCmdS n (a0, ())
noncomputable def r_l_toCmdS_3 (n : Nat) (x : KD k_l_toCmdS_3.1) (y : BD k_l_toCmdS_3.2) := rounds (env (false, false, []) l_l_toCmdS) kp_l_toCmdS (body Tryz.f73) (finX (false, false, []) l_l_toCmdS [some uSlICmd] Tryz.f73 (shF uSlICmd) [.val tSlLCmd (zeroD tSlLCmd)]) n 3 k_l_toCmdS_3 x y
noncomputable def R_l_toCmdS_3 (n : Nat) (s0 : DSlLCmd) (s4 : Int) (b0 : (List DXstruct_Kind_int_Key_string_Num_int_)) : Option DSlICmd := r_l_toCmdS_3 n (s0, s4, ()) (b0, ())
theorem Q_l_toCmdS_eq (n : Nat) (a0 : DSlLCmd) : Q_l_toCmdS n a0 =
    if (↑(List.length a0) : Int) ≤ (↑(List.length a0) : Int) then
 if (↑(List.length a0) : Int) ≤ (↑lim : Int) then
 R_l_toCmdS_3 n a0 (0 : Int)
 (List.replicate (↑(List.length a0) : Int).toNat
 (zeroD (bif (env (false, false, []) l_l_toCmdS).nest then tICmd.uq else tICmd)))
 else none
 else none := by kernel_rfl
theorem R_l_toCmdS_3_eq (n : Nat) (s0 : DSlLCmd) (s4 : Int) (b0 : (List DXstruct_Kind_int_Key_string_Num_int_)) : R_l_toCmdS_3 (n + 1) s0 s4 b0 =
    bif decide (s4 < (↑(List.length s0) : Int)) then
 if (0 : Int) ≤ s4 then
 (nth s0 s4.toNat).bind fun y =>
 if (0 : Int) ≤ s4 then
 if s4 < (↑b0.length : Int) then
 (nth b0 s4.toNat).bind fun y_1 =>
 (updO b0 s4.toNat y).bind fun y => R_l_toCmdS_3 n s0 (IntKind.i64.wrap (s4 + (1 : Int))) y
 else none
 else none
 else none
 else some b0 := by kernel_rfl

end Go.Sx.Tryz

set_option maxRecDepth 100000
namespace Go.Sx.Tryz
open Go Go.Sx Go.Proofs

noncomputable def l_l_toQc : List (Nat × Con) := []
theorem l_l_toQc_ok : ∀ q ∈ l_l_toQc, ConOk Tryz.prog q.1 q.2 := Tryz.cons_nil
def kp_l_toQc : KP := []
noncomputable def q_l_toQc (n : Nat) (x : Args [tLQc]) := evX (false, false, [1, 3, 4, 7, 10, 13]) l_l_toQc kp_l_toQc [none] Tryz.f31 (shV tIQc) n (encA [tLQc] x)
noncomputable def c_l_toQc : Con := roS [tLQc] true (shV tIQc) (q_l_toQc big)
theorem c_l_toQc_ok : ConOk Tryz.prog 31 c_l_toQc := roS_ok ⟨Tryz.f31, by kernel_rfl, rfl, by decide⟩ fun _ _ h => evX_ok l_l_toQc_ok (f := Tryz.f31) (by kernel_rfl) rfl (by kernel_rfl) (by kernel_rfl) big h
noncomputable def Q_l_toQc (n : Nat) (a0 : DLQc) : Option DIQc := q_l_toQc n (a0, ())
theorem Q_l_toQc_eq (n : Nat) (a0 : DLQc) : Q_l_toQc n a0 =
    some a0 := by kernel_rfl

end Go.Sx.Tryz

set_option maxRecDepth 100000
namespace Go.Sx.Tryz
open Go Go.Sx Go.Proofs

noncomputable def l_l_toBlock : List (Nat × Con) := [(73, c_l_toCmdS), (31, c_l_toQc)]
theorem l_l_toBlock_ok : ∀ q ∈ l_l_toBlock, ConOk Tryz.prog q.1 q.2 := Tryz.cons_cons c_l_toCmdS_ok (Tryz.cons_cons c_l_toQc_ok (Tryz.cons_nil))
def kp_l_toBlock : KP := []
noncomputable def q_l_toBlock (n : Nat) (x : Args [tLBlock]) := evX (false, false, [1, 3, 4, 7, 10, 14]) l_l_toBlock kp_l_toBlock [some uIBlock] Tryz.f30 (shF uIBlock) n (encA [tLBlock] x)
noncomputable def c_l_toBlock : Con := roS [tLBlock] true (shF uIBlock) (q_l_toBlock big)
theorem c_l_toBlock_ok : ConOk Tryz.prog 30 c_l_toBlock := roS_ok ⟨Tryz.f30, by kernel_rfl, rfl, by decide⟩ fun _ _ h => evX_ok l_l_toBlock_ok (f := Tryz.f30) (by kernel_rfl) rfl (by kernel_rfl) (by kernel_rfl) big h
noncomputable def Q_l_toBlock (n : Nat) (a0 : DLBlock) : Option DIBlock := q_l_toBlock n (a0, ())
theorem Q_l_toBlock_eq (n : Nat) (a0 : DLBlock) : Q_l_toBlock n a0 =
    (Q_l_toCmdS big a0.snd.snd.fst).bind fun y => some (a0.fst, a0.snd.fst, y, a0.snd.snd.snd) := by kernel_rfl

end Go.Sx.Tryz

set_option maxRecDepth 100000
namespace Go.Sx.Tryz
open Go Go.Sx Go.Proofs

noncomputable def l_l_toBlockS : List (Nat × Con) := [(30, c_l_toBlock)]
theorem l_l_toBlockS_ok : ∀ q ∈ l_l_toBlockS, ConOk Tryz.prog q.1 q.2 := Tryz.cons_cons c_l_toBlock_ok (Tryz.cons_nil)
abbrev k_l_toBlockS_3 : List Keep × List BK := ([.ro tSlLBlock, .drop, .drop, .is (.own 0 0), .ro tInt64, .drop, .drop, .drop, .drop, .drop, .drop, .drop, .drop, .drop, .drop, .drop, .drop, .drop, .drop, .drop, .drop, .drop, .drop], [.arr uXstruct_Parent_int_View_int_Cmds_laws_Cmd])
def kp_l_toBlockS : KP := [(3, k_l_toBlockS_3)]
noncomputable def q_l_toBlockS (n : Nat) (x : Args [tSlLBlock]) := evX (true, false, []) l_l_toBlockS kp_l_toBlockS [some uSlIBlock] Tryz.f8 (shF uSlIBlock) n (encA [tSlLBlock] x)
noncomputable def c_l_toBlockS : Con := roS [tSlLBlock] true (shF uSlIBlock) (q_l_toBlockS big)
theorem c_l_toBlockS_ok : ConOk Tryz.prog 8 c_l_toBlockS := roS_ok ⟨Tryz.f8, by kernel_rfl, rfl, by decide⟩ fun _ _ h => evX_ok l_l_toBlockS_ok (f := Tryz.f8) (by kernel_rfl) rfl (by kernel_rfl) (by kernel_rfl) big h
noncomputable def Q_l_toBlockS (n : Nat) (a0 : DSlLBlock) : Option DSlIBlock := q_l_toBlockS n (a0, ())
noncomputable def r_l_toBlockS_3 (n : Nat) (x : KD k_l_toBlockS_3.1) (y : BD k_l_toBlockS_3.2) := rounds (env (true, false, []) l_l_toBlockS) kp_l_toBlockS (body Tryz.f8) (finX (true, false, []) l_l_toBlockS [some uSlIBlock] Tryz.f8 (shF uSlIBlock) [.val tSlLBlock (zeroD tSlLBlock)]) n 3 k_l_toBlockS_3 x y
noncomputable def R_l_toBlockS_3 (n : Nat) (s0 : DSlLBlock) (s4 : Int) (b0 : (List DXstruct_Parent_int_View_int_Cmds_laws_Cmd)) : Option DSlIBlock := r_l_toBlockS_3 n (s0, s4, ()) (b0, ())
theorem Q_l_toBlockS_eq (n : Nat) (a0 : DSlLBlock) : Q_l_toBlockS n a0 =
    if (↑(List.length a0) : Int) ≤ (↑(List.length a0) : Int) then
 if (↑(List.length a0) : Int) ≤ (↑lim : Int) then
 R_l_toBlockS_3 n a0 (0 : Int)
 (List.replicate (↑(List.length a0) : Int).toNat
 (zeroD (bif (env (true, false, []) l_l_toBlockS).nest then tIBlock.uq else tIBlock)))
 else none
 else none := by kernel_rfl
theorem R_l_toBlockS_3_eq (n : Nat) (s0 : DSlLBlock) (s4 : Int) (b0 : (List DXstruct_Parent_int_View_int_Cmds_laws_Cmd)) : R_l_toBlockS_3 (n + 1) s0 s4 b0 =
    bif decide (s4 < (↑(List.length s0) : Int)) then
 if (0 : Int) ≤ s4 then
 (nth s0 s4.toNat).bind fun y =>
 (Q_l_toBlock big y).bind fun y =>
 if (0 : Int) ≤ s4 then
 if s4 < (↑b0.length : Int) then
 (nth b0 s4.toNat).bind fun y_1 =>
 (updO b0 s4.toNat y).bind fun y => R_l_toBlockS_3 n s0 (IntKind.i64.wrap (s4 + (1 : Int))) y
 else none
 else none
 else none
 else some b0 := by kernel_rfl

end Go.Sx.Tryz

set_option maxRecDepth 100000
namespace Go.Sx.Tryz
open Go Go.Sx Go.Proofs

noncomputable def l_l_toVote : List (Nat × Con) := []
theorem l_l_toVote_ok : ∀ q ∈ l_l_toVote, ConOk Tryz.prog q.1 q.2 := Tryz.cons_nil
def kp_l_toVote : KP := []
noncomputable def q_l_toVote (n : Nat) (x : Args [tLVote]) := evX (false, false, [1, 3, 4, 7, 10, 13]) l_l_toVote kp_l_toVote [none] Tryz.f32 (shV tIVote) n (encA [tLVote] x)
noncomputable def c_l_toVote : Con := roS [tLVote] true (shV tIVote) (q_l_toVote big)
theorem c_l_toVote_ok : ConOk Tryz.prog 32 c_l_toVote := roS_ok ⟨Tryz.f32, by kernel_rfl, rfl, by decide⟩ fun _ _ h => evX_ok l_l_toVote_ok (f := Tryz.f32) (by kernel_rfl) rfl (by kernel_rfl) (by kernel_rfl) big h
noncomputable def Q_l_toVote (n : Nat) (a0 : DLVote) : Option DIVote := q_l_toVote n (a0, ())
theorem Q_l_toVote_eq (n : Nat) (a0 : DLVote) : Q_l_toVote n a0 =
    some a0 := by kernel_rfl

end Go.Sx.Tryz

set_option maxRecDepth 100000
namespace Go.Sx.Tryz
open Go Go.Sx Go.Proofs

noncomputable def l_l_toIntS : List (Nat × Con) := []
theorem l_l_toIntS_ok : ∀ q ∈ l_l_toIntS, ConOk Tryz.prog q.1 q.2 := Tryz.cons_nil
abbrev k_l_toIntS_3 : List Keep × List BK := ([.ro tSlInt, .drop, .drop, .is (.own 0 0), .ro tInt64, .drop, .drop, .drop, .drop, .drop, .drop, .drop, .drop, .drop, .drop, .drop, .drop, .drop, .drop, .drop, .drop, .drop], [.arr tInt64])
def kp_l_toIntS : KP := [(3, k_l_toIntS_3)]
noncomputable def q_l_toIntS (n : Nat) (x : Args [tSlInt]) := evX (false, false, []) l_l_toIntS kp_l_toIntS [some uSlInt] Tryz.f33 (shF uSlInt) n (encA [tSlInt] x)
noncomputable def c_l_toIntS : Con := roS [tSlInt] true (shF uSlInt) (q_l_toIntS big)
theorem c_l_toIntS_ok : ConOk Tryz.prog 33 c_l_toIntS := roS_ok ⟨Tryz.f33, by kernel_rfl, rfl, by decide⟩ fun _ _ h => evX_ok l_l_toIntS_ok (f := Tryz.f33) (by kernel_rfl) rfl (by kernel_rfl) (by kernel_rfl) big h
noncomputable def Q_l_toIntS (n : Nat) (a0 : DSlInt) : Option DSlInt := q_l_toIntS n (a0, ())
noncomputable def r_l_toIntS_3 (n : Nat) (x : KD k_l_toIntS_3.1) (y : BD k_l_toIntS_3.2) := rounds (env (false, false, []) l_l_toIntS) kp_l_toIntS (body Tryz.f33) (finX (false, false, []) l_l_toIntS [some uSlInt] Tryz.f33 (shF uSlInt) [.val tSlInt (zeroD tSlInt)]) n 3 k_l_toIntS_3 x y
noncomputable def R_l_toIntS_3 (n : Nat) (s0 : DSlInt) (s4 : Int) (b0 : (List Int)) : Option DSlInt := r_l_toIntS_3 n (s0, s4, ()) (b0, ())
theorem Q_l_toIntS_eq (n : Nat) (a0 : DSlInt) : Q_l_toIntS n a0 =
    if (↑(List.length a0) : Int) ≤ (↑(List.length a0) : Int) then
 if (↑(List.length a0) : Int) ≤ (↑lim : Int) then
 R_l_toIntS_3 n a0 (0 : Int)
 (List.replicate (↑(List.length a0) : Int).toNat
 (zeroD (bif (env (false, false, []) l_l_toIntS).nest then tInt.uq else tInt)))
 else none
 else none := by kernel_rfl
theorem R_l_toIntS_3_eq (n : Nat) (s0 : DSlInt) (s4 : Int) (b0 : (List Int)) : R_l_toIntS_3 (n + 1) s0 s4 b0 =
    bif decide (s4 < (↑(List.length s0) : Int)) then
 if (0 : Int) ≤ s4 then
 (nth s0 s4.toNat).bind fun y =>
 if (0 : Int) ≤ s4 then
 if s4 < (↑b0.length : Int) then
 (nth b0 s4.toNat).bind fun y_1 =>
 (updO b0 s4.toNat y).bind fun y => R_l_toIntS_3 n s0 (IntKind.i64.wrap (s4 + (1 : Int))) y
 else none
 else none
 else none
 else some b0 := by kernel_rfl

end Go.Sx.Tryz

set_option maxRecDepth 100000
namespace Go.Sx.Tryz
open Go Go.Sx Go.Proofs

noncomputable def l_l_toCell : List (Nat × Con) := []
theorem l_l_toCell_ok : ∀ q ∈ l_l_toCell, ConOk Tryz.prog q.1 q.2 := Tryz.cons_nil
def kp_l_toCell : KP := []
noncomputable def q_l_toCell (n : Nat) (x : Args [tLCell]) := evX (false, false, [1, 3, 4, 7]) l_l_toCell kp_l_toCell [none] Tryz.f74 (shV tICell) n (encA [tLCell] x)
noncomputable def c_l_toCell : Con := roS [tLCell] true (shV tICell) (q_l_toCell big)
theorem c_l_toCell_ok : ConOk Tryz.prog 74 c_l_toCell := roS_ok ⟨Tryz.f74, by kernel_rfl, rfl, by decide⟩ fun _ _ h => evX_ok l_l_toCell_ok (f := Tryz.f74) (by kernel_rfl) rfl (by kernel_rfl) (by kernel_rfl) big h
noncomputable def Q_l_toCell (n : Nat) (a0 : DLCell) : Option DICell := q_l_toCell n (a0, ())
theorem Q_l_toCell_eq (n : Nat) (a0 : DLCell) : Q_l_toCell n a0 =
    some a0 := by kernel_rfl

end Go.Sx.Tryz

set_option maxRecDepth 100000
namespace Go.Sx.Tryz
open Go Go.Sx Go.Proofs

noncomputable def l_l_toCellS : List (Nat × Con) := [(74, c_l_toCell)]
theorem l_l_toCellS_ok : ∀ q ∈ l_l_toCellS, ConOk Tryz.prog q.1 q.2 := Tryz.cons_cons c_l_toCell_ok (Tryz.cons_nil)
abbrev k_l_toCellS_3 : List Keep × List BK := ([.ro tSlLCell, .drop, .drop, .is (.own 0 0), .ro tInt64, .drop, .drop, .drop, .drop, .drop, .drop, .drop, .drop, .drop, .drop, .drop, .drop, .drop, .drop, .drop, .drop, .drop, .drop], [.arr tXstruct_Key_string_Num_int_])
def kp_l_toCellS : KP := [(3, k_l_toCellS_3)]
noncomputable def q_l_toCellS (n : Nat) (x : Args [tSlLCell]) := evX (false, false, []) l_l_toCellS kp_l_toCellS [some uSlICell] Tryz.f34 (shF uSlICell) n (encA [tSlLCell] x)
noncomputable def c_l_toCellS : Con := roS [tSlLCell] true (shF uSlICell) (q_l_toCellS big)
theorem c_l_toCellS_ok : ConOk Tryz.prog 34 c_l_toCellS := roS_ok ⟨Tryz.f34, by kernel_rfl, rfl, by decide⟩ fun _ _ h => evX_ok l_l_toCellS_ok (f := Tryz.f34) (by kernel_rfl) rfl (by kernel_rfl) (by kernel_rfl) big h
noncomputable def Q_l_toCellS (n : Nat) (a0 : DSlLCell) : Option DSlICell := q_l_toCellS n (a0, ())
noncomputable def r_l_toCellS_3 (n : Nat) (x : KD k_l_toCellS_3.1) (y : BD k_l_toCellS_3.2) := rounds (env (false, false, []) l_l_toCellS) kp_l_toCellS (body Tryz.f34) (finX (false, false, []) l_l_toCellS [some uSlICell] Tryz.f34 (shF uSlICell) [.val tSlLCell (zeroD tSlLCell)]) n 3 k_l_toCellS_3 x y
noncomputable def R_l_toCellS_3 (n : Nat) (s0 : DSlLCell) (s4 : Int) (b0 : (List DXstruct_Key_string_Num_int_)) : Option DSlICell := r_l_toCellS_3 n (s0, s4, ()) (b0, ())
theorem Q_l_toCellS_eq (n : Nat) (a0 : DSlLCell) : Q_l_toCellS n a0 =
    if (↑(List.length a0) : Int) ≤ (↑(List.length a0) : Int) then
 if (↑(List.length a0) : Int) ≤ (↑lim : Int) then
 R_l_toCellS_3 n a0 (0 : Int)
 (List.replicate (↑(List.length a0) : Int).toNat
 (zeroD (bif (env (false, false, []) l_l_toCellS).nest then tICell.uq else tICell)))
 else none
 else none := by kernel_rfl
theorem R_l_toCellS_3_eq (n : Nat) (s0 : DSlLCell) (s4 : Int) (b0 : (List DXstruct_Key_string_Num_int_)) : R_l_toCellS_3 (n + 1) s0 s4 b0 =
    bif decide (s4 < (↑(List.length s0) : Int)) then
 if (0 : Int) ≤ s4 then
 (nth s0 s4.toNat).bind fun y =>
 if (0 : Int) ≤ s4 then
 if s4 < (↑b0.length : Int) then
 (nth b0 s4.toNat).bind fun y_1 =>
 (updO b0 s4.toNat y).bind fun y => R_l_toCellS_3 n s0 (IntKind.i64.wrap (s4 + (1 : Int))) y
 else none
 else none
 else none
 else some b0 := by kernel_rfl

end Go.Sx.Tryz

set_option maxRecDepth 100000
namespace Go.Sx.Tryz
open Go Go.Sx Go.Proofs

noncomputable def l_l_toUndo : List (Nat × Con) := []
theorem l_l_toUndo_ok : ∀ q ∈ l_l_toUndo, ConOk Tryz.prog q.1 q.2 := Tryz.cons_nil
def kp_l_toUndo : KP := []
noncomputable def q_l_toUndo (n : Nat) (x : Args [tLUndo]) := evX (false, false, [1, 3, 4, 7, 10]) l_l_toUndo kp_l_toUndo [none] Tryz.f75 (shV tIUndo) n (encA [tLUndo] x)
noncomputable def c_l_toUndo : Con := roS [tLUndo] true (shV tIUndo) (q_l_toUndo big)
theorem c_l_toUndo_ok : ConOk Tryz.prog 75 c_l_toUndo := roS_ok ⟨Tryz.f75, by kernel_rfl, rfl, by decide⟩ fun _ _ h => evX_ok l_l_toUndo_ok (f := Tryz.f75) (by kernel_rfl) rfl (by kernel_rfl) (by kernel_rfl) big h
noncomputable def Q_l_toUndo (n : Nat) (a0 : DLUndo) : Option DIUndo := q_l_toUndo n (a0, ())
theorem Q_l_toUndo_eq (n : Nat) (a0 : DLUndo) : Q_l_toUndo n a0 =
    some a0 := by kernel_rfl

end Go.Sx.Tryz

set_option maxRecDepth 100000
namespace Go.Sx.Tryz
open Go Go.Sx Go.Proofs

noncomputable def l_l_toUndoS : List (Nat × Con) := [(75, c_l_toUndo)]
theorem l_l_toUndoS_ok : ∀ q ∈ l_l_toUndoS, ConOk Tryz.prog q.1 q.2 := Tryz.cons_cons c_l_toUndo_ok (Tryz.cons_nil)
abbrev k_l_toUndoS_3 : List Keep × List BK := ([.ro tSlLUndo, .drop, .drop, .is (.own 0 0), .ro tInt64, .drop, .drop, .drop, .drop, .drop, .drop, .drop, .drop, .drop, .drop, .drop, .drop, .drop, .drop, .drop, .drop, .drop, .drop], [.arr tXstruct_Key_string_Had_bool_Num_int_])
def kp_l_toUndoS : KP := [(3, k_l_toUndoS_3)]
noncomputable def q_l_toUndoS (n : Nat) (x : Args [tSlLUndo]) := evX (false, false, []) l_l_toUndoS kp_l_toUndoS [some uSlIUndo] Tryz.f35 (shF uSlIUndo) n (encA [tSlLUndo] x)
noncomputable def c_l_toUndoS : Con := roS [tSlLUndo] true (shF uSlIUndo) (q_l_toUndoS big)
theorem c_l_toUndoS_ok : ConOk Tryz.prog 35 c_l_toUndoS := roS_ok ⟨Tryz.f35, by kernel_rfl, rfl, by decide⟩ fun _ _ h => evX_ok l_l_toUndoS_ok (f := Tryz.f35) (by kernel_rfl) rfl (by kernel_rfl) (by kernel_rfl) big h
noncomputable def Q_l_toUndoS (n : Nat) (a0 : DSlLUndo) : Option DSlIUndo := q_l_toUndoS n (a0, ())
noncomputable def r_l_toUndoS_3 (n : Nat) (x : KD k_l_toUndoS_3.1) (y : BD k_l_toUndoS_3.2) := rounds (env (false, false, []) l_l_toUndoS) kp_l_toUndoS (body Tryz.f35) (finX (false, false, []) l_l_toUndoS [some uSlIUndo] Tryz.f35 (shF uSlIUndo) [.val tSlLUndo (zeroD tSlLUndo)]) n 3 k_l_toUndoS_3 x y
noncomputable def R_l_toUndoS_3 (n : Nat) (s0 : DSlLUndo) (s4 : Int) (b0 : (List DXstruct_Key_string_Had_bool_Num_int_)) : Option DSlIUndo := r_l_toUndoS_3 n (s0, s4, ()) (b0, ())
theorem Q_l_toUndoS_eq (n : Nat) (a0 : DSlLUndo) : Q_l_toUndoS n a0 =
    if (↑(List.length a0) : Int) ≤ (↑(List.length a0) : Int) then
 if (↑(List.length a0) : Int) ≤ (↑lim : Int) then
 R_l_toUndoS_3 n a0 (0 : Int)
 (List.replicate (↑(List.length a0) : Int).toNat
 (zeroD (bif (env (false, false, []) l_l_toUndoS).nest then tIUndo.uq else tIUndo)))
 else none
 else none := by kernel_rfl
theorem R_l_toUndoS_3_eq (n : Nat) (s0 : DSlLUndo) (s4 : Int) (b0 : (List DXstruct_Key_string_Had_bool_Num_int_)) : R_l_toUndoS_3 (n + 1) s0 s4 b0 =
    bif decide (s4 < (↑(List.length s0) : Int)) then
 if (0 : Int) ≤ s4 then
 (nth s0 s4.toNat).bind fun y =>
 if (0 : Int) ≤ s4 then
 if s4 < (↑b0.length : Int) then
 (nth b0 s4.toNat).bind fun y_1 =>
 (updO b0 s4.toNat y).bind fun y => R_l_toUndoS_3 n s0 (IntKind.i64.wrap (s4 + (1 : Int))) y
 else none
 else none
 else none
 else some b0 := by kernel_rfl

end Go.Sx.Tryz

set_option maxRecDepth 100000
namespace Go.Sx.Tryz
open Go Go.Sx Go.Proofs

noncomputable def l_l_toVoteS : List (Nat × Con) := [(32, c_l_toVote)]
theorem l_l_toVoteS_ok : ∀ q ∈ l_l_toVoteS, ConOk Tryz.prog q.1 q.2 := Tryz.cons_cons c_l_toVote_ok (Tryz.cons_nil)
abbrev k_l_toVoteS_3 : List Keep × List BK := ([.ro tSlLVote, .drop, .drop, .is (.own 0 0), .ro tInt64, .drop, .drop, .drop, .drop, .drop, .drop, .drop, .drop, .drop, .drop, .drop, .drop, .drop, .drop, .drop, .drop, .drop, .drop], [.arr tXstruct_Phase_int_View_int_Block_int_Sign])
def kp_l_toVoteS : KP := [(3, k_l_toVoteS_3)]
noncomputable def q_l_toVoteS (n : Nat) (x : Args [tSlLVote]) := evX (false, false, []) l_l_toVoteS kp_l_toVoteS [some uSlIVote] Tryz.f36 (shF uSlIVote) n (encA [tSlLVote] x)
noncomputable def c_l_toVoteS : Con := roS [tSlLVote] true (shF uSlIVote) (q_l_toVoteS big)
theorem c_l_toVoteS_ok : ConOk Tryz.prog 36 c_l_toVoteS := roS_ok ⟨Tryz.f36, by kernel_rfl, rfl, by decide⟩ fun _ _ h => evX_ok l_l_toVoteS_ok (f := Tryz.f36) (by kernel_rfl) rfl (by kernel_rfl) (by kernel_rfl) big h
noncomputable def Q_l_toVoteS (n : Nat) (a0 : DSlLVote) : Option DSlIVote := q_l_toVoteS n (a0, ())
noncomputable def r_l_toVoteS_3 (n : Nat) (x : KD k_l_toVoteS_3.1) (y : BD k_l_toVoteS_3.2) := rounds (env (false, false, []) l_l_toVoteS) kp_l_toVoteS (body Tryz.f36) (finX (false, false, []) l_l_toVoteS [some uSlIVote] Tryz.f36 (shF uSlIVote) [.val tSlLVote (zeroD tSlLVote)]) n 3 k_l_toVoteS_3 x y
noncomputable def R_l_toVoteS_3 (n : Nat) (s0 : DSlLVote) (s4 : Int) (b0 : (List DXstruct_Phase_int_View_int_Block_int_Sign)) : Option DSlIVote := r_l_toVoteS_3 n (s0, s4, ()) (b0, ())
theorem Q_l_toVoteS_eq (n : Nat) (a0 : DSlLVote) : Q_l_toVoteS n a0 =
    if (↑(List.length a0) : Int) ≤ (↑(List.length a0) : Int) then
 if (↑(List.length a0) : Int) ≤ (↑lim : Int) then
 R_l_toVoteS_3 n a0 (0 : Int)
 (List.replicate (↑(List.length a0) : Int).toNat
 (zeroD (bif (env (false, false, []) l_l_toVoteS).nest then tIVote.uq else tIVote)))
 else none
 else none := by kernel_rfl
theorem R_l_toVoteS_3_eq (n : Nat) (s0 : DSlLVote) (s4 : Int) (b0 : (List DXstruct_Phase_int_View_int_Block_int_Sign)) : R_l_toVoteS_3 (n + 1) s0 s4 b0 =
    bif decide (s4 < (↑(List.length s0) : Int)) then
 if (0 : Int) ≤ s4 then
 (nth s0 s4.toNat).bind fun y =>
 if (0 : Int) ≤ s4 then
 if s4 < (↑b0.length : Int) then
 (nth b0 s4.toNat).bind fun y_1 =>
 (updO b0 s4.toNat y).bind fun y => R_l_toVoteS_3 n s0 (IntKind.i64.wrap (s4 + (1 : Int))) y
 else none
 else none
 else none
 else some b0 := by kernel_rfl

end Go.Sx.Tryz

set_option maxRecDepth 100000
namespace Go.Sx.Tryz
open Go Go.Sx Go.Proofs

noncomputable def l_l_toLetter : List (Nat × Con) := [(31, c_l_toQc), (32, c_l_toVote)]
theorem l_l_toLetter_ok : ∀ q ∈ l_l_toLetter, ConOk Tryz.prog q.1 q.2 := Tryz.cons_cons c_l_toQc_ok (Tryz.cons_cons c_l_toVote_ok (Tryz.cons_nil))
def kp_l_toLetter : KP := []
noncomputable def q_l_toLetter (n : Nat) (x : Args [tLLetter]) := evX (false, false, [1, 3, 4, 7, 10, 13, 16, 19, 23]) l_l_toLetter kp_l_toLetter [none] Tryz.f76 (shV tILetter) n (encA [tLLetter] x)
noncomputable def c_l_toLetter : Con := roS [tLLetter] true (shV tILetter) (q_l_toLetter big)
theorem c_l_toLetter_ok : ConOk Tryz.prog 76 c_l_toLetter := roS_ok ⟨Tryz.f76, by kernel_rfl, rfl, by decide⟩ fun _ _ h => evX_ok l_l_toLetter_ok (f := Tryz.f76) (by kernel_rfl) rfl (by kernel_rfl) (by kernel_rfl) big h
noncomputable def Q_l_toLetter (n : Nat) (a0 : DLLetter) : Option DILetter := q_l_toLetter n (a0, ())
theorem Q_l_toLetter_eq (n : Nat) (a0 : DLLetter) : Q_l_toLetter n a0 =
    some a0 := by kernel_rfl

end Go.Sx.Tryz

set_option maxRecDepth 100000
namespace Go.Sx.Tryz
open Go Go.Sx Go.Proofs

noncomputable def l_l_toLetterS : List (Nat × Con) := [(76, c_l_toLetter)]
theorem l_l_toLetterS_ok : ∀ q ∈ l_l_toLetterS, ConOk Tryz.prog q.1 q.2 := Tryz.cons_cons c_l_toLetter_ok (Tryz.cons_nil)
abbrev k_l_toLetterS_3 : List Keep × List BK := ([.ro tSlLLetter, .drop, .drop, .is (.own 0 0), .ro tInt64, .drop, .drop, .drop, .drop, .drop, .drop, .drop, .drop, .drop, .drop, .drop, .drop, .drop, .drop, .drop, .drop, .drop, .drop], [.arr tXstruct_Kind_int_From_int_To_int_View_int])
def kp_l_toLetterS : KP := [(3, k_l_toLetterS_3)]
noncomputable def q_l_toLetterS (n : Nat) (x : Args [tSlLLetter]) := evX (false, false, []) l_l_toLetterS kp_l_toLetterS [some uSlILetter] Tryz.f37 (shF uSlILetter) n (encA [tSlLLetter] x)
noncomputable def c_l_toLetterS : Con := roS [tSlLLetter] true (shF uSlILetter) (q_l_toLetterS big)
theorem c_l_toLetterS_ok : ConOk Tryz.prog 37 c_l_toLetterS := roS_ok ⟨Tryz.f37, by kernel_rfl, rfl, by decide⟩ fun _ _ h => evX_ok l_l_toLetterS_ok (f := Tryz.f37) (by kernel_rfl) rfl (by kernel_rfl) (by kernel_rfl) big h
noncomputable def Q_l_toLetterS (n : Nat) (a0 : DSlLLetter) : Option DSlILetter := q_l_toLetterS n (a0, ())
noncomputable def r_l_toLetterS_3 (n : Nat) (x : KD k_l_toLetterS_3.1) (y : BD k_l_toLetterS_3.2) := rounds (env (false, false, []) l_l_toLetterS) kp_l_toLetterS (body Tryz.f37) (finX (false, false, []) l_l_toLetterS [some uSlILetter] Tryz.f37 (shF uSlILetter) [.val tSlLLetter (zeroD tSlLLetter)]) n 3 k_l_toLetterS_3 x y
noncomputable def R_l_toLetterS_3 (n : Nat) (s0 : DSlLLetter) (s4 : Int) (b0 : (List DXstruct_Kind_int_From_int_To_int_View_int)) : Option DSlILetter := r_l_toLetterS_3 n (s0, s4, ()) (b0, ())
theorem Q_l_toLetterS_eq (n : Nat) (a0 : DSlLLetter) : Q_l_toLetterS n a0 =
    if (↑(List.length a0) : Int) ≤ (↑(List.length a0) : Int) then
 if (↑(List.length a0) : Int) ≤ (↑lim : Int) then
 R_l_toLetterS_3 n a0 (0 : Int)
 (List.replicate (↑(List.length a0) : Int).toNat
 (zeroD (bif (env (false, false, []) l_l_toLetterS).nest then tILetter.uq else tILetter)))
 else none
 else none := by kernel_rfl
theorem R_l_toLetterS_3_eq (n : Nat) (s0 : DSlLLetter) (s4 : Int) (b0 : (List DXstruct_Kind_int_From_int_To_int_View_int)) : R_l_toLetterS_3 (n + 1) s0 s4 b0 =
    bif decide (s4 < (↑(List.length s0) : Int)) then
 if (0 : Int) ≤ s4 then
 (nth s0 s4.toNat).bind fun y =>
 if (0 : Int) ≤ s4 then
 if s4 < (↑b0.length : Int) then
 (nth b0 s4.toNat).bind fun y_1 =>
 (updO b0 s4.toNat y).bind fun y => R_l_toLetterS_3 n s0 (IntKind.i64.wrap (s4 + (1 : Int))) y
 else none
 else none
 else none
 else some b0 := by kernel_rfl

end Go.Sx.Tryz

set_option maxRecDepth 100000
namespace Go.Sx.Tryz
open Go Go.Sx Go.Proofs

noncomputable def l_l_toPeer : List (Nat × Con) := [(31, c_l_toQc), (32, c_l_toVote), (33, c_l_toIntS), (34, c_l_toCellS), (35, c_l_toUndoS), (36, c_l_toVoteS), (37, c_l_toLetterS)]
theorem l_l_toPeer_ok : ∀ q ∈ l_l_toPeer, ConOk Tryz.prog q.1 q.2 := Tryz.cons_cons c_l_toQc_ok (Tryz.cons_cons c_l_toVote_ok (Tryz.cons_cons c_l_toIntS_ok (Tryz.cons_cons c_l_toCellS_ok (Tryz.cons_cons c_l_toUndoS_ok (Tryz.cons_cons c_l_toVoteS_ok (Tryz.cons_cons c_l_toLetterS_ok (Tryz.cons_nil)))))))
def kp_l_toPeer : KP := []
noncomputable def q_l_toPeer (n : Nat) (x : Args [tLPeer]) := evX (false, false, [1, 3, 4, 7, 10, 14, 18, 22, 26, 30, 34, 38, 42, 46]) l_l_toPeer kp_l_toPeer [some uIPeer] Tryz.f9 (shF uIPeer) n (encA [tLPeer] x)
noncomputable def c_l_toPeer : Con := roS [tLPeer] true (shF uIPeer) (q_l_toPeer big)
theorem c_l_toPeer_ok : ConOk Tryz.prog 9 c_l_toPeer := roS_ok ⟨Tryz.f9, by kernel_rfl, rfl, by decide⟩ fun _ _ h => evX_ok l_l_toPeer_ok (f := Tryz.f9) (by kernel_rfl) rfl (by kernel_rfl) (by kernel_rfl) big h
noncomputable def Q_l_toPeer (n : Nat) (a0 : DLPeer) : Option DIPeer := q_l_toPeer n (a0, ())
theorem Q_l_toPeer_eq (n : Nat) (a0 : DLPeer) : Q_l_toPeer n a0 =
    (Q_l_toIntS big a0.snd.snd.snd.snd.snd.fst).bind fun y =>
 (Q_l_toCellS big a0.snd.snd.snd.snd.snd.snd.fst).bind fun y_1 =>
 (Q_l_toIntS big a0.snd.snd.snd.snd.snd.snd.snd.fst).bind fun y_2 =>
 (Q_l_toUndoS big a0.snd.snd.snd.snd.snd.snd.snd.snd.fst).bind fun y_3 =>
 (Q_l_toVoteS big a0.snd.snd.snd.snd.snd.snd.snd.snd.snd.fst).bind fun y_4 =>
 (Q_l_toLetterS big a0.snd.snd.snd.snd.snd.snd.snd.snd.snd.snd.fst).bind fun y_5 =>
 some
 (a0.fst, a0.snd.fst, a0.snd.snd.fst, a0.snd.snd.snd.fst, a0.snd.snd.snd.snd.fst, y, y_1, y_2, y_3, y_4,
 y_5, a0.snd.snd.snd.snd.snd.snd.snd.snd.snd.snd.snd) := by kernel_rfl

end Go.Sx.Tryz

set_option maxRecDepth 100000
namespace Go.Sx.Tryz
open Go Go.Sx Go.Proofs

noncomputable def l_l_eqQc : List (Nat × Con) := []
theorem l_l_eqQc_ok : ∀ q ∈ l_l_eqQc, ConOk Tryz.prog q.1 q.2 := Tryz.cons_nil
def kp_l_eqQc : KP := []
noncomputable def q_l_eqQc (n : Nat) (x : Args [tIQc, tIQc]) := evX (false, false, [2, 3, 5, 7, 10, 12, 15, 17, 20, 22]) l_l_eqQc kp_l_eqQc [none] Tryz.f45 (shV tBool) n (encA [tIQc, tIQc] x)
noncomputable def c_l_eqQc : Con := roS [tIQc, tIQc] true (shV tBool) (q_l_eqQc big)
theorem c_l_eqQc_ok : ConOk Tryz.prog 45 c_l_eqQc := roS_ok ⟨Tryz.f45, by kernel_rfl, rfl, by decide⟩ fun _ _ h => evX_ok l_l_eqQc_ok (f := Tryz.f45) (by kernel_rfl) rfl (by kernel_rfl) (by kernel_rfl) big h
noncomputable def Q_l_eqQc (n : Nat) (a0 : DIQc) (a1 : DIQc) : Option Bool := q_l_eqQc n (a0, a1, ())
theorem Q_l_eqQc_eq (n : Nat) (a0 : DIQc) (a1 : DIQc) : Q_l_eqQc n a0 a1 =
    bif !decide (a0.fst = a1.fst) then some false
 else
 bif !decide (a0.snd.fst = a1.snd.fst) then some false
 else
 bif !decide (a0.snd.snd.fst = a1.snd.snd.fst) then some false
 else bif !decide (a0.snd.snd.snd.fst = a1.snd.snd.snd.fst) then some false else some true := by kernel_rfl

end Go.Sx.Tryz

set_option maxRecDepth 100000
namespace Go.Sx.Tryz
open Go Go.Sx Go.Proofs

noncomputable def l_l_eqVote : List (Nat × Con) := []
theorem l_l_eqVote_ok : ∀ q ∈ l_l_eqVote, ConOk Tryz.prog q.1 q.2 := Tryz.cons_nil
def kp_l_eqVote : KP := []
noncomputable def q_l_eqVote (n : Nat) (x : Args [tIVote, tIVote]) := evX (false, false, [2, 3, 5, 7, 10, 12, 15, 17, 20, 22]) l_l_eqVote kp_l_eqVote [none] Tryz.f46 (shV tBool) n (encA [tIVote, tIVote] x)
noncomputable def c_l_eqVote : Con := roS [tIVote, tIVote] true (shV tBool) (q_l_eqVote big)
theorem c_l_eqVote_ok : ConOk Tryz.prog 46 c_l_eqVote := roS_ok ⟨Tryz.f46, by kernel_rfl, rfl, by decide⟩ fun _ _ h => evX_ok l_l_eqVote_ok (f := Tryz.f46) (by kernel_rfl) rfl (by kernel_rfl) (by kernel_rfl) big h
noncomputable def Q_l_eqVote (n : Nat) (a0 : DIVote) (a1 : DIVote) : Option Bool := q_l_eqVote n (a0, a1, ())
theorem Q_l_eqVote_eq (n : Nat) (a0 : DIVote) (a1 : DIVote) : Q_l_eqVote n a0 a1 =
    bif !decide (a0.fst = a1.fst) then some false
 else
 bif !decide (a0.snd.fst = a1.snd.fst) then some false
 else
 bif !decide (a0.snd.snd.fst = a1.snd.snd.fst) then some false
 else bif !decide (a0.snd.snd.snd.fst = a1.snd.snd.snd.fst) then some false else some true := by kernel_rfl

end Go.Sx.Tryz

set_option maxRecDepth 100000
namespace Go.Sx.Tryz
open Go Go.Sx Go.Proofs

noncomputable def l_l_eqIntS : List (Nat × Con) := []
theorem l_l_eqIntS_ok : ∀ q ∈ l_l_eqIntS, ConOk Tryz.prog q.1 q.2 := Tryz.cons_nil
abbrev k_l_eqIntS_4 : List Keep × List BK := ([.ro tSlInt, .ro tSlInt, .drop, .drop, .drop, .ro tInt64, .drop, .drop, .drop, .drop, .drop, .drop, .drop, .drop, .drop, .drop, .drop, .drop, .drop, .drop, .drop, .drop, .drop, .drop, .drop, .drop], [])
def kp_l_eqIntS : KP := [(4, k_l_eqIntS_4)]
noncomputable def q_l_eqIntS (n : Nat) (x : Args [tSlInt, tSlInt]) := evX (false, false, []) l_l_eqIntS kp_l_eqIntS [none] Tryz.f47 (shV tBool) n (encA [tSlInt, tSlInt] x)
noncomputable def c_l_eqIntS : Con := roS [tSlInt, tSlInt] true (shV tBool) (q_l_eqIntS big)
theorem c_l_eqIntS_ok : ConOk Tryz.prog 47 c_l_eqIntS := roS_ok ⟨Tryz.f47, by kernel_rfl, rfl, by decide⟩ fun _ _ h => evX_ok l_l_eqIntS_ok (f := Tryz.f47) (by kernel_rfl) rfl (by kernel_rfl) (by kernel_rfl) big h
noncomputable def Q_l_eqIntS (n : Nat) (a0 : DSlInt) (a1 : DSlInt) : Option Bool := q_l_eqIntS n (a0, a1, ())
noncomputable def r_l_eqIntS_4 (n : Nat) (x : KD k_l_eqIntS_4.1) (y : BD k_l_eqIntS_4.2) := rounds (env (false, false, []) l_l_eqIntS) kp_l_eqIntS (body Tryz.f47) (finX (false, false, []) l_l_eqIntS [none] Tryz.f47 (shV tBool) [.val tSlInt (zeroD tSlInt), .val tSlInt (zeroD tSlInt)]) n 4 k_l_eqIntS_4 x y
noncomputable def R_l_eqIntS_4 (n : Nat) (s0 : DSlInt) (s1 : DSlInt) (s5 : Int) : Option Bool := r_l_eqIntS_4 n (s0, s1, s5, ()) ()
theorem Q_l_eqIntS_eq (n : Nat) (a0 : DSlInt) (a1 : DSlInt) : Q_l_eqIntS n a0 a1 =
    bif !decide ((↑(List.length a0) : Int) = (↑(List.length a1) : Int)) then some false
 else R_l_eqIntS_4 n a0 a1 (0 : Int) := by kernel_rfl
theorem R_l_eqIntS_4_eq (n : Nat) (s0 : DSlInt) (s1 : DSlInt) (s5 : Int) : R_l_eqIntS_4 (n + 1) s0 s1 s5 =
    bif decide (s5 < (↑(List.length s0) : Int)) then
 if (0 : Int) ≤ s5 then
 (nth s0 s5.toNat).bind fun y =>
 if (0 : Int) ≤ s5 then
 (nth s1 s5.toNat).bind fun y_1 =>
 bif !decide (y = y_1) then some false else R_l_eqIntS_4 n s0 s1 (IntKind.i64.wrap (s5 + (1 : Int)))
 else none
 else none
 else some true := by kernel_rfl

end Go.Sx.Tryz

set_option maxRecDepth 100000
namespace Go.Sx.Tryz
open Go Go.Sx Go.Proofs

noncomputable def l_l_eqCell : List (Nat × Con) := []
theorem l_l_eqCell_ok : ∀ q ∈ l_l_eqCell, ConOk Tryz.prog q.1 q.2 := Tryz.cons_nil
def kp_l_eqCell : KP := []
noncomputable def q_l_eqCell (n : Nat) (x : Args [tICell, tICell]) := evX (false, false, [2, 3, 5, 7, 10, 12]) l_l_eqCell kp_l_eqCell [none] Tryz.f89 (shV tBool) n (encA [tICell, tICell] x)
noncomputable def c_l_eqCell : Con := roS [tICell, tICell] true (shV tBool) (q_l_eqCell big)
theorem c_l_eqCell_ok : ConOk Tryz.prog 89 c_l_eqCell := roS_ok ⟨Tryz.f89, by kernel_rfl, rfl, by decide⟩ fun _ _ h => evX_ok l_l_eqCell_ok (f := Tryz.f89) (by kernel_rfl) rfl (by kernel_rfl) (by kernel_rfl) big h
noncomputable def Q_l_eqCell (n : Nat) (a0 : DICell) (a1 : DICell) : Option Bool := q_l_eqCell n (a0, a1, ())
theorem Q_l_eqCell_eq (n : Nat) (a0 : DICell) (a1 : DICell) : Q_l_eqCell n a0 a1 =
    bif !decide (a0.fst = a1.fst) then some false
 else bif !decide (a0.snd.fst = a1.snd.fst) then some false else some true := by kernel_rfl

end Go.Sx.Tryz

set_option maxRecDepth 100000
namespace Go.Sx.Tryz
open Go Go.Sx Go.Proofs

noncomputable def l_l_eqCellS : List (Nat × Con) := [(89, c_l_eqCell)]
theorem l_l_eqCellS_ok : ∀ q ∈ l_l_eqCellS, ConOk Tryz.prog q.1 q.2 := Tryz.cons_cons c_l_eqCell_ok (Tryz.cons_nil)
abbrev k_l_eqCellS_4 : List Keep × List BK := ([.ro tSlLCell, .ro tSlLCell, .drop, .drop, .drop, .ro tInt64, .drop, .drop, .drop, .drop, .drop, .drop, .drop, .drop, .drop, .drop, .drop, .drop, .drop, .drop, .drop, .drop, .drop, .drop, .drop, .drop, .drop], [])
def kp_l_eqCellS : KP := [(4, k_l_eqCellS_4)]
noncomputable def q_l_eqCellS (n : Nat) (x : Args [tSlICell, tSlICell]) := evX (false, false, []) l_l_eqCellS kp_l_eqCellS [none] Tryz.f48 (shV tBool) n (encA [tSlICell, tSlICell] x)
noncomputable def c_l_eqCellS : Con := roS [tSlICell, tSlICell] true (shV tBool) (q_l_eqCellS big)
theorem c_l_eqCellS_ok : ConOk Tryz.prog 48 c_l_eqCellS := roS_ok ⟨Tryz.f48, by kernel_rfl, rfl, by decide⟩ fun _ _ h => evX_ok l_l_eqCellS_ok (f := Tryz.f48) (by kernel_rfl) rfl (by kernel_rfl) (by kernel_rfl) big h
noncomputable def Q_l_eqCellS (n : Nat) (a0 : DSlICell) (a1 : DSlICell) : Option Bool := q_l_eqCellS n (a0, a1, ())
noncomputable def r_l_eqCellS_4 (n : Nat) (x : KD k_l_eqCellS_4.1) (y : BD k_l_eqCellS_4.2) := rounds (env (false, false, []) l_l_eqCellS) kp_l_eqCellS (body Tryz.f48) (finX (false, false, []) l_l_eqCellS [none] Tryz.f48 (shV tBool) [.val tSlICell (zeroD tSlICell), .val tSlICell (zeroD tSlICell)]) n 4 k_l_eqCellS_4 x y
noncomputable def R_l_eqCellS_4 (n : Nat) (s0 : DSlLCell) (s1 : DSlLCell) (s5 : Int) : Option Bool := r_l_eqCellS_4 n (s0, s1, s5, ()) ()
theorem Q_l_eqCellS_eq (n : Nat) (a0 : DSlICell) (a1 : DSlICell) : Q_l_eqCellS n a0 a1 =
    bif !decide ((↑(List.length a0) : Int) = (↑(List.length a1) : Int)) then some false
 else R_l_eqCellS_4 n a0 a1 (0 : Int) := by kernel_rfl
theorem R_l_eqCellS_4_eq (n : Nat) (s0 : DSlLCell) (s1 : DSlLCell) (s5 : Int) : R_l_eqCellS_4 (n + 1) s0 s1 s5 =
    bif decide (s5 < (↑(List.length s0) : Int)) then
 if (0 : Int) ≤ s5 then
 (nth s0 s5.toNat).bind fun y =>
 if (0 : Int) ≤ s5 then
 (nth s1 s5.toNat).bind fun y_1 =>
 (Q_l_eqCell big y y_1).bind fun y =>
 bif !y then some false else R_l_eqCellS_4 n s0 s1 (IntKind.i64.wrap (s5 + (1 : Int)))
 else none
 else none
 else some true := by kernel_rfl

end Go.Sx.Tryz

set_option maxRecDepth 100000
namespace Go.Sx.Tryz
open Go Go.Sx Go.Proofs

noncomputable def l_l_eqUndo : List (Nat × Con) := []
theorem l_l_eqUndo_ok : ∀ q ∈ l_l_eqUndo, ConOk Tryz.prog q.1 q.2 := Tryz.cons_nil
def kp_l_eqUndo : KP := []
noncomputable def q_l_eqUndo (n : Nat) (x : Args [tIUndo, tIUndo]) := evX (false, false, [2, 3, 5, 7, 10, 12, 15, 17]) l_l_eqUndo kp_l_eqUndo [none] Tryz.f90 (shV tBool) n (encA [tIUndo, tIUndo] x)
noncomputable def c_l_eqUndo : Con := roS [tIUndo, tIUndo] true (shV tBool) (q_l_eqUndo big)
theorem c_l_eqUndo_ok : ConOk Tryz.prog 90 c_l_eqUndo := roS_ok ⟨Tryz.f90, by kernel_rfl, rfl, by decide⟩ fun _ _ h => evX_ok l_l_eqUndo_ok (f := Tryz.f90) (by kernel_rfl) rfl (by kernel_rfl) (by kernel_rfl) big h
noncomputable def Q_l_eqUndo (n : Nat) (a0 : DIUndo) (a1 : DIUndo) : Option Bool := q_l_eqUndo n (a0, a1, ())
theorem Q_l_eqUndo_eq (n : Nat) (a0 : DIUndo) (a1 : DIUndo) : Q_l_eqUndo n a0 a1 =
    bif !decide (a0.fst = a1.fst) then some false
 else
 bif !a0.snd.fst == a1.snd.fst then some false
 else bif !decide (a0.snd.snd.fst = a1.snd.snd.fst) then some false else some true := by kernel_rfl

end Go.Sx.Tryz

set_option maxRecDepth 100000
namespace Go.Sx.Tryz
open Go Go.Sx Go.Proofs

noncomputable def l_l_eqUndoS : List (Nat × Con) := [(90, c_l_eqUndo)]
theorem l_l_eqUndoS_ok : ∀ q ∈ l_l_eqUndoS, ConOk Tryz.prog q.1 q.2 := Tryz.cons_cons c_l_eqUndo_ok (Tryz.cons_nil)
abbrev k_l_eqUndoS_4 : List Keep × List BK := ([.ro tSlLUndo, .ro tSlLUndo, .drop, .drop, .drop, .ro tInt64, .drop, .drop, .drop, .drop, .drop, .drop, .drop, .drop, .drop, .drop, .drop, .drop, .drop, .drop, .drop, .drop, .drop, .drop, .drop, .drop, .drop], [])
def kp_l_eqUndoS : KP := [(4, k_l_eqUndoS_4)]
noncomputable def q_l_eqUndoS (n : Nat) (x : Args [tSlIUndo, tSlIUndo]) := evX (false, false, []) l_l_eqUndoS kp_l_eqUndoS [none] Tryz.f49 (shV tBool) n (encA [tSlIUndo, tSlIUndo] x)
noncomputable def c_l_eqUndoS : Con := roS [tSlIUndo, tSlIUndo] true (shV tBool) (q_l_eqUndoS big)
theorem c_l_eqUndoS_ok : ConOk Tryz.prog 49 c_l_eqUndoS := roS_ok ⟨Tryz.f49, by kernel_rfl, rfl, by decide⟩ fun _ _ h => evX_ok l_l_eqUndoS_ok (f := Tryz.f49) (by kernel_rfl) rfl (by kernel_rfl) (by kernel_rfl) big h
noncomputable def Q_l_eqUndoS (n : Nat) (a0 : DSlIUndo) (a1 : DSlIUndo) : Option Bool := q_l_eqUndoS n (a0, a1, ())
noncomputable def r_l_eqUndoS_4 (n : Nat) (x : KD k_l_eqUndoS_4.1) (y : BD k_l_eqUndoS_4.2) := rounds (env (false, false, []) l_l_eqUndoS) kp_l_eqUndoS (body Tryz.f49) (finX (false, false, []) l_l_eqUndoS [none] Tryz.f49 (shV tBool) [.val tSlIUndo (zeroD tSlIUndo), .val tSlIUndo (zeroD tSlIUndo)]) n 4 k_l_eqUndoS_4 x y
noncomputable def R_l_eqUndoS_4 (n : Nat) (s0 : DSlLUndo) (s1 : DSlLUndo) (s5 : Int) : Option Bool := r_l_eqUndoS_4 n (s0, s1, s5, ()) ()
theorem Q_l_eqUndoS_eq (n : Nat) (a0 : DSlIUndo) (a1 : DSlIUndo) : Q_l_eqUndoS n a0 a1 =
    bif !decide ((↑(List.length a0) : Int) = (↑(List.length a1) : Int)) then some false
 else R_l_eqUndoS_4 n a0 a1 (0 : Int) := by kernel_rfl
theorem R_l_eqUndoS_4_eq (n : Nat) (s0 : DSlLUndo) (s1 : DSlLUndo) (s5 : Int) : R_l_eqUndoS_4 (n + 1) s0 s1 s5 =
    bif decide (s5 < (↑(List.length s0) : Int)) then
 if (0 : Int) ≤ s5 then
 (nth s0 s5.toNat).bind fun y =>
 if (0 : Int) ≤ s5 then
 (nth s1 s5.toNat).bind fun y_1 =>
 (Q_l_eqUndo big y y_1).bind fun y =>
 bif !y then some false else R_l_eqUndoS_4 n s0 s1 (IntKind.i64.wrap (s5 + (1 : Int)))
 else none
 else none
 else some true := by kernel_rfl

end Go.Sx.Tryz

set_option maxRecDepth 100000
namespace Go.Sx.Tryz
open Go Go.Sx Go.Proofs

noncomputable def l_l_eqVoteS : List (Nat × Con) := [(46, c_l_eqVote)]
theorem l_l_eqVoteS_ok : ∀ q ∈ l_l_eqVoteS, ConOk Tryz.prog q.1 q.2 := Tryz.cons_cons c_l_eqVote_ok (Tryz.cons_nil)
abbrev k_l_eqVoteS_4 : List Keep × List BK := ([.ro tSlLVote, .ro tSlLVote, .drop, .drop, .drop, .ro tInt64, .drop, .drop, .drop, .drop, .drop, .drop, .drop, .drop, .drop, .drop, .drop, .drop, .drop, .drop, .drop, .drop, .drop, .drop, .drop, .drop, .drop], [])
def kp_l_eqVoteS : KP := [(4, k_l_eqVoteS_4)]
noncomputable def q_l_eqVoteS (n : Nat) (x : Args [tSlIVote, tSlIVote]) := evX (false, false, []) l_l_eqVoteS kp_l_eqVoteS [none] Tryz.f50 (shV tBool) n (encA [tSlIVote, tSlIVote] x)
noncomputable def c_l_eqVoteS : Con := roS [tSlIVote, tSlIVote] true (shV tBool) (q_l_eqVoteS big)
theorem c_l_eqVoteS_ok : ConOk Tryz.prog 50 c_l_eqVoteS := roS_ok ⟨Tryz.f50, by kernel_rfl, rfl, by decide⟩ fun _ _ h => evX_ok l_l_eqVoteS_ok (f := Tryz.f50) (by kernel_rfl) rfl (by kernel_rfl) (by kernel_rfl) big h
noncomputable def Q_l_eqVoteS (n : Nat) (a0 : DSlIVote) (a1 : DSlIVote) : Option Bool := q_l_eqVoteS n (a0, a1, ())
noncomputable def r_l_eqVoteS_4 (n : Nat) (x : KD k_l_eqVoteS_4.1) (y : BD k_l_eqVoteS_4.2) := rounds (env (false, false, []) l_l_eqVoteS) kp_l_eqVoteS (body Tryz.f50) (finX (false, false, []) l_l_eqVoteS [none] Tryz.f50 (shV tBool) [.val tSlIVote (zeroD tSlIVote), .val tSlIVote (zeroD tSlIVote)]) n 4 k_l_eqVoteS_4 x y
noncomputable def R_l_eqVoteS_4 (n : Nat) (s0 : DSlLVote) (s1 : DSlLVote) (s5 : Int) : Option Bool := r_l_eqVoteS_4 n (s0, s1, s5, ()) ()
theorem Q_l_eqVoteS_eq (n : Nat) (a0 : DSlIVote) (a1 : DSlIVote) : Q_l_eqVoteS n a0 a1 =
    bif !decide ((↑(List.length a0) : Int) = (↑(List.length a1) : Int)) then some false
 else R_l_eqVoteS_4 n a0 a1 (0 : Int) := by kernel_rfl
theorem R_l_eqVoteS_4_eq (n : Nat) (s0 : DSlLVote) (s1 : DSlLVote) (s5 : Int) : R_l_eqVoteS_4 (n + 1) s0 s1 s5 =
    bif decide (s5 < (↑(List.length s0) : Int)) then
 if (0 : Int) ≤ s5 then
 (nth s0 s5.toNat).bind fun y =>
 if (0 : Int) ≤ s5 then
 (nth s1 s5.toNat).bind fun y_1 =>
 (Q_l_eqVote big y y_1).bind fun y =>
 bif !y then some false else R_l_eqVoteS_4 n s0 s1 (IntKind.i64.wrap (s5 + (1 : Int)))
 else none
 else none
 else some true := by kernel_rfl

end Go.Sx.Tryz

set_option maxRecDepth 100000
namespace Go.Sx.Tryz
open Go Go.Sx Go.Proofs

noncomputable def l_l_eqLetter : List (Nat × Con) := [(45, c_l_eqQc), (46, c_l_eqVote)]
theorem l_l_eqLetter_ok : ∀ q ∈ l_l_eqLetter, ConOk Tryz.prog q.1 q.2 := Tryz.cons_cons c_l_eqQc_ok (Tryz.cons_cons c_l_eqVote_ok (Tryz.cons_nil))
def kp_l_eqLetter : KP := []
noncomputable def q_l_eqLetter (n : Nat) (x : Args [tILetter, tILetter]) := evX (false, false, [2, 3, 5, 7, 10, 12, 15, 17, 20, 22, 25, 27, 30, 32, 36, 38]) l_l_eqLetter kp_l_eqLetter [none] Tryz.f91 (shV tBool) n (encA [tILetter, tILetter] x)
noncomputable def c_l_eqLetter : Con := roS [tILetter, tILetter] true (shV tBool) (q_l_eqLetter big)
theorem c_l_eqLetter_ok : ConOk Tryz.prog 91 c_l_eqLetter := roS_ok ⟨Tryz.f91, by kernel_rfl, rfl, by decide⟩ fun _ _ h => evX_ok l_l_eqLetter_ok (f := Tryz.f91) (by kernel_rfl) rfl (by kernel_rfl) (by kernel_rfl) big h
noncomputable def Q_l_eqLetter (n : Nat) (a0 : DILetter) (a1 : DILetter) : Option Bool := q_l_eqLetter n (a0, a1, ())
theorem Q_l_eqLetter_eq (n : Nat) (a0 : DILetter) (a1 : DILetter) : Q_l_eqLetter n a0 a1 =
    bif !decide (a0.fst = a1.fst) then some false
 else
 bif !decide (a0.snd.fst = a1.snd.fst) then some false
 else
 bif !decide (a0.snd.snd.fst = a1.snd.snd.fst) then some false
 else
 bif !decide (a0.snd.snd.snd.fst = a1.snd.snd.snd.fst) then some false
 else
 bif !decide (a0.snd.snd.snd.snd.fst = a1.snd.snd.snd.snd.fst) then some false
 else
 (Q_l_eqQc big a0.snd.snd.snd.snd.snd.fst a1.snd.snd.snd.snd.snd.fst).bind fun y =>
 bif !y then some false
 else
 (Q_l_eqVote big a0.snd.snd.snd.snd.snd.snd.fst a1.snd.snd.snd.snd.snd.snd.fst).bind fun y =>
 bif !y then some false else some true := by kernel_rfl

end Go.Sx.Tryz

set_option maxRecDepth 100000
namespace Go.Sx.Tryz
open Go Go.Sx Go.Proofs

noncomputable def l_l_eqLetterS : List (Nat × Con) := [(91, c_l_eqLetter)]
theorem l_l_eqLetterS_ok : ∀ q ∈ l_l_eqLetterS, ConOk Tryz.prog q.1 q.2 := Tryz.cons_cons c_l_eqLetter_ok (Tryz.cons_nil)
abbrev k_l_eqLetterS_4 : List Keep × List BK := ([.ro tSlLLetter, .ro tSlLLetter, .drop, .drop, .drop, .ro tInt64, .drop, .drop, .drop, .drop, .drop, .drop, .drop, .drop, .drop, .drop, .drop, .drop, .drop, .drop, .drop, .drop, .drop, .drop, .drop, .drop, .drop], [])
def kp_l_eqLetterS : KP := [(4, k_l_eqLetterS_4)]
noncomputable def q_l_eqLetterS (n : Nat) (x : Args [tSlILetter, tSlILetter]) := evX (false, false, []) l_l_eqLetterS kp_l_eqLetterS [none] Tryz.f51 (shV tBool) n (encA [tSlILetter, tSlILetter] x)
noncomputable def c_l_eqLetterS : Con := roS [tSlILetter, tSlILetter] true (shV tBool) (q_l_eqLetterS big)
theorem c_l_eqLetterS_ok : ConOk Tryz.prog 51 c_l_eqLetterS := roS_ok ⟨Tryz.f51, by kernel_rfl, rfl, by decide⟩ fun _ _ h => evX_ok l_l_eqLetterS_ok (f := Tryz.f51) (by kernel_rfl) rfl (by kernel_rfl) (by kernel_rfl) big h
noncomputable def Q_l_eqLetterS (n : Nat) (a0 : DSlILetter) (a1 : DSlILetter) : Option Bool := q_l_eqLetterS n (a0, a1, ())
noncomputable def r_l_eqLetterS_4 (n : Nat) (x : KD k_l_eqLetterS_4.1) (y : BD k_l_eqLetterS_4.2) := rounds (env (false, false, []) l_l_eqLetterS) kp_l_eqLetterS (body Tryz.f51) (finX (false, false, []) l_l_eqLetterS [none] Tryz.f51 (shV tBool) [.val tSlILetter (zeroD tSlILetter), .val tSlILetter (zeroD tSlILetter)]) n 4 k_l_eqLetterS_4 x y
noncomputable def R_l_eqLetterS_4 (n : Nat) (s0 : DSlLLetter) (s1 : DSlLLetter) (s5 : Int) : Option Bool := r_l_eqLetterS_4 n (s0, s1, s5, ()) ()
theorem Q_l_eqLetterS_eq (n : Nat) (a0 : DSlILetter) (a1 : DSlILetter) : Q_l_eqLetterS n a0 a1 =
    bif !decide ((↑(List.length a0) : Int) = (↑(List.length a1) : Int)) then some false
 else R_l_eqLetterS_4 n a0 a1 (0 : Int) := by kernel_rfl
theorem R_l_eqLetterS_4_eq (n : Nat) (s0 : DSlLLetter) (s1 : DSlLLetter) (s5 : Int) : R_l_eqLetterS_4 (n + 1) s0 s1 s5 =
    bif decide (s5 < (↑(List.length s0) : Int)) then
 if (0 : Int) ≤ s5 then
 (nth s0 s5.toNat).bind fun y =>
 if (0 : Int) ≤ s5 then
 (nth s1 s5.toNat).bind fun y_1 =>
 (Q_l_eqLetter big y y_1).bind fun y =>
 bif !y then some false else R_l_eqLetterS_4 n s0 s1 (IntKind.i64.wrap (s5 + (1 : Int)))
 else none
 else none
 else some true := by kernel_rfl

end Go.Sx.Tryz

set_option maxRecDepth 100000
namespace Go.Sx.Tryz
open Go Go.Sx Go.Proofs

noncomputable def l_l_eqPeer : List (Nat × Con) := [(45, c_l_eqQc), (46, c_l_eqVote), (47, c_l_eqIntS), (48, c_l_eqCellS), (49, c_l_eqUndoS), (50, c_l_eqVoteS), (51, c_l_eqLetterS)]
theorem l_l_eqPeer_ok : ∀ q ∈ l_l_eqPeer, ConOk Tryz.prog q.1 q.2 := Tryz.cons_cons c_l_eqQc_ok (Tryz.cons_cons c_l_eqVote_ok (Tryz.cons_cons c_l_eqIntS_ok (Tryz.cons_cons c_l_eqCellS_ok (Tryz.cons_cons c_l_eqUndoS_ok (Tryz.cons_cons c_l_eqVoteS_ok (Tryz.cons_cons c_l_eqLetterS_ok (Tryz.cons_nil)))))))
def kp_l_eqPeer : KP := []
noncomputable def q_l_eqPeer (n : Nat) (x : Args [tIPeer, tIPeer]) := evX (false, false, [2, 3, 5, 7, 10, 12, 15, 17, 21, 23, 27, 29, 33, 35, 39, 41, 45, 47, 51, 53, 57, 59, 63, 65, 69, 71]) l_l_eqPeer kp_l_eqPeer [none] Tryz.f11 (shV tBool) n (encA [tIPeer, tIPeer] x)
noncomputable def c_l_eqPeer : Con := roS [tIPeer, tIPeer] true (shV tBool) (q_l_eqPeer big)
theorem c_l_eqPeer_ok : ConOk Tryz.prog 11 c_l_eqPeer := roS_ok ⟨Tryz.f11, by kernel_rfl, rfl, by decide⟩ fun _ _ h => evX_ok l_l_eqPeer_ok (f := Tryz.f11) (by kernel_rfl) rfl (by kernel_rfl) (by kernel_rfl) big h
noncomputable def Q_l_eqPeer (n : Nat) (a0 : DIPeer) (a1 : DIPeer) : Option Bool := q_l_eqPeer n (a0, a1, ())
theorem Q_l_eqPeer_eq (n : Nat) (a0 : DIPeer) (a1 : DIPeer) : Q_l_eqPeer n a0 a1 =
    bif !decide (a0.fst = a1.fst) then some false
 else
 bif !decide (a0.snd.fst = a1.snd.fst) then some false
 else
 (Q_l_eqQc big a0.snd.snd.fst a1.snd.snd.fst).bind fun y =>
 bif !y then some false
 else
 (Q_l_eqQc big a0.snd.snd.snd.fst a1.snd.snd.snd.fst).bind fun y =>
 bif !y then some false
 else
 (Q_l_eqVote big a0.snd.snd.snd.snd.fst a1.snd.snd.snd.snd.fst).bind fun y =>
 bif !y then some false
 else
 (Q_l_eqIntS big a0.snd.snd.snd.snd.snd.fst a1.snd.snd.snd.snd.snd.fst).bind fun y =>
 bif !y then some false
 else
 (Q_l_eqCellS big a0.snd.snd.snd.snd.snd.snd.fst a1.snd.snd.snd.snd.snd.snd.fst).bind fun y =>
 bif !y then some false
 else
 (Q_l_eqIntS big a0.snd.snd.snd.snd.snd.snd.snd.fst a1.snd.snd.snd.snd.snd.snd.snd.fst).bind
 fun y =>
 bif !y then some false
 else
 (Q_l_eqUndoS big a0.snd.snd.snd.snd.snd.snd.snd.snd.fst
 a1.snd.snd.snd.snd.snd.snd.snd.snd.fst).bind
 fun y =>
 bif !y then some false
 else
 (Q_l_eqVoteS big a0.snd.snd.snd.snd.snd.snd.snd.snd.snd.fst
 a1.snd.snd.snd.snd.snd.snd.snd.snd.snd.fst).bind
 fun y =>
 bif !y then some false
 else
 (Q_l_eqLetterS big a0.snd.snd.snd.snd.snd.snd.snd.snd.snd.snd.fst
 a1.snd.snd.snd.snd.snd.snd.snd.snd.snd.snd.fst).bind
 fun y =>
 bif !y then some false
 else
 bif
 !decide
 (a0.snd.snd.snd.snd.snd.snd.snd.snd.snd.snd.snd.fst =
 a1.snd.snd.snd.snd.snd.snd.snd.snd.snd.snd.snd.fst) then
 some false
 else some true := by kernel_rfl

end Go.Sx.Tryz

set_option maxRecDepth 100000
namespace Go.Sx.Tryz
open Go Go.Sx Go.Proofs

noncomputable def l_l_eqCmd : List (Nat × Con) := []
theorem l_l_eqCmd_ok : ∀ q ∈ l_l_eqCmd, ConOk Tryz.prog q.1 q.2 := Tryz.cons_nil
def kp_l_eqCmd : KP := []
noncomputable def q_l_eqCmd (n : Nat) (x : Args [tICmd, tICmd]) := evX (false, false, [2, 3, 5, 7, 10, 12, 15, 17]) l_l_eqCmd kp_l_eqCmd [none] Tryz.f110 (shV tBool) n (encA [tICmd, tICmd] x)
noncomputable def c_l_eqCmd : Con := roS [tICmd, tICmd] true (shV tBool) (q_l_eqCmd big)
theorem c_l_eqCmd_ok : ConOk Tryz.prog 110 c_l_eqCmd := roS_ok ⟨Tryz.f110, by kernel_rfl, rfl, by decide⟩ fun _ _ h => evX_ok l_l_eqCmd_ok (f := Tryz.f110) (by kernel_rfl) rfl (by kernel_rfl) (by kernel_rfl) big h
noncomputable def Q_l_eqCmd (n : Nat) (a0 : DICmd) (a1 : DICmd) : Option Bool := q_l_eqCmd n (a0, a1, ())
theorem Q_l_eqCmd_eq (n : Nat) (a0 : DICmd) (a1 : DICmd) : Q_l_eqCmd n a0 a1 =
    bif !decide (a0.fst = a1.fst) then some false
 else
 bif !decide (a0.snd.fst = a1.snd.fst) then some false
 else bif !decide (a0.snd.snd.fst = a1.snd.snd.fst) then some false else some true := by kernel_rfl

end Go.Sx.Tryz

set_option maxRecDepth 100000
namespace Go.Sx.Tryz
open Go Go.Sx Go.Proofs

noncomputable def l_l_eqCmdS : List (Nat × Con) := [(110, c_l_eqCmd)]
theorem l_l_eqCmdS_ok : ∀ q ∈ l_l_eqCmdS, ConOk Tryz.prog q.1 q.2 := Tryz.cons_cons c_l_eqCmd_ok (Tryz.cons_nil)
abbrev k_l_eqCmdS_4 : List Keep × List BK := ([.ro tSlLCmd, .ro tSlLCmd, .drop, .drop, .drop, .ro tInt64, .drop, .drop, .drop, .drop, .drop, .drop, .drop, .drop, .drop, .drop, .drop, .drop, .drop, .drop, .drop, .drop, .drop, .drop, .drop, .drop, .drop], [])
def kp_l_eqCmdS : KP := [(4, k_l_eqCmdS_4)]
noncomputable def q_l_eqCmdS (n : Nat) (x : Args [tSlICmd, tSlICmd]) := evX (false, false, []) l_l_eqCmdS kp_l_eqCmdS [none] Tryz.f92 (shV tBool) n (encA [tSlICmd, tSlICmd] x)
noncomputable def c_l_eqCmdS : Con := roS [tSlICmd, tSlICmd] true (shV tBool) (q_l_eqCmdS big)
theorem c_l_eqCmdS_ok : ConOk Tryz.prog 92 c_l_eqCmdS := roS_ok ⟨Tryz.f92, by kernel_rfl, rfl, by decide⟩ fun _ _ h => evX_ok l_l_eqCmdS_ok (f := Tryz.f92) (by kernel_rfl) rfl (by kernel_rfl) (by kernel_rfl) big h
noncomputable def Q_l_eqCmdS (n : Nat) (a0 : DSlICmd) (a1 : DSlICmd) : Option Bool := q_l_eqCmdS n (a0, a1, ())
noncomputable def r_l_eqCmdS_4 (n : Nat) (x : KD k_l_eqCmdS_4.1) (y : BD k_l_eqCmdS_4.2) := rounds (env (false, false, []) l_l_eqCmdS) kp_l_eqCmdS (body Tryz.f92) (finX (false, false, []) l_l_eqCmdS [none] Tryz.f92 (shV tBool) [.val tSlICmd (zeroD tSlICmd), .val tSlICmd (zeroD tSlICmd)]) n 4 k_l_eqCmdS_4 x y
noncomputable def R_l_eqCmdS_4 (n : Nat) (s0 : DSlLCmd) (s1 : DSlLCmd) (s5 : Int) : Option Bool := r_l_eqCmdS_4 n (s0, s1, s5, ()) ()
theorem Q_l_eqCmdS_eq (n : Nat) (a0 : DSlICmd) (a1 : DSlICmd) : Q_l_eqCmdS n a0 a1 =
    bif !decide ((↑(List.length a0) : Int) = (↑(List.length a1) : Int)) then some false
 else R_l_eqCmdS_4 n a0 a1 (0 : Int) := by kernel_rfl
theorem R_l_eqCmdS_4_eq (n : Nat) (s0 : DSlLCmd) (s1 : DSlLCmd) (s5 : Int) : R_l_eqCmdS_4 (n + 1) s0 s1 s5 =
    bif decide (s5 < (↑(List.length s0) : Int)) then
 if (0 : Int) ≤ s5 then
 (nth s0 s5.toNat).bind fun y =>
 if (0 : Int) ≤ s5 then
 (nth s1 s5.toNat).bind fun y_1 =>
 (Q_l_eqCmd big y y_1).bind fun y =>
 bif !y then some false else R_l_eqCmdS_4 n s0 s1 (IntKind.i64.wrap (s5 + (1 : Int)))
 else none
 else none
 else some true := by kernel_rfl

end Go.Sx.Tryz

set_option maxRecDepth 100000
namespace Go.Sx.Tryz
open Go Go.Sx Go.Proofs

noncomputable def l_l_eqBlock : List (Nat × Con) := [(92, c_l_eqCmdS), (45, c_l_eqQc)]
theorem l_l_eqBlock_ok : ∀ q ∈ l_l_eqBlock, ConOk Tryz.prog q.1 q.2 := Tryz.cons_cons c_l_eqCmdS_ok (Tryz.cons_cons c_l_eqQc_ok (Tryz.cons_nil))
def kp_l_eqBlock : KP := []
noncomputable def q_l_eqBlock (n : Nat) (x : Args [tIBlock, tIBlock]) := evX (false, false, [2, 3, 5, 7, 10, 12, 15, 17, 21, 23]) l_l_eqBlock kp_l_eqBlock [none] Tryz.f52 (shV tBool) n (encA [tIBlock, tIBlock] x)
noncomputable def c_l_eqBlock : Con := roS [tIBlock, tIBlock] true (shV tBool) (q_l_eqBlock big)
theorem c_l_eqBlock_ok : ConOk Tryz.prog 52 c_l_eqBlock := roS_ok ⟨Tryz.f52, by kernel_rfl, rfl, by decide⟩ fun _ _ h => evX_ok l_l_eqBlock_ok (f := Tryz.f52) (by kernel_rfl) rfl (by kernel_rfl) (by kernel_rfl) big h
noncomputable def Q_l_eqBlock (n : Nat) (a0 : DIBlock) (a1 : DIBlock) : Option Bool := q_l_eqBlock n (a0, a1, ())
theorem Q_l_eqBlock_eq (n : Nat) (a0 : DIBlock) (a1 : DIBlock) : Q_l_eqBlock n a0 a1 =
    bif !decide (a0.fst = a1.fst) then some false
 else
 bif !decide (a0.snd.fst = a1.snd.fst) then some false
 else
 (Q_l_eqCmdS big a0.snd.snd.fst a1.snd.snd.fst).bind fun y =>
 bif !y then some false
 else
 (Q_l_eqQc big a0.snd.snd.snd.fst a1.snd.snd.snd.fst).bind fun y =>
 bif !y then some false else some true := by kernel_rfl

end Go.Sx.Tryz

set_option maxRecDepth 100000
namespace Go.Sx.Tryz
open Go Go.Sx Go.Proofs

noncomputable def l_l_eqBlockS : List (Nat × Con) := [(52, c_l_eqBlock)]
theorem l_l_eqBlockS_ok : ∀ q ∈ l_l_eqBlockS, ConOk Tryz.prog q.1 q.2 := Tryz.cons_cons c_l_eqBlock_ok (Tryz.cons_nil)
abbrev k_l_eqBlockS_4 : List Keep × List BK := ([.ro tSlLBlock, .ro tSlLBlock, .drop, .drop, .drop, .ro tInt64, .drop, .drop, .drop, .drop, .drop, .drop, .drop, .drop, .drop, .drop, .drop, .drop, .drop, .drop, .drop, .drop, .drop, .drop, .drop, .drop, .drop], [])
def kp_l_eqBlockS : KP := [(4, k_l_eqBlockS_4)]
noncomputable def q_l_eqBlockS (n : Nat) (x : Args [tSlIBlock, tSlIBlock]) := evX (false, false, []) l_l_eqBlockS kp_l_eqBlockS [none] Tryz.f12 (shV tBool) n (encA [tSlIBlock, tSlIBlock] x)
noncomputable def c_l_eqBlockS : Con := roS [tSlIBlock, tSlIBlock] true (shV tBool) (q_l_eqBlockS big)
theorem c_l_eqBlockS_ok : ConOk Tryz.prog 12 c_l_eqBlockS := roS_ok ⟨Tryz.f12, by kernel_rfl, rfl, by decide⟩ fun _ _ h => evX_ok l_l_eqBlockS_ok (f := Tryz.f12) (by kernel_rfl) rfl (by kernel_rfl) (by kernel_rfl) big h
noncomputable def Q_l_eqBlockS (n : Nat) (a0 : DSlIBlock) (a1 : DSlIBlock) : Option Bool := q_l_eqBlockS n (a0, a1, ())
noncomputable def r_l_eqBlockS_4 (n : Nat) (x : KD k_l_eqBlockS_4.1) (y : BD k_l_eqBlockS_4.2) := rounds (env (false, false, []) l_l_eqBlockS) kp_l_eqBlockS (body Tryz.f12) (finX (false, false, []) l_l_eqBlockS [none] Tryz.f12 (shV tBool) [.val tSlIBlock (zeroD tSlIBlock), .val tSlIBlock (zeroD tSlIBlock)]) n 4 k_l_eqBlockS_4 x y
noncomputable def R_l_eqBlockS_4 (n : Nat) (s0 : DSlLBlock) (s1 : DSlLBlock) (s5 : Int) : Option Bool := r_l_eqBlockS_4 n (s0, s1, s5, ()) ()
theorem Q_l_eqBlockS_eq (n : Nat) (a0 : DSlIBlock) (a1 : DSlIBlock) : Q_l_eqBlockS n a0 a1 =
    bif !decide ((↑(List.length a0) : Int) = (↑(List.length a1) : Int)) then some false
 else R_l_eqBlockS_4 n a0 a1 (0 : Int) := by kernel_rfl
theorem R_l_eqBlockS_4_eq (n : Nat) (s0 : DSlLBlock) (s1 : DSlLBlock) (s5 : Int) : R_l_eqBlockS_4 (n + 1) s0 s1 s5 =
    bif decide (s5 < (↑(List.length s0) : Int)) then
 if (0 : Int) ≤ s5 then
 (nth s0 s5.toNat).bind fun y =>
 if (0 : Int) ≤ s5 then
 (nth s1 s5.toNat).bind fun y_1 =>
 (Q_l_eqBlock big y y_1).bind fun y =>
 bif !y then some false else R_l_eqBlockS_4 n s0 s1 (IntKind.i64.wrap (s5 + (1 : Int)))
 else none
 else none
 else some true := by kernel_rfl

end Go.Sx.Tryz

set_option maxRecDepth 100000
namespace Go.Sx.Tryz
open Go Go.Sx Go.Proofs

noncomputable def l_l_markIntS : List (Nat × Con) := []
theorem l_l_markIntS_ok : ∀ q ∈ l_l_markIntS, ConOk Tryz.prog q.1 q.2 := Tryz.cons_nil
abbrev k_l_markIntS_2 : List Keep × List BK := ([.is (.own 0 0), .ro tInt64, .drop, .drop, .drop, .ro tInt64, .drop, .drop, .drop, .drop, .drop, .drop, .drop, .drop, .drop, .drop, .drop, .drop, .drop], [.arr tInt])
def kp_l_markIntS : KP := [(2, k_l_markIntS_2)]
noncomputable def q_l_markIntS (n : Nat) (x : AP.denL [.io tInt, .ro tInt]) := evX (false, false, []) l_l_markIntS kp_l_markIntS [none] Tryz.f54 (shO (shV tInt) [.io tInt]) n (AP.encL [.io tInt, .ro tInt] x)
noncomputable def c_l_markIntS : Con := apS [.io tInt, .ro tInt] true (shO (shV tInt) [.io tInt]) (q_l_markIntS big)
theorem c_l_markIntS_ok : ConOk Tryz.prog 54 c_l_markIntS := apS_ok ⟨Tryz.f54, by kernel_rfl, rfl, by decide⟩ fun _ _ h => evX_ok l_l_markIntS_ok (f := Tryz.f54) (by kernel_rfl) rfl (by kernel_rfl) (by kernel_rfl) big h
noncomputable def Q_l_markIntS (n : Nat) (a0 : DSlInt) (a1 : Int) : Option (Int × DSlInt × Unit) := q_l_markIntS n (a0, a1, ())
noncomputable def r_l_markIntS_2 (n : Nat) (x : KD k_l_markIntS_2.1) (y : BD k_l_markIntS_2.2) := rounds (env (false, false, []) l_l_markIntS) kp_l_markIntS (body Tryz.f54) (finX (false, false, []) l_l_markIntS [none] Tryz.f54 (shO (shV tInt) [.io tInt]) [AP.enc (.io tInt) [], AP.enc (.ro tInt) (zeroD tInt)]) n 2 k_l_markIntS_2 x y
noncomputable def R_l_markIntS_2 (n : Nat) (s1 : Int) (s5 : Int) (b0 : (List Int)) : Option (Int × DSlInt × Unit) := r_l_markIntS_2 n (s1, s5, ()) (b0, ())
theorem Q_l_markIntS_eq (n : Nat) (a0 : DSlInt) (a1 : Int) : Q_l_markIntS n a0 a1 =
    R_l_markIntS_2 n a1 (0 : Int) a0 := by kernel_rfl
theorem R_l_markIntS_2_eq (n : Nat) (s1 : Int) (s5 : Int) (b0 : (List Int)) : R_l_markIntS_2 (n + 1) s1 s5 b0 =
    bif decide (s5 < (↑b0.length : Int)) then
 if (0 : Int) ≤ s5 then
 if s5 < (↑b0.length : Int) then
 (nth b0 s5.toNat).bind fun y =>
 (updO b0 s5.toNat s1).bind fun y =>
 R_l_markIntS_2 n (IntKind.i64.wrap (s1 + (1 : Int))) (IntKind.i64.wrap (s5 + (1 : Int))) y
 else none
 else none
 else some (s1, b0, PUnit.unit) := by kernel_rfl

end Go.Sx.Tryz

set_option maxRecDepth 100000
namespace Go.Sx.Tryz
open Go Go.Sx Go.Proofs

noncomputable def l_l_heldIntS : List (Nat × Con) := []
theorem l_l_heldIntS_ok : ∀ q ∈ l_l_heldIntS, ConOk Tryz.prog q.1 q.2 := Tryz.cons_nil
abbrev k_l_heldIntS_2 : List Keep × List BK := ([.ro tSlInt, .ro tInt64, .drop, .drop, .drop, .ro tInt64, .drop, .drop, .drop, .drop, .drop, .drop, .drop, .drop, .drop, .drop, .drop, .drop, .drop, .drop, .drop], [])
def kp_l_heldIntS : KP := [(2, k_l_heldIntS_2)]
noncomputable def q_l_heldIntS (n : Nat) (x : Args [tSlInt, tInt]) := evX (false, false, []) l_l_heldIntS kp_l_heldIntS [none] Tryz.f59 (shV tInt) n (encA [tSlInt, tInt] x)
noncomputable def c_l_heldIntS : Con := roS [tSlInt, tInt] true (shV tInt) (q_l_heldIntS big)
theorem c_l_heldIntS_ok : ConOk Tryz.prog 59 c_l_heldIntS := roS_ok ⟨Tryz.f59, by kernel_rfl, rfl, by decide⟩ fun _ _ h => evX_ok l_l_heldIntS_ok (f := Tryz.f59) (by kernel_rfl) rfl (by kernel_rfl) (by kernel_rfl) big h
noncomputable def Q_l_heldIntS (n : Nat) (a0 : DSlInt) (a1 : Int) : Option Int := q_l_heldIntS n (a0, a1, ())
noncomputable def r_l_heldIntS_2 (n : Nat) (x : KD k_l_heldIntS_2.1) (y : BD k_l_heldIntS_2.2) := rounds (env (false, false, []) l_l_heldIntS) kp_l_heldIntS (body Tryz.f59) (finX (false, false, []) l_l_heldIntS [none] Tryz.f59 (shV tInt) [.val tSlInt (zeroD tSlInt), .val tInt (zeroD tInt)]) n 2 k_l_heldIntS_2 x y
noncomputable def R_l_heldIntS_2 (n : Nat) (s0 : DSlInt) (s1 : Int) (s5 : Int) : Option Int := r_l_heldIntS_2 n (s0, s1, s5, ()) ()
theorem Q_l_heldIntS_eq (n : Nat) (a0 : DSlInt) (a1 : Int) : Q_l_heldIntS n a0 a1 =
    R_l_heldIntS_2 n a0 a1 (0 : Int) := by kernel_rfl
theorem R_l_heldIntS_2_eq (n : Nat) (s0 : DSlInt) (s1 : Int) (s5 : Int) : R_l_heldIntS_2 (n + 1) s0 s1 s5 =
    bif decide (s5 < (↑(List.length s0) : Int)) then
 if (0 : Int) ≤ s5 then
 (nth s0 s5.toNat).bind fun y =>
 bif !decide (y = s1) then some (-1 : Int)
 else R_l_heldIntS_2 n s0 (IntKind.i64.wrap (s1 + (1 : Int))) (IntKind.i64.wrap (s5 + (1 : Int)))
 else none
 else some s1 := by kernel_rfl

end Go.Sx.Tryz

set_option maxRecDepth 100000
namespace Go.Sx.Tryz
open Go Go.Sx Go.Proofs

noncomputable def l_l_markText : List (Nat × Con) := []
theorem l_l_markText_ok : ∀ q ∈ l_l_markText, ConOk Tryz.prog q.1 q.2 := Tryz.cons_nil
abbrev k_l_markText_4 : List Keep × List BK := ([.ro tInt64, .drop, .drop, .ro tString, .drop, .drop, .drop, .drop, .drop, .drop, .drop, .drop, .drop, .drop, .drop, .drop, .drop, .drop, .drop, .drop], [])
def kp_l_markText : KP := [(4, k_l_markText_4)]
noncomputable def q_l_markText (n : Nat) (x : Args [tInt]) := evX (false, false, []) l_l_markText kp_l_markText [none] Tryz.f93 (shV tString) n (encA [tInt] x)
noncomputable def c_l_markText : Con := roS [tInt] true (shV tString) (q_l_markText big)
theorem c_l_markText_ok : ConOk Tryz.prog 93 c_l_markText := roS_ok ⟨Tryz.f93, by kernel_rfl, rfl, by decide⟩ fun _ _ h => evX_ok l_l_markText_ok (f := Tryz.f93) (by kernel_rfl) rfl (by kernel_rfl) (by kernel_rfl) big h
noncomputable def Q_l_markText (n : Nat) (a0 : Int) : Option ByteArray := q_l_markText n (a0, ())
noncomputable def r_l_markText_4 (n : Nat) (x : KD k_l_markText_4.1) (y : BD k_l_markText_4.2) := rounds (env (false, false, []) l_l_markText) kp_l_markText (body Tryz.f93) (finX (false, false, []) l_l_markText [none] Tryz.f93 (shV tString) [.val tInt (zeroD tInt)]) n 4 k_l_markText_4 x y
noncomputable def R_l_markText_4 (n : Nat) (s0 : Int) (s3 : ByteArray) : Option ByteArray := r_l_markText_4 n (s0, s3, ()) ()
theorem Q_l_markText_eq (n : Nat) (a0 : Int) : Q_l_markText n a0 =
    bif decide (a0 ≤ (0 : Int)) then some (ByteArray.mk #[(109 : UInt8), (48 : UInt8)])
 else R_l_markText_4 n a0 (ByteArray.mk #[]) := by kernel_rfl
theorem R_l_markText_4_eq (n : Nat) (s0 : Int) (s3 : ByteArray) : R_l_markText_4 (n + 1) s0 s3 =
    bif decide ((0 : Int) < s0) then
 if
 (ByteArray.mk
 (List.map (fun n => UInt8.ofNat n.toNat)
 [IntKind.u8.wrap (IntKind.i64.wrap ((48 : Int) + s0.tmod (10 : Int)))]).toArray).size +
 s3.size ≤
 lim then
 R_l_markText_4 n (IntKind.i64.wrap (s0.tdiv (10 : Int)))
 (ByteArray.mk
 (List.map (fun n => UInt8.ofNat n.toNat)
 [IntKind.u8.wrap (IntKind.i64.wrap ((48 : Int) + s0.tmod (10 : Int)))]).toArray ++
 s3)
 else none
 else
 if (ByteArray.mk #[(109 : UInt8)]).size + s3.size ≤ lim then some (ByteArray.mk #[(109 : UInt8)] ++ s3)
 else none := by kernel_rfl

end Go.Sx.Tryz

set_option maxRecDepth 100000
namespace Go.Sx.Tryz
open Go Go.Sx Go.Proofs

noncomputable def l_l_markCellS : List (Nat × Con) := [(93, c_l_markText)]
theorem l_l_markCellS_ok : ∀ q ∈ l_l_markCellS, ConOk Tryz.prog q.1 q.2 := Tryz.cons_cons c_l_markText_ok (Tryz.cons_nil)
abbrev k_l_markCellS_2 : List Keep × List BK := ([.is (.own 0 0), .ro tInt64, .drop, .drop, .drop, .ro tInt64, .drop, .drop, .drop, .drop, .drop, .drop, .drop, .drop, .drop, .drop, .drop, .drop, .drop, .drop, .drop, .drop, .drop, .drop, .drop, .drop, .drop, .drop], [.arr tICell])
def kp_l_markCellS : KP := [(2, k_l_markCellS_2)]
noncomputable def q_l_markCellS (n : Nat) (x : AP.denL [.io tICell, .ro tInt]) := evX (false, false, []) l_l_markCellS kp_l_markCellS [none] Tryz.f55 (shO (shV tInt) [.io tICell]) n (AP.encL [.io tICell, .ro tInt] x)
noncomputable def c_l_markCellS : Con := apS [.io tICell, .ro tInt] true (shO (shV tInt) [.io tICell]) (q_l_markCellS big)
theorem c_l_markCellS_ok : ConOk Tryz.prog 55 c_l_markCellS := apS_ok ⟨Tryz.f55, by kernel_rfl, rfl, by decide⟩ fun _ _ h => evX_ok l_l_markCellS_ok (f := Tryz.f55) (by kernel_rfl) rfl (by kernel_rfl) (by kernel_rfl) big h
noncomputable def Q_l_markCellS (n : Nat) (a0 : DSlICell) (a1 : Int) : Option (Int × DSlICell × Unit) := q_l_markCellS n (a0, a1, ())
noncomputable def r_l_markCellS_2 (n : Nat) (x : KD k_l_markCellS_2.1) (y : BD k_l_markCellS_2.2) := rounds (env (false, false, []) l_l_markCellS) kp_l_markCellS (body Tryz.f55) (finX (false, false, []) l_l_markCellS [none] Tryz.f55 (shO (shV tInt) [.io tICell]) [AP.enc (.io tICell) [], AP.enc (.ro tInt) (zeroD tInt)]) n 2 k_l_markCellS_2 x y
noncomputable def R_l_markCellS_2 (n : Nat) (s1 : Int) (s5 : Int) (b0 : (List DICell)) : Option (Int × DSlICell × Unit) := r_l_markCellS_2 n (s1, s5, ()) (b0, ())
theorem Q_l_markCellS_eq (n : Nat) (a0 : DSlICell) (a1 : Int) : Q_l_markCellS n a0 a1 =
    R_l_markCellS_2 n a1 (0 : Int) a0 := by kernel_rfl
theorem R_l_markCellS_2_eq (n : Nat) (s1 : Int) (s5 : Int) (b0 : (List DICell)) : R_l_markCellS_2 (n + 1) s1 s5 b0 =
    bif decide (s5 < (↑b0.length : Int)) then
 (Q_l_markText big s1).bind fun y =>
 if (0 : Int) ≤ s5 then
 if s5 < (↑b0.length : Int) then
 (nth b0 s5.toNat).bind fun y_1 =>
 (updO b0 s5.toNat (y, y_1.snd)).bind fun y =>
 if (0 : Int) ≤ s5 then
 if s5 < (↑y.length : Int) then
 (nth y s5.toNat).bind fun y_2 =>
 (updO y s5.toNat (y_2.fst, IntKind.i64.wrap (s1 + (1 : Int)), ())).bind fun y =>
 R_l_markCellS_2 n (IntKind.i64.wrap (IntKind.i64.wrap (s1 + (1 : Int)) + (1 : Int)))
 (IntKind.i64.wrap (s5 + (1 : Int))) y
 else none
 else none
 else none
 else none
 else some (s1, b0, PUnit.unit) := by kernel_rfl

end Go.Sx.Tryz

set_option maxRecDepth 100000
namespace Go.Sx.Tryz
open Go Go.Sx Go.Proofs

noncomputable def l_l_heldCellS : List (Nat × Con) := [(93, c_l_markText)]
theorem l_l_heldCellS_ok : ∀ q ∈ l_l_heldCellS, ConOk Tryz.prog q.1 q.2 := Tryz.cons_cons c_l_markText_ok (Tryz.cons_nil)
abbrev k_l_heldCellS_2 : List Keep × List BK := ([.ro tSlLCell, .ro tInt64, .drop, .drop, .drop, .ro tInt64, .drop, .drop, .drop, .drop, .drop, .drop, .drop, .drop, .drop, .drop, .drop, .drop, .drop, .drop, .drop, .drop, .drop, .drop, .drop, .drop, .drop, .drop, .drop, .drop, .drop, .drop], [])
def kp_l_heldCellS : KP := [(2, k_l_heldCellS_2)]
noncomputable def q_l_heldCellS (n : Nat) (x : Args [tSlICell, tInt]) := evX (false, false, []) l_l_heldCellS kp_l_heldCellS [none] Tryz.f60 (shV tInt) n (encA [tSlICell, tInt] x)
noncomputable def c_l_heldCellS : Con := roS [tSlICell, tInt] true (shV tInt) (q_l_heldCellS big)
theorem c_l_heldCellS_ok : ConOk Tryz.prog 60 c_l_heldCellS := roS_ok ⟨Tryz.f60, by kernel_rfl, rfl, by decide⟩ fun _ _ h => evX_ok l_l_heldCellS_ok (f := Tryz.f60) (by kernel_rfl) rfl (by kernel_rfl) (by kernel_rfl) big h
noncomputable def Q_l_heldCellS (n : Nat) (a0 : DSlICell) (a1 : Int) : Option Int := q_l_heldCellS n (a0, a1, ())
noncomputable def r_l_heldCellS_2 (n : Nat) (x : KD k_l_heldCellS_2.1) (y : BD k_l_heldCellS_2.2) := rounds (env (false, false, []) l_l_heldCellS) kp_l_heldCellS (body Tryz.f60) (finX (false, false, []) l_l_heldCellS [none] Tryz.f60 (shV tInt) [.val tSlICell (zeroD tSlICell), .val tInt (zeroD tInt)]) n 2 k_l_heldCellS_2 x y
noncomputable def R_l_heldCellS_2 (n : Nat) (s0 : DSlLCell) (s1 : Int) (s5 : Int) : Option Int := r_l_heldCellS_2 n (s0, s1, s5, ()) ()
theorem Q_l_heldCellS_eq (n : Nat) (a0 : DSlICell) (a1 : Int) : Q_l_heldCellS n a0 a1 =
    R_l_heldCellS_2 n a0 a1 (0 : Int) := by kernel_rfl
theorem R_l_heldCellS_2_eq (n : Nat) (s0 : DSlLCell) (s1 : Int) (s5 : Int) : R_l_heldCellS_2 (n + 1) s0 s1 s5 =
    bif decide (s5 < (↑(List.length s0) : Int)) then
 if (0 : Int) ≤ s5 then
 (nth s0 s5.toNat).bind fun y =>
 (Q_l_markText big s1).bind fun y_1 =>
 bif !decide (y.fst = y_1) then some (-1 : Int)
 else
 if (0 : Int) ≤ s5 then
 (nth s0 s5.toNat).bind fun y =>
 bif !decide (y.snd.fst = IntKind.i64.wrap (s1 + (1 : Int))) then some (-1 : Int)
 else
 R_l_heldCellS_2 n s0 (IntKind.i64.wrap (IntKind.i64.wrap (s1 + (1 : Int)) + (1 : Int)))
 (IntKind.i64.wrap (s5 + (1 : Int)))
 else none
 else none
 else some s1 := by kernel_rfl

end Go.Sx.Tryz

set_option maxRecDepth 100000
namespace Go.Sx.Tryz
open Go Go.Sx Go.Proofs

noncomputable def l_l_markUndoS : List (Nat × Con) := [(93, c_l_markText)]
theorem l_l_markUndoS_ok : ∀ q ∈ l_l_markUndoS, ConOk Tryz.prog q.1 q.2 := Tryz.cons_cons c_l_markText_ok (Tryz.cons_nil)
abbrev k_l_markUndoS_2 : List Keep × List BK := ([.is (.own 0 0), .ro tInt64, .drop, .drop, .drop, .ro tInt64, .drop, .drop, .drop, .drop, .drop, .drop, .drop, .drop, .drop, .drop, .drop, .drop, .drop, .drop, .drop, .drop, .drop, .drop, .drop, .drop, .drop, .drop, .drop, .drop, .drop, .drop, .drop, .drop, .drop, .drop, .drop], [.arr tIUndo])
def kp_l_markUndoS : KP := [(2, k_l_markUndoS_2)]
noncomputable def q_l_markUndoS (n : Nat) (x : AP.denL [.io tIUndo, .ro tInt]) := evX (false, false, []) l_l_markUndoS kp_l_markUndoS [none] Tryz.f56 (shO (shV tInt) [.io tIUndo]) n (AP.encL [.io tIUndo, .ro tInt] x)
noncomputable def c_l_markUndoS : Con := apS [.io tIUndo, .ro tInt] true (shO (shV tInt) [.io tIUndo]) (q_l_markUndoS big)
theorem c_l_markUndoS_ok : ConOk Tryz.prog 56 c_l_markUndoS := apS_ok ⟨Tryz.f56, by kernel_rfl, rfl, by decide⟩ fun _ _ h => evX_ok l_l_markUndoS_ok (f := Tryz.f56) (by kernel_rfl) rfl (by kernel_rfl) (by kernel_rfl) big h
noncomputable def Q_l_markUndoS (n : Nat) (a0 : DSlIUndo) (a1 : Int) : Option (Int × DSlIUndo × Unit) := q_l_markUndoS n (a0, a1, ())
noncomputable def r_l_markUndoS_2 (n : Nat) (x : KD k_l_markUndoS_2.1) (y : BD k_l_markUndoS_2.2) := rounds (env (false, false, []) l_l_markUndoS) kp_l_markUndoS (body Tryz.f56) (finX (false, false, []) l_l_markUndoS [none] Tryz.f56 (shO (shV tInt) [.io tIUndo]) [AP.enc (.io tIUndo) [], AP.enc (.ro tInt) (zeroD tInt)]) n 2 k_l_markUndoS_2 x y
noncomputable def R_l_markUndoS_2 (n : Nat) (s1 : Int) (s5 : Int) (b0 : (List DIUndo)) : Option (Int × DSlIUndo × Unit) := r_l_markUndoS_2 n (s1, s5, ()) (b0, ())
theorem Q_l_markUndoS_eq (n : Nat) (a0 : DSlIUndo) (a1 : Int) : Q_l_markUndoS n a0 a1 =
    R_l_markUndoS_2 n a1 (0 : Int) a0 := by kernel_rfl
theorem R_l_markUndoS_2_eq (n : Nat) (s1 : Int) (s5 : Int) (b0 : (List DIUndo)) : R_l_markUndoS_2 (n + 1) s1 s5 b0 =
    bif decide (s5 < (↑b0.length : Int)) then
 (Q_l_markText big s1).bind fun y =>
 if (0 : Int) ≤ s5 then
 if s5 < (↑b0.length : Int) then
 (nth b0 s5.toNat).bind fun y_1 =>
 (updO b0 s5.toNat (y, y_1.snd)).bind fun y =>
 if (0 : Int) ≤ s5 then
 if s5 < (↑y.length : Int) then
 (nth y s5.toNat).bind fun y_2 =>
 (updO y s5.toNat
 (y_2.fst, decide ((IntKind.i64.wrap (s1 + (1 : Int))).tmod (3 : Int) = (0 : Int)),
 y_2.snd.snd)).bind
 fun y =>
 if (0 : Int) ≤ s5 then
 if s5 < (↑y.length : Int) then
 (nth y s5.toNat).bind fun y_3 =>
 (updO y s5.toNat
 (y_3.fst, y_3.snd.fst,
 IntKind.i64.wrap (IntKind.i64.wrap (s1 + (1 : Int)) + (1 : Int)), ())).bind
 fun y =>
 R_l_markUndoS_2 n
 (IntKind.i64.wrap
 (IntKind.i64.wrap (IntKind.i64.wrap (s1 + (1 : Int)) + (1 : Int)) + (1 : Int)))
 (IntKind.i64.wrap (s5 + (1 : Int))) y
 else none
 else none
 else none
 else none
 else none
 else none
 else some (s1, b0, PUnit.unit) := by kernel_rfl

end Go.Sx.Tryz

set_option maxRecDepth 100000
namespace Go.Sx.Tryz
open Go Go.Sx Go.Proofs

noncomputable def l_l_heldUndoS : List (Nat × Con) := [(93, c_l_markText)]
theorem l_l_heldUndoS_ok : ∀ q ∈ l_l_heldUndoS, ConOk Tryz.prog q.1 q.2 := Tryz.cons_cons c_l_markText_ok (Tryz.cons_nil)
abbrev k_l_heldUndoS_2 : List Keep × List BK := ([.ro tSlLUndo, .ro tInt64, .drop, .drop, .drop, .ro tInt64, .drop, .drop, .drop, .drop, .drop, .drop, .drop, .drop, .drop, .drop, .drop, .drop, .drop, .drop, .drop, .drop, .drop, .drop, .drop, .drop, .drop, .drop, .drop, .drop, .drop, .drop, .drop, .drop, .drop, .drop, .drop, .drop, .drop, .drop, .drop, .drop, .drop], [])
def kp_l_heldUndoS : KP := [(2, k_l_heldUndoS_2)]
noncomputable def q_l_heldUndoS (n : Nat) (x : Args [tSlIUndo, tInt]) := evX (false, false, []) l_l_heldUndoS kp_l_heldUndoS [none] Tryz.f61 (shV tInt) n (encA [tSlIUndo, tInt] x)
noncomputable def c_l_heldUndoS : Con := roS [tSlIUndo, tInt] true (shV tInt) (q_l_heldUndoS big)
theorem c_l_heldUndoS_ok : ConOk Tryz.prog 61 c_l_heldUndoS := roS_ok ⟨Tryz.f61, by kernel_rfl, rfl, by decide⟩ fun _ _ h => evX_ok l_l_heldUndoS_ok (f := Tryz.f61) (by kernel_rfl) rfl (by kernel_rfl) (by kernel_rfl) big h
noncomputable def Q_l_heldUndoS (n : Nat) (a0 : DSlIUndo) (a1 : Int) : Option Int := q_l_heldUndoS n (a0, a1, ())
noncomputable def r_l_heldUndoS_2 (n : Nat) (x : KD k_l_heldUndoS_2.1) (y : BD k_l_heldUndoS_2.2) := rounds (env (false, false, []) l_l_heldUndoS) kp_l_heldUndoS (body Tryz.f61) (finX (false, false, []) l_l_heldUndoS [none] Tryz.f61 (shV tInt) [.val tSlIUndo (zeroD tSlIUndo), .val tInt (zeroD tInt)]) n 2 k_l_heldUndoS_2 x y
noncomputable def R_l_heldUndoS_2 (n : Nat) (s0 : DSlLUndo) (s1 : Int) (s5 : Int) : Option Int := r_l_heldUndoS_2 n (s0, s1, s5, ()) ()
theorem Q_l_heldUndoS_eq (n : Nat) (a0 : DSlIUndo) (a1 : Int) : Q_l_heldUndoS n a0 a1 =
    R_l_heldUndoS_2 n a0 a1 (0 : Int) := by kernel_rfl
theorem R_l_heldUndoS_2_eq (n : Nat) (s0 : DSlLUndo) (s1 : Int) (s5 : Int) : R_l_heldUndoS_2 (n + 1) s0 s1 s5 =
    bif decide (s5 < (↑(List.length s0) : Int)) then
 if (0 : Int) ≤ s5 then
 (nth s0 s5.toNat).bind fun y =>
 (Q_l_markText big s1).bind fun y_1 =>
 bif !decide (y.fst = y_1) then some (-1 : Int)
 else
 if (0 : Int) ≤ s5 then
 (nth s0 s5.toNat).bind fun y =>
 bif !y.snd.fst == decide ((IntKind.i64.wrap (s1 + (1 : Int))).tmod (3 : Int) = (0 : Int)) then
 some (-1 : Int)
 else
 if (0 : Int) ≤ s5 then
 (nth s0 s5.toNat).bind fun y =>
 bif
 !decide
 (y.snd.snd.fst = IntKind.i64.wrap (IntKind.i64.wrap (s1 + (1 : Int)) + (1 : Int))) then
 some (-1 : Int)
 else
 R_l_heldUndoS_2 n s0
 (IntKind.i64.wrap
 (IntKind.i64.wrap (IntKind.i64.wrap (s1 + (1 : Int)) + (1 : Int)) + (1 : Int)))
 (IntKind.i64.wrap (s5 + (1 : Int)))
 else none
 else none
 else none
 else some s1 := by kernel_rfl

end Go.Sx.Tryz

set_option maxRecDepth 100000
namespace Go.Sx.Tryz
open Go Go.Sx Go.Proofs

noncomputable def l_l_markVoteS : List (Nat × Con) := []
theorem l_l_markVoteS_ok : ∀ q ∈ l_l_markVoteS, ConOk Tryz.prog q.1 q.2 := Tryz.cons_nil
abbrev k_l_markVoteS_2 : List Keep × List BK := ([.is (.own 0 0), .ro tInt64, .drop, .drop, .drop, .ro tInt64, .drop, .drop, .drop, .drop, .drop, .drop, .drop, .drop, .drop, .drop, .drop, .drop, .drop, .drop, .drop, .drop, .drop, .drop, .drop, .drop, .drop, .drop, .drop, .drop, .drop, .drop, .drop, .drop, .drop, .drop, .drop, .drop, .drop, .drop, .drop], [.arr tIVote])
def kp_l_markVoteS : KP := [(2, k_l_markVoteS_2)]
noncomputable def q_l_markVoteS (n : Nat) (x : AP.denL [.io tIVote, .ro tInt]) := evX (false, false, []) l_l_markVoteS kp_l_markVoteS [none] Tryz.f57 (shO (shV tInt) [.io tIVote]) n (AP.encL [.io tIVote, .ro tInt] x)
noncomputable def c_l_markVoteS : Con := apS [.io tIVote, .ro tInt] true (shO (shV tInt) [.io tIVote]) (q_l_markVoteS big)
theorem c_l_markVoteS_ok : ConOk Tryz.prog 57 c_l_markVoteS := apS_ok ⟨Tryz.f57, by kernel_rfl, rfl, by decide⟩ fun _ _ h => evX_ok l_l_markVoteS_ok (f := Tryz.f57) (by kernel_rfl) rfl (by kernel_rfl) (by kernel_rfl) big h
noncomputable def Q_l_markVoteS (n : Nat) (a0 : DSlIVote) (a1 : Int) : Option (Int × DSlIVote × Unit) := q_l_markVoteS n (a0, a1, ())
noncomputable def r_l_markVoteS_2 (n : Nat) (x : KD k_l_markVoteS_2.1) (y : BD k_l_markVoteS_2.2) := rounds (env (false, false, []) l_l_markVoteS) kp_l_markVoteS (body Tryz.f57) (finX (false, false, []) l_l_markVoteS [none] Tryz.f57 (shO (shV tInt) [.io tIVote]) [AP.enc (.io tIVote) [], AP.enc (.ro tInt) (zeroD tInt)]) n 2 k_l_markVoteS_2 x y
noncomputable def R_l_markVoteS_2 (n : Nat) (s1 : Int) (s5 : Int) (b0 : (List DIVote)) : Option (Int × DSlIVote × Unit) := r_l_markVoteS_2 n (s1, s5, ()) (b0, ())
theorem Q_l_markVoteS_eq (n : Nat) (a0 : DSlIVote) (a1 : Int) : Q_l_markVoteS n a0 a1 =
    R_l_markVoteS_2 n a1 (0 : Int) a0 := by kernel_rfl
theorem R_l_markVoteS_2_eq (n : Nat) (s1 : Int) (s5 : Int) (b0 : (List DIVote)) : R_l_markVoteS_2 (n + 1) s1 s5 b0 =
    bif decide (s5 < (↑b0.length : Int)) then
 if (0 : Int) ≤ s5 then
 if s5 < (↑b0.length : Int) then
 (nth b0 s5.toNat).bind fun y =>
 (updO b0 s5.toNat (s1, y.snd)).bind fun y =>
 if (0 : Int) ≤ s5 then
 if s5 < (↑y.length : Int) then
 (nth y s5.toNat).bind fun y_1 =>
 (updO y s5.toNat (y_1.fst, IntKind.i64.wrap (s1 + (1 : Int)), y_1.snd.snd)).bind fun y =>
 if (0 : Int) ≤ s5 then
 if s5 < (↑y.length : Int) then
 (nth y s5.toNat).bind fun y_2 =>
 (updO y s5.toNat
 (y_2.fst, y_2.snd.fst, IntKind.i64.wrap (IntKind.i64.wrap (s1 + (1 : Int)) + (1 : Int)),
 y_2.snd.snd.snd)).bind
 fun y =>
 if (0 : Int) ≤ s5 then
 if s5 < (↑y.length : Int) then
 (nth y s5.toNat).bind fun y_3 =>
 (updO y s5.toNat
 (y_3.fst, y_3.snd.fst, y_3.snd.snd.fst,
 IntKind.i64.wrap
 (IntKind.i64.wrap (IntKind.i64.wrap (s1 + (1 : Int)) + (1 : Int)) +
 (1 : Int)),
 ())).bind
 fun y =>
 R_l_markVoteS_2 n
 (IntKind.i64.wrap
 (IntKind.i64.wrap
 (IntKind.i64.wrap (IntKind.i64.wrap (s1 + (1 : Int)) + (1 : Int)) +
 (1 : Int)) +
 (1 : Int)))
 (IntKind.i64.wrap (s5 + (1 : Int))) y
 else none
 else none
 else none
 else none
 else none
 else none
 else none
 else none
 else some (s1, b0, PUnit.unit) := by kernel_rfl

end Go.Sx.Tryz

set_option maxRecDepth 100000
namespace Go.Sx.Tryz
open Go Go.Sx Go.Proofs

noncomputable def l_l_heldVoteS : List (Nat × Con) := []
theorem l_l_heldVoteS_ok : ∀ q ∈ l_l_heldVoteS, ConOk Tryz.prog q.1 q.2 := Tryz.cons_nil
abbrev k_l_heldVoteS_2 : List Keep × List BK := ([.ro tSlLVote, .ro tInt64, .drop, .drop, .drop, .ro tInt64, .drop, .drop, .drop, .drop, .drop, .drop, .drop, .drop, .drop, .drop, .drop, .drop, .drop, .drop, .drop, .drop, .drop, .drop, .drop, .drop, .drop, .drop, .drop, .drop, .drop, .drop, .drop, .drop, .drop, .drop, .drop, .drop, .drop, .drop, .drop, .drop, .drop, .drop, .drop, .drop, .drop, .drop, .drop], [])
def kp_l_heldVoteS : KP := [(2, k_l_heldVoteS_2)]
noncomputable def q_l_heldVoteS (n : Nat) (x : Args [tSlIVote, tInt]) := evX (false, false, []) l_l_heldVoteS kp_l_heldVoteS [none] Tryz.f62 (shV tInt) n (encA [tSlIVote, tInt] x)
noncomputable def c_l_heldVoteS : Con := roS [tSlIVote, tInt] true (shV tInt) (q_l_heldVoteS big)
theorem c_l_heldVoteS_ok : ConOk Tryz.prog 62 c_l_heldVoteS := roS_ok ⟨Tryz.f62, by kernel_rfl, rfl, by decide⟩ fun _ _ h => evX_ok l_l_heldVoteS_ok (f := Tryz.f62) (by kernel_rfl) rfl (by kernel_rfl) (by kernel_rfl) big h
noncomputable def Q_l_heldVoteS (n : Nat) (a0 : DSlIVote) (a1 : Int) : Option Int := q_l_heldVoteS n (a0, a1, ())
noncomputable def r_l_heldVoteS_2 (n : Nat) (x : KD k_l_heldVoteS_2.1) (y : BD k_l_heldVoteS_2.2) := rounds (env (false, false, []) l_l_heldVoteS) kp_l_heldVoteS (body Tryz.f62) (finX (false, false, []) l_l_heldVoteS [none] Tryz.f62 (shV tInt) [.val tSlIVote (zeroD tSlIVote), .val tInt (zeroD tInt)]) n 2 k_l_heldVoteS_2 x y
noncomputable def R_l_heldVoteS_2 (n : Nat) (s0 : DSlLVote) (s1 : Int) (s5 : Int) : Option Int := r_l_heldVoteS_2 n (s0, s1, s5, ()) ()
theorem Q_l_heldVoteS_eq (n : Nat) (a0 : DSlIVote) (a1 : Int) : Q_l_heldVoteS n a0 a1 =
    R_l_heldVoteS_2 n a0 a1 (0 : Int) := by kernel_rfl
theorem R_l_heldVoteS_2_eq (n : Nat) (s0 : DSlLVote) (s1 : Int) (s5 : Int) : R_l_heldVoteS_2 (n + 1) s0 s1 s5 =
    bif decide (s5 < (↑(List.length s0) : Int)) then
 if (0 : Int) ≤ s5 then
 (nth s0 s5.toNat).bind fun y =>
 bif !decide (y.fst = s1) then some (-1 : Int)
 else
 if (0 : Int) ≤ s5 then
 (nth s0 s5.toNat).bind fun y =>
 bif !decide (y.snd.fst = IntKind.i64.wrap (s1 + (1 : Int))) then some (-1 : Int)
 else
 if (0 : Int) ≤ s5 then
 (nth s0 s5.toNat).bind fun y =>
 bif !decide (y.snd.snd.fst = IntKind.i64.wrap (IntKind.i64.wrap (s1 + (1 : Int)) + (1 : Int))) then
 some (-1 : Int)
 else
 if (0 : Int) ≤ s5 then
 (nth s0 s5.toNat).bind fun y =>
 bif
 !decide
 (y.snd.snd.snd.fst =
 IntKind.i64.wrap
 (IntKind.i64.wrap (IntKind.i64.wrap (s1 + (1 : Int)) + (1 : Int)) +
 (1 : Int))) then
 some (-1 : Int)
 else
 R_l_heldVoteS_2 n s0
 (IntKind.i64.wrap
 (IntKind.i64.wrap
 (IntKind.i64.wrap (IntKind.i64.wrap (s1 + (1 : Int)) + (1 : Int)) + (1 : Int)) +
 (1 : Int)))
 (IntKind.i64.wrap (s5 + (1 : Int)))
 else none
 else none
 else none
 else none
 else some s1 := by kernel_rfl

end Go.Sx.Tryz

set_option maxRecDepth 100000
namespace Go.Sx.Tryz
open Go Go.Sx Go.Proofs

noncomputable def l_l_markLetterS : List (Nat × Con) := []
theorem l_l_markLetterS_ok : ∀ q ∈ l_l_markLetterS, ConOk Tryz.prog q.1 q.2 := Tryz.cons_nil
abbrev k_l_markLetterS_2 : List Keep × List BK := ([.is (.own 0 0), .ro tInt64, .drop, .drop, .drop, .ro tInt64, .drop, .drop, .drop, .drop, .drop, .drop, .drop, .drop, .drop, .drop, .drop, .drop, .drop, .drop, .drop, .drop, .drop, .drop, .drop, .drop, .drop, .drop, .drop, .drop, .drop, .drop, .drop, .drop, .drop, .drop, .drop, .drop, .drop, .drop, .drop, .drop, .drop, .drop, .drop, .drop, .drop, .drop, .drop, .drop, .drop, .drop, .drop, .drop, .drop, .drop, .drop, .drop, .drop, .drop, .drop, .drop, .drop, .drop, .drop, .drop, .drop, .drop, .drop, .drop, .drop, .drop, .drop, .drop, .drop, .drop, .drop, .drop, .drop, .drop, .drop, .drop, .drop, .drop, .drop, .drop, .drop, .drop, .drop, .drop, .drop, .drop, .drop, .drop, .drop, .drop, .drop, .drop, .drop, .drop, .drop, .drop, .drop, .drop, .drop, .drop, .drop, .drop, .drop, .drop, .drop, .drop], [.arr tILetter])
def kp_l_markLetterS : KP := [(2, k_l_markLetterS_2)]
noncomputable def q_l_markLetterS (n : Nat) (x : AP.denL [.io tILetter, .ro tInt]) := evX (false, false, []) l_l_markLetterS kp_l_markLetterS [none] Tryz.f58 (shO (shV tInt) [.io tILetter]) n (AP.encL [.io tILetter, .ro tInt] x)
noncomputable def c_l_markLetterS : Con := apS [.io tILetter, .ro tInt] true (shO (shV tInt) [.io tILetter]) (q_l_markLetterS big)
theorem c_l_markLetterS_ok : ConOk Tryz.prog 58 c_l_markLetterS := apS_ok ⟨Tryz.f58, by kernel_rfl, rfl, by decide⟩ fun _ _ h => evX_ok l_l_markLetterS_ok (f := Tryz.f58) (by kernel_rfl) rfl (by kernel_rfl) (by kernel_rfl) big h
noncomputable def Q_l_markLetterS (n : Nat) (a0 : DSlILetter) (a1 : Int) : Option (Int × DSlILetter × Unit) := q_l_markLetterS n (a0, a1, ())
noncomputable def r_l_markLetterS_2 (n : Nat) (x : KD k_l_markLetterS_2.1) (y : BD k_l_markLetterS_2.2) := rounds (env (false, false, []) l_l_markLetterS) kp_l_markLetterS (body Tryz.f58) (finX (false, false, []) l_l_markLetterS [none] Tryz.f58 (shO (shV tInt) [.io tILetter]) [AP.enc (.io tILetter) [], AP.enc (.ro tInt) (zeroD tInt)]) n 2 k_l_markLetterS_2 x y
noncomputable def R_l_markLetterS_2 (n : Nat) (s1 : Int) (s5 : Int) (b0 : (List DILetter)) : Option (Int × DSlILetter × Unit) := r_l_markLetterS_2 n (s1, s5, ()) (b0, ())
theorem Q_l_markLetterS_eq (n : Nat) (a0 : DSlILetter) (a1 : Int) : Q_l_markLetterS n a0 a1 =
    R_l_markLetterS_2 n a1 (0 : Int) a0 := by kernel_rfl
theorem R_l_markLetterS_2_eq (n : Nat) (s1 : Int) (s5 : Int) (b0 : (List DILetter)) : R_l_markLetterS_2 (n + 1) s1 s5 b0 =
    bif decide (s5 < (↑b0.length : Int)) then
 if (0 : Int) ≤ s5 then
 if s5 < (↑b0.length : Int) then
 (nth b0 s5.toNat).bind fun y =>
 (updO b0 s5.toNat (s1, y.snd)).bind fun y =>
 if (0 : Int) ≤ s5 then
 if s5 < (↑y.length : Int) then
 (nth y s5.toNat).bind fun y_1 =>
 (updO y s5.toNat (y_1.fst, IntKind.i64.wrap (s1 + (1 : Int)), y_1.snd.snd)).bind fun y =>
 if (0 : Int) ≤ s5 then
 if s5 < (↑y.length : Int) then
 (nth y s5.toNat).bind fun y_2 =>
 (updO y s5.toNat
 (y_2.fst, y_2.snd.fst, IntKind.i64.wrap (IntKind.i64.wrap (s1 + (1 : Int)) + (1 : Int)),
 y_2.snd.snd.snd)).bind
 fun y =>
 if (0 : Int) ≤ s5 then
 if s5 < (↑y.length : Int) then
 (nth y s5.toNat).bind fun y_3 =>
 (updO y s5.toNat
 (y_3.fst, y_3.snd.fst, y_3.snd.snd.fst,
 IntKind.i64.wrap
 (IntKind.i64.wrap (IntKind.i64.wrap (s1 + (1 : Int)) + (1 : Int)) +
 (1 : Int)),
 y_3.snd.snd.snd.snd)).bind
 fun y =>
 if (0 : Int) ≤ s5 then
 if s5 < (↑y.length : Int) then
 (nth y s5.toNat).bind fun y_4 =>
 (updO y s5.toNat
 (y_4.fst, y_4.snd.fst, y_4.snd.snd.fst, y_4.snd.snd.snd.fst,
 IntKind.i64.wrap
 (IntKind.i64.wrap
 (IntKind.i64.wrap
 (IntKind.i64.wrap (s1 + (1 : Int)) + (1 : Int)) +
 (1 : Int)) +
 (1 : Int)),
 y_4.snd.snd.snd.snd.snd)).bind
 fun y =>
 if (0 : Int) ≤ s5 then
 if s5 < (↑y.length : Int) then
 (nth y s5.toNat).bind fun y_5 =>
 (updO y s5.toNat
 (y_5.fst, y_5.snd.fst, y_5.snd.snd.fst, y_5.snd.snd.snd.fst,
 y_5.snd.snd.snd.snd.fst,
 (IntKind.i64.wrap
 (IntKind.i64.wrap
 (IntKind.i64.wrap
 (IntKind.i64.wrap
 (IntKind.i64.wrap (s1 + (1 : Int)) +
 (1 : Int)) +
 (1 : Int)) +
 (1 : Int)) +
 (1 : Int)),
 y_5.snd.snd.snd.snd.snd.fst.snd),
 y_5.snd.snd.snd.snd.snd.snd)).bind
 fun y =>
 if (0 : Int) ≤ s5 then
 if s5 < (↑y.length : Int) then
 (nth y s5.toNat).bind fun y_6 =>
 (updO y s5.toNat
 (y_6.fst, y_6.snd.fst, y_6.snd.snd.fst,
 y_6.snd.snd.snd.fst, y_6.snd.snd.snd.snd.fst,
 (y_6.snd.snd.snd.snd.snd.fst.fst,
 IntKind.i64.wrap
 (IntKind.i64.wrap
 (IntKind.i64.wrap
 (IntKind.i64.wrap
 (IntKind.i64.wrap
 (IntKind.i64.wrap
 (s1 + (1 : Int)) +
 (1 : Int)) +
 (1 : Int)) +
 (1 : Int)) +
 (1 : Int)) +
 (1 : Int)),
 y_6.snd.snd.snd.snd.snd.fst.snd.snd),
 y_6.snd.snd.snd.snd.snd.snd)).bind
 fun y =>
 if (0 : Int) ≤ s5 then
 if s5 < (↑y.length : Int) then
 (nth y s5.toNat).bind fun y_7 =>
 (updO y s5.toNat
 (y_7.fst, y_7.snd.fst, y_7.snd.snd.fst,
 y_7.snd.snd.snd.fst, y_7.snd.snd.snd.snd.fst,
 (y_7.snd.snd.snd.snd.snd.fst.fst,
 y_7.snd.snd.snd.snd.snd.fst.snd.fst,
 IntKind.i64.wrap
 (IntKind.i64.wrap
 (IntKind.i64.wrap
 (IntKind.i64.wrap
 (IntKind.i64.wrap
 (IntKind.i64.wrap
 (IntKind.i64.wrap
 (s1 + (1 : Int)) +
 (1 : Int)) +
 (1 : Int)) +
 (1 : Int)) +
 (1 : Int)) +
 (1 : Int)) +
 (1 : Int)),
 y_7.snd.snd.snd.snd.snd.fst.snd.snd.snd),
 y_7.snd.snd.snd.snd.snd.snd)).bind
 fun y =>
 if (0 : Int) ≤ s5 then
 if s5 < (↑y.length : Int) then
 (nth y s5.toNat).bind fun y_8 =>
 (updO y s5.toNat
 (y_8.fst, y_8.snd.fst, y_8.snd.snd.fst,
 y_8.snd.snd.snd.fst,
 y_8.snd.snd.snd.snd.fst,
 (y_8.snd.snd.snd.snd.snd.fst.fst,
 y_8.snd.snd.snd.snd.snd.fst.snd.fst,
 y_8.snd.snd.snd.snd.snd.fst.snd.snd.fst,
 IntKind.i64.wrap
 (IntKind.i64.wrap
 (IntKind.i64.wrap
 (IntKind.i64.wrap
 (IntKind.i64.wrap
 (IntKind.i64.wrap
 (IntKind.i64.wrap
 (IntKind.i64.wrap
 (s1 +
 (1 :
 Int)) +
 (1 :
 Int)) +
 (1 : Int)) +
 (1 : Int)) +
 (1 : Int)) +
 (1 : Int)) +
 (1 : Int)) +
 (1 : Int)),
 ()),
 y_8.snd.snd.snd.snd.snd.snd)).bind
 fun y =>
 if (0 : Int) ≤ s5 then
 if s5 < (↑y.length : Int) then
 (nth y s5.toNat).bind fun y_9 =>
 (updO y s5.toNat
 (y_9.fst, y_9.snd.fst,
 y_9.snd.snd.fst,
 y_9.snd.snd.snd.fst,
 y_9.snd.snd.snd.snd.fst,
 y_9.snd.snd.snd.snd.snd.fst,
 (IntKind.i64.wrap
 (IntKind.i64.wrap
 (IntKind.i64.wrap
 (IntKind.i64.wrap
 (IntKind.i64.wrap
 (IntKind.i64.wrap
 (IntKind.i64.wrap
 (IntKind.i64.wrap
 (IntKind.i64.wrap
 (s1 +
 (1 :
 Int)) +
 (1 :
 Int)) +
 (1 :
 Int)) +
 (1 :
 Int)) +
 (1 :
 Int)) +
 (1 : Int)) +
 (1 : Int)) +
 (1 : Int)) +
 (1 : Int)),
 y_9.snd.snd.snd.snd.snd.snd.fst.snd),
 ())).bind
 fun y =>
 if (0 : Int) ≤ s5 then
 if s5 < (↑y.length : Int) then
 (nth y s5.toNat).bind
 fun y_10 =>
 (updO y s5.toNat
 (y_10.fst, y_10.snd.fst,
 y_10.snd.snd.fst,
 y_10.snd.snd.snd.fst,
 y_10.snd.snd.snd.snd.fst,
 y_10.snd.snd.snd.snd.snd.fst,
 (y_10.snd.snd.snd.snd.snd.snd.fst.fst,
 IntKind.i64.wrap
 (IntKind.i64.wrap
 (IntKind.i64.wrap
 (IntKind.i64.wrap
 (IntKind.i64.wrap
 (IntKind.i64.wrap
 (IntKind.i64.wrap
 (IntKind.i64.wrap
 (IntKind.i64.wrap
 (IntKind.i64.wrap
 (s1 +
 (1 :
 Int)) +
 (1 :
 Int)) +
 (1 :
 Int)) +
 (1 :
 Int)) +
 (1 :
 Int)) +
 (1 :
 Int)) +
 (1 :
 Int)) +
 (1 :
 Int)) +
 (1 : Int)) +
 (1 : Int)),
 y_10.snd.snd.snd.snd.snd.snd.fst.snd.snd),
 ())).bind
 fun y =>
 if (0 : Int) ≤ s5 then
 if
 s5 <
 (↑y.length :
 Int) then
 (nth y s5.toNat).bind
 fun y_11 =>
 (updO y s5.toNat
 (y_11.fst,
 y_11.snd.fst,
 y_11.snd.snd.fst,
 y_11.snd.snd.snd.fst,
 y_11.snd.snd.snd.snd.fst,
 y_11.snd.snd.snd.snd.snd.fst,
 (y_11.snd.snd.snd.snd.snd.snd.fst.fst,
 y_11.snd.snd.snd.snd.snd.snd.fst.snd.fst,
 IntKind.i64.wrap
 (IntKind.i64.wrap
 (IntKind.i64.wrap
 (IntKind.i64.wrap
 (IntKind.i64.wrap
 (IntKind.i64.wrap
 (IntKind.i64.wrap
 (IntKind.i64.wrap
 (IntKind.i64.wrap
 (IntKind.i64.wrap
 (IntKind.i64.wrap
 (s1 +
 (1 :
 Int)) +
 (1 :
 Int)) +
 (1 :
 Int)) +
 (1 :
 Int)) +
 (1 :
 Int)) +
 (1 :
 Int)) +
 (1 :
 Int)) +
 (1 :
 Int)) +
 (1 :
 Int)) +
 (1 :
 Int)) +
 (1 :
 Int)),
 y_11.snd.snd.snd.snd.snd.snd.fst.snd.snd.snd),
 ())).bind
 fun y =>
 if
 (0 : Int) ≤
 s5 then
 if
 s5 <
 (↑y.length :
 Int) then
 (nth y
 s5.toNat).bind
 fun y_12 =>
 (updO y
 s5.toNat
 (y_12.fst,
 y_12.snd.fst,
 y_12.snd.snd.fst,
 y_12.snd.snd.snd.fst,
 y_12.snd.snd.snd.snd.fst,
 y_12.snd.snd.snd.snd.snd.fst,
 (y_12.snd.snd.snd.snd.snd.snd.fst.fst,
 y_12.snd.snd.snd.snd.snd.snd.fst.snd.fst,
 y_12.snd.snd.snd.snd.snd.snd.fst.snd.snd.fst,
 IntKind.i64.wrap
 (IntKind.i64.wrap
 (IntKind.i64.wrap
 (IntKind.i64.wrap
 (IntKind.i64.wrap
 (IntKind.i64.wrap
 (IntKind.i64.wrap
 (IntKind.i64.wrap
 (IntKind.i64.wrap
 (IntKind.i64.wrap
 (IntKind.i64.wrap
 (IntKind.i64.wrap
 (s1 +
 (1 :
 Int)) +
 (1 :
 Int)) +
 (1 :
 Int)) +
 (1 :
 Int)) +
 (1 :
 Int)) +
 (1 :
 Int)) +
 (1 :
 Int)) +
 (1 :
 Int)) +
 (1 :
 Int)) +
 (1 :
 Int)) +
 (1 :
 Int)) +
 (1 :
 Int)),
 ()),
 ())).bind
 fun y =>
 R_l_markLetterS_2
 n
 (IntKind.i64.wrap
 (IntKind.i64.wrap
 (IntKind.i64.wrap
 (IntKind.i64.wrap
 (IntKind.i64.wrap
 (IntKind.i64.wrap
 (IntKind.i64.wrap
 (IntKind.i64.wrap
 (IntKind.i64.wrap
 (IntKind.i64.wrap
 (IntKind.i64.wrap
 (IntKind.i64.wrap
 (IntKind.i64.wrap
 (s1 +
 (1 :
 Int)) +
 (1 :
 Int)) +
 (1 :
 Int)) +
 (1 :
 Int)) +
 (1 :
 Int)) +
 (1 :
 Int)) +
 (1 :
 Int)) +
 (1 :
 Int)) +
 (1 :
 Int)) +
 (1 :
 Int)) +
 (1 :
 Int)) +
 (1 :
 Int)) +
 (1 :
 Int)))
 (IntKind.i64.wrap
 (s5 +
 (1 :
 Int)))
 y
 else none
 else none
 else none
 else none
 else none
 else none
 else none
 else none
 else none
 else none
 else none
 else none
 else none
 else none
 else none
 else none
 else none
 else none
 else none
 else none
 else none
 else none
 else none
 else none
 else none
 else none
 else some (s1, b0, PUnit.unit) := by kernel_rfl

end Go.Sx.Tryz

set_option maxRecDepth 100000
namespace Go.Sx.Tryz
open Go Go.Sx Go.Proofs

noncomputable def l_l_heldLetterS : List (Nat × Con) := []
theorem l_l_heldLetterS_ok : ∀ q ∈ l_l_heldLetterS, ConOk Tryz.prog q.1 q.2 := Tryz.cons_nil
abbrev k_l_heldLetterS_2 : List Keep × List BK := ([.ro tSlLLetter, .ro tInt64, .drop, .drop, .drop, .ro tInt64, .drop, .drop, .drop, .drop, .drop, .drop, .drop, .drop, .drop, .drop, .drop, .drop, .drop, .drop, .drop, .drop, .drop, .drop, .drop, .drop, .drop, .drop, .drop, .drop, .drop, .drop, .drop, .drop, .drop, .drop, .drop, .drop, .drop, .drop, .drop, .drop, .drop, .drop, .drop, .drop, .drop, .drop, .drop, .drop, .drop, .drop, .drop, .drop, .drop, .drop, .drop, .drop, .drop, .drop, .drop, .drop, .drop, .drop, .drop, .drop, .drop, .drop, .drop, .drop, .drop, .drop, .drop, .drop, .drop, .drop, .drop, .drop, .drop, .drop, .drop, .drop, .drop, .drop, .drop, .drop, .drop, .drop, .drop, .drop, .drop, .drop, .drop, .drop, .drop, .drop, .drop, .drop, .drop, .drop, .drop, .drop, .drop, .drop, .drop, .drop, .drop, .drop, .drop, .drop, .drop, .drop, .drop, .drop, .drop, .drop, .drop, .drop, .drop, .drop, .drop, .drop, .drop, .drop, .drop, .drop, .drop, .drop, .drop, .drop, .drop, .drop, .drop, .drop, .drop, .drop, .drop, .drop], [])
def kp_l_heldLetterS : KP := [(2, k_l_heldLetterS_2)]
noncomputable def q_l_heldLetterS (n : Nat) (x : Args [tSlILetter, tInt]) := evX (false, false, []) l_l_heldLetterS kp_l_heldLetterS [none] Tryz.f63 (shV tInt) n (encA [tSlILetter, tInt] x)
noncomputable def c_l_heldLetterS : Con := roS [tSlILetter, tInt] true (shV tInt) (q_l_heldLetterS big)
theorem c_l_heldLetterS_ok : ConOk Tryz.prog 63 c_l_heldLetterS := roS_ok ⟨Tryz.f63, by kernel_rfl, rfl, by decide⟩ fun _ _ h => evX_ok l_l_heldLetterS_ok (f := Tryz.f63) (by kernel_rfl) rfl (by kernel_rfl) (by kernel_rfl) big h
noncomputable def Q_l_heldLetterS (n : Nat) (a0 : DSlILetter) (a1 : Int) : Option Int := q_l_heldLetterS n (a0, a1, ())
noncomputable def r_l_heldLetterS_2 (n : Nat) (x : KD k_l_heldLetterS_2.1) (y : BD k_l_heldLetterS_2.2) := rounds (env (false, false, []) l_l_heldLetterS) kp_l_heldLetterS (body Tryz.f63) (finX (false, false, []) l_l_heldLetterS [none] Tryz.f63 (shV tInt) [.val tSlILetter (zeroD tSlILetter), .val tInt (zeroD tInt)]) n 2 k_l_heldLetterS_2 x y
noncomputable def R_l_heldLetterS_2 (n : Nat) (s0 : DSlLLetter) (s1 : Int) (s5 : Int) : Option Int := r_l_heldLetterS_2 n (s0, s1, s5, ()) ()
theorem Q_l_heldLetterS_eq (n : Nat) (a0 : DSlILetter) (a1 : Int) : Q_l_heldLetterS n a0 a1 =
    R_l_heldLetterS_2 n a0 a1 (0 : Int) := by kernel_rfl
theorem R_l_heldLetterS_2_eq (n : Nat) (s0 : DSlLLetter) (s1 : Int) (s5 : Int) : R_l_heldLetterS_2 (n + 1) s0 s1 s5 =
    bif decide (s5 < (↑(List.length s0) : Int)) then
 if (0 : Int) ≤ s5 then
 (nth s0 s5.toNat).bind fun y =>
 bif !decide (y.fst = s1) then some (-1 : Int)
 else
 if (0 : Int) ≤ s5 then
 (nth s0 s5.toNat).bind fun y =>
 bif !decide (y.snd.fst = IntKind.i64.wrap (s1 + (1 : Int))) then some (-1 : Int)
 else
 if (0 : Int) ≤ s5 then
 (nth s0 s5.toNat).bind fun y =>
 bif !decide (y.snd.snd.fst = IntKind.i64.wrap (IntKind.i64.wrap (s1 + (1 : Int)) + (1 : Int))) then
 some (-1 : Int)
 else
 if (0 : Int) ≤ s5 then
 (nth s0 s5.toNat).bind fun y =>
 bif
 !decide
 (y.snd.snd.snd.fst =
 IntKind.i64.wrap
 (IntKind.i64.wrap (IntKind.i64.wrap (s1 + (1 : Int)) + (1 : Int)) +
 (1 : Int))) then
 some (-1 : Int)
 else
 if (0 : Int) ≤ s5 then
 (nth s0 s5.toNat).bind fun y =>
 bif
 !decide
 (y.snd.snd.snd.snd.fst =
 IntKind.i64.wrap
 (IntKind.i64.wrap
 (IntKind.i64.wrap (IntKind.i64.wrap (s1 + (1 : Int)) + (1 : Int)) +
 (1 : Int)) +
 (1 : Int))) then
 some (-1 : Int)
 else
 if (0 : Int) ≤ s5 then
 (nth s0 s5.toNat).bind fun y =>
 bif
 !decide
 (y.snd.snd.snd.snd.snd.fst.fst =
 IntKind.i64.wrap
 (IntKind.i64.wrap
 (IntKind.i64.wrap
 (IntKind.i64.wrap
 (IntKind.i64.wrap (s1 + (1 : Int)) + (1 : Int)) +
 (1 : Int)) +
 (1 : Int)) +
 (1 : Int))) then
 some (-1 : Int)
 else
 if (0 : Int) ≤ s5 then
 (nth s0 s5.toNat).bind fun y =>
 bif
 !decide
 (y.snd.snd.snd.snd.snd.fst.snd.fst =
 IntKind.i64.wrap
 (IntKind.i64.wrap
 (IntKind.i64.wrap
 (IntKind.i64.wrap
 (IntKind.i64.wrap
 (IntKind.i64.wrap (s1 + (1 : Int)) +
 (1 : Int)) +
 (1 : Int)) +
 (1 : Int)) +
 (1 : Int)) +
 (1 : Int))) then
 some (-1 : Int)
 else
 if (0 : Int) ≤ s5 then
 (nth s0 s5.toNat).bind fun y =>
 bif
 !decide
 (y.snd.snd.snd.snd.snd.fst.snd.snd.fst =
 IntKind.i64.wrap
 (IntKind.i64.wrap
 (IntKind.i64.wrap
 (IntKind.i64.wrap
 (IntKind.i64.wrap
 (IntKind.i64.wrap
 (IntKind.i64.wrap (s1 + (1 : Int)) +
 (1 : Int)) +
 (1 : Int)) +
 (1 : Int)) +
 (1 : Int)) +
 (1 : Int)) +
 (1 : Int))) then
 some (-1 : Int)
 else
 if (0 : Int) ≤ s5 then
 (nth s0 s5.toNat).bind fun y =>
 bif
 !decide
 (y.snd.snd.snd.snd.snd.fst.snd.snd.snd.fst =
 IntKind.i64.wrap
 (IntKind.i64.wrap
 (IntKind.i64.wrap
 (IntKind.i64.wrap
 (IntKind.i64.wrap
 (IntKind.i64.wrap
 (IntKind.i64.wrap
 (IntKind.i64.wrap
 (s1 + (1 : Int)) +
 (1 : Int)) +
 (1 : Int)) +
 (1 : Int)) +
 (1 : Int)) +
 (1 : Int)) +
 (1 : Int)) +
 (1 : Int))) then
 some (-1 : Int)
 else
 if (0 : Int) ≤ s5 then
 (nth s0 s5.toNat).bind fun y =>
 bif
 !decide
 (y.snd.snd.snd.snd.snd.snd.fst.fst =
 IntKind.i64.wrap
 (IntKind.i64.wrap
 (IntKind.i64.wrap
 (IntKind.i64.wrap
 (IntKind.i64.wrap
 (IntKind.i64.wrap
 (IntKind.i64.wrap
 (IntKind.i64.wrap
 (IntKind.i64.wrap
 (s1 +
 (1 : Int)) +
 (1 : Int)) +
 (1 : Int)) +
 (1 : Int)) +
 (1 : Int)) +
 (1 : Int)) +
 (1 : Int)) +
 (1 : Int)) +
 (1 : Int))) then
 some (-1 : Int)
 else
 if (0 : Int) ≤ s5 then
 (nth s0 s5.toNat).bind fun y =>
 bif
 !decide
 (y.snd.snd.snd.snd.snd.snd.fst.snd.fst =
 IntKind.i64.wrap
 (IntKind.i64.wrap
 (IntKind.i64.wrap
 (IntKind.i64.wrap
 (IntKind.i64.wrap
 (IntKind.i64.wrap
 (IntKind.i64.wrap
 (IntKind.i64.wrap
 (IntKind.i64.wrap
 (IntKind.i64.wrap
 (s1 +
 (1 :
 Int)) +
 (1 :
 Int)) +
 (1 :
 Int)) +
 (1 : Int)) +
 (1 : Int)) +
 (1 : Int)) +
 (1 : Int)) +
 (1 : Int)) +
 (1 : Int)) +
 (1 : Int))) then
 some (-1 : Int)
 else
 if (0 : Int) ≤ s5 then
 (nth s0 s5.toNat).bind fun y =>
 bif
 !decide
 (y.snd.snd.snd.snd.snd.snd.fst.snd.snd.fst =
 IntKind.i64.wrap
 (IntKind.i64.wrap
 (IntKind.i64.wrap
 (IntKind.i64.wrap
 (IntKind.i64.wrap
 (IntKind.i64.wrap
 (IntKind.i64.wrap
 (IntKind.i64.wrap
 (IntKind.i64.wrap
 (IntKind.i64.wrap
 (IntKind.i64.wrap
 (s1 +
 (1 :
 Int)) +
 (1 :
 Int)) +
 (1 :
 Int)) +
 (1 :
 Int)) +
 (1 :
 Int)) +
 (1 : Int)) +
 (1 : Int)) +
 (1 : Int)) +
 (1 : Int)) +
 (1 : Int)) +
 (1 : Int))) then
 some (-1 : Int)
 else
 if (0 : Int) ≤ s5 then
 (nth s0 s5.toNat).bind fun y =>
 bif
 !decide
 (y.snd.snd.snd.snd.snd.snd.fst.snd.snd.snd.fst =
 IntKind.i64.wrap
 (IntKind.i64.wrap
 (IntKind.i64.wrap
 (IntKind.i64.wrap
 (IntKind.i64.wrap
 (IntKind.i64.wrap
 (IntKind.i64.wrap
 (IntKind.i64.wrap
 (IntKind.i64.wrap
 (IntKind.i64.wrap
 (IntKind.i64.wrap
 (IntKind.i64.wrap
 (s1 +
 (1 :
 Int)) +
 (1 :
 Int)) +
 (1 :
 Int)) +
 (1 :
 Int)) +
 (1 :
 Int)) +
 (1 :
 Int)) +
 (1 :
 Int)) +
 (1 :
 Int)) +
 (1 : Int)) +
 (1 : Int)) +
 (1 : Int)) +
 (1 : Int))) then
 some (-1 : Int)
 else
 R_l_heldLetterS_2 n s0
 (IntKind.i64.wrap
 (IntKind.i64.wrap
 (IntKind.i64.wrap
 (IntKind.i64.wrap
 (IntKind.i64.wrap
 (IntKind.i64.wrap
 (IntKind.i64.wrap
 (IntKind.i64.wrap
 (IntKind.i64.wrap
 (IntKind.i64.wrap
 (IntKind.i64.wrap
 (IntKind.i64.wrap
 (IntKind.i64.wrap
 (s1 +
 (1 :
 Int)) +
 (1 :
 Int)) +
 (1 :
 Int)) +
 (1 :
 Int)) +
 (1 :
 Int)) +
 (1 :
 Int)) +
 (1 :
 Int)) +
 (1 : Int)) +
 (1 : Int)) +
 (1 : Int)) +
 (1 : Int)) +
 (1 : Int)) +
 (1 : Int)))
 (IntKind.i64.wrap (s5 + (1 : Int)))
 else none
 else none
 else none
 else none
 else none
 else none
 else none
 else none
 else none
 else none
 else none
 else none
 else none
 else some s1 := by kernel_rfl

end Go.Sx.Tryz

set_option maxRecDepth 100000
namespace Go.Sx.Tryz
open Go Go.Sx Go.Proofs

noncomputable def l_l_markPeer : List (Nat × Con) := [(54, c_l_markIntS), (55, c_l_markCellS), (56, c_l_markUndoS), (57, c_l_markVoteS), (58, c_l_markLetterS)]
theorem l_l_markPeer_ok : ∀ q ∈ l_l_markPeer, ConOk Tryz.prog q.1 q.2 := Tryz.cons_cons c_l_markIntS_ok (Tryz.cons_cons c_l_markCellS_ok (Tryz.cons_cons c_l_markUndoS_ok (Tryz.cons_cons c_l_markVoteS_ok (Tryz.cons_cons c_l_markLetterS_ok (Tryz.cons_nil)))))
def kp_l_markPeer : KP := []
noncomputable def q_l_markPeer (n : Nat) (x : AP.denL [.mo uIPeer, .ro tInt]) := evX (false, false, [2, 5, 9, 13, 17, 21, 25]) l_l_markPeer kp_l_markPeer [none] Tryz.f14 (shO (shV tInt) [.mo uIPeer]) n (AP.encL [.mo uIPeer, .ro tInt] x)
noncomputable def c_l_markPeer : Con := apS [.mo uIPeer, .ro tInt] true (shO (shV tInt) [.mo uIPeer]) (q_l_markPeer big)
theorem c_l_markPeer_ok : ConOk Tryz.prog 14 c_l_markPeer := apS_ok ⟨Tryz.f14, by kernel_rfl, rfl, by decide⟩ fun _ _ h => evX_ok l_l_markPeer_ok (f := Tryz.f14) (by kernel_rfl) rfl (by kernel_rfl) (by kernel_rfl) big h
noncomputable def Q_l_markPeer (n : Nat) (a0 : DIPeer) (a1 : Int) : Option (Int × (Unit × Unit × (Unit × Unit × Unit × Unit × Unit) × (Unit × Unit × Unit × Unit × Unit) × (Unit × Unit × Unit × Unit × Unit) × (List Int) × (List DICell) × (List Int) × (List DIUndo) × (List DIVote) × (List DILetter) × Unit × Unit) × Unit) := q_l_markPeer n (a0, a1, ())
theorem Q_l_markPeer_eq (n : Nat) (a0 : DIPeer) (a1 : Int) : Q_l_markPeer n a0 a1 =
    (Q_l_markIntS big a0.snd.snd.snd.snd.snd.fst a1).bind fun y =>
 (Q_l_markCellS big a0.snd.snd.snd.snd.snd.snd.fst y.fst).bind fun y_1 =>
 (Q_l_markIntS big a0.snd.snd.snd.snd.snd.snd.snd.fst y_1.fst).bind fun y_2 =>
 (Q_l_markUndoS big a0.snd.snd.snd.snd.snd.snd.snd.snd.fst y_2.fst).bind fun y_3 =>
 (Q_l_markVoteS big a0.snd.snd.snd.snd.snd.snd.snd.snd.snd.fst y_3.fst).bind fun y_4 =>
 (Q_l_markLetterS big a0.snd.snd.snd.snd.snd.snd.snd.snd.snd.snd.fst y_4.fst).bind fun y_5 =>
 some
 (y_5.fst,
 (PUnit.unit, PUnit.unit, (PUnit.unit, PUnit.unit, PUnit.unit, PUnit.unit, PUnit.unit),
 (PUnit.unit, PUnit.unit, PUnit.unit, PUnit.unit, PUnit.unit),
 (PUnit.unit, PUnit.unit, PUnit.unit, PUnit.unit, PUnit.unit), y.snd.fst, y_1.snd.fst, y_2.snd.fst,
 y_3.snd.fst, y_4.snd.fst, y_5.snd.fst, PUnit.unit, PUnit.unit),
 PUnit.unit) := by kernel_rfl

end Go.Sx.Tryz

set_option maxRecDepth 100000
namespace Go.Sx.Tryz
open Go Go.Sx Go.Proofs

noncomputable def l_l_heldPeer : List (Nat × Con) := [(59, c_l_heldIntS), (60, c_l_heldCellS), (61, c_l_heldUndoS), (62, c_l_heldVoteS), (63, c_l_heldLetterS)]
theorem l_l_heldPeer_ok : ∀ q ∈ l_l_heldPeer, ConOk Tryz.prog q.1 q.2 := Tryz.cons_cons c_l_heldIntS_ok (Tryz.cons_cons c_l_heldCellS_ok (Tryz.cons_cons c_l_heldUndoS_ok (Tryz.cons_cons c_l_heldVoteS_ok (Tryz.cons_cons c_l_heldLetterS_ok (Tryz.cons_nil)))))
def kp_l_heldPeer : KP := []
noncomputable def q_l_heldPeer (n : Nat) (x : Args [tIPeer, tInt]) := evX (false, false, [2, 5, 11, 17, 23, 29, 35]) l_l_heldPeer kp_l_heldPeer [none] Tryz.f15 (shV tInt) n (encA [tIPeer, tInt] x)
noncomputable def c_l_heldPeer : Con := roS [tIPeer, tInt] true (shV tInt) (q_l_heldPeer big)
theorem c_l_heldPeer_ok : ConOk Tryz.prog 15 c_l_heldPeer := roS_ok ⟨Tryz.f15, by kernel_rfl, rfl, by decide⟩ fun _ _ h => evX_ok l_l_heldPeer_ok (f := Tryz.f15) (by kernel_rfl) rfl (by kernel_rfl) (by kernel_rfl) big h
noncomputable def Q_l_heldPeer (n : Nat) (a0 : DIPeer) (a1 : Int) : Option Int := q_l_heldPeer n (a0, a1, ())
theorem Q_l_heldPeer_eq (n : Nat) (a0 : DIPeer) (a1 : Int) : Q_l_heldPeer n a0 a1 =
    (Q_l_heldIntS big a0.snd.snd.snd.snd.snd.fst a1).bind fun y =>
 bif decide (y < (0 : Int)) then some (-1 : Int)
 else
 (Q_l_heldCellS big a0.snd.snd.snd.snd.snd.snd.fst y).bind fun y =>
 bif decide (y < (0 : Int)) then some (-1 : Int)
 else
 (Q_l_heldIntS big a0.snd.snd.snd.snd.snd.snd.snd.fst y).bind fun y =>
 bif decide (y < (0 : Int)) then some (-1 : Int)
 else
 (Q_l_heldUndoS big a0.snd.snd.snd.snd.snd.snd.snd.snd.fst y).bind fun y =>
 bif decide (y < (0 : Int)) then some (-1 : Int)
 else
 (Q_l_heldVoteS big a0.snd.snd.snd.snd.snd.snd.snd.snd.snd.fst y).bind fun y =>
 bif decide (y < (0 : Int)) then some (-1 : Int)
 else
 (Q_l_heldLetterS big a0.snd.snd.snd.snd.snd.snd.snd.snd.snd.snd.fst y).bind fun y =>
 bif decide (y < (0 : Int)) then some (-1 : Int) else some y := by kernel_rfl

end Go.Sx.Tryz

set_option maxRecDepth 100000
namespace Go.Sx.Tryz
open Go Go.Sx Go.Proofs

noncomputable def l_g_Clone_Int : List (Nat × Con) := []
theorem l_g_Clone_Int_ok : ∀ q ∈ l_g_Clone_Int, ConOk Tryz.prog q.1 q.2 := Tryz.cons_nil
def kp_g_Clone_Int : KP := []
noncomputable def q_g_Clone_Int (n : Nat) (x : Args [tSlInt]) := evX (false, false, []) l_g_Clone_Int kp_g_Clone_Int [some uSlInt] Tryz.f79 (shF uSlInt) n (encA [tSlInt] x)
noncomputable def c_g_Clone_Int : Con := roS [tSlInt] true (shF uSlInt) (q_g_Clone_Int big)
theorem c_g_Clone_Int_ok : ConOk Tryz.prog 79 c_g_Clone_Int := roS_ok ⟨Tryz.f79, by kernel_rfl, rfl, by decide⟩ fun _ _ h => evX_ok l_g_Clone_Int_ok (f := Tryz.f79) (by kernel_rfl) rfl (by kernel_rfl) (by kernel_rfl) big h
noncomputable def Q_g_Clone_Int (n : Nat) (a0 : DSlInt) : Option DSlInt := q_g_Clone_Int n (a0, ())
theorem Q_g_Clone_Int_eq (n : Nat) (a0 : DSlInt) : Q_g_Clone_Int n a0 =
    nilC a0 fun b => bif b then some [] else if (0 : Nat) + List.length a0 ≤ lim then some a0 else none := by kernel_rfl

end Go.Sx.Tryz

set_option maxRecDepth 100000
namespace Go.Sx.Tryz
open Go Go.Sx Go.Proofs

noncomputable def l_g_Clone_ICell : List (Nat × Con) := []
theorem l_g_Clone_ICell_ok : ∀ q ∈ l_g_Clone_ICell, ConOk Tryz.prog q.1 q.2 := Tryz.cons_nil
def kp_g_Clone_ICell : KP := []
noncomputable def q_g_Clone_ICell (n : Nat) (x : Args [tSlICell]) := evX (false, false, []) l_g_Clone_ICell kp_g_Clone_ICell [some uSlICell] Tryz.f80 (shF uSlICell) n (encA [tSlICell] x)
noncomputable def c_g_Clone_ICell : Con := roS [tSlICell] true (shF uSlICell) (q_g_Clone_ICell big)
theorem c_g_Clone_ICell_ok : ConOk Tryz.prog 80 c_g_Clone_ICell := roS_ok ⟨Tryz.f80, by kernel_rfl, rfl, by decide⟩ fun _ _ h => evX_ok l_g_Clone_ICell_ok (f := Tryz.f80) (by kernel_rfl) rfl (by kernel_rfl) (by kernel_rfl) big h
noncomputable def Q_g_Clone_ICell (n : Nat) (a0 : DSlICell) : Option DSlICell := q_g_Clone_ICell n (a0, ())
theorem Q_g_Clone_ICell_eq (n : Nat) (a0 : DSlICell) : Q_g_Clone_ICell n a0 =
    nilC a0 fun b => bif b then some [] else if (0 : Nat) + List.length a0 ≤ lim then some a0 else none := by kernel_rfl

end Go.Sx.Tryz

set_option maxRecDepth 100000
namespace Go.Sx.Tryz
open Go Go.Sx Go.Proofs

noncomputable def l_g_Clone_IUndo : List (Nat × Con) := []
theorem l_g_Clone_IUndo_ok : ∀ q ∈ l_g_Clone_IUndo, ConOk Tryz.prog q.1 q.2 := Tryz.cons_nil
def kp_g_Clone_IUndo : KP := []
noncomputable def q_g_Clone_IUndo (n : Nat) (x : Args [tSlIUndo]) := evX (false, false, []) l_g_Clone_IUndo kp_g_Clone_IUndo [some uSlIUndo] Tryz.f81 (shF uSlIUndo) n (encA [tSlIUndo] x)
noncomputable def c_g_Clone_IUndo : Con := roS [tSlIUndo] true (shF uSlIUndo) (q_g_Clone_IUndo big)
theorem c_g_Clone_IUndo_ok : ConOk Tryz.prog 81 c_g_Clone_IUndo := roS_ok ⟨Tryz.f81, by kernel_rfl, rfl, by decide⟩ fun _ _ h => evX_ok l_g_Clone_IUndo_ok (f := Tryz.f81) (by kernel_rfl) rfl (by kernel_rfl) (by kernel_rfl) big h
noncomputable def Q_g_Clone_IUndo (n : Nat) (a0 : DSlIUndo) : Option DSlIUndo := q_g_Clone_IUndo n (a0, ())
theorem Q_g_Clone_IUndo_eq (n : Nat) (a0 : DSlIUndo) : Q_g_Clone_IUndo n a0 =
    nilC a0 fun b => bif b then some [] else if (0 : Nat) + List.length a0 ≤ lim then some a0 else none := by kernel_rfl

end Go.Sx.Tryz

set_option maxRecDepth 100000
namespace Go.Sx.Tryz
open Go Go.Sx Go.Proofs

noncomputable def l_g_Clone_IVote : List (Nat × Con) := []
theorem l_g_Clone_IVote_ok : ∀ q ∈ l_g_Clone_IVote, ConOk Tryz.prog q.1 q.2 := Tryz.cons_nil
def kp_g_Clone_IVote : KP := []
noncomputable def q_g_Clone_IVote (n : Nat) (x : Args [tSlIVote]) := evX (false, false, []) l_g_Clone_IVote kp_g_Clone_IVote [some uSlIVote] Tryz.f82 (shF uSlIVote) n (encA [tSlIVote] x)
noncomputable def c_g_Clone_IVote : Con := roS [tSlIVote] true (shF uSlIVote) (q_g_Clone_IVote big)
theorem c_g_Clone_IVote_ok : ConOk Tryz.prog 82 c_g_Clone_IVote := roS_ok ⟨Tryz.f82, by kernel_rfl, rfl, by decide⟩ fun _ _ h => evX_ok l_g_Clone_IVote_ok (f := Tryz.f82) (by kernel_rfl) rfl (by kernel_rfl) (by kernel_rfl) big h
noncomputable def Q_g_Clone_IVote (n : Nat) (a0 : DSlIVote) : Option DSlIVote := q_g_Clone_IVote n (a0, ())
theorem Q_g_Clone_IVote_eq (n : Nat) (a0 : DSlIVote) : Q_g_Clone_IVote n a0 =
    nilC a0 fun b => bif b then some [] else if (0 : Nat) + List.length a0 ≤ lim then some a0 else none := by kernel_rfl

end Go.Sx.Tryz

set_option maxRecDepth 100000
namespace Go.Sx.Tryz
open Go Go.Sx Go.Proofs

noncomputable def l_g_Clone_ILetter : List (Nat × Con) := []
theorem l_g_Clone_ILetter_ok : ∀ q ∈ l_g_Clone_ILetter, ConOk Tryz.prog q.1 q.2 := Tryz.cons_nil
def kp_g_Clone_ILetter : KP := []
noncomputable def q_g_Clone_ILetter (n : Nat) (x : Args [tSlILetter]) := evX (false, false, []) l_g_Clone_ILetter kp_g_Clone_ILetter [some uSlILetter] Tryz.f83 (shF uSlILetter) n (encA [tSlILetter] x)
noncomputable def c_g_Clone_ILetter : Con := roS [tSlILetter] true (shF uSlILetter) (q_g_Clone_ILetter big)
theorem c_g_Clone_ILetter_ok : ConOk Tryz.prog 83 c_g_Clone_ILetter := roS_ok ⟨Tryz.f83, by kernel_rfl, rfl, by decide⟩ fun _ _ h => evX_ok l_g_Clone_ILetter_ok (f := Tryz.f83) (by kernel_rfl) rfl (by kernel_rfl) (by kernel_rfl) big h
noncomputable def Q_g_Clone_ILetter (n : Nat) (a0 : DSlILetter) : Option DSlILetter := q_g_Clone_ILetter n (a0, ())
theorem Q_g_Clone_ILetter_eq (n : Nat) (a0 : DSlILetter) : Q_g_Clone_ILetter n a0 =
    nilC a0 fun b => bif b then some [] else if (0 : Nat) + List.length a0 ≤ lim then some a0 else none := by kernel_rfl

end Go.Sx.Tryz

set_option maxRecDepth 100000
namespace Go.Sx.Tryz
open Go Go.Sx Go.Proofs

noncomputable def l_i_clonePeer : List (Nat × Con) := [(79, c_g_Clone_Int), (80, c_g_Clone_ICell), (81, c_g_Clone_IUndo), (82, c_g_Clone_IVote), (83, c_g_Clone_ILetter)]
theorem l_i_clonePeer_ok : ∀ q ∈ l_i_clonePeer, ConOk Tryz.prog q.1 q.2 := Tryz.cons_cons c_g_Clone_Int_ok (Tryz.cons_cons c_g_Clone_ICell_ok (Tryz.cons_cons c_g_Clone_IUndo_ok (Tryz.cons_cons c_g_Clone_IVote_ok (Tryz.cons_cons c_g_Clone_ILetter_ok (Tryz.cons_nil)))))
def kp_i_clonePeer : KP := []
noncomputable def q_i_clonePeer (n : Nat) (x : Args [tIPeer]) := evX (false, false, [1, 3, 6, 9, 12, 15, 18]) l_i_clonePeer kp_i_clonePeer [some uIPeer] Tryz.f40 (shF uIPeer) n (encA [tIPeer] x)
noncomputable def c_i_clonePeer : Con := roS [tIPeer] true (shF uIPeer) (q_i_clonePeer big)
theorem c_i_clonePeer_ok : ConOk Tryz.prog 40 c_i_clonePeer := roS_ok ⟨Tryz.f40, by kernel_rfl, rfl, by decide⟩ fun _ _ h => evX_ok l_i_clonePeer_ok (f := Tryz.f40) (by kernel_rfl) rfl (by kernel_rfl) (by kernel_rfl) big h
noncomputable def Q_i_clonePeer (n : Nat) (a0 : DIPeer) : Option DIPeer := q_i_clonePeer n (a0, ())
theorem Q_i_clonePeer_eq (n : Nat) (a0 : DIPeer) : Q_i_clonePeer n a0 =
    (Q_g_Clone_Int big a0.snd.snd.snd.snd.snd.fst).bind fun y =>
 (Q_g_Clone_ICell big a0.snd.snd.snd.snd.snd.snd.fst).bind fun y_1 =>
 (Q_g_Clone_Int big a0.snd.snd.snd.snd.snd.snd.snd.fst).bind fun y_2 =>
 (Q_g_Clone_IUndo big a0.snd.snd.snd.snd.snd.snd.snd.snd.fst).bind fun y_3 =>
 (Q_g_Clone_IVote big a0.snd.snd.snd.snd.snd.snd.snd.snd.snd.fst).bind fun y_4 =>
 (Q_g_Clone_ILetter big a0.snd.snd.snd.snd.snd.snd.snd.snd.snd.snd.fst).bind fun y_5 =>
 some
 (a0.fst, a0.snd.fst, a0.snd.snd.fst, a0.snd.snd.snd.fst, a0.snd.snd.snd.snd.fst, y, y_1, y_2, y_3, y_4,
 y_5, a0.snd.snd.snd.snd.snd.snd.snd.snd.snd.snd.snd) := by kernel_rfl

end Go.Sx.Tryz

set_option maxRecDepth 100000
namespace Go.Sx.Tryz
open Go Go.Sx Go.Proofs

noncomputable def l_s_l09Copy : List (Nat × Con) := []
theorem l_s_l09Copy_ok : ∀ q ∈ l_s_l09Copy, ConOk Tryz.prog q.1 q.2 := Tryz.cons_nil
def kp_s_l09Copy : KP := []
noncomputable def q_s_l09Copy (n : Nat) (x : Args [tIPeer]) := evX (false, false, [1, 3, 6, 11, 16, 21, 26, 31]) l_s_l09Copy kp_s_l09Copy [some uIPeer] Tryz.f24 (shF uIPeer) n (encA [tIPeer] x)
noncomputable def c_s_l09Copy : Con := roS [tIPeer] true (shF uIPeer) (q_s_l09Copy big)
theorem c_s_l09Copy_ok : ConOk Tryz.prog 24 c_s_l09Copy := roS_ok ⟨Tryz.f24, by kernel_rfl, rfl, by decide⟩ fun _ _ h => evX_ok l_s_l09Copy_ok (f := Tryz.f24) (by kernel_rfl) rfl (by kernel_rfl) (by kernel_rfl) big h
noncomputable def Q_s_l09Copy (n : Nat) (a0 : DIPeer) : Option DIPeer := q_s_l09Copy n (a0, ())
theorem Q_s_l09Copy_eq (n : Nat) (a0 : DIPeer) : Q_s_l09Copy n a0 =
    if (0 : Nat) + List.length a0.snd.snd.snd.snd.snd.fst ≤ lim then
 if (0 : Nat) + List.length a0.snd.snd.snd.snd.snd.snd.fst ≤ lim then
 if (0 : Nat) + List.length a0.snd.snd.snd.snd.snd.snd.snd.fst ≤ lim then
 if (0 : Nat) + List.length a0.snd.snd.snd.snd.snd.snd.snd.snd.fst ≤ lim then
 if (0 : Nat) + List.length a0.snd.snd.snd.snd.snd.snd.snd.snd.snd.fst ≤ lim then
 if (0 : Nat) + List.length a0.snd.snd.snd.snd.snd.snd.snd.snd.snd.snd.fst ≤ lim then some a0 else none
 else none
 else none
 else none
 else none
 else none := by kernel_rfl

end Go.Sx.Tryz

set_option maxRecDepth 100000
namespace Go.Sx.Tryz
open Go Go.Sx Go.Proofs

noncomputable def l_l_markCmdS : List (Nat × Con) := [(93, c_l_markText)]
theorem l_l_markCmdS_ok : ∀ q ∈ l_l_markCmdS, ConOk Tryz.prog q.1 q.2 := Tryz.cons_cons c_l_markText_ok (Tryz.cons_nil)
abbrev k_l_markCmdS_2 : List Keep × List BK := ([.is (.own 0 0), .ro tInt64, .drop, .drop, .drop, .ro tInt64, .drop, .drop, .drop, .drop, .drop, .drop, .drop, .drop, .drop, .drop, .drop, .drop, .drop, .drop, .drop, .drop, .drop, .drop, .drop, .drop, .drop, .drop, .drop, .drop, .drop, .drop, .drop, .drop, .drop], [.arr tICmd])
def kp_l_markCmdS : KP := [(2, k_l_markCmdS_2)]
noncomputable def q_l_markCmdS (n : Nat) (x : AP.denL [.io tICmd, .ro tInt]) := evX (false, false, []) l_l_markCmdS kp_l_markCmdS [none] Tryz.f53 (shO (shV tInt) [.io tICmd]) n (AP.encL [.io tICmd, .ro tInt] x)
noncomputable def c_l_markCmdS : Con := apS [.io tICmd, .ro tInt] true (shO (shV tInt) [.io tICmd]) (q_l_markCmdS big)
theorem c_l_markCmdS_ok : ConOk Tryz.prog 53 c_l_markCmdS := apS_ok ⟨Tryz.f53, by kernel_rfl, rfl, by decide⟩ fun _ _ h => evX_ok l_l_markCmdS_ok (f := Tryz.f53) (by kernel_rfl) rfl (by kernel_rfl) (by kernel_rfl) big h
noncomputable def Q_l_markCmdS (n : Nat) (a0 : DSlICmd) (a1 : Int) : Option (Int × DSlICmd × Unit) := q_l_markCmdS n (a0, a1, ())
noncomputable def r_l_markCmdS_2 (n : Nat) (x : KD k_l_markCmdS_2.1) (y : BD k_l_markCmdS_2.2) := rounds (env (false, false, []) l_l_markCmdS) kp_l_markCmdS (body Tryz.f53) (finX (false, false, []) l_l_markCmdS [none] Tryz.f53 (shO (shV tInt) [.io tICmd]) [AP.enc (.io tICmd) [], AP.enc (.ro tInt) (zeroD tInt)]) n 2 k_l_markCmdS_2 x y
noncomputable def R_l_markCmdS_2 (n : Nat) (s1 : Int) (s5 : Int) (b0 : (List DICmd)) : Option (Int × DSlICmd × Unit) := r_l_markCmdS_2 n (s1, s5, ()) (b0, ())
theorem Q_l_markCmdS_eq (n : Nat) (a0 : DSlICmd) (a1 : Int) : Q_l_markCmdS n a0 a1 =
    R_l_markCmdS_2 n a1 (0 : Int) a0 := by kernel_rfl
theorem R_l_markCmdS_2_eq (n : Nat) (s1 : Int) (s5 : Int) (b0 : (List DICmd)) : R_l_markCmdS_2 (n + 1) s1 s5 b0 =
    bif decide (s5 < (↑b0.length : Int)) then
 if (0 : Int) ≤ s5 then
 if s5 < (↑b0.length : Int) then
 (nth b0 s5.toNat).bind fun y =>
 (updO b0 s5.toNat (s1, y.snd)).bind fun y =>
 (Q_l_markText big (IntKind.i64.wrap (s1 + (1 : Int)))).bind fun y_1 =>
 if (0 : Int) ≤ s5 then
 if s5 < (↑y.length : Int) then
 (nth y s5.toNat).bind fun y_2 =>
 (updO y s5.toNat (y_2.fst, y_1, y_2.snd.snd)).bind fun y =>
 if (0 : Int) ≤ s5 then
 if s5 < (↑y.length : Int) then
 (nth y s5.toNat).bind fun y_3 =>
 (updO y s5.toNat
 (y_3.fst, y_3.snd.fst,
 IntKind.i64.wrap (IntKind.i64.wrap (s1 + (1 : Int)) + (1 : Int)), ())).bind
 fun y =>
 R_l_markCmdS_2 n
 (IntKind.i64.wrap
 (IntKind.i64.wrap (IntKind.i64.wrap (s1 + (1 : Int)) + (1 : Int)) + (1 : Int)))
 (IntKind.i64.wrap (s5 + (1 : Int))) y
 else none
 else none
 else none
 else none
 else none
 else none
 else some (s1, b0, PUnit.unit) := by kernel_rfl

end Go.Sx.Tryz

set_option maxRecDepth 100000
namespace Go.Sx.Tryz
open Go Go.Sx Go.Proofs

noncomputable def l_l_markBlockS : List (Nat × Con) := [(53, c_l_markCmdS)]
theorem l_l_markBlockS_ok : ∀ q ∈ l_l_markBlockS, ConOk Tryz.prog q.1 q.2 := Tryz.cons_cons c_l_markCmdS_ok (Tryz.cons_nil)
abbrev k_l_markBlockS_2 : List Keep × List BK := ([.is (.own 0 0), .ro tInt64, .drop, .drop, .drop, .ro tInt64, .drop, .drop, .drop, .drop, .drop, .drop, .drop, .drop, .drop, .drop, .drop, .drop, .drop, .drop, .drop, .drop, .drop, .drop, .drop, .drop, .drop, .drop, .drop, .drop, .drop, .drop, .drop, .drop, .drop, .drop, .drop, .drop, .drop, .drop, .drop, .drop, .drop, .drop, .drop, .drop, .drop, .drop, .drop, .drop, .drop, .drop, .drop, .drop, .drop, .drop, .drop, .drop, .drop, .drop, .drop, .drop, .drop, .drop, .drop, .drop], [.arr uIBlock])
def kp_l_markBlockS : KP := [(2, k_l_markBlockS_2)]
noncomputable def q_l_markBlockS (n : Nat) (x : AP.denL [.io uIBlock, .ro tInt]) := evX (true, true, []) l_l_markBlockS kp_l_markBlockS [none] Tryz.f13 (shO (shV tInt) [.io uIBlock]) n (AP.encL [.io uIBlock, .ro tInt] x)
noncomputable def c_l_markBlockS : Con := apS [.io uIBlock, .ro tInt] true (shO (shV tInt) [.io uIBlock]) (q_l_markBlockS big)
theorem c_l_markBlockS_ok : ConOk Tryz.prog 13 c_l_markBlockS := apS_ok ⟨Tryz.f13, by kernel_rfl, rfl, by decide⟩ fun _ _ h => evX_ok l_l_markBlockS_ok (f := Tryz.f13) (by kernel_rfl) rfl (by kernel_rfl) (by kernel_rfl) big h
noncomputable def Q_l_markBlockS (n : Nat) (a0 : DSlIBlock) (a1 : Int) : Option (Int × DSlIBlock × Unit) := q_l_markBlockS n (a0, a1, ())
noncomputable def r_l_markBlockS_2 (n : Nat) (x : KD k_l_markBlockS_2.1) (y : BD k_l_markBlockS_2.2) := rounds (env (true, true, []) l_l_markBlockS) kp_l_markBlockS (body Tryz.f13) (finX (true, true, []) l_l_markBlockS [none] Tryz.f13 (shO (shV tInt) [.io uIBlock]) [AP.enc (.io uIBlock) [], AP.enc (.ro tInt) (zeroD tInt)]) n 2 k_l_markBlockS_2 x y
noncomputable def R_l_markBlockS_2 (n : Nat) (s1 : Int) (s5 : Int) (b0 : (List DIBlock)) : Option (Int × DSlIBlock × Unit) := r_l_markBlockS_2 n (s1, s5, ()) (b0, ())
theorem Q_l_markBlockS_eq (n : Nat) (a0 : DSlIBlock) (a1 : Int) : Q_l_markBlockS n a0 a1 =
    R_l_markBlockS_2 n a1 (0 : Int) a0 := by kernel_rfl
theorem R_l_markBlockS_2_eq (n : Nat) (s1 : Int) (s5 : Int) (b0 : (List DIBlock)) : R_l_markBlockS_2 (n + 1) s1 s5 b0 =
    bif decide (s5 < (↑b0.length : Int)) then
 if (0 : Int) ≤ s5 then
 if s5 < (↑b0.length : Int) then
 (nth b0 s5.toNat).bind fun y =>
 (updO b0 s5.toNat (s1, y.snd)).bind fun y =>
 if (0 : Int) ≤ s5 then
 if s5 < (↑y.length : Int) then
 (nth y s5.toNat).bind fun y_1 =>
 (updO y s5.toNat (y_1.fst, IntKind.i64.wrap (s1 + (1 : Int)), y_1.snd.snd)).bind fun y =>
 if (0 : Int) ≤ s5 then
 if s5 < (↑y.length : Int) then
 (nth y s5.toNat).bind fun y_2 =>
 (Q_l_markCmdS big y_2.snd.snd.fst
 (IntKind.i64.wrap (IntKind.i64.wrap (s1 + (1 : Int)) + (1 : Int)))).bind
 fun y_3 =>
 (updO y s5.toNat (y_2.fst, y_2.snd.fst, y_3.snd.fst, y_2.snd.snd.snd)).bind fun y =>
 if (0 : Int) ≤ s5 then
 if s5 < (↑y.length : Int) then
 (nth y s5.toNat).bind fun y_4 =>
 (updO y s5.toNat
 (y_4.fst, y_4.snd.fst, y_4.snd.snd.fst, (y_3.fst, y_4.snd.snd.snd.fst.snd),
 ())).bind
 fun y =>
 if (0 : Int) ≤ s5 then
 if s5 < (↑y.length : Int) then
 (nth y s5.toNat).bind fun y_5 =>
 (updO y s5.toNat
 (y_5.fst, y_5.snd.fst, y_5.snd.snd.fst,
 (y_5.snd.snd.snd.fst.fst, IntKind.i64.wrap (y_3.fst + (1 : Int)),
 y_5.snd.snd.snd.fst.snd.snd),
 ())).bind
 fun y =>
 if (0 : Int) ≤ s5 then
 if s5 < (↑y.length : Int) then
 (nth y s5.toNat).bind fun y_6 =>
 (updO y s5.toNat
 (y_6.fst, y_6.snd.fst, y_6.snd.snd.fst,
 (y_6.snd.snd.snd.fst.fst, y_6.snd.snd.snd.fst.snd.fst,
 IntKind.i64.wrap
 (IntKind.i64.wrap (y_3.fst + (1 : Int)) + (1 : Int)),
 y_6.snd.snd.snd.fst.snd.snd.snd),
 ())).bind
 fun y =>
 if (0 : Int) ≤ s5 then
 if s5 < (↑y.length : Int) then
 (nth y s5.toNat).bind fun y_7 =>
 (updO y s5.toNat
 (y_7.fst, y_7.snd.fst, y_7.snd.snd.fst,
 (y_7.snd.snd.snd.fst.fst,
 y_7.snd.snd.snd.fst.snd.fst,
 y_7.snd.snd.snd.fst.snd.snd.fst,
 IntKind.i64.wrap
 (IntKind.i64.wrap
 (IntKind.i64.wrap (y_3.fst + (1 : Int)) +
 (1 : Int)) +
 (1 : Int)),
 ()),
 ())).bind
 fun y =>
 R_l_markBlockS_2 n
 (IntKind.i64.wrap
 (IntKind.i64.wrap
 (IntKind.i64.wrap
 (IntKind.i64.wrap (y_3.fst + (1 : Int)) +
 (1 : Int)) +
 (1 : Int)) +
 (1 : Int)))
 (IntKind.i64.wrap (s5 + (1 : Int))) y
 else none
 else none
 else none
 else none
 else none
 else none
 else none
 else none
 else none
 else none
 else none
 else none
 else none
 else none
 else some (s1, b0, PUnit.unit) := by kernel_rfl

end Go.Sx.Tryz

set_option maxRecDepth 100000
namespace Go.Sx.Tryz
open Go Go.Sx Go.Proofs

noncomputable def l_i_in : List (Nat × Con) := []
theorem l_i_in_ok : ∀ q ∈ l_i_in, ConOk Tryz.prog q.1 q.2 := Tryz.cons_nil
def kp_i_in : KP := []
noncomputable def q_i_in (n : Nat) (x : Args [tInt, tInt, tInt]) := evX (false, false, []) l_i_in kp_i_in [none] Tryz.f88 (shV tBool) n (encA [tInt, tInt, tInt] x)
noncomputable def c_i_in : Con := roS [tInt, tInt, tInt] true (shV tBool) (q_i_in big)
theorem c_i_in_ok : ConOk Tryz.prog 88 c_i_in := roS_ok ⟨Tryz.f88, by kernel_rfl, rfl, by decide⟩ fun _ _ h => evX_ok l_i_in_ok (f := Tryz.f88) (by kernel_rfl) rfl (by kernel_rfl) (by kernel_rfl) big h
noncomputable def Q_i_in (n : Nat) (a0 : Int) (a1 : Int) (a2 : Int) : Option Bool := q_i_in n (a0, a1, a2, ())
theorem Q_i_in_eq (n : Nat) (a0 : Int) (a1 : Int) (a2 : Int) : Q_i_in n a0 a1 a2 =
    bif decide (a1 ≤ a0) then some (decide (a0 ≤ a2)) else some false := by kernel_rfl

end Go.Sx.Tryz

set_option maxRecDepth 100000
namespace Go.Sx.Tryz
open Go Go.Sx Go.Proofs

noncomputable def l_i_KeyOk : List (Nat × Con) := [(88, c_i_in)]
theorem l_i_KeyOk_ok : ∀ q ∈ l_i_KeyOk, ConOk Tryz.prog q.1 q.2 := Tryz.cons_cons c_i_in_ok (Tryz.cons_nil)
abbrev k_i_KeyOk_2 : List Keep × List BK := ([.ro tString, .drop, .drop, .drop, .drop, .ro tInt64, .ro tInt64, .drop, .drop, .drop, .drop, .drop, .drop, .drop, .drop, .drop, .drop, .drop, .drop, .drop, .drop, .drop, .drop], [])
def kp_i_KeyOk : KP := [(2, k_i_KeyOk_2)]
noncomputable def q_i_KeyOk (n : Nat) (x : Args [tString]) := evX (false, false, []) l_i_KeyOk kp_i_KeyOk [none] Tryz.f112 (shV tBool) n (encA [tString] x)
noncomputable def c_i_KeyOk : Con := roS [tString] true (shV tBool) (q_i_KeyOk big)
theorem c_i_KeyOk_ok : ConOk Tryz.prog 112 c_i_KeyOk := roS_ok ⟨Tryz.f112, by kernel_rfl, rfl, by decide⟩ fun _ _ h => evX_ok l_i_KeyOk_ok (f := Tryz.f112) (by kernel_rfl) rfl (by kernel_rfl) (by kernel_rfl) big h
noncomputable def Q_i_KeyOk (n : Nat) (a0 : ByteArray) : Option Bool := q_i_KeyOk n (a0, ())
noncomputable def r_i_KeyOk_2 (n : Nat) (x : KD k_i_KeyOk_2.1) (y : BD k_i_KeyOk_2.2) := rounds (env (false, false, []) l_i_KeyOk) kp_i_KeyOk (body Tryz.f112) (finX (false, false, []) l_i_KeyOk [none] Tryz.f112 (shV tBool) [.val tString (zeroD tString)]) n 2 k_i_KeyOk_2 x y
noncomputable def R_i_KeyOk_2 (n : Nat) (s0 : ByteArray) (s5 : Int) (s6 : Int) : Option Bool := r_i_KeyOk_2 n (s0, s5, s6, ()) ()
theorem Q_i_KeyOk_eq (n : Nat) (a0 : ByteArray) : Q_i_KeyOk n a0 =
    R_i_KeyOk_2 n a0 (↑a0.size : Int) (0 : Int) := by kernel_rfl
theorem R_i_KeyOk_2_eq (n : Nat) (s0 : ByteArray) (s5 : Int) (s6 : Int) : R_i_KeyOk_2 (n + 1) s0 s5 s6 =
    bif decide (s6 < s5) then
 if (0 : Int) ≤ s6 then
 (nth s0.data.toList s6.toNat).bind fun y =>
 bif decide ((↑y.toNat : Int) < (97 : Int)) then some false
 else
 if (0 : Int) ≤ s6 then
 (nth s0.data.toList s6.toNat).bind fun y =>
 bif decide ((122 : Int) < (↑y.toNat : Int)) then some false
 else R_i_KeyOk_2 n s0 s5 (IntKind.i64.wrap (s6 + (1 : Int)))
 else none
 else none
 else (Q_i_in big (↑s0.size : Int) (1 : Int) (3 : Int)).bind fun y => some y := by kernel_rfl

end Go.Sx.Tryz

set_option maxRecDepth 100000
namespace Go.Sx.Tryz
open Go Go.Sx Go.Proofs

noncomputable def l_i_isNum : List (Nat × Con) := [(88, c_i_in)]
theorem l_i_isNum_ok : ∀ q ∈ l_i_isNum, ConOk Tryz.prog q.1 q.2 := Tryz.cons_cons c_i_in_ok (Tryz.cons_nil)
def kp_i_isNum : KP := []
noncomputable def q_i_isNum (n : Nat) (x : Args [tInt]) := evX (false, false, []) l_i_isNum kp_i_isNum [none] Tryz.f113 (shV tBool) n (encA [tInt] x)
noncomputable def c_i_isNum : Con := roS [tInt] true (shV tBool) (q_i_isNum big)
theorem c_i_isNum_ok : ConOk Tryz.prog 113 c_i_isNum := roS_ok ⟨Tryz.f113, by kernel_rfl, rfl, by decide⟩ fun _ _ h => evX_ok l_i_isNum_ok (f := Tryz.f113) (by kernel_rfl) rfl (by kernel_rfl) (by kernel_rfl) big h
noncomputable def Q_i_isNum (n : Nat) (a0 : Int) : Option Bool := q_i_isNum n (a0, ())
theorem Q_i_isNum_eq (n : Nat) (a0 : Int) : Q_i_isNum n a0 =
    (Q_i_in big a0 (0 : Int) (1000000000 : Int)).bind fun y => some y := by kernel_rfl

end Go.Sx.Tryz

set_option maxRecDepth 100000
namespace Go.Sx.Tryz
open Go Go.Sx Go.Proofs

noncomputable def l_i_cellsForm : List (Nat × Con) := [(112, c_i_KeyOk), (113, c_i_isNum)]
theorem l_i_cellsForm_ok : ∀ q ∈ l_i_cellsForm, ConOk Tryz.prog q.1 q.2 := Tryz.cons_cons c_i_KeyOk_ok (Tryz.cons_cons c_i_isNum_ok (Tryz.cons_nil))
abbrev k_i_cellsForm_2 : List Keep × List BK := ([.ro tSlLCell, .drop, .drop, .drop, .drop, .ro tSlLCell, .ro tInt64, .ro tInt64, .drop, .drop, .drop, .drop, .drop, .drop, .drop, .drop, .drop, .drop, .drop, .drop, .drop, .drop, .drop, .drop, .drop, .drop, .drop, .drop, .drop, .drop, .drop, .drop, .drop, .drop, .drop, .drop, .drop, .drop], [])
def kp_i_cellsForm : KP := [(2, k_i_cellsForm_2)]
noncomputable def q_i_cellsForm (n : Nat) (x : Args [tSlICell]) := evX (false, false, [4, 12, 17, 32]) l_i_cellsForm kp_i_cellsForm [none] Tryz.f116 (shV tBool) n (encA [tSlICell] x)
noncomputable def c_i_cellsForm : Con := roS [tSlICell] true (shV tBool) (q_i_cellsForm big)
theorem c_i_cellsForm_ok : ConOk Tryz.prog 116 c_i_cellsForm := roS_ok ⟨Tryz.f116, by kernel_rfl, rfl, by decide⟩ fun _ _ h => evX_ok l_i_cellsForm_ok (f := Tryz.f116) (by kernel_rfl) rfl (by kernel_rfl) (by kernel_rfl) big h
noncomputable def Q_i_cellsForm (n : Nat) (a0 : DSlICell) : Option Bool := q_i_cellsForm n (a0, ())
noncomputable def r_i_cellsForm_2 (n : Nat) (x : KD k_i_cellsForm_2.1) (y : BD k_i_cellsForm_2.2) := rounds (env (false, false, [4, 12, 17, 32]) l_i_cellsForm) kp_i_cellsForm (body Tryz.f116) (finX (false, false, [4, 12, 17, 32]) l_i_cellsForm [none] Tryz.f116 (shV tBool) [.val tSlICell (zeroD tSlICell)]) n 2 k_i_cellsForm_2 x y
noncomputable def R_i_cellsForm_2 (n : Nat) (s0 : DSlLCell) (s5 : DSlLCell) (s6 : Int) (s7 : Int) : Option Bool := r_i_cellsForm_2 n (s0, s5, s6, s7, ()) ()
theorem Q_i_cellsForm_eq (n : Nat) (a0 : DSlICell) : Q_i_cellsForm n a0 =
    R_i_cellsForm_2 n a0 a0 (↑(List.length a0) : Int) (0 : Int) := by kernel_rfl
theorem R_i_cellsForm_2_eq (n : Nat) (s0 : DSlLCell) (s5 : DSlLCell) (s6 : Int) (s7 : Int) : R_i_cellsForm_2 (n + 1) s0 s5 s6 s7 =
    bif decide (s7 < s6) then
 if (0 : Int) ≤ s7 then
 (nth s5 s7.toNat).bind fun y =>
 (Q_i_KeyOk big y.fst).bind fun y_1 =>
 bif !y_1 then some false
 else
 (Q_i_isNum big y.snd.fst).bind fun y_2 =>
 bif !y_2 then some false
 else
 bif decide ((0 : Int) < s7) then
 if (0 : Int) ≤ IntKind.i64.wrap (s7 - (1 : Int)) then
 (nth s0 (IntKind.i64.wrap (s7 - (1 : Int))).toNat).bind fun y_3 =>
 bif !Op.bytesLess (ByteArray.toList y_3.fst) (ByteArray.toList y.fst) then some false
 else R_i_cellsForm_2 n s0 s5 s6 (IntKind.i64.wrap (s7 + (1 : Int)))
 else none
 else R_i_cellsForm_2 n s0 s5 s6 (IntKind.i64.wrap (s7 + (1 : Int)))
 else none
 else some true := by kernel_rfl

end Go.Sx.Tryz

set_option maxRecDepth 100000
namespace Go.Sx.Tryz
open Go Go.Sx Go.Proofs

noncomputable def l_i_CellsOk : List (Nat × Con) := [(116, c_i_cellsForm)]
theorem l_i_CellsOk_ok : ∀ q ∈ l_i_CellsOk, ConOk Tryz.prog q.1 q.2 := Tryz.cons_cons c_i_cellsForm_ok (Tryz.cons_nil)
def kp_i_CellsOk : KP := []
noncomputable def q_i_CellsOk (n : Nat) (x : Args [tSlICell]) := evX (false, false, []) l_i_CellsOk kp_i_CellsOk [none] Tryz.f106 (shV tBool) n (encA [tSlICell] x)
noncomputable def c_i_CellsOk : Con := roS [tSlICell] true (shV tBool) (q_i_CellsOk big)
theorem c_i_CellsOk_ok : ConOk Tryz.prog 106 c_i_CellsOk := roS_ok ⟨Tryz.f106, by kernel_rfl, rfl, by decide⟩ fun _ _ h => evX_ok l_i_CellsOk_ok (f := Tryz.f106) (by kernel_rfl) rfl (by kernel_rfl) (by kernel_rfl) big h
noncomputable def Q_i_CellsOk (n : Nat) (a0 : DSlICell) : Option Bool := q_i_CellsOk n (a0, ())
theorem Q_i_CellsOk_eq (n : Nat) (a0 : DSlICell) : Q_i_CellsOk n a0 =
    bif decide ((↑(List.length a0) : Int) ≤ (12 : Int)) then (Q_i_cellsForm big a0).bind fun y => some y
 else some false := by kernel_rfl

end Go.Sx.Tryz

set_option maxRecDepth 100000
namespace Go.Sx.Tryz
open Go Go.Sx Go.Proofs

noncomputable def l_i_CmdOk : List (Nat × Con) := [(88, c_i_in), (112, c_i_KeyOk), (113, c_i_isNum)]
theorem l_i_CmdOk_ok : ∀ q ∈ l_i_CmdOk, ConOk Tryz.prog q.1 q.2 := Tryz.cons_cons c_i_in_ok (Tryz.cons_cons c_i_KeyOk_ok (Tryz.cons_cons c_i_isNum_ok (Tryz.cons_nil)))
def kp_i_CmdOk : KP := []
noncomputable def q_i_CmdOk (n : Nat) (x : Args [tICmd]) := evX (false, false, [1, 3, 7, 12]) l_i_CmdOk kp_i_CmdOk [none] Tryz.f107 (shV tBool) n (encA [tICmd] x)
noncomputable def c_i_CmdOk : Con := roS [tICmd] true (shV tBool) (q_i_CmdOk big)
theorem c_i_CmdOk_ok : ConOk Tryz.prog 107 c_i_CmdOk := roS_ok ⟨Tryz.f107, by kernel_rfl, rfl, by decide⟩ fun _ _ h => evX_ok l_i_CmdOk_ok (f := Tryz.f107) (by kernel_rfl) rfl (by kernel_rfl) (by kernel_rfl) big h
noncomputable def Q_i_CmdOk (n : Nat) (a0 : DICmd) : Option Bool := q_i_CmdOk n (a0, ())
theorem Q_i_CmdOk_eq (n : Nat) (a0 : DICmd) : Q_i_CmdOk n a0 =
    (Q_i_in big a0.fst (1 : Int) (3 : Int)).bind fun y =>
 bif y then
 (Q_i_KeyOk big a0.snd.fst).bind fun y =>
 bif y then (Q_i_isNum big a0.snd.snd.fst).bind fun y => some y else some false
 else some false := by kernel_rfl

end Go.Sx.Tryz

set_option maxRecDepth 100000
namespace Go.Sx.Tryz
open Go Go.Sx Go.Proofs

noncomputable def l_i_CellAt_1 : List (Nat × Con) := []
theorem l_i_CellAt_1_ok : ∀ q ∈ l_i_CellAt_1, ConOk Tryz.prog q.1 q.2 := Tryz.cons_nil
def kp_i_CellAt_1 : KP := []
noncomputable def q_i_CellAt_1 (n : Nat) (x : AP.denL [.ro tICell, .mr tString]) := evX (false, false, [1, 2, 4]) l_i_CellAt_1 kp_i_CellAt_1 [none] Tryz.f118 (shO (shV tBool) [.mr tString]) n (AP.encL [.ro tICell, .mr tString] x)
noncomputable def c_i_CellAt_1 : Con := apS [.ro tICell, .mr tString] true (shO (shV tBool) [.mr tString]) (q_i_CellAt_1 big)
theorem c_i_CellAt_1_ok : ConOk Tryz.prog 118 c_i_CellAt_1 := apS_ok ⟨Tryz.f118, by kernel_rfl, rfl, by decide⟩ fun _ _ h => evX_ok l_i_CellAt_1_ok (f := Tryz.f118) (by kernel_rfl) rfl (by kernel_rfl) (by kernel_rfl) big h
noncomputable def Q_i_CellAt_1 (n : Nat) (a0 : DICell) (a1 : ByteArray) : Option (Bool × ByteArray × Unit) := q_i_CellAt_1 n (a0, a1, ())
theorem Q_i_CellAt_1_eq (n : Nat) (a0 : DICell) (a1 : ByteArray) : Q_i_CellAt_1 n a0 a1 =
    some (decide (a0.fst = a1), a1, PUnit.unit) := by kernel_rfl

end Go.Sx.Tryz

set_option maxRecDepth 100000
namespace Go.Sx.Tryz
open Go Go.Sx Go.Proofs

noncomputable def l_g_IndexFunc_ICell__i_CellAt_1 : List (Nat × Con) := [(118, c_i_CellAt_1)]
theorem l_g_IndexFunc_ICell__i_CellAt_1_ok : ∀ q ∈ l_g_IndexFunc_ICell__i_CellAt_1, ConOk Tryz.prog q.1 q.2 := Tryz.cons_cons c_i_CellAt_1_ok (Tryz.cons_nil)
abbrev k_g_IndexFunc_ICell__i_CellAt_1_2 : List Keep × List BK := ([.ro tSlLCell, .is (.fn 118 [.ptr 0 0]), .drop, .drop, .drop, .drop, .drop, .ro tInt64, .ro tInt64, .drop, .drop, .drop, .drop, .drop, .drop, .drop, .drop, .drop, .drop], [.vars [.ro tString]])
def kp_g_IndexFunc_ICell__i_CellAt_1 : KP := [(2, k_g_IndexFunc_ICell__i_CellAt_1_2)]
noncomputable def q_g_IndexFunc_ICell__i_CellAt_1 (n : Nat) (x : AP.denL [.ro tSlICell, .fn 118 [tString]]) := evX (false, false, []) l_g_IndexFunc_ICell__i_CellAt_1 kp_g_IndexFunc_ICell__i_CellAt_1 [none] Tryz.f117 (shO (shV tInt) [.fn 118 [tString]]) n (AP.encL [.ro tSlICell, .fn 118 [tString]] x)
noncomputable def c_g_IndexFunc_ICell__i_CellAt_1 : Con := apS [.ro tSlICell, .fn 118 [tString]] true (shO (shV tInt) [.fn 118 [tString]]) (q_g_IndexFunc_ICell__i_CellAt_1 big)
theorem c_g_IndexFunc_ICell__i_CellAt_1_ok : ConOk Tryz.prog 117 c_g_IndexFunc_ICell__i_CellAt_1 := apS_ok ⟨Tryz.f117, by kernel_rfl, rfl, by decide⟩ fun _ _ h => evX_ok l_g_IndexFunc_ICell__i_CellAt_1_ok (f := Tryz.f117) (by kernel_rfl) rfl (by kernel_rfl) (by kernel_rfl) big h
noncomputable def Q_g_IndexFunc_ICell__i_CellAt_1 (n : Nat) (a0 : DSlICell) (a1 : (ByteArray × Unit)) : Option (Int × (ByteArray × Unit) × Unit) := q_g_IndexFunc_ICell__i_CellAt_1 n (a0, a1, ())
noncomputable def r_g_IndexFunc_ICell__i_CellAt_1_2 (n : Nat) (x : KD k_g_IndexFunc_ICell__i_CellAt_1_2.1) (y : BD k_g_IndexFunc_ICell__i_CellAt_1_2.2) := rounds (env (false, false, []) l_g_IndexFunc_ICell__i_CellAt_1) kp_g_IndexFunc_ICell__i_CellAt_1 (body Tryz.f117) (finX (false, false, []) l_g_IndexFunc_ICell__i_CellAt_1 [none] Tryz.f117 (shO (shV tInt) [.fn 118 [tString]]) [AP.enc (.ro tSlICell) (zeroD tSlICell), AP.enc (.fn 118 [tString]) (zeroD tString, ())]) n 2 k_g_IndexFunc_ICell__i_CellAt_1_2 x y
noncomputable def R_g_IndexFunc_ICell__i_CellAt_1_2 (n : Nat) (s0 : DSlLCell) (s7 : Int) (s8 : Int) (b0_0 : ByteArray) : Option (Int × (ByteArray × Unit) × Unit) := r_g_IndexFunc_ICell__i_CellAt_1_2 n (s0, s7, s8, ()) ((b0_0, ()), ())
theorem Q_g_IndexFunc_ICell__i_CellAt_1_eq (n : Nat) (a0 : DSlICell) (a1 : (ByteArray × Unit)) : Q_g_IndexFunc_ICell__i_CellAt_1 n a0 a1 =
    R_g_IndexFunc_ICell__i_CellAt_1_2 n a0 (↑(List.length a0) : Int) (0 : Int) a1.fst := by kernel_rfl
theorem R_g_IndexFunc_ICell__i_CellAt_1_2_eq (n : Nat) (s0 : DSlLCell) (s7 : Int) (s8 : Int) (b0_0 : ByteArray) : R_g_IndexFunc_ICell__i_CellAt_1_2 (n + 1) s0 s7 s8 b0_0 =
    bif decide (s8 < s7) then
 if (0 : Int) ≤ s8 then
 (nth s0 s8.toNat).bind fun y =>
 bif decide (y.fst = b0_0) then some (s8, (b0_0, PUnit.unit), PUnit.unit)
 else R_g_IndexFunc_ICell__i_CellAt_1_2 n s0 s7 (IntKind.i64.wrap (s8 + (1 : Int))) b0_0
 else none
 else some ((-1 : Int), (b0_0, PUnit.unit), PUnit.unit) := by kernel_rfl

end Go.Sx.Tryz

set_option maxRecDepth 100000
namespace Go.Sx.Tryz
open Go Go.Sx Go.Proofs

noncomputable def l_i_CellAt : List (Nat × Con) := [(117, c_g_IndexFunc_ICell__i_CellAt_1)]
theorem l_i_CellAt_ok : ∀ q ∈ l_i_CellAt, ConOk Tryz.prog q.1 q.2 := Tryz.cons_cons c_g_IndexFunc_ICell__i_CellAt_1_ok (Tryz.cons_nil)
def kp_i_CellAt : KP := []
noncomputable def q_i_CellAt (n : Nat) (x : Args [tSlICell, tString]) := evX (false, false, []) l_i_CellAt kp_i_CellAt [none] Tryz.f108 (shV tInt) n (encA [tSlICell, tString] x)
noncomputable def c_i_CellAt : Con := roS [tSlICell, tString] true (shV tInt) (q_i_CellAt big)
theorem c_i_CellAt_ok : ConOk Tryz.prog 108 c_i_CellAt := roS_ok ⟨Tryz.f108, by kernel_rfl, rfl, by decide⟩ fun _ _ h => evX_ok l_i_CellAt_ok (f := Tryz.f108) (by kernel_rfl) rfl (by kernel_rfl) (by kernel_rfl) big h
noncomputable def Q_i_CellAt (n : Nat) (a0 : DSlICell) (a1 : ByteArray) : Option Int := q_i_CellAt n (a0, a1, ())
theorem Q_i_CellAt_eq (n : Nat) (a0 : DSlICell) (a1 : ByteArray) : Q_i_CellAt n a0 a1 =
    (Q_g_IndexFunc_ICell__i_CellAt_1 big a0 (a1, ())).bind fun y => some y.fst := by kernel_rfl

end Go.Sx.Tryz

set_option maxRecDepth 100000
namespace Go.Sx.Tryz
section
open Go Go.Proofs Go.Shelf Go.RowKit Go.Lib

theorem run_copy {P : Program} {t t' e ty : TypeId} {inf : TypeInfo} (ht : P.underlying t = some (.slice e)) (hi : P.info? e = some inf) {A : Addr} {dl dc : Nat} {src : Value} {m k : Nat} {cells : List Value} {w w' : World}
    (hl : (Builtin.lenOf src).run P w = .ok m w) (hk : Nat.min m dl = k) (hc : (Builtin.firstCells inf.size k src).run P w = .ok cells.toArray w) (hs : (storeCells A cells).run P w = .ok () w') :
    (Builtin.copy_ #[t, t'] ty #[.slice (some A) dl dc, src]).run P w = .ok (goInt k) w' := by
  unfold Builtin.copy_
  simp only [List.getElem?_toArray, List.getElem?_cons_zero, List.getElem?_cons_succ]
  rw [Sx.run_bind_ok (Sx.run_underlying ht)]
  dsimp only
  rw [Sx.run_bind_ok hl, hk, Sx.run_bind_ok (Sx.run_sizeOf hi), Sx.run_bind_ok hc]
  dsimp only
  rw [Sx.run_bind_ok hs]
  rfl

theorem t27 : Tryz.prog.underlying 38 = some (.slice 111) := by kernel_rfl
theorem t3 : Tryz.prog.underlying 3 = some (.int .i64) := by kernel_rfl
theorem t4 : Tryz.prog.underlying 4 = some .bool := by kernel_rfl
theorem i161 : (Tryz.prog.info? 111).map (fun i => (i.size, i.bytes)) = some (2, 24) := by kernel_rfl
theorem fInsA : Tryz.prog.funcs[119]? = some Tryz.f119 := by kernel_rfl
theorem nIns : Tryz.f119.ntmps = 95 := by kernel_rfl
theorem fOvA : Tryz.prog.funcs[120]? = some Tryz.f120 := by kernel_rfl

set_option maxHeartbeats 4000000 in
theorem ins_shift (b off n c i vb voff vc : Nat) (w W1 W2 : World) (hi : i < n) (hlim : n + 1 ≤ 4294967296) (hroom : n + 1 ≤ c)
    (hov : ∀ lb cb, (callFunc 120 #[.slice (some ⟨vb, voff, none⟩) 1 vc, .slice (some ⟨b, off + (i + 1) * 2, none⟩) lb cb]).run Tryz.prog w = .ok (.value (.bool false)) w)
    (hcp1 : ∀ ty dc sc, (Builtin.copy_ #[38, 38] ty #[.slice (some ⟨b, off + (i + 1) * 2, none⟩) (n - i) dc, .slice (some ⟨b, off + i * 2, none⟩) (n + 1 - i) sc]).run Tryz.prog w.drew = .ok (goInt ((n - i : Nat) : Int)) W1)
    (hcp2 : ∀ ty dc, (Builtin.copy_ #[38, 38] ty #[.slice (some ⟨b, off + i * 2, none⟩) (n + 1 - i) dc, .slice (some ⟨vb, voff, none⟩) 1 vc]).run Tryz.prog W1 = .ok (goInt 1) W2) :
    Calls Tryz.prog 119 #[.slice (some ⟨b, off, none⟩) n c, .int .i64 i, .slice (some ⟨vb, voff, none⟩) 1 vc] w fun e w' =>
      e = .returned (.slice (some ⟨b, off, none⟩) (n + 1) c) ∧ w' = W2 := by
  have u27 : ∀ w, (underlying 38).run Tryz.prog w = .ok (.slice 111) w := fun w => Sx.run_underlying t27
  have u3 : ∀ w, (underlying 3).run Tryz.prog w = .ok (.int .i64) w := fun w => Sx.run_underlying t3
  have u4 : ∀ w, (underlying 4).run Tryz.prog w = .ok .bool w := fun w => Sx.run_underlying t4
  have z161 : ∀ w, (Go.sizeOf 111).run Tryz.prog w = .ok 2 w := by
    intro w
    obtain ⟨inf, h1, h2⟩ : ∃ inf, Tryz.prog.info? 111 = some inf ∧ inf.size = 2 := by
      have := i161
      cases h : Tryz.prog.info? 111 with
      | none => rw [h] at this; cases this
      | some x => rw [h] at this; simp at this; exact ⟨x, rfl, this.1⟩
    rw [Sx.run_sizeOf h1, h2]
  have t27' := t27
  have mixed : Tryz.prog.follows .mixedOrders = true := by kernel_rfl
  have hz2 : ¬ ((i : Int) = (n : Int)) := by omega
  have hw1 : IntKind.i64.wrap ((i : Int) + 1) = (i : Int) + 1 := by rw [IntKind.wrap_i64]; omega
  have hb1 : (0 : Int) ≤ (i : Int) + 1 := by omega
  have hin : i ≤ n := by omega
  have htn : ((i : Int) + 1).toNat = i + 1 := by omega
  have hb2 : ¬ (c = i + 1) := by omega
  have hb3 : (i : Int) ≤ (n : Int) + 1 := by omega
  have hb4 : ¬ (c = i) := by omega
  go_enter fInsA, nIns
  go_wp2_with (simp only [hov])
  go_region_law_o (refine step_copy_runI rfl _ _ 38 38 rfl _ _ (by simp [Act.eval, Act.put]) (by simp [Act.eval, Act.put]) (hcp1 _ _ _) ?_)
  go_wp2_with (at_builtin; refine wpList_copy_runI _ rfl _ _ 38 38 rfl _ _ rfl rfl (hcp2 _ _) ?_)
  go_ret
  exact ⟨rfl, rfl⟩

set_option maxHeartbeats 4000000 in
theorem ins_grow (b off n c i vb voff vc nb G : Nat) (w W1 W2 W3 : World) (hi : i < n) (hlim : n + 1 ≤ 4294967296) (hnc : n ≤ c) (hroom : c < n + 1) (hG : n + 1 ≤ G)
    (hap : ∀ ty, (Builtin.append_ #[38, 3] ty #[.slice (some ⟨b, off, none⟩) i c, .int .i64 ((n : Int) + 1 - (i : Int))]).run Tryz.prog w = .ok (.slice (some ⟨nb, 0, none⟩) (n + 1) G) W1)
    (hcA : ∀ ty dc, (Builtin.copy_ #[38, 38] ty #[.slice (some ⟨nb, i * 2, none⟩) (n + 1 - i) dc, .slice (some ⟨vb, voff, none⟩) 1 vc]).run Tryz.prog W1 = .ok (goInt 1) W2)
    (hcB : ∀ ty dc sc, (Builtin.copy_ #[38, 38] ty #[.slice (some ⟨nb, (i + 1) * 2, none⟩) (n - i) dc, .slice (some ⟨b, off + i * 2, none⟩) (n - i) sc]).run Tryz.prog W2.drew = .ok (goInt ((n - i : Nat) : Int)) W3) :
    Calls Tryz.prog 119 #[.slice (some ⟨b, off, none⟩) n c, .int .i64 i, .slice (some ⟨vb, voff, none⟩) 1 vc] w fun e w' =>
      e = .returned (.slice (some ⟨nb, 0, none⟩) (n + 1) G) ∧ w' = W3 := by
  have u27 : ∀ w, (underlying 38).run Tryz.prog w = .ok (.slice 111) w := fun w => Sx.run_underlying t27
  have u3 : ∀ w, (underlying 3).run Tryz.prog w = .ok (.int .i64) w := fun w => Sx.run_underlying t3
  have u4 : ∀ w, (underlying 4).run Tryz.prog w = .ok .bool w := fun w => Sx.run_underlying t4
  have z161 : ∀ w, (Go.sizeOf 111).run Tryz.prog w = .ok 2 w := by
    intro w
    obtain ⟨inf, h1, h2⟩ : ∃ inf, Tryz.prog.info? 111 = some inf ∧ inf.size = 2 := by
      have := i161
      cases h : Tryz.prog.info? 111 with
      | none => rw [h] at this; cases this
      | some x => rw [h] at this; simp at this; exact ⟨x, rfl, this.1⟩
    rw [Sx.run_sizeOf h1, h2]
  have t27' := t27
  have mixed : Tryz.prog.follows .mixedOrders = true := by kernel_rfl
  have hz2 : ¬ ((i : Int) = (n : Int)) := by omega
  have hz3 : (c : Int) < (n : Int) + 1 := by omega
  have hw1 : IntKind.i64.wrap ((i : Int) + 1) = (i : Int) + 1 := by rw [IntKind.wrap_i64]; omega
  have hb1 : (0 : Int) ≤ (i : Int) + 1 := by omega
  have hin : i ≤ n := by omega
  have htn : ((i : Int) + 1).toNat = i + 1 := by omega
  have hGi : ¬ (G = i) := by omega
  have hGim : ¬ (G = i + 1) := by omega
  have hci : ¬ (c = i) := by omega
  have hb3 : (i : Int) ≤ (n : Int) := by omega
  go_enter fInsA, nIns
  go_wp2_with (first
    | (at_builtin; refine Lib.wpList_append_run _ rfl _ _ _ _ rfl _ _ rfl rfl _ _ (hap _) ?_)
    | (at_builtin; refine wpList_copy_runI _ rfl _ _ 38 38 rfl _ _ rfl rfl (hcA _ _) ?_))
  go_region_law_o (refine step_copy_runI rfl _ _ 38 38 rfl _ _ (by simp [Act.eval, Act.put]) (by simp [Act.eval, Act.put]) (hcB _ _ _) ?_)
  go_wp2
  go_ret
  exact ⟨rfl, rfl⟩

/-! ### Memory -/
theorem _root_.Go.Sx.BlockAt.pre {w : World} {A : Addr} {n : Nat} {cs : List Value} (h : Sx.BlockAt w A n cs) (k : Nat) : Sx.BlockAt w A n (cs.take k) := by
  obtain ⟨all, e, h1, h2, h3⟩ := h
  refine ⟨all, e, h1, h2, fun j c hj => ?_⟩
  rw [List.getElem?_take] at hj
  split at hj
  · exact h3 j c hj
  · cases hj
theorem _root_.Go.Sx.BlockAt.heap {w w' : World} {A : Addr} {n : Nat} {cs : List Value} (h : Sx.BlockAt w A n cs) (he : w'.heap[A.block]? = w.heap[A.block]?) : Sx.BlockAt w' A n cs := h.mono he

structure Stored (w w' : World) (b : Nat) : Prop where
  same : ∀ k, k ≠ b → w'.heap[k]? = w.heap[k]?
  size : w'.heap.size = w.heap.size
  frz : Sx.Frz w w'

theorem store_at {P : Program} {w : World} {ad : Addr} {N p : Nat} {cs ds : List Value} (all : List Value) (e : TypeId) (h1 : w.heap[ad.block]? = some (.cells all.toArray e (0, 0))) (h2 : ad.off + p + ds.length ≤ all.length)
    (h3 : Sx.BlockAt (Sx.setBlock w ad.block (.cells (Sx.put1 all (ad.off + p) ds).toArray e (0, 0))) ad N cs) (hone : ∀ c ∈ ds, Sx.one c = true) (hne : ds ≠ []) :
    ∃ w', (storeCells ⟨ad.block, ad.off + p, none⟩ ds).run P w = .ok () w' ∧ Sx.BlockAt w' ad N cs ∧ Stored w w' ad.block := by
  have hst := Sx.run_storeCells (P := P) (A := ⟨ad.block, ad.off + p, none⟩) rfl rfl ds 0 w all h1 (by simpa using h2) hone
  simp only [Nat.add_zero, if_neg hne] at hst
  exact ⟨_, hst, h3, fun k hk => Sx.setBlock_ne hk, Sx.setBlock_size, Sx.frz_set⟩
theorem store_more {P : Program} {w : World} {ad : Addr} {N : Nat} {cs ds : List Value} (h : Sx.BlockAt w ad N cs) (hf : cs.length + ds.length ≤ N) (hone : ∀ c ∈ ds, Sx.one c = true) (hne : ds ≠ []) :
    ∃ w', (storeCells ⟨ad.block, ad.off + cs.length, none⟩ ds).run P w = .ok () w' ∧ Sx.BlockAt w' ad N (cs ++ ds) ∧ Stored w w' ad.block := by
  obtain ⟨all, e, h1, h2, h3⟩ := h.more hf
  exact store_at all e h1 h2 h3 hone hne
theorem store_put {P : Program} {w : World} {ad : Addr} {N o : Nat} {cs ds : List Value} (h : Sx.BlockAt w ad N cs) (ho : o + ds.length ≤ cs.length) (hn : cs.length ≤ N) (hone : ∀ c ∈ ds, Sx.one c = true) (hne : ds ≠ []) :
    ∃ w', (storeCells ⟨ad.block, ad.off + o, none⟩ ds).run P w = .ok () w' ∧ Sx.BlockAt w' ad N (Sx.put1 cs o ds) ∧ Stored w w' ad.block := by
  obtain ⟨all, e, h1, h2, h3⟩ := h.put ho hn
  exact store_at all e h1 h2 h3 hone hne

theorem first_cells {P : Program} {w : World} {ad : Addr} {N len cap sz k : Nat} {cs ds : List Value} (h : Sx.BlockAt w ad N cs) (o : Nat) (hd : ds = (cs.drop o).take (k * sz)) (hl : ds.length = k * sz) :
    (Builtin.firstCells sz k (.slice (some ⟨ad.block, ad.off + o, none⟩) len cap)).run P w = .ok ds.toArray w := by
  have hr := (Sx.Reads.of_block h).part o (k * sz)
  rw [← hd] at hr
  exact Sx.run_loadCells (P := P) rfl hl hr

theorem inf161 : ∃ inf, Tryz.prog.info? 111 = some inf ∧ inf.size = 2 ∧ inf.bytes = 24 ∧ inf.zero = some (Sx.mkV tICell (Sx.zeroVals tICell)) := by
  have h1 : (Tryz.prog.info? 111).map (fun i => (i.size, i.bytes, i.zero)) = some (2, 24, some (Sx.mkV tICell (Sx.zeroVals tICell))) := by kernel_rfl
  cases h : Tryz.prog.info? 111 with
  | none => rw [h] at h1; cases h1
  | some x =>
    rw [h] at h1
    simp only [Option.map_some, Option.some.injEq, Prod.mk.injEq] at h1
    exact ⟨x, rfl, h1.1, h1.2.1, h1.2.2⟩

theorem put_mid {a d v : List Value} {i : Nat} (ha : a.length = (i + 1) * 2) (hv : v.length = 2) : Sx.put1 (a ++ d) (i * 2) v = a.take (i * 2) ++ (v ++ d) := by
  unfold Sx.put1
  rw [List.take_append_of_le_length (by omega), hv, show i * 2 + 2 = a.length by omega, List.drop_left, List.append_assoc]

set_option maxHeartbeats 4000000 in
/-- a cell put among others: in place, or in a new row -/
theorem ins_mem (w : World) (ad vad : Addr) (cap vcap n i : Nat) (inner V : List Value) (hs : ad.spot = none) (hvs : vad.spot = none) (hne : vad.block ≠ ad.block) (hb : Sx.BlockAt w ad (cap * 2) inner) (hv : Sx.BlockAt w vad (vcap * 2) V)
    (hil : inner.length = n * 2) (hvl : V.length = 2) (hi1 : ∀ c ∈ inner, Sx.one c = true) (hv1 : ∀ c ∈ V, Sx.one c = true) (hi : i < n) (hnc : n ≤ cap) (hlim : n + 1 ≤ 4294967296) :
    Calls Tryz.prog 119 #[.slice (some ad) n cap, .int .i64 i, .slice (some vad) 1 vcap] w fun e w' => ∃ (ad' : Addr) (cap' : Nat), e = .returned (.slice (some ad') (n + 1) cap') ∧ ad'.spot = none ∧ n + 1 ≤ cap' ∧
      (ad'.block = ad.block ∨ w.heap.size ≤ ad'.block) ∧ ad'.block < w'.heap.size ∧ Sx.BlockAt w' ad' (cap' * 2) (inner.take (i * 2) ++ (V ++ inner.drop (i * 2))) ∧ Sx.Kept w w' [ad.block] := by
  obtain ⟨b, off, sp⟩ := ad
  obtain ⟨vb, voff, vsp⟩ := vad
  dsimp only at hs hvs hne
  subst hs; subst hvs
  obtain ⟨inf, hinf, hsz, hby, hzero⟩ := inf161
  have hblt : b < w.heap.size := by
    obtain ⟨all, e, h1, _⟩ := hb
    exact (Array.getElem?_eq_some_iff.1 h1).1
  have hvne : V ≠ [] := fun e => by rw [e] at hvl; cases hvl
  have hDl : (inner.drop (i * 2)).length = (n - i) * 2 := by rw [List.length_drop, hil, Nat.sub_mul]
  have hDne : inner.drop (i * 2) ≠ [] := fun e => by rw [e] at hDl; simp at hDl; omega
  have hD1 : ∀ c ∈ inner.drop (i * 2), Sx.one c = true := fun c hc => hi1 c (List.mem_of_mem_drop hc)
  have hlen : ∀ (d : Nat), (Builtin.lenOf (.slice (some ⟨vb, voff, none⟩) 1 vcap)).run Tryz.prog w = .ok 1 w := fun _ => rfl
  have hDt : inner.drop (i * 2) = (inner.drop (i * 2)).take ((n - i) * 2) := by rw [List.take_of_length_le (Nat.le_of_eq hDl)]
  have hVt : V = (V.drop 0).take (1 * 2) := by rw [List.drop_zero, List.take_of_length_le (by omega)]
  have hTl : (inner.take ((i + 1) * 2)).length = (i + 1) * 2 := by rw [List.length_take, hil]; omega
  have hTl2 : (inner.take (i * 2)).length = i * 2 := by rw [List.length_take, hil]; omega
  by_cases hroom : n + 1 ≤ cap
  · -- there is room
    have hb0 : Sx.BlockAt w.drew ⟨b, off, none⟩ (cap * 2) inner := hb.heap rfl
    obtain ⟨W1, s1, s2, s3⟩ := store_more (P := Tryz.prog) (hb0.pre ((i + 1) * 2)) (ds := inner.drop (i * 2)) (by rw [hTl, hDl]; omega) hD1 hDne
    obtain ⟨W2, r1, r2, r3⟩ := store_put (P := Tryz.prog) (o := i * 2) (ds := V) s2 (by rw [List.length_append, hTl, hDl, hvl]; omega) (by rw [List.length_append, hTl, hDl]; omega) hv1 hvne
    rw [put_mid hTl hvl, List.take_take, Nat.min_eq_left (by omega)] at r2
    rw [hTl] at s1
    have hv2 : Sx.BlockAt W1 ⟨vb, voff, none⟩ (vcap * 2) V := hv.heap (s3.same vb hne)
    have hw := ins_shift b off n cap i vb voff vcap w W1 W2 hi hlim hroom (fun lb cb => ?_) (fun ty dc sc => ?_) (fun ty dc => ?_)
    · refine hw.mono ?_
      rintro e w' ⟨rfl, rfl⟩
      refine ⟨⟨b, off, none⟩, cap, rfl, rfl, hroom, .inl rfl, ?_, r2, ?_⟩
      · rw [r3.size, s3.size]; exact hblt
      · have k1 : Sx.Kept w w.drew [b] := ⟨Nat.le_refl _, fun _ _ _ => rfl, ⟨fun _ => .inl rfl, rfl, rfl⟩⟩
        have k2 : Sx.Kept w.drew W1 [b] := ⟨Nat.le_of_eq s3.size.symm, fun k _ hk => s3.same k (by simpa using hk), s3.frz⟩
        have k3 : Sx.Kept W1 w' [b] := ⟨Nat.le_of_eq r3.size.symm, fun k _ hk => r3.same k (by simpa using hk), r3.frz⟩
        exact (k1.trans k2 (fun k hk => .inl hk)).trans k3 (fun k hk => .inl hk)
    · rw [run_callFunc_extern fOvA (by kernel_rfl) (by kernel_rfl) (by kernel_rfl) (e := Extern.SlicesOverlaps.overlaps #[38, 38] #[4]) (by kernel_rfl)]
      obtain ⟨all, e, h1, h2, _⟩ := hb
      obtain ⟨vall, ve, g1, g2, _⟩ := hv
      have hz : ∀ w, (Go.sizeOf 111).run Tryz.prog w = .ok 2 w := fun w => by rw [Sx.run_sizeOf hinf, hsz]
      dsimp only at h1 h2 g1 g2
      rw [Lib.run_overlaps_apart w 38 4 111 t27 2 hz ⟨vb, voff, none⟩ ⟨b, off + (i + 1) * 2, none⟩ 1 vcap lb cb hne ve e vall.size all.size (by simp only [World.shape?, g1]) (by simp only [World.shape?, h1]) (by omega)
        (by simp only [World.frozen?, g1]; simp) (by simp only [World.frozen?, g1]; simp)]
      rfl
    · refine run_copy (P := Tryz.prog) (m := n + 1 - i) (k := n - i) t27 hinf rfl (by simp only [Nat.min_def]; split <;> omega) ?_ s1
      rw [hsz]
      exact first_cells hb0 (i * 2) hDt hDl
    · have h0 := run_copy (P := Tryz.prog) (t := 38) (t' := 38) (ty := ty) (dl := n + 1 - i) (dc := dc) (src := .slice (some ⟨vb, voff, none⟩) 1 vcap) (m := 1) (k := 1) (w := W1) t27 hinf rfl (by simp only [Nat.min_def]; split <;> omega) (by
        rw [hsz]
        have := first_cells (P := Tryz.prog) (len := 1) (cap := vcap) (sz := 2) (k := 1) hv2 0 hVt (by omega)
        simpa using this) r1
      exact h0
  · -- there is none
    have hroom' : cap < n + 1 := by omega
    have hk : i + (n + 1 - i) = n + 1 := by omega
    have hbn := Sx.nextcap_le hroom' hlim
    have hold : (Builtin.firstCells inf.size i (.slice (some ⟨b, off, none⟩) i cap)).run Tryz.prog w.drew = .ok (inner.take (i * 2)).toArray w.drew := by
      rw [hsz]
      have := first_cells (P := Tryz.prog) (w := w.drew) (len := i) (cap := cap) (sz := 2) (k := i) (ds := inner.take (i * 2)) (hb.heap rfl) 0 (by rw [List.drop_zero]) hTl2
      simpa using this
    have hap := Lib.run_append_grow_zeros w 38 3 38 111 inf _ .i64 .i64 t27 t3 hinf hzero (some ⟨b, off, none⟩) i cap (inner.take (i * 2)) hold (n + 1 - i) (by omega) (by omega) (by omega) (by omega) (by rw [hby]; omega) (by rw [hby, hk]; omega)
    obtain ⟨G, hGe⟩ : ∃ G, G = grownCap w (i + (n + 1 - i)) cap 111 := ⟨_, rfl⟩
    have hGn : n + 1 ≤ G := by rw [hGe, hk]; exact grownCap_ge w _ _ _
    rw [← hGe, hk] at hap
    obtain ⟨W1, hW1⟩ : ∃ W1, W1 = w.drew.alloc (.cells ((inner.take (i * 2)).toArray ++ Builtin.zeroCells (Sx.mkV tICell (Sx.zeroVals tICell)).cells (n + 1 - i) ++ Builtin.zeroCells (Sx.mkV tICell (Sx.zeroVals tICell)).cells (G - (n + 1))) 111) := ⟨_, rfl⟩
    rw [← hW1] at hap
    have hnb : Sx.BlockAt W1 ⟨w.heap.size, 0, none⟩ (G * 2) (inner.take (i * 2)) := by
      refine ⟨_, 111, by rw [hW1]; exact Sx.push_new (w := w.drew), ?_, fun j c hj => ?_⟩
      · have hzs : (Sx.mkV tICell (Sx.zeroVals tICell)).cells.size = 2 := by kernel_rfl
        simp only [Array.size_append, Builtin.zeroCells, Array.size_map, Array.size_range, List.size_toArray, hTl2, hzs]
        omega
      · have hjl : j < (inner.take (i * 2)).length := (List.getElem?_eq_some_iff.1 hj).1
        rw [Nat.zero_add, Array.append_assoc, Array.getElem?_append_left (by simpa using hjl)]
        simpa using hj
    have hold1 : ∀ k, k < w.heap.size → W1.heap[k]? = w.heap[k]? := fun k hk => by rw [hW1]; exact Sx.push_get (w := w.drew) hk
    have hsz1 : W1.heap.size = w.heap.size + 1 := by rw [hW1]; exact Array.size_push _
    have hvlt : vb < w.heap.size := by
      obtain ⟨all, e, h1, _⟩ := hv
      exact (Array.getElem?_eq_some_iff.1 h1).1
    have hvn : vb ≠ w.heap.size := by omega
    have hbn2 : b ≠ w.heap.size := by omega
    obtain ⟨W2, s1, s2, s3⟩ := store_more (P := Tryz.prog) hnb (ds := V) (by rw [hTl2, hvl]; omega) hv1 hvne
    have s2d : Sx.BlockAt W2.drew ⟨w.heap.size, 0, none⟩ (G * 2) (inner.take (i * 2) ++ V) := s2.heap rfl
    obtain ⟨W3, r1, r2, r3⟩ := store_more (P := Tryz.prog) s2d (ds := inner.drop (i * 2)) (by rw [List.length_append, hTl2, hvl, hDl]; omega) hD1 hDne
    rw [List.append_assoc] at r2
    have hv1' : Sx.BlockAt W1 ⟨vb, voff, none⟩ (vcap * 2) V := hv.heap (hold1 vb hvlt)
    have hb2 : Sx.BlockAt W2.drew ⟨b, off, none⟩ (cap * 2) inner := hb.heap (((show W2.drew.heap[b]? = W2.heap[b]? from rfl).trans (s3.same b hbn2)).trans (hold1 b hblt))
    have hw := ins_grow b off n cap i vb voff vcap w.heap.size G w W1 W2 W3 hi hlim hnc hroom' hGn (fun ty => ?_) (fun ty dc => ?_) (fun ty dc sc => ?_)
    · refine hw.mono ?_
      rintro e w' ⟨rfl, rfl⟩
      refine ⟨⟨w.heap.size, 0, none⟩, G, rfl, rfl, hGn, .inr (Nat.le_refl _), ?_, r2, ?_⟩
      · have h1 := r3.size
        have h2 := s3.size
        have h3 : W2.drew.heap.size = W2.heap.size := rfl
        show w.heap.size < w'.heap.size
        omega
      · refine ⟨?_, fun k hk hnk => ?_, ?_⟩
        · have h1 := r3.size
          have h2 := s3.size
          have h3 : W2.drew.heap.size = W2.heap.size := rfl
          omega
        · have hkn : k ≠ w.heap.size := by omega
          exact (((r3.same k hkn).trans (show W2.drew.heap[k]? = W2.heap[k]? from rfl)).trans (s3.same k hkn)).trans (hold1 k hk)
        · have f1 : Sx.Frz w W1 := by rw [hW1]; exact (show Sx.Frz w w.drew from ⟨fun _ => .inl rfl, rfl, rfl⟩).trans (Sx.frz_push w.drew _ rfl)
          exact ((f1.trans s3.frz).trans (show Sx.Frz W2 W2.drew from ⟨fun _ => .inl rfl, rfl, rfl⟩)).trans r3.frz
    · have := hap
      rw [show ((n + 1 - i : Nat) : Int) = (n : Int) + 1 - (i : Int) by omega] at this
      exact this
    · refine run_copy (P := Tryz.prog) (m := 1) (k := 1) (cells := V) t27 hinf rfl (by simp only [Nat.min_def]; split <;> omega) ?_ ?_
      · rw [hsz]
        have := first_cells (P := Tryz.prog) (len := 1) (cap := vcap) (sz := 2) (k := 1) hv1' 0 hVt (by omega)
        simpa using this
      · rw [hTl2] at s1
        simpa using s1
    · refine run_copy (P := Tryz.prog) (m := n - i) (k := n - i) (cells := inner.drop (i * 2)) t27 hinf rfl (by simp only [Nat.min_def]; split <;> omega) ?_ ?_
      · rw [hsz]
        exact first_cells hb2 (i * 2) hDt hDl
      · rw [List.length_append, hTl2, hvl, show i * 2 + 2 = (i + 1) * 2 by omega] at r1
        simpa using r1

/-! ### The contract -/
theorem cell_flat : tICell.hasSl = false := by kernel_rfl
theorem cell_size : tICell.size = 2 := by kernel_rfl

/-- a list that is given, of plain cells -/
theorem given_at {p : Nat → Prop} {w : World} {xs : List tICell.den} {c : Value} {S : List Nat} (h : Sx.TR p w true (.sl true tICell) xs [c] S) :
    ∃ A cap, c = .slice A xs.length cap ∧ xs.length ≤ cap ∧ (A = none → xs = []) ∧ ∀ ad, A = some ad → ad.spot = none ∧ S = [ad.block] ∧ ∃ inner, Sx.BlockAt w ad (cap * 2) inner ∧ Sx.Reps (Sx.TR (fun _ => False) w false tICell) xs inner [] := by
  obtain ⟨A, cap, h1, h2, h3⟩ := h
  simp only [List.cons.injEq, and_true] at h1
  simp only [Bool.and_self, if_true] at h3
  refine ⟨A, cap, h1, h2, fun e => ?_, fun ad e => ?_⟩
  · subst e; exact h3.1
  · subst e
    obtain ⟨k1, inner, S', k2, k3, k4⟩ := h3
    obtain ⟨k5, k6⟩ := k4.noUq (Sx.Ty.flat_noUq cell_flat)
    subst k5
    rw [cell_size] at k3
    exact ⟨k1, k2, inner, k3, k6.noSl cell_flat⟩

theorem ins_ok (xs : List tICell.den) (i : Nat) (x : tICell.den) (hi : i < xs.length) (hlim : xs.length + 1 ≤ 4294967296) :
    Sx.CallOk Tryz.prog 119 (Sx.AP.encL [.gv tICell, .ro tInt, .gv tICell] (xs, (i : Int), [x], ())) (.fv (.sl true tICell) (xs.take i ++ ([x] ++ xs.drop i))) [] := by
  intro p w cargs S B hc hn hS hp
  simp only [Sx.AP.encL, Sx.AP.enc, Sx.CVL, Sx.CV] at hc
  obtain ⟨c1, r1, S1, T1, B1, D1, rfl, rfl, rfl, ⟨hB1, _, h1⟩, c2, r2, S2, T2, B2, D2, rfl, rfl, rfl, ⟨rfl, hB2, cs2, h2, rfl⟩, c3, r3, S3, T3, B3, D3, rfl, rfl, rfl, ⟨hB3, _, h3⟩, rfl, rfl, rfl⟩ := hc
  obtain ⟨A, cap, rfl, hl1, hA0, hA⟩ := given_at h1
  obtain ⟨A3, cap3, rfl, hl3, hA30, hA3⟩ := given_at h3
  have hc2 : Sx.mkV tInt cs2 = .int .i64 (i : Int) := by
    obtain ⟨e, _⟩ := (h2 : cs2 = [.int .i64 (i : Int)] ∧ _)
    rw [e]; rfl
  rw [hc2]
  cases A with
  | none => rw [hA0 rfl] at hi; simp at hi
  | some ad =>
  cases A3 with
  | none => cases hA30 rfl
  | some vad =>
  obtain ⟨a1, rfl, inner, a2, a3⟩ := hA ad rfl
  obtain ⟨b1, rfl, V, b2, b3⟩ := hA3 vad rfl
  have hil : inner.length = xs.length * 2 := by rw [← cell_size]; exact Sx.Reps.len (fun _ _ _ hr => hr.len) a3
  have hvl : V.length = 2 := by
    have := Sx.Reps.len (n := tICell.size) (fun _ _ _ hr => hr.len) b3
    rw [cell_size] at this
    simpa using this
  have hne : vad.block ≠ ad.block := by
    have := hn
    simp only [List.nil_append, List.append_nil, List.cons_append, List.nodup_cons, List.mem_singleton] at this
    exact fun e => this.1 e.symm
  have hw := ins_mem w ad vad cap cap3 xs.length i inner V a1 b1 hne a2 b2 hil hvl (Sx.Reps.one (fun _ _ _ hr => hr.ones) a3) (Sx.Reps.one (fun _ _ _ hr => hr.ones) b3) hi hl1 hlim
  refine hw.mono ?_
  rintro e w' ⟨ad', cap', rfl, q1, q2, q3, q4, q5, q6⟩
  have hmem : ∀ k, k ∈ [ad'.block] ++ ([] : List Nat) → k = ad'.block := fun k hk => by simpa using hk
  refine ⟨_, [ad'.block], [], rfl, by simp, fun k hk => ?_, ?_, ?_, ?_⟩
  · rw [hmem k hk]
    refine ⟨q3.imp (fun e => ?_) id, q4⟩
    rw [e]; simp
  · exact ⟨q6.1, fun k hk hnk => q6.2 k hk (fun hm => hnk (by simp only [List.mem_singleton] at hm; subst hm; simp)), q6.3⟩
  · simp only [Sx.CV]
    have hlen : (xs.take i ++ ([x] ++ xs.drop i)).length = xs.length + 1 := by simp only [List.length_append, List.length_take, List.length_drop, List.length_singleton]; omega
    refine ⟨trivial, by kernel_rfl, [.slice (some ad') (xs.length + 1) cap'], ⟨some ad', cap', by rw [hlen], by rw [hlen]; exact q2, ?_⟩, rfl⟩
    simp only [Bool.and_self, if_true]
    refine ⟨q1, inner.take (i * 2) ++ (V ++ inner.drop (i * 2)), [], rfl, by rw [cell_size]; exact q5, ?_⟩
    have k1 := Sx.Reps.take (n := tICell.size) (fun _ _ _ hr => hr.len) i a3
    have k2 := Sx.Reps.drop (n := tICell.size) (fun _ _ _ hr => hr.len) i a3
    rw [cell_size] at k1 k2
    exact Sx.Reps.ofRo (Sx.Ty.flat_noUq cell_flat) ((k1.append (b3.append k2)).noSl cell_flat)
  · simp only [List.append_nil, List.nil_append, hB1, hB2, hB3, Sx.Outs]

end
open Go Go.Sx Go.Proofs

noncomputable def l_m_Insert_ICell : List (Nat × Con) := []
theorem l_m_Insert_ICell_ok : ∀ q ∈ l_m_Insert_ICell, ConOk Tryz.prog q.1 q.2 := Tryz.cons_nil
def kp_m_Insert_ICell : KP := []
noncomputable def q_m_Insert_ICell (n : Nat) (x : AP.denL [.gv tICell, .ro tInt, .gv tICell]) := evX (false, false, []) l_m_Insert_ICell kp_m_Insert_ICell [some uSlICell] Tryz.f119 (shF uSlICell) n (AP.encL [.gv tICell, .ro tInt, .gv tICell] x)
noncomputable def c_m_Insert_ICell : Con := apS [.gv tICell, .ro tInt, .gv tICell] true (shF uSlICell) (q_m_Insert_ICell big)
theorem c_m_Insert_ICell_ok : ConOk Tryz.prog 119 c_m_Insert_ICell := apS_ok ⟨Tryz.f119, by kernel_rfl, rfl, by decide⟩ fun _ _ h => evX_ok l_m_Insert_ICell_ok (f := Tryz.f119) (by kernel_rfl) rfl (by kernel_rfl) (by kernel_rfl) big h
noncomputable def Q_m_Insert_ICell (n : Nat) (a0 : DSlICell) (a1 : Int) (a2 : DSlICell) : Option DSlICell := q_m_Insert_ICell n (a0, a1, a2, ())
theorem Q_m_Insert_ICell_eq (n : Nat) (a0 : DSlICell) (a1 : Int) (a2 : DSlICell) : Q_m_Insert_ICell n a0 a1 a2 =
    if (0 : Int) ≤ a1 then
 if a1 ≤ (↑(List.length a0) : Int) then
 bif decide ((↑(List.length a2) : Int) = (0 : Int)) then some a0
 else
 bif decide (a1 = (↑(List.length a0) : Int)) then
 if List.length a0 + List.length a2 ≤ lim then some (List.append a0 a2) else none
 else none
 else none
 else none := by kernel_rfl


/-- where a cell goes in -/
noncomputable def q_g_Insert_ICell (_n : Nat) (x : AP.denL [.gv tICell, .ro tInt, .gv tICell]) : Option DSlICell :=
  if (0 : Int) ≤ x.2.1 then (if x.2.1 ≤ (List.length x.1 : Int) then (if List.length x.2.2.1 = 1 then (if List.length x.1 + 1 ≤ lim then some (List.take (Int.toNat x.2.1) x.1 ++ (x.2.2.1 ++ List.drop (Int.toNat x.2.1) x.1)) else none) else none) else none) else none
noncomputable def c_g_Insert_ICell : Con := apS [.gv tICell, .ro tInt, .gv tICell] true (shF uSlICell) (q_g_Insert_ICell big)
theorem c_g_Insert_ICell_ok : ConOk Tryz.prog 119 c_g_Insert_ICell := apS_ok ⟨Tryz.f119, by kernel_rfl, rfl, by decide⟩ fun xs v h => by
  obtain ⟨a0, a1, a2, u⟩ := xs
  cases u
  unfold q_g_Insert_ICell at h
  dsimp only at h
  split at h
  · rename_i h0
    split at h
    · rename_i h1
      split at h
      · rename_i h2
        split at h
        · rename_i h3
          simp only [Option.some.injEq] at h
          subst h
          obtain ⟨x, rfl⟩ := List.length_eq_one_iff.1 h2
          by_cases he : a1 = (List.length a0 : Int)
          · have hm : Q_m_Insert_ICell big a0 a1 [x] = some (List.append a0 [x]) := by
              rw [Q_m_Insert_ICell_eq, if_pos h0, if_pos h1, decide_eq_false (show ¬ ((List.length [x] : Nat) : Int) = 0 by simp), cond_false, decide_eq_true he, cond_true, if_pos (show List.length a0 + List.length [x] ≤ lim from h3)]
            have hk := evX_ok l_m_Insert_ICell_ok (f := Tryz.f119) (n := 119) (by kernel_rfl) rfl (by kernel_rfl) (by kernel_rfl) big hm
            have hr : List.take (Int.toNat a1) a0 ++ ([x] ++ List.drop (Int.toNat a1) a0) = List.append a0 [x] := by
              rw [he, Int.toNat_natCast, List.take_length, List.drop_length, List.append_nil]; rfl
            rw [hr]
            exact hk
          · obtain ⟨i, rfl⟩ : ∃ i : Nat, a1 = i := ⟨Int.toNat a1, (Int.toNat_of_nonneg h0).symm⟩
            rw [Int.toNat_natCast]
            refine ins_ok a0 i x ?_ h3
            have k1 : (i : Int) ≤ ((List.length (α := Ty.den tICell) a0 : Nat) : Int) := h1
            have k2 : ¬ (i : Int) = ((List.length (α := Ty.den tICell) a0 : Nat) : Int) := he
            show i < List.length (α := Ty.den tICell) a0
            omega
        · cases h
      · cases h
    · cases h
  · cases h
noncomputable def Q_g_Insert_ICell (n : Nat) (a0 : DSlICell) (a1 : Int) (a2 : DSlICell) : Option DSlICell := q_g_Insert_ICell n (a0, a1, a2, ())
theorem Q_g_Insert_ICell_eq (n : Nat) (a0 : DSlICell) (a1 : Int) (a2 : DSlICell) : Q_g_Insert_ICell n a0 a1 a2 =
    if (0 : Int) ≤ a1 then (if a1 ≤ (List.length a0 : Int) then (if List.length a2 = 1 then (if List.length a0 + 1 ≤ lim then some (List.take (Int.toNat a1) a0 ++ (a2 ++ List.drop (Int.toNat a1) a0)) else none) else none) else none) else none := rfl

end Go.Sx.Tryz

set_option maxRecDepth 100000
namespace Go.Sx.Tryz
open Go Go.Sx Go.Proofs

noncomputable def l_i_withCell : List (Nat × Con) := [(80, c_g_Clone_ICell), (108, c_i_CellAt), (119, c_g_Insert_ICell)]
theorem l_i_withCell_ok : ∀ q ∈ l_i_withCell, ConOk Tryz.prog q.1 q.2 := Tryz.cons_cons c_g_Clone_ICell_ok (Tryz.cons_cons c_i_CellAt_ok (Tryz.cons_cons c_g_Insert_ICell_ok (Tryz.cons_nil)))
abbrev k_i_withCell_7 : List Keep × List BK := ([.ro tSlLCell, .ro tString, .ro tInt64, .drop, .drop, .drop, .drop, .is (.own 0 0), .drop, .ro tInt64, .drop, .drop, .drop, .drop, .drop, .drop, .drop, .drop, .drop, .drop, .drop, .drop, .drop, .drop, .drop, .drop, .drop, .drop, .drop, .drop, .drop, .drop, .drop, .drop, .drop, .drop, .drop, .drop, .drop, .drop, .drop, .drop, .drop, .drop, .drop], [.arr tXstruct_Key_string_Num_int_])
def kp_i_withCell : KP := [(7, k_i_withCell_7)]
noncomputable def q_i_withCell (n : Nat) (x : Args [tSlICell, tString, tInt]) := evX (false, false, []) l_i_withCell kp_i_withCell [some uSlICell] Tryz.f109 (shF uSlICell) n (encA [tSlICell, tString, tInt] x)
noncomputable def c_i_withCell : Con := roS [tSlICell, tString, tInt] true (shF uSlICell) (q_i_withCell big)
theorem c_i_withCell_ok : ConOk Tryz.prog 109 c_i_withCell := roS_ok ⟨Tryz.f109, by kernel_rfl, rfl, by decide⟩ fun _ _ h => evX_ok l_i_withCell_ok (f := Tryz.f109) (by kernel_rfl) rfl (by kernel_rfl) (by kernel_rfl) big h
noncomputable def Q_i_withCell (n : Nat) (a0 : DSlICell) (a1 : ByteArray) (a2 : Int) : Option DSlICell := q_i_withCell n (a0, a1, a2, ())
noncomputable def r_i_withCell_7 (n : Nat) (x : KD k_i_withCell_7.1) (y : BD k_i_withCell_7.2) := rounds (env (false, false, []) l_i_withCell) kp_i_withCell (body Tryz.f109) (finX (false, false, []) l_i_withCell [some uSlICell] Tryz.f109 (shF uSlICell) [.val tSlICell (zeroD tSlICell), .val tString (zeroD tString), .val tInt (zeroD tInt)]) n 7 k_i_withCell_7 x y
noncomputable def R_i_withCell_7 (n : Nat) (s0 : DSlLCell) (s1 : ByteArray) (s2 : Int) (s9 : Int) (b0 : (List DXstruct_Key_string_Num_int_)) : Option DSlICell := r_i_withCell_7 n (s0, s1, s2, s9, ()) (b0, ())
theorem Q_i_withCell_eq (n : Nat) (a0 : DSlICell) (a1 : ByteArray) (a2 : Int) : Q_i_withCell n a0 a1 a2 =
    (Q_g_Clone_ICell big a0).bind fun y =>
 (Q_i_CellAt big a0 a1).bind fun y_1 =>
 bif decide ((0 : Int) ≤ y_1) then
 if (0 : Int) ≤ y_1 then
 if y_1 < (↑(List.length y) : Int) then
 (nth y (Int.toNat y_1)).bind fun y_2 => (updO y (Int.toNat y_1) (y_2.fst, a2, ())).bind fun y => some y
 else none
 else none
 else R_i_withCell_7 n a0 a1 a2 (0 : Int) y := by kernel_rfl
theorem R_i_withCell_7_eq (n : Nat) (s0 : DSlLCell) (s1 : ByteArray) (s2 : Int) (s9 : Int) (b0 : (List DXstruct_Key_string_Num_int_)) : R_i_withCell_7 (n + 1) s0 s1 s2 s9 b0 =
    bif decide (s9 < (↑(List.length s0) : Int)) then
 if (0 : Int) ≤ s9 then
 (nth s0 s9.toNat).bind fun y =>
 bif Op.bytesLess (ByteArray.toList y.fst) s1.toList then
 R_i_withCell_7 n s0 s1 s2 (IntKind.i64.wrap (s9 + (1 : Int))) b0
 else (Q_g_Insert_ICell big b0 s9 [(s1, s2, ())]).bind fun y => some y
 else none
 else (Q_g_Insert_ICell big b0 s9 [(s1, s2, ())]).bind fun y => some y := by kernel_rfl

end Go.Sx.Tryz

set_option maxRecDepth 100000
namespace Go.Sx.Tryz
open Go Go.Sx Go.Proofs

noncomputable def l_i_Done : List (Nat × Con) := [(80, c_g_Clone_ICell), (106, c_i_CellsOk), (107, c_i_CmdOk), (108, c_i_CellAt), (109, c_i_withCell)]
theorem l_i_Done_ok : ∀ q ∈ l_i_Done, ConOk Tryz.prog q.1 q.2 := Tryz.cons_cons c_g_Clone_ICell_ok (Tryz.cons_cons c_i_CellsOk_ok (Tryz.cons_cons c_i_CmdOk_ok (Tryz.cons_cons c_i_CellAt_ok (Tryz.cons_cons c_i_withCell_ok (Tryz.cons_nil)))))
def kp_i_Done : KP := []
noncomputable def q_i_Done (n : Nat) (x : Args [tSlICell, tICmd]) := evX (false, false, [3, 21, 23, 27, 33, 46]) l_i_Done kp_i_Done [some uSlICell, none] Tryz.f87 (shT [(true, uSlICell), (false, tInt)]) n (encA [tSlICell, tICmd] x)
noncomputable def c_i_Done : Con := roS [tSlICell, tICmd] true (shT [(true, uSlICell), (false, tInt)]) (q_i_Done big)
theorem c_i_Done_ok : ConOk Tryz.prog 87 c_i_Done := roS_ok ⟨Tryz.f87, by kernel_rfl, rfl, by decide⟩ fun _ _ h => evX_ok l_i_Done_ok (f := Tryz.f87) (by kernel_rfl) rfl (by kernel_rfl) (by kernel_rfl) big h
noncomputable def Q_i_Done (n : Nat) (a0 : DSlICell) (a1 : DICmd) : Option (DSlICell × Int × Unit) := q_i_Done n (a0, a1, ())
theorem Q_i_Done_eq (n : Nat) (a0 : DSlICell) (a1 : DICmd) : Q_i_Done n a0 a1 =
    (Q_g_Clone_ICell big a0).bind fun y =>
 (Q_i_CellsOk big a0).bind fun y_1 =>
 bif !y_1 then some (y, (2 : Int), PUnit.unit)
 else
 (Q_i_CmdOk big a1).bind fun y_2 =>
 bif !y_2 then some (y, (2 : Int), PUnit.unit)
 else
 bif !decide (a1.fst = (1 : Int)) then
 (Q_i_CellAt big a0 a1.snd.fst).bind fun y_3 =>
 bif decide (y_3 < (0 : Int)) then some (y, (1 : Int), PUnit.unit)
 else
 bif decide (a1.fst = (3 : Int)) then
 if (0 : Int) ≤ y_3 then
 (nth a0 (Int.toNat y_3)).bind fun y_4 =>
 (Q_i_withCell big a0 a1.snd.fst
 (IntKind.i64.wrap (IntKind.i64.wrap ((0 : Int) - a1.snd.snd.fst) + y_4.snd.fst))).bind
 fun y_5 =>
 (Q_i_CellsOk big y_5).bind fun y_6 =>
 bif !y_6 then some (y, (2 : Int), PUnit.unit) else some (y_5, (0 : Int), PUnit.unit)
 else none
 else
 if (0 : Int) ≤ y_3 then
 (nth a0 (Int.toNat y_3)).bind fun y_4 =>
 (Q_i_withCell big a0 a1.snd.fst (IntKind.i64.wrap (a1.snd.snd.fst + y_4.snd.fst))).bind
 fun y_5 =>
 (Q_i_CellsOk big y_5).bind fun y_6 =>
 bif !y_6 then some (y, (2 : Int), PUnit.unit) else some (y_5, (0 : Int), PUnit.unit)
 else none
 else
 (Q_i_withCell big a0 a1.snd.fst a1.snd.snd.fst).bind fun y_3 =>
 (Q_i_CellsOk big y_3).bind fun y_4 =>
 bif !y_4 then some (y, (2 : Int), PUnit.unit) else some (y_3, (0 : Int), PUnit.unit) := by kernel_rfl

end Go.Sx.Tryz

set_option maxRecDepth 100000
namespace Go.Sx.Tryz
open Go Go.Sx Go.Proofs

noncomputable def l_s_l01In : List (Nat × Con) := []
theorem l_s_l01In_ok : ∀ q ∈ l_s_l01In, ConOk Tryz.prog q.1 q.2 := Tryz.cons_nil
def kp_s_l01In : KP := []
noncomputable def q_s_l01In (n : Nat) (x : Args [tInt, tInt, tInt]) := evX (false, false, []) l_s_l01In kp_s_l01In [none] Tryz.f97 (shV tBool) n (encA [tInt, tInt, tInt] x)
noncomputable def c_s_l01In : Con := roS [tInt, tInt, tInt] true (shV tBool) (q_s_l01In big)
theorem c_s_l01In_ok : ConOk Tryz.prog 97 c_s_l01In := roS_ok ⟨Tryz.f97, by kernel_rfl, rfl, by decide⟩ fun _ _ h => evX_ok l_s_l01In_ok (f := Tryz.f97) (by kernel_rfl) rfl (by kernel_rfl) (by kernel_rfl) big h
noncomputable def Q_s_l01In (n : Nat) (a0 : Int) (a1 : Int) (a2 : Int) : Option Bool := q_s_l01In n (a0, a1, a2, ())
theorem Q_s_l01In_eq (n : Nat) (a0 : Int) (a1 : Int) (a2 : Int) : Q_s_l01In n a0 a1 a2 =
    bif decide (a1 ≤ a0) then some (decide (a0 ≤ a2)) else some false := by kernel_rfl

end Go.Sx.Tryz

set_option maxRecDepth 100000
namespace Go.Sx.Tryz
open Go Go.Sx Go.Proofs

noncomputable def l_s_KeyOk : List (Nat × Con) := [(97, c_s_l01In)]
theorem l_s_KeyOk_ok : ∀ q ∈ l_s_KeyOk, ConOk Tryz.prog q.1 q.2 := Tryz.cons_cons c_s_l01In_ok (Tryz.cons_nil)
abbrev k_s_KeyOk_2 : List Keep × List BK := ([.ro tString, .drop, .drop, .ro tInt64, .drop, .drop, .drop, .drop, .drop, .drop, .drop, .drop, .drop, .drop, .drop, .drop, .drop, .drop, .drop, .drop, .drop, .drop, .drop], [])
def kp_s_KeyOk : KP := [(2, k_s_KeyOk_2)]
noncomputable def q_s_KeyOk (n : Nat) (x : Args [tString]) := evX (false, false, []) l_s_KeyOk kp_s_KeyOk [none] Tryz.f111 (shV tBool) n (encA [tString] x)
noncomputable def c_s_KeyOk : Con := roS [tString] true (shV tBool) (q_s_KeyOk big)
theorem c_s_KeyOk_ok : ConOk Tryz.prog 111 c_s_KeyOk := roS_ok ⟨Tryz.f111, by kernel_rfl, rfl, by decide⟩ fun _ _ h => evX_ok l_s_KeyOk_ok (f := Tryz.f111) (by kernel_rfl) rfl (by kernel_rfl) (by kernel_rfl) big h
noncomputable def Q_s_KeyOk (n : Nat) (a0 : ByteArray) : Option Bool := q_s_KeyOk n (a0, ())
noncomputable def r_s_KeyOk_2 (n : Nat) (x : KD k_s_KeyOk_2.1) (y : BD k_s_KeyOk_2.2) := rounds (env (false, false, []) l_s_KeyOk) kp_s_KeyOk (body Tryz.f111) (finX (false, false, []) l_s_KeyOk [none] Tryz.f111 (shV tBool) [.val tString (zeroD tString)]) n 2 k_s_KeyOk_2 x y
noncomputable def R_s_KeyOk_2 (n : Nat) (s0 : ByteArray) (s3 : Int) : Option Bool := r_s_KeyOk_2 n (s0, s3, ()) ()
theorem Q_s_KeyOk_eq (n : Nat) (a0 : ByteArray) : Q_s_KeyOk n a0 =
    R_s_KeyOk_2 n a0 (0 : Int) := by kernel_rfl
theorem R_s_KeyOk_2_eq (n : Nat) (s0 : ByteArray) (s3 : Int) : R_s_KeyOk_2 (n + 1) s0 s3 =
    bif decide (s3 < (↑s0.size : Int)) then
 if (0 : Int) ≤ s3 then
 (nth s0.data.toList s3.toNat).bind fun y =>
 bif decide ((↑y.toNat : Int) < (97 : Int)) then some false
 else
 if (0 : Int) ≤ s3 then
 (nth s0.data.toList s3.toNat).bind fun y =>
 bif decide ((122 : Int) < (↑y.toNat : Int)) then some false
 else R_s_KeyOk_2 n s0 (IntKind.i64.wrap (s3 + (1 : Int)))
 else none
 else none
 else (Q_s_l01In big (↑s0.size : Int) (1 : Int) (3 : Int)).bind fun y => some y := by kernel_rfl

end Go.Sx.Tryz

set_option maxRecDepth 100000
namespace Go.Sx.Tryz
open Go Go.Sx Go.Proofs

noncomputable def l_s_CellsOk : List (Nat × Con) := [(111, c_s_KeyOk), (97, c_s_l01In)]
theorem l_s_CellsOk_ok : ∀ q ∈ l_s_CellsOk, ConOk Tryz.prog q.1 q.2 := Tryz.cons_cons c_s_KeyOk_ok (Tryz.cons_cons c_s_l01In_ok (Tryz.cons_nil))
abbrev k_s_CellsOk_2 : List Keep × List BK := ([.ro tSlLCell, .drop, .drop, .ro tInt64, .drop, .drop, .drop, .drop, .drop, .drop, .drop, .drop, .drop, .drop, .drop, .drop, .drop, .drop, .drop, .drop, .drop, .drop, .drop, .drop, .drop, .drop, .drop, .drop, .drop, .drop, .drop, .drop, .drop, .drop, .drop, .drop, .drop, .drop, .drop, .drop, .drop, .drop, .drop, .drop, .drop, .drop, .drop], [])
def kp_s_CellsOk : KP := [(2, k_s_CellsOk_2)]
noncomputable def q_s_CellsOk (n : Nat) (x : Args [tSlICell]) := evX (false, false, []) l_s_CellsOk kp_s_CellsOk [none] Tryz.f99 (shV tBool) n (encA [tSlICell] x)
noncomputable def c_s_CellsOk : Con := roS [tSlICell] true (shV tBool) (q_s_CellsOk big)
theorem c_s_CellsOk_ok : ConOk Tryz.prog 99 c_s_CellsOk := roS_ok ⟨Tryz.f99, by kernel_rfl, rfl, by decide⟩ fun _ _ h => evX_ok l_s_CellsOk_ok (f := Tryz.f99) (by kernel_rfl) rfl (by kernel_rfl) (by kernel_rfl) big h
noncomputable def Q_s_CellsOk (n : Nat) (a0 : DSlICell) : Option Bool := q_s_CellsOk n (a0, ())
noncomputable def r_s_CellsOk_2 (n : Nat) (x : KD k_s_CellsOk_2.1) (y : BD k_s_CellsOk_2.2) := rounds (env (false, false, []) l_s_CellsOk) kp_s_CellsOk (body Tryz.f99) (finX (false, false, []) l_s_CellsOk [none] Tryz.f99 (shV tBool) [.val tSlICell (zeroD tSlICell)]) n 2 k_s_CellsOk_2 x y
noncomputable def R_s_CellsOk_2 (n : Nat) (s0 : DSlLCell) (s3 : Int) : Option Bool := r_s_CellsOk_2 n (s0, s3, ()) ()
theorem Q_s_CellsOk_eq (n : Nat) (a0 : DSlICell) : Q_s_CellsOk n a0 =
    R_s_CellsOk_2 n a0 (0 : Int) := by kernel_rfl
theorem R_s_CellsOk_2_eq (n : Nat) (s0 : DSlLCell) (s3 : Int) : R_s_CellsOk_2 (n + 1) s0 s3 =
    bif decide (s3 < (↑(List.length s0) : Int)) then
 if (0 : Int) ≤ s3 then
 (nth s0 s3.toNat).bind fun y =>
 (Q_s_KeyOk big y.fst).bind fun y =>
 bif !y then some false
 else
 if (0 : Int) ≤ s3 then
 (nth s0 s3.toNat).bind fun y =>
 (Q_s_l01In big y.snd.fst (0 : Int) (1000000000 : Int)).bind fun y =>
 bif !y then some false
 else
 bif decide ((0 : Int) < s3) then
 if (0 : Int) ≤ IntKind.i64.wrap (s3 - (1 : Int)) then
 (nth s0 (IntKind.i64.wrap (s3 - (1 : Int))).toNat).bind fun y =>
 if (0 : Int) ≤ s3 then
 (nth s0 s3.toNat).bind fun y_1 =>
 bif !Op.bytesLess (ByteArray.toList y.fst) (ByteArray.toList y_1.fst) then some false
 else R_s_CellsOk_2 n s0 (IntKind.i64.wrap (s3 + (1 : Int)))
 else none
 else none
 else R_s_CellsOk_2 n s0 (IntKind.i64.wrap (s3 + (1 : Int)))
 else none
 else none
 else some (decide ((↑(List.length s0) : Int) ≤ (12 : Int))) := by kernel_rfl

end Go.Sx.Tryz

set_option maxRecDepth 100000
namespace Go.Sx.Tryz
open Go Go.Sx Go.Proofs

noncomputable def l_s_CmdOk : List (Nat × Con) := [(97, c_s_l01In), (111, c_s_KeyOk)]
theorem l_s_CmdOk_ok : ∀ q ∈ l_s_CmdOk, ConOk Tryz.prog q.1 q.2 := Tryz.cons_cons c_s_l01In_ok (Tryz.cons_cons c_s_KeyOk_ok (Tryz.cons_nil))
def kp_s_CmdOk : KP := []
noncomputable def q_s_CmdOk (n : Nat) (x : Args [tICmd]) := evX (false, false, [1, 3, 7, 12]) l_s_CmdOk kp_s_CmdOk [none] Tryz.f100 (shV tBool) n (encA [tICmd] x)
noncomputable def c_s_CmdOk : Con := roS [tICmd] true (shV tBool) (q_s_CmdOk big)
theorem c_s_CmdOk_ok : ConOk Tryz.prog 100 c_s_CmdOk := roS_ok ⟨Tryz.f100, by kernel_rfl, rfl, by decide⟩ fun _ _ h => evX_ok l_s_CmdOk_ok (f := Tryz.f100) (by kernel_rfl) rfl (by kernel_rfl) (by kernel_rfl) big h
noncomputable def Q_s_CmdOk (n : Nat) (a0 : DICmd) : Option Bool := q_s_CmdOk n (a0, ())
theorem Q_s_CmdOk_eq (n : Nat) (a0 : DICmd) : Q_s_CmdOk n a0 =
    (Q_s_l01In big a0.fst (1 : Int) (3 : Int)).bind fun y =>
 bif y then
 (Q_s_KeyOk big a0.snd.fst).bind fun y =>
 bif y then (Q_s_l01In big a0.snd.snd.fst (0 : Int) (1000000000 : Int)).bind fun y => some y else some false
 else some false := by kernel_rfl

end Go.Sx.Tryz

set_option maxRecDepth 100000
namespace Go.Sx.Tryz
open Go Go.Sx Go.Proofs

noncomputable def l_s_CellAt : List (Nat × Con) := []
theorem l_s_CellAt_ok : ∀ q ∈ l_s_CellAt, ConOk Tryz.prog q.1 q.2 := Tryz.cons_nil
abbrev k_s_CellAt_2 : List Keep × List BK := ([.ro tSlLCell, .ro tString, .drop, .drop, .drop, .ro tInt64, .drop, .drop, .drop, .drop, .drop, .drop, .drop, .drop, .drop, .drop, .drop, .drop, .drop, .drop], [])
def kp_s_CellAt : KP := [(2, k_s_CellAt_2)]
noncomputable def q_s_CellAt (n : Nat) (x : Args [tSlICell, tString]) := evX (false, false, []) l_s_CellAt kp_s_CellAt [none] Tryz.f101 (shV tInt) n (encA [tSlICell, tString] x)
noncomputable def c_s_CellAt : Con := roS [tSlICell, tString] true (shV tInt) (q_s_CellAt big)
theorem c_s_CellAt_ok : ConOk Tryz.prog 101 c_s_CellAt := roS_ok ⟨Tryz.f101, by kernel_rfl, rfl, by decide⟩ fun _ _ h => evX_ok l_s_CellAt_ok (f := Tryz.f101) (by kernel_rfl) rfl (by kernel_rfl) (by kernel_rfl) big h
noncomputable def Q_s_CellAt (n : Nat) (a0 : DSlICell) (a1 : ByteArray) : Option Int := q_s_CellAt n (a0, a1, ())
noncomputable def r_s_CellAt_2 (n : Nat) (x : KD k_s_CellAt_2.1) (y : BD k_s_CellAt_2.2) := rounds (env (false, false, []) l_s_CellAt) kp_s_CellAt (body Tryz.f101) (finX (false, false, []) l_s_CellAt [none] Tryz.f101 (shV tInt) [.val tSlICell (zeroD tSlICell), .val tString (zeroD tString)]) n 2 k_s_CellAt_2 x y
noncomputable def R_s_CellAt_2 (n : Nat) (s0 : DSlLCell) (s1 : ByteArray) (s5 : Int) : Option Int := r_s_CellAt_2 n (s0, s1, s5, ()) ()
theorem Q_s_CellAt_eq (n : Nat) (a0 : DSlICell) (a1 : ByteArray) : Q_s_CellAt n a0 a1 =
    R_s_CellAt_2 n a0 a1 (0 : Int) := by kernel_rfl
theorem R_s_CellAt_2_eq (n : Nat) (s0 : DSlLCell) (s1 : ByteArray) (s5 : Int) : R_s_CellAt_2 (n + 1) s0 s1 s5 =
    bif decide (s5 < (↑(List.length s0) : Int)) then
 if (0 : Int) ≤ s5 then
 (nth s0 s5.toNat).bind fun y =>
 bif decide (y.fst = s1) then some s5 else R_s_CellAt_2 n s0 s1 (IntKind.i64.wrap (s5 + (1 : Int)))
 else none
 else some (-1 : Int) := by kernel_rfl

end Go.Sx.Tryz

set_option maxRecDepth 100000
namespace Go.Sx.Tryz
open Go Go.Sx Go.Proofs

noncomputable def l_s_l03Put : List (Nat × Con) := []
theorem l_s_l03Put_ok : ∀ q ∈ l_s_l03Put, ConOk Tryz.prog q.1 q.2 := Tryz.cons_nil
abbrev k_s_l03Put_3 : List Keep × List BK := ([.ro tSlLCell, .drop, .drop, .is (.ptr 0 0), .drop, .own tXstruct_Key_string_Num_int_, .ro tInt64, .drop, .drop, .drop, .drop, .drop, .drop, .drop, .drop, .drop, .drop, .drop, .drop, .drop, .drop, .drop, .drop, .drop, .drop, .drop, .drop, .drop, .drop, .drop, .drop, .drop, .drop, .drop, .drop, .drop, .drop, .drop, .drop, .drop, .drop, .drop, .drop, .drop, .drop, .drop, .drop, .drop, .drop, .drop, .drop, .drop, .drop, .drop, .drop, .drop], [.vars [.ro tString, .ro tInt64]])
abbrev k_s_l03Put_9 : List Keep × List BK := ([.ro tSlLCell, .drop, .drop, .is (.ptr 0 0), .drop, .own tXstruct_Key_string_Num_int_, .drop, .ro tInt64, .drop, .drop, .drop, .drop, .drop, .drop, .drop, .drop, .drop, .drop, .drop, .drop, .drop, .drop, .drop, .drop, .drop, .drop, .drop, .drop, .drop, .drop, .drop, .drop, .drop, .drop, .drop, .drop, .drop, .drop, .drop, .drop, .drop, .drop, .drop, .drop, .drop, .drop, .drop, .drop, .drop, .drop, .drop, .drop, .drop, .drop, .drop, .drop], [.vars [.ro tString, .ro tInt64]])
def kp_s_l03Put : KP := [(3, k_s_l03Put_3), (9, k_s_l03Put_9)]
noncomputable def q_s_l03Put (n : Nat) (x : Args [tSlICell, tICell]) := evX (false, false, [3, 20, 45]) l_s_l03Put kp_s_l03Put [some uSlICell] Tryz.f102 (shF uSlICell) n (encA [tSlICell, tICell] x)
noncomputable def c_s_l03Put : Con := roS [tSlICell, tICell] true (shF uSlICell) (q_s_l03Put big)
theorem c_s_l03Put_ok : ConOk Tryz.prog 102 c_s_l03Put := roS_ok ⟨Tryz.f102, by kernel_rfl, rfl, by decide⟩ fun _ _ h => evX_ok l_s_l03Put_ok (f := Tryz.f102) (by kernel_rfl) rfl (by kernel_rfl) (by kernel_rfl) big h
noncomputable def Q_s_l03Put (n : Nat) (a0 : DSlICell) (a1 : DICell) : Option DSlICell := q_s_l03Put n (a0, a1, ())
noncomputable def r_s_l03Put_3 (n : Nat) (x : KD k_s_l03Put_3.1) (y : BD k_s_l03Put_3.2) := rounds (env (false, false, [3, 20, 45]) l_s_l03Put) kp_s_l03Put (body Tryz.f102) (finX (false, false, [3, 20, 45]) l_s_l03Put [some uSlICell] Tryz.f102 (shF uSlICell) [.val tSlICell (zeroD tSlICell), .val tICell (zeroD tICell)]) n 3 k_s_l03Put_3 x y
noncomputable def R_s_l03Put_3 (n : Nat) (s0 : DSlLCell) (s5 : (List DXstruct_Key_string_Num_int_)) (s6 : Int) (b0_0 : ByteArray) (b0_1 : Int) : Option DSlICell := r_s_l03Put_3 n (s0, s5, s6, ()) ((b0_0, b0_1, ()), ())
noncomputable def r_s_l03Put_9 (n : Nat) (x : KD k_s_l03Put_9.1) (y : BD k_s_l03Put_9.2) := rounds (env (false, false, [3, 20, 45]) l_s_l03Put) kp_s_l03Put (body Tryz.f102) (finX (false, false, [3, 20, 45]) l_s_l03Put [some uSlICell] Tryz.f102 (shF uSlICell) [.val tSlICell (zeroD tSlICell), .val tICell (zeroD tICell)]) n 9 k_s_l03Put_9 x y
noncomputable def R_s_l03Put_9 (n : Nat) (s0 : DSlLCell) (s5 : (List DXstruct_Key_string_Num_int_)) (s7 : Int) (b0_0 : ByteArray) (b0_1 : Int) : Option DSlICell := r_s_l03Put_9 n (s0, s5, s7, ()) ((b0_0, b0_1, ()), ())
theorem Q_s_l03Put_eq (n : Nat) (a0 : DSlICell) (a1 : DICell) : Q_s_l03Put n a0 a1 =
    R_s_l03Put_3 n a0 [] (0 : Int) a1.fst a1.snd.fst := by kernel_rfl
theorem R_s_l03Put_3_eq (n : Nat) (s0 : DSlLCell) (s5 : (List DXstruct_Key_string_Num_int_)) (s6 : Int) (b0_0 : ByteArray) (b0_1 : Int) : R_s_l03Put_3 (n + 1) s0 s5 s6 b0_0 b0_1 =
    bif decide (s6 < (↑(List.length s0) : Int)) then
 if (0 : Int) ≤ s6 then
 (nth s0 s6.toNat).bind fun y =>
 bif Op.bytesLess (ByteArray.toList y.fst) b0_0.toList then
 if (0 : Int) ≤ s6 then
 (nth s0 s6.toNat).bind fun y =>
 if s5.length + [y].length ≤ lim then
 R_s_l03Put_3 n s0 (s5.append [y]) (IntKind.i64.wrap (s6 + (1 : Int))) b0_0 b0_1
 else none
 else none
 else R_s_l03Put_3 n s0 s5 (IntKind.i64.wrap (s6 + (1 : Int))) b0_0 b0_1
 else none
 else
 if s5.length + [(b0_0, b0_1, ())].length ≤ lim then
 R_s_l03Put_9 n s0 (s5.append [(b0_0, b0_1, ())]) (0 : Int) b0_0 b0_1
 else none := by kernel_rfl
theorem R_s_l03Put_9_eq (n : Nat) (s0 : DSlLCell) (s5 : (List DXstruct_Key_string_Num_int_)) (s7 : Int) (b0_0 : ByteArray) (b0_1 : Int) : R_s_l03Put_9 (n + 1) s0 s5 s7 b0_0 b0_1 =
    bif decide (s7 < (↑(List.length s0) : Int)) then
 if (0 : Int) ≤ s7 then
 (nth s0 s7.toNat).bind fun y =>
 bif !(Op.bytesLess (ByteArray.toList y.fst) b0_0.toList || decide (y.fst = b0_0)) then
 if (0 : Int) ≤ s7 then
 (nth s0 s7.toNat).bind fun y =>
 if s5.length + [y].length ≤ lim then
 R_s_l03Put_9 n s0 (s5.append [y]) (IntKind.i64.wrap (s7 + (1 : Int))) b0_0 b0_1
 else none
 else none
 else R_s_l03Put_9 n s0 s5 (IntKind.i64.wrap (s7 + (1 : Int))) b0_0 b0_1
 else none
 else some s5 := by kernel_rfl

end Go.Sx.Tryz

set_option maxRecDepth 100000
namespace Go.Sx.Tryz
open Go Go.Sx Go.Proofs

noncomputable def l_s_Done : List (Nat × Con) := [(99, c_s_CellsOk), (100, c_s_CmdOk), (101, c_s_CellAt), (97, c_s_l01In), (102, c_s_l03Put)]
theorem l_s_Done_ok : ∀ q ∈ l_s_Done, ConOk Tryz.prog q.1 q.2 := Tryz.cons_cons c_s_CellsOk_ok (Tryz.cons_cons c_s_CmdOk_ok (Tryz.cons_cons c_s_CellAt_ok (Tryz.cons_cons c_s_l01In_ok (Tryz.cons_cons c_s_l03Put_ok (Tryz.cons_nil)))))
def kp_s_Done : KP := []
noncomputable def q_s_Done (n : Nat) (x : Args [tSlICell, tICmd]) := evX (false, false, [3, 22, 25, 27, 38, 41, 49, 66]) l_s_Done kp_s_Done [some uSlICell, none] Tryz.f72 (shT [(true, uSlICell), (false, tInt)]) n (encA [tSlICell, tICmd] x)
noncomputable def c_s_Done : Con := roS [tSlICell, tICmd] true (shT [(true, uSlICell), (false, tInt)]) (q_s_Done big)
theorem c_s_Done_ok : ConOk Tryz.prog 72 c_s_Done := roS_ok ⟨Tryz.f72, by kernel_rfl, rfl, by decide⟩ fun _ _ h => evX_ok l_s_Done_ok (f := Tryz.f72) (by kernel_rfl) rfl (by kernel_rfl) (by kernel_rfl) big h
noncomputable def Q_s_Done (n : Nat) (a0 : DSlICell) (a1 : DICmd) : Option (DSlICell × Int × Unit) := q_s_Done n (a0, a1, ())
theorem Q_s_Done_eq (n : Nat) (a0 : DSlICell) (a1 : DICmd) : Q_s_Done n a0 a1 =
    if (0 : Nat) + List.length a0 ≤ lim then
 (Q_s_CellsOk big a0).bind fun y =>
 bif !y then some (a0, (2 : Int), PUnit.unit)
 else
 (Q_s_CmdOk big a1).bind fun y =>
 bif !y then some (a0, (2 : Int), PUnit.unit)
 else
 (Q_s_CellAt big a0 a1.snd.fst).bind fun y =>
 bif !decide (a1.fst = (1 : Int)) then
 bif decide (y < (0 : Int)) then some (a0, (1 : Int), PUnit.unit)
 else
 if (0 : Int) ≤ y then
 (nth a0 (Int.toNat y)).bind fun y_1 =>
 bif decide (a1.fst = (3 : Int)) then
 if (0 : Int) ≤ y then
 (nth a0 (Int.toNat y)).bind fun y_2 =>
 (Q_s_l01In big (IntKind.i64.wrap (y_2.snd.fst - a1.snd.snd.fst)) (0 : Int)
 (1000000000 : Int)).bind
 fun y_3 =>
 bif !y_3 then some (a0, (2 : Int), PUnit.unit)
 else
 bif decide (y < (0 : Int)) then
 bif decide ((12 : Int) ≤ (↑(List.length a0) : Int)) then
 some (a0, (2 : Int), PUnit.unit)
 else
 (Q_s_l03Put big a0
 (a1.snd.fst, IntKind.i64.wrap (y_2.snd.fst - a1.snd.snd.fst), ())).bind
 fun y => some (y, (0 : Int), PUnit.unit)
 else
 (Q_s_l03Put big a0
 (a1.snd.fst, IntKind.i64.wrap (y_2.snd.fst - a1.snd.snd.fst), ())).bind
 fun y => some (y, (0 : Int), PUnit.unit)
 else none
 else
 (Q_s_l01In big (IntKind.i64.wrap (y_1.snd.fst + a1.snd.snd.fst)) (0 : Int)
 (1000000000 : Int)).bind
 fun y_2 =>
 bif !y_2 then some (a0, (2 : Int), PUnit.unit)
 else
 bif decide (y < (0 : Int)) then
 bif decide ((12 : Int) ≤ (↑(List.length a0) : Int)) then some (a0, (2 : Int), PUnit.unit)
 else
 (Q_s_l03Put big a0
 (a1.snd.fst, IntKind.i64.wrap (y_1.snd.fst + a1.snd.snd.fst), ())).bind
 fun y => some (y, (0 : Int), PUnit.unit)
 else
 (Q_s_l03Put big a0 (a1.snd.fst, IntKind.i64.wrap (y_1.snd.fst + a1.snd.snd.fst), ())).bind
 fun y => some (y, (0 : Int), PUnit.unit)
 else none
 else
 (Q_s_l01In big a1.snd.snd.fst (0 : Int) (1000000000 : Int)).bind fun y_1 =>
 bif !y_1 then some (a0, (2 : Int), PUnit.unit)
 else
 bif decide (y < (0 : Int)) then
 bif decide ((12 : Int) ≤ (↑(List.length a0) : Int)) then some (a0, (2 : Int), PUnit.unit)
 else (Q_s_l03Put big a0 a1.snd).bind fun y => some (y, (0 : Int), PUnit.unit)
 else (Q_s_l03Put big a0 a1.snd).bind fun y => some (y, (0 : Int), PUnit.unit)
 else none := by kernel_rfl

end Go.Sx.Tryz

set_option maxRecDepth 100000
namespace Go.Sx.Tryz
open Go Go.Sx Go.Proofs

noncomputable def l_i_DoneAll : List (Nat × Con) := [(80, c_g_Clone_ICell), (87, c_i_Done)]
theorem l_i_DoneAll_ok : ∀ q ∈ l_i_DoneAll, ConOk Tryz.prog q.1 q.2 := Tryz.cons_cons c_g_Clone_ICell_ok (Tryz.cons_cons c_i_Done_ok (Tryz.cons_nil))
abbrev k_i_DoneAll_4 : List Keep × List BK := ([.drop, .drop, .drop, .drop, .drop, .drop, .own tXstruct_Key_string_Num_int_, .own tInt64, .drop, .drop, .drop, .drop, .drop, .drop, .drop, .ro tSlLCmd, .ro tInt64, .ro tInt64, .drop, .drop, .drop, .drop, .drop, .drop, .drop, .drop, .drop, .drop, .drop, .drop, .drop, .drop, .drop, .drop, .drop], [])
def kp_i_DoneAll : KP := [(4, k_i_DoneAll_4)]
noncomputable def q_i_DoneAll (n : Nat) (x : Args [tSlICell, tSlICmd]) := evX (false, false, [9, 999997]) l_i_DoneAll kp_i_DoneAll [some uSlICell, some uSlInt] Tryz.f43 (shT [(true, uSlICell), (true, uSlInt)]) n (encA [tSlICell, tSlICmd] x)
noncomputable def c_i_DoneAll : Con := roS [tSlICell, tSlICmd] true (shT [(true, uSlICell), (true, uSlInt)]) (q_i_DoneAll big)
theorem c_i_DoneAll_ok : ConOk Tryz.prog 43 c_i_DoneAll := roS_ok ⟨Tryz.f43, by kernel_rfl, rfl, by decide⟩ fun _ _ h => evX_ok l_i_DoneAll_ok (f := Tryz.f43) (by kernel_rfl) rfl (by kernel_rfl) (by kernel_rfl) big h
noncomputable def Q_i_DoneAll (n : Nat) (a0 : DSlICell) (a1 : DSlICmd) : Option (DSlICell × DSlInt × Unit) := q_i_DoneAll n (a0, a1, ())
noncomputable def r_i_DoneAll_4 (n : Nat) (x : KD k_i_DoneAll_4.1) (y : BD k_i_DoneAll_4.2) := rounds (env (false, false, [9, 999997]) l_i_DoneAll) kp_i_DoneAll (body Tryz.f43) (finX (false, false, [9, 999997]) l_i_DoneAll [some uSlICell, some uSlInt] Tryz.f43 (shT [(true, uSlICell), (true, uSlInt)]) [.val tSlICell (zeroD tSlICell), .val tSlICmd (zeroD tSlICmd)]) n 4 k_i_DoneAll_4 x y
noncomputable def R_i_DoneAll_4 (n : Nat) (s6 : (List DXstruct_Key_string_Num_int_)) (s7 : (List Int)) (s15 : DSlLCmd) (s16 : Int) (s17 : Int) : Option (DSlICell × DSlInt × Unit) := r_i_DoneAll_4 n (s6, s7, s15, s16, s17, ()) ()
theorem Q_i_DoneAll_eq (n : Nat) (a0 : DSlICell) (a1 : DSlICmd) : Q_i_DoneAll n a0 a1 =
    (Q_g_Clone_ICell big a0).bind fun y => R_i_DoneAll_4 n y [] a1 (↑(List.length a1) : Int) (0 : Int) := by kernel_rfl
theorem R_i_DoneAll_4_eq (n : Nat) (s6 : (List DXstruct_Key_string_Num_int_)) (s7 : (List Int)) (s15 : DSlLCmd) (s16 : Int) (s17 : Int) : R_i_DoneAll_4 (n + 1) s6 s7 s15 s16 s17 =
    bif decide (s17 < s16) then
 if (0 : Int) ≤ s17 then
 (nth s15 s17.toNat).bind fun y =>
 (Q_i_Done big s6 y).bind fun y =>
 if s7.length + (1 : Nat) ≤ lim2 then
 R_i_DoneAll_4 n y.fst (s7.append [y.snd.fst]) s15 s16 (IntKind.i64.wrap (s17 + (1 : Int)))
 else none
 else none
 else some (s6, s7, PUnit.unit) := by kernel_rfl

end Go.Sx.Tryz

set_option maxRecDepth 100000
namespace Go.Sx.Tryz
open Go Go.Sx Go.Proofs

noncomputable def l_s_DoneAll : List (Nat × Con) := [(72, c_s_Done)]
theorem l_s_DoneAll_ok : ∀ q ∈ l_s_DoneAll, ConOk Tryz.prog q.1 q.2 := Tryz.cons_cons c_s_Done_ok (Tryz.cons_nil)
abbrev k_s_DoneAll_4 : List Keep × List BK := ([.drop, .ro tSlLCmd, .drop, .drop, .drop, .drop, .own tXstruct_Key_string_Num_int_, .own tInt64, .ro tInt64, .drop, .drop, .drop, .drop, .drop, .drop, .drop, .drop, .drop, .drop, .drop, .drop, .drop, .drop, .drop, .drop, .drop, .drop, .drop, .drop, .drop, .drop, .drop, .drop, .drop, .drop, .drop, .drop], [])
def kp_s_DoneAll : KP := [(4, k_s_DoneAll_4)]
noncomputable def q_s_DoneAll (n : Nat) (x : Args [tSlICell, tSlICmd]) := evX (false, false, []) l_s_DoneAll kp_s_DoneAll [some uSlICell, some uSlInt] Tryz.f29 (shT [(true, uSlICell), (true, uSlInt)]) n (encA [tSlICell, tSlICmd] x)
noncomputable def c_s_DoneAll : Con := roS [tSlICell, tSlICmd] true (shT [(true, uSlICell), (true, uSlInt)]) (q_s_DoneAll big)
theorem c_s_DoneAll_ok : ConOk Tryz.prog 29 c_s_DoneAll := roS_ok ⟨Tryz.f29, by kernel_rfl, rfl, by decide⟩ fun _ _ h => evX_ok l_s_DoneAll_ok (f := Tryz.f29) (by kernel_rfl) rfl (by kernel_rfl) (by kernel_rfl) big h
noncomputable def Q_s_DoneAll (n : Nat) (a0 : DSlICell) (a1 : DSlICmd) : Option (DSlICell × DSlInt × Unit) := q_s_DoneAll n (a0, a1, ())
noncomputable def r_s_DoneAll_4 (n : Nat) (x : KD k_s_DoneAll_4.1) (y : BD k_s_DoneAll_4.2) := rounds (env (false, false, []) l_s_DoneAll) kp_s_DoneAll (body Tryz.f29) (finX (false, false, []) l_s_DoneAll [some uSlICell, some uSlInt] Tryz.f29 (shT [(true, uSlICell), (true, uSlInt)]) [.val tSlICell (zeroD tSlICell), .val tSlICmd (zeroD tSlICmd)]) n 4 k_s_DoneAll_4 x y
noncomputable def R_s_DoneAll_4 (n : Nat) (s1 : DSlLCmd) (s6 : (List DXstruct_Key_string_Num_int_)) (s7 : (List Int)) (s8 : Int) : Option (DSlICell × DSlInt × Unit) := r_s_DoneAll_4 n (s1, s6, s7, s8, ()) ()
theorem Q_s_DoneAll_eq (n : Nat) (a0 : DSlICell) (a1 : DSlICmd) : Q_s_DoneAll n a0 a1 =
    if (0 : Nat) + List.length a0 ≤ lim then R_s_DoneAll_4 n a1 a0 [] (0 : Int) else none := by kernel_rfl
theorem R_s_DoneAll_4_eq (n : Nat) (s1 : DSlLCmd) (s6 : (List DXstruct_Key_string_Num_int_)) (s7 : (List Int)) (s8 : Int) : R_s_DoneAll_4 (n + 1) s1 s6 s7 s8 =
    bif decide (s8 < (↑(List.length s1) : Int)) then
 if (0 : Int) ≤ s8 then
 (nth s1 s8.toNat).bind fun y =>
 (Q_s_Done big s6 y).bind fun y =>
 if s7.length + (1 : Nat) ≤ lim then
 R_s_DoneAll_4 n s1 y.fst (s7.append [y.snd.fst]) (IntKind.i64.wrap (s8 + (1 : Int)))
 else none
 else none
 else some (s6, s7, PUnit.unit) := by kernel_rfl

end Go.Sx.Tryz

set_option maxRecDepth 100000
namespace Go.Sx.Tryz
open Go Go.Sx Go.Proofs

noncomputable def l_i_cmdsOf : List (Nat × Con) := [(88, c_i_in)]
theorem l_i_cmdsOf_ok : ∀ q ∈ l_i_cmdsOf, ConOk Tryz.prog q.1 q.2 := Tryz.cons_cons c_i_in_ok (Tryz.cons_nil)
abbrev k_i_cmdsOf_3 : List Keep × List BK := ([.ro tSlLBlock, .drop, .drop, .drop, .drop, .own tXstruct_Kind_int_Key_string_Num_int_, .drop, .drop, .drop, .ro tSlInt, .ro tInt64, .ro tInt64, .drop, .drop, .drop, .drop, .drop, .drop, .drop, .drop, .drop, .drop, .drop, .drop, .drop, .drop, .drop, .drop, .drop], [])
def kp_i_cmdsOf : KP := [(3, k_i_cmdsOf_3)]
noncomputable def q_i_cmdsOf (n : Nat) (x : Args [tSlIBlock, tSlInt]) := evX (false, false, [999997]) l_i_cmdsOf kp_i_cmdsOf [some uSlICmd] Tryz.f44 (shF uSlICmd) n (encA [tSlIBlock, tSlInt] x)
noncomputable def c_i_cmdsOf : Con := roS [tSlIBlock, tSlInt] true (shF uSlICmd) (q_i_cmdsOf big)
theorem c_i_cmdsOf_ok : ConOk Tryz.prog 44 c_i_cmdsOf := roS_ok ⟨Tryz.f44, by kernel_rfl, rfl, by decide⟩ fun _ _ h => evX_ok l_i_cmdsOf_ok (f := Tryz.f44) (by kernel_rfl) rfl (by kernel_rfl) (by kernel_rfl) big h
noncomputable def Q_i_cmdsOf (n : Nat) (a0 : DSlIBlock) (a1 : DSlInt) : Option DSlICmd := q_i_cmdsOf n (a0, a1, ())
noncomputable def r_i_cmdsOf_3 (n : Nat) (x : KD k_i_cmdsOf_3.1) (y : BD k_i_cmdsOf_3.2) := rounds (env (false, false, [999997]) l_i_cmdsOf) kp_i_cmdsOf (body Tryz.f44) (finX (false, false, [999997]) l_i_cmdsOf [some uSlICmd] Tryz.f44 (shF uSlICmd) [.val tSlIBlock (zeroD tSlIBlock), .val tSlInt (zeroD tSlInt)]) n 3 k_i_cmdsOf_3 x y
noncomputable def R_i_cmdsOf_3 (n : Nat) (s0 : DSlLBlock) (s5 : (List DXstruct_Kind_int_Key_string_Num_int_)) (s9 : DSlInt) (s10 : Int) (s11 : Int) : Option DSlICmd := r_i_cmdsOf_3 n (s0, s5, s9, s10, s11, ()) ()
theorem Q_i_cmdsOf_eq (n : Nat) (a0 : DSlIBlock) (a1 : DSlInt) : Q_i_cmdsOf n a0 a1 =
    R_i_cmdsOf_3 n a0 [] a1 (↑(List.length a1) : Int) (0 : Int) := by kernel_rfl
theorem R_i_cmdsOf_3_eq (n : Nat) (s0 : DSlLBlock) (s5 : (List DXstruct_Kind_int_Key_string_Num_int_)) (s9 : DSlInt) (s10 : Int) (s11 : Int) : R_i_cmdsOf_3 (n + 1) s0 s5 s9 s10 s11 =
    bif decide (s11 < s10) then
 if (0 : Int) ≤ s11 then
 (nth s9 s11.toNat).bind fun y =>
 (Q_i_in big y (0 : Int) (IntKind.i64.wrap ((↑(List.length s0) : Int) - (1 : Int)))).bind fun y_1 =>
 bif y_1 then
 if (0 : Int) ≤ y then
 (nth s0 (Int.toNat y)).bind fun y =>
 if s5.length + List.length y.snd.snd.fst ≤ lim2 then
 R_i_cmdsOf_3 n s0 (s5.append y.snd.snd.fst) s9 s10 (IntKind.i64.wrap (s11 + (1 : Int)))
 else none
 else none
 else R_i_cmdsOf_3 n s0 s5 s9 s10 (IntKind.i64.wrap (s11 + (1 : Int)))
 else none
 else some s5 := by kernel_rfl

end Go.Sx.Tryz

set_option maxRecDepth 100000
namespace Go.Sx.Tryz
open Go Go.Sx Go.Proofs

noncomputable def l_i_wayDown : List (Nat × Con) := [(88, c_i_in)]
theorem l_i_wayDown_ok : ∀ q ∈ l_i_wayDown, ConOk Tryz.prog q.1 q.2 := Tryz.cons_cons c_i_in_ok (Tryz.cons_nil)
abbrev k_i_wayDown_4 : List Keep × List BK := ([.ro tSlLBlock, .ro tInt64, .drop, .drop, .drop, .drop, .own tInt64, .drop, .drop, .drop, .drop, .drop, .drop, .drop, .drop, .drop, .drop, .drop, .drop, .drop, .drop, .drop, .drop, .drop, .drop, .drop, .drop, .drop, .drop, .drop, .drop, .drop, .drop, .drop, .drop, .drop], [])
def kp_i_wayDown : KP := [(4, k_i_wayDown_4)]
noncomputable def q_i_wayDown (n : Nat) (x : Args [tSlIBlock, tInt]) := evX (false, false, []) l_i_wayDown kp_i_wayDown [some uSlInt, none] Tryz.f77 (shT [(true, uSlInt), (false, tBool)]) n (encA [tSlIBlock, tInt] x)
noncomputable def c_i_wayDown : Con := roS [tSlIBlock, tInt] true (shT [(true, uSlInt), (false, tBool)]) (q_i_wayDown big)
theorem c_i_wayDown_ok : ConOk Tryz.prog 77 c_i_wayDown := roS_ok ⟨Tryz.f77, by kernel_rfl, rfl, by decide⟩ fun _ _ h => evX_ok l_i_wayDown_ok (f := Tryz.f77) (by kernel_rfl) rfl (by kernel_rfl) (by kernel_rfl) big h
noncomputable def Q_i_wayDown (n : Nat) (a0 : DSlIBlock) (a1 : Int) : Option (DSlInt × Bool × Unit) := q_i_wayDown n (a0, a1, ())
noncomputable def r_i_wayDown_4 (n : Nat) (x : KD k_i_wayDown_4.1) (y : BD k_i_wayDown_4.2) := rounds (env (false, false, []) l_i_wayDown) kp_i_wayDown (body Tryz.f77) (finX (false, false, []) l_i_wayDown [some uSlInt, none] Tryz.f77 (shT [(true, uSlInt), (false, tBool)]) [.val tSlIBlock (zeroD tSlIBlock), .val tInt (zeroD tInt)]) n 4 k_i_wayDown_4 x y
noncomputable def R_i_wayDown_4 (n : Nat) (s0 : DSlLBlock) (s1 : Int) (s6 : (List Int)) : Option (DSlInt × Bool × Unit) := r_i_wayDown_4 n (s0, s1, s6, ()) ()
theorem Q_i_wayDown_eq (n : Nat) (a0 : DSlIBlock) (a1 : Int) : Q_i_wayDown n a0 a1 =
    (Q_i_in big a1 (0 : Int) (IntKind.i64.wrap ((↑(List.length a0) : Int) - (1 : Int)))).bind fun y =>
 bif !y then some ([], false, PUnit.unit) else R_i_wayDown_4 n a0 a1 [a1] := by kernel_rfl
theorem R_i_wayDown_4_eq (n : Nat) (s0 : DSlLBlock) (s1 : Int) (s6 : (List Int)) : R_i_wayDown_4 (n + 1) s0 s1 s6 =
    bif decide ((0 : Int) < s1) then
 if (0 : Int) ≤ s1 then
 (nth s0 s1.toNat).bind fun y =>
 (Q_i_in big y.fst (0 : Int) (IntKind.i64.wrap (s1 - (1 : Int)))).bind fun y =>
 bif !y then some ([], false, PUnit.unit)
 else
 if (0 : Int) ≤ s1 then
 (nth s0 s1.toNat).bind fun y =>
 if s6.length + [y.fst].length ≤ lim then R_i_wayDown_4 n s0 y.fst (s6.append [y.fst]) else none
 else none
 else none
 else some (s6, true, PUnit.unit) := by kernel_rfl

end Go.Sx.Tryz

set_option maxRecDepth 100000
namespace Go.Sx.Tryz
open Go Go.Sx Go.Proofs

noncomputable def l_g_Index_Int : List (Nat × Con) := []
theorem l_g_Index_Int_ok : ∀ q ∈ l_g_Index_Int, ConOk Tryz.prog q.1 q.2 := Tryz.cons_nil
abbrev k_g_Index_Int_2 : List Keep × List BK := ([.ro tSlInt, .ro tInt64, .drop, .drop, .drop, .drop, .drop, .ro tInt64, .ro tInt64, .drop, .drop, .drop, .drop, .drop, .drop, .drop, .drop, .drop, .drop], [])
def kp_g_Index_Int : KP := [(2, k_g_Index_Int_2)]
noncomputable def q_g_Index_Int (n : Nat) (x : Args [tSlInt, tInt]) := evX (false, false, []) l_g_Index_Int kp_g_Index_Int [none] Tryz.f86 (shV tInt) n (encA [tSlInt, tInt] x)
noncomputable def c_g_Index_Int : Con := roS [tSlInt, tInt] true (shV tInt) (q_g_Index_Int big)
theorem c_g_Index_Int_ok : ConOk Tryz.prog 86 c_g_Index_Int := roS_ok ⟨Tryz.f86, by kernel_rfl, rfl, by decide⟩ fun _ _ h => evX_ok l_g_Index_Int_ok (f := Tryz.f86) (by kernel_rfl) rfl (by kernel_rfl) (by kernel_rfl) big h
noncomputable def Q_g_Index_Int (n : Nat) (a0 : DSlInt) (a1 : Int) : Option Int := q_g_Index_Int n (a0, a1, ())
noncomputable def r_g_Index_Int_2 (n : Nat) (x : KD k_g_Index_Int_2.1) (y : BD k_g_Index_Int_2.2) := rounds (env (false, false, []) l_g_Index_Int) kp_g_Index_Int (body Tryz.f86) (finX (false, false, []) l_g_Index_Int [none] Tryz.f86 (shV tInt) [.val tSlInt (zeroD tSlInt), .val tInt (zeroD tInt)]) n 2 k_g_Index_Int_2 x y
noncomputable def R_g_Index_Int_2 (n : Nat) (s0 : DSlInt) (s1 : Int) (s7 : Int) (s8 : Int) : Option Int := r_g_Index_Int_2 n (s0, s1, s7, s8, ()) ()
theorem Q_g_Index_Int_eq (n : Nat) (a0 : DSlInt) (a1 : Int) : Q_g_Index_Int n a0 a1 =
    R_g_Index_Int_2 n a0 a1 (↑(List.length a0) : Int) (0 : Int) := by kernel_rfl
theorem R_g_Index_Int_2_eq (n : Nat) (s0 : DSlInt) (s1 : Int) (s7 : Int) (s8 : Int) : R_g_Index_Int_2 (n + 1) s0 s1 s7 s8 =
    bif decide (s8 < s7) then
 if (0 : Int) ≤ s8 then
 (nth s0 s8.toNat).bind fun y =>
 bif decide (s1 = y) then some s8 else R_g_Index_Int_2 n s0 s1 s7 (IntKind.i64.wrap (s8 + (1 : Int)))
 else none
 else some (-1 : Int) := by kernel_rfl

end Go.Sx.Tryz

set_option maxRecDepth 100000
namespace Go.Sx.Tryz
open Go Go.Sx Go.Proofs

noncomputable def l_g_Contains_Int : List (Nat × Con) := [(86, c_g_Index_Int)]
theorem l_g_Contains_Int_ok : ∀ q ∈ l_g_Contains_Int, ConOk Tryz.prog q.1 q.2 := Tryz.cons_cons c_g_Index_Int_ok (Tryz.cons_nil)
def kp_g_Contains_Int : KP := []
noncomputable def q_g_Contains_Int (n : Nat) (x : Args [tSlInt, tInt]) := evX (false, false, []) l_g_Contains_Int kp_g_Contains_Int [none] Tryz.f78 (shV tBool) n (encA [tSlInt, tInt] x)
noncomputable def c_g_Contains_Int : Con := roS [tSlInt, tInt] true (shV tBool) (q_g_Contains_Int big)
theorem c_g_Contains_Int_ok : ConOk Tryz.prog 78 c_g_Contains_Int := roS_ok ⟨Tryz.f78, by kernel_rfl, rfl, by decide⟩ fun _ _ h => evX_ok l_g_Contains_Int_ok (f := Tryz.f78) (by kernel_rfl) rfl (by kernel_rfl) (by kernel_rfl) big h
noncomputable def Q_g_Contains_Int (n : Nat) (a0 : DSlInt) (a1 : Int) : Option Bool := q_g_Contains_Int n (a0, a1, ())
theorem Q_g_Contains_Int_eq (n : Nat) (a0 : DSlInt) (a1 : Int) : Q_g_Contains_Int n a0 a1 =
    (Q_g_Index_Int big a0 a1).bind fun y => some (decide ((0 : Int) ≤ y)) := by kernel_rfl

end Go.Sx.Tryz

set_option maxRecDepth 100000
namespace Go.Sx.Tryz
open Go Go.Sx Go.Proofs

noncomputable def l_i_Extends : List (Nat × Con) := [(77, c_i_wayDown), (78, c_g_Contains_Int)]
theorem l_i_Extends_ok : ∀ q ∈ l_i_Extends, ConOk Tryz.prog q.1 q.2 := Tryz.cons_cons c_i_wayDown_ok (Tryz.cons_cons c_g_Contains_Int_ok (Tryz.cons_nil))
def kp_i_Extends : KP := []
noncomputable def q_i_Extends (n : Nat) (x : Args [tSlIBlock, tInt, tInt]) := evX (false, false, []) l_i_Extends kp_i_Extends [none] Tryz.f38 (shV tBool) n (encA [tSlIBlock, tInt, tInt] x)
noncomputable def c_i_Extends : Con := roS [tSlIBlock, tInt, tInt] true (shV tBool) (q_i_Extends big)
theorem c_i_Extends_ok : ConOk Tryz.prog 38 c_i_Extends := roS_ok ⟨Tryz.f38, by kernel_rfl, rfl, by decide⟩ fun _ _ h => evX_ok l_i_Extends_ok (f := Tryz.f38) (by kernel_rfl) rfl (by kernel_rfl) (by kernel_rfl) big h
noncomputable def Q_i_Extends (n : Nat) (a0 : DSlIBlock) (a1 : Int) (a2 : Int) : Option Bool := q_i_Extends n (a0, a1, a2, ())
theorem Q_i_Extends_eq (n : Nat) (a0 : DSlIBlock) (a1 : Int) (a2 : Int) : Q_i_Extends n a0 a1 a2 =
    (Q_i_wayDown big a0 a1).bind fun y =>
 bif y.snd.fst then (Q_g_Contains_Int big y.fst a2).bind fun y => some y else some false := by kernel_rfl

end Go.Sx.Tryz

set_option maxRecDepth 100000
namespace Go.Sx.Tryz
open Go Go.Sx Go.Proofs

noncomputable def l_g_Reverse_Int : List (Nat × Con) := []
theorem l_g_Reverse_Int_ok : ∀ q ∈ l_g_Reverse_Int, ConOk Tryz.prog q.1 q.2 := Tryz.cons_nil
abbrev k_g_Reverse_Int_1 : List Keep × List BK := ([.is (.own 0 0), .drop, .ro tInt64, .ro tInt64, .drop, .drop, .drop, .drop, .drop, .drop, .drop, .drop, .drop, .drop, .drop, .drop, .drop, .drop, .drop, .drop, .drop, .drop, .drop, .drop, .drop, .drop, .drop, .drop], [.arr tInt])
def kp_g_Reverse_Int : KP := [(1, k_g_Reverse_Int_1)]
noncomputable def q_g_Reverse_Int (n : Nat) (x : AP.denL [.io tInt]) := evX (false, false, []) l_g_Reverse_Int kp_g_Reverse_Int [] Tryz.f105 (shO shN [.io tInt]) n (AP.encL [.io tInt] x)
noncomputable def c_g_Reverse_Int : Con := apS [.io tInt] true (shO shN [.io tInt]) (q_g_Reverse_Int big)
theorem c_g_Reverse_Int_ok : ConOk Tryz.prog 105 c_g_Reverse_Int := apS_ok ⟨Tryz.f105, by kernel_rfl, rfl, by decide⟩ fun _ _ h => evX_ok l_g_Reverse_Int_ok (f := Tryz.f105) (by kernel_rfl) rfl (by kernel_rfl) (by kernel_rfl) big h
noncomputable def Q_g_Reverse_Int (n : Nat) (a0 : DSlInt) : Option (Unit × DSlInt × Unit) := q_g_Reverse_Int n (a0, ())
noncomputable def r_g_Reverse_Int_1 (n : Nat) (x : KD k_g_Reverse_Int_1.1) (y : BD k_g_Reverse_Int_1.2) := rounds (env (false, false, []) l_g_Reverse_Int) kp_g_Reverse_Int (body Tryz.f105) (finX (false, false, []) l_g_Reverse_Int [] Tryz.f105 (shO shN [.io tInt]) [AP.enc (.io tInt) []]) n 1 k_g_Reverse_Int_1 x y
noncomputable def R_g_Reverse_Int_1 (n : Nat) (s2 : Int) (s3 : Int) (b0 : (List Int)) : Option (Unit × DSlInt × Unit) := r_g_Reverse_Int_1 n (s2, s3, ()) (b0, ())
theorem Q_g_Reverse_Int_eq (n : Nat) (a0 : DSlInt) : Q_g_Reverse_Int n a0 =
    R_g_Reverse_Int_1 n (0 : Int) (IntKind.i64.wrap ((↑(List.length a0) : Int) - (1 : Int))) a0 := by kernel_rfl
theorem R_g_Reverse_Int_1_eq (n : Nat) (s2 : Int) (s3 : Int) (b0 : (List Int)) : R_g_Reverse_Int_1 (n + 1) s2 s3 b0 =
    bif decide (s2 < s3) then
 if (0 : Int) ≤ s3 then
 if s3 < (↑b0.length : Int) then
 (nth b0 s3.toNat).bind fun y =>
 if (0 : Int) ≤ s2 then
 if s2 < (↑b0.length : Int) then
 (nth b0 s2.toNat).bind fun y_1 =>
 if (0 : Int) ≤ s2 then
 if s2 < (↑b0.length : Int) then
 (nth b0 s2.toNat).bind fun y_2 =>
 (updO b0 s2.toNat y).bind fun y =>
 if (0 : Int) ≤ s3 then
 if s3 < (↑y.length : Int) then
 (nth y s3.toNat).bind fun y_3 =>
 (updO y s3.toNat y_1).bind fun y =>
 R_g_Reverse_Int_1 n (IntKind.i64.wrap (s2 + (1 : Int)))
 (IntKind.i64.wrap (s3 - (1 : Int))) y
 else none
 else none
 else none
 else none
 else none
 else none
 else none
 else none
 else some (PUnit.unit, b0, PUnit.unit) := by kernel_rfl

end Go.Sx.Tryz

set_option maxRecDepth 100000
namespace Go.Sx.Tryz
open Go Go.Sx Go.Proofs

noncomputable def l_i_RowTo : List (Nat × Con) := [(77, c_i_wayDown), (105, c_g_Reverse_Int)]
theorem l_i_RowTo_ok : ∀ q ∈ l_i_RowTo, ConOk Tryz.prog q.1 q.2 := Tryz.cons_cons c_i_wayDown_ok (Tryz.cons_cons c_g_Reverse_Int_ok (Tryz.cons_nil))
def kp_i_RowTo : KP := []
noncomputable def q_i_RowTo (n : Nat) (x : Args [tSlIBlock, tInt]) := evX (false, false, []) l_i_RowTo kp_i_RowTo [some uSlInt] Tryz.f85 (shF uSlInt) n (encA [tSlIBlock, tInt] x)
noncomputable def c_i_RowTo : Con := roS [tSlIBlock, tInt] true (shF uSlInt) (q_i_RowTo big)
theorem c_i_RowTo_ok : ConOk Tryz.prog 85 c_i_RowTo := roS_ok ⟨Tryz.f85, by kernel_rfl, rfl, by decide⟩ fun _ _ h => evX_ok l_i_RowTo_ok (f := Tryz.f85) (by kernel_rfl) rfl (by kernel_rfl) (by kernel_rfl) big h
noncomputable def Q_i_RowTo (n : Nat) (a0 : DSlIBlock) (a1 : Int) : Option DSlInt := q_i_RowTo n (a0, a1, ())
theorem Q_i_RowTo_eq (n : Nat) (a0 : DSlIBlock) (a1 : Int) : Q_i_RowTo n a0 a1 =
    (Q_i_wayDown big a0 a1).bind fun y =>
 bif !y.snd.fst then some []
 else
 (Q_g_Reverse_Int big y.fst).bind fun y =>
 if (1 : Int) ≤ (↑(List.length y.snd.fst) : Int) then
 some (List.take (List.length y.snd.fst - Int.toNat (1 : Int)) (List.drop (Int.toNat (1 : Int)) y.snd.fst))
 else none := by kernel_rfl

end Go.Sx.Tryz

set_option maxRecDepth 100000
namespace Go.Sx.Tryz
open Go Go.Sx Go.Proofs

noncomputable def l_i_RowAfter : List (Nat × Con) := [(38, c_i_Extends), (85, c_i_RowTo), (86, c_g_Index_Int)]
theorem l_i_RowAfter_ok : ∀ q ∈ l_i_RowAfter, ConOk Tryz.prog q.1 q.2 := Tryz.cons_cons c_i_Extends_ok (Tryz.cons_cons c_i_RowTo_ok (Tryz.cons_cons c_g_Index_Int_ok (Tryz.cons_nil)))
def kp_i_RowAfter : KP := []
noncomputable def q_i_RowAfter (n : Nat) (x : Args [tSlIBlock, tInt, tInt]) := evX (false, false, []) l_i_RowAfter kp_i_RowAfter [some uSlInt] Tryz.f42 (shF uSlInt) n (encA [tSlIBlock, tInt, tInt] x)
noncomputable def c_i_RowAfter : Con := roS [tSlIBlock, tInt, tInt] true (shF uSlInt) (q_i_RowAfter big)
theorem c_i_RowAfter_ok : ConOk Tryz.prog 42 c_i_RowAfter := roS_ok ⟨Tryz.f42, by kernel_rfl, rfl, by decide⟩ fun _ _ h => evX_ok l_i_RowAfter_ok (f := Tryz.f42) (by kernel_rfl) rfl (by kernel_rfl) (by kernel_rfl) big h
noncomputable def Q_i_RowAfter (n : Nat) (a0 : DSlIBlock) (a1 : Int) (a2 : Int) : Option DSlInt := q_i_RowAfter n (a0, a1, a2, ())
theorem Q_i_RowAfter_eq (n : Nat) (a0 : DSlIBlock) (a1 : Int) (a2 : Int) : Q_i_RowAfter n a0 a1 a2 =
    (Q_i_Extends big a0 a1 a2).bind fun y =>
 bif !y then some []
 else
 (Q_i_RowTo big a0 a1).bind fun y =>
 (Q_g_Index_Int big y a2).bind fun y_1 =>
 if (0 : Int) ≤ IntKind.i64.wrap (y_1 + (1 : Int)) then
 if IntKind.i64.wrap (y_1 + (1 : Int)) ≤ (↑(List.length y) : Int) then
 some
 (List.take (List.length y - (IntKind.i64.wrap (y_1 + (1 : Int))).toNat)
 (List.drop (IntKind.i64.wrap (y_1 + (1 : Int))).toNat y))
 else none
 else none := by kernel_rfl

end Go.Sx.Tryz

set_option maxRecDepth 100000
namespace Go.Sx.Tryz
open Go Go.Sx Go.Proofs

noncomputable def l_s_HeightOf : List (Nat × Con) := [(97, c_s_l01In)]
theorem l_s_HeightOf_ok : ∀ q ∈ l_s_HeightOf, ConOk Tryz.prog q.1 q.2 := Tryz.cons_cons c_s_l01In_ok (Tryz.cons_nil)
abbrev k_s_HeightOf_2 : List Keep × List BK := ([.ro tSlLBlock, .ro tInt64, .drop, .drop, .drop, .ro tInt64, .drop, .drop, .drop, .drop, .drop, .drop, .drop, .drop, .drop, .drop, .drop, .drop, .drop, .drop, .drop, .drop, .drop, .drop, .drop, .drop, .drop, .drop, .drop, .drop, .drop, .drop, .drop, .drop, .drop, .drop], [])
def kp_s_HeightOf : KP := [(2, k_s_HeightOf_2)]
noncomputable def q_s_HeightOf (n : Nat) (x : Args [tSlIBlock, tInt]) := evX (false, false, []) l_s_HeightOf kp_s_HeightOf [none] Tryz.f69 (shV tInt) n (encA [tSlIBlock, tInt] x)
noncomputable def c_s_HeightOf : Con := roS [tSlIBlock, tInt] true (shV tInt) (q_s_HeightOf big)
theorem c_s_HeightOf_ok : ConOk Tryz.prog 69 c_s_HeightOf := roS_ok ⟨Tryz.f69, by kernel_rfl, rfl, by decide⟩ fun _ _ h => evX_ok l_s_HeightOf_ok (f := Tryz.f69) (by kernel_rfl) rfl (by kernel_rfl) (by kernel_rfl) big h
noncomputable def Q_s_HeightOf (n : Nat) (a0 : DSlIBlock) (a1 : Int) : Option Int := q_s_HeightOf n (a0, a1, ())
noncomputable def r_s_HeightOf_2 (n : Nat) (x : KD k_s_HeightOf_2.1) (y : BD k_s_HeightOf_2.2) := rounds (env (false, false, []) l_s_HeightOf) kp_s_HeightOf (body Tryz.f69) (finX (false, false, []) l_s_HeightOf [none] Tryz.f69 (shV tInt) [.val tSlIBlock (zeroD tSlIBlock), .val tInt (zeroD tInt)]) n 2 k_s_HeightOf_2 x y
noncomputable def R_s_HeightOf_2 (n : Nat) (s0 : DSlLBlock) (s1 : Int) (s5 : Int) : Option Int := r_s_HeightOf_2 n (s0, s1, s5, ()) ()
theorem Q_s_HeightOf_eq (n : Nat) (a0 : DSlIBlock) (a1 : Int) : Q_s_HeightOf n a0 a1 =
    R_s_HeightOf_2 n a0 a1 (0 : Int) := by kernel_rfl
theorem R_s_HeightOf_2_eq (n : Nat) (s0 : DSlLBlock) (s1 : Int) (s5 : Int) : R_s_HeightOf_2 (n + 1) s0 s1 s5 =
    bif !decide (s1 = (0 : Int)) then
 (Q_s_l01In big s1 (0 : Int) (IntKind.i64.wrap ((↑(List.length s0) : Int) - (1 : Int)))).bind fun y =>
 bif !y then some (-1 : Int)
 else
 if (0 : Int) ≤ s1 then
 (nth s0 s1.toNat).bind fun y =>
 (Q_s_l01In big y.fst (0 : Int) (IntKind.i64.wrap (s1 - (1 : Int)))).bind fun y =>
 bif !y then some (-1 : Int)
 else
 if (0 : Int) ≤ s1 then
 (nth s0 s1.toNat).bind fun y => R_s_HeightOf_2 n s0 y.fst (IntKind.i64.wrap (s5 + (1 : Int)))
 else none
 else none
 else bif decide ((↑(List.length s0) : Int) = (0 : Int)) then some (-1 : Int) else some s5 := by kernel_rfl

end Go.Sx.Tryz
