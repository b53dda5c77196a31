/- The functions of the seat: what each comes to. -/
import Derived.Test.YtbamlihfaobfeaaTypes
set_option linter.unusedVariables false
set_option linter.unusedSimpArgs false
set_option maxRecDepth 100000
namespace Go.Sx.Try
open Go Go.Sx Go.Proofs

noncomputable def l_l_szCmd : List (Nat × Con) := []
theorem l_l_szCmd_ok : ∀ q ∈ l_l_szCmd, ConOk Try.prog q.1 q.2 := Try.cons_nil
def kp_l_szCmd : KP := []
noncomputable def q_l_szCmd (n : Nat) (x : Args [tLCmd, tInt]) := evX (false, false, [2, 6]) l_l_szCmd kp_l_szCmd [none] Try.f36 (shV tInt) n (encA [tLCmd, tInt] x)
noncomputable def c_l_szCmd : Con := roS [tLCmd, tInt] true (shV tInt) (q_l_szCmd big)
theorem c_l_szCmd_ok : ConOk Try.prog 36 c_l_szCmd := roS_ok ⟨Try.f36, by kernel_rfl, rfl, by decide⟩ fun _ _ h => evX_ok l_l_szCmd_ok (f := Try.f36) (by kernel_rfl) rfl (by kernel_rfl) (by kernel_rfl) big h
noncomputable def Q_l_szCmd (n : Nat) (a0 : DLCmd) (a1 : Int) : Option Int := q_l_szCmd n (a0, a1, ())
theorem Q_l_szCmd_eq (n : Nat) (a0 : DLCmd) (a1 : Int) : Q_l_szCmd n a0 a1 =
    bif decide (IntKind.i64.wrap (a1 - (↑(ByteArray.size a0.snd.fst) : Int)) < (0 : Int)) then some (-1 : Int)
 else some (IntKind.i64.wrap (a1 - (↑(ByteArray.size a0.snd.fst) : Int))) := by kernel_rfl

end Go.Sx.Try

set_option maxRecDepth 100000
namespace Go.Sx.Try
open Go Go.Sx Go.Proofs

noncomputable def l_l_szCmdS : List (Nat × Con) := [(36, c_l_szCmd)]
theorem l_l_szCmdS_ok : ∀ q ∈ l_l_szCmdS, ConOk Try.prog q.1 q.2 := Try.cons_cons c_l_szCmd_ok (Try.cons_nil)
abbrev k_l_szCmdS_5 : List Keep × List BK := ([.ro tSlLCmd, .ro tInt64, .drop, .drop, .drop, .ro tInt64, .drop, .drop, .drop, .drop, .drop, .drop, .drop, .drop, .drop, .drop, .drop, .drop, .drop, .drop, .drop, .drop, .drop, .drop, .drop, .drop, .drop], [])
def kp_l_szCmdS : KP := [(5, k_l_szCmdS_5)]
noncomputable def q_l_szCmdS (n : Nat) (x : Args [tSlLCmd, tInt]) := evX (false, false, []) l_l_szCmdS kp_l_szCmdS [none] Try.f68 (shV tInt) n (encA [tSlLCmd, tInt] x)
noncomputable def c_l_szCmdS : Con := roS [tSlLCmd, tInt] true (shV tInt) (q_l_szCmdS big)
theorem c_l_szCmdS_ok : ConOk Try.prog 68 c_l_szCmdS := roS_ok ⟨Try.f68, by kernel_rfl, rfl, by decide⟩ fun _ _ h => evX_ok l_l_szCmdS_ok (f := Try.f68) (by kernel_rfl) rfl (by kernel_rfl) (by kernel_rfl) big h
noncomputable def Q_l_szCmdS (n : Nat) (a0 : DSlLCmd) (a1 : Int) : Option Int := q_l_szCmdS n (a0, a1, ())
noncomputable def r_l_szCmdS_5 (n : Nat) (x : KD k_l_szCmdS_5.1) (y : BD k_l_szCmdS_5.2) := rounds (env (false, false, []) l_l_szCmdS) kp_l_szCmdS (body Try.f68) (finX (false, false, []) l_l_szCmdS [none] Try.f68 (shV tInt) [.val tSlLCmd (zeroD tSlLCmd), .val tInt (zeroD tInt)]) n 5 k_l_szCmdS_5 x y
noncomputable def R_l_szCmdS_5 (n : Nat) (s0 : DSlLCmd) (s1 : Int) (s5 : Int) : Option Int := r_l_szCmdS_5 n (s0, s1, s5, ()) ()
theorem Q_l_szCmdS_eq (n : Nat) (a0 : DSlLCmd) (a1 : Int) : Q_l_szCmdS n a0 a1 =
    bif decide (IntKind.i64.wrap (a1 - (↑(List.length a0) : Int)) < (0 : Int)) then some (-1 : Int)
 else R_l_szCmdS_5 n a0 (IntKind.i64.wrap (a1 - (↑(List.length a0) : Int))) (0 : Int) := by kernel_rfl
theorem R_l_szCmdS_5_eq (n : Nat) (s0 : DSlLCmd) (s1 : Int) (s5 : Int) : R_l_szCmdS_5 (n + 1) s0 s1 s5 =
    bif decide (s5 < (↑(List.length s0) : Int)) then
 if (0 : Int) ≤ s5 then
 (nth s0 s5.toNat).bind fun y =>
 (Q_l_szCmd big y s1).bind fun y =>
 bif decide (y < (0 : Int)) then some (-1 : Int) else R_l_szCmdS_5 n s0 y (IntKind.i64.wrap (s5 + (1 : Int)))
 else none
 else some s1 := by kernel_rfl

end Go.Sx.Try

set_option maxRecDepth 100000
namespace Go.Sx.Try
open Go Go.Sx Go.Proofs

noncomputable def l_l_szBlock : List (Nat × Con) := [(68, c_l_szCmdS)]
theorem l_l_szBlock_ok : ∀ q ∈ l_l_szBlock, ConOk Try.prog q.1 q.2 := Try.cons_cons c_l_szCmdS_ok (Try.cons_nil)
def kp_l_szBlock : KP := []
noncomputable def q_l_szBlock (n : Nat) (x : Args [tLBlock, tInt]) := evX (false, false, [2, 5]) l_l_szBlock kp_l_szBlock [none] Try.f133 (shV tInt) n (encA [tLBlock, tInt] x)
noncomputable def c_l_szBlock : Con := roS [tLBlock, tInt] true (shV tInt) (q_l_szBlock big)
theorem c_l_szBlock_ok : ConOk Try.prog 133 c_l_szBlock := roS_ok ⟨Try.f133, by kernel_rfl, rfl, by decide⟩ fun _ _ h => evX_ok l_l_szBlock_ok (f := Try.f133) (by kernel_rfl) rfl (by kernel_rfl) (by kernel_rfl) big h
noncomputable def Q_l_szBlock (n : Nat) (a0 : DLBlock) (a1 : Int) : Option Int := q_l_szBlock n (a0, a1, ())
theorem Q_l_szBlock_eq (n : Nat) (a0 : DLBlock) (a1 : Int) : Q_l_szBlock n a0 a1 =
    (Q_l_szCmdS big a0.snd.snd.fst a1).bind fun y => bif decide (y < (0 : Int)) then some (-1 : Int) else some y := by kernel_rfl

end Go.Sx.Try

set_option maxRecDepth 100000
namespace Go.Sx.Try
open Go Go.Sx Go.Proofs

noncomputable def l_l_szBlockS : List (Nat × Con) := [(133, c_l_szBlock)]
theorem l_l_szBlockS_ok : ∀ q ∈ l_l_szBlockS, ConOk Try.prog q.1 q.2 := Try.cons_cons c_l_szBlock_ok (Try.cons_nil)
abbrev k_l_szBlockS_5 : List Keep × List BK := ([.ro tSlLBlock, .ro tInt64, .drop, .drop, .drop, .ro tInt64, .drop, .drop, .drop, .drop, .drop, .drop, .drop, .drop, .drop, .drop, .drop, .drop, .drop, .drop, .drop, .drop, .drop, .drop, .drop, .drop, .drop], [])
def kp_l_szBlockS : KP := [(5, k_l_szBlockS_5)]
noncomputable def q_l_szBlockS (n : Nat) (x : Args [tSlLBlock, tInt]) := evX (false, false, []) l_l_szBlockS kp_l_szBlockS [none] Try.f56 (shV tInt) n (encA [tSlLBlock, tInt] x)
noncomputable def c_l_szBlockS : Con := roS [tSlLBlock, tInt] true (shV tInt) (q_l_szBlockS big)
theorem c_l_szBlockS_ok : ConOk Try.prog 56 c_l_szBlockS := roS_ok ⟨Try.f56, by kernel_rfl, rfl, by decide⟩ fun _ _ h => evX_ok l_l_szBlockS_ok (f := Try.f56) (by kernel_rfl) rfl (by kernel_rfl) (by kernel_rfl) big h
noncomputable def Q_l_szBlockS (n : Nat) (a0 : DSlLBlock) (a1 : Int) : Option Int := q_l_szBlockS n (a0, a1, ())
noncomputable def r_l_szBlockS_5 (n : Nat) (x : KD k_l_szBlockS_5.1) (y : BD k_l_szBlockS_5.2) := rounds (env (false, false, []) l_l_szBlockS) kp_l_szBlockS (body Try.f56) (finX (false, false, []) l_l_szBlockS [none] Try.f56 (shV tInt) [.val tSlLBlock (zeroD tSlLBlock), .val tInt (zeroD tInt)]) n 5 k_l_szBlockS_5 x y
noncomputable def R_l_szBlockS_5 (n : Nat) (s0 : DSlLBlock) (s1 : Int) (s5 : Int) : Option Int := r_l_szBlockS_5 n (s0, s1, s5, ()) ()
theorem Q_l_szBlockS_eq (n : Nat) (a0 : DSlLBlock) (a1 : Int) : Q_l_szBlockS n a0 a1 =
    bif decide (IntKind.i64.wrap (a1 - (↑(List.length a0) : Int)) < (0 : Int)) then some (-1 : Int)
 else R_l_szBlockS_5 n a0 (IntKind.i64.wrap (a1 - (↑(List.length a0) : Int))) (0 : Int) := by kernel_rfl
theorem R_l_szBlockS_5_eq (n : Nat) (s0 : DSlLBlock) (s1 : Int) (s5 : Int) : R_l_szBlockS_5 (n + 1) s0 s1 s5 =
    bif decide (s5 < (↑(List.length s0) : Int)) then
 if (0 : Int) ≤ s5 then
 (nth s0 s5.toNat).bind fun y =>
 (Q_l_szBlock big y s1).bind fun y =>
 bif decide (y < (0 : Int)) then some (-1 : Int) else R_l_szBlockS_5 n s0 y (IntKind.i64.wrap (s5 + (1 : Int)))
 else none
 else some s1 := by kernel_rfl

end Go.Sx.Try

set_option maxRecDepth 100000
namespace Go.Sx.Try
open Go Go.Sx Go.Proofs

noncomputable def l_l_szIntS : List (Nat × Con) := []
theorem l_l_szIntS_ok : ∀ q ∈ l_l_szIntS, ConOk Try.prog q.1 q.2 := Try.cons_nil
def kp_l_szIntS : KP := []
noncomputable def q_l_szIntS (n : Nat) (x : Args [tSlInt, tInt]) := evX (false, false, []) l_l_szIntS kp_l_szIntS [none] Try.f84 (shV tInt) n (encA [tSlInt, tInt] x)
noncomputable def c_l_szIntS : Con := roS [tSlInt, tInt] true (shV tInt) (q_l_szIntS big)
theorem c_l_szIntS_ok : ConOk Try.prog 84 c_l_szIntS := roS_ok ⟨Try.f84, by kernel_rfl, rfl, by decide⟩ fun _ _ h => evX_ok l_l_szIntS_ok (f := Try.f84) (by kernel_rfl) rfl (by kernel_rfl) (by kernel_rfl) big h
noncomputable def Q_l_szIntS (n : Nat) (a0 : DSlInt) (a1 : Int) : Option Int := q_l_szIntS n (a0, a1, ())
theorem Q_l_szIntS_eq (n : Nat) (a0 : DSlInt) (a1 : Int) : Q_l_szIntS n a0 a1 =
    bif decide (IntKind.i64.wrap (a1 - (↑(List.length a0) : Int)) < (0 : Int)) then some (-1 : Int)
 else some (IntKind.i64.wrap (a1 - (↑(List.length a0) : Int))) := by kernel_rfl

end Go.Sx.Try

set_option maxRecDepth 100000
namespace Go.Sx.Try
open Go Go.Sx Go.Proofs

noncomputable def l_l_szCell : List (Nat × Con) := []
theorem l_l_szCell_ok : ∀ q ∈ l_l_szCell, ConOk Try.prog q.1 q.2 := Try.cons_nil
def kp_l_szCell : KP := []
noncomputable def q_l_szCell (n : Nat) (x : Args [tLCell, tInt]) := evX (false, false, [2, 6]) l_l_szCell kp_l_szCell [none] Try.f148 (shV tInt) n (encA [tLCell, tInt] x)
noncomputable def c_l_szCell : Con := roS [tLCell, tInt] true (shV tInt) (q_l_szCell big)
theorem c_l_szCell_ok : ConOk Try.prog 148 c_l_szCell := roS_ok ⟨Try.f148, by kernel_rfl, rfl, by decide⟩ fun _ _ h => evX_ok l_l_szCell_ok (f := Try.f148) (by kernel_rfl) rfl (by kernel_rfl) (by kernel_rfl) big h
noncomputable def Q_l_szCell (n : Nat) (a0 : DLCell) (a1 : Int) : Option Int := q_l_szCell n (a0, a1, ())
theorem Q_l_szCell_eq (n : Nat) (a0 : DLCell) (a1 : Int) : Q_l_szCell n a0 a1 =
    bif decide (IntKind.i64.wrap (a1 - (↑(ByteArray.size a0.fst) : Int)) < (0 : Int)) then some (-1 : Int)
 else some (IntKind.i64.wrap (a1 - (↑(ByteArray.size a0.fst) : Int))) := by kernel_rfl

end Go.Sx.Try

set_option maxRecDepth 100000
namespace Go.Sx.Try
open Go Go.Sx Go.Proofs

noncomputable def l_l_szCellS : List (Nat × Con) := [(148, c_l_szCell)]
theorem l_l_szCellS_ok : ∀ q ∈ l_l_szCellS, ConOk Try.prog q.1 q.2 := Try.cons_cons c_l_szCell_ok (Try.cons_nil)
abbrev k_l_szCellS_5 : List Keep × List BK := ([.ro tSlICell, .ro tInt64, .drop, .drop, .drop, .ro tInt64, .drop, .drop, .drop, .drop, .drop, .drop, .drop, .drop, .drop, .drop, .drop, .drop, .drop, .drop, .drop, .drop, .drop, .drop, .drop, .drop, .drop], [])
def kp_l_szCellS : KP := [(5, k_l_szCellS_5)]
noncomputable def q_l_szCellS (n : Nat) (x : Args [tSlLCell, tInt]) := evX (false, false, []) l_l_szCellS kp_l_szCellS [none] Try.f85 (shV tInt) n (encA [tSlLCell, tInt] x)
noncomputable def c_l_szCellS : Con := roS [tSlLCell, tInt] true (shV tInt) (q_l_szCellS big)
theorem c_l_szCellS_ok : ConOk Try.prog 85 c_l_szCellS := roS_ok ⟨Try.f85, by kernel_rfl, rfl, by decide⟩ fun _ _ h => evX_ok l_l_szCellS_ok (f := Try.f85) (by kernel_rfl) rfl (by kernel_rfl) (by kernel_rfl) big h
noncomputable def Q_l_szCellS (n : Nat) (a0 : DSlLCell) (a1 : Int) : Option Int := q_l_szCellS n (a0, a1, ())
noncomputable def r_l_szCellS_5 (n : Nat) (x : KD k_l_szCellS_5.1) (y : BD k_l_szCellS_5.2) := rounds (env (false, false, []) l_l_szCellS) kp_l_szCellS (body Try.f85) (finX (false, false, []) l_l_szCellS [none] Try.f85 (shV tInt) [.val tSlLCell (zeroD tSlLCell), .val tInt (zeroD tInt)]) n 5 k_l_szCellS_5 x y
noncomputable def R_l_szCellS_5 (n : Nat) (s0 : DSlICell) (s1 : Int) (s5 : Int) : Option Int := r_l_szCellS_5 n (s0, s1, s5, ()) ()
theorem Q_l_szCellS_eq (n : Nat) (a0 : DSlLCell) (a1 : Int) : Q_l_szCellS n a0 a1 =
    bif decide (IntKind.i64.wrap (a1 - (↑(List.length a0) : Int)) < (0 : Int)) then some (-1 : Int)
 else R_l_szCellS_5 n a0 (IntKind.i64.wrap (a1 - (↑(List.length a0) : Int))) (0 : Int) := by kernel_rfl
theorem R_l_szCellS_5_eq (n : Nat) (s0 : DSlICell) (s1 : Int) (s5 : Int) : R_l_szCellS_5 (n + 1) s0 s1 s5 =
    bif decide (s5 < (↑(List.length s0) : Int)) then
 if (0 : Int) ≤ s5 then
 (nth s0 s5.toNat).bind fun y =>
 (Q_l_szCell big y s1).bind fun y =>
 bif decide (y < (0 : Int)) then some (-1 : Int) else R_l_szCellS_5 n s0 y (IntKind.i64.wrap (s5 + (1 : Int)))
 else none
 else some s1 := by kernel_rfl

end Go.Sx.Try

set_option maxRecDepth 100000
namespace Go.Sx.Try
open Go Go.Sx Go.Proofs

noncomputable def l_l_szUndo : List (Nat × Con) := []
theorem l_l_szUndo_ok : ∀ q ∈ l_l_szUndo, ConOk Try.prog q.1 q.2 := Try.cons_nil
def kp_l_szUndo : KP := []
noncomputable def q_l_szUndo (n : Nat) (x : Args [tLUndo, tInt]) := evX (false, false, [2, 6]) l_l_szUndo kp_l_szUndo [none] Try.f149 (shV tInt) n (encA [tLUndo, tInt] x)
noncomputable def c_l_szUndo : Con := roS [tLUndo, tInt] true (shV tInt) (q_l_szUndo big)
theorem c_l_szUndo_ok : ConOk Try.prog 149 c_l_szUndo := roS_ok ⟨Try.f149, by kernel_rfl, rfl, by decide⟩ fun _ _ h => evX_ok l_l_szUndo_ok (f := Try.f149) (by kernel_rfl) rfl (by kernel_rfl) (by kernel_rfl) big h
noncomputable def Q_l_szUndo (n : Nat) (a0 : DLUndo) (a1 : Int) : Option Int := q_l_szUndo n (a0, a1, ())
theorem Q_l_szUndo_eq (n : Nat) (a0 : DLUndo) (a1 : Int) : Q_l_szUndo n a0 a1 =
    bif decide (IntKind.i64.wrap (a1 - (↑(ByteArray.size a0.fst) : Int)) < (0 : Int)) then some (-1 : Int)
 else some (IntKind.i64.wrap (a1 - (↑(ByteArray.size a0.fst) : Int))) := by kernel_rfl

end Go.Sx.Try

set_option maxRecDepth 100000
namespace Go.Sx.Try
open Go Go.Sx Go.Proofs

noncomputable def l_l_szUndoS : List (Nat × Con) := [(149, c_l_szUndo)]
theorem l_l_szUndoS_ok : ∀ q ∈ l_l_szUndoS, ConOk Try.prog q.1 q.2 := Try.cons_cons c_l_szUndo_ok (Try.cons_nil)
abbrev k_l_szUndoS_5 : List Keep × List BK := ([.ro tSlIUndo, .ro tInt64, .drop, .drop, .drop, .ro tInt64, .drop, .drop, .drop, .drop, .drop, .drop, .drop, .drop, .drop, .drop, .drop, .drop, .drop, .drop, .drop, .drop, .drop, .drop, .drop, .drop, .drop], [])
def kp_l_szUndoS : KP := [(5, k_l_szUndoS_5)]
noncomputable def q_l_szUndoS (n : Nat) (x : Args [tSlLUndo, tInt]) := evX (false, false, []) l_l_szUndoS kp_l_szUndoS [none] Try.f86 (shV tInt) n (encA [tSlLUndo, tInt] x)
noncomputable def c_l_szUndoS : Con := roS [tSlLUndo, tInt] true (shV tInt) (q_l_szUndoS big)
theorem c_l_szUndoS_ok : ConOk Try.prog 86 c_l_szUndoS := roS_ok ⟨Try.f86, by kernel_rfl, rfl, by decide⟩ fun _ _ h => evX_ok l_l_szUndoS_ok (f := Try.f86) (by kernel_rfl) rfl (by kernel_rfl) (by kernel_rfl) big h
noncomputable def Q_l_szUndoS (n : Nat) (a0 : DSlLUndo) (a1 : Int) : Option Int := q_l_szUndoS n (a0, a1, ())
noncomputable def r_l_szUndoS_5 (n : Nat) (x : KD k_l_szUndoS_5.1) (y : BD k_l_szUndoS_5.2) := rounds (env (false, false, []) l_l_szUndoS) kp_l_szUndoS (body Try.f86) (finX (false, false, []) l_l_szUndoS [none] Try.f86 (shV tInt) [.val tSlLUndo (zeroD tSlLUndo), .val tInt (zeroD tInt)]) n 5 k_l_szUndoS_5 x y
noncomputable def R_l_szUndoS_5 (n : Nat) (s0 : DSlIUndo) (s1 : Int) (s5 : Int) : Option Int := r_l_szUndoS_5 n (s0, s1, s5, ()) ()
theorem Q_l_szUndoS_eq (n : Nat) (a0 : DSlLUndo) (a1 : Int) : Q_l_szUndoS n a0 a1 =
    bif decide (IntKind.i64.wrap (a1 - (↑(List.length a0) : Int)) < (0 : Int)) then some (-1 : Int)
 else R_l_szUndoS_5 n a0 (IntKind.i64.wrap (a1 - (↑(List.length a0) : Int))) (0 : Int) := by kernel_rfl
theorem R_l_szUndoS_5_eq (n : Nat) (s0 : DSlIUndo) (s1 : Int) (s5 : Int) : R_l_szUndoS_5 (n + 1) s0 s1 s5 =
    bif decide (s5 < (↑(List.length s0) : Int)) then
 if (0 : Int) ≤ s5 then
 (nth s0 s5.toNat).bind fun y =>
 (Q_l_szUndo big y s1).bind fun y =>
 bif decide (y < (0 : Int)) then some (-1 : Int) else R_l_szUndoS_5 n s0 y (IntKind.i64.wrap (s5 + (1 : Int)))
 else none
 else some s1 := by kernel_rfl

end Go.Sx.Try

set_option maxRecDepth 100000
namespace Go.Sx.Try
open Go Go.Sx Go.Proofs

noncomputable def l_l_szVoteS : List (Nat × Con) := []
theorem l_l_szVoteS_ok : ∀ q ∈ l_l_szVoteS, ConOk Try.prog q.1 q.2 := Try.cons_nil
def kp_l_szVoteS : KP := []
noncomputable def q_l_szVoteS (n : Nat) (x : Args [tSlLVote, tInt]) := evX (false, false, []) l_l_szVoteS kp_l_szVoteS [none] Try.f87 (shV tInt) n (encA [tSlLVote, tInt] x)
noncomputable def c_l_szVoteS : Con := roS [tSlLVote, tInt] true (shV tInt) (q_l_szVoteS big)
theorem c_l_szVoteS_ok : ConOk Try.prog 87 c_l_szVoteS := roS_ok ⟨Try.f87, by kernel_rfl, rfl, by decide⟩ fun _ _ h => evX_ok l_l_szVoteS_ok (f := Try.f87) (by kernel_rfl) rfl (by kernel_rfl) (by kernel_rfl) big h
noncomputable def Q_l_szVoteS (n : Nat) (a0 : DSlLVote) (a1 : Int) : Option Int := q_l_szVoteS n (a0, a1, ())
theorem Q_l_szVoteS_eq (n : Nat) (a0 : DSlLVote) (a1 : Int) : Q_l_szVoteS n a0 a1 =
    bif decide (IntKind.i64.wrap (a1 - (↑(List.length a0) : Int)) < (0 : Int)) then some (-1 : Int)
 else some (IntKind.i64.wrap (a1 - (↑(List.length a0) : Int))) := by kernel_rfl

end Go.Sx.Try

set_option maxRecDepth 100000
namespace Go.Sx.Try
open Go Go.Sx Go.Proofs

noncomputable def l_l_szLetterS : List (Nat × Con) := []
theorem l_l_szLetterS_ok : ∀ q ∈ l_l_szLetterS, ConOk Try.prog q.1 q.2 := Try.cons_nil
def kp_l_szLetterS : KP := []
noncomputable def q_l_szLetterS (n : Nat) (x : Args [tSlLLetter, tInt]) := evX (false, false, []) l_l_szLetterS kp_l_szLetterS [none] Try.f42 (shV tInt) n (encA [tSlLLetter, tInt] x)
noncomputable def c_l_szLetterS : Con := roS [tSlLLetter, tInt] true (shV tInt) (q_l_szLetterS big)
theorem c_l_szLetterS_ok : ConOk Try.prog 42 c_l_szLetterS := roS_ok ⟨Try.f42, by kernel_rfl, rfl, by decide⟩ fun _ _ h => evX_ok l_l_szLetterS_ok (f := Try.f42) (by kernel_rfl) rfl (by kernel_rfl) (by kernel_rfl) big h
noncomputable def Q_l_szLetterS (n : Nat) (a0 : DSlLLetter) (a1 : Int) : Option Int := q_l_szLetterS n (a0, a1, ())
theorem Q_l_szLetterS_eq (n : Nat) (a0 : DSlLLetter) (a1 : Int) : Q_l_szLetterS n a0 a1 =
    bif decide (IntKind.i64.wrap (a1 - (↑(List.length a0) : Int)) < (0 : Int)) then some (-1 : Int)
 else some (IntKind.i64.wrap (a1 - (↑(List.length a0) : Int))) := by kernel_rfl

end Go.Sx.Try

set_option maxRecDepth 100000
namespace Go.Sx.Try
open Go Go.Sx Go.Proofs

noncomputable def l_l_szPeer : List (Nat × Con) := [(84, c_l_szIntS), (85, c_l_szCellS), (86, c_l_szUndoS), (87, c_l_szVoteS), (42, c_l_szLetterS)]
theorem l_l_szPeer_ok : ∀ q ∈ l_l_szPeer, ConOk Try.prog q.1 q.2 := Try.cons_cons c_l_szIntS_ok (Try.cons_cons c_l_szCellS_ok (Try.cons_cons c_l_szUndoS_ok (Try.cons_cons c_l_szVoteS_ok (Try.cons_cons c_l_szLetterS_ok (Try.cons_nil)))))
def kp_l_szPeer : KP := []
noncomputable def q_l_szPeer (n : Nat) (x : Args [tLPeer, tInt]) := evX (false, false, [2, 5, 11, 17, 23, 29, 35]) l_l_szPeer kp_l_szPeer [none] Try.f21 (shV tInt) n (encA [tLPeer, tInt] x)
noncomputable def c_l_szPeer : Con := roS [tLPeer, tInt] true (shV tInt) (q_l_szPeer big)
theorem c_l_szPeer_ok : ConOk Try.prog 21 c_l_szPeer := roS_ok ⟨Try.f21, by kernel_rfl, rfl, by decide⟩ fun _ _ h => evX_ok l_l_szPeer_ok (f := Try.f21) (by kernel_rfl) rfl (by kernel_rfl) (by kernel_rfl) big h
noncomputable def Q_l_szPeer (n : Nat) (a0 : DLPeer) (a1 : Int) : Option Int := q_l_szPeer n (a0, a1, ())
theorem Q_l_szPeer_eq (n : Nat) (a0 : DLPeer) (a1 : Int) : Q_l_szPeer n a0 a1 =
    (Q_l_szIntS big a0.snd.snd.snd.snd.snd.fst a1).bind fun y =>
 bif decide (y < (0 : Int)) then some (-1 : Int)
 else
 (Q_l_szCellS big a0.snd.snd.snd.snd.snd.snd.fst y).bind fun y =>
 bif decide (y < (0 : Int)) then some (-1 : Int)
 else
 (Q_l_szIntS big a0.snd.snd.snd.snd.snd.snd.snd.fst y).bind fun y =>
 bif decide (y < (0 : Int)) then some (-1 : Int)
 else
 (Q_l_szUndoS big a0.snd.snd.snd.snd.snd.snd.snd.snd.fst y).bind fun y =>
 bif decide (y < (0 : Int)) then some (-1 : Int)
 else
 (Q_l_szVoteS big a0.snd.snd.snd.snd.snd.snd.snd.snd.snd.fst y).bind fun y =>
 bif decide (y < (0 : Int)) then some (-1 : Int)
 else
 (Q_l_szLetterS big a0.snd.snd.snd.snd.snd.snd.snd.snd.snd.snd.fst y).bind fun y =>
 bif decide (y < (0 : Int)) then some (-1 : Int) else some y := by kernel_rfl

end Go.Sx.Try

set_option maxRecDepth 100000
namespace Go.Sx.Try
open Go Go.Sx Go.Proofs

noncomputable def l_l_szPeerS : List (Nat × Con) := [(21, c_l_szPeer)]
theorem l_l_szPeerS_ok : ∀ q ∈ l_l_szPeerS, ConOk Try.prog q.1 q.2 := Try.cons_cons c_l_szPeer_ok (Try.cons_nil)
abbrev k_l_szPeerS_5 : List Keep × List BK := ([.ro tSlLPeer, .ro tInt64, .drop, .drop, .drop, .ro tInt64, .drop, .drop, .drop, .drop, .drop, .drop, .drop, .drop, .drop, .drop, .drop, .drop, .drop, .drop, .drop, .drop, .drop, .drop, .drop, .drop, .drop], [])
def kp_l_szPeerS : KP := [(5, k_l_szPeerS_5)]
noncomputable def q_l_szPeerS (n : Nat) (x : Args [tSlLPeer, tInt]) := evX (false, false, []) l_l_szPeerS kp_l_szPeerS [none] Try.f101 (shV tInt) n (encA [tSlLPeer, tInt] x)
noncomputable def c_l_szPeerS : Con := roS [tSlLPeer, tInt] true (shV tInt) (q_l_szPeerS big)
theorem c_l_szPeerS_ok : ConOk Try.prog 101 c_l_szPeerS := roS_ok ⟨Try.f101, by kernel_rfl, rfl, by decide⟩ fun _ _ h => evX_ok l_l_szPeerS_ok (f := Try.f101) (by kernel_rfl) rfl (by kernel_rfl) (by kernel_rfl) big h
noncomputable def Q_l_szPeerS (n : Nat) (a0 : DSlLPeer) (a1 : Int) : Option Int := q_l_szPeerS n (a0, a1, ())
noncomputable def r_l_szPeerS_5 (n : Nat) (x : KD k_l_szPeerS_5.1) (y : BD k_l_szPeerS_5.2) := rounds (env (false, false, []) l_l_szPeerS) kp_l_szPeerS (body Try.f101) (finX (false, false, []) l_l_szPeerS [none] Try.f101 (shV tInt) [.val tSlLPeer (zeroD tSlLPeer), .val tInt (zeroD tInt)]) n 5 k_l_szPeerS_5 x y
noncomputable def R_l_szPeerS_5 (n : Nat) (s0 : DSlLPeer) (s1 : Int) (s5 : Int) : Option Int := r_l_szPeerS_5 n (s0, s1, s5, ()) ()
theorem Q_l_szPeerS_eq (n : Nat) (a0 : DSlLPeer) (a1 : Int) : Q_l_szPeerS n a0 a1 =
    bif decide (IntKind.i64.wrap (a1 - (↑(List.length a0) : Int)) < (0 : Int)) then some (-1 : Int)
 else R_l_szPeerS_5 n a0 (IntKind.i64.wrap (a1 - (↑(List.length a0) : Int))) (0 : Int) := by kernel_rfl
theorem R_l_szPeerS_5_eq (n : Nat) (s0 : DSlLPeer) (s1 : Int) (s5 : Int) : R_l_szPeerS_5 (n + 1) s0 s1 s5 =
    bif decide (s5 < (↑(List.length s0) : Int)) then
 if (0 : Int) ≤ s5 then
 (nth s0 s5.toNat).bind fun y =>
 (Q_l_szPeer big y s1).bind fun y =>
 bif decide (y < (0 : Int)) then some (-1 : Int) else R_l_szPeerS_5 n s0 y (IntKind.i64.wrap (s5 + (1 : Int)))
 else none
 else some s1 := by kernel_rfl

end Go.Sx.Try

set_option maxRecDepth 100000
namespace Go.Sx.Try
open Go Go.Sx Go.Proofs

noncomputable def l_l_szCluster : List (Nat × Con) := [(56, c_l_szBlockS), (101, c_l_szPeerS), (42, c_l_szLetterS), (87, c_l_szVoteS), (68, c_l_szCmdS)]
theorem l_l_szCluster_ok : ∀ q ∈ l_l_szCluster, ConOk Try.prog q.1 q.2 := Try.cons_cons c_l_szBlockS_ok (Try.cons_cons c_l_szPeerS_ok (Try.cons_cons c_l_szLetterS_ok (Try.cons_cons c_l_szVoteS_ok (Try.cons_cons c_l_szCmdS_ok (Try.cons_nil)))))
def kp_l_szCluster : KP := []
noncomputable def q_l_szCluster (n : Nat) (x : Args [tLCluster, tInt]) := evX (false, false, [2, 5, 11, 17, 23, 29]) l_l_szCluster kp_l_szCluster [none] Try.f31 (shV tInt) n (encA [tLCluster, tInt] x)
noncomputable def c_l_szCluster : Con := roS [tLCluster, tInt] true (shV tInt) (q_l_szCluster big)
theorem c_l_szCluster_ok : ConOk Try.prog 31 c_l_szCluster := roS_ok ⟨Try.f31, by kernel_rfl, rfl, by decide⟩ fun _ _ h => evX_ok l_l_szCluster_ok (f := Try.f31) (by kernel_rfl) rfl (by kernel_rfl) (by kernel_rfl) big h
noncomputable def Q_l_szCluster (n : Nat) (a0 : DLCluster) (a1 : Int) : Option Int := q_l_szCluster n (a0, a1, ())
theorem Q_l_szCluster_eq (n : Nat) (a0 : DLCluster) (a1 : Int) : Q_l_szCluster n a0 a1 =
    (Q_l_szBlockS big a0.snd.snd.snd.fst a1).bind fun y =>
 bif decide (y < (0 : Int)) then some (-1 : Int)
 else
 (Q_l_szPeerS big a0.snd.snd.snd.snd.fst y).bind fun y =>
 bif decide (y < (0 : Int)) then some (-1 : Int)
 else
 (Q_l_szLetterS big a0.snd.snd.snd.snd.snd.fst y).bind fun y =>
 bif decide (y < (0 : Int)) then some (-1 : Int)
 else
 (Q_l_szVoteS big a0.snd.snd.snd.snd.snd.snd.fst y).bind fun y =>
 bif decide (y < (0 : Int)) then some (-1 : Int)
 else
 (Q_l_szCmdS big a0.snd.snd.snd.snd.snd.snd.snd.fst y).bind fun y =>
 bif decide (y < (0 : Int)) then some (-1 : Int) else some y := by kernel_rfl

end Go.Sx.Try

set_option maxRecDepth 100000
namespace Go.Sx.Try
open Go Go.Sx Go.Proofs

noncomputable def l_l_toCmd : List (Nat × Con) := []
theorem l_l_toCmd_ok : ∀ q ∈ l_l_toCmd, ConOk Try.prog q.1 q.2 := Try.cons_nil
def kp_l_toCmd : KP := []
noncomputable def q_l_toCmd (n : Nat) (x : Args [tLCmd]) := evX (false, false, [1, 3, 4, 7, 10]) l_l_toCmd kp_l_toCmd [none] Try.f38 (shV tICmd) n (encA [tLCmd] x)
noncomputable def c_l_toCmd : Con := roS [tLCmd] true (shV tICmd) (q_l_toCmd big)
theorem c_l_toCmd_ok : ConOk Try.prog 38 c_l_toCmd := roS_ok ⟨Try.f38, by kernel_rfl, rfl, by decide⟩ fun _ _ h => evX_ok l_l_toCmd_ok (f := Try.f38) (by kernel_rfl) rfl (by kernel_rfl) (by kernel_rfl) big h
noncomputable def Q_l_toCmd (n : Nat) (a0 : DLCmd) : Option DICmd := q_l_toCmd n (a0, ())
theorem Q_l_toCmd_eq (n : Nat) (a0 : DLCmd) : Q_l_toCmd n a0 =
    some a0 := by kernel_rfl

end Go.Sx.Try

set_option maxRecDepth 100000
namespace Go.Sx.Try
open Go Go.Sx Go.Proofs

noncomputable def l_l_toCmdS : List (Nat × Con) := [(38, c_l_toCmd)]
theorem l_l_toCmdS_ok : ∀ q ∈ l_l_toCmdS, ConOk Try.prog q.1 q.2 := Try.cons_cons c_l_toCmd_ok (Try.cons_nil)
abbrev k_l_toCmdS_3 : List Keep × List BK := ([.ro tSlLCmd, .drop, .drop, .is (.own 0 0), .ro tInt64, .drop, .drop, .drop, .drop, .drop, .drop, .drop, .drop, .drop, .drop, .drop, .drop, .drop, .drop, .drop, .drop, .drop, .drop], [.arr tXstruct_Kind_int_Key_string_Num_int_])
def kp_l_toCmdS : KP := [(3, k_l_toCmdS_3)]
noncomputable def q_l_toCmdS (n : Nat) (x : Args [tSlLCmd]) := evX (false, false, []) l_l_toCmdS kp_l_toCmdS [some uSlICmd] Try.f70 (shF uSlICmd) n (encA [tSlLCmd] x)
noncomputable def c_l_toCmdS : Con := roS [tSlLCmd] true (shF uSlICmd) (q_l_toCmdS big)
theorem c_l_toCmdS_ok : ConOk Try.prog 70 c_l_toCmdS := roS_ok ⟨Try.f70, by kernel_rfl, rfl, by decide⟩ fun _ _ h => evX_ok l_l_toCmdS_ok (f := Try.f70) (by kernel_rfl) rfl (by kernel_rfl) (by kernel_rfl) big h
noncomputable def Q_l_toCmdS (n : Nat) (a0 : DSlLCmd) : Option DSlICmd := q_l_toCmdS n (a0, ())
noncomputable def r_l_toCmdS_3 (n : Nat) (x : KD k_l_toCmdS_3.1) (y : BD k_l_toCmdS_3.2) := rounds (env (false, false, []) l_l_toCmdS) kp_l_toCmdS (body Try.f70) (finX (false, false, []) l_l_toCmdS [some uSlICmd] Try.f70 (shF uSlICmd) [.val tSlLCmd (zeroD tSlLCmd)]) n 3 k_l_toCmdS_3 x y
noncomputable def R_l_toCmdS_3 (n : Nat) (s0 : DSlLCmd) (s4 : Int) (b0 : (List DXstruct_Kind_int_Key_string_Num_int_)) : Option DSlICmd := r_l_toCmdS_3 n (s0, s4, ()) (b0, ())
theorem Q_l_toCmdS_eq (n : Nat) (a0 : DSlLCmd) : Q_l_toCmdS n a0 =
    if (↑(List.length a0) : Int) ≤ (↑(List.length a0) : Int) then
 if (↑(List.length a0) : Int) ≤ (↑lim : Int) then
 R_l_toCmdS_3 n a0 (0 : Int)
 (List.replicate (↑(List.length a0) : Int).toNat
 (zeroD (bif (env (false, false, []) l_l_toCmdS).nest then tICmd.uq else tICmd)))
 else none
 else none := by kernel_rfl
theorem R_l_toCmdS_3_eq (n : Nat) (s0 : DSlLCmd) (s4 : Int) (b0 : (List DXstruct_Kind_int_Key_string_Num_int_)) : R_l_toCmdS_3 (n + 1) s0 s4 b0 =
    bif decide (s4 < (↑(List.length s0) : Int)) then
 if (0 : Int) ≤ s4 then
 (nth s0 s4.toNat).bind fun y =>
 if (0 : Int) ≤ s4 then
 if s4 < (↑b0.length : Int) then
 (nth b0 s4.toNat).bind fun y_1 =>
 (updO b0 s4.toNat y).bind fun y => R_l_toCmdS_3 n s0 (IntKind.i64.wrap (s4 + (1 : Int))) y
 else none
 else none
 else none
 else some b0 := by kernel_rfl

end Go.Sx.Try

set_option maxRecDepth 100000
namespace Go.Sx.Try
open Go Go.Sx Go.Proofs

noncomputable def l_l_toQc : List (Nat × Con) := []
theorem l_l_toQc_ok : ∀ q ∈ l_l_toQc, ConOk Try.prog q.1 q.2 := Try.cons_nil
def kp_l_toQc : KP := []
noncomputable def q_l_toQc (n : Nat) (x : Args [tLQc]) := evX (false, false, [1, 3, 4, 7, 10, 13]) l_l_toQc kp_l_toQc [none] Try.f89 (shV tIQc) n (encA [tLQc] x)
noncomputable def c_l_toQc : Con := roS [tLQc] true (shV tIQc) (q_l_toQc big)
theorem c_l_toQc_ok : ConOk Try.prog 89 c_l_toQc := roS_ok ⟨Try.f89, by kernel_rfl, rfl, by decide⟩ fun _ _ h => evX_ok l_l_toQc_ok (f := Try.f89) (by kernel_rfl) rfl (by kernel_rfl) (by kernel_rfl) big h
noncomputable def Q_l_toQc (n : Nat) (a0 : DLQc) : Option DIQc := q_l_toQc n (a0, ())
theorem Q_l_toQc_eq (n : Nat) (a0 : DLQc) : Q_l_toQc n a0 =
    some a0 := by kernel_rfl

end Go.Sx.Try

set_option maxRecDepth 100000
namespace Go.Sx.Try
open Go Go.Sx Go.Proofs

noncomputable def l_l_toBlock : List (Nat × Con) := [(70, c_l_toCmdS), (89, c_l_toQc)]
theorem l_l_toBlock_ok : ∀ q ∈ l_l_toBlock, ConOk Try.prog q.1 q.2 := Try.cons_cons c_l_toCmdS_ok (Try.cons_cons c_l_toQc_ok (Try.cons_nil))
def kp_l_toBlock : KP := []
noncomputable def q_l_toBlock (n : Nat) (x : Args [tLBlock]) := evX (false, false, [1, 3, 4, 7, 10, 14]) l_l_toBlock kp_l_toBlock [some uIBlock] Try.f135 (shF uIBlock) n (encA [tLBlock] x)
noncomputable def c_l_toBlock : Con := roS [tLBlock] true (shF uIBlock) (q_l_toBlock big)
theorem c_l_toBlock_ok : ConOk Try.prog 135 c_l_toBlock := roS_ok ⟨Try.f135, by kernel_rfl, rfl, by decide⟩ fun _ _ h => evX_ok l_l_toBlock_ok (f := Try.f135) (by kernel_rfl) rfl (by kernel_rfl) (by kernel_rfl) big h
noncomputable def Q_l_toBlock (n : Nat) (a0 : DLBlock) : Option DIBlock := q_l_toBlock n (a0, ())
theorem Q_l_toBlock_eq (n : Nat) (a0 : DLBlock) : Q_l_toBlock n a0 =
    (Q_l_toCmdS big a0.snd.snd.fst).bind fun y => some (a0.fst, a0.snd.fst, y, a0.snd.snd.snd) := by kernel_rfl

end Go.Sx.Try

set_option maxRecDepth 100000
namespace Go.Sx.Try
open Go Go.Sx Go.Proofs

noncomputable def l_l_toBlockS : List (Nat × Con) := [(135, c_l_toBlock)]
theorem l_l_toBlockS_ok : ∀ q ∈ l_l_toBlockS, ConOk Try.prog q.1 q.2 := Try.cons_cons c_l_toBlock_ok (Try.cons_nil)
abbrev k_l_toBlockS_3 : List Keep × List BK := ([.ro tSlLBlock, .drop, .drop, .is (.own 0 0), .ro tInt64, .drop, .drop, .drop, .drop, .drop, .drop, .drop, .drop, .drop, .drop, .drop, .drop, .drop, .drop, .drop, .drop, .drop, .drop], [.arr uXstruct_Parent_int_View_int_Cmds_laws_Cmd])
def kp_l_toBlockS : KP := [(3, k_l_toBlockS_3)]
noncomputable def q_l_toBlockS (n : Nat) (x : Args [tSlLBlock]) := evX (true, false, []) l_l_toBlockS kp_l_toBlockS [some uSlIBlock] Try.f58 (shF uSlIBlock) n (encA [tSlLBlock] x)
noncomputable def c_l_toBlockS : Con := roS [tSlLBlock] true (shF uSlIBlock) (q_l_toBlockS big)
theorem c_l_toBlockS_ok : ConOk Try.prog 58 c_l_toBlockS := roS_ok ⟨Try.f58, by kernel_rfl, rfl, by decide⟩ fun _ _ h => evX_ok l_l_toBlockS_ok (f := Try.f58) (by kernel_rfl) rfl (by kernel_rfl) (by kernel_rfl) big h
noncomputable def Q_l_toBlockS (n : Nat) (a0 : DSlLBlock) : Option DSlIBlock := q_l_toBlockS n (a0, ())
noncomputable def r_l_toBlockS_3 (n : Nat) (x : KD k_l_toBlockS_3.1) (y : BD k_l_toBlockS_3.2) := rounds (env (true, false, []) l_l_toBlockS) kp_l_toBlockS (body Try.f58) (finX (true, false, []) l_l_toBlockS [some uSlIBlock] Try.f58 (shF uSlIBlock) [.val tSlLBlock (zeroD tSlLBlock)]) n 3 k_l_toBlockS_3 x y
noncomputable def R_l_toBlockS_3 (n : Nat) (s0 : DSlLBlock) (s4 : Int) (b0 : (List DXstruct_Parent_int_View_int_Cmds_laws_Cmd)) : Option DSlIBlock := r_l_toBlockS_3 n (s0, s4, ()) (b0, ())
theorem Q_l_toBlockS_eq (n : Nat) (a0 : DSlLBlock) : Q_l_toBlockS n a0 =
    if (↑(List.length a0) : Int) ≤ (↑(List.length a0) : Int) then
 if (↑(List.length a0) : Int) ≤ (↑lim : Int) then
 R_l_toBlockS_3 n a0 (0 : Int)
 (List.replicate (↑(List.length a0) : Int).toNat
 (zeroD (bif (env (true, false, []) l_l_toBlockS).nest then tIBlock.uq else tIBlock)))
 else none
 else none := by kernel_rfl
theorem R_l_toBlockS_3_eq (n : Nat) (s0 : DSlLBlock) (s4 : Int) (b0 : (List DXstruct_Parent_int_View_int_Cmds_laws_Cmd)) : R_l_toBlockS_3 (n + 1) s0 s4 b0 =
    bif decide (s4 < (↑(List.length s0) : Int)) then
 if (0 : Int) ≤ s4 then
 (nth s0 s4.toNat).bind fun y =>
 (Q_l_toBlock big y).bind fun y =>
 if (0 : Int) ≤ s4 then
 if s4 < (↑b0.length : Int) then
 (nth b0 s4.toNat).bind fun y_1 =>
 (updO b0 s4.toNat y).bind fun y => R_l_toBlockS_3 n s0 (IntKind.i64.wrap (s4 + (1 : Int))) y
 else none
 else none
 else none
 else some b0 := by kernel_rfl

end Go.Sx.Try

set_option maxRecDepth 100000
namespace Go.Sx.Try
open Go Go.Sx Go.Proofs

noncomputable def l_l_toVote : List (Nat × Con) := []
theorem l_l_toVote_ok : ∀ q ∈ l_l_toVote, ConOk Try.prog q.1 q.2 := Try.cons_nil
def kp_l_toVote : KP := []
noncomputable def q_l_toVote (n : Nat) (x : Args [tLVote]) := evX (false, false, [1, 3, 4, 7, 10, 13]) l_l_toVote kp_l_toVote [none] Try.f90 (shV tIVote) n (encA [tLVote] x)
noncomputable def c_l_toVote : Con := roS [tLVote] true (shV tIVote) (q_l_toVote big)
theorem c_l_toVote_ok : ConOk Try.prog 90 c_l_toVote := roS_ok ⟨Try.f90, by kernel_rfl, rfl, by decide⟩ fun _ _ h => evX_ok l_l_toVote_ok (f := Try.f90) (by kernel_rfl) rfl (by kernel_rfl) (by kernel_rfl) big h
noncomputable def Q_l_toVote (n : Nat) (a0 : DLVote) : Option DIVote := q_l_toVote n (a0, ())
theorem Q_l_toVote_eq (n : Nat) (a0 : DLVote) : Q_l_toVote n a0 =
    some a0 := by kernel_rfl

end Go.Sx.Try

set_option maxRecDepth 100000
namespace Go.Sx.Try
open Go Go.Sx Go.Proofs

noncomputable def l_l_toIntS : List (Nat × Con) := []
theorem l_l_toIntS_ok : ∀ q ∈ l_l_toIntS, ConOk Try.prog q.1 q.2 := Try.cons_nil
abbrev k_l_toIntS_3 : List Keep × List BK := ([.ro tSlInt, .drop, .drop, .is (.own 0 0), .ro tInt64, .drop, .drop, .drop, .drop, .drop, .drop, .drop, .drop, .drop, .drop, .drop, .drop, .drop, .drop, .drop, .drop, .drop], [.arr tInt64])
def kp_l_toIntS : KP := [(3, k_l_toIntS_3)]
noncomputable def q_l_toIntS (n : Nat) (x : Args [tSlInt]) := evX (false, false, []) l_l_toIntS kp_l_toIntS [some uSlInt] Try.f59 (shF uSlInt) n (encA [tSlInt] x)
noncomputable def c_l_toIntS : Con := roS [tSlInt] true (shF uSlInt) (q_l_toIntS big)
theorem c_l_toIntS_ok : ConOk Try.prog 59 c_l_toIntS := roS_ok ⟨Try.f59, by kernel_rfl, rfl, by decide⟩ fun _ _ h => evX_ok l_l_toIntS_ok (f := Try.f59) (by kernel_rfl) rfl (by kernel_rfl) (by kernel_rfl) big h
noncomputable def Q_l_toIntS (n : Nat) (a0 : DSlInt) : Option DSlInt := q_l_toIntS n (a0, ())
noncomputable def r_l_toIntS_3 (n : Nat) (x : KD k_l_toIntS_3.1) (y : BD k_l_toIntS_3.2) := rounds (env (false, false, []) l_l_toIntS) kp_l_toIntS (body Try.f59) (finX (false, false, []) l_l_toIntS [some uSlInt] Try.f59 (shF uSlInt) [.val tSlInt (zeroD tSlInt)]) n 3 k_l_toIntS_3 x y
noncomputable def R_l_toIntS_3 (n : Nat) (s0 : DSlInt) (s4 : Int) (b0 : (List Int)) : Option DSlInt := r_l_toIntS_3 n (s0, s4, ()) (b0, ())
theorem Q_l_toIntS_eq (n : Nat) (a0 : DSlInt) : Q_l_toIntS n a0 =
    if (↑(List.length a0) : Int) ≤ (↑(List.length a0) : Int) then
 if (↑(List.length a0) : Int) ≤ (↑lim : Int) then
 R_l_toIntS_3 n a0 (0 : Int)
 (List.replicate (↑(List.length a0) : Int).toNat
 (zeroD (bif (env (false, false, []) l_l_toIntS).nest then tInt.uq else tInt)))
 else none
 else none := by kernel_rfl
theorem R_l_toIntS_3_eq (n : Nat) (s0 : DSlInt) (s4 : Int) (b0 : (List Int)) : R_l_toIntS_3 (n + 1) s0 s4 b0 =
    bif decide (s4 < (↑(List.length s0) : Int)) then
 if (0 : Int) ≤ s4 then
 (nth s0 s4.toNat).bind fun y =>
 if (0 : Int) ≤ s4 then
 if s4 < (↑b0.length : Int) then
 (nth b0 s4.toNat).bind fun y_1 =>
 (updO b0 s4.toNat y).bind fun y => R_l_toIntS_3 n s0 (IntKind.i64.wrap (s4 + (1 : Int))) y
 else none
 else none
 else none
 else some b0 := by kernel_rfl

end Go.Sx.Try

set_option maxRecDepth 100000
namespace Go.Sx.Try
open Go Go.Sx Go.Proofs

noncomputable def l_l_toCell : List (Nat × Con) := []
theorem l_l_toCell_ok : ∀ q ∈ l_l_toCell, ConOk Try.prog q.1 q.2 := Try.cons_nil
def kp_l_toCell : KP := []
noncomputable def q_l_toCell (n : Nat) (x : Args [tLCell]) := evX (false, false, [1, 3, 4, 7]) l_l_toCell kp_l_toCell [none] Try.f150 (shV tICell) n (encA [tLCell] x)
noncomputable def c_l_toCell : Con := roS [tLCell] true (shV tICell) (q_l_toCell big)
theorem c_l_toCell_ok : ConOk Try.prog 150 c_l_toCell := roS_ok ⟨Try.f150, by kernel_rfl, rfl, by decide⟩ fun _ _ h => evX_ok l_l_toCell_ok (f := Try.f150) (by kernel_rfl) rfl (by kernel_rfl) (by kernel_rfl) big h
noncomputable def Q_l_toCell (n : Nat) (a0 : DLCell) : Option DICell := q_l_toCell n (a0, ())
theorem Q_l_toCell_eq (n : Nat) (a0 : DLCell) : Q_l_toCell n a0 =
    some a0 := by kernel_rfl

end Go.Sx.Try

set_option maxRecDepth 100000
namespace Go.Sx.Try
open Go Go.Sx Go.Proofs

noncomputable def l_l_toCellS : List (Nat × Con) := [(150, c_l_toCell)]
theorem l_l_toCellS_ok : ∀ q ∈ l_l_toCellS, ConOk Try.prog q.1 q.2 := Try.cons_cons c_l_toCell_ok (Try.cons_nil)
abbrev k_l_toCellS_3 : List Keep × List BK := ([.ro tSlICell, .drop, .drop, .is (.own 0 0), .ro tInt64, .drop, .drop, .drop, .drop, .drop, .drop, .drop, .drop, .drop, .drop, .drop, .drop, .drop, .drop, .drop, .drop, .drop, .drop], [.arr tXstruct_Key_string_Num_int_])
def kp_l_toCellS : KP := [(3, k_l_toCellS_3)]
noncomputable def q_l_toCellS (n : Nat) (x : Args [tSlLCell]) := evX (false, false, []) l_l_toCellS kp_l_toCellS [some uSlICell] Try.f91 (shF uSlICell) n (encA [tSlLCell] x)
noncomputable def c_l_toCellS : Con := roS [tSlLCell] true (shF uSlICell) (q_l_toCellS big)
theorem c_l_toCellS_ok : ConOk Try.prog 91 c_l_toCellS := roS_ok ⟨Try.f91, by kernel_rfl, rfl, by decide⟩ fun _ _ h => evX_ok l_l_toCellS_ok (f := Try.f91) (by kernel_rfl) rfl (by kernel_rfl) (by kernel_rfl) big h
noncomputable def Q_l_toCellS (n : Nat) (a0 : DSlLCell) : Option DSlICell := q_l_toCellS n (a0, ())
noncomputable def r_l_toCellS_3 (n : Nat) (x : KD k_l_toCellS_3.1) (y : BD k_l_toCellS_3.2) := rounds (env (false, false, []) l_l_toCellS) kp_l_toCellS (body Try.f91) (finX (false, false, []) l_l_toCellS [some uSlICell] Try.f91 (shF uSlICell) [.val tSlLCell (zeroD tSlLCell)]) n 3 k_l_toCellS_3 x y
noncomputable def R_l_toCellS_3 (n : Nat) (s0 : DSlICell) (s4 : Int) (b0 : (List DXstruct_Key_string_Num_int_)) : Option DSlICell := r_l_toCellS_3 n (s0, s4, ()) (b0, ())
theorem Q_l_toCellS_eq (n : Nat) (a0 : DSlLCell) : Q_l_toCellS n a0 =
    if (↑(List.length a0) : Int) ≤ (↑(List.length a0) : Int) then
 if (↑(List.length a0) : Int) ≤ (↑lim : Int) then
 R_l_toCellS_3 n a0 (0 : Int)
 (List.replicate (↑(List.length a0) : Int).toNat
 (zeroD (bif (env (false, false, []) l_l_toCellS).nest then tICell.uq else tICell)))
 else none
 else none := by kernel_rfl
theorem R_l_toCellS_3_eq (n : Nat) (s0 : DSlICell) (s4 : Int) (b0 : (List DXstruct_Key_string_Num_int_)) : R_l_toCellS_3 (n + 1) s0 s4 b0 =
    bif decide (s4 < (↑(List.length s0) : Int)) then
 if (0 : Int) ≤ s4 then
 (nth s0 s4.toNat).bind fun y =>
 if (0 : Int) ≤ s4 then
 if s4 < (↑b0.length : Int) then
 (nth b0 s4.toNat).bind fun y_1 =>
 (updO b0 s4.toNat y).bind fun y => R_l_toCellS_3 n s0 (IntKind.i64.wrap (s4 + (1 : Int))) y
 else none
 else none
 else none
 else some b0 := by kernel_rfl

end Go.Sx.Try

set_option maxRecDepth 100000
namespace Go.Sx.Try
open Go Go.Sx Go.Proofs

noncomputable def l_l_toUndo : List (Nat × Con) := []
theorem l_l_toUndo_ok : ∀ q ∈ l_l_toUndo, ConOk Try.prog q.1 q.2 := Try.cons_nil
def kp_l_toUndo : KP := []
noncomputable def q_l_toUndo (n : Nat) (x : Args [tLUndo]) := evX (false, false, [1, 3, 4, 7, 10]) l_l_toUndo kp_l_toUndo [none] Try.f151 (shV tIUndo) n (encA [tLUndo] x)
noncomputable def c_l_toUndo : Con := roS [tLUndo] true (shV tIUndo) (q_l_toUndo big)
theorem c_l_toUndo_ok : ConOk Try.prog 151 c_l_toUndo := roS_ok ⟨Try.f151, by kernel_rfl, rfl, by decide⟩ fun _ _ h => evX_ok l_l_toUndo_ok (f := Try.f151) (by kernel_rfl) rfl (by kernel_rfl) (by kernel_rfl) big h
noncomputable def Q_l_toUndo (n : Nat) (a0 : DLUndo) : Option DIUndo := q_l_toUndo n (a0, ())
theorem Q_l_toUndo_eq (n : Nat) (a0 : DLUndo) : Q_l_toUndo n a0 =
    some a0 := by kernel_rfl

end Go.Sx.Try

set_option maxRecDepth 100000
namespace Go.Sx.Try
open Go Go.Sx Go.Proofs

noncomputable def l_l_toUndoS : List (Nat × Con) := [(151, c_l_toUndo)]
theorem l_l_toUndoS_ok : ∀ q ∈ l_l_toUndoS, ConOk Try.prog q.1 q.2 := Try.cons_cons c_l_toUndo_ok (Try.cons_nil)
abbrev k_l_toUndoS_3 : List Keep × List BK := ([.ro tSlIUndo, .drop, .drop, .is (.own 0 0), .ro tInt64, .drop, .drop, .drop, .drop, .drop, .drop, .drop, .drop, .drop, .drop, .drop, .drop, .drop, .drop, .drop, .drop, .drop, .drop], [.arr tXstruct_Key_string_Had_bool_Num_int_])
def kp_l_toUndoS : KP := [(3, k_l_toUndoS_3)]
noncomputable def q_l_toUndoS (n : Nat) (x : Args [tSlLUndo]) := evX (false, false, []) l_l_toUndoS kp_l_toUndoS [some uSlIUndo] Try.f92 (shF uSlIUndo) n (encA [tSlLUndo] x)
noncomputable def c_l_toUndoS : Con := roS [tSlLUndo] true (shF uSlIUndo) (q_l_toUndoS big)
theorem c_l_toUndoS_ok : ConOk Try.prog 92 c_l_toUndoS := roS_ok ⟨Try.f92, by kernel_rfl, rfl, by decide⟩ fun _ _ h => evX_ok l_l_toUndoS_ok (f := Try.f92) (by kernel_rfl) rfl (by kernel_rfl) (by kernel_rfl) big h
noncomputable def Q_l_toUndoS (n : Nat) (a0 : DSlLUndo) : Option DSlIUndo := q_l_toUndoS n (a0, ())
noncomputable def r_l_toUndoS_3 (n : Nat) (x : KD k_l_toUndoS_3.1) (y : BD k_l_toUndoS_3.2) := rounds (env (false, false, []) l_l_toUndoS) kp_l_toUndoS (body Try.f92) (finX (false, false, []) l_l_toUndoS [some uSlIUndo] Try.f92 (shF uSlIUndo) [.val tSlLUndo (zeroD tSlLUndo)]) n 3 k_l_toUndoS_3 x y
noncomputable def R_l_toUndoS_3 (n : Nat) (s0 : DSlIUndo) (s4 : Int) (b0 : (List DXstruct_Key_string_Had_bool_Num_int_)) : Option DSlIUndo := r_l_toUndoS_3 n (s0, s4, ()) (b0, ())
theorem Q_l_toUndoS_eq (n : Nat) (a0 : DSlLUndo) : Q_l_toUndoS n a0 =
    if (↑(List.length a0) : Int) ≤ (↑(List.length a0) : Int) then
 if (↑(List.length a0) : Int) ≤ (↑lim : Int) then
 R_l_toUndoS_3 n a0 (0 : Int)
 (List.replicate (↑(List.length a0) : Int).toNat
 (zeroD (bif (env (false, false, []) l_l_toUndoS).nest then tIUndo.uq else tIUndo)))
 else none
 else none := by kernel_rfl
theorem R_l_toUndoS_3_eq (n : Nat) (s0 : DSlIUndo) (s4 : Int) (b0 : (List DXstruct_Key_string_Had_bool_Num_int_)) : R_l_toUndoS_3 (n + 1) s0 s4 b0 =
    bif decide (s4 < (↑(List.length s0) : Int)) then
 if (0 : Int) ≤ s4 then
 (nth s0 s4.toNat).bind fun y =>
 if (0 : Int) ≤ s4 then
 if s4 < (↑b0.length : Int) then
 (nth b0 s4.toNat).bind fun y_1 =>
 (updO b0 s4.toNat y).bind fun y => R_l_toUndoS_3 n s0 (IntKind.i64.wrap (s4 + (1 : Int))) y
 else none
 else none
 else none
 else some b0 := by kernel_rfl

end Go.Sx.Try

set_option maxRecDepth 100000
namespace Go.Sx.Try
open Go Go.Sx Go.Proofs

noncomputable def l_l_toVoteS : List (Nat × Con) := [(90, c_l_toVote)]
theorem l_l_toVoteS_ok : ∀ q ∈ l_l_toVoteS, ConOk Try.prog q.1 q.2 := Try.cons_cons c_l_toVote_ok (Try.cons_nil)
abbrev k_l_toVoteS_3 : List Keep × List BK := ([.ro tSlIVote, .drop, .drop, .is (.own 0 0), .ro tInt64, .drop, .drop, .drop, .drop, .drop, .drop, .drop, .drop, .drop, .drop, .drop, .drop, .drop, .drop, .drop, .drop, .drop, .drop], [.arr tXstruct_Phase_int_View_int_Block_int_Sign])
def kp_l_toVoteS : KP := [(3, k_l_toVoteS_3)]
noncomputable def q_l_toVoteS (n : Nat) (x : Args [tSlLVote]) := evX (false, false, []) l_l_toVoteS kp_l_toVoteS [some uSlIVote] Try.f93 (shF uSlIVote) n (encA [tSlLVote] x)
noncomputable def c_l_toVoteS : Con := roS [tSlLVote] true (shF uSlIVote) (q_l_toVoteS big)
theorem c_l_toVoteS_ok : ConOk Try.prog 93 c_l_toVoteS := roS_ok ⟨Try.f93, by kernel_rfl, rfl, by decide⟩ fun _ _ h => evX_ok l_l_toVoteS_ok (f := Try.f93) (by kernel_rfl) rfl (by kernel_rfl) (by kernel_rfl) big h
noncomputable def Q_l_toVoteS (n : Nat) (a0 : DSlLVote) : Option DSlIVote := q_l_toVoteS n (a0, ())
noncomputable def r_l_toVoteS_3 (n : Nat) (x : KD k_l_toVoteS_3.1) (y : BD k_l_toVoteS_3.2) := rounds (env (false, false, []) l_l_toVoteS) kp_l_toVoteS (body Try.f93) (finX (false, false, []) l_l_toVoteS [some uSlIVote] Try.f93 (shF uSlIVote) [.val tSlLVote (zeroD tSlLVote)]) n 3 k_l_toVoteS_3 x y
noncomputable def R_l_toVoteS_3 (n : Nat) (s0 : DSlIVote) (s4 : Int) (b0 : (List DXstruct_Phase_int_View_int_Block_int_Sign)) : Option DSlIVote := r_l_toVoteS_3 n (s0, s4, ()) (b0, ())
theorem Q_l_toVoteS_eq (n : Nat) (a0 : DSlLVote) : Q_l_toVoteS n a0 =
    if (↑(List.length a0) : Int) ≤ (↑(List.length a0) : Int) then
 if (↑(List.length a0) : Int) ≤ (↑lim : Int) then
 R_l_toVoteS_3 n a0 (0 : Int)
 (List.replicate (↑(List.length a0) : Int).toNat
 (zeroD (bif (env (false, false, []) l_l_toVoteS).nest then tIVote.uq else tIVote)))
 else none
 else none := by kernel_rfl
theorem R_l_toVoteS_3_eq (n : Nat) (s0 : DSlIVote) (s4 : Int) (b0 : (List DXstruct_Phase_int_View_int_Block_int_Sign)) : R_l_toVoteS_3 (n + 1) s0 s4 b0 =
    bif decide (s4 < (↑(List.length s0) : Int)) then
 if (0 : Int) ≤ s4 then
 (nth s0 s4.toNat).bind fun y =>
 if (0 : Int) ≤ s4 then
 if s4 < (↑b0.length : Int) then
 (nth b0 s4.toNat).bind fun y_1 =>
 (updO b0 s4.toNat y).bind fun y => R_l_toVoteS_3 n s0 (IntKind.i64.wrap (s4 + (1 : Int))) y
 else none
 else none
 else none
 else some b0 := by kernel_rfl

end Go.Sx.Try

set_option maxRecDepth 100000
namespace Go.Sx.Try
open Go Go.Sx Go.Proofs

noncomputable def l_l_toLetter : List (Nat × Con) := [(89, c_l_toQc), (90, c_l_toVote)]
theorem l_l_toLetter_ok : ∀ q ∈ l_l_toLetter, ConOk Try.prog q.1 q.2 := Try.cons_cons c_l_toQc_ok (Try.cons_cons c_l_toVote_ok (Try.cons_nil))
def kp_l_toLetter : KP := []
noncomputable def q_l_toLetter (n : Nat) (x : Args [tLLetter]) := evX (false, false, [1, 3, 4, 7, 10, 13, 16, 19, 23]) l_l_toLetter kp_l_toLetter [none] Try.f120 (shV tILetter) n (encA [tLLetter] x)
noncomputable def c_l_toLetter : Con := roS [tLLetter] true (shV tILetter) (q_l_toLetter big)
theorem c_l_toLetter_ok : ConOk Try.prog 120 c_l_toLetter := roS_ok ⟨Try.f120, by kernel_rfl, rfl, by decide⟩ fun _ _ h => evX_ok l_l_toLetter_ok (f := Try.f120) (by kernel_rfl) rfl (by kernel_rfl) (by kernel_rfl) big h
noncomputable def Q_l_toLetter (n : Nat) (a0 : DLLetter) : Option DILetter := q_l_toLetter n (a0, ())
theorem Q_l_toLetter_eq (n : Nat) (a0 : DLLetter) : Q_l_toLetter n a0 =
    some a0 := by kernel_rfl

end Go.Sx.Try

set_option maxRecDepth 100000
namespace Go.Sx.Try
open Go Go.Sx Go.Proofs

noncomputable def l_l_toLetterS : List (Nat × Con) := [(120, c_l_toLetter)]
theorem l_l_toLetterS_ok : ∀ q ∈ l_l_toLetterS, ConOk Try.prog q.1 q.2 := Try.cons_cons c_l_toLetter_ok (Try.cons_nil)
abbrev k_l_toLetterS_3 : List Keep × List BK := ([.ro tSlILetter, .drop, .drop, .is (.own 0 0), .ro tInt64, .drop, .drop, .drop, .drop, .drop, .drop, .drop, .drop, .drop, .drop, .drop, .drop, .drop, .drop, .drop, .drop, .drop, .drop], [.arr tXstruct_Kind_int_From_int_To_int_View_int])
def kp_l_toLetterS : KP := [(3, k_l_toLetterS_3)]
noncomputable def q_l_toLetterS (n : Nat) (x : Args [tSlLLetter]) := evX (false, false, []) l_l_toLetterS kp_l_toLetterS [some uSlILetter] Try.f44 (shF uSlILetter) n (encA [tSlLLetter] x)
noncomputable def c_l_toLetterS : Con := roS [tSlLLetter] true (shF uSlILetter) (q_l_toLetterS big)
theorem c_l_toLetterS_ok : ConOk Try.prog 44 c_l_toLetterS := roS_ok ⟨Try.f44, by kernel_rfl, rfl, by decide⟩ fun _ _ h => evX_ok l_l_toLetterS_ok (f := Try.f44) (by kernel_rfl) rfl (by kernel_rfl) (by kernel_rfl) big h
noncomputable def Q_l_toLetterS (n : Nat) (a0 : DSlLLetter) : Option DSlILetter := q_l_toLetterS n (a0, ())
noncomputable def r_l_toLetterS_3 (n : Nat) (x : KD k_l_toLetterS_3.1) (y : BD k_l_toLetterS_3.2) := rounds (env (false, false, []) l_l_toLetterS) kp_l_toLetterS (body Try.f44) (finX (false, false, []) l_l_toLetterS [some uSlILetter] Try.f44 (shF uSlILetter) [.val tSlLLetter (zeroD tSlLLetter)]) n 3 k_l_toLetterS_3 x y
noncomputable def R_l_toLetterS_3 (n : Nat) (s0 : DSlILetter) (s4 : Int) (b0 : (List DXstruct_Kind_int_From_int_To_int_View_int)) : Option DSlILetter := r_l_toLetterS_3 n (s0, s4, ()) (b0, ())
theorem Q_l_toLetterS_eq (n : Nat) (a0 : DSlLLetter) : Q_l_toLetterS n a0 =
    if (↑(List.length a0) : Int) ≤ (↑(List.length a0) : Int) then
 if (↑(List.length a0) : Int) ≤ (↑lim : Int) then
 R_l_toLetterS_3 n a0 (0 : Int)
 (List.replicate (↑(List.length a0) : Int).toNat
 (zeroD (bif (env (false, false, []) l_l_toLetterS).nest then tILetter.uq else tILetter)))
 else none
 else none := by kernel_rfl
theorem R_l_toLetterS_3_eq (n : Nat) (s0 : DSlILetter) (s4 : Int) (b0 : (List DXstruct_Kind_int_From_int_To_int_View_int)) : R_l_toLetterS_3 (n + 1) s0 s4 b0 =
    bif decide (s4 < (↑(List.length s0) : Int)) then
 if (0 : Int) ≤ s4 then
 (nth s0 s4.toNat).bind fun y =>
 if (0 : Int) ≤ s4 then
 if s4 < (↑b0.length : Int) then
 (nth b0 s4.toNat).bind fun y_1 =>
 (updO b0 s4.toNat y).bind fun y => R_l_toLetterS_3 n s0 (IntKind.i64.wrap (s4 + (1 : Int))) y
 else none
 else none
 else none
 else some b0 := by kernel_rfl

end Go.Sx.Try

set_option maxRecDepth 100000
namespace Go.Sx.Try
open Go Go.Sx Go.Proofs

noncomputable def l_l_toPeer : List (Nat × Con) := [(89, c_l_toQc), (90, c_l_toVote), (59, c_l_toIntS), (91, c_l_toCellS), (92, c_l_toUndoS), (93, c_l_toVoteS), (44, c_l_toLetterS)]
theorem l_l_toPeer_ok : ∀ q ∈ l_l_toPeer, ConOk Try.prog q.1 q.2 := Try.cons_cons c_l_toQc_ok (Try.cons_cons c_l_toVote_ok (Try.cons_cons c_l_toIntS_ok (Try.cons_cons c_l_toCellS_ok (Try.cons_cons c_l_toUndoS_ok (Try.cons_cons c_l_toVoteS_ok (Try.cons_cons c_l_toLetterS_ok (Try.cons_nil)))))))
def kp_l_toPeer : KP := []
noncomputable def q_l_toPeer (n : Nat) (x : Args [tLPeer]) := evX (false, false, [1, 3, 4, 7, 10, 14, 18, 22, 26, 30, 34, 38, 42, 46]) l_l_toPeer kp_l_toPeer [some uIPeer] Try.f23 (shF uIPeer) n (encA [tLPeer] x)
noncomputable def c_l_toPeer : Con := roS [tLPeer] true (shF uIPeer) (q_l_toPeer big)
theorem c_l_toPeer_ok : ConOk Try.prog 23 c_l_toPeer := roS_ok ⟨Try.f23, by kernel_rfl, rfl, by decide⟩ fun _ _ h => evX_ok l_l_toPeer_ok (f := Try.f23) (by kernel_rfl) rfl (by kernel_rfl) (by kernel_rfl) big h
noncomputable def Q_l_toPeer (n : Nat) (a0 : DLPeer) : Option DIPeer := q_l_toPeer n (a0, ())
theorem Q_l_toPeer_eq (n : Nat) (a0 : DLPeer) : Q_l_toPeer n a0 =
    (Q_l_toIntS big a0.snd.snd.snd.snd.snd.fst).bind fun y =>
 (Q_l_toCellS big a0.snd.snd.snd.snd.snd.snd.fst).bind fun y_1 =>
 (Q_l_toIntS big a0.snd.snd.snd.snd.snd.snd.snd.fst).bind fun y_2 =>
 (Q_l_toUndoS big a0.snd.snd.snd.snd.snd.snd.snd.snd.fst).bind fun y_3 =>
 (Q_l_toVoteS big a0.snd.snd.snd.snd.snd.snd.snd.snd.snd.fst).bind fun y_4 =>
 (Q_l_toLetterS big a0.snd.snd.snd.snd.snd.snd.snd.snd.snd.snd.fst).bind fun y_5 =>
 some
 (a0.fst, a0.snd.fst, a0.snd.snd.fst, a0.snd.snd.snd.fst, a0.snd.snd.snd.snd.fst, y, y_1, y_2, y_3, y_4,
 y_5, a0.snd.snd.snd.snd.snd.snd.snd.snd.snd.snd.snd) := by kernel_rfl

end Go.Sx.Try

set_option maxRecDepth 100000
namespace Go.Sx.Try
open Go Go.Sx Go.Proofs

noncomputable def l_l_toPeerS : List (Nat × Con) := [(23, c_l_toPeer)]
theorem l_l_toPeerS_ok : ∀ q ∈ l_l_toPeerS, ConOk Try.prog q.1 q.2 := Try.cons_cons c_l_toPeer_ok (Try.cons_nil)
abbrev k_l_toPeerS_3 : List Keep × List BK := ([.ro tSlLPeer, .drop, .drop, .is (.own 0 0), .ro tInt64, .drop, .drop, .drop, .drop, .drop, .drop, .drop, .drop, .drop, .drop, .drop, .drop, .drop, .drop, .drop, .drop, .drop, .drop], [.arr uXstruct_Id_int_View_int_High_impl_Qc_Lock])
def kp_l_toPeerS : KP := [(3, k_l_toPeerS_3)]
noncomputable def q_l_toPeerS (n : Nat) (x : Args [tSlLPeer]) := evX (true, false, []) l_l_toPeerS kp_l_toPeerS [some uSlIPeer] Try.f105 (shF uSlIPeer) n (encA [tSlLPeer] x)
noncomputable def c_l_toPeerS : Con := roS [tSlLPeer] true (shF uSlIPeer) (q_l_toPeerS big)
theorem c_l_toPeerS_ok : ConOk Try.prog 105 c_l_toPeerS := roS_ok ⟨Try.f105, by kernel_rfl, rfl, by decide⟩ fun _ _ h => evX_ok l_l_toPeerS_ok (f := Try.f105) (by kernel_rfl) rfl (by kernel_rfl) (by kernel_rfl) big h
noncomputable def Q_l_toPeerS (n : Nat) (a0 : DSlLPeer) : Option DSlIPeer := q_l_toPeerS n (a0, ())
noncomputable def r_l_toPeerS_3 (n : Nat) (x : KD k_l_toPeerS_3.1) (y : BD k_l_toPeerS_3.2) := rounds (env (true, false, []) l_l_toPeerS) kp_l_toPeerS (body Try.f105) (finX (true, false, []) l_l_toPeerS [some uSlIPeer] Try.f105 (shF uSlIPeer) [.val tSlLPeer (zeroD tSlLPeer)]) n 3 k_l_toPeerS_3 x y
noncomputable def R_l_toPeerS_3 (n : Nat) (s0 : DSlLPeer) (s4 : Int) (b0 : (List DXstruct_Id_int_View_int_High_impl_Qc_Lock)) : Option DSlIPeer := r_l_toPeerS_3 n (s0, s4, ()) (b0, ())
theorem Q_l_toPeerS_eq (n : Nat) (a0 : DSlLPeer) : Q_l_toPeerS n a0 =
    if (↑(List.length a0) : Int) ≤ (↑(List.length a0) : Int) then
 if (↑(List.length a0) : Int) ≤ (↑lim : Int) then
 R_l_toPeerS_3 n a0 (0 : Int)
 (List.replicate (↑(List.length a0) : Int).toNat
 (zeroD (bif (env (true, false, []) l_l_toPeerS).nest then tIPeer.uq else tIPeer)))
 else none
 else none := by kernel_rfl
theorem R_l_toPeerS_3_eq (n : Nat) (s0 : DSlLPeer) (s4 : Int) (b0 : (List DXstruct_Id_int_View_int_High_impl_Qc_Lock)) : R_l_toPeerS_3 (n + 1) s0 s4 b0 =
    bif decide (s4 < (↑(List.length s0) : Int)) then
 if (0 : Int) ≤ s4 then
 (nth s0 s4.toNat).bind fun y =>
 (Q_l_toPeer big y).bind fun y =>
 if (0 : Int) ≤ s4 then
 if s4 < (↑b0.length : Int) then
 (nth b0 s4.toNat).bind fun y_1 =>
 (updO b0 s4.toNat y).bind fun y => R_l_toPeerS_3 n s0 (IntKind.i64.wrap (s4 + (1 : Int))) y
 else none
 else none
 else none
 else some b0 := by kernel_rfl

end Go.Sx.Try

set_option maxRecDepth 100000
namespace Go.Sx.Try
open Go Go.Sx Go.Proofs

noncomputable def l_l_toCluster : List (Nat × Con) := [(58, c_l_toBlockS), (105, c_l_toPeerS), (44, c_l_toLetterS), (93, c_l_toVoteS), (70, c_l_toCmdS)]
theorem l_l_toCluster_ok : ∀ q ∈ l_l_toCluster, ConOk Try.prog q.1 q.2 := Try.cons_cons c_l_toBlockS_ok (Try.cons_cons c_l_toPeerS_ok (Try.cons_cons c_l_toLetterS_ok (Try.cons_cons c_l_toVoteS_ok (Try.cons_cons c_l_toCmdS_ok (Try.cons_nil)))))
def kp_l_toCluster : KP := []
noncomputable def q_l_toCluster (n : Nat) (x : Args [tLCluster]) := evX (false, false, [1, 3, 4, 7, 10, 13, 17, 21, 25, 29]) l_l_toCluster kp_l_toCluster [some uICluster] Try.f33 (shF uICluster) n (encA [tLCluster] x)
noncomputable def c_l_toCluster : Con := roS [tLCluster] true (shF uICluster) (q_l_toCluster big)
theorem c_l_toCluster_ok : ConOk Try.prog 33 c_l_toCluster := roS_ok ⟨Try.f33, by kernel_rfl, rfl, by decide⟩ fun _ _ h => evX_ok l_l_toCluster_ok (f := Try.f33) (by kernel_rfl) rfl (by kernel_rfl) (by kernel_rfl) big h
noncomputable def Q_l_toCluster (n : Nat) (a0 : DLCluster) : Option DICluster := q_l_toCluster n (a0, ())
theorem Q_l_toCluster_eq (n : Nat) (a0 : DLCluster) : Q_l_toCluster n a0 =
    (Q_l_toBlockS big a0.snd.snd.snd.fst).bind fun y =>
 (Q_l_toPeerS big a0.snd.snd.snd.snd.fst).bind fun y_1 =>
 (Q_l_toLetterS big a0.snd.snd.snd.snd.snd.fst).bind fun y_2 =>
 (Q_l_toVoteS big a0.snd.snd.snd.snd.snd.snd.fst).bind fun y_3 =>
 (Q_l_toCmdS big a0.snd.snd.snd.snd.snd.snd.snd.fst).bind fun y_4 =>
 some (a0.fst, a0.snd.fst, a0.snd.snd.fst, y, y_1, y_2, y_3, y_4, PUnit.unit) := by kernel_rfl

end Go.Sx.Try

set_option maxRecDepth 100000
namespace Go.Sx.Try
open Go Go.Sx Go.Proofs

noncomputable def l_l_eqCmd : List (Nat × Con) := []
theorem l_l_eqCmd_ok : ∀ q ∈ l_l_eqCmd, ConOk Try.prog q.1 q.2 := Try.cons_nil
def kp_l_eqCmd : KP := []
noncomputable def q_l_eqCmd (n : Nat) (x : Args [tICmd, tICmd]) := evX (false, false, [2, 3, 5, 7, 10, 12, 15, 17]) l_l_eqCmd kp_l_eqCmd [none] Try.f146 (shV tBool) n (encA [tICmd, tICmd] x)
noncomputable def c_l_eqCmd : Con := roS [tICmd, tICmd] true (shV tBool) (q_l_eqCmd big)
theorem c_l_eqCmd_ok : ConOk Try.prog 146 c_l_eqCmd := roS_ok ⟨Try.f146, by kernel_rfl, rfl, by decide⟩ fun _ _ h => evX_ok l_l_eqCmd_ok (f := Try.f146) (by kernel_rfl) rfl (by kernel_rfl) (by kernel_rfl) big h
noncomputable def Q_l_eqCmd (n : Nat) (a0 : DICmd) (a1 : DICmd) : Option Bool := q_l_eqCmd n (a0, a1, ())
theorem Q_l_eqCmd_eq (n : Nat) (a0 : DICmd) (a1 : DICmd) : Q_l_eqCmd n a0 a1 =
    bif !decide (a0.fst = a1.fst) then some false
 else
 bif !decide (a0.snd.fst = a1.snd.fst) then some false
 else bif !decide (a0.snd.snd.fst = a1.snd.snd.fst) then some false else some true := by kernel_rfl

end Go.Sx.Try

set_option maxRecDepth 100000
namespace Go.Sx.Try
open Go Go.Sx Go.Proofs

noncomputable def l_l_eqCmdS : List (Nat × Con) := [(146, c_l_eqCmd)]
theorem l_l_eqCmdS_ok : ∀ q ∈ l_l_eqCmdS, ConOk Try.prog q.1 q.2 := Try.cons_cons c_l_eqCmd_ok (Try.cons_nil)
abbrev k_l_eqCmdS_4 : List Keep × List BK := ([.ro tSlLCmd, .ro tSlLCmd, .drop, .drop, .drop, .ro tInt64, .drop, .drop, .drop, .drop, .drop, .drop, .drop, .drop, .drop, .drop, .drop, .drop, .drop, .drop, .drop, .drop, .drop, .drop, .drop, .drop, .drop], [])
def kp_l_eqCmdS : KP := [(4, k_l_eqCmdS_4)]
noncomputable def q_l_eqCmdS (n : Nat) (x : Args [tSlICmd, tSlICmd]) := evX (false, false, []) l_l_eqCmdS kp_l_eqCmdS [none] Try.f72 (shV tBool) n (encA [tSlICmd, tSlICmd] x)
noncomputable def c_l_eqCmdS : Con := roS [tSlICmd, tSlICmd] true (shV tBool) (q_l_eqCmdS big)
theorem c_l_eqCmdS_ok : ConOk Try.prog 72 c_l_eqCmdS := roS_ok ⟨Try.f72, by kernel_rfl, rfl, by decide⟩ fun _ _ h => evX_ok l_l_eqCmdS_ok (f := Try.f72) (by kernel_rfl) rfl (by kernel_rfl) (by kernel_rfl) big h
noncomputable def Q_l_eqCmdS (n : Nat) (a0 : DSlICmd) (a1 : DSlICmd) : Option Bool := q_l_eqCmdS n (a0, a1, ())
noncomputable def r_l_eqCmdS_4 (n : Nat) (x : KD k_l_eqCmdS_4.1) (y : BD k_l_eqCmdS_4.2) := rounds (env (false, false, []) l_l_eqCmdS) kp_l_eqCmdS (body Try.f72) (finX (false, false, []) l_l_eqCmdS [none] Try.f72 (shV tBool) [.val tSlICmd (zeroD tSlICmd), .val tSlICmd (zeroD tSlICmd)]) n 4 k_l_eqCmdS_4 x y
noncomputable def R_l_eqCmdS_4 (n : Nat) (s0 : DSlLCmd) (s1 : DSlLCmd) (s5 : Int) : Option Bool := r_l_eqCmdS_4 n (s0, s1, s5, ()) ()
theorem Q_l_eqCmdS_eq (n : Nat) (a0 : DSlICmd) (a1 : DSlICmd) : Q_l_eqCmdS n a0 a1 =
    bif !decide ((↑(List.length a0) : Int) = (↑(List.length a1) : Int)) then some false
 else R_l_eqCmdS_4 n a0 a1 (0 : Int) := by kernel_rfl
theorem R_l_eqCmdS_4_eq (n : Nat) (s0 : DSlLCmd) (s1 : DSlLCmd) (s5 : Int) : R_l_eqCmdS_4 (n + 1) s0 s1 s5 =
    bif decide (s5 < (↑(List.length s0) : Int)) then
 if (0 : Int) ≤ s5 then
 (nth s0 s5.toNat).bind fun y =>
 if (0 : Int) ≤ s5 then
 (nth s1 s5.toNat).bind fun y_1 =>
 (Q_l_eqCmd big y y_1).bind fun y =>
 bif !y then some false else R_l_eqCmdS_4 n s0 s1 (IntKind.i64.wrap (s5 + (1 : Int)))
 else none
 else none
 else some true := by kernel_rfl

end Go.Sx.Try

set_option maxRecDepth 100000
namespace Go.Sx.Try
open Go Go.Sx Go.Proofs

noncomputable def l_l_eqQc : List (Nat × Con) := []
theorem l_l_eqQc_ok : ∀ q ∈ l_l_eqQc, ConOk Try.prog q.1 q.2 := Try.cons_nil
def kp_l_eqQc : KP := []
noncomputable def q_l_eqQc (n : Nat) (x : Args [tIQc, tIQc]) := evX (false, false, [2, 3, 5, 7, 10, 12, 15, 17, 20, 22]) l_l_eqQc kp_l_eqQc [none] Try.f75 (shV tBool) n (encA [tIQc, tIQc] x)
noncomputable def c_l_eqQc : Con := roS [tIQc, tIQc] true (shV tBool) (q_l_eqQc big)
theorem c_l_eqQc_ok : ConOk Try.prog 75 c_l_eqQc := roS_ok ⟨Try.f75, by kernel_rfl, rfl, by decide⟩ fun _ _ h => evX_ok l_l_eqQc_ok (f := Try.f75) (by kernel_rfl) rfl (by kernel_rfl) (by kernel_rfl) big h
noncomputable def Q_l_eqQc (n : Nat) (a0 : DIQc) (a1 : DIQc) : Option Bool := q_l_eqQc n (a0, a1, ())
theorem Q_l_eqQc_eq (n : Nat) (a0 : DIQc) (a1 : DIQc) : Q_l_eqQc n a0 a1 =
    bif !decide (a0.fst = a1.fst) then some false
 else
 bif !decide (a0.snd.fst = a1.snd.fst) then some false
 else
 bif !decide (a0.snd.snd.fst = a1.snd.snd.fst) then some false
 else bif !decide (a0.snd.snd.snd.fst = a1.snd.snd.snd.fst) then some false else some true := by kernel_rfl

end Go.Sx.Try

set_option maxRecDepth 100000
namespace Go.Sx.Try
open Go Go.Sx Go.Proofs

noncomputable def l_l_eqBlock : List (Nat × Con) := [(72, c_l_eqCmdS), (75, c_l_eqQc)]
theorem l_l_eqBlock_ok : ∀ q ∈ l_l_eqBlock, ConOk Try.prog q.1 q.2 := Try.cons_cons c_l_eqCmdS_ok (Try.cons_cons c_l_eqQc_ok (Try.cons_nil))
def kp_l_eqBlock : KP := []
noncomputable def q_l_eqBlock (n : Nat) (x : Args [tIBlock, tIBlock]) := evX (false, false, [2, 3, 5, 7, 10, 12, 15, 17, 21, 23]) l_l_eqBlock kp_l_eqBlock [none] Try.f139 (shV tBool) n (encA [tIBlock, tIBlock] x)
noncomputable def c_l_eqBlock : Con := roS [tIBlock, tIBlock] true (shV tBool) (q_l_eqBlock big)
theorem c_l_eqBlock_ok : ConOk Try.prog 139 c_l_eqBlock := roS_ok ⟨Try.f139, by kernel_rfl, rfl, by decide⟩ fun _ _ h => evX_ok l_l_eqBlock_ok (f := Try.f139) (by kernel_rfl) rfl (by kernel_rfl) (by kernel_rfl) big h
noncomputable def Q_l_eqBlock (n : Nat) (a0 : DIBlock) (a1 : DIBlock) : Option Bool := q_l_eqBlock n (a0, a1, ())
theorem Q_l_eqBlock_eq (n : Nat) (a0 : DIBlock) (a1 : DIBlock) : Q_l_eqBlock n a0 a1 =
    bif !decide (a0.fst = a1.fst) then some false
 else
 bif !decide (a0.snd.fst = a1.snd.fst) then some false
 else
 (Q_l_eqCmdS big a0.snd.snd.fst a1.snd.snd.fst).bind fun y =>
 bif !y then some false
 else
 (Q_l_eqQc big a0.snd.snd.snd.fst a1.snd.snd.snd.fst).bind fun y =>
 bif !y then some false else some true := by kernel_rfl

end Go.Sx.Try

set_option maxRecDepth 100000
namespace Go.Sx.Try
open Go Go.Sx Go.Proofs

noncomputable def l_l_eqBlockS : List (Nat × Con) := [(139, c_l_eqBlock)]
theorem l_l_eqBlockS_ok : ∀ q ∈ l_l_eqBlockS, ConOk Try.prog q.1 q.2 := Try.cons_cons c_l_eqBlock_ok (Try.cons_nil)
abbrev k_l_eqBlockS_4 : List Keep × List BK := ([.ro tSlLBlock, .ro tSlLBlock, .drop, .drop, .drop, .ro tInt64, .drop, .drop, .drop, .drop, .drop, .drop, .drop, .drop, .drop, .drop, .drop, .drop, .drop, .drop, .drop, .drop, .drop, .drop, .drop, .drop, .drop], [])
def kp_l_eqBlockS : KP := [(4, k_l_eqBlockS_4)]
noncomputable def q_l_eqBlockS (n : Nat) (x : Args [tSlIBlock, tSlIBlock]) := evX (false, false, []) l_l_eqBlockS kp_l_eqBlockS [none] Try.f62 (shV tBool) n (encA [tSlIBlock, tSlIBlock] x)
noncomputable def c_l_eqBlockS : Con := roS [tSlIBlock, tSlIBlock] true (shV tBool) (q_l_eqBlockS big)
theorem c_l_eqBlockS_ok : ConOk Try.prog 62 c_l_eqBlockS := roS_ok ⟨Try.f62, by kernel_rfl, rfl, by decide⟩ fun _ _ h => evX_ok l_l_eqBlockS_ok (f := Try.f62) (by kernel_rfl) rfl (by kernel_rfl) (by kernel_rfl) big h
noncomputable def Q_l_eqBlockS (n : Nat) (a0 : DSlIBlock) (a1 : DSlIBlock) : Option Bool := q_l_eqBlockS n (a0, a1, ())
noncomputable def r_l_eqBlockS_4 (n : Nat) (x : KD k_l_eqBlockS_4.1) (y : BD k_l_eqBlockS_4.2) := rounds (env (false, false, []) l_l_eqBlockS) kp_l_eqBlockS (body Try.f62) (finX (false, false, []) l_l_eqBlockS [none] Try.f62 (shV tBool) [.val tSlIBlock (zeroD tSlIBlock), .val tSlIBlock (zeroD tSlIBlock)]) n 4 k_l_eqBlockS_4 x y
noncomputable def R_l_eqBlockS_4 (n : Nat) (s0 : DSlLBlock) (s1 : DSlLBlock) (s5 : Int) : Option Bool := r_l_eqBlockS_4 n (s0, s1, s5, ()) ()
theorem Q_l_eqBlockS_eq (n : Nat) (a0 : DSlIBlock) (a1 : DSlIBlock) : Q_l_eqBlockS n a0 a1 =
    bif !decide ((↑(List.length a0) : Int) = (↑(List.length a1) : Int)) then some false
 else R_l_eqBlockS_4 n a0 a1 (0 : Int) := by kernel_rfl
theorem R_l_eqBlockS_4_eq (n : Nat) (s0 : DSlLBlock) (s1 : DSlLBlock) (s5 : Int) : R_l_eqBlockS_4 (n + 1) s0 s1 s5 =
    bif decide (s5 < (↑(List.length s0) : Int)) then
 if (0 : Int) ≤ s5 then
 (nth s0 s5.toNat).bind fun y =>
 if (0 : Int) ≤ s5 then
 (nth s1 s5.toNat).bind fun y_1 =>
 (Q_l_eqBlock big y y_1).bind fun y =>
 bif !y then some false else R_l_eqBlockS_4 n s0 s1 (IntKind.i64.wrap (s5 + (1 : Int)))
 else none
 else none
 else some true := by kernel_rfl

end Go.Sx.Try

set_option maxRecDepth 100000
namespace Go.Sx.Try
open Go Go.Sx Go.Proofs

noncomputable def l_l_eqVote : List (Nat × Con) := []
theorem l_l_eqVote_ok : ∀ q ∈ l_l_eqVote, ConOk Try.prog q.1 q.2 := Try.cons_nil
def kp_l_eqVote : KP := []
noncomputable def q_l_eqVote (n : Nat) (x : Args [tIVote, tIVote]) := evX (false, false, [2, 3, 5, 7, 10, 12, 15, 17, 20, 22]) l_l_eqVote kp_l_eqVote [none] Try.f25 (shV tBool) n (encA [tIVote, tIVote] x)
noncomputable def c_l_eqVote : Con := roS [tIVote, tIVote] true (shV tBool) (q_l_eqVote big)
theorem c_l_eqVote_ok : ConOk Try.prog 25 c_l_eqVote := roS_ok ⟨Try.f25, by kernel_rfl, rfl, by decide⟩ fun _ _ h => evX_ok l_l_eqVote_ok (f := Try.f25) (by kernel_rfl) rfl (by kernel_rfl) (by kernel_rfl) big h
noncomputable def Q_l_eqVote (n : Nat) (a0 : DIVote) (a1 : DIVote) : Option Bool := q_l_eqVote n (a0, a1, ())
theorem Q_l_eqVote_eq (n : Nat) (a0 : DIVote) (a1 : DIVote) : Q_l_eqVote n a0 a1 =
    bif !decide (a0.fst = a1.fst) then some false
 else
 bif !decide (a0.snd.fst = a1.snd.fst) then some false
 else
 bif !decide (a0.snd.snd.fst = a1.snd.snd.fst) then some false
 else bif !decide (a0.snd.snd.snd.fst = a1.snd.snd.snd.fst) then some false else some true := by kernel_rfl

end Go.Sx.Try

set_option maxRecDepth 100000
namespace Go.Sx.Try
open Go Go.Sx Go.Proofs

noncomputable def l_l_eqIntS : List (Nat × Con) := []
theorem l_l_eqIntS_ok : ∀ q ∈ l_l_eqIntS, ConOk Try.prog q.1 q.2 := Try.cons_nil
abbrev k_l_eqIntS_4 : List Keep × List BK := ([.ro tSlInt, .ro tSlInt, .drop, .drop, .drop, .ro tInt64, .drop, .drop, .drop, .drop, .drop, .drop, .drop, .drop, .drop, .drop, .drop, .drop, .drop, .drop, .drop, .drop, .drop, .drop, .drop, .drop], [])
def kp_l_eqIntS : KP := [(4, k_l_eqIntS_4)]
noncomputable def q_l_eqIntS (n : Nat) (x : Args [tSlInt, tSlInt]) := evX (false, false, []) l_l_eqIntS kp_l_eqIntS [none] Try.f63 (shV tBool) n (encA [tSlInt, tSlInt] x)
noncomputable def c_l_eqIntS : Con := roS [tSlInt, tSlInt] true (shV tBool) (q_l_eqIntS big)
theorem c_l_eqIntS_ok : ConOk Try.prog 63 c_l_eqIntS := roS_ok ⟨Try.f63, by kernel_rfl, rfl, by decide⟩ fun _ _ h => evX_ok l_l_eqIntS_ok (f := Try.f63) (by kernel_rfl) rfl (by kernel_rfl) (by kernel_rfl) big h
noncomputable def Q_l_eqIntS (n : Nat) (a0 : DSlInt) (a1 : DSlInt) : Option Bool := q_l_eqIntS n (a0, a1, ())
noncomputable def r_l_eqIntS_4 (n : Nat) (x : KD k_l_eqIntS_4.1) (y : BD k_l_eqIntS_4.2) := rounds (env (false, false, []) l_l_eqIntS) kp_l_eqIntS (body Try.f63) (finX (false, false, []) l_l_eqIntS [none] Try.f63 (shV tBool) [.val tSlInt (zeroD tSlInt), .val tSlInt (zeroD tSlInt)]) n 4 k_l_eqIntS_4 x y
noncomputable def R_l_eqIntS_4 (n : Nat) (s0 : DSlInt) (s1 : DSlInt) (s5 : Int) : Option Bool := r_l_eqIntS_4 n (s0, s1, s5, ()) ()
theorem Q_l_eqIntS_eq (n : Nat) (a0 : DSlInt) (a1 : DSlInt) : Q_l_eqIntS n a0 a1 =
    bif !decide ((↑(List.length a0) : Int) = (↑(List.length a1) : Int)) then some false
 else R_l_eqIntS_4 n a0 a1 (0 : Int) := by kernel_rfl
theorem R_l_eqIntS_4_eq (n : Nat) (s0 : DSlInt) (s1 : DSlInt) (s5 : Int) : R_l_eqIntS_4 (n + 1) s0 s1 s5 =
    bif decide (s5 < (↑(List.length s0) : Int)) then
 if (0 : Int) ≤ s5 then
 (nth s0 s5.toNat).bind fun y =>
 if (0 : Int) ≤ s5 then
 (nth s1 s5.toNat).bind fun y_1 =>
 bif !decide (y = y_1) then some false else R_l_eqIntS_4 n s0 s1 (IntKind.i64.wrap (s5 + (1 : Int)))
 else none
 else none
 else some true := by kernel_rfl

end Go.Sx.Try

set_option maxRecDepth 100000
namespace Go.Sx.Try
open Go Go.Sx Go.Proofs

noncomputable def l_l_eqCell : List (Nat × Con) := []
theorem l_l_eqCell_ok : ∀ q ∈ l_l_eqCell, ConOk Try.prog q.1 q.2 := Try.cons_nil
def kp_l_eqCell : KP := []
noncomputable def q_l_eqCell (n : Nat) (x : Args [tICell, tICell]) := evX (false, false, [2, 3, 5, 7, 10, 12]) l_l_eqCell kp_l_eqCell [none] Try.f138 (shV tBool) n (encA [tICell, tICell] x)
noncomputable def c_l_eqCell : Con := roS [tICell, tICell] true (shV tBool) (q_l_eqCell big)
theorem c_l_eqCell_ok : ConOk Try.prog 138 c_l_eqCell := roS_ok ⟨Try.f138, by kernel_rfl, rfl, by decide⟩ fun _ _ h => evX_ok l_l_eqCell_ok (f := Try.f138) (by kernel_rfl) rfl (by kernel_rfl) (by kernel_rfl) big h
noncomputable def Q_l_eqCell (n : Nat) (a0 : DICell) (a1 : DICell) : Option Bool := q_l_eqCell n (a0, a1, ())
theorem Q_l_eqCell_eq (n : Nat) (a0 : DICell) (a1 : DICell) : Q_l_eqCell n a0 a1 =
    bif !decide (a0.fst = a1.fst) then some false
 else bif !decide (a0.snd.fst = a1.snd.fst) then some false else some true := by kernel_rfl

end Go.Sx.Try

set_option maxRecDepth 100000
namespace Go.Sx.Try
open Go Go.Sx Go.Proofs

noncomputable def l_l_eqCellS : List (Nat × Con) := [(138, c_l_eqCell)]
theorem l_l_eqCellS_ok : ∀ q ∈ l_l_eqCellS, ConOk Try.prog q.1 q.2 := Try.cons_cons c_l_eqCell_ok (Try.cons_nil)
abbrev k_l_eqCellS_4 : List Keep × List BK := ([.ro tSlICell, .ro tSlICell, .drop, .drop, .drop, .ro tInt64, .drop, .drop, .drop, .drop, .drop, .drop, .drop, .drop, .drop, .drop, .drop, .drop, .drop, .drop, .drop, .drop, .drop, .drop, .drop, .drop, .drop], [])
def kp_l_eqCellS : KP := [(4, k_l_eqCellS_4)]
noncomputable def q_l_eqCellS (n : Nat) (x : Args [tSlICell, tSlICell]) := evX (false, false, []) l_l_eqCellS kp_l_eqCellS [none] Try.f61 (shV tBool) n (encA [tSlICell, tSlICell] x)
noncomputable def c_l_eqCellS : Con := roS [tSlICell, tSlICell] true (shV tBool) (q_l_eqCellS big)
theorem c_l_eqCellS_ok : ConOk Try.prog 61 c_l_eqCellS := roS_ok ⟨Try.f61, by kernel_rfl, rfl, by decide⟩ fun _ _ h => evX_ok l_l_eqCellS_ok (f := Try.f61) (by kernel_rfl) rfl (by kernel_rfl) (by kernel_rfl) big h
noncomputable def Q_l_eqCellS (n : Nat) (a0 : DSlICell) (a1 : DSlICell) : Option Bool := q_l_eqCellS n (a0, a1, ())
noncomputable def r_l_eqCellS_4 (n : Nat) (x : KD k_l_eqCellS_4.1) (y : BD k_l_eqCellS_4.2) := rounds (env (false, false, []) l_l_eqCellS) kp_l_eqCellS (body Try.f61) (finX (false, false, []) l_l_eqCellS [none] Try.f61 (shV tBool) [.val tSlICell (zeroD tSlICell), .val tSlICell (zeroD tSlICell)]) n 4 k_l_eqCellS_4 x y
noncomputable def R_l_eqCellS_4 (n : Nat) (s0 : DSlICell) (s1 : DSlICell) (s5 : Int) : Option Bool := r_l_eqCellS_4 n (s0, s1, s5, ()) ()
theorem Q_l_eqCellS_eq (n : Nat) (a0 : DSlICell) (a1 : DSlICell) : Q_l_eqCellS n a0 a1 =
    bif !decide ((↑(List.length a0) : Int) = (↑(List.length a1) : Int)) then some false
 else R_l_eqCellS_4 n a0 a1 (0 : Int) := by kernel_rfl
theorem R_l_eqCellS_4_eq (n : Nat) (s0 : DSlICell) (s1 : DSlICell) (s5 : Int) : R_l_eqCellS_4 (n + 1) s0 s1 s5 =
    bif decide (s5 < (↑(List.length s0) : Int)) then
 if (0 : Int) ≤ s5 then
 (nth s0 s5.toNat).bind fun y =>
 if (0 : Int) ≤ s5 then
 (nth s1 s5.toNat).bind fun y_1 =>
 (Q_l_eqCell big y y_1).bind fun y =>
 bif !y then some false else R_l_eqCellS_4 n s0 s1 (IntKind.i64.wrap (s5 + (1 : Int)))
 else none
 else none
 else some true := by kernel_rfl

end Go.Sx.Try

set_option maxRecDepth 100000
namespace Go.Sx.Try
open Go Go.Sx Go.Proofs

noncomputable def l_l_eqUndo : List (Nat × Con) := []
theorem l_l_eqUndo_ok : ∀ q ∈ l_l_eqUndo, ConOk Try.prog q.1 q.2 := Try.cons_nil
def kp_l_eqUndo : KP := []
noncomputable def q_l_eqUndo (n : Nat) (x : Args [tIUndo, tIUndo]) := evX (false, false, [2, 3, 5, 7, 10, 12, 15, 17]) l_l_eqUndo kp_l_eqUndo [none] Try.f147 (shV tBool) n (encA [tIUndo, tIUndo] x)
noncomputable def c_l_eqUndo : Con := roS [tIUndo, tIUndo] true (shV tBool) (q_l_eqUndo big)
theorem c_l_eqUndo_ok : ConOk Try.prog 147 c_l_eqUndo := roS_ok ⟨Try.f147, by kernel_rfl, rfl, by decide⟩ fun _ _ h => evX_ok l_l_eqUndo_ok (f := Try.f147) (by kernel_rfl) rfl (by kernel_rfl) (by kernel_rfl) big h
noncomputable def Q_l_eqUndo (n : Nat) (a0 : DIUndo) (a1 : DIUndo) : Option Bool := q_l_eqUndo n (a0, a1, ())
theorem Q_l_eqUndo_eq (n : Nat) (a0 : DIUndo) (a1 : DIUndo) : Q_l_eqUndo n a0 a1 =
    bif !decide (a0.fst = a1.fst) then some false
 else
 bif !a0.snd.fst == a1.snd.fst then some false
 else bif !decide (a0.snd.snd.fst = a1.snd.snd.fst) then some false else some true := by kernel_rfl

end Go.Sx.Try

set_option maxRecDepth 100000
namespace Go.Sx.Try
open Go Go.Sx Go.Proofs

noncomputable def l_l_eqUndoS : List (Nat × Con) := [(147, c_l_eqUndo)]
theorem l_l_eqUndoS_ok : ∀ q ∈ l_l_eqUndoS, ConOk Try.prog q.1 q.2 := Try.cons_cons c_l_eqUndo_ok (Try.cons_nil)
abbrev k_l_eqUndoS_4 : List Keep × List BK := ([.ro tSlIUndo, .ro tSlIUndo, .drop, .drop, .drop, .ro tInt64, .drop, .drop, .drop, .drop, .drop, .drop, .drop, .drop, .drop, .drop, .drop, .drop, .drop, .drop, .drop, .drop, .drop, .drop, .drop, .drop, .drop], [])
def kp_l_eqUndoS : KP := [(4, k_l_eqUndoS_4)]
noncomputable def q_l_eqUndoS (n : Nat) (x : Args [tSlIUndo, tSlIUndo]) := evX (false, false, []) l_l_eqUndoS kp_l_eqUndoS [none] Try.f76 (shV tBool) n (encA [tSlIUndo, tSlIUndo] x)
noncomputable def c_l_eqUndoS : Con := roS [tSlIUndo, tSlIUndo] true (shV tBool) (q_l_eqUndoS big)
theorem c_l_eqUndoS_ok : ConOk Try.prog 76 c_l_eqUndoS := roS_ok ⟨Try.f76, by kernel_rfl, rfl, by decide⟩ fun _ _ h => evX_ok l_l_eqUndoS_ok (f := Try.f76) (by kernel_rfl) rfl (by kernel_rfl) (by kernel_rfl) big h
noncomputable def Q_l_eqUndoS (n : Nat) (a0 : DSlIUndo) (a1 : DSlIUndo) : Option Bool := q_l_eqUndoS n (a0, a1, ())
noncomputable def r_l_eqUndoS_4 (n : Nat) (x : KD k_l_eqUndoS_4.1) (y : BD k_l_eqUndoS_4.2) := rounds (env (false, false, []) l_l_eqUndoS) kp_l_eqUndoS (body Try.f76) (finX (false, false, []) l_l_eqUndoS [none] Try.f76 (shV tBool) [.val tSlIUndo (zeroD tSlIUndo), .val tSlIUndo (zeroD tSlIUndo)]) n 4 k_l_eqUndoS_4 x y
noncomputable def R_l_eqUndoS_4 (n : Nat) (s0 : DSlIUndo) (s1 : DSlIUndo) (s5 : Int) : Option Bool := r_l_eqUndoS_4 n (s0, s1, s5, ()) ()
theorem Q_l_eqUndoS_eq (n : Nat) (a0 : DSlIUndo) (a1 : DSlIUndo) : Q_l_eqUndoS n a0 a1 =
    bif !decide ((↑(List.length a0) : Int) = (↑(List.length a1) : Int)) then some false
 else R_l_eqUndoS_4 n a0 a1 (0 : Int) := by kernel_rfl
theorem R_l_eqUndoS_4_eq (n : Nat) (s0 : DSlIUndo) (s1 : DSlIUndo) (s5 : Int) : R_l_eqUndoS_4 (n + 1) s0 s1 s5 =
    bif decide (s5 < (↑(List.length s0) : Int)) then
 if (0 : Int) ≤ s5 then
 (nth s0 s5.toNat).bind fun y =>
 if (0 : Int) ≤ s5 then
 (nth s1 s5.toNat).bind fun y_1 =>
 (Q_l_eqUndo big y y_1).bind fun y =>
 bif !y then some false else R_l_eqUndoS_4 n s0 s1 (IntKind.i64.wrap (s5 + (1 : Int)))
 else none
 else none
 else some true := by kernel_rfl

end Go.Sx.Try

set_option maxRecDepth 100000
namespace Go.Sx.Try
open Go Go.Sx Go.Proofs

noncomputable def l_l_eqVoteS : List (Nat × Con) := [(25, c_l_eqVote)]
theorem l_l_eqVoteS_ok : ∀ q ∈ l_l_eqVoteS, ConOk Try.prog q.1 q.2 := Try.cons_cons c_l_eqVote_ok (Try.cons_nil)
abbrev k_l_eqVoteS_4 : List Keep × List BK := ([.ro tSlIVote, .ro tSlIVote, .drop, .drop, .drop, .ro tInt64, .drop, .drop, .drop, .drop, .drop, .drop, .drop, .drop, .drop, .drop, .drop, .drop, .drop, .drop, .drop, .drop, .drop, .drop, .drop, .drop, .drop], [])
def kp_l_eqVoteS : KP := [(4, k_l_eqVoteS_4)]
noncomputable def q_l_eqVoteS (n : Nat) (x : Args [tSlIVote, tSlIVote]) := evX (false, false, []) l_l_eqVoteS kp_l_eqVoteS [none] Try.f77 (shV tBool) n (encA [tSlIVote, tSlIVote] x)
noncomputable def c_l_eqVoteS : Con := roS [tSlIVote, tSlIVote] true (shV tBool) (q_l_eqVoteS big)
theorem c_l_eqVoteS_ok : ConOk Try.prog 77 c_l_eqVoteS := roS_ok ⟨Try.f77, by kernel_rfl, rfl, by decide⟩ fun _ _ h => evX_ok l_l_eqVoteS_ok (f := Try.f77) (by kernel_rfl) rfl (by kernel_rfl) (by kernel_rfl) big h
noncomputable def Q_l_eqVoteS (n : Nat) (a0 : DSlIVote) (a1 : DSlIVote) : Option Bool := q_l_eqVoteS n (a0, a1, ())
noncomputable def r_l_eqVoteS_4 (n : Nat) (x : KD k_l_eqVoteS_4.1) (y : BD k_l_eqVoteS_4.2) := rounds (env (false, false, []) l_l_eqVoteS) kp_l_eqVoteS (body Try.f77) (finX (false, false, []) l_l_eqVoteS [none] Try.f77 (shV tBool) [.val tSlIVote (zeroD tSlIVote), .val tSlIVote (zeroD tSlIVote)]) n 4 k_l_eqVoteS_4 x y
noncomputable def R_l_eqVoteS_4 (n : Nat) (s0 : DSlIVote) (s1 : DSlIVote) (s5 : Int) : Option Bool := r_l_eqVoteS_4 n (s0, s1, s5, ()) ()
theorem Q_l_eqVoteS_eq (n : Nat) (a0 : DSlIVote) (a1 : DSlIVote) : Q_l_eqVoteS n a0 a1 =
    bif !decide ((↑(List.length a0) : Int) = (↑(List.length a1) : Int)) then some false
 else R_l_eqVoteS_4 n a0 a1 (0 : Int) := by kernel_rfl
theorem R_l_eqVoteS_4_eq (n : Nat) (s0 : DSlIVote) (s1 : DSlIVote) (s5 : Int) : R_l_eqVoteS_4 (n + 1) s0 s1 s5 =
    bif decide (s5 < (↑(List.length s0) : Int)) then
 if (0 : Int) ≤ s5 then
 (nth s0 s5.toNat).bind fun y =>
 if (0 : Int) ≤ s5 then
 (nth s1 s5.toNat).bind fun y_1 =>
 (Q_l_eqVote big y y_1).bind fun y =>
 bif !y then some false else R_l_eqVoteS_4 n s0 s1 (IntKind.i64.wrap (s5 + (1 : Int)))
 else none
 else none
 else some true := by kernel_rfl

end Go.Sx.Try

set_option maxRecDepth 100000
namespace Go.Sx.Try
open Go Go.Sx Go.Proofs

noncomputable def l_l_eqLetter : List (Nat × Con) := [(75, c_l_eqQc), (25, c_l_eqVote)]
theorem l_l_eqLetter_ok : ∀ q ∈ l_l_eqLetter, ConOk Try.prog q.1 q.2 := Try.cons_cons c_l_eqQc_ok (Try.cons_cons c_l_eqVote_ok (Try.cons_nil))
def kp_l_eqLetter : KP := []
noncomputable def q_l_eqLetter (n : Nat) (x : Args [tILetter, tILetter]) := evX (false, false, [2, 3, 5, 7, 10, 12, 15, 17, 20, 22, 25, 27, 30, 32, 36, 38]) l_l_eqLetter kp_l_eqLetter [none] Try.f30 (shV tBool) n (encA [tILetter, tILetter] x)
noncomputable def c_l_eqLetter : Con := roS [tILetter, tILetter] true (shV tBool) (q_l_eqLetter big)
theorem c_l_eqLetter_ok : ConOk Try.prog 30 c_l_eqLetter := roS_ok ⟨Try.f30, by kernel_rfl, rfl, by decide⟩ fun _ _ h => evX_ok l_l_eqLetter_ok (f := Try.f30) (by kernel_rfl) rfl (by kernel_rfl) (by kernel_rfl) big h
noncomputable def Q_l_eqLetter (n : Nat) (a0 : DILetter) (a1 : DILetter) : Option Bool := q_l_eqLetter n (a0, a1, ())
theorem Q_l_eqLetter_eq (n : Nat) (a0 : DILetter) (a1 : DILetter) : Q_l_eqLetter n a0 a1 =
    bif !decide (a0.fst = a1.fst) then some false
 else
 bif !decide (a0.snd.fst = a1.snd.fst) then some false
 else
 bif !decide (a0.snd.snd.fst = a1.snd.snd.fst) then some false
 else
 bif !decide (a0.snd.snd.snd.fst = a1.snd.snd.snd.fst) then some false
 else
 bif !decide (a0.snd.snd.snd.snd.fst = a1.snd.snd.snd.snd.fst) then some false
 else
 (Q_l_eqQc big a0.snd.snd.snd.snd.snd.fst a1.snd.snd.snd.snd.snd.fst).bind fun y =>
 bif !y then some false
 else
 (Q_l_eqVote big a0.snd.snd.snd.snd.snd.snd.fst a1.snd.snd.snd.snd.snd.snd.fst).bind fun y =>
 bif !y then some false else some true := by kernel_rfl

end Go.Sx.Try

set_option maxRecDepth 100000
namespace Go.Sx.Try
open Go Go.Sx Go.Proofs

noncomputable def l_l_eqLetterS : List (Nat × Con) := [(30, c_l_eqLetter)]
theorem l_l_eqLetterS_ok : ∀ q ∈ l_l_eqLetterS, ConOk Try.prog q.1 q.2 := Try.cons_cons c_l_eqLetter_ok (Try.cons_nil)
abbrev k_l_eqLetterS_4 : List Keep × List BK := ([.ro tSlILetter, .ro tSlILetter, .drop, .drop, .drop, .ro tInt64, .drop, .drop, .drop, .drop, .drop, .drop, .drop, .drop, .drop, .drop, .drop, .drop, .drop, .drop, .drop, .drop, .drop, .drop, .drop, .drop, .drop], [])
def kp_l_eqLetterS : KP := [(4, k_l_eqLetterS_4)]
noncomputable def q_l_eqLetterS (n : Nat) (x : Args [tSlILetter, tSlILetter]) := evX (false, false, []) l_l_eqLetterS kp_l_eqLetterS [none] Try.f46 (shV tBool) n (encA [tSlILetter, tSlILetter] x)
noncomputable def c_l_eqLetterS : Con := roS [tSlILetter, tSlILetter] true (shV tBool) (q_l_eqLetterS big)
theorem c_l_eqLetterS_ok : ConOk Try.prog 46 c_l_eqLetterS := roS_ok ⟨Try.f46, by kernel_rfl, rfl, by decide⟩ fun _ _ h => evX_ok l_l_eqLetterS_ok (f := Try.f46) (by kernel_rfl) rfl (by kernel_rfl) (by kernel_rfl) big h
noncomputable def Q_l_eqLetterS (n : Nat) (a0 : DSlILetter) (a1 : DSlILetter) : Option Bool := q_l_eqLetterS n (a0, a1, ())
noncomputable def r_l_eqLetterS_4 (n : Nat) (x : KD k_l_eqLetterS_4.1) (y : BD k_l_eqLetterS_4.2) := rounds (env (false, false, []) l_l_eqLetterS) kp_l_eqLetterS (body Try.f46) (finX (false, false, []) l_l_eqLetterS [none] Try.f46 (shV tBool) [.val tSlILetter (zeroD tSlILetter), .val tSlILetter (zeroD tSlILetter)]) n 4 k_l_eqLetterS_4 x y
noncomputable def R_l_eqLetterS_4 (n : Nat) (s0 : DSlILetter) (s1 : DSlILetter) (s5 : Int) : Option Bool := r_l_eqLetterS_4 n (s0, s1, s5, ()) ()
theorem Q_l_eqLetterS_eq (n : Nat) (a0 : DSlILetter) (a1 : DSlILetter) : Q_l_eqLetterS n a0 a1 =
    bif !decide ((↑(List.length a0) : Int) = (↑(List.length a1) : Int)) then some false
 else R_l_eqLetterS_4 n a0 a1 (0 : Int) := by kernel_rfl
theorem R_l_eqLetterS_4_eq (n : Nat) (s0 : DSlILetter) (s1 : DSlILetter) (s5 : Int) : R_l_eqLetterS_4 (n + 1) s0 s1 s5 =
    bif decide (s5 < (↑(List.length s0) : Int)) then
 if (0 : Int) ≤ s5 then
 (nth s0 s5.toNat).bind fun y =>
 if (0 : Int) ≤ s5 then
 (nth s1 s5.toNat).bind fun y_1 =>
 (Q_l_eqLetter big y y_1).bind fun y =>
 bif !y then some false else R_l_eqLetterS_4 n s0 s1 (IntKind.i64.wrap (s5 + (1 : Int)))
 else none
 else none
 else some true := by kernel_rfl

end Go.Sx.Try

set_option maxRecDepth 100000
namespace Go.Sx.Try
open Go Go.Sx Go.Proofs

noncomputable def l_l_eqPeer : List (Nat × Con) := [(75, c_l_eqQc), (25, c_l_eqVote), (63, c_l_eqIntS), (61, c_l_eqCellS), (76, c_l_eqUndoS), (77, c_l_eqVoteS), (46, c_l_eqLetterS)]
theorem l_l_eqPeer_ok : ∀ q ∈ l_l_eqPeer, ConOk Try.prog q.1 q.2 := Try.cons_cons c_l_eqQc_ok (Try.cons_cons c_l_eqVote_ok (Try.cons_cons c_l_eqIntS_ok (Try.cons_cons c_l_eqCellS_ok (Try.cons_cons c_l_eqUndoS_ok (Try.cons_cons c_l_eqVoteS_ok (Try.cons_cons c_l_eqLetterS_ok (Try.cons_nil)))))))
def kp_l_eqPeer : KP := []
noncomputable def q_l_eqPeer (n : Nat) (x : Args [tIPeer, tIPeer]) := evX (false, false, [2, 3, 5, 7, 10, 12, 15, 17, 21, 23, 27, 29, 33, 35, 39, 41, 45, 47, 51, 53, 57, 59, 63, 65, 69, 71]) l_l_eqPeer kp_l_eqPeer [none] Try.f18 (shV tBool) n (encA [tIPeer, tIPeer] x)
noncomputable def c_l_eqPeer : Con := roS [tIPeer, tIPeer] true (shV tBool) (q_l_eqPeer big)
theorem c_l_eqPeer_ok : ConOk Try.prog 18 c_l_eqPeer := roS_ok ⟨Try.f18, by kernel_rfl, rfl, by decide⟩ fun _ _ h => evX_ok l_l_eqPeer_ok (f := Try.f18) (by kernel_rfl) rfl (by kernel_rfl) (by kernel_rfl) big h
noncomputable def Q_l_eqPeer (n : Nat) (a0 : DIPeer) (a1 : DIPeer) : Option Bool := q_l_eqPeer n (a0, a1, ())
theorem Q_l_eqPeer_eq (n : Nat) (a0 : DIPeer) (a1 : DIPeer) : Q_l_eqPeer n a0 a1 =
    bif !decide (a0.fst = a1.fst) then some false
 else
 bif !decide (a0.snd.fst = a1.snd.fst) then some false
 else
 (Q_l_eqQc big a0.snd.snd.fst a1.snd.snd.fst).bind fun y =>
 bif !y then some false
 else
 (Q_l_eqQc big a0.snd.snd.snd.fst a1.snd.snd.snd.fst).bind fun y =>
 bif !y then some false
 else
 (Q_l_eqVote big a0.snd.snd.snd.snd.fst a1.snd.snd.snd.snd.fst).bind fun y =>
 bif !y then some false
 else
 (Q_l_eqIntS big a0.snd.snd.snd.snd.snd.fst a1.snd.snd.snd.snd.snd.fst).bind fun y =>
 bif !y then some false
 else
 (Q_l_eqCellS big a0.snd.snd.snd.snd.snd.snd.fst a1.snd.snd.snd.snd.snd.snd.fst).bind fun y =>
 bif !y then some false
 else
 (Q_l_eqIntS big a0.snd.snd.snd.snd.snd.snd.snd.fst a1.snd.snd.snd.snd.snd.snd.snd.fst).bind
 fun y =>
 bif !y then some false
 else
 (Q_l_eqUndoS big a0.snd.snd.snd.snd.snd.snd.snd.snd.fst
 a1.snd.snd.snd.snd.snd.snd.snd.snd.fst).bind
 fun y =>
 bif !y then some false
 else
 (Q_l_eqVoteS big a0.snd.snd.snd.snd.snd.snd.snd.snd.snd.fst
 a1.snd.snd.snd.snd.snd.snd.snd.snd.snd.fst).bind
 fun y =>
 bif !y then some false
 else
 (Q_l_eqLetterS big a0.snd.snd.snd.snd.snd.snd.snd.snd.snd.snd.fst
 a1.snd.snd.snd.snd.snd.snd.snd.snd.snd.snd.fst).bind
 fun y =>
 bif !y then some false
 else
 bif
 !decide
 (a0.snd.snd.snd.snd.snd.snd.snd.snd.snd.snd.snd.fst =
 a1.snd.snd.snd.snd.snd.snd.snd.snd.snd.snd.snd.fst) then
 some false
 else some true := by kernel_rfl

end Go.Sx.Try

set_option maxRecDepth 100000
namespace Go.Sx.Try
open Go Go.Sx Go.Proofs

noncomputable def l_l_eqPeerS : List (Nat × Con) := [(18, c_l_eqPeer)]
theorem l_l_eqPeerS_ok : ∀ q ∈ l_l_eqPeerS, ConOk Try.prog q.1 q.2 := Try.cons_cons c_l_eqPeer_ok (Try.cons_nil)
abbrev k_l_eqPeerS_4 : List Keep × List BK := ([.ro tSlLPeer, .ro tSlLPeer, .drop, .drop, .drop, .ro tInt64, .drop, .drop, .drop, .drop, .drop, .drop, .drop, .drop, .drop, .drop, .drop, .drop, .drop, .drop, .drop, .drop, .drop, .drop, .drop, .drop, .drop], [])
def kp_l_eqPeerS : KP := [(4, k_l_eqPeerS_4)]
noncomputable def q_l_eqPeerS (n : Nat) (x : Args [tSlIPeer, tSlIPeer]) := evX (false, false, []) l_l_eqPeerS kp_l_eqPeerS [none] Try.f111 (shV tBool) n (encA [tSlIPeer, tSlIPeer] x)
noncomputable def c_l_eqPeerS : Con := roS [tSlIPeer, tSlIPeer] true (shV tBool) (q_l_eqPeerS big)
theorem c_l_eqPeerS_ok : ConOk Try.prog 111 c_l_eqPeerS := roS_ok ⟨Try.f111, by kernel_rfl, rfl, by decide⟩ fun _ _ h => evX_ok l_l_eqPeerS_ok (f := Try.f111) (by kernel_rfl) rfl (by kernel_rfl) (by kernel_rfl) big h
noncomputable def Q_l_eqPeerS (n : Nat) (a0 : DSlIPeer) (a1 : DSlIPeer) : Option Bool := q_l_eqPeerS n (a0, a1, ())
noncomputable def r_l_eqPeerS_4 (n : Nat) (x : KD k_l_eqPeerS_4.1) (y : BD k_l_eqPeerS_4.2) := rounds (env (false, false, []) l_l_eqPeerS) kp_l_eqPeerS (body Try.f111) (finX (false, false, []) l_l_eqPeerS [none] Try.f111 (shV tBool) [.val tSlIPeer (zeroD tSlIPeer), .val tSlIPeer (zeroD tSlIPeer)]) n 4 k_l_eqPeerS_4 x y
noncomputable def R_l_eqPeerS_4 (n : Nat) (s0 : DSlLPeer) (s1 : DSlLPeer) (s5 : Int) : Option Bool := r_l_eqPeerS_4 n (s0, s1, s5, ()) ()
theorem Q_l_eqPeerS_eq (n : Nat) (a0 : DSlIPeer) (a1 : DSlIPeer) : Q_l_eqPeerS n a0 a1 =
    bif !decide ((↑(List.length a0) : Int) = (↑(List.length a1) : Int)) then some false
 else R_l_eqPeerS_4 n a0 a1 (0 : Int) := by kernel_rfl
theorem R_l_eqPeerS_4_eq (n : Nat) (s0 : DSlLPeer) (s1 : DSlLPeer) (s5 : Int) : R_l_eqPeerS_4 (n + 1) s0 s1 s5 =
    bif decide (s5 < (↑(List.length s0) : Int)) then
 if (0 : Int) ≤ s5 then
 (nth s0 s5.toNat).bind fun y =>
 if (0 : Int) ≤ s5 then
 (nth s1 s5.toNat).bind fun y_1 =>
 (Q_l_eqPeer big y y_1).bind fun y =>
 bif !y then some false else R_l_eqPeerS_4 n s0 s1 (IntKind.i64.wrap (s5 + (1 : Int)))
 else none
 else none
 else some true := by kernel_rfl

end Go.Sx.Try

set_option maxRecDepth 100000
namespace Go.Sx.Try
open Go Go.Sx Go.Proofs

noncomputable def l_l_eqCluster : List (Nat × Con) := [(62, c_l_eqBlockS), (111, c_l_eqPeerS), (46, c_l_eqLetterS), (77, c_l_eqVoteS), (72, c_l_eqCmdS)]
theorem l_l_eqCluster_ok : ∀ q ∈ l_l_eqCluster, ConOk Try.prog q.1 q.2 := Try.cons_cons c_l_eqBlockS_ok (Try.cons_cons c_l_eqPeerS_ok (Try.cons_cons c_l_eqLetterS_ok (Try.cons_cons c_l_eqVoteS_ok (Try.cons_cons c_l_eqCmdS_ok (Try.cons_nil)))))
def kp_l_eqCluster : KP := []
noncomputable def q_l_eqCluster (n : Nat) (x : Args [tICluster, tICluster]) := evX (false, false, [2, 3, 5, 7, 10, 12, 15, 17, 20, 22, 26, 28, 32, 34, 38, 40, 44, 46]) l_l_eqCluster kp_l_eqCluster [none] Try.f35 (shV tBool) n (encA [tICluster, tICluster] x)
noncomputable def c_l_eqCluster : Con := roS [tICluster, tICluster] true (shV tBool) (q_l_eqCluster big)
theorem c_l_eqCluster_ok : ConOk Try.prog 35 c_l_eqCluster := roS_ok ⟨Try.f35, by kernel_rfl, rfl, by decide⟩ fun _ _ h => evX_ok l_l_eqCluster_ok (f := Try.f35) (by kernel_rfl) rfl (by kernel_rfl) (by kernel_rfl) big h
noncomputable def Q_l_eqCluster (n : Nat) (a0 : DICluster) (a1 : DICluster) : Option Bool := q_l_eqCluster n (a0, a1, ())
theorem Q_l_eqCluster_eq (n : Nat) (a0 : DICluster) (a1 : DICluster) : Q_l_eqCluster n a0 a1 =
    bif !decide (a0.fst = a1.fst) then some false
 else
 bif !a0.snd.fst == a1.snd.fst then some false
 else
 bif !decide (a0.snd.snd.fst = a1.snd.snd.fst) then some false
 else
 (Q_l_eqBlockS big a0.snd.snd.snd.fst a1.snd.snd.snd.fst).bind fun y =>
 bif !y then some false
 else
 (Q_l_eqPeerS big a0.snd.snd.snd.snd.fst a1.snd.snd.snd.snd.fst).bind fun y =>
 bif !y then some false
 else
 (Q_l_eqLetterS big a0.snd.snd.snd.snd.snd.fst a1.snd.snd.snd.snd.snd.fst).bind fun y =>
 bif !y then some false
 else
 (Q_l_eqVoteS big a0.snd.snd.snd.snd.snd.snd.fst a1.snd.snd.snd.snd.snd.snd.fst).bind fun y =>
 bif !y then some false
 else
 (Q_l_eqCmdS big a0.snd.snd.snd.snd.snd.snd.snd.fst a1.snd.snd.snd.snd.snd.snd.snd.fst).bind
 fun y => bif !y then some false else some true := by kernel_rfl

end Go.Sx.Try

set_option maxRecDepth 100000
namespace Go.Sx.Try
open Go Go.Sx Go.Proofs

noncomputable def l_g_Clone_Int : List (Nat × Con) := []
theorem l_g_Clone_Int_ok : ∀ q ∈ l_g_Clone_Int, ConOk Try.prog q.1 q.2 := Try.cons_nil
def kp_g_Clone_Int : KP := []
noncomputable def q_g_Clone_Int (n : Nat) (x : Args [tSlInt]) := evX (false, false, []) l_g_Clone_Int kp_g_Clone_Int [some uSlInt] Try.f152 (shF uSlInt) n (encA [tSlInt] x)
noncomputable def c_g_Clone_Int : Con := roS [tSlInt] true (shF uSlInt) (q_g_Clone_Int big)
theorem c_g_Clone_Int_ok : ConOk Try.prog 152 c_g_Clone_Int := roS_ok ⟨Try.f152, by kernel_rfl, rfl, by decide⟩ fun _ _ h => evX_ok l_g_Clone_Int_ok (f := Try.f152) (by kernel_rfl) rfl (by kernel_rfl) (by kernel_rfl) big h
noncomputable def Q_g_Clone_Int (n : Nat) (a0 : DSlInt) : Option DSlInt := q_g_Clone_Int n (a0, ())
theorem Q_g_Clone_Int_eq (n : Nat) (a0 : DSlInt) : Q_g_Clone_Int n a0 =
    nilC a0 fun b => bif b then some [] else if (0 : Nat) + List.length a0 ≤ lim then some a0 else none := by kernel_rfl

end Go.Sx.Try

set_option maxRecDepth 100000
namespace Go.Sx.Try
open Go Go.Sx Go.Proofs

noncomputable def l_g_Clone_ICell : List (Nat × Con) := []
theorem l_g_Clone_ICell_ok : ∀ q ∈ l_g_Clone_ICell, ConOk Try.prog q.1 q.2 := Try.cons_nil
def kp_g_Clone_ICell : KP := []
noncomputable def q_g_Clone_ICell (n : Nat) (x : Args [tSlICell]) := evX (false, false, []) l_g_Clone_ICell kp_g_Clone_ICell [some uSlICell] Try.f153 (shF uSlICell) n (encA [tSlICell] x)
noncomputable def c_g_Clone_ICell : Con := roS [tSlICell] true (shF uSlICell) (q_g_Clone_ICell big)
theorem c_g_Clone_ICell_ok : ConOk Try.prog 153 c_g_Clone_ICell := roS_ok ⟨Try.f153, by kernel_rfl, rfl, by decide⟩ fun _ _ h => evX_ok l_g_Clone_ICell_ok (f := Try.f153) (by kernel_rfl) rfl (by kernel_rfl) (by kernel_rfl) big h
noncomputable def Q_g_Clone_ICell (n : Nat) (a0 : DSlICell) : Option DSlICell := q_g_Clone_ICell n (a0, ())
theorem Q_g_Clone_ICell_eq (n : Nat) (a0 : DSlICell) : Q_g_Clone_ICell n a0 =
    nilC a0 fun b => bif b then some [] else if (0 : Nat) + List.length a0 ≤ lim then some a0 else none := by kernel_rfl

end Go.Sx.Try

set_option maxRecDepth 100000
namespace Go.Sx.Try
open Go Go.Sx Go.Proofs

noncomputable def l_g_Clone_IUndo : List (Nat × Con) := []
theorem l_g_Clone_IUndo_ok : ∀ q ∈ l_g_Clone_IUndo, ConOk Try.prog q.1 q.2 := Try.cons_nil
def kp_g_Clone_IUndo : KP := []
noncomputable def q_g_Clone_IUndo (n : Nat) (x : Args [tSlIUndo]) := evX (false, false, []) l_g_Clone_IUndo kp_g_Clone_IUndo [some uSlIUndo] Try.f154 (shF uSlIUndo) n (encA [tSlIUndo] x)
noncomputable def c_g_Clone_IUndo : Con := roS [tSlIUndo] true (shF uSlIUndo) (q_g_Clone_IUndo big)
theorem c_g_Clone_IUndo_ok : ConOk Try.prog 154 c_g_Clone_IUndo := roS_ok ⟨Try.f154, by kernel_rfl, rfl, by decide⟩ fun _ _ h => evX_ok l_g_Clone_IUndo_ok (f := Try.f154) (by kernel_rfl) rfl (by kernel_rfl) (by kernel_rfl) big h
noncomputable def Q_g_Clone_IUndo (n : Nat) (a0 : DSlIUndo) : Option DSlIUndo := q_g_Clone_IUndo n (a0, ())
theorem Q_g_Clone_IUndo_eq (n : Nat) (a0 : DSlIUndo) : Q_g_Clone_IUndo n a0 =
    nilC a0 fun b => bif b then some [] else if (0 : Nat) + List.length a0 ≤ lim then some a0 else none := by kernel_rfl

end Go.Sx.Try

set_option maxRecDepth 100000
namespace Go.Sx.Try
open Go Go.Sx Go.Proofs

noncomputable def l_g_Clone_IVote : List (Nat × Con) := []
theorem l_g_Clone_IVote_ok : ∀ q ∈ l_g_Clone_IVote, ConOk Try.prog q.1 q.2 := Try.cons_nil
def kp_g_Clone_IVote : KP := []
noncomputable def q_g_Clone_IVote (n : Nat) (x : Args [tSlIVote]) := evX (false, false, []) l_g_Clone_IVote kp_g_Clone_IVote [some uSlIVote] Try.f155 (shF uSlIVote) n (encA [tSlIVote] x)
noncomputable def c_g_Clone_IVote : Con := roS [tSlIVote] true (shF uSlIVote) (q_g_Clone_IVote big)
theorem c_g_Clone_IVote_ok : ConOk Try.prog 155 c_g_Clone_IVote := roS_ok ⟨Try.f155, by kernel_rfl, rfl, by decide⟩ fun _ _ h => evX_ok l_g_Clone_IVote_ok (f := Try.f155) (by kernel_rfl) rfl (by kernel_rfl) (by kernel_rfl) big h
noncomputable def Q_g_Clone_IVote (n : Nat) (a0 : DSlIVote) : Option DSlIVote := q_g_Clone_IVote n (a0, ())
theorem Q_g_Clone_IVote_eq (n : Nat) (a0 : DSlIVote) : Q_g_Clone_IVote n a0 =
    nilC a0 fun b => bif b then some [] else if (0 : Nat) + List.length a0 ≤ lim then some a0 else none := by kernel_rfl

end Go.Sx.Try

set_option maxRecDepth 100000
namespace Go.Sx.Try
open Go Go.Sx Go.Proofs

noncomputable def l_g_Clone_ILetter : List (Nat × Con) := []
theorem l_g_Clone_ILetter_ok : ∀ q ∈ l_g_Clone_ILetter, ConOk Try.prog q.1 q.2 := Try.cons_nil
def kp_g_Clone_ILetter : KP := []
noncomputable def q_g_Clone_ILetter (n : Nat) (x : Args [tSlILetter]) := evX (false, false, []) l_g_Clone_ILetter kp_g_Clone_ILetter [some uSlILetter] Try.f156 (shF uSlILetter) n (encA [tSlILetter] x)
noncomputable def c_g_Clone_ILetter : Con := roS [tSlILetter] true (shF uSlILetter) (q_g_Clone_ILetter big)
theorem c_g_Clone_ILetter_ok : ConOk Try.prog 156 c_g_Clone_ILetter := roS_ok ⟨Try.f156, by kernel_rfl, rfl, by decide⟩ fun _ _ h => evX_ok l_g_Clone_ILetter_ok (f := Try.f156) (by kernel_rfl) rfl (by kernel_rfl) (by kernel_rfl) big h
noncomputable def Q_g_Clone_ILetter (n : Nat) (a0 : DSlILetter) : Option DSlILetter := q_g_Clone_ILetter n (a0, ())
theorem Q_g_Clone_ILetter_eq (n : Nat) (a0 : DSlILetter) : Q_g_Clone_ILetter n a0 =
    nilC a0 fun b => bif b then some [] else if (0 : Nat) + List.length a0 ≤ lim then some a0 else none := by kernel_rfl

end Go.Sx.Try

set_option maxRecDepth 100000
namespace Go.Sx.Try
open Go Go.Sx Go.Proofs

noncomputable def l_i_clonePeer : List (Nat × Con) := [(152, c_g_Clone_Int), (153, c_g_Clone_ICell), (154, c_g_Clone_IUndo), (155, c_g_Clone_IVote), (156, c_g_Clone_ILetter)]
theorem l_i_clonePeer_ok : ∀ q ∈ l_i_clonePeer, ConOk Try.prog q.1 q.2 := Try.cons_cons c_g_Clone_Int_ok (Try.cons_cons c_g_Clone_ICell_ok (Try.cons_cons c_g_Clone_IUndo_ok (Try.cons_cons c_g_Clone_IVote_ok (Try.cons_cons c_g_Clone_ILetter_ok (Try.cons_nil)))))
def kp_i_clonePeer : KP := []
noncomputable def q_i_clonePeer (n : Nat) (x : Args [tIPeer]) := evX (false, false, [1, 3, 6, 9, 12, 15, 18]) l_i_clonePeer kp_i_clonePeer [some uIPeer] Try.f94 (shF uIPeer) n (encA [tIPeer] x)
noncomputable def c_i_clonePeer : Con := roS [tIPeer] true (shF uIPeer) (q_i_clonePeer big)
theorem c_i_clonePeer_ok : ConOk Try.prog 94 c_i_clonePeer := roS_ok ⟨Try.f94, by kernel_rfl, rfl, by decide⟩ fun _ _ h => evX_ok l_i_clonePeer_ok (f := Try.f94) (by kernel_rfl) rfl (by kernel_rfl) (by kernel_rfl) big h
noncomputable def Q_i_clonePeer (n : Nat) (a0 : DIPeer) : Option DIPeer := q_i_clonePeer n (a0, ())
theorem Q_i_clonePeer_eq (n : Nat) (a0 : DIPeer) : Q_i_clonePeer n a0 =
    (Q_g_Clone_Int big a0.snd.snd.snd.snd.snd.fst).bind fun y =>
 (Q_g_Clone_ICell big a0.snd.snd.snd.snd.snd.snd.fst).bind fun y_1 =>
 (Q_g_Clone_Int big a0.snd.snd.snd.snd.snd.snd.snd.fst).bind fun y_2 =>
 (Q_g_Clone_IUndo big a0.snd.snd.snd.snd.snd.snd.snd.snd.fst).bind fun y_3 =>
 (Q_g_Clone_IVote big a0.snd.snd.snd.snd.snd.snd.snd.snd.snd.fst).bind fun y_4 =>
 (Q_g_Clone_ILetter big a0.snd.snd.snd.snd.snd.snd.snd.snd.snd.snd.fst).bind fun y_5 =>
 some
 (a0.fst, a0.snd.fst, a0.snd.snd.fst, a0.snd.snd.snd.fst, a0.snd.snd.snd.snd.fst, y, y_1, y_2, y_3, y_4,
 y_5, a0.snd.snd.snd.snd.snd.snd.snd.snd.snd.snd.snd) := by kernel_rfl

end Go.Sx.Try

set_option maxRecDepth 100000
namespace Go.Sx.Try
open Go Go.Sx Go.Proofs

noncomputable def l_s_l09Copy : List (Nat × Con) := []
theorem l_s_l09Copy_ok : ∀ q ∈ l_s_l09Copy, ConOk Try.prog q.1 q.2 := Try.cons_nil
def kp_s_l09Copy : KP := []
noncomputable def q_s_l09Copy (n : Nat) (x : Args [tIPeer]) := evX (false, false, [1, 3, 6, 11, 16, 21, 26, 31]) l_s_l09Copy kp_s_l09Copy [some uIPeer] Try.f88 (shF uIPeer) n (encA [tIPeer] x)
noncomputable def c_s_l09Copy : Con := roS [tIPeer] true (shF uIPeer) (q_s_l09Copy big)
theorem c_s_l09Copy_ok : ConOk Try.prog 88 c_s_l09Copy := roS_ok ⟨Try.f88, by kernel_rfl, rfl, by decide⟩ fun _ _ h => evX_ok l_s_l09Copy_ok (f := Try.f88) (by kernel_rfl) rfl (by kernel_rfl) (by kernel_rfl) big h
noncomputable def Q_s_l09Copy (n : Nat) (a0 : DIPeer) : Option DIPeer := q_s_l09Copy n (a0, ())
theorem Q_s_l09Copy_eq (n : Nat) (a0 : DIPeer) : Q_s_l09Copy n a0 =
    if (0 : Nat) + List.length a0.snd.snd.snd.snd.snd.fst ≤ lim then
 if (0 : Nat) + List.length a0.snd.snd.snd.snd.snd.snd.fst ≤ lim then
 if (0 : Nat) + List.length a0.snd.snd.snd.snd.snd.snd.snd.fst ≤ lim then
 if (0 : Nat) + List.length a0.snd.snd.snd.snd.snd.snd.snd.snd.fst ≤ lim then
 if (0 : Nat) + List.length a0.snd.snd.snd.snd.snd.snd.snd.snd.snd.fst ≤ lim then
 if (0 : Nat) + List.length a0.snd.snd.snd.snd.snd.snd.snd.snd.snd.snd.fst ≤ lim then some a0 else none
 else none
 else none
 else none
 else none
 else none := by kernel_rfl

end Go.Sx.Try

set_option maxRecDepth 100000
namespace Go.Sx.Try
open Go Go.Sx Go.Proofs

noncomputable def l_l_markIntS : List (Nat × Con) := []
theorem l_l_markIntS_ok : ∀ q ∈ l_l_markIntS, ConOk Try.prog q.1 q.2 := Try.cons_nil
abbrev k_l_markIntS_2 : List Keep × List BK := ([.is (.own 0 0), .ro tInt64, .drop, .drop, .drop, .ro tInt64, .drop, .drop, .drop, .drop, .drop, .drop, .drop, .drop, .drop, .drop, .drop, .drop, .drop], [.arr tInt])
def kp_l_markIntS : KP := [(2, k_l_markIntS_2)]
noncomputable def q_l_markIntS (n : Nat) (x : AP.denL [.io tInt, .ro tInt]) := evX (false, false, []) l_l_markIntS kp_l_markIntS [none] Try.f65 (shO (shV tInt) [.io tInt]) n (AP.encL [.io tInt, .ro tInt] x)
noncomputable def c_l_markIntS : Con := apS [.io tInt, .ro tInt] true (shO (shV tInt) [.io tInt]) (q_l_markIntS big)
theorem c_l_markIntS_ok : ConOk Try.prog 65 c_l_markIntS := apS_ok ⟨Try.f65, by kernel_rfl, rfl, by decide⟩ fun _ _ h => evX_ok l_l_markIntS_ok (f := Try.f65) (by kernel_rfl) rfl (by kernel_rfl) (by kernel_rfl) big h
noncomputable def Q_l_markIntS (n : Nat) (a0 : DSlInt) (a1 : Int) : Option (Int × DSlInt × Unit) := q_l_markIntS n (a0, a1, ())
noncomputable def r_l_markIntS_2 (n : Nat) (x : KD k_l_markIntS_2.1) (y : BD k_l_markIntS_2.2) := rounds (env (false, false, []) l_l_markIntS) kp_l_markIntS (body Try.f65) (finX (false, false, []) l_l_markIntS [none] Try.f65 (shO (shV tInt) [.io tInt]) [AP.enc (.io tInt) [], AP.enc (.ro tInt) (zeroD tInt)]) n 2 k_l_markIntS_2 x y
noncomputable def R_l_markIntS_2 (n : Nat) (s1 : Int) (s5 : Int) (b0 : (List Int)) : Option (Int × DSlInt × Unit) := r_l_markIntS_2 n (s1, s5, ()) (b0, ())
theorem Q_l_markIntS_eq (n : Nat) (a0 : DSlInt) (a1 : Int) : Q_l_markIntS n a0 a1 =
    R_l_markIntS_2 n a1 (0 : Int) a0 := by kernel_rfl
theorem R_l_markIntS_2_eq (n : Nat) (s1 : Int) (s5 : Int) (b0 : (List Int)) : R_l_markIntS_2 (n + 1) s1 s5 b0 =
    bif decide (s5 < (↑b0.length : Int)) then
 if (0 : Int) ≤ s5 then
 if s5 < (↑b0.length : Int) then
 (nth b0 s5.toNat).bind fun y =>
 (updO b0 s5.toNat s1).bind fun y =>
 R_l_markIntS_2 n (IntKind.i64.wrap (s1 + (1 : Int))) (IntKind.i64.wrap (s5 + (1 : Int))) y
 else none
 else none
 else some (s1, b0, PUnit.unit) := by kernel_rfl

end Go.Sx.Try

set_option maxRecDepth 100000
namespace Go.Sx.Try
open Go Go.Sx Go.Proofs

noncomputable def l_l_heldIntS : List (Nat × Con) := []
theorem l_l_heldIntS_ok : ∀ q ∈ l_l_heldIntS, ConOk Try.prog q.1 q.2 := Try.cons_nil
abbrev k_l_heldIntS_2 : List Keep × List BK := ([.ro tSlInt, .ro tInt64, .drop, .drop, .drop, .ro tInt64, .drop, .drop, .drop, .drop, .drop, .drop, .drop, .drop, .drop, .drop, .drop, .drop, .drop, .drop, .drop], [])
def kp_l_heldIntS : KP := [(2, k_l_heldIntS_2)]
noncomputable def q_l_heldIntS (n : Nat) (x : Args [tSlInt, tInt]) := evX (false, false, []) l_l_heldIntS kp_l_heldIntS [none] Try.f80 (shV tInt) n (encA [tSlInt, tInt] x)
noncomputable def c_l_heldIntS : Con := roS [tSlInt, tInt] true (shV tInt) (q_l_heldIntS big)
theorem c_l_heldIntS_ok : ConOk Try.prog 80 c_l_heldIntS := roS_ok ⟨Try.f80, by kernel_rfl, rfl, by decide⟩ fun _ _ h => evX_ok l_l_heldIntS_ok (f := Try.f80) (by kernel_rfl) rfl (by kernel_rfl) (by kernel_rfl) big h
noncomputable def Q_l_heldIntS (n : Nat) (a0 : DSlInt) (a1 : Int) : Option Int := q_l_heldIntS n (a0, a1, ())
noncomputable def r_l_heldIntS_2 (n : Nat) (x : KD k_l_heldIntS_2.1) (y : BD k_l_heldIntS_2.2) := rounds (env (false, false, []) l_l_heldIntS) kp_l_heldIntS (body Try.f80) (finX (false, false, []) l_l_heldIntS [none] Try.f80 (shV tInt) [.val tSlInt (zeroD tSlInt), .val tInt (zeroD tInt)]) n 2 k_l_heldIntS_2 x y
noncomputable def R_l_heldIntS_2 (n : Nat) (s0 : DSlInt) (s1 : Int) (s5 : Int) : Option Int := r_l_heldIntS_2 n (s0, s1, s5, ()) ()
theorem Q_l_heldIntS_eq (n : Nat) (a0 : DSlInt) (a1 : Int) : Q_l_heldIntS n a0 a1 =
    R_l_heldIntS_2 n a0 a1 (0 : Int) := by kernel_rfl
theorem R_l_heldIntS_2_eq (n : Nat) (s0 : DSlInt) (s1 : Int) (s5 : Int) : R_l_heldIntS_2 (n + 1) s0 s1 s5 =
    bif decide (s5 < (↑(List.length s0) : Int)) then
 if (0 : Int) ≤ s5 then
 (nth s0 s5.toNat).bind fun y =>
 bif !decide (y = s1) then some (-1 : Int)
 else R_l_heldIntS_2 n s0 (IntKind.i64.wrap (s1 + (1 : Int))) (IntKind.i64.wrap (s5 + (1 : Int)))
 else none
 else some s1 := by kernel_rfl

end Go.Sx.Try

set_option maxRecDepth 100000
namespace Go.Sx.Try
open Go Go.Sx Go.Proofs

noncomputable def l_l_markText : List (Nat × Con) := []
theorem l_l_markText_ok : ∀ q ∈ l_l_markText, ConOk Try.prog q.1 q.2 := Try.cons_nil
abbrev k_l_markText_4 : List Keep × List BK := ([.ro tInt64, .drop, .drop, .ro tString, .drop, .drop, .drop, .drop, .drop, .drop, .drop, .drop, .drop, .drop, .drop, .drop, .drop, .drop, .drop, .drop], [])
def kp_l_markText : KP := [(4, k_l_markText_4)]
noncomputable def q_l_markText (n : Nat) (x : Args [tInt]) := evX (false, false, []) l_l_markText kp_l_markText [none] Try.f140 (shV tString) n (encA [tInt] x)
noncomputable def c_l_markText : Con := roS [tInt] true (shV tString) (q_l_markText big)
theorem c_l_markText_ok : ConOk Try.prog 140 c_l_markText := roS_ok ⟨Try.f140, by kernel_rfl, rfl, by decide⟩ fun _ _ h => evX_ok l_l_markText_ok (f := Try.f140) (by kernel_rfl) rfl (by kernel_rfl) (by kernel_rfl) big h
noncomputable def Q_l_markText (n : Nat) (a0 : Int) : Option ByteArray := q_l_markText n (a0, ())
noncomputable def r_l_markText_4 (n : Nat) (x : KD k_l_markText_4.1) (y : BD k_l_markText_4.2) := rounds (env (false, false, []) l_l_markText) kp_l_markText (body Try.f140) (finX (false, false, []) l_l_markText [none] Try.f140 (shV tString) [.val tInt (zeroD tInt)]) n 4 k_l_markText_4 x y
noncomputable def R_l_markText_4 (n : Nat) (s0 : Int) (s3 : ByteArray) : Option ByteArray := r_l_markText_4 n (s0, s3, ()) ()
theorem Q_l_markText_eq (n : Nat) (a0 : Int) : Q_l_markText n a0 =
    bif decide (a0 ≤ (0 : Int)) then some (ByteArray.mk #[(109 : UInt8), (48 : UInt8)])
 else R_l_markText_4 n a0 (ByteArray.mk #[]) := by kernel_rfl
theorem R_l_markText_4_eq (n : Nat) (s0 : Int) (s3 : ByteArray) : R_l_markText_4 (n + 1) s0 s3 =
    bif decide ((0 : Int) < s0) then
 if
 (ByteArray.mk
 (List.map (fun n => UInt8.ofNat n.toNat)
 [IntKind.u8.wrap (IntKind.i64.wrap ((48 : Int) + s0.tmod (10 : Int)))]).toArray).size +
 s3.size ≤
 lim then
 R_l_markText_4 n (IntKind.i64.wrap (s0.tdiv (10 : Int)))
 (ByteArray.mk
 (List.map (fun n => UInt8.ofNat n.toNat)
 [IntKind.u8.wrap (IntKind.i64.wrap ((48 : Int) + s0.tmod (10 : Int)))]).toArray ++
 s3)
 else none
 else
 if (ByteArray.mk #[(109 : UInt8)]).size + s3.size ≤ lim then some (ByteArray.mk #[(109 : UInt8)] ++ s3)
 else none := by kernel_rfl

end Go.Sx.Try

set_option maxRecDepth 100000
namespace Go.Sx.Try
open Go Go.Sx Go.Proofs

noncomputable def l_l_markCellS : List (Nat × Con) := [(140, c_l_markText)]
theorem l_l_markCellS_ok : ∀ q ∈ l_l_markCellS, ConOk Try.prog q.1 q.2 := Try.cons_cons c_l_markText_ok (Try.cons_nil)
abbrev k_l_markCellS_2 : List Keep × List BK := ([.is (.own 0 0), .ro tInt64, .drop, .drop, .drop, .ro tInt64, .drop, .drop, .drop, .drop, .drop, .drop, .drop, .drop, .drop, .drop, .drop, .drop, .drop, .drop, .drop, .drop, .drop, .drop, .drop, .drop, .drop, .drop], [.arr tICell])
def kp_l_markCellS : KP := [(2, k_l_markCellS_2)]
noncomputable def q_l_markCellS (n : Nat) (x : AP.denL [.io tICell, .ro tInt]) := evX (false, false, []) l_l_markCellS kp_l_markCellS [none] Try.f66 (shO (shV tInt) [.io tICell]) n (AP.encL [.io tICell, .ro tInt] x)
noncomputable def c_l_markCellS : Con := apS [.io tICell, .ro tInt] true (shO (shV tInt) [.io tICell]) (q_l_markCellS big)
theorem c_l_markCellS_ok : ConOk Try.prog 66 c_l_markCellS := apS_ok ⟨Try.f66, by kernel_rfl, rfl, by decide⟩ fun _ _ h => evX_ok l_l_markCellS_ok (f := Try.f66) (by kernel_rfl) rfl (by kernel_rfl) (by kernel_rfl) big h
noncomputable def Q_l_markCellS (n : Nat) (a0 : DSlICell) (a1 : Int) : Option (Int × DSlICell × Unit) := q_l_markCellS n (a0, a1, ())
noncomputable def r_l_markCellS_2 (n : Nat) (x : KD k_l_markCellS_2.1) (y : BD k_l_markCellS_2.2) := rounds (env (false, false, []) l_l_markCellS) kp_l_markCellS (body Try.f66) (finX (false, false, []) l_l_markCellS [none] Try.f66 (shO (shV tInt) [.io tICell]) [AP.enc (.io tICell) [], AP.enc (.ro tInt) (zeroD tInt)]) n 2 k_l_markCellS_2 x y
noncomputable def R_l_markCellS_2 (n : Nat) (s1 : Int) (s5 : Int) (b0 : (List DICell)) : Option (Int × DSlICell × Unit) := r_l_markCellS_2 n (s1, s5, ()) (b0, ())
theorem Q_l_markCellS_eq (n : Nat) (a0 : DSlICell) (a1 : Int) : Q_l_markCellS n a0 a1 =
    R_l_markCellS_2 n a1 (0 : Int) a0 := by kernel_rfl
theorem R_l_markCellS_2_eq (n : Nat) (s1 : Int) (s5 : Int) (b0 : (List DICell)) : R_l_markCellS_2 (n + 1) s1 s5 b0 =
    bif decide (s5 < (↑b0.length : Int)) then
 (Q_l_markText big s1).bind fun y =>
 if (0 : Int) ≤ s5 then
 if s5 < (↑b0.length : Int) then
 (nth b0 s5.toNat).bind fun y_1 =>
 (updO b0 s5.toNat (y, y_1.snd)).bind fun y =>
 if (0 : Int) ≤ s5 then
 if s5 < (↑y.length : Int) then
 (nth y s5.toNat).bind fun y_2 =>
 (updO y s5.toNat (y_2.fst, IntKind.i64.wrap (s1 + (1 : Int)), ())).bind fun y =>
 R_l_markCellS_2 n (IntKind.i64.wrap (IntKind.i64.wrap (s1 + (1 : Int)) + (1 : Int)))
 (IntKind.i64.wrap (s5 + (1 : Int))) y
 else none
 else none
 else none
 else none
 else some (s1, b0, PUnit.unit) := by kernel_rfl

end Go.Sx.Try

set_option maxRecDepth 100000
namespace Go.Sx.Try
open Go Go.Sx Go.Proofs

noncomputable def l_l_heldCellS : List (Nat × Con) := [(140, c_l_markText)]
theorem l_l_heldCellS_ok : ∀ q ∈ l_l_heldCellS, ConOk Try.prog q.1 q.2 := Try.cons_cons c_l_markText_ok (Try.cons_nil)
abbrev k_l_heldCellS_2 : List Keep × List BK := ([.ro tSlICell, .ro tInt64, .drop, .drop, .drop, .ro tInt64, .drop, .drop, .drop, .drop, .drop, .drop, .drop, .drop, .drop, .drop, .drop, .drop, .drop, .drop, .drop, .drop, .drop, .drop, .drop, .drop, .drop, .drop, .drop, .drop, .drop, .drop], [])
def kp_l_heldCellS : KP := [(2, k_l_heldCellS_2)]
noncomputable def q_l_heldCellS (n : Nat) (x : Args [tSlICell, tInt]) := evX (false, false, []) l_l_heldCellS kp_l_heldCellS [none] Try.f67 (shV tInt) n (encA [tSlICell, tInt] x)
noncomputable def c_l_heldCellS : Con := roS [tSlICell, tInt] true (shV tInt) (q_l_heldCellS big)
theorem c_l_heldCellS_ok : ConOk Try.prog 67 c_l_heldCellS := roS_ok ⟨Try.f67, by kernel_rfl, rfl, by decide⟩ fun _ _ h => evX_ok l_l_heldCellS_ok (f := Try.f67) (by kernel_rfl) rfl (by kernel_rfl) (by kernel_rfl) big h
noncomputable def Q_l_heldCellS (n : Nat) (a0 : DSlICell) (a1 : Int) : Option Int := q_l_heldCellS n (a0, a1, ())
noncomputable def r_l_heldCellS_2 (n : Nat) (x : KD k_l_heldCellS_2.1) (y : BD k_l_heldCellS_2.2) := rounds (env (false, false, []) l_l_heldCellS) kp_l_heldCellS (body Try.f67) (finX (false, false, []) l_l_heldCellS [none] Try.f67 (shV tInt) [.val tSlICell (zeroD tSlICell), .val tInt (zeroD tInt)]) n 2 k_l_heldCellS_2 x y
noncomputable def R_l_heldCellS_2 (n : Nat) (s0 : DSlICell) (s1 : Int) (s5 : Int) : Option Int := r_l_heldCellS_2 n (s0, s1, s5, ()) ()
theorem Q_l_heldCellS_eq (n : Nat) (a0 : DSlICell) (a1 : Int) : Q_l_heldCellS n a0 a1 =
    R_l_heldCellS_2 n a0 a1 (0 : Int) := by kernel_rfl
theorem R_l_heldCellS_2_eq (n : Nat) (s0 : DSlICell) (s1 : Int) (s5 : Int) : R_l_heldCellS_2 (n + 1) s0 s1 s5 =
    bif decide (s5 < (↑(List.length s0) : Int)) then
 if (0 : Int) ≤ s5 then
 (nth s0 s5.toNat).bind fun y =>
 (Q_l_markText big s1).bind fun y_1 =>
 bif !decide (y.fst = y_1) then some (-1 : Int)
 else
 if (0 : Int) ≤ s5 then
 (nth s0 s5.toNat).bind fun y =>
 bif !decide (y.snd.fst = IntKind.i64.wrap (s1 + (1 : Int))) then some (-1 : Int)
 else
 R_l_heldCellS_2 n s0 (IntKind.i64.wrap (IntKind.i64.wrap (s1 + (1 : Int)) + (1 : Int)))
 (IntKind.i64.wrap (s5 + (1 : Int)))
 else none
 else none
 else some s1 := by kernel_rfl

end Go.Sx.Try

set_option maxRecDepth 100000
namespace Go.Sx.Try
open Go Go.Sx Go.Proofs

noncomputable def l_l_markUndoS : List (Nat × Con) := [(140, c_l_markText)]
theorem l_l_markUndoS_ok : ∀ q ∈ l_l_markUndoS, ConOk Try.prog q.1 q.2 := Try.cons_cons c_l_markText_ok (Try.cons_nil)
abbrev k_l_markUndoS_2 : List Keep × List BK := ([.is (.own 0 0), .ro tInt64, .drop, .drop, .drop, .ro tInt64, .drop, .drop, .drop, .drop, .drop, .drop, .drop, .drop, .drop, .drop, .drop, .drop, .drop, .drop, .drop, .drop, .drop, .drop, .drop, .drop, .drop, .drop, .drop, .drop, .drop, .drop, .drop, .drop, .drop, .drop, .drop], [.arr tIUndo])
def kp_l_markUndoS : KP := [(2, k_l_markUndoS_2)]
noncomputable def q_l_markUndoS (n : Nat) (x : AP.denL [.io tIUndo, .ro tInt]) := evX (false, false, []) l_l_markUndoS kp_l_markUndoS [none] Try.f78 (shO (shV tInt) [.io tIUndo]) n (AP.encL [.io tIUndo, .ro tInt] x)
noncomputable def c_l_markUndoS : Con := apS [.io tIUndo, .ro tInt] true (shO (shV tInt) [.io tIUndo]) (q_l_markUndoS big)
theorem c_l_markUndoS_ok : ConOk Try.prog 78 c_l_markUndoS := apS_ok ⟨Try.f78, by kernel_rfl, rfl, by decide⟩ fun _ _ h => evX_ok l_l_markUndoS_ok (f := Try.f78) (by kernel_rfl) rfl (by kernel_rfl) (by kernel_rfl) big h
noncomputable def Q_l_markUndoS (n : Nat) (a0 : DSlIUndo) (a1 : Int) : Option (Int × DSlIUndo × Unit) := q_l_markUndoS n (a0, a1, ())
noncomputable def r_l_markUndoS_2 (n : Nat) (x : KD k_l_markUndoS_2.1) (y : BD k_l_markUndoS_2.2) := rounds (env (false, false, []) l_l_markUndoS) kp_l_markUndoS (body Try.f78) (finX (false, false, []) l_l_markUndoS [none] Try.f78 (shO (shV tInt) [.io tIUndo]) [AP.enc (.io tIUndo) [], AP.enc (.ro tInt) (zeroD tInt)]) n 2 k_l_markUndoS_2 x y
noncomputable def R_l_markUndoS_2 (n : Nat) (s1 : Int) (s5 : Int) (b0 : (List DIUndo)) : Option (Int × DSlIUndo × Unit) := r_l_markUndoS_2 n (s1, s5, ()) (b0, ())
theorem Q_l_markUndoS_eq (n : Nat) (a0 : DSlIUndo) (a1 : Int) : Q_l_markUndoS n a0 a1 =
    R_l_markUndoS_2 n a1 (0 : Int) a0 := by kernel_rfl
theorem R_l_markUndoS_2_eq (n : Nat) (s1 : Int) (s5 : Int) (b0 : (List DIUndo)) : R_l_markUndoS_2 (n + 1) s1 s5 b0 =
    bif decide (s5 < (↑b0.length : Int)) then
 (Q_l_markText big s1).bind fun y =>
 if (0 : Int) ≤ s5 then
 if s5 < (↑b0.length : Int) then
 (nth b0 s5.toNat).bind fun y_1 =>
 (updO b0 s5.toNat (y, y_1.snd)).bind fun y =>
 if (0 : Int) ≤ s5 then
 if s5 < (↑y.length : Int) then
 (nth y s5.toNat).bind fun y_2 =>
 (updO y s5.toNat
 (y_2.fst, decide ((IntKind.i64.wrap (s1 + (1 : Int))).tmod (3 : Int) = (0 : Int)),
 y_2.snd.snd)).bind
 fun y =>
 if (0 : Int) ≤ s5 then
 if s5 < (↑y.length : Int) then
 (nth y s5.toNat).bind fun y_3 =>
 (updO y s5.toNat
 (y_3.fst, y_3.snd.fst,
 IntKind.i64.wrap (IntKind.i64.wrap (s1 + (1 : Int)) + (1 : Int)), ())).bind
 fun y =>
 R_l_markUndoS_2 n
 (IntKind.i64.wrap
 (IntKind.i64.wrap (IntKind.i64.wrap (s1 + (1 : Int)) + (1 : Int)) + (1 : Int)))
 (IntKind.i64.wrap (s5 + (1 : Int))) y
 else none
 else none
 else none
 else none
 else none
 else none
 else some (s1, b0, PUnit.unit) := by kernel_rfl

end Go.Sx.Try

set_option maxRecDepth 100000
namespace Go.Sx.Try
open Go Go.Sx Go.Proofs

noncomputable def l_l_heldUndoS : List (Nat × Con) := [(140, c_l_markText)]
theorem l_l_heldUndoS_ok : ∀ q ∈ l_l_heldUndoS, ConOk Try.prog q.1 q.2 := Try.cons_cons c_l_markText_ok (Try.cons_nil)
abbrev k_l_heldUndoS_2 : List Keep × List BK := ([.ro tSlIUndo, .ro tInt64, .drop, .drop, .drop, .ro tInt64, .drop, .drop, .drop, .drop, .drop, .drop, .drop, .drop, .drop, .drop, .drop, .drop, .drop, .drop, .drop, .drop, .drop, .drop, .drop, .drop, .drop, .drop, .drop, .drop, .drop, .drop, .drop, .drop, .drop, .drop, .drop, .drop, .drop, .drop, .drop, .drop, .drop], [])
def kp_l_heldUndoS : KP := [(2, k_l_heldUndoS_2)]
noncomputable def q_l_heldUndoS (n : Nat) (x : Args [tSlIUndo, tInt]) := evX (false, false, []) l_l_heldUndoS kp_l_heldUndoS [none] Try.f81 (shV tInt) n (encA [tSlIUndo, tInt] x)
noncomputable def c_l_heldUndoS : Con := roS [tSlIUndo, tInt] true (shV tInt) (q_l_heldUndoS big)
theorem c_l_heldUndoS_ok : ConOk Try.prog 81 c_l_heldUndoS := roS_ok ⟨Try.f81, by kernel_rfl, rfl, by decide⟩ fun _ _ h => evX_ok l_l_heldUndoS_ok (f := Try.f81) (by kernel_rfl) rfl (by kernel_rfl) (by kernel_rfl) big h
noncomputable def Q_l_heldUndoS (n : Nat) (a0 : DSlIUndo) (a1 : Int) : Option Int := q_l_heldUndoS n (a0, a1, ())
noncomputable def r_l_heldUndoS_2 (n : Nat) (x : KD k_l_heldUndoS_2.1) (y : BD k_l_heldUndoS_2.2) := rounds (env (false, false, []) l_l_heldUndoS) kp_l_heldUndoS (body Try.f81) (finX (false, false, []) l_l_heldUndoS [none] Try.f81 (shV tInt) [.val tSlIUndo (zeroD tSlIUndo), .val tInt (zeroD tInt)]) n 2 k_l_heldUndoS_2 x y
noncomputable def R_l_heldUndoS_2 (n : Nat) (s0 : DSlIUndo) (s1 : Int) (s5 : Int) : Option Int := r_l_heldUndoS_2 n (s0, s1, s5, ()) ()
theorem Q_l_heldUndoS_eq (n : Nat) (a0 : DSlIUndo) (a1 : Int) : Q_l_heldUndoS n a0 a1 =
    R_l_heldUndoS_2 n a0 a1 (0 : Int) := by kernel_rfl
theorem R_l_heldUndoS_2_eq (n : Nat) (s0 : DSlIUndo) (s1 : Int) (s5 : Int) : R_l_heldUndoS_2 (n + 1) s0 s1 s5 =
    bif decide (s5 < (↑(List.length s0) : Int)) then
 if (0 : Int) ≤ s5 then
 (nth s0 s5.toNat).bind fun y =>
 (Q_l_markText big s1).bind fun y_1 =>
 bif !decide (y.fst = y_1) then some (-1 : Int)
 else
 if (0 : Int) ≤ s5 then
 (nth s0 s5.toNat).bind fun y =>
 bif !y.snd.fst == decide ((IntKind.i64.wrap (s1 + (1 : Int))).tmod (3 : Int) = (0 : Int)) then
 some (-1 : Int)
 else
 if (0 : Int) ≤ s5 then
 (nth s0 s5.toNat).bind fun y =>
 bif
 !decide
 (y.snd.snd.fst = IntKind.i64.wrap (IntKind.i64.wrap (s1 + (1 : Int)) + (1 : Int))) then
 some (-1 : Int)
 else
 R_l_heldUndoS_2 n s0
 (IntKind.i64.wrap
 (IntKind.i64.wrap (IntKind.i64.wrap (s1 + (1 : Int)) + (1 : Int)) + (1 : Int)))
 (IntKind.i64.wrap (s5 + (1 : Int)))
 else none
 else none
 else none
 else some s1 := by kernel_rfl

end Go.Sx.Try

set_option maxRecDepth 100000
namespace Go.Sx.Try
open Go Go.Sx Go.Proofs

noncomputable def l_l_markVoteS : List (Nat × Con) := []
theorem l_l_markVoteS_ok : ∀ q ∈ l_l_markVoteS, ConOk Try.prog q.1 q.2 := Try.cons_nil
abbrev k_l_markVoteS_2 : List Keep × List BK := ([.is (.own 0 0), .ro tInt64, .drop, .drop, .drop, .ro tInt64, .drop, .drop, .drop, .drop, .drop, .drop, .drop, .drop, .drop, .drop, .drop, .drop, .drop, .drop, .drop, .drop, .drop, .drop, .drop, .drop, .drop, .drop, .drop, .drop, .drop, .drop, .drop, .drop, .drop, .drop, .drop, .drop, .drop, .drop, .drop], [.arr tIVote])
def kp_l_markVoteS : KP := [(2, k_l_markVoteS_2)]
noncomputable def q_l_markVoteS (n : Nat) (x : AP.denL [.io tIVote, .ro tInt]) := evX (false, false, []) l_l_markVoteS kp_l_markVoteS [none] Try.f79 (shO (shV tInt) [.io tIVote]) n (AP.encL [.io tIVote, .ro tInt] x)
noncomputable def c_l_markVoteS : Con := apS [.io tIVote, .ro tInt] true (shO (shV tInt) [.io tIVote]) (q_l_markVoteS big)
theorem c_l_markVoteS_ok : ConOk Try.prog 79 c_l_markVoteS := apS_ok ⟨Try.f79, by kernel_rfl, rfl, by decide⟩ fun _ _ h => evX_ok l_l_markVoteS_ok (f := Try.f79) (by kernel_rfl) rfl (by kernel_rfl) (by kernel_rfl) big h
noncomputable def Q_l_markVoteS (n : Nat) (a0 : DSlIVote) (a1 : Int) : Option (Int × DSlIVote × Unit) := q_l_markVoteS n (a0, a1, ())
noncomputable def r_l_markVoteS_2 (n : Nat) (x : KD k_l_markVoteS_2.1) (y : BD k_l_markVoteS_2.2) := rounds (env (false, false, []) l_l_markVoteS) kp_l_markVoteS (body Try.f79) (finX (false, false, []) l_l_markVoteS [none] Try.f79 (shO (shV tInt) [.io tIVote]) [AP.enc (.io tIVote) [], AP.enc (.ro tInt) (zeroD tInt)]) n 2 k_l_markVoteS_2 x y
noncomputable def R_l_markVoteS_2 (n : Nat) (s1 : Int) (s5 : Int) (b0 : (List DIVote)) : Option (Int × DSlIVote × Unit) := r_l_markVoteS_2 n (s1, s5, ()) (b0, ())
theorem Q_l_markVoteS_eq (n : Nat) (a0 : DSlIVote) (a1 : Int) : Q_l_markVoteS n a0 a1 =
    R_l_markVoteS_2 n a1 (0 : Int) a0 := by kernel_rfl
theorem R_l_markVoteS_2_eq (n : Nat) (s1 : Int) (s5 : Int) (b0 : (List DIVote)) : R_l_markVoteS_2 (n + 1) s1 s5 b0 =
    bif decide (s5 < (↑b0.length : Int)) then
 if (0 : Int) ≤ s5 then
 if s5 < (↑b0.length : Int) then
 (nth b0 s5.toNat).bind fun y =>
 (updO b0 s5.toNat (s1, y.snd)).bind fun y =>
 if (0 : Int) ≤ s5 then
 if s5 < (↑y.length : Int) then
 (nth y s5.toNat).bind fun y_1 =>
 (updO y s5.toNat (y_1.fst, IntKind.i64.wrap (s1 + (1 : Int)), y_1.snd.snd)).bind fun y =>
 if (0 : Int) ≤ s5 then
 if s5 < (↑y.length : Int) then
 (nth y s5.toNat).bind fun y_2 =>
 (updO y s5.toNat
 (y_2.fst, y_2.snd.fst, IntKind.i64.wrap (IntKind.i64.wrap (s1 + (1 : Int)) + (1 : Int)),
 y_2.snd.snd.snd)).bind
 fun y =>
 if (0 : Int) ≤ s5 then
 if s5 < (↑y.length : Int) then
 (nth y s5.toNat).bind fun y_3 =>
 (updO y s5.toNat
 (y_3.fst, y_3.snd.fst, y_3.snd.snd.fst,
 IntKind.i64.wrap
 (IntKind.i64.wrap (IntKind.i64.wrap (s1 + (1 : Int)) + (1 : Int)) +
 (1 : Int)),
 ())).bind
 fun y =>
 R_l_markVoteS_2 n
 (IntKind.i64.wrap
 (IntKind.i64.wrap
 (IntKind.i64.wrap (IntKind.i64.wrap (s1 + (1 : Int)) + (1 : Int)) +
 (1 : Int)) +
 (1 : Int)))
 (IntKind.i64.wrap (s5 + (1 : Int))) y
 else none
 else none
 else none
 else none
 else none
 else none
 else none
 else none
 else some (s1, b0, PUnit.unit) := by kernel_rfl

end Go.Sx.Try

set_option maxRecDepth 100000
namespace Go.Sx.Try
open Go Go.Sx Go.Proofs

noncomputable def l_l_heldVoteS : List (Nat × Con) := []
theorem l_l_heldVoteS_ok : ∀ q ∈ l_l_heldVoteS, ConOk Try.prog q.1 q.2 := Try.cons_nil
abbrev k_l_heldVoteS_2 : List Keep × List BK := ([.ro tSlIVote, .ro tInt64, .drop, .drop, .drop, .ro tInt64, .drop, .drop, .drop, .drop, .drop, .drop, .drop, .drop, .drop, .drop, .drop, .drop, .drop, .drop, .drop, .drop, .drop, .drop, .drop, .drop, .drop, .drop, .drop, .drop, .drop, .drop, .drop, .drop, .drop, .drop, .drop, .drop, .drop, .drop, .drop, .drop, .drop, .drop, .drop, .drop, .drop, .drop, .drop], [])
def kp_l_heldVoteS : KP := [(2, k_l_heldVoteS_2)]
noncomputable def q_l_heldVoteS (n : Nat) (x : Args [tSlIVote, tInt]) := evX (false, false, []) l_l_heldVoteS kp_l_heldVoteS [none] Try.f82 (shV tInt) n (encA [tSlIVote, tInt] x)
noncomputable def c_l_heldVoteS : Con := roS [tSlIVote, tInt] true (shV tInt) (q_l_heldVoteS big)
theorem c_l_heldVoteS_ok : ConOk Try.prog 82 c_l_heldVoteS := roS_ok ⟨Try.f82, by kernel_rfl, rfl, by decide⟩ fun _ _ h => evX_ok l_l_heldVoteS_ok (f := Try.f82) (by kernel_rfl) rfl (by kernel_rfl) (by kernel_rfl) big h
noncomputable def Q_l_heldVoteS (n : Nat) (a0 : DSlIVote) (a1 : Int) : Option Int := q_l_heldVoteS n (a0, a1, ())
noncomputable def r_l_heldVoteS_2 (n : Nat) (x : KD k_l_heldVoteS_2.1) (y : BD k_l_heldVoteS_2.2) := rounds (env (false, false, []) l_l_heldVoteS) kp_l_heldVoteS (body Try.f82) (finX (false, false, []) l_l_heldVoteS [none] Try.f82 (shV tInt) [.val tSlIVote (zeroD tSlIVote), .val tInt (zeroD tInt)]) n 2 k_l_heldVoteS_2 x y
noncomputable def R_l_heldVoteS_2 (n : Nat) (s0 : DSlIVote) (s1 : Int) (s5 : Int) : Option Int := r_l_heldVoteS_2 n (s0, s1, s5, ()) ()
theorem Q_l_heldVoteS_eq (n : Nat) (a0 : DSlIVote) (a1 : Int) : Q_l_heldVoteS n a0 a1 =
    R_l_heldVoteS_2 n a0 a1 (0 : Int) := by kernel_rfl
theorem R_l_heldVoteS_2_eq (n : Nat) (s0 : DSlIVote) (s1 : Int) (s5 : Int) : R_l_heldVoteS_2 (n + 1) s0 s1 s5 =
    bif decide (s5 < (↑(List.length s0) : Int)) then
 if (0 : Int) ≤ s5 then
 (nth s0 s5.toNat).bind fun y =>
 bif !decide (y.fst = s1) then some (-1 : Int)
 else
 if (0 : Int) ≤ s5 then
 (nth s0 s5.toNat).bind fun y =>
 bif !decide (y.snd.fst = IntKind.i64.wrap (s1 + (1 : Int))) then some (-1 : Int)
 else
 if (0 : Int) ≤ s5 then
 (nth s0 s5.toNat).bind fun y =>
 bif !decide (y.snd.snd.fst = IntKind.i64.wrap (IntKind.i64.wrap (s1 + (1 : Int)) + (1 : Int))) then
 some (-1 : Int)
 else
 if (0 : Int) ≤ s5 then
 (nth s0 s5.toNat).bind fun y =>
 bif
 !decide
 (y.snd.snd.snd.fst =
 IntKind.i64.wrap
 (IntKind.i64.wrap (IntKind.i64.wrap (s1 + (1 : Int)) + (1 : Int)) +
 (1 : Int))) then
 some (-1 : Int)
 else
 R_l_heldVoteS_2 n s0
 (IntKind.i64.wrap
 (IntKind.i64.wrap
 (IntKind.i64.wrap (IntKind.i64.wrap (s1 + (1 : Int)) + (1 : Int)) + (1 : Int)) +
 (1 : Int)))
 (IntKind.i64.wrap (s5 + (1 : Int)))
 else none
 else none
 else none
 else none
 else some s1 := by kernel_rfl

end Go.Sx.Try

set_option maxRecDepth 100000
namespace Go.Sx.Try
open Go Go.Sx Go.Proofs

noncomputable def l_l_markLetterS : List (Nat × Con) := []
theorem l_l_markLetterS_ok : ∀ q ∈ l_l_markLetterS, ConOk Try.prog q.1 q.2 := Try.cons_nil
abbrev k_l_markLetterS_2 : List Keep × List BK := ([.is (.own 0 0), .ro tInt64, .drop, .drop, .drop, .ro tInt64, .drop, .drop, .drop, .drop, .drop, .drop, .drop, .drop, .drop, .drop, .drop, .drop, .drop, .drop, .drop, .drop, .drop, .drop, .drop, .drop, .drop, .drop, .drop, .drop, .drop, .drop, .drop, .drop, .drop, .drop, .drop, .drop, .drop, .drop, .drop, .drop, .drop, .drop, .drop, .drop, .drop, .drop, .drop, .drop, .drop, .drop, .drop, .drop, .drop, .drop, .drop, .drop, .drop, .drop, .drop, .drop, .drop, .drop, .drop, .drop, .drop, .drop, .drop, .drop, .drop, .drop, .drop, .drop, .drop, .drop, .drop, .drop, .drop, .drop, .drop, .drop, .drop, .drop, .drop, .drop, .drop, .drop, .drop, .drop, .drop, .drop, .drop, .drop, .drop, .drop, .drop, .drop, .drop, .drop, .drop, .drop, .drop, .drop, .drop, .drop, .drop, .drop, .drop, .drop, .drop, .drop], [.arr tILetter])
def kp_l_markLetterS : KP := [(2, k_l_markLetterS_2)]
noncomputable def q_l_markLetterS (n : Nat) (x : AP.denL [.io tILetter, .ro tInt]) := evX (false, false, []) l_l_markLetterS kp_l_markLetterS [none] Try.f47 (shO (shV tInt) [.io tILetter]) n (AP.encL [.io tILetter, .ro tInt] x)
noncomputable def c_l_markLetterS : Con := apS [.io tILetter, .ro tInt] true (shO (shV tInt) [.io tILetter]) (q_l_markLetterS big)
theorem c_l_markLetterS_ok : ConOk Try.prog 47 c_l_markLetterS := apS_ok ⟨Try.f47, by kernel_rfl, rfl, by decide⟩ fun _ _ h => evX_ok l_l_markLetterS_ok (f := Try.f47) (by kernel_rfl) rfl (by kernel_rfl) (by kernel_rfl) big h
noncomputable def Q_l_markLetterS (n : Nat) (a0 : DSlILetter) (a1 : Int) : Option (Int × DSlILetter × Unit) := q_l_markLetterS n (a0, a1, ())
noncomputable def r_l_markLetterS_2 (n : Nat) (x : KD k_l_markLetterS_2.1) (y : BD k_l_markLetterS_2.2) := rounds (env (false, false, []) l_l_markLetterS) kp_l_markLetterS (body Try.f47) (finX (false, false, []) l_l_markLetterS [none] Try.f47 (shO (shV tInt) [.io tILetter]) [AP.enc (.io tILetter) [], AP.enc (.ro tInt) (zeroD tInt)]) n 2 k_l_markLetterS_2 x y
noncomputable def R_l_markLetterS_2 (n : Nat) (s1 : Int) (s5 : Int) (b0 : (List DILetter)) : Option (Int × DSlILetter × Unit) := r_l_markLetterS_2 n (s1, s5, ()) (b0, ())
theorem Q_l_markLetterS_eq (n : Nat) (a0 : DSlILetter) (a1 : Int) : Q_l_markLetterS n a0 a1 =
    R_l_markLetterS_2 n a1 (0 : Int) a0 := by kernel_rfl
theorem R_l_markLetterS_2_eq (n : Nat) (s1 : Int) (s5 : Int) (b0 : (List DILetter)) : R_l_markLetterS_2 (n + 1) s1 s5 b0 =
    bif decide (s5 < (↑b0.length : Int)) then
 if (0 : Int) ≤ s5 then
 if s5 < (↑b0.length : Int) then
 (nth b0 s5.toNat).bind fun y =>
 (updO b0 s5.toNat (s1, y.snd)).bind fun y =>
 if (0 : Int) ≤ s5 then
 if s5 < (↑y.length : Int) then
 (nth y s5.toNat).bind fun y_1 =>
 (updO y s5.toNat (y_1.fst, IntKind.i64.wrap (s1 + (1 : Int)), y_1.snd.snd)).bind fun y =>
 if (0 : Int) ≤ s5 then
 if s5 < (↑y.length : Int) then
 (nth y s5.toNat).bind fun y_2 =>
 (updO y s5.toNat
 (y_2.fst, y_2.snd.fst, IntKind.i64.wrap (IntKind.i64.wrap (s1 + (1 : Int)) + (1 : Int)),
 y_2.snd.snd.snd)).bind
 fun y =>
 if (0 : Int) ≤ s5 then
 if s5 < (↑y.length : Int) then
 (nth y s5.toNat).bind fun y_3 =>
 (updO y s5.toNat
 (y_3.fst, y_3.snd.fst, y_3.snd.snd.fst,
 IntKind.i64.wrap
 (IntKind.i64.wrap (IntKind.i64.wrap (s1 + (1 : Int)) + (1 : Int)) +
 (1 : Int)),
 y_3.snd.snd.snd.snd)).bind
 fun y =>
 if (0 : Int) ≤ s5 then
 if s5 < (↑y.length : Int) then
 (nth y s5.toNat).bind fun y_4 =>
 (updO y s5.toNat
 (y_4.fst, y_4.snd.fst, y_4.snd.snd.fst, y_4.snd.snd.snd.fst,
 IntKind.i64.wrap
 (IntKind.i64.wrap
 (IntKind.i64.wrap
 (IntKind.i64.wrap (s1 + (1 : Int)) + (1 : Int)) +
 (1 : Int)) +
 (1 : Int)),
 y_4.snd.snd.snd.snd.snd)).bind
 fun y =>
 if (0 : Int) ≤ s5 then
 if s5 < (↑y.length : Int) then
 (nth y s5.toNat).bind fun y_5 =>
 (updO y s5.toNat
 (y_5.fst, y_5.snd.fst, y_5.snd.snd.fst, y_5.snd.snd.snd.fst,
 y_5.snd.snd.snd.snd.fst,
 (IntKind.i64.wrap
 (IntKind.i64.wrap
 (IntKind.i64.wrap
 (IntKind.i64.wrap
 (IntKind.i64.wrap (s1 + (1 : Int)) +
 (1 : Int)) +
 (1 : Int)) +
 (1 : Int)) +
 (1 : Int)),
 y_5.snd.snd.snd.snd.snd.fst.snd),
 y_5.snd.snd.snd.snd.snd.snd)).bind
 fun y =>
 if (0 : Int) ≤ s5 then
 if s5 < (↑y.length : Int) then
 (nth y s5.toNat).bind fun y_6 =>
 (updO y s5.toNat
 (y_6.fst, y_6.snd.fst, y_6.snd.snd.fst,
 y_6.snd.snd.snd.fst, y_6.snd.snd.snd.snd.fst,
 (y_6.snd.snd.snd.snd.snd.fst.fst,
 IntKind.i64.wrap
 (IntKind.i64.wrap
 (IntKind.i64.wrap
 (IntKind.i64.wrap
 (IntKind.i64.wrap
 (IntKind.i64.wrap
 (s1 + (1 : Int)) +
 (1 : Int)) +
 (1 : Int)) +
 (1 : Int)) +
 (1 : Int)) +
 (1 : Int)),
 y_6.snd.snd.snd.snd.snd.fst.snd.snd),
 y_6.snd.snd.snd.snd.snd.snd)).bind
 fun y =>
 if (0 : Int) ≤ s5 then
 if s5 < (↑y.length : Int) then
 (nth y s5.toNat).bind fun y_7 =>
 (updO y s5.toNat
 (y_7.fst, y_7.snd.fst, y_7.snd.snd.fst,
 y_7.snd.snd.snd.fst, y_7.snd.snd.snd.snd.fst,
 (y_7.snd.snd.snd.snd.snd.fst.fst,
 y_7.snd.snd.snd.snd.snd.fst.snd.fst,
 IntKind.i64.wrap
 (IntKind.i64.wrap
 (IntKind.i64.wrap
 (IntKind.i64.wrap
 (IntKind.i64.wrap
 (IntKind.i64.wrap
 (IntKind.i64.wrap
 (s1 + (1 : Int)) +
 (1 : Int)) +
 (1 : Int)) +
 (1 : Int)) +
 (1 : Int)) +
 (1 : Int)) +
 (1 : Int)),
 y_7.snd.snd.snd.snd.snd.fst.snd.snd.snd),
 y_7.snd.snd.snd.snd.snd.snd)).bind
 fun y =>
 if (0 : Int) ≤ s5 then
 if s5 < (↑y.length : Int) then
 (nth y s5.toNat).bind fun y_8 =>
 (updO y s5.toNat
 (y_8.fst, y_8.snd.fst, y_8.snd.snd.fst,
 y_8.snd.snd.snd.fst,
 y_8.snd.snd.snd.snd.fst,
 (y_8.snd.snd.snd.snd.snd.fst.fst,
 y_8.snd.snd.snd.snd.snd.fst.snd.fst,
 y_8.snd.snd.snd.snd.snd.fst.snd.snd.fst,
 IntKind.i64.wrap
 (IntKind.i64.wrap
 (IntKind.i64.wrap
 (IntKind.i64.wrap
 (IntKind.i64.wrap
 (IntKind.i64.wrap
 (IntKind.i64.wrap
 (IntKind.i64.wrap
 (s1 +
 (1 :
 Int)) +
 (1 :
 Int)) +
 (1 : Int)) +
 (1 : Int)) +
 (1 : Int)) +
 (1 : Int)) +
 (1 : Int)) +
 (1 : Int)),
 ()),
 y_8.snd.snd.snd.snd.snd.snd)).bind
 fun y =>
 if (0 : Int) ≤ s5 then
 if s5 < (↑y.length : Int) then
 (nth y s5.toNat).bind fun y_9 =>
 (updO y s5.toNat
 (y_9.fst, y_9.snd.fst,
 y_9.snd.snd.fst,
 y_9.snd.snd.snd.fst,
 y_9.snd.snd.snd.snd.fst,
 y_9.snd.snd.snd.snd.snd.fst,
 (IntKind.i64.wrap
 (IntKind.i64.wrap
 (IntKind.i64.wrap
 (IntKind.i64.wrap
 (IntKind.i64.wrap
 (IntKind.i64.wrap
 (IntKind.i64.wrap
 (IntKind.i64.wrap
 (IntKind.i64.wrap
 (s1 +
 (1 :
 Int)) +
 (1 :
 Int)) +
 (1 :
 Int)) +
 (1 :
 Int)) +
 (1 :
 Int)) +
 (1 : Int)) +
 (1 : Int)) +
 (1 : Int)) +
 (1 : Int)),
 y_9.snd.snd.snd.snd.snd.snd.fst.snd),
 ())).bind
 fun y =>
 if (0 : Int) ≤ s5 then
 if s5 < (↑y.length : Int) then
 (nth y s5.toNat).bind
 fun y_10 =>
 (updO y s5.toNat
 (y_10.fst, y_10.snd.fst,
 y_10.snd.snd.fst,
 y_10.snd.snd.snd.fst,
 y_10.snd.snd.snd.snd.fst,
 y_10.snd.snd.snd.snd.snd.fst,
 (y_10.snd.snd.snd.snd.snd.snd.fst.fst,
 IntKind.i64.wrap
 (IntKind.i64.wrap
 (IntKind.i64.wrap
 (IntKind.i64.wrap
 (IntKind.i64.wrap
 (IntKind.i64.wrap
 (IntKind.i64.wrap
 (IntKind.i64.wrap
 (IntKind.i64.wrap
 (IntKind.i64.wrap
 (s1 +
 (1 :
 Int)) +
 (1 :
 Int)) +
 (1 :
 Int)) +
 (1 :
 Int)) +
 (1 :
 Int)) +
 (1 :
 Int)) +
 (1 :
 Int)) +
 (1 :
 Int)) +
 (1 : Int)) +
 (1 : Int)),
 y_10.snd.snd.snd.snd.snd.snd.fst.snd.snd),
 ())).bind
 fun y =>
 if (0 : Int) ≤ s5 then
 if
 s5 <
 (↑y.length :
 Int) then
 (nth y s5.toNat).bind
 fun y_11 =>
 (updO y s5.toNat
 (y_11.fst,
 y_11.snd.fst,
 y_11.snd.snd.fst,
 y_11.snd.snd.snd.fst,
 y_11.snd.snd.snd.snd.fst,
 y_11.snd.snd.snd.snd.snd.fst,
 (y_11.snd.snd.snd.snd.snd.snd.fst.fst,
 y_11.snd.snd.snd.snd.snd.snd.fst.snd.fst,
 IntKind.i64.wrap
 (IntKind.i64.wrap
 (IntKind.i64.wrap
 (IntKind.i64.wrap
 (IntKind.i64.wrap
 (IntKind.i64.wrap
 (IntKind.i64.wrap
 (IntKind.i64.wrap
 (IntKind.i64.wrap
 (IntKind.i64.wrap
 (IntKind.i64.wrap
 (s1 +
 (1 :
 Int)) +
 (1 :
 Int)) +
 (1 :
 Int)) +
 (1 :
 Int)) +
 (1 :
 Int)) +
 (1 :
 Int)) +
 (1 :
 Int)) +
 (1 :
 Int)) +
 (1 :
 Int)) +
 (1 :
 Int)) +
 (1 :
 Int)),
 y_11.snd.snd.snd.snd.snd.snd.fst.snd.snd.snd),
 ())).bind
 fun y =>
 if
 (0 : Int) ≤
 s5 then
 if
 s5 <
 (↑y.length :
 Int) then
 (nth y
 s5.toNat).bind
 fun y_12 =>
 (updO y
 s5.toNat
 (y_12.fst,
 y_12.snd.fst,
 y_12.snd.snd.fst,
 y_12.snd.snd.snd.fst,
 y_12.snd.snd.snd.snd.fst,
 y_12.snd.snd.snd.snd.snd.fst,
 (y_12.snd.snd.snd.snd.snd.snd.fst.fst,
 y_12.snd.snd.snd.snd.snd.snd.fst.snd.fst,
 y_12.snd.snd.snd.snd.snd.snd.fst.snd.snd.fst,
 IntKind.i64.wrap
 (IntKind.i64.wrap
 (IntKind.i64.wrap
 (IntKind.i64.wrap
 (IntKind.i64.wrap
 (IntKind.i64.wrap
 (IntKind.i64.wrap
 (IntKind.i64.wrap
 (IntKind.i64.wrap
 (IntKind.i64.wrap
 (IntKind.i64.wrap
 (IntKind.i64.wrap
 (s1 +
 (1 :
 Int)) +
 (1 :
 Int)) +
 (1 :
 Int)) +
 (1 :
 Int)) +
 (1 :
 Int)) +
 (1 :
 Int)) +
 (1 :
 Int)) +
 (1 :
 Int)) +
 (1 :
 Int)) +
 (1 :
 Int)) +
 (1 :
 Int)) +
 (1 :
 Int)),
 ()),
 ())).bind
 fun y =>
 R_l_markLetterS_2
 n
 (IntKind.i64.wrap
 (IntKind.i64.wrap
 (IntKind.i64.wrap
 (IntKind.i64.wrap
 (IntKind.i64.wrap
 (IntKind.i64.wrap
 (IntKind.i64.wrap
 (IntKind.i64.wrap
 (IntKind.i64.wrap
 (IntKind.i64.wrap
 (IntKind.i64.wrap
 (IntKind.i64.wrap
 (IntKind.i64.wrap
 (s1 +
 (1 :
 Int)) +
 (1 :
 Int)) +
 (1 :
 Int)) +
 (1 :
 Int)) +
 (1 :
 Int)) +
 (1 :
 Int)) +
 (1 :
 Int)) +
 (1 :
 Int)) +
 (1 :
 Int)) +
 (1 :
 Int)) +
 (1 :
 Int)) +
 (1 :
 Int)) +
 (1 :
 Int)))
 (IntKind.i64.wrap
 (s5 +
 (1 :
 Int)))
 y
 else none
 else none
 else none
 else none
 else none
 else none
 else none
 else none
 else none
 else none
 else none
 else none
 else none
 else none
 else none
 else none
 else none
 else none
 else none
 else none
 else none
 else none
 else none
 else none
 else none
 else none
 else some (s1, b0, PUnit.unit) := by kernel_rfl

end Go.Sx.Try

set_option maxRecDepth 100000
namespace Go.Sx.Try
open Go Go.Sx Go.Proofs

noncomputable def l_l_heldLetterS : List (Nat × Con) := []
theorem l_l_heldLetterS_ok : ∀ q ∈ l_l_heldLetterS, ConOk Try.prog q.1 q.2 := Try.cons_nil
abbrev k_l_heldLetterS_2 : List Keep × List BK := ([.ro tSlILetter, .ro tInt64, .drop, .drop, .drop, .ro tInt64, .drop, .drop, .drop, .drop, .drop, .drop, .drop, .drop, .drop, .drop, .drop, .drop, .drop, .drop, .drop, .drop, .drop, .drop, .drop, .drop, .drop, .drop, .drop, .drop, .drop, .drop, .drop, .drop, .drop, .drop, .drop, .drop, .drop, .drop, .drop, .drop, .drop, .drop, .drop, .drop, .drop, .drop, .drop, .drop, .drop, .drop, .drop, .drop, .drop, .drop, .drop, .drop, .drop, .drop, .drop, .drop, .drop, .drop, .drop, .drop, .drop, .drop, .drop, .drop, .drop, .drop, .drop, .drop, .drop, .drop, .drop, .drop, .drop, .drop, .drop, .drop, .drop, .drop, .drop, .drop, .drop, .drop, .drop, .drop, .drop, .drop, .drop, .drop, .drop, .drop, .drop, .drop, .drop, .drop, .drop, .drop, .drop, .drop, .drop, .drop, .drop, .drop, .drop, .drop, .drop, .drop, .drop, .drop, .drop, .drop, .drop, .drop, .drop, .drop, .drop, .drop, .drop, .drop, .drop, .drop, .drop, .drop, .drop, .drop, .drop, .drop, .drop, .drop, .drop, .drop, .drop, .drop], [])
def kp_l_heldLetterS : KP := [(2, k_l_heldLetterS_2)]
noncomputable def q_l_heldLetterS (n : Nat) (x : Args [tSlILetter, tInt]) := evX (false, false, []) l_l_heldLetterS kp_l_heldLetterS [none] Try.f83 (shV tInt) n (encA [tSlILetter, tInt] x)
noncomputable def c_l_heldLetterS : Con := roS [tSlILetter, tInt] true (shV tInt) (q_l_heldLetterS big)
theorem c_l_heldLetterS_ok : ConOk Try.prog 83 c_l_heldLetterS := roS_ok ⟨Try.f83, by kernel_rfl, rfl, by decide⟩ fun _ _ h => evX_ok l_l_heldLetterS_ok (f := Try.f83) (by kernel_rfl) rfl (by kernel_rfl) (by kernel_rfl) big h
noncomputable def Q_l_heldLetterS (n : Nat) (a0 : DSlILetter) (a1 : Int) : Option Int := q_l_heldLetterS n (a0, a1, ())
noncomputable def r_l_heldLetterS_2 (n : Nat) (x : KD k_l_heldLetterS_2.1) (y : BD k_l_heldLetterS_2.2) := rounds (env (false, false, []) l_l_heldLetterS) kp_l_heldLetterS (body Try.f83) (finX (false, false, []) l_l_heldLetterS [none] Try.f83 (shV tInt) [.val tSlILetter (zeroD tSlILetter), .val tInt (zeroD tInt)]) n 2 k_l_heldLetterS_2 x y
noncomputable def R_l_heldLetterS_2 (n : Nat) (s0 : DSlILetter) (s1 : Int) (s5 : Int) : Option Int := r_l_heldLetterS_2 n (s0, s1, s5, ()) ()
theorem Q_l_heldLetterS_eq (n : Nat) (a0 : DSlILetter) (a1 : Int) : Q_l_heldLetterS n a0 a1 =
    R_l_heldLetterS_2 n a0 a1 (0 : Int) := by kernel_rfl
theorem R_l_heldLetterS_2_eq (n : Nat) (s0 : DSlILetter) (s1 : Int) (s5 : Int) : R_l_heldLetterS_2 (n + 1) s0 s1 s5 =
    bif decide (s5 < (↑(List.length s0) : Int)) then
 if (0 : Int) ≤ s5 then
 (nth s0 s5.toNat).bind fun y =>
 bif !decide (y.fst = s1) then some (-1 : Int)
 else
 if (0 : Int) ≤ s5 then
 (nth s0 s5.toNat).bind fun y =>
 bif !decide (y.snd.fst = IntKind.i64.wrap (s1 + (1 : Int))) then some (-1 : Int)
 else
 if (0 : Int) ≤ s5 then
 (nth s0 s5.toNat).bind fun y =>
 bif !decide (y.snd.snd.fst = IntKind.i64.wrap (IntKind.i64.wrap (s1 + (1 : Int)) + (1 : Int))) then
 some (-1 : Int)
 else
 if (0 : Int) ≤ s5 then
 (nth s0 s5.toNat).bind fun y =>
 bif
 !decide
 (y.snd.snd.snd.fst =
 IntKind.i64.wrap
 (IntKind.i64.wrap (IntKind.i64.wrap (s1 + (1 : Int)) + (1 : Int)) +
 (1 : Int))) then
 some (-1 : Int)
 else
 if (0 : Int) ≤ s5 then
 (nth s0 s5.toNat).bind fun y =>
 bif
 !decide
 (y.snd.snd.snd.snd.fst =
 IntKind.i64.wrap
 (IntKind.i64.wrap
 (IntKind.i64.wrap (IntKind.i64.wrap (s1 + (1 : Int)) + (1 : Int)) +
 (1 : Int)) +
 (1 : Int))) then
 some (-1 : Int)
 else
 if (0 : Int) ≤ s5 then
 (nth s0 s5.toNat).bind fun y =>
 bif
 !decide
 (y.snd.snd.snd.snd.snd.fst.fst =
 IntKind.i64.wrap
 (IntKind.i64.wrap
 (IntKind.i64.wrap
 (IntKind.i64.wrap
 (IntKind.i64.wrap (s1 + (1 : Int)) + (1 : Int)) +
 (1 : Int)) +
 (1 : Int)) +
 (1 : Int))) then
 some (-1 : Int)
 else
 if (0 : Int) ≤ s5 then
 (nth s0 s5.toNat).bind fun y =>
 bif
 !decide
 (y.snd.snd.snd.snd.snd.fst.snd.fst =
 IntKind.i64.wrap
 (IntKind.i64.wrap
 (IntKind.i64.wrap
 (IntKind.i64.wrap
 (IntKind.i64.wrap
 (IntKind.i64.wrap (s1 + (1 : Int)) +
 (1 : Int)) +
 (1 : Int)) +
 (1 : Int)) +
 (1 : Int)) +
 (1 : Int))) then
 some (-1 : Int)
 else
 if (0 : Int) ≤ s5 then
 (nth s0 s5.toNat).bind fun y =>
 bif
 !decide
 (y.snd.snd.snd.snd.snd.fst.snd.snd.fst =
 IntKind.i64.wrap
 (IntKind.i64.wrap
 (IntKind.i64.wrap
 (IntKind.i64.wrap
 (IntKind.i64.wrap
 (IntKind.i64.wrap
 (IntKind.i64.wrap (s1 + (1 : Int)) +
 (1 : Int)) +
 (1 : Int)) +
 (1 : Int)) +
 (1 : Int)) +
 (1 : Int)) +
 (1 : Int))) then
 some (-1 : Int)
 else
 if (0 : Int) ≤ s5 then
 (nth s0 s5.toNat).bind fun y =>
 bif
 !decide
 (y.snd.snd.snd.snd.snd.fst.snd.snd.snd.fst =
 IntKind.i64.wrap
 (IntKind.i64.wrap
 (IntKind.i64.wrap
 (IntKind.i64.wrap
 (IntKind.i64.wrap
 (IntKind.i64.wrap
 (IntKind.i64.wrap
 (IntKind.i64.wrap
 (s1 + (1 : Int)) +
 (1 : Int)) +
 (1 : Int)) +
 (1 : Int)) +
 (1 : Int)) +
 (1 : Int)) +
 (1 : Int)) +
 (1 : Int))) then
 some (-1 : Int)
 else
 if (0 : Int) ≤ s5 then
 (nth s0 s5.toNat).bind fun y =>
 bif
 !decide
 (y.snd.snd.snd.snd.snd.snd.fst.fst =
 IntKind.i64.wrap
 (IntKind.i64.wrap
 (IntKind.i64.wrap
 (IntKind.i64.wrap
 (IntKind.i64.wrap
 (IntKind.i64.wrap
 (IntKind.i64.wrap
 (IntKind.i64.wrap
 (IntKind.i64.wrap
 (s1 +
 (1 : Int)) +
 (1 : Int)) +
 (1 : Int)) +
 (1 : Int)) +
 (1 : Int)) +
 (1 : Int)) +
 (1 : Int)) +
 (1 : Int)) +
 (1 : Int))) then
 some (-1 : Int)
 else
 if (0 : Int) ≤ s5 then
 (nth s0 s5.toNat).bind fun y =>
 bif
 !decide
 (y.snd.snd.snd.snd.snd.snd.fst.snd.fst =
 IntKind.i64.wrap
 (IntKind.i64.wrap
 (IntKind.i64.wrap
 (IntKind.i64.wrap
 (IntKind.i64.wrap
 (IntKind.i64.wrap
 (IntKind.i64.wrap
 (IntKind.i64.wrap
 (IntKind.i64.wrap
 (IntKind.i64.wrap
 (s1 +
 (1 :
 Int)) +
 (1 :
 Int)) +
 (1 :
 Int)) +
 (1 : Int)) +
 (1 : Int)) +
 (1 : Int)) +
 (1 : Int)) +
 (1 : Int)) +
 (1 : Int)) +
 (1 : Int))) then
 some (-1 : Int)
 else
 if (0 : Int) ≤ s5 then
 (nth s0 s5.toNat).bind fun y =>
 bif
 !decide
 (y.snd.snd.snd.snd.snd.snd.fst.snd.snd.fst =
 IntKind.i64.wrap
 (IntKind.i64.wrap
 (IntKind.i64.wrap
 (IntKind.i64.wrap
 (IntKind.i64.wrap
 (IntKind.i64.wrap
 (IntKind.i64.wrap
 (IntKind.i64.wrap
 (IntKind.i64.wrap
 (IntKind.i64.wrap
 (IntKind.i64.wrap
 (s1 +
 (1 :
 Int)) +
 (1 :
 Int)) +
 (1 :
 Int)) +
 (1 :
 Int)) +
 (1 :
 Int)) +
 (1 : Int)) +
 (1 : Int)) +
 (1 : Int)) +
 (1 : Int)) +
 (1 : Int)) +
 (1 : Int))) then
 some (-1 : Int)
 else
 if (0 : Int) ≤ s5 then
 (nth s0 s5.toNat).bind fun y =>
 bif
 !decide
 (y.snd.snd.snd.snd.snd.snd.fst.snd.snd.snd.fst =
 IntKind.i64.wrap
 (IntKind.i64.wrap
 (IntKind.i64.wrap
 (IntKind.i64.wrap
 (IntKind.i64.wrap
 (IntKind.i64.wrap
 (IntKind.i64.wrap
 (IntKind.i64.wrap
 (IntKind.i64.wrap
 (IntKind.i64.wrap
 (IntKind.i64.wrap
 (IntKind.i64.wrap
 (s1 +
 (1 :
 Int)) +
 (1 :
 Int)) +
 (1 :
 Int)) +
 (1 :
 Int)) +
 (1 :
 Int)) +
 (1 :
 Int)) +
 (1 :
 Int)) +
 (1 :
 Int)) +
 (1 : Int)) +
 (1 : Int)) +
 (1 : Int)) +
 (1 : Int))) then
 some (-1 : Int)
 else
 R_l_heldLetterS_2 n s0
 (IntKind.i64.wrap
 (IntKind.i64.wrap
 (IntKind.i64.wrap
 (IntKind.i64.wrap
 (IntKind.i64.wrap
 (IntKind.i64.wrap
 (IntKind.i64.wrap
 (IntKind.i64.wrap
 (IntKind.i64.wrap
 (IntKind.i64.wrap
 (IntKind.i64.wrap
 (IntKind.i64.wrap
 (IntKind.i64.wrap
 (s1 +
 (1 :
 Int)) +
 (1 :
 Int)) +
 (1 :
 Int)) +
 (1 :
 Int)) +
 (1 :
 Int)) +
 (1 :
 Int)) +
 (1 :
 Int)) +
 (1 : Int)) +
 (1 : Int)) +
 (1 : Int)) +
 (1 : Int)) +
 (1 : Int)) +
 (1 : Int)))
 (IntKind.i64.wrap (s5 + (1 : Int)))
 else none
 else none
 else none
 else none
 else none
 else none
 else none
 else none
 else none
 else none
 else none
 else none
 else none
 else some s1 := by kernel_rfl

end Go.Sx.Try

set_option maxRecDepth 100000
namespace Go.Sx.Try
open Go Go.Sx Go.Proofs

noncomputable def l_l_markPeer : List (Nat × Con) := [(65, c_l_markIntS), (66, c_l_markCellS), (78, c_l_markUndoS), (79, c_l_markVoteS), (47, c_l_markLetterS)]
theorem l_l_markPeer_ok : ∀ q ∈ l_l_markPeer, ConOk Try.prog q.1 q.2 := Try.cons_cons c_l_markIntS_ok (Try.cons_cons c_l_markCellS_ok (Try.cons_cons c_l_markUndoS_ok (Try.cons_cons c_l_markVoteS_ok (Try.cons_cons c_l_markLetterS_ok (Try.cons_nil)))))
def kp_l_markPeer : KP := []
noncomputable def q_l_markPeer (n : Nat) (x : AP.denL [.mo uIPeer, .ro tInt]) := evX (false, false, [2, 5, 9, 13, 17, 21, 25]) l_l_markPeer kp_l_markPeer [none] Try.f19 (shO (shV tInt) [.mo uIPeer]) n (AP.encL [.mo uIPeer, .ro tInt] x)
noncomputable def c_l_markPeer : Con := apS [.mo uIPeer, .ro tInt] true (shO (shV tInt) [.mo uIPeer]) (q_l_markPeer big)
theorem c_l_markPeer_ok : ConOk Try.prog 19 c_l_markPeer := apS_ok ⟨Try.f19, by kernel_rfl, rfl, by decide⟩ fun _ _ h => evX_ok l_l_markPeer_ok (f := Try.f19) (by kernel_rfl) rfl (by kernel_rfl) (by kernel_rfl) big h
noncomputable def Q_l_markPeer (n : Nat) (a0 : DIPeer) (a1 : Int) : Option (Int × (Unit × Unit × (Unit × Unit × Unit × Unit × Unit) × (Unit × Unit × Unit × Unit × Unit) × (Unit × Unit × Unit × Unit × Unit) × (List Int) × (List DICell) × (List Int) × (List DIUndo) × (List DIVote) × (List DILetter) × Unit × Unit) × Unit) := q_l_markPeer n (a0, a1, ())
theorem Q_l_markPeer_eq (n : Nat) (a0 : DIPeer) (a1 : Int) : Q_l_markPeer n a0 a1 =
    (Q_l_markIntS big a0.snd.snd.snd.snd.snd.fst a1).bind fun y =>
 (Q_l_markCellS big a0.snd.snd.snd.snd.snd.snd.fst y.fst).bind fun y_1 =>
 (Q_l_markIntS big a0.snd.snd.snd.snd.snd.snd.snd.fst y_1.fst).bind fun y_2 =>
 (Q_l_markUndoS big a0.snd.snd.snd.snd.snd.snd.snd.snd.fst y_2.fst).bind fun y_3 =>
 (Q_l_markVoteS big a0.snd.snd.snd.snd.snd.snd.snd.snd.snd.fst y_3.fst).bind fun y_4 =>
 (Q_l_markLetterS big a0.snd.snd.snd.snd.snd.snd.snd.snd.snd.snd.fst y_4.fst).bind fun y_5 =>
 some
 (y_5.fst,
 (PUnit.unit, PUnit.unit, (PUnit.unit, PUnit.unit, PUnit.unit, PUnit.unit, PUnit.unit),
 (PUnit.unit, PUnit.unit, PUnit.unit, PUnit.unit, PUnit.unit),
 (PUnit.unit, PUnit.unit, PUnit.unit, PUnit.unit, PUnit.unit), y.snd.fst, y_1.snd.fst, y_2.snd.fst,
 y_3.snd.fst, y_4.snd.fst, y_5.snd.fst, PUnit.unit, PUnit.unit),
 PUnit.unit) := by kernel_rfl

end Go.Sx.Try

set_option maxRecDepth 100000
namespace Go.Sx.Try
open Go Go.Sx Go.Proofs

noncomputable def l_l_heldPeer : List (Nat × Con) := [(80, c_l_heldIntS), (67, c_l_heldCellS), (81, c_l_heldUndoS), (82, c_l_heldVoteS), (83, c_l_heldLetterS)]
theorem l_l_heldPeer_ok : ∀ q ∈ l_l_heldPeer, ConOk Try.prog q.1 q.2 := Try.cons_cons c_l_heldIntS_ok (Try.cons_cons c_l_heldCellS_ok (Try.cons_cons c_l_heldUndoS_ok (Try.cons_cons c_l_heldVoteS_ok (Try.cons_cons c_l_heldLetterS_ok (Try.cons_nil)))))
def kp_l_heldPeer : KP := []
noncomputable def q_l_heldPeer (n : Nat) (x : Args [tIPeer, tInt]) := evX (false, false, [2, 5, 11, 17, 23, 29, 35]) l_l_heldPeer kp_l_heldPeer [none] Try.f20 (shV tInt) n (encA [tIPeer, tInt] x)
noncomputable def c_l_heldPeer : Con := roS [tIPeer, tInt] true (shV tInt) (q_l_heldPeer big)
theorem c_l_heldPeer_ok : ConOk Try.prog 20 c_l_heldPeer := roS_ok ⟨Try.f20, by kernel_rfl, rfl, by decide⟩ fun _ _ h => evX_ok l_l_heldPeer_ok (f := Try.f20) (by kernel_rfl) rfl (by kernel_rfl) (by kernel_rfl) big h
noncomputable def Q_l_heldPeer (n : Nat) (a0 : DIPeer) (a1 : Int) : Option Int := q_l_heldPeer n (a0, a1, ())
theorem Q_l_heldPeer_eq (n : Nat) (a0 : DIPeer) (a1 : Int) : Q_l_heldPeer n a0 a1 =
    (Q_l_heldIntS big a0.snd.snd.snd.snd.snd.fst a1).bind fun y =>
 bif decide (y < (0 : Int)) then some (-1 : Int)
 else
 (Q_l_heldCellS big a0.snd.snd.snd.snd.snd.snd.fst y).bind fun y =>
 bif decide (y < (0 : Int)) then some (-1 : Int)
 else
 (Q_l_heldIntS big a0.snd.snd.snd.snd.snd.snd.snd.fst y).bind fun y =>
 bif decide (y < (0 : Int)) then some (-1 : Int)
 else
 (Q_l_heldUndoS big a0.snd.snd.snd.snd.snd.snd.snd.snd.fst y).bind fun y =>
 bif decide (y < (0 : Int)) then some (-1 : Int)
 else
 (Q_l_heldVoteS big a0.snd.snd.snd.snd.snd.snd.snd.snd.snd.fst y).bind fun y =>
 bif decide (y < (0 : Int)) then some (-1 : Int)
 else
 (Q_l_heldLetterS big a0.snd.snd.snd.snd.snd.snd.snd.snd.snd.snd.fst y).bind fun y =>
 bif decide (y < (0 : Int)) then some (-1 : Int) else some y := by kernel_rfl

end Go.Sx.Try

set_option maxRecDepth 100000
namespace Go.Sx.Try
open Go Go.Sx Go.Proofs

noncomputable def l_l_markCmdS : List (Nat × Con) := [(140, c_l_markText)]
theorem l_l_markCmdS_ok : ∀ q ∈ l_l_markCmdS, ConOk Try.prog q.1 q.2 := Try.cons_cons c_l_markText_ok (Try.cons_nil)
abbrev k_l_markCmdS_2 : List Keep × List BK := ([.is (.own 0 0), .ro tInt64, .drop, .drop, .drop, .ro tInt64, .drop, .drop, .drop, .drop, .drop, .drop, .drop, .drop, .drop, .drop, .drop, .drop, .drop, .drop, .drop, .drop, .drop, .drop, .drop, .drop, .drop, .drop, .drop, .drop, .drop, .drop, .drop, .drop, .drop], [.arr tICmd])
def kp_l_markCmdS : KP := [(2, k_l_markCmdS_2)]
noncomputable def q_l_markCmdS (n : Nat) (x : AP.denL [.io tICmd, .ro tInt]) := evX (false, false, []) l_l_markCmdS kp_l_markCmdS [none] Try.f73 (shO (shV tInt) [.io tICmd]) n (AP.encL [.io tICmd, .ro tInt] x)
noncomputable def c_l_markCmdS : Con := apS [.io tICmd, .ro tInt] true (shO (shV tInt) [.io tICmd]) (q_l_markCmdS big)
theorem c_l_markCmdS_ok : ConOk Try.prog 73 c_l_markCmdS := apS_ok ⟨Try.f73, by kernel_rfl, rfl, by decide⟩ fun _ _ h => evX_ok l_l_markCmdS_ok (f := Try.f73) (by kernel_rfl) rfl (by kernel_rfl) (by kernel_rfl) big h
noncomputable def Q_l_markCmdS (n : Nat) (a0 : DSlICmd) (a1 : Int) : Option (Int × DSlICmd × Unit) := q_l_markCmdS n (a0, a1, ())
noncomputable def r_l_markCmdS_2 (n : Nat) (x : KD k_l_markCmdS_2.1) (y : BD k_l_markCmdS_2.2) := rounds (env (false, false, []) l_l_markCmdS) kp_l_markCmdS (body Try.f73) (finX (false, false, []) l_l_markCmdS [none] Try.f73 (shO (shV tInt) [.io tICmd]) [AP.enc (.io tICmd) [], AP.enc (.ro tInt) (zeroD tInt)]) n 2 k_l_markCmdS_2 x y
noncomputable def R_l_markCmdS_2 (n : Nat) (s1 : Int) (s5 : Int) (b0 : (List DICmd)) : Option (Int × DSlICmd × Unit) := r_l_markCmdS_2 n (s1, s5, ()) (b0, ())
theorem Q_l_markCmdS_eq (n : Nat) (a0 : DSlICmd) (a1 : Int) : Q_l_markCmdS n a0 a1 =
    R_l_markCmdS_2 n a1 (0 : Int) a0 := by kernel_rfl
theorem R_l_markCmdS_2_eq (n : Nat) (s1 : Int) (s5 : Int) (b0 : (List DICmd)) : R_l_markCmdS_2 (n + 1) s1 s5 b0 =
    bif decide (s5 < (↑b0.length : Int)) then
 if (0 : Int) ≤ s5 then
 if s5 < (↑b0.length : Int) then
 (nth b0 s5.toNat).bind fun y =>
 (updO b0 s5.toNat (s1, y.snd)).bind fun y =>
 (Q_l_markText big (IntKind.i64.wrap (s1 + (1 : Int)))).bind fun y_1 =>
 if (0 : Int) ≤ s5 then
 if s5 < (↑y.length : Int) then
 (nth y s5.toNat).bind fun y_2 =>
 (updO y s5.toNat (y_2.fst, y_1, y_2.snd.snd)).bind fun y =>
 if (0 : Int) ≤ s5 then
 if s5 < (↑y.length : Int) then
 (nth y s5.toNat).bind fun y_3 =>
 (updO y s5.toNat
 (y_3.fst, y_3.snd.fst,
 IntKind.i64.wrap (IntKind.i64.wrap (s1 + (1 : Int)) + (1 : Int)), ())).bind
 fun y =>
 R_l_markCmdS_2 n
 (IntKind.i64.wrap
 (IntKind.i64.wrap (IntKind.i64.wrap (s1 + (1 : Int)) + (1 : Int)) + (1 : Int)))
 (IntKind.i64.wrap (s5 + (1 : Int))) y
 else none
 else none
 else none
 else none
 else none
 else none
 else some (s1, b0, PUnit.unit) := by kernel_rfl

end Go.Sx.Try

set_option maxRecDepth 100000
namespace Go.Sx.Try
open Go Go.Sx Go.Proofs

noncomputable def l_l_markBlockS : List (Nat × Con) := [(73, c_l_markCmdS)]
theorem l_l_markBlockS_ok : ∀ q ∈ l_l_markBlockS, ConOk Try.prog q.1 q.2 := Try.cons_cons c_l_markCmdS_ok (Try.cons_nil)
abbrev k_l_markBlockS_2 : List Keep × List BK := ([.is (.own 0 0), .ro tInt64, .drop, .drop, .drop, .ro tInt64, .drop, .drop, .drop, .drop, .drop, .drop, .drop, .drop, .drop, .drop, .drop, .drop, .drop, .drop, .drop, .drop, .drop, .drop, .drop, .drop, .drop, .drop, .drop, .drop, .drop, .drop, .drop, .drop, .drop, .drop, .drop, .drop, .drop, .drop, .drop, .drop, .drop, .drop, .drop, .drop, .drop, .drop, .drop, .drop, .drop, .drop, .drop, .drop, .drop, .drop, .drop, .drop, .drop, .drop, .drop, .drop, .drop, .drop, .drop, .drop], [.arr uIBlock])
def kp_l_markBlockS : KP := [(2, k_l_markBlockS_2)]
noncomputable def q_l_markBlockS (n : Nat) (x : AP.denL [.io uIBlock, .ro tInt]) := evX (true, true, []) l_l_markBlockS kp_l_markBlockS [none] Try.f64 (shO (shV tInt) [.io uIBlock]) n (AP.encL [.io uIBlock, .ro tInt] x)
noncomputable def c_l_markBlockS : Con := apS [.io uIBlock, .ro tInt] true (shO (shV tInt) [.io uIBlock]) (q_l_markBlockS big)
theorem c_l_markBlockS_ok : ConOk Try.prog 64 c_l_markBlockS := apS_ok ⟨Try.f64, by kernel_rfl, rfl, by decide⟩ fun _ _ h => evX_ok l_l_markBlockS_ok (f := Try.f64) (by kernel_rfl) rfl (by kernel_rfl) (by kernel_rfl) big h
noncomputable def Q_l_markBlockS (n : Nat) (a0 : DSlIBlock) (a1 : Int) : Option (Int × DSlIBlock × Unit) := q_l_markBlockS n (a0, a1, ())
noncomputable def r_l_markBlockS_2 (n : Nat) (x : KD k_l_markBlockS_2.1) (y : BD k_l_markBlockS_2.2) := rounds (env (true, true, []) l_l_markBlockS) kp_l_markBlockS (body Try.f64) (finX (true, true, []) l_l_markBlockS [none] Try.f64 (shO (shV tInt) [.io uIBlock]) [AP.enc (.io uIBlock) [], AP.enc (.ro tInt) (zeroD tInt)]) n 2 k_l_markBlockS_2 x y
noncomputable def R_l_markBlockS_2 (n : Nat) (s1 : Int) (s5 : Int) (b0 : (List DIBlock)) : Option (Int × DSlIBlock × Unit) := r_l_markBlockS_2 n (s1, s5, ()) (b0, ())
theorem Q_l_markBlockS_eq (n : Nat) (a0 : DSlIBlock) (a1 : Int) : Q_l_markBlockS n a0 a1 =
    R_l_markBlockS_2 n a1 (0 : Int) a0 := by kernel_rfl
theorem R_l_markBlockS_2_eq (n : Nat) (s1 : Int) (s5 : Int) (b0 : (List DIBlock)) : R_l_markBlockS_2 (n + 1) s1 s5 b0 =
    bif decide (s5 < (↑b0.length : Int)) then
 if (0 : Int) ≤ s5 then
 if s5 < (↑b0.length : Int) then
 (nth b0 s5.toNat).bind fun y =>
 (updO b0 s5.toNat (s1, y.snd)).bind fun y =>
 if (0 : Int) ≤ s5 then
 if s5 < (↑y.length : Int) then
 (nth y s5.toNat).bind fun y_1 =>
 (updO y s5.toNat (y_1.fst, IntKind.i64.wrap (s1 + (1 : Int)), y_1.snd.snd)).bind fun y =>
 if (0 : Int) ≤ s5 then
 if s5 < (↑y.length : Int) then
 (nth y s5.toNat).bind fun y_2 =>
 (Q_l_markCmdS big y_2.snd.snd.fst
 (IntKind.i64.wrap (IntKind.i64.wrap (s1 + (1 : Int)) + (1 : Int)))).bind
 fun y_3 =>
 (updO y s5.toNat (y_2.fst, y_2.snd.fst, y_3.snd.fst, y_2.snd.snd.snd)).bind fun y =>
 if (0 : Int) ≤ s5 then
 if s5 < (↑y.length : Int) then
 (nth y s5.toNat).bind fun y_4 =>
 (updO y s5.toNat
 (y_4.fst, y_4.snd.fst, y_4.snd.snd.fst, (y_3.fst, y_4.snd.snd.snd.fst.snd),
 ())).bind
 fun y =>
 if (0 : Int) ≤ s5 then
 if s5 < (↑y.length : Int) then
 (nth y s5.toNat).bind fun y_5 =>
 (updO y s5.toNat
 (y_5.fst, y_5.snd.fst, y_5.snd.snd.fst,
 (y_5.snd.snd.snd.fst.fst, IntKind.i64.wrap (y_3.fst + (1 : Int)),
 y_5.snd.snd.snd.fst.snd.snd),
 ())).bind
 fun y =>
 if (0 : Int) ≤ s5 then
 if s5 < (↑y.length : Int) then
 (nth y s5.toNat).bind fun y_6 =>
 (updO y s5.toNat
 (y_6.fst, y_6.snd.fst, y_6.snd.snd.fst,
 (y_6.snd.snd.snd.fst.fst, y_6.snd.snd.snd.fst.snd.fst,
 IntKind.i64.wrap
 (IntKind.i64.wrap (y_3.fst + (1 : Int)) + (1 : Int)),
 y_6.snd.snd.snd.fst.snd.snd.snd),
 ())).bind
 fun y =>
 if (0 : Int) ≤ s5 then
 if s5 < (↑y.length : Int) then
 (nth y s5.toNat).bind fun y_7 =>
 (updO y s5.toNat
 (y_7.fst, y_7.snd.fst, y_7.snd.snd.fst,
 (y_7.snd.snd.snd.fst.fst,
 y_7.snd.snd.snd.fst.snd.fst,
 y_7.snd.snd.snd.fst.snd.snd.fst,
 IntKind.i64.wrap
 (IntKind.i64.wrap
 (IntKind.i64.wrap (y_3.fst + (1 : Int)) +
 (1 : Int)) +
 (1 : Int)),
 ()),
 ())).bind
 fun y =>
 R_l_markBlockS_2 n
 (IntKind.i64.wrap
 (IntKind.i64.wrap
 (IntKind.i64.wrap
 (IntKind.i64.wrap (y_3.fst + (1 : Int)) +
 (1 : Int)) +
 (1 : Int)) +
 (1 : Int)))
 (IntKind.i64.wrap (s5 + (1 : Int))) y
 else none
 else none
 else none
 else none
 else none
 else none
 else none
 else none
 else none
 else none
 else none
 else none
 else none
 else none
 else some (s1, b0, PUnit.unit) := by kernel_rfl

end Go.Sx.Try

set_option maxRecDepth 100000
namespace Go.Sx.Try
open Go Go.Sx Go.Proofs

noncomputable def l_l_heldCmdS : List (Nat × Con) := [(140, c_l_markText)]
theorem l_l_heldCmdS_ok : ∀ q ∈ l_l_heldCmdS, ConOk Try.prog q.1 q.2 := Try.cons_cons c_l_markText_ok (Try.cons_nil)
abbrev k_l_heldCmdS_2 : List Keep × List BK := ([.ro tSlLCmd, .ro tInt64, .drop, .drop, .drop, .ro tInt64, .drop, .drop, .drop, .drop, .drop, .drop, .drop, .drop, .drop, .drop, .drop, .drop, .drop, .drop, .drop, .drop, .drop, .drop, .drop, .drop, .drop, .drop, .drop, .drop, .drop, .drop, .drop, .drop, .drop, .drop, .drop, .drop, .drop, .drop, .drop], [])
def kp_l_heldCmdS : KP := [(2, k_l_heldCmdS_2)]
noncomputable def q_l_heldCmdS (n : Nat) (x : Args [tSlICmd, tInt]) := evX (false, false, []) l_l_heldCmdS kp_l_heldCmdS [none] Try.f118 (shV tInt) n (encA [tSlICmd, tInt] x)
noncomputable def c_l_heldCmdS : Con := roS [tSlICmd, tInt] true (shV tInt) (q_l_heldCmdS big)
theorem c_l_heldCmdS_ok : ConOk Try.prog 118 c_l_heldCmdS := roS_ok ⟨Try.f118, by kernel_rfl, rfl, by decide⟩ fun _ _ h => evX_ok l_l_heldCmdS_ok (f := Try.f118) (by kernel_rfl) rfl (by kernel_rfl) (by kernel_rfl) big h
noncomputable def Q_l_heldCmdS (n : Nat) (a0 : DSlICmd) (a1 : Int) : Option Int := q_l_heldCmdS n (a0, a1, ())
noncomputable def r_l_heldCmdS_2 (n : Nat) (x : KD k_l_heldCmdS_2.1) (y : BD k_l_heldCmdS_2.2) := rounds (env (false, false, []) l_l_heldCmdS) kp_l_heldCmdS (body Try.f118) (finX (false, false, []) l_l_heldCmdS [none] Try.f118 (shV tInt) [.val tSlICmd (zeroD tSlICmd), .val tInt (zeroD tInt)]) n 2 k_l_heldCmdS_2 x y
noncomputable def R_l_heldCmdS_2 (n : Nat) (s0 : DSlLCmd) (s1 : Int) (s5 : Int) : Option Int := r_l_heldCmdS_2 n (s0, s1, s5, ()) ()
theorem Q_l_heldCmdS_eq (n : Nat) (a0 : DSlICmd) (a1 : Int) : Q_l_heldCmdS n a0 a1 =
    R_l_heldCmdS_2 n a0 a1 (0 : Int) := by kernel_rfl
theorem R_l_heldCmdS_2_eq (n : Nat) (s0 : DSlLCmd) (s1 : Int) (s5 : Int) : R_l_heldCmdS_2 (n + 1) s0 s1 s5 =
    bif decide (s5 < (↑(List.length s0) : Int)) then
 if (0 : Int) ≤ s5 then
 (nth s0 s5.toNat).bind fun y =>
 bif !decide (y.fst = s1) then some (-1 : Int)
 else
 if (0 : Int) ≤ s5 then
 (nth s0 s5.toNat).bind fun y =>
 (Q_l_markText big (IntKind.i64.wrap (s1 + (1 : Int)))).bind fun y_1 =>
 bif !decide (y.snd.fst = y_1) then some (-1 : Int)
 else
 if (0 : Int) ≤ s5 then
 (nth s0 s5.toNat).bind fun y =>
 bif
 !decide
 (y.snd.snd.fst = IntKind.i64.wrap (IntKind.i64.wrap (s1 + (1 : Int)) + (1 : Int))) then
 some (-1 : Int)
 else
 R_l_heldCmdS_2 n s0
 (IntKind.i64.wrap
 (IntKind.i64.wrap (IntKind.i64.wrap (s1 + (1 : Int)) + (1 : Int)) + (1 : Int)))
 (IntKind.i64.wrap (s5 + (1 : Int)))
 else none
 else none
 else none
 else some s1 := by kernel_rfl

end Go.Sx.Try

set_option maxRecDepth 100000
namespace Go.Sx.Try
open Go Go.Sx Go.Proofs

noncomputable def l_l_heldBlockS : List (Nat × Con) := [(118, c_l_heldCmdS)]
theorem l_l_heldBlockS_ok : ∀ q ∈ l_l_heldBlockS, ConOk Try.prog q.1 q.2 := Try.cons_cons c_l_heldCmdS_ok (Try.cons_nil)
abbrev k_l_heldBlockS_2 : List Keep × List BK := ([.ro tSlLBlock, .ro tInt64, .drop, .drop, .drop, .ro tInt64, .drop, .drop, .drop, .drop, .drop, .drop, .drop, .drop, .drop, .drop, .drop, .drop, .drop, .drop, .drop, .drop, .drop, .drop, .drop, .drop, .drop, .drop, .drop, .drop, .drop, .drop, .drop, .drop, .drop, .drop, .drop, .drop, .drop, .drop, .drop, .drop, .drop, .drop, .drop, .drop, .drop, .drop, .drop, .drop, .drop, .drop, .drop, .drop, .drop, .drop, .drop, .drop, .drop, .drop, .drop, .drop, .drop, .drop, .drop, .drop, .drop, .drop, .drop, .drop, .drop, .drop, .drop, .drop, .drop, .drop, .drop, .drop, .drop, .drop], [])
def kp_l_heldBlockS : KP := [(2, k_l_heldBlockS_2)]
noncomputable def q_l_heldBlockS (n : Nat) (x : Args [tSlIBlock, tInt]) := evX (false, false, []) l_l_heldBlockS kp_l_heldBlockS [none] Try.f74 (shV tInt) n (encA [tSlIBlock, tInt] x)
noncomputable def c_l_heldBlockS : Con := roS [tSlIBlock, tInt] true (shV tInt) (q_l_heldBlockS big)
theorem c_l_heldBlockS_ok : ConOk Try.prog 74 c_l_heldBlockS := roS_ok ⟨Try.f74, by kernel_rfl, rfl, by decide⟩ fun _ _ h => evX_ok l_l_heldBlockS_ok (f := Try.f74) (by kernel_rfl) rfl (by kernel_rfl) (by kernel_rfl) big h
noncomputable def Q_l_heldBlockS (n : Nat) (a0 : DSlIBlock) (a1 : Int) : Option Int := q_l_heldBlockS n (a0, a1, ())
noncomputable def r_l_heldBlockS_2 (n : Nat) (x : KD k_l_heldBlockS_2.1) (y : BD k_l_heldBlockS_2.2) := rounds (env (false, false, []) l_l_heldBlockS) kp_l_heldBlockS (body Try.f74) (finX (false, false, []) l_l_heldBlockS [none] Try.f74 (shV tInt) [.val tSlIBlock (zeroD tSlIBlock), .val tInt (zeroD tInt)]) n 2 k_l_heldBlockS_2 x y
noncomputable def R_l_heldBlockS_2 (n : Nat) (s0 : DSlLBlock) (s1 : Int) (s5 : Int) : Option Int := r_l_heldBlockS_2 n (s0, s1, s5, ()) ()
theorem Q_l_heldBlockS_eq (n : Nat) (a0 : DSlIBlock) (a1 : Int) : Q_l_heldBlockS n a0 a1 =
    R_l_heldBlockS_2 n a0 a1 (0 : Int) := by kernel_rfl
theorem R_l_heldBlockS_2_eq (n : Nat) (s0 : DSlLBlock) (s1 : Int) (s5 : Int) : R_l_heldBlockS_2 (n + 1) s0 s1 s5 =
    bif decide (s5 < (↑(List.length s0) : Int)) then
 if (0 : Int) ≤ s5 then
 (nth s0 s5.toNat).bind fun y =>
 bif !decide (y.fst = s1) then some (-1 : Int)
 else
 if (0 : Int) ≤ s5 then
 (nth s0 s5.toNat).bind fun y =>
 bif !decide (y.snd.fst = IntKind.i64.wrap (s1 + (1 : Int))) then some (-1 : Int)
 else
 if (0 : Int) ≤ s5 then
 (nth s0 s5.toNat).bind fun y =>
 (Q_l_heldCmdS big y.snd.snd.fst
 (IntKind.i64.wrap (IntKind.i64.wrap (s1 + (1 : Int)) + (1 : Int)))).bind
 fun y =>
 bif decide (y < (0 : Int)) then some (-1 : Int)
 else
 if (0 : Int) ≤ s5 then
 (nth s0 s5.toNat).bind fun y_1 =>
 bif !decide (y_1.snd.snd.snd.fst.fst = y) then some (-1 : Int)
 else
 if (0 : Int) ≤ s5 then
 (nth s0 s5.toNat).bind fun y_2 =>
 bif !decide (y_2.snd.snd.snd.fst.snd.fst = IntKind.i64.wrap (y + (1 : Int))) then
 some (-1 : Int)
 else
 if (0 : Int) ≤ s5 then
 (nth s0 s5.toNat).bind fun y_3 =>
 bif
 !decide
 (y_3.snd.snd.snd.fst.snd.snd.fst =
 IntKind.i64.wrap (IntKind.i64.wrap (y + (1 : Int)) + (1 : Int))) then
 some (-1 : Int)
 else
 if (0 : Int) ≤ s5 then
 (nth s0 s5.toNat).bind fun y_4 =>
 bif
 !decide
 (y_4.snd.snd.snd.fst.snd.snd.snd.fst =
 IntKind.i64.wrap
 (IntKind.i64.wrap
 (IntKind.i64.wrap (y + (1 : Int)) + (1 : Int)) +
 (1 : Int))) then
 some (-1 : Int)
 else
 R_l_heldBlockS_2 n s0
 (IntKind.i64.wrap
 (IntKind.i64.wrap
 (IntKind.i64.wrap
 (IntKind.i64.wrap (y + (1 : Int)) + (1 : Int)) +
 (1 : Int)) +
 (1 : Int)))
 (IntKind.i64.wrap (s5 + (1 : Int)))
 else none
 else none
 else none
 else none
 else none
 else none
 else none
 else some s1 := by kernel_rfl

end Go.Sx.Try

set_option maxRecDepth 100000
namespace Go.Sx.Try
open Go Go.Sx Go.Proofs

noncomputable def l_l_markPeerS : List (Nat × Con) := [(65, c_l_markIntS), (66, c_l_markCellS), (78, c_l_markUndoS), (79, c_l_markVoteS), (47, c_l_markLetterS)]
theorem l_l_markPeerS_ok : ∀ q ∈ l_l_markPeerS, ConOk Try.prog q.1 q.2 := Try.cons_cons c_l_markIntS_ok (Try.cons_cons c_l_markCellS_ok (Try.cons_cons c_l_markUndoS_ok (Try.cons_cons c_l_markVoteS_ok (Try.cons_cons c_l_markLetterS_ok (Try.cons_nil)))))
abbrev k_l_markPeerS_2 : List Keep × List BK := ([.is (.own 0 0), .ro tInt64, .drop, .drop, .drop, .ro tInt64, .drop, .drop, .drop, .drop, .drop, .drop, .drop, .drop, .drop, .drop, .drop, .drop, .drop, .drop, .drop, .drop, .drop, .drop, .drop, .drop, .drop, .drop, .drop, .drop, .drop, .drop, .drop, .drop, .drop, .drop, .drop, .drop, .drop, .drop, .drop, .drop, .drop, .drop, .drop, .drop, .drop, .drop, .drop, .drop, .drop, .drop, .drop, .drop, .drop, .drop, .drop, .drop, .drop, .drop, .drop, .drop, .drop, .drop, .drop, .drop, .drop, .drop, .drop, .drop, .drop, .drop, .drop, .drop, .drop, .drop, .drop, .drop, .drop, .drop, .drop, .drop, .drop, .drop, .drop, .drop, .drop, .drop, .drop, .drop, .drop, .drop, .drop, .drop, .drop, .drop, .drop, .drop, .drop, .drop, .drop, .drop, .drop, .drop, .drop, .drop, .drop, .drop, .drop, .drop, .drop, .drop, .drop, .drop, .drop, .drop, .drop, .drop, .drop, .drop, .drop, .drop, .drop, .drop, .drop, .drop, .drop, .drop, .drop, .drop, .drop, .drop, .drop, .drop, .drop, .drop, .drop, .drop, .drop, .drop, .drop, .drop, .drop, .drop, .drop, .drop, .drop, .drop, .drop, .drop, .drop, .drop, .drop, .drop, .drop, .drop, .drop, .drop, .drop, .drop, .drop, .drop, .drop, .drop, .drop, .drop, .drop, .drop, .drop, .drop, .drop, .drop], [.arr uIPeer])
def kp_l_markPeerS : KP := [(2, k_l_markPeerS_2)]
noncomputable def q_l_markPeerS (n : Nat) (x : AP.denL [.io uIPeer, .ro tInt]) := evX (true, true, []) l_l_markPeerS kp_l_markPeerS [none] Try.f116 (shO (shV tInt) [.io uIPeer]) n (AP.encL [.io uIPeer, .ro tInt] x)
noncomputable def c_l_markPeerS : Con := apS [.io uIPeer, .ro tInt] true (shO (shV tInt) [.io uIPeer]) (q_l_markPeerS big)
theorem c_l_markPeerS_ok : ConOk Try.prog 116 c_l_markPeerS := apS_ok ⟨Try.f116, by kernel_rfl, rfl, by decide⟩ fun _ _ h => evX_ok l_l_markPeerS_ok (f := Try.f116) (by kernel_rfl) rfl (by kernel_rfl) (by kernel_rfl) big h
noncomputable def Q_l_markPeerS (n : Nat) (a0 : DSlIPeer) (a1 : Int) : Option (Int × DSlIPeer × Unit) := q_l_markPeerS n (a0, a1, ())
noncomputable def r_l_markPeerS_2 (n : Nat) (x : KD k_l_markPeerS_2.1) (y : BD k_l_markPeerS_2.2) := rounds (env (true, true, []) l_l_markPeerS) kp_l_markPeerS (body Try.f116) (finX (true, true, []) l_l_markPeerS [none] Try.f116 (shO (shV tInt) [.io uIPeer]) [AP.enc (.io uIPeer) [], AP.enc (.ro tInt) (zeroD tInt)]) n 2 k_l_markPeerS_2 x y
noncomputable def R_l_markPeerS_2 (n : Nat) (s1 : Int) (s5 : Int) (b0 : (List DIPeer)) : Option (Int × DSlIPeer × Unit) := r_l_markPeerS_2 n (s1, s5, ()) (b0, ())
theorem Q_l_markPeerS_eq (n : Nat) (a0 : DSlIPeer) (a1 : Int) : Q_l_markPeerS n a0 a1 =
    R_l_markPeerS_2 n a1 (0 : Int) a0 := by kernel_rfl
theorem R_l_markPeerS_2_eq (n : Nat) (s1 : Int) (s5 : Int) (b0 : (List DIPeer)) : R_l_markPeerS_2 (n + 1) s1 s5 b0 =
    bif decide (s5 < (↑b0.length : Int)) then
 if (0 : Int) ≤ s5 then
 if s5 < (↑b0.length : Int) then
 (nth b0 s5.toNat).bind fun y =>
 (updO b0 s5.toNat (s1, y.snd)).bind fun y =>
 if (0 : Int) ≤ s5 then
 if s5 < (↑y.length : Int) then
 (nth y s5.toNat).bind fun y_1 =>
 (updO y s5.toNat (y_1.fst, IntKind.i64.wrap (s1 + (1 : Int)), y_1.snd.snd)).bind fun y =>
 if (0 : Int) ≤ s5 then
 if s5 < (↑y.length : Int) then
 (nth y s5.toNat).bind fun y_2 =>
 (updO y s5.toNat
 (y_2.fst, y_2.snd.fst,
 (IntKind.i64.wrap (IntKind.i64.wrap (s1 + (1 : Int)) + (1 : Int)),
 y_2.snd.snd.fst.snd),
 y_2.snd.snd.snd)).bind
 fun y =>
 if (0 : Int) ≤ s5 then
 if s5 < (↑y.length : Int) then
 (nth y s5.toNat).bind fun y_3 =>
 (updO y s5.toNat
 (y_3.fst, y_3.snd.fst,
 (y_3.snd.snd.fst.fst,
 IntKind.i64.wrap
 (IntKind.i64.wrap (IntKind.i64.wrap (s1 + (1 : Int)) + (1 : Int)) +
 (1 : Int)),
 y_3.snd.snd.fst.snd.snd),
 y_3.snd.snd.snd)).bind
 fun y =>
 if (0 : Int) ≤ s5 then
 if s5 < (↑y.length : Int) then
 (nth y s5.toNat).bind fun y_4 =>
 (updO y s5.toNat
 (y_4.fst, y_4.snd.fst,
 (y_4.snd.snd.fst.fst, y_4.snd.snd.fst.snd.fst,
 IntKind.i64.wrap
 (IntKind.i64.wrap
 (IntKind.i64.wrap
 (IntKind.i64.wrap (s1 + (1 : Int)) + (1 : Int)) +
 (1 : Int)) +
 (1 : Int)),
 y_4.snd.snd.fst.snd.snd.snd),
 y_4.snd.snd.snd)).bind
 fun y =>
 if (0 : Int) ≤ s5 then
 if s5 < (↑y.length : Int) then
 (nth y s5.toNat).bind fun y_5 =>
 (updO y s5.toNat
 (y_5.fst, y_5.snd.fst,
 (y_5.snd.snd.fst.fst, y_5.snd.snd.fst.snd.fst,
 y_5.snd.snd.fst.snd.snd.fst,
 IntKind.i64.wrap
 (IntKind.i64.wrap
 (IntKind.i64.wrap
 (IntKind.i64.wrap
 (IntKind.i64.wrap (s1 + (1 : Int)) +
 (1 : Int)) +
 (1 : Int)) +
 (1 : Int)) +
 (1 : Int)),
 ()),
 y_5.snd.snd.snd)).bind
 fun y =>
 if (0 : Int) ≤ s5 then
 if s5 < (↑y.length : Int) then
 (nth y s5.toNat).bind fun y_6 =>
 (updO y s5.toNat
 (y_6.fst, y_6.snd.fst, y_6.snd.snd.fst,
 (IntKind.i64.wrap
 (IntKind.i64.wrap
 (IntKind.i64.wrap
 (IntKind.i64.wrap
 (IntKind.i64.wrap
 (IntKind.i64.wrap
 (s1 + (1 : Int)) +
 (1 : Int)) +
 (1 : Int)) +
 (1 : Int)) +
 (1 : Int)) +
 (1 : Int)),
 y_6.snd.snd.snd.fst.snd),
 y_6.snd.snd.snd.snd)).bind
 fun y =>
 if (0 : Int) ≤ s5 then
 if s5 < (↑y.length : Int) then
 (nth y s5.toNat).bind fun y_7 =>
 (updO y s5.toNat
 (y_7.fst, y_7.snd.fst, y_7.snd.snd.fst,
 (y_7.snd.snd.snd.fst.fst,
 IntKind.i64.wrap
 (IntKind.i64.wrap
 (IntKind.i64.wrap
 (IntKind.i64.wrap
 (IntKind.i64.wrap
 (IntKind.i64.wrap
 (IntKind.i64.wrap
 (s1 + (1 : Int)) +
 (1 : Int)) +
 (1 : Int)) +
 (1 : Int)) +
 (1 : Int)) +
 (1 : Int)) +
 (1 : Int)),
 y_7.snd.snd.snd.fst.snd.snd),
 y_7.snd.snd.snd.snd)).bind
 fun y =>
 if (0 : Int) ≤ s5 then
 if s5 < (↑y.length : Int) then
 (nth y s5.toNat).bind fun y_8 =>
 (updO y s5.toNat
 (y_8.fst, y_8.snd.fst, y_8.snd.snd.fst,
 (y_8.snd.snd.snd.fst.fst,
 y_8.snd.snd.snd.fst.snd.fst,
 IntKind.i64.wrap
 (IntKind.i64.wrap
 (IntKind.i64.wrap
 (IntKind.i64.wrap
 (IntKind.i64.wrap
 (IntKind.i64.wrap
 (IntKind.i64.wrap
 (IntKind.i64.wrap
 (s1 +
 (1 :
 Int)) +
 (1 :
 Int)) +
 (1 : Int)) +
 (1 : Int)) +
 (1 : Int)) +
 (1 : Int)) +
 (1 : Int)) +
 (1 : Int)),
 y_8.snd.snd.snd.fst.snd.snd.snd),
 y_8.snd.snd.snd.snd)).bind
 fun y =>
 if (0 : Int) ≤ s5 then
 if s5 < (↑y.length : Int) then
 (nth y s5.toNat).bind fun y_9 =>
 (updO y s5.toNat
 (y_9.fst, y_9.snd.fst,
 y_9.snd.snd.fst,
 (y_9.snd.snd.snd.fst.fst,
 y_9.snd.snd.snd.fst.snd.fst,
 y_9.snd.snd.snd.fst.snd.snd.fst,
 IntKind.i64.wrap
 (IntKind.i64.wrap
 (IntKind.i64.wrap
 (IntKind.i64.wrap
 (IntKind.i64.wrap
 (IntKind.i64.wrap
 (IntKind.i64.wrap
 (IntKind.i64.wrap
 (IntKind.i64.wrap
 (s1 +
 (1 :
 Int)) +
 (1 :
 Int)) +
 (1 :
 Int)) +
 (1 :
 Int)) +
 (1 :
 Int)) +
 (1 : Int)) +
 (1 : Int)) +
 (1 : Int)) +
 (1 : Int)),
 ()),
 y_9.snd.snd.snd.snd)).bind
 fun y =>
 if (0 : Int) ≤ s5 then
 if s5 < (↑y.length : Int) then
 (nth y s5.toNat).bind
 fun y_10 =>
 (updO y s5.toNat
 (y_10.fst, y_10.snd.fst,
 y_10.snd.snd.fst,
 y_10.snd.snd.snd.fst,
 (IntKind.i64.wrap
 (IntKind.i64.wrap
 (IntKind.i64.wrap
 (IntKind.i64.wrap
 (IntKind.i64.wrap
 (IntKind.i64.wrap
 (IntKind.i64.wrap
 (IntKind.i64.wrap
 (IntKind.i64.wrap
 (IntKind.i64.wrap
 (s1 +
 (1 :
 Int)) +
 (1 :
 Int)) +
 (1 :
 Int)) +
 (1 :
 Int)) +
 (1 :
 Int)) +
 (1 :
 Int)) +
 (1 :
 Int)) +
 (1 :
 Int)) +
 (1 : Int)) +
 (1 : Int)),
 y_10.snd.snd.snd.snd.fst.snd),
 y_10.snd.snd.snd.snd.snd)).bind
 fun y =>
 if (0 : Int) ≤ s5 then
 if
 s5 <
 (↑y.length :
 Int) then
 (nth y s5.toNat).bind
 fun y_11 =>
 (updO y s5.toNat
 (y_11.fst,
 y_11.snd.fst,
 y_11.snd.snd.fst,
 y_11.snd.snd.snd.fst,
 (y_11.snd.snd.snd.snd.fst.fst,
 IntKind.i64.wrap
 (IntKind.i64.wrap
 (IntKind.i64.wrap
 (IntKind.i64.wrap
 (IntKind.i64.wrap
 (IntKind.i64.wrap
 (IntKind.i64.wrap
 (IntKind.i64.wrap
 (IntKind.i64.wrap
 (IntKind.i64.wrap
 (IntKind.i64.wrap
 (s1 +
 (1 :
 Int)) +
 (1 :
 Int)) +
 (1 :
 Int)) +
 (1 :
 Int)) +
 (1 :
 Int)) +
 (1 :
 Int)) +
 (1 :
 Int)) +
 (1 :
 Int)) +
 (1 :
 Int)) +
 (1 :
 Int)) +
 (1 :
 Int)),
 y_11.snd.snd.snd.snd.fst.snd.snd),
 y_11.snd.snd.snd.snd.snd)).bind
 fun y =>
 if
 (0 : Int) ≤
 s5 then
 if
 s5 <
 (↑y.length :
 Int) then
 (nth y
 s5.toNat).bind
 fun y_12 =>
 (updO y
 s5.toNat
 (y_12.fst,
 y_12.snd.fst,
 y_12.snd.snd.fst,
 y_12.snd.snd.snd.fst,
 (y_12.snd.snd.snd.snd.fst.fst,
 y_12.snd.snd.snd.snd.fst.snd.fst,
 IntKind.i64.wrap
 (IntKind.i64.wrap
 (IntKind.i64.wrap
 (IntKind.i64.wrap
 (IntKind.i64.wrap
 (IntKind.i64.wrap
 (IntKind.i64.wrap
 (IntKind.i64.wrap
 (IntKind.i64.wrap
 (IntKind.i64.wrap
 (IntKind.i64.wrap
 (IntKind.i64.wrap
 (s1 +
 (1 :
 Int)) +
 (1 :
 Int)) +
 (1 :
 Int)) +
 (1 :
 Int)) +
 (1 :
 Int)) +
 (1 :
 Int)) +
 (1 :
 Int)) +
 (1 :
 Int)) +
 (1 :
 Int)) +
 (1 :
 Int)) +
 (1 :
 Int)) +
 (1 :
 Int)),
 y_12.snd.snd.snd.snd.fst.snd.snd.snd),
 y_12.snd.snd.snd.snd.snd)).bind
 fun y =>
 if
 (0 :
 Int) ≤
 s5 then
 if
 s5 <
 (↑y.length :
 Int) then
 (nth y
 s5.toNat).bind
 fun
 y_13 =>
 (updO
 y
 s5.toNat
 (y_13.fst,
 y_13.snd.fst,
 y_13.snd.snd.fst,
 y_13.snd.snd.snd.fst,
 (y_13.snd.snd.snd.snd.fst.fst,
 y_13.snd.snd.snd.snd.fst.snd.fst,
 y_13.snd.snd.snd.snd.fst.snd.snd.fst,
 IntKind.i64.wrap
 (IntKind.i64.wrap
 (IntKind.i64.wrap
 (IntKind.i64.wrap
 (IntKind.i64.wrap
 (IntKind.i64.wrap
 (IntKind.i64.wrap
 (IntKind.i64.wrap
 (IntKind.i64.wrap
 (IntKind.i64.wrap
 (IntKind.i64.wrap
 (IntKind.i64.wrap
 (IntKind.i64.wrap
 (s1 +
 (1 :
 Int)) +
 (1 :
 Int)) +
 (1 :
 Int)) +
 (1 :
 Int)) +
 (1 :
 Int)) +
 (1 :
 Int)) +
 (1 :
 Int)) +
 (1 :
 Int)) +
 (1 :
 Int)) +
 (1 :
 Int)) +
 (1 :
 Int)) +
 (1 :
 Int)) +
 (1 :
 Int)),
 ()),
 y_13.snd.snd.snd.snd.snd)).bind
 fun
 y =>
 if
 (0 :
 Int) ≤
 s5 then
 if
 s5 <
 (↑y.length :
 Int) then
 (nth
 y
 s5.toNat).bind
 fun
 y_14 =>
 (Q_l_markIntS
 big
 y_14.snd.snd.snd.snd.snd.fst
 (IntKind.i64.wrap
 (IntKind.i64.wrap
 (IntKind.i64.wrap
 (IntKind.i64.wrap
 (IntKind.i64.wrap
 (IntKind.i64.wrap
 (IntKind.i64.wrap
 (IntKind.i64.wrap
 (IntKind.i64.wrap
 (IntKind.i64.wrap
 (IntKind.i64.wrap
 (IntKind.i64.wrap
 (IntKind.i64.wrap
 (IntKind.i64.wrap
 (s1 +
 (1 :
 Int)) +
 (1 :
 Int)) +
 (1 :
 Int)) +
 (1 :
 Int)) +
 (1 :
 Int)) +
 (1 :
 Int)) +
 (1 :
 Int)) +
 (1 :
 Int)) +
 (1 :
 Int)) +
 (1 :
 Int)) +
 (1 :
 Int)) +
 (1 :
 Int)) +
 (1 :
 Int)) +
 (1 :
 Int)))).bind
 fun
 y_15 =>
 (updO
 y
 s5.toNat
 (y_14.fst,
 y_14.snd.fst,
 y_14.snd.snd.fst,
 y_14.snd.snd.snd.fst,
 y_14.snd.snd.snd.snd.fst,
 y_15.snd.fst,
 y_14.snd.snd.snd.snd.snd.snd)).bind
 fun
 y =>
 if
 (0 :
 Int) ≤
 s5 then
 if
 s5 <
 (↑y.length :
 Int) then
 (nth
 y
 s5.toNat).bind
 fun
 y_16 =>
 (Q_l_markCellS
 big
 y_16.snd.snd.snd.snd.snd.snd.fst
 y_15.fst).bind
 fun
 y_17 =>
 (updO
 y
 s5.toNat
 (y_16.fst,
 y_16.snd.fst,
 y_16.snd.snd.fst,
 y_16.snd.snd.snd.fst,
 y_16.snd.snd.snd.snd.fst,
 y_16.snd.snd.snd.snd.snd.fst,
 y_17.snd.fst,
 y_16.snd.snd.snd.snd.snd.snd.snd)).bind
 fun
 y =>
 if
 (0 :
 Int) ≤
 s5 then
 if
 s5 <
 (↑y.length :
 Int) then
 (nth
 y
 s5.toNat).bind
 fun
 y_18 =>
 (Q_l_markIntS
 big
 y_18.snd.snd.snd.snd.snd.snd.snd.fst
 y_17.fst).bind
 fun
 y_19 =>
 (updO
 y
 s5.toNat
 (y_18.fst,
 y_18.snd.fst,
 y_18.snd.snd.fst,
 y_18.snd.snd.snd.fst,
 y_18.snd.snd.snd.snd.fst,
 y_18.snd.snd.snd.snd.snd.fst,
 y_18.snd.snd.snd.snd.snd.snd.fst,
 y_19.snd.fst,
 y_18.snd.snd.snd.snd.snd.snd.snd.snd)).bind
 fun
 y =>
 if
 (0 :
 Int) ≤
 s5 then
 if
 s5 <
 (↑y.length :
 Int) then
 (nth
 y
 s5.toNat).bind
 fun
 y_20 =>
 (Q_l_markUndoS
 big
 y_20.snd.snd.snd.snd.snd.snd.snd.snd.fst
 y_19.fst).bind
 fun
 y_21 =>
 (updO
 y
 s5.toNat
 (y_20.fst,
 y_20.snd.fst,
 y_20.snd.snd.fst,
 y_20.snd.snd.snd.fst,
 y_20.snd.snd.snd.snd.fst,
 y_20.snd.snd.snd.snd.snd.fst,
 y_20.snd.snd.snd.snd.snd.snd.fst,
 y_20.snd.snd.snd.snd.snd.snd.snd.fst,
 y_21.snd.fst,
 y_20.snd.snd.snd.snd.snd.snd.snd.snd.snd)).bind
 fun
 y =>
 if
 (0 :
 Int) ≤
 s5 then
 if
 s5 <
 (↑y.length :
 Int) then
 (nth
 y
 s5.toNat).bind
 fun
 y_22 =>
 (Q_l_markVoteS
 big
 y_22.snd.snd.snd.snd.snd.snd.snd.snd.snd.fst
 y_21.fst).bind
 fun
 y_23 =>
 (updO
 y
 s5.toNat
 (y_22.fst,
 y_22.snd.fst,
 y_22.snd.snd.fst,
 y_22.snd.snd.snd.fst,
 y_22.snd.snd.snd.snd.fst,
 y_22.snd.snd.snd.snd.snd.fst,
 y_22.snd.snd.snd.snd.snd.snd.fst,
 y_22.snd.snd.snd.snd.snd.snd.snd.fst,
 y_22.snd.snd.snd.snd.snd.snd.snd.snd.fst,
 y_23.snd.fst,
 y_22.snd.snd.snd.snd.snd.snd.snd.snd.snd.snd)).bind
 fun
 y =>
 if
 (0 :
 Int) ≤
 s5 then
 if
 s5 <
 (↑y.length :
 Int) then
 (nth
 y
 s5.toNat).bind
 fun
 y_24 =>
 (Q_l_markLetterS
 big
 y_24.snd.snd.snd.snd.snd.snd.snd.snd.snd.snd.fst
 y_23.fst).bind
 fun
 y_25 =>
 (updO
 y
 s5.toNat
 (y_24.fst,
 y_24.snd.fst,
 y_24.snd.snd.fst,
 y_24.snd.snd.snd.fst,
 y_24.snd.snd.snd.snd.fst,
 y_24.snd.snd.snd.snd.snd.fst,
 y_24.snd.snd.snd.snd.snd.snd.fst,
 y_24.snd.snd.snd.snd.snd.snd.snd.fst,
 y_24.snd.snd.snd.snd.snd.snd.snd.snd.fst,
 y_24.snd.snd.snd.snd.snd.snd.snd.snd.snd.fst,
 y_25.snd.fst,
 y_24.snd.snd.snd.snd.snd.snd.snd.snd.snd.snd.snd)).bind
 fun
 y =>
 if
 (0 :
 Int) ≤
 s5 then
 if
 s5 <
 (↑y.length :
 Int) then
 (nth
 y
 s5.toNat).bind
 fun
 y_26 =>
 (updO
 y
 s5.toNat
 (y_26.fst,
 y_26.snd.fst,
 y_26.snd.snd.fst,
 y_26.snd.snd.snd.fst,
 y_26.snd.snd.snd.snd.fst,
 y_26.snd.snd.snd.snd.snd.fst,
 y_26.snd.snd.snd.snd.snd.snd.fst,
 y_26.snd.snd.snd.snd.snd.snd.snd.fst,
 y_26.snd.snd.snd.snd.snd.snd.snd.snd.fst,
 y_26.snd.snd.snd.snd.snd.snd.snd.snd.snd.fst,
 y_26.snd.snd.snd.snd.snd.snd.snd.snd.snd.snd.fst,
 y_25.fst,
 ())).bind
 fun
 y =>
 R_l_markPeerS_2
 n
 (IntKind.i64.wrap
 (y_25.fst +
 (1 :
 Int)))
 (IntKind.i64.wrap
 (s5 +
 (1 :
 Int)))
 y
 else
 none
 else
 none
 else
 none
 else
 none
 else
 none
 else
 none
 else
 none
 else
 none
 else
 none
 else
 none
 else
 none
 else
 none
 else
 none
 else
 none
 else none
 else none
 else none
 else none
 else none
 else none
 else none
 else none
 else none
 else none
 else none
 else none
 else none
 else none
 else none
 else none
 else none
 else none
 else none
 else none
 else none
 else none
 else none
 else none
 else none
 else none
 else none
 else none
 else some (s1, b0, PUnit.unit) := by kernel_rfl

end Go.Sx.Try

set_option maxRecDepth 100000
namespace Go.Sx.Try
open Go Go.Sx Go.Proofs

noncomputable def l_l_heldPeerS : List (Nat × Con) := [(80, c_l_heldIntS), (67, c_l_heldCellS), (81, c_l_heldUndoS), (82, c_l_heldVoteS), (83, c_l_heldLetterS)]
theorem l_l_heldPeerS_ok : ∀ q ∈ l_l_heldPeerS, ConOk Try.prog q.1 q.2 := Try.cons_cons c_l_heldIntS_ok (Try.cons_cons c_l_heldCellS_ok (Try.cons_cons c_l_heldUndoS_ok (Try.cons_cons c_l_heldVoteS_ok (Try.cons_cons c_l_heldLetterS_ok (Try.cons_nil)))))
abbrev k_l_heldPeerS_2 : List Keep × List BK := ([.ro tSlLPeer, .ro tInt64, .drop, .drop, .drop, .ro tInt64, .drop, .drop, .drop, .drop, .drop, .drop, .drop, .drop, .drop, .drop, .drop, .drop, .drop, .drop, .drop, .drop, .drop, .drop, .drop, .drop, .drop, .drop, .drop, .drop, .drop, .drop, .drop, .drop, .drop, .drop, .drop, .drop, .drop, .drop, .drop, .drop, .drop, .drop, .drop, .drop, .drop, .drop, .drop, .drop, .drop, .drop, .drop, .drop, .drop, .drop, .drop, .drop, .drop, .drop, .drop, .drop, .drop, .drop, .drop, .drop, .drop, .drop, .drop, .drop, .drop, .drop, .drop, .drop, .drop, .drop, .drop, .drop, .drop, .drop, .drop, .drop, .drop, .drop, .drop, .drop, .drop, .drop, .drop, .drop, .drop, .drop, .drop, .drop, .drop, .drop, .drop, .drop, .drop, .drop, .drop, .drop, .drop, .drop, .drop, .drop, .drop, .drop, .drop, .drop, .drop, .drop, .drop, .drop, .drop, .drop, .drop, .drop, .drop, .drop, .drop, .drop, .drop, .drop, .drop, .drop, .drop, .drop, .drop, .drop, .drop, .drop, .drop, .drop, .drop, .drop, .drop, .drop, .drop, .drop, .drop, .drop, .drop, .drop, .drop, .drop, .drop, .drop, .drop, .drop, .drop, .drop, .drop, .drop, .drop, .drop, .drop, .drop, .drop, .drop, .drop, .drop, .drop, .drop, .drop, .drop, .drop, .drop, .drop, .drop, .drop, .drop, .drop, .drop, .drop, .drop, .drop, .drop, .drop, .drop, .drop, .drop, .drop, .drop, .drop, .drop, .drop, .drop, .drop, .drop, .drop, .drop, .drop, .drop, .drop, .drop, .drop, .drop, .drop, .drop, .drop, .drop, .drop, .drop, .drop, .drop, .drop, .drop, .drop, .drop, .drop, .drop, .drop, .drop], [])
def kp_l_heldPeerS : KP := [(2, k_l_heldPeerS_2)]
noncomputable def q_l_heldPeerS (n : Nat) (x : Args [tSlIPeer, tInt]) := evX (false, false, []) l_l_heldPeerS kp_l_heldPeerS [none] Try.f117 (shV tInt) n (encA [tSlIPeer, tInt] x)
noncomputable def c_l_heldPeerS : Con := roS [tSlIPeer, tInt] true (shV tInt) (q_l_heldPeerS big)
theorem c_l_heldPeerS_ok : ConOk Try.prog 117 c_l_heldPeerS := roS_ok ⟨Try.f117, by kernel_rfl, rfl, by decide⟩ fun _ _ h => evX_ok l_l_heldPeerS_ok (f := Try.f117) (by kernel_rfl) rfl (by kernel_rfl) (by kernel_rfl) big h
noncomputable def Q_l_heldPeerS (n : Nat) (a0 : DSlIPeer) (a1 : Int) : Option Int := q_l_heldPeerS n (a0, a1, ())
noncomputable def r_l_heldPeerS_2 (n : Nat) (x : KD k_l_heldPeerS_2.1) (y : BD k_l_heldPeerS_2.2) := rounds (env (false, false, []) l_l_heldPeerS) kp_l_heldPeerS (body Try.f117) (finX (false, false, []) l_l_heldPeerS [none] Try.f117 (shV tInt) [.val tSlIPeer (zeroD tSlIPeer), .val tInt (zeroD tInt)]) n 2 k_l_heldPeerS_2 x y
noncomputable def R_l_heldPeerS_2 (n : Nat) (s0 : DSlLPeer) (s1 : Int) (s5 : Int) : Option Int := r_l_heldPeerS_2 n (s0, s1, s5, ()) ()
theorem Q_l_heldPeerS_eq (n : Nat) (a0 : DSlIPeer) (a1 : Int) : Q_l_heldPeerS n a0 a1 =
    R_l_heldPeerS_2 n a0 a1 (0 : Int) := by kernel_rfl
theorem R_l_heldPeerS_2_eq (n : Nat) (s0 : DSlLPeer) (s1 : Int) (s5 : Int) : R_l_heldPeerS_2 (n + 1) s0 s1 s5 =
    bif decide (s5 < (↑(List.length s0) : Int)) then
 if (0 : Int) ≤ s5 then
 (nth s0 s5.toNat).bind fun y =>
 bif !decide (y.fst = s1) then some (-1 : Int)
 else
 if (0 : Int) ≤ s5 then
 (nth s0 s5.toNat).bind fun y =>
 bif !decide (y.snd.fst = IntKind.i64.wrap (s1 + (1 : Int))) then some (-1 : Int)
 else
 if (0 : Int) ≤ s5 then
 (nth s0 s5.toNat).bind fun y =>
 bif
 !decide
 (y.snd.snd.fst.fst = IntKind.i64.wrap (IntKind.i64.wrap (s1 + (1 : Int)) + (1 : Int))) then
 some (-1 : Int)
 else
 if (0 : Int) ≤ s5 then
 (nth s0 s5.toNat).bind fun y =>
 bif
 !decide
 (y.snd.snd.fst.snd.fst =
 IntKind.i64.wrap
 (IntKind.i64.wrap (IntKind.i64.wrap (s1 + (1 : Int)) + (1 : Int)) +
 (1 : Int))) then
 some (-1 : Int)
 else
 if (0 : Int) ≤ s5 then
 (nth s0 s5.toNat).bind fun y =>
 bif
 !decide
 (y.snd.snd.fst.snd.snd.fst =
 IntKind.i64.wrap
 (IntKind.i64.wrap
 (IntKind.i64.wrap (IntKind.i64.wrap (s1 + (1 : Int)) + (1 : Int)) +
 (1 : Int)) +
 (1 : Int))) then
 some (-1 : Int)
 else
 if (0 : Int) ≤ s5 then
 (nth s0 s5.toNat).bind fun y =>
 bif
 !decide
 (y.snd.snd.fst.snd.snd.snd.fst =
 IntKind.i64.wrap
 (IntKind.i64.wrap
 (IntKind.i64.wrap
 (IntKind.i64.wrap
 (IntKind.i64.wrap (s1 + (1 : Int)) + (1 : Int)) +
 (1 : Int)) +
 (1 : Int)) +
 (1 : Int))) then
 some (-1 : Int)
 else
 if (0 : Int) ≤ s5 then
 (nth s0 s5.toNat).bind fun y =>
 bif
 !decide
 (y.snd.snd.snd.fst.fst =
 IntKind.i64.wrap
 (IntKind.i64.wrap
 (IntKind.i64.wrap
 (IntKind.i64.wrap
 (IntKind.i64.wrap
 (IntKind.i64.wrap (s1 + (1 : Int)) +
 (1 : Int)) +
 (1 : Int)) +
 (1 : Int)) +
 (1 : Int)) +
 (1 : Int))) then
 some (-1 : Int)
 else
 if (0 : Int) ≤ s5 then
 (nth s0 s5.toNat).bind fun y =>
 bif
 !decide
 (y.snd.snd.snd.fst.snd.fst =
 IntKind.i64.wrap
 (IntKind.i64.wrap
 (IntKind.i64.wrap
 (IntKind.i64.wrap
 (IntKind.i64.wrap
 (IntKind.i64.wrap
 (IntKind.i64.wrap (s1 + (1 : Int)) +
 (1 : Int)) +
 (1 : Int)) +
 (1 : Int)) +
 (1 : Int)) +
 (1 : Int)) +
 (1 : Int))) then
 some (-1 : Int)
 else
 if (0 : Int) ≤ s5 then
 (nth s0 s5.toNat).bind fun y =>
 bif
 !decide
 (y.snd.snd.snd.fst.snd.snd.fst =
 IntKind.i64.wrap
 (IntKind.i64.wrap
 (IntKind.i64.wrap
 (IntKind.i64.wrap
 (IntKind.i64.wrap
 (IntKind.i64.wrap
 (IntKind.i64.wrap
 (IntKind.i64.wrap
 (s1 + (1 : Int)) +
 (1 : Int)) +
 (1 : Int)) +
 (1 : Int)) +
 (1 : Int)) +
 (1 : Int)) +
 (1 : Int)) +
 (1 : Int))) then
 some (-1 : Int)
 else
 if (0 : Int) ≤ s5 then
 (nth s0 s5.toNat).bind fun y =>
 bif
 !decide
 (y.snd.snd.snd.fst.snd.snd.snd.fst =
 IntKind.i64.wrap
 (IntKind.i64.wrap
 (IntKind.i64.wrap
 (IntKind.i64.wrap
 (IntKind.i64.wrap
 (IntKind.i64.wrap
 (IntKind.i64.wrap
 (IntKind.i64.wrap
 (IntKind.i64.wrap
 (s1 +
 (1 : Int)) +
 (1 : Int)) +
 (1 : Int)) +
 (1 : Int)) +
 (1 : Int)) +
 (1 : Int)) +
 (1 : Int)) +
 (1 : Int)) +
 (1 : Int))) then
 some (-1 : Int)
 else
 if (0 : Int) ≤ s5 then
 (nth s0 s5.toNat).bind fun y =>
 bif
 !decide
 (y.snd.snd.snd.snd.fst.fst =
 IntKind.i64.wrap
 (IntKind.i64.wrap
 (IntKind.i64.wrap
 (IntKind.i64.wrap
 (IntKind.i64.wrap
 (IntKind.i64.wrap
 (IntKind.i64.wrap
 (IntKind.i64.wrap
 (IntKind.i64.wrap
 (IntKind.i64.wrap
 (s1 +
 (1 :
 Int)) +
 (1 :
 Int)) +
 (1 :
 Int)) +
 (1 : Int)) +
 (1 : Int)) +
 (1 : Int)) +
 (1 : Int)) +
 (1 : Int)) +
 (1 : Int)) +
 (1 : Int))) then
 some (-1 : Int)
 else
 if (0 : Int) ≤ s5 then
 (nth s0 s5.toNat).bind fun y =>
 bif
 !decide
 (y.snd.snd.snd.snd.fst.snd.fst =
 IntKind.i64.wrap
 (IntKind.i64.wrap
 (IntKind.i64.wrap
 (IntKind.i64.wrap
 (IntKind.i64.wrap
 (IntKind.i64.wrap
 (IntKind.i64.wrap
 (IntKind.i64.wrap
 (IntKind.i64.wrap
 (IntKind.i64.wrap
 (IntKind.i64.wrap
 (s1 +
 (1 :
 Int)) +
 (1 :
 Int)) +
 (1 :
 Int)) +
 (1 :
 Int)) +
 (1 :
 Int)) +
 (1 : Int)) +
 (1 : Int)) +
 (1 : Int)) +
 (1 : Int)) +
 (1 : Int)) +
 (1 : Int))) then
 some (-1 : Int)
 else
 if (0 : Int) ≤ s5 then
 (nth s0 s5.toNat).bind fun y =>
 bif
 !decide
 (y.snd.snd.snd.snd.fst.snd.snd.fst =
 IntKind.i64.wrap
 (IntKind.i64.wrap
 (IntKind.i64.wrap
 (IntKind.i64.wrap
 (IntKind.i64.wrap
 (IntKind.i64.wrap
 (IntKind.i64.wrap
 (IntKind.i64.wrap
 (IntKind.i64.wrap
 (IntKind.i64.wrap
 (IntKind.i64.wrap
 (IntKind.i64.wrap
 (s1 +
 (1 :
 Int)) +
 (1 :
 Int)) +
 (1 :
 Int)) +
 (1 :
 Int)) +
 (1 :
 Int)) +
 (1 :
 Int)) +
 (1 :
 Int)) +
 (1 :
 Int)) +
 (1 : Int)) +
 (1 : Int)) +
 (1 : Int)) +
 (1 : Int))) then
 some (-1 : Int)
 else
 if (0 : Int) ≤ s5 then
 (nth s0 s5.toNat).bind fun y =>
 bif
 !decide
 (y.snd.snd.snd.snd.fst.snd.snd.snd.fst =
 IntKind.i64.wrap
 (IntKind.i64.wrap
 (IntKind.i64.wrap
 (IntKind.i64.wrap
 (IntKind.i64.wrap
 (IntKind.i64.wrap
 (IntKind.i64.wrap
 (IntKind.i64.wrap
 (IntKind.i64.wrap
 (IntKind.i64.wrap
 (IntKind.i64.wrap
 (IntKind.i64.wrap
 (IntKind.i64.wrap
 (s1 +
 (1 :
 Int)) +
 (1 :
 Int)) +
 (1 :
 Int)) +
 (1 :
 Int)) +
 (1 :
 Int)) +
 (1 :
 Int)) +
 (1 :
 Int)) +
 (1 :
 Int)) +
 (1 :
 Int)) +
 (1 :
 Int)) +
 (1 : Int)) +
 (1 : Int)) +
 (1 : Int))) then
 some (-1 : Int)
 else
 if (0 : Int) ≤ s5 then
 (nth s0 s5.toNat).bind
 fun y =>
 (Q_l_heldIntS big
 y.snd.snd.snd.snd.snd.fst
 (IntKind.i64.wrap
 (IntKind.i64.wrap
 (IntKind.i64.wrap
 (IntKind.i64.wrap
 (IntKind.i64.wrap
 (IntKind.i64.wrap
 (IntKind.i64.wrap
 (IntKind.i64.wrap
 (IntKind.i64.wrap
 (IntKind.i64.wrap
 (IntKind.i64.wrap
 (IntKind.i64.wrap
 (IntKind.i64.wrap
 (IntKind.i64.wrap
 (s1 +
 (1 :
 Int)) +
 (1 :
 Int)) +
 (1 :
 Int)) +
 (1 :
 Int)) +
 (1 :
 Int)) +
 (1 :
 Int)) +
 (1 :
 Int)) +
 (1 :
 Int)) +
 (1 :
 Int)) +
 (1 :
 Int)) +
 (1 :
 Int)) +
 (1 :
 Int)) +
 (1 : Int)) +
 (1 : Int)))).bind
 fun y =>
 bif
 decide
 (y < (0 : Int)) then
 some (-1 : Int)
 else
 if (0 : Int) ≤ s5 then
 (nth s0 s5.toNat).bind
 fun y_1 =>
 (Q_l_heldCellS big
 y_1.snd.snd.snd.snd.snd.snd.fst
 y).bind
 fun y =>
 bif
 decide
 (y <
 (0 :
 Int)) then
 some (-1 : Int)
 else
 if
 (0 : Int) ≤
 s5 then
 (nth s0
 s5.toNat).bind
 fun y_2 =>
 (Q_l_heldIntS
 big
 y_2.snd.snd.snd.snd.snd.snd.snd.fst
 y).bind
 fun y =>
 bif
 decide
 (y <
 (0 :
 Int)) then
 some
 (-1 :
 Int)
 else
 if
 (0 :
 Int) ≤
 s5 then
 (nth
 s0
 s5.toNat).bind
 fun
 y_3 =>
 (Q_l_heldUndoS
 big
 y_3.snd.snd.snd.snd.snd.snd.snd.snd.fst
 y).bind
 fun
 y =>
 bif
 decide
 (y <
 (0 :
 Int)) then
 some
 (-1 :
 Int)
 else
 if
 (0 :
 Int) ≤
 s5 then
 (nth
 s0
 s5.toNat).bind
 fun
 y_4 =>
 (Q_l_heldVoteS
 big
 y_4.snd.snd.snd.snd.snd.snd.snd.snd.snd.fst
 y).bind
 fun
 y =>
 bif
 decide
 (y <
 (0 :
 Int)) then
 some
 (-1 :
 Int)
 else
 if
 (0 :
 Int) ≤
 s5 then
 (nth
 s0
 s5.toNat).bind
 fun
 y_5 =>
 (Q_l_heldLetterS
 big
 y_5.snd.snd.snd.snd.snd.snd.snd.snd.snd.snd.fst
 y).bind
 fun
 y =>
 bif
 decide
 (y <
 (0 :
 Int)) then
 some
 (-1 :
 Int)
 else
 if
 (0 :
 Int) ≤
 s5 then
 (nth
 s0
 s5.toNat).bind
 fun
 y_6 =>
 bif
 !decide
 (y_6.snd.snd.snd.snd.snd.snd.snd.snd.snd.snd.snd.fst =
 y) then
 some
 (-1 :
 Int)
 else
 R_l_heldPeerS_2
 n
 s0
 (IntKind.i64.wrap
 (y +
 (1 :
 Int)))
 (IntKind.i64.wrap
 (s5 +
 (1 :
 Int)))
 else
 none
 else
 none
 else
 none
 else
 none
 else none
 else none
 else none
 else none
 else none
 else none
 else none
 else none
 else none
 else none
 else none
 else none
 else none
 else none
 else none
 else none
 else none
 else some s1 := by kernel_rfl

end Go.Sx.Try

set_option maxRecDepth 100000
namespace Go.Sx.Try
open Go Go.Sx Go.Proofs

noncomputable def l_l_markCluster : List (Nat × Con) := [(64, c_l_markBlockS), (116, c_l_markPeerS), (47, c_l_markLetterS), (79, c_l_markVoteS), (73, c_l_markCmdS)]
theorem l_l_markCluster_ok : ∀ q ∈ l_l_markCluster, ConOk Try.prog q.1 q.2 := Try.cons_cons c_l_markBlockS_ok (Try.cons_cons c_l_markPeerS_ok (Try.cons_cons c_l_markLetterS_ok (Try.cons_cons c_l_markVoteS_ok (Try.cons_cons c_l_markCmdS_ok (Try.cons_nil)))))
def kp_l_markCluster : KP := []
noncomputable def q_l_markCluster (n : Nat) (x : AP.denL [.mo uICluster, .ro tInt]) := evX (false, false, [2, 5, 9, 13, 17, 21]) l_l_markCluster kp_l_markCluster [none] Try.f40 (shO (shV tInt) [.mo uICluster]) n (AP.encL [.mo uICluster, .ro tInt] x)
noncomputable def c_l_markCluster : Con := apS [.mo uICluster, .ro tInt] true (shO (shV tInt) [.mo uICluster]) (q_l_markCluster big)
theorem c_l_markCluster_ok : ConOk Try.prog 40 c_l_markCluster := apS_ok ⟨Try.f40, by kernel_rfl, rfl, by decide⟩ fun _ _ h => evX_ok l_l_markCluster_ok (f := Try.f40) (by kernel_rfl) rfl (by kernel_rfl) (by kernel_rfl) big h
noncomputable def Q_l_markCluster (n : Nat) (a0 : DICluster) (a1 : Int) : Option (Int × (Unit × Unit × Unit × (List DIBlock) × (List DIPeer) × (List DILetter) × (List DIVote) × (List DICmd) × Unit) × Unit) := q_l_markCluster n (a0, a1, ())
theorem Q_l_markCluster_eq (n : Nat) (a0 : DICluster) (a1 : Int) : Q_l_markCluster n a0 a1 =
    (Q_l_markBlockS big a0.snd.snd.snd.fst a1).bind fun y =>
 (Q_l_markPeerS big a0.snd.snd.snd.snd.fst y.fst).bind fun y_1 =>
 (Q_l_markLetterS big a0.snd.snd.snd.snd.snd.fst y_1.fst).bind fun y_2 =>
 (Q_l_markVoteS big a0.snd.snd.snd.snd.snd.snd.fst y_2.fst).bind fun y_3 =>
 (Q_l_markCmdS big a0.snd.snd.snd.snd.snd.snd.snd.fst y_3.fst).bind fun y_4 =>
 some
 (y_4.fst, (PUnit.unit, PUnit.unit, PUnit.unit, y.snd.fst, y_1.snd.fst, y_2.snd.fst, y_3.snd.fst, y_4.snd),
 PUnit.unit) := by kernel_rfl

end Go.Sx.Try

set_option maxRecDepth 100000
namespace Go.Sx.Try
open Go Go.Sx Go.Proofs

noncomputable def l_l_heldCluster : List (Nat × Con) := [(74, c_l_heldBlockS), (117, c_l_heldPeerS), (83, c_l_heldLetterS), (82, c_l_heldVoteS), (118, c_l_heldCmdS)]
theorem l_l_heldCluster_ok : ∀ q ∈ l_l_heldCluster, ConOk Try.prog q.1 q.2 := Try.cons_cons c_l_heldBlockS_ok (Try.cons_cons c_l_heldPeerS_ok (Try.cons_cons c_l_heldLetterS_ok (Try.cons_cons c_l_heldVoteS_ok (Try.cons_cons c_l_heldCmdS_ok (Try.cons_nil)))))
def kp_l_heldCluster : KP := []
noncomputable def q_l_heldCluster (n : Nat) (x : Args [tICluster, tInt]) := evX (false, false, [2, 5, 11, 17, 23, 29]) l_l_heldCluster kp_l_heldCluster [none] Try.f41 (shV tInt) n (encA [tICluster, tInt] x)
noncomputable def c_l_heldCluster : Con := roS [tICluster, tInt] true (shV tInt) (q_l_heldCluster big)
theorem c_l_heldCluster_ok : ConOk Try.prog 41 c_l_heldCluster := roS_ok ⟨Try.f41, by kernel_rfl, rfl, by decide⟩ fun _ _ h => evX_ok l_l_heldCluster_ok (f := Try.f41) (by kernel_rfl) rfl (by kernel_rfl) (by kernel_rfl) big h
noncomputable def Q_l_heldCluster (n : Nat) (a0 : DICluster) (a1 : Int) : Option Int := q_l_heldCluster n (a0, a1, ())
theorem Q_l_heldCluster_eq (n : Nat) (a0 : DICluster) (a1 : Int) : Q_l_heldCluster n a0 a1 =
    (Q_l_heldBlockS big a0.snd.snd.snd.fst a1).bind fun y =>
 bif decide (y < (0 : Int)) then some (-1 : Int)
 else
 (Q_l_heldPeerS big a0.snd.snd.snd.snd.fst y).bind fun y =>
 bif decide (y < (0 : Int)) then some (-1 : Int)
 else
 (Q_l_heldLetterS big a0.snd.snd.snd.snd.snd.fst y).bind fun y =>
 bif decide (y < (0 : Int)) then some (-1 : Int)
 else
 (Q_l_heldVoteS big a0.snd.snd.snd.snd.snd.snd.fst y).bind fun y =>
 bif decide (y < (0 : Int)) then some (-1 : Int)
 else
 (Q_l_heldCmdS big a0.snd.snd.snd.snd.snd.snd.snd.fst y).bind fun y =>
 bif decide (y < (0 : Int)) then some (-1 : Int) else some y := by kernel_rfl

end Go.Sx.Try

set_option maxRecDepth 100000
namespace Go.Sx.Try
open Go Go.Sx Go.Proofs

noncomputable def l_g_Clone_ICmd : List (Nat × Con) := []
theorem l_g_Clone_ICmd_ok : ∀ q ∈ l_g_Clone_ICmd, ConOk Try.prog q.1 q.2 := Try.cons_nil
def kp_g_Clone_ICmd : KP := []
noncomputable def q_g_Clone_ICmd (n : Nat) (x : Args [tSlICmd]) := evX (false, false, []) l_g_Clone_ICmd kp_g_Clone_ICmd [some uSlICmd] Try.f145 (shF uSlICmd) n (encA [tSlICmd] x)
noncomputable def c_g_Clone_ICmd : Con := roS [tSlICmd] true (shF uSlICmd) (q_g_Clone_ICmd big)
theorem c_g_Clone_ICmd_ok : ConOk Try.prog 145 c_g_Clone_ICmd := roS_ok ⟨Try.f145, by kernel_rfl, rfl, by decide⟩ fun _ _ h => evX_ok l_g_Clone_ICmd_ok (f := Try.f145) (by kernel_rfl) rfl (by kernel_rfl) (by kernel_rfl) big h
noncomputable def Q_g_Clone_ICmd (n : Nat) (a0 : DSlICmd) : Option DSlICmd := q_g_Clone_ICmd n (a0, ())
theorem Q_g_Clone_ICmd_eq (n : Nat) (a0 : DSlICmd) : Q_g_Clone_ICmd n a0 =
    nilC a0 fun b => bif b then some [] else if (0 : Nat) + List.length a0 ≤ lim then some a0 else none := by kernel_rfl

end Go.Sx.Try

set_option maxRecDepth 100000
namespace Go.Sx.Try
open Go Go.Sx Go.Proofs

noncomputable def l_i_cloneTree : List (Nat × Con) := [(145, c_g_Clone_ICmd)]
theorem l_i_cloneTree_ok : ∀ q ∈ l_i_cloneTree, ConOk Try.prog q.1 q.2 := Try.cons_cons c_g_Clone_ICmd_ok (Try.cons_nil)
abbrev k_i_cloneTree_3 : List Keep × List BK := ([.drop, .drop, .drop, .own uIBlock, .drop, .drop, .ro tSlLBlock, .ro tInt64, .ro tInt64, .drop, .drop, .drop, .drop, .drop, .drop, .drop, .drop, .drop, .drop, .drop, .drop, .drop], [])
def kp_i_cloneTree : KP := [(3, k_i_cloneTree_3)]
noncomputable def q_i_cloneTree (n : Nat) (x : Args [tSlIBlock]) := evX (true, false, [5, 12]) l_i_cloneTree kp_i_cloneTree [some uSlIBlock] Try.f163 (shF uSlIBlock) n (encA [tSlIBlock] x)
noncomputable def c_i_cloneTree : Con := roS [tSlIBlock] true (shF uSlIBlock) (q_i_cloneTree big)
theorem c_i_cloneTree_ok : ConOk Try.prog 163 c_i_cloneTree := roS_ok ⟨Try.f163, by kernel_rfl, rfl, by decide⟩ fun _ _ h => evX_ok l_i_cloneTree_ok (f := Try.f163) (by kernel_rfl) rfl (by kernel_rfl) (by kernel_rfl) big h
noncomputable def Q_i_cloneTree (n : Nat) (a0 : DSlIBlock) : Option DSlIBlock := q_i_cloneTree n (a0, ())
noncomputable def r_i_cloneTree_3 (n : Nat) (x : KD k_i_cloneTree_3.1) (y : BD k_i_cloneTree_3.2) := rounds (env (true, false, [5, 12]) l_i_cloneTree) kp_i_cloneTree (body Try.f163) (finX (true, false, [5, 12]) l_i_cloneTree [some uSlIBlock] Try.f163 (shF uSlIBlock) [.val tSlIBlock (zeroD tSlIBlock)]) n 3 k_i_cloneTree_3 x y
noncomputable def R_i_cloneTree_3 (n : Nat) (s3 : (List DIBlock)) (s6 : DSlLBlock) (s7 : Int) (s8 : Int) : Option DSlIBlock := r_i_cloneTree_3 n (s3, s6, s7, s8, ()) ()
theorem Q_i_cloneTree_eq (n : Nat) (a0 : DSlIBlock) : Q_i_cloneTree n a0 =
    R_i_cloneTree_3 n [] a0 (↑(List.length a0) : Int) (0 : Int) := by kernel_rfl
theorem R_i_cloneTree_3_eq (n : Nat) (s3 : (List DIBlock)) (s6 : DSlLBlock) (s7 : Int) (s8 : Int) : R_i_cloneTree_3 (n + 1) s3 s6 s7 s8 =
    bif decide (s8 < s7) then
 if (0 : Int) ≤ s8 then
 (nth s6 s8.toNat).bind fun y =>
 (Q_g_Clone_ICmd big y.snd.snd.fst).bind fun y_1 =>
 if s3.length + [(y.fst, y.snd.fst, y_1, y.snd.snd.snd)].length ≤ lim then
 R_i_cloneTree_3 n (s3.append [(y.fst, y.snd.fst, y_1, y.snd.snd.snd)]) s6 s7
 (IntKind.i64.wrap (s8 + (1 : Int)))
 else none
 else none
 else some s3 := by kernel_rfl

end Go.Sx.Try

set_option maxRecDepth 100000
namespace Go.Sx.Try
open Go Go.Sx Go.Proofs

noncomputable def l_i_cloneCluster : List (Nat × Con) := [(163, c_i_cloneTree), (156, c_g_Clone_ILetter), (155, c_g_Clone_IVote), (145, c_g_Clone_ICmd), (94, c_i_clonePeer)]
theorem l_i_cloneCluster_ok : ∀ q ∈ l_i_cloneCluster, ConOk Try.prog q.1 q.2 := Try.cons_cons c_i_cloneTree_ok (Try.cons_cons c_g_Clone_ILetter_ok (Try.cons_cons c_g_Clone_IVote_ok (Try.cons_cons c_g_Clone_ICmd_ok (Try.cons_cons c_i_clonePeer_ok (Try.cons_nil)))))
abbrev k_i_cloneCluster_4 : List Keep × List BK := ([.drop, .is (.ptr 0 0), .is (.ptr 1 0), .own uIPeer, .drop, .drop, .drop, .drop, .drop, .drop, .drop, .drop, .drop, .drop, .drop, .drop, .drop, .drop, .drop, .drop, .drop, .drop, .drop, .ro tSlLPeer, .ro tInt64, .ro tInt64, .drop, .drop, .drop, .drop, .drop, .drop, .drop, .drop, .drop, .drop, .drop, .drop], [.vars [.ro tInt64, .ro tBool, .ro tInt64, .own uXstruct_Parent_int_View_int_Cmds_laws_Cmd, .ro tSlLPeer, .own tXstruct_Kind_int_From_int_To_int_View_int, .own tXstruct_Phase_int_View_int_Block_int_Sign, .own tXstruct_Kind_int_Key_string_Num_int_], .vars [.ro tInt64, .ro tBool, .ro tInt64, .own uIBlock, .own uIPeer, .own tILetter, .own tIVote, .own tICmd]])
def kp_i_cloneCluster : KP := [(4, k_i_cloneCluster_4)]
noncomputable def q_i_cloneCluster (n : Nat) (x : Args [tICluster]) := evX (true, false, [1, 5, 6, 9, 12, 15, 22]) l_i_cloneCluster kp_i_cloneCluster [some uICluster] Try.f114 (shF uICluster) n (encA [tICluster] x)
noncomputable def c_i_cloneCluster : Con := roS [tICluster] true (shF uICluster) (q_i_cloneCluster big)
theorem c_i_cloneCluster_ok : ConOk Try.prog 114 c_i_cloneCluster := roS_ok ⟨Try.f114, by kernel_rfl, rfl, by decide⟩ fun _ _ h => evX_ok l_i_cloneCluster_ok (f := Try.f114) (by kernel_rfl) rfl (by kernel_rfl) (by kernel_rfl) big h
noncomputable def Q_i_cloneCluster (n : Nat) (a0 : DICluster) : Option DICluster := q_i_cloneCluster n (a0, ())
noncomputable def r_i_cloneCluster_4 (n : Nat) (x : KD k_i_cloneCluster_4.1) (y : BD k_i_cloneCluster_4.2) := rounds (env (true, false, [1, 5, 6, 9, 12, 15, 22]) l_i_cloneCluster) kp_i_cloneCluster (body Try.f114) (finX (true, false, [1, 5, 6, 9, 12, 15, 22]) l_i_cloneCluster [some uICluster] Try.f114 (shF uICluster) [.val tICluster (zeroD tICluster)]) n 4 k_i_cloneCluster_4 x y
noncomputable def R_i_cloneCluster_4 (n : Nat) (s3 : (List DIPeer)) (s23 : DSlLPeer) (s24 : Int) (s25 : Int) (b0_0 : Int) (b0_1 : Bool) (b0_2 : Int) (b0_3 : (List DXstruct_Parent_int_View_int_Cmds_laws_Cmd)) (b0_4 : DSlLPeer) (b0_5 : (List DXstruct_Kind_int_From_int_To_int_View_int)) (b0_6 : (List DXstruct_Phase_int_View_int_Block_int_Sign)) (b0_7 : (List DXstruct_Kind_int_Key_string_Num_int_)) (b1_0 : Int) (b1_1 : Bool) (b1_2 : Int) (b1_3 : (List DIBlock)) (b1_4 : (List DIPeer)) (b1_5 : (List DILetter)) (b1_6 : (List DIVote)) (b1_7 : (List DICmd)) : Option DICluster := r_i_cloneCluster_4 n (s3, s23, s24, s25, ()) ((b0_0, b0_1, b0_2, b0_3, b0_4, b0_5, b0_6, b0_7, ()), (b1_0, b1_1, b1_2, b1_3, b1_4, b1_5, b1_6, b1_7, ()), ())
theorem Q_i_cloneCluster_eq (n : Nat) (a0 : DICluster) : Q_i_cloneCluster n a0 =
    (Q_i_cloneTree big a0.snd.snd.snd.fst).bind fun y =>
 (Q_g_Clone_ILetter big a0.snd.snd.snd.snd.snd.fst).bind fun y_1 =>
 (Q_g_Clone_IVote big a0.snd.snd.snd.snd.snd.snd.fst).bind fun y_2 =>
 (Q_g_Clone_ICmd big a0.snd.snd.snd.snd.snd.snd.snd.fst).bind fun y_3 =>
 R_i_cloneCluster_4 n [] a0.snd.snd.snd.snd.fst (↑(List.length a0.snd.snd.snd.snd.fst) : Int) (0 : Int) a0.fst
 a0.snd.fst a0.snd.snd.fst y a0.snd.snd.snd.snd.fst y_1 y_2 y_3 (0 : Int) false (0 : Int) [] [] [] []
 [] := by kernel_rfl
theorem R_i_cloneCluster_4_eq (n : Nat) (s3 : (List DIPeer)) (s23 : DSlLPeer) (s24 : Int) (s25 : Int) (b0_0 : Int) (b0_1 : Bool) (b0_2 : Int) (b0_3 : (List DXstruct_Parent_int_View_int_Cmds_laws_Cmd)) (b0_4 : DSlLPeer) (b0_5 : (List DXstruct_Kind_int_From_int_To_int_View_int)) (b0_6 : (List DXstruct_Phase_int_View_int_Block_int_Sign)) (b0_7 : (List DXstruct_Kind_int_Key_string_Num_int_)) (b1_0 : Int) (b1_1 : Bool) (b1_2 : Int) (b1_3 : (List DIBlock)) (b1_4 : (List DIPeer)) (b1_5 : (List DILetter)) (b1_6 : (List DIVote)) (b1_7 : (List DICmd)) : R_i_cloneCluster_4 (n + 1) s3 s23 s24 s25 b0_0 b0_1 b0_2 b0_3 b0_4 b0_5 b0_6 b0_7 b1_0 b1_1 b1_2 b1_3 b1_4 b1_5 b1_6 b1_7 =
    bif decide (s25 < s24) then
 if (0 : Int) ≤ s25 then
 (nth s23 s25.toNat).bind fun y =>
 (Q_i_clonePeer big y).bind fun y_1 =>
 if s3.length + [y_1].length ≤ lim then
 R_i_cloneCluster_4 n (s3.append [y_1]) s23 s24 (IntKind.i64.wrap (s25 + (1 : Int))) b0_0 b0_1 b0_2 b0_3 b0_4
 b0_5 b0_6 b0_7 b1_0 b1_1 b1_2 b1_3 b1_4 b1_5 b1_6 b1_7
 else none
 else none
 else some (b0_0, b0_1, b0_2, b0_3, s3, b0_5, b0_6, b0_7, PUnit.unit) := by kernel_rfl

end Go.Sx.Try

set_option maxRecDepth 100000
namespace Go.Sx.Try
open Go Go.Sx Go.Proofs

noncomputable def l_s_l05Block : List (Nat × Con) := []
theorem l_s_l05Block_ok : ∀ q ∈ l_s_l05Block, ConOk Try.prog q.1 q.2 := Try.cons_nil
def kp_s_l05Block : KP := []
noncomputable def q_s_l05Block (n : Nat) (x : Args [tIBlock]) := evX (false, false, [1, 3, 6]) l_s_l05Block kp_s_l05Block [some uIBlock] Try.f174 (shF uIBlock) n (encA [tIBlock] x)
noncomputable def c_s_l05Block : Con := roS [tIBlock] true (shF uIBlock) (q_s_l05Block big)
theorem c_s_l05Block_ok : ConOk Try.prog 174 c_s_l05Block := roS_ok ⟨Try.f174, by kernel_rfl, rfl, by decide⟩ fun _ _ h => evX_ok l_s_l05Block_ok (f := Try.f174) (by kernel_rfl) rfl (by kernel_rfl) (by kernel_rfl) big h
noncomputable def Q_s_l05Block (n : Nat) (a0 : DIBlock) : Option DIBlock := q_s_l05Block n (a0, ())
theorem Q_s_l05Block_eq (n : Nat) (a0 : DIBlock) : Q_s_l05Block n a0 =
    if (0 : Nat) + List.length a0.snd.snd.fst ≤ lim then some a0 else none := by kernel_rfl

end Go.Sx.Try

set_option maxRecDepth 100000
namespace Go.Sx.Try
open Go Go.Sx Go.Proofs

noncomputable def l_s_l05Tree : List (Nat × Con) := [(174, c_s_l05Block)]
theorem l_s_l05Tree_ok : ∀ q ∈ l_s_l05Tree, ConOk Try.prog q.1 q.2 := Try.cons_cons c_s_l05Block_ok (Try.cons_nil)
abbrev k_s_l05Tree_3 : List Keep × List BK := ([.ro tSlLBlock, .drop, .drop, .own uXstruct_Parent_int_View_int_Cmds_laws_Cmd, .ro tInt64, .drop, .drop, .drop, .drop, .drop, .drop, .drop, .drop, .drop, .drop, .drop, .drop, .drop, .drop, .drop, .drop], [])
def kp_s_l05Tree : KP := [(3, k_s_l05Tree_3)]
noncomputable def q_s_l05Tree (n : Nat) (x : Args [tSlIBlock]) := evX (true, false, []) l_s_l05Tree kp_s_l05Tree [some uSlIBlock] Try.f161 (shF uSlIBlock) n (encA [tSlIBlock] x)
noncomputable def c_s_l05Tree : Con := roS [tSlIBlock] true (shF uSlIBlock) (q_s_l05Tree big)
theorem c_s_l05Tree_ok : ConOk Try.prog 161 c_s_l05Tree := roS_ok ⟨Try.f161, by kernel_rfl, rfl, by decide⟩ fun _ _ h => evX_ok l_s_l05Tree_ok (f := Try.f161) (by kernel_rfl) rfl (by kernel_rfl) (by kernel_rfl) big h
noncomputable def Q_s_l05Tree (n : Nat) (a0 : DSlIBlock) : Option DSlIBlock := q_s_l05Tree n (a0, ())
noncomputable def r_s_l05Tree_3 (n : Nat) (x : KD k_s_l05Tree_3.1) (y : BD k_s_l05Tree_3.2) := rounds (env (true, false, []) l_s_l05Tree) kp_s_l05Tree (body Try.f161) (finX (true, false, []) l_s_l05Tree [some uSlIBlock] Try.f161 (shF uSlIBlock) [.val tSlIBlock (zeroD tSlIBlock)]) n 3 k_s_l05Tree_3 x y
noncomputable def R_s_l05Tree_3 (n : Nat) (s0 : DSlLBlock) (s3 : (List DXstruct_Parent_int_View_int_Cmds_laws_Cmd)) (s4 : Int) : Option DSlIBlock := r_s_l05Tree_3 n (s0, s3, s4, ()) ()
theorem Q_s_l05Tree_eq (n : Nat) (a0 : DSlIBlock) : Q_s_l05Tree n a0 =
    R_s_l05Tree_3 n a0 [] (0 : Int) := by kernel_rfl
theorem R_s_l05Tree_3_eq (n : Nat) (s0 : DSlLBlock) (s3 : (List DXstruct_Parent_int_View_int_Cmds_laws_Cmd)) (s4 : Int) : R_s_l05Tree_3 (n + 1) s0 s3 s4 =
    bif decide (s4 < (↑(List.length s0) : Int)) then
 if (0 : Int) ≤ s4 then
 (nth s0 s4.toNat).bind fun y =>
 (Q_s_l05Block big y).bind fun y_1 =>
 if s3.length + [y_1].length ≤ lim then
 R_s_l05Tree_3 n s0 (s3.append [y_1]) (IntKind.i64.wrap (s4 + (1 : Int)))
 else none
 else none
 else some s3 := by kernel_rfl

end Go.Sx.Try

set_option maxRecDepth 100000
namespace Go.Sx.Try
open Go Go.Sx Go.Proofs

noncomputable def l_s_l15Copy : List (Nat × Con) := [(161, c_s_l05Tree), (88, c_s_l09Copy)]
theorem l_s_l15Copy_ok : ∀ q ∈ l_s_l15Copy, ConOk Try.prog q.1 q.2 := Try.cons_cons c_s_l05Tree_ok (Try.cons_cons c_s_l09Copy_ok (Try.cons_nil))
abbrev k_s_l15Copy_5 : List Keep × List BK := ([.drop, .is (.ptr 0 0), .is (.ptr 1 0), .is (.ptr 2 0), .ro tInt64, .drop, .drop, .drop, .drop, .drop, .drop, .drop, .drop, .drop, .drop, .drop, .drop, .drop, .drop, .drop, .drop, .drop, .drop, .drop, .drop, .drop, .drop, .drop, .drop, .drop, .drop, .drop, .drop, .drop, .drop, .drop, .drop, .drop, .drop, .drop, .drop, .drop, .drop, .drop, .drop, .drop], [.vars [.ro tInt64, .ro tBool, .ro tInt64, .ro tSlLBlock, .ro tSlLPeer, .ro tSlILetter, .ro tSlIVote, .ro tSlLCmd], .vars [.ro tInt64, .ro tBool, .ro tInt64, .own uIBlock, .own uIPeer, .own tILetter, .own tIVote, .own tICmd], .vars [.ro tInt64, .ro tBool, .ro tInt64, .own uXstruct_Parent_int_View_int_Cmds_laws_Cmd, .own uXstruct_Id_int_View_int_High_impl_Qc_Lock, .ro tSlILetter, .ro tSlIVote, .ro tSlLCmd]])
def kp_s_l15Copy : KP := [(5, k_s_l15Copy_5)]
noncomputable def q_s_l15Copy (n : Nat) (x : Args [tICluster]) := evX (true, false, [1, 3, 6, 13, 19, 21, 31, 36, 41]) l_s_l15Copy kp_s_l15Copy [some uICluster] Try.f112 (shF uICluster) n (encA [tICluster] x)
noncomputable def c_s_l15Copy : Con := roS [tICluster] true (shF uICluster) (q_s_l15Copy big)
theorem c_s_l15Copy_ok : ConOk Try.prog 112 c_s_l15Copy := roS_ok ⟨Try.f112, by kernel_rfl, rfl, by decide⟩ fun _ _ h => evX_ok l_s_l15Copy_ok (f := Try.f112) (by kernel_rfl) rfl (by kernel_rfl) (by kernel_rfl) big h
noncomputable def Q_s_l15Copy (n : Nat) (a0 : DICluster) : Option DICluster := q_s_l15Copy n (a0, ())
noncomputable def r_s_l15Copy_5 (n : Nat) (x : KD k_s_l15Copy_5.1) (y : BD k_s_l15Copy_5.2) := rounds (env (true, false, [1, 3, 6, 13, 19, 21, 31, 36, 41]) l_s_l15Copy) kp_s_l15Copy (body Try.f112) (finX (true, false, [1, 3, 6, 13, 19, 21, 31, 36, 41]) l_s_l15Copy [some uICluster] Try.f112 (shF uICluster) [.val tICluster (zeroD tICluster)]) n 5 k_s_l15Copy_5 x y
noncomputable def R_s_l15Copy_5 (n : Nat) (s4 : Int) (b0_0 : Int) (b0_1 : Bool) (b0_2 : Int) (b0_3 : DSlLBlock) (b0_4 : DSlLPeer) (b0_5 : DSlILetter) (b0_6 : DSlIVote) (b0_7 : DSlLCmd) (b1_0 : Int) (b1_1 : Bool) (b1_2 : Int) (b1_3 : (List DIBlock)) (b1_4 : (List DIPeer)) (b1_5 : (List DILetter)) (b1_6 : (List DIVote)) (b1_7 : (List DICmd)) (b2_0 : Int) (b2_1 : Bool) (b2_2 : Int) (b2_3 : (List DXstruct_Parent_int_View_int_Cmds_laws_Cmd)) (b2_4 : (List DXstruct_Id_int_View_int_High_impl_Qc_Lock)) (b2_5 : DSlILetter) (b2_6 : DSlIVote) (b2_7 : DSlLCmd) : Option DICluster := r_s_l15Copy_5 n (s4, ()) ((b0_0, b0_1, b0_2, b0_3, b0_4, b0_5, b0_6, b0_7, ()), (b1_0, b1_1, b1_2, b1_3, b1_4, b1_5, b1_6, b1_7, ()), (b2_0, b2_1, b2_2, b2_3, b2_4, b2_5, b2_6, b2_7, ()), ())
theorem Q_s_l15Copy_eq (n : Nat) (a0 : DICluster) : Q_s_l15Copy n a0 =
    (Q_s_l05Tree big a0.snd.snd.snd.fst).bind fun y =>
 R_s_l15Copy_5 n (0 : Int) a0.fst a0.snd.fst a0.snd.snd.fst a0.snd.snd.snd.fst a0.snd.snd.snd.snd.fst
 a0.snd.snd.snd.snd.snd.fst a0.snd.snd.snd.snd.snd.snd.fst a0.snd.snd.snd.snd.snd.snd.snd.fst (0 : Int) false
 (0 : Int) [] [] [] [] [] a0.fst a0.snd.fst a0.snd.snd.fst y [] a0.snd.snd.snd.snd.snd.fst
 a0.snd.snd.snd.snd.snd.snd.fst a0.snd.snd.snd.snd.snd.snd.snd.fst := by kernel_rfl
theorem R_s_l15Copy_5_eq (n : Nat) (s4 : Int) (b0_0 : Int) (b0_1 : Bool) (b0_2 : Int) (b0_3 : DSlLBlock) (b0_4 : DSlLPeer) (b0_5 : DSlILetter) (b0_6 : DSlIVote) (b0_7 : DSlLCmd) (b1_0 : Int) (b1_1 : Bool) (b1_2 : Int) (b1_3 : (List DIBlock)) (b1_4 : (List DIPeer)) (b1_5 : (List DILetter)) (b1_6 : (List DIVote)) (b1_7 : (List DICmd)) (b2_0 : Int) (b2_1 : Bool) (b2_2 : Int) (b2_3 : (List DXstruct_Parent_int_View_int_Cmds_laws_Cmd)) (b2_4 : (List DXstruct_Id_int_View_int_High_impl_Qc_Lock)) (b2_5 : DSlILetter) (b2_6 : DSlIVote) (b2_7 : DSlLCmd) : R_s_l15Copy_5 (n + 1) s4 b0_0 b0_1 b0_2 b0_3 b0_4 b0_5 b0_6 b0_7 b1_0 b1_1 b1_2 b1_3 b1_4 b1_5 b1_6 b1_7 b2_0 b2_1 b2_2 b2_3 b2_4 b2_5 b2_6 b2_7 =
    bif decide (s4 < (↑(List.length b0_4) : Int)) then
 if (0 : Int) ≤ s4 then
 (nth b0_4 s4.toNat).bind fun y =>
 (Q_s_l09Copy big y).bind fun y_1 =>
 if b2_4.length + [y_1].length ≤ lim then
 R_s_l15Copy_5 n (IntKind.i64.wrap (s4 + (1 : Int))) b0_0 b0_1 b0_2 b0_3 b0_4 b0_5 b0_6 b0_7 b1_0 b1_1 b1_2
 b1_3 b1_4 b1_5 b1_6 b1_7 b2_0 b2_1 b2_2 b2_3 (b2_4.append [y_1]) b2_5 b2_6 b2_7
 else none
 else none
 else
 if (0 : Nat) + List.length b0_5 ≤ lim then
 if (0 : Nat) + List.length b0_6 ≤ lim then
 if (0 : Nat) + List.length b0_7 ≤ lim then some (b2_0, b2_1, b2_2, b2_3, b2_4, b0_5, b0_6, b0_7, PUnit.unit)
 else none
 else none
 else none := by kernel_rfl

end Go.Sx.Try

set_option maxRecDepth 100000
namespace Go.Sx.Try
open Go Go.Sx Go.Proofs

noncomputable def l_i_in : List (Nat × Con) := []
theorem l_i_in_ok : ∀ q ∈ l_i_in, ConOk Try.prog q.1 q.2 := Try.cons_nil
def kp_i_in : KP := []
noncomputable def q_i_in (n : Nat) (x : Args [tInt, tInt, tInt]) := evX (false, false, []) l_i_in kp_i_in [none] Try.f98 (shV tBool) n (encA [tInt, tInt, tInt] x)
noncomputable def c_i_in : Con := roS [tInt, tInt, tInt] true (shV tBool) (q_i_in big)
theorem c_i_in_ok : ConOk Try.prog 98 c_i_in := roS_ok ⟨Try.f98, by kernel_rfl, rfl, by decide⟩ fun _ _ h => evX_ok l_i_in_ok (f := Try.f98) (by kernel_rfl) rfl (by kernel_rfl) (by kernel_rfl) big h
noncomputable def Q_i_in (n : Nat) (a0 : Int) (a1 : Int) (a2 : Int) : Option Bool := q_i_in n (a0, a1, a2, ())
theorem Q_i_in_eq (n : Nat) (a0 : Int) (a1 : Int) (a2 : Int) : Q_i_in n a0 a1 a2 =
    bif decide (a1 ≤ a0) then some (decide (a0 ≤ a2)) else some false := by kernel_rfl

end Go.Sx.Try

set_option maxRecDepth 100000
namespace Go.Sx.Try
open Go Go.Sx Go.Proofs

noncomputable def l_i_isLetter : List (Nat × Con) := [(98, c_i_in)]
theorem l_i_isLetter_ok : ∀ q ∈ l_i_isLetter, ConOk Try.prog q.1 q.2 := Try.cons_cons c_i_in_ok (Try.cons_nil)
def kp_i_isLetter : KP := []
noncomputable def q_i_isLetter (n : Nat) (x : Args [tICluster, tInt]) := evX (false, false, [2, 6]) l_i_isLetter kp_i_isLetter [none] Try.f122 (shV tBool) n (encA [tICluster, tInt] x)
noncomputable def c_i_isLetter : Con := roS [tICluster, tInt] true (shV tBool) (q_i_isLetter big)
theorem c_i_isLetter_ok : ConOk Try.prog 122 c_i_isLetter := roS_ok ⟨Try.f122, by kernel_rfl, rfl, by decide⟩ fun _ _ h => evX_ok l_i_isLetter_ok (f := Try.f122) (by kernel_rfl) rfl (by kernel_rfl) (by kernel_rfl) big h
noncomputable def Q_i_isLetter (n : Nat) (a0 : DICluster) (a1 : Int) : Option Bool := q_i_isLetter n (a0, a1, ())
theorem Q_i_isLetter_eq (n : Nat) (a0 : DICluster) (a1 : Int) : Q_i_isLetter n a0 a1 =
    (Q_i_in big a1 (0 : Int) (IntKind.i64.wrap ((↑(List.length a0.snd.snd.snd.snd.snd.fst) : Int) - (1 : Int)))).bind
 fun y => some y := by kernel_rfl

end Go.Sx.Try

set_option maxRecDepth 100000
namespace Go.Sx.Try
open Go Go.Sx Go.Proofs

noncomputable def l_g_Delete_ILetter : List (Nat × Con) := []
theorem l_g_Delete_ILetter_ok : ∀ q ∈ l_g_Delete_ILetter, ConOk Try.prog q.1 q.2 := Try.cons_nil
def kp_g_Delete_ILetter : KP := []
noncomputable def q_g_Delete_ILetter (n : Nat) (x : AP.denL [.gv tILetter, .ro tInt, .ro tInt]) := evX (false, false, [999998]) l_g_Delete_ILetter kp_g_Delete_ILetter [some uSlILetter] Try.f123 (shF uSlILetter) n (AP.encL [.gv tILetter, .ro tInt, .ro tInt] x)
noncomputable def c_g_Delete_ILetter : Con := apS [.gv tILetter, .ro tInt, .ro tInt] true (shF uSlILetter) (q_g_Delete_ILetter big)
theorem c_g_Delete_ILetter_ok : ConOk Try.prog 123 c_g_Delete_ILetter := apS_ok ⟨Try.f123, by kernel_rfl, rfl, by decide⟩ fun _ _ h => evX_ok l_g_Delete_ILetter_ok (f := Try.f123) (by kernel_rfl) rfl (by kernel_rfl) (by kernel_rfl) big h
noncomputable def Q_g_Delete_ILetter (n : Nat) (a0 : DSlILetter) (a1 : Int) (a2 : Int) : Option DSlILetter := q_g_Delete_ILetter n (a0, a1, a2, ())
theorem Q_g_Delete_ILetter_eq (n : Nat) (a0 : DSlILetter) (a1 : Int) (a2 : Int) : Q_g_Delete_ILetter n a0 a1 a2 =
    if (↑(List.length a0) : Int) ≤ (↑(List.length a0) : Int) then
 if (0 : Int) ≤ a2 then
 if a2 ≤ (↑(↑(List.length a0) : Int).toNat : Int) then
 if (0 : Int) ≤ a1 then
 if a1 ≤ a2 then
 bif decide (a1 = a2) then some a0
 else
 both
 (if (0 : Int) ≤ a1 then
 if a1 ≤ (↑(List.length a0) : Int) then
 if (0 : Int) ≤ a2 then
 if a2 ≤ (↑(List.length a0) : Int) then
 if
 a1.toNat - (0 : Nat) +
 (List.take (List.length a0 - a2.toNat) (List.drop a2.toNat a0)).length ≤
 List.length a0 then
 if
 (↑(List.length a0) : Int) ≤
 (↑((List.take (a1.toNat - (0 : Nat)) a0).append
 ((List.take (List.length a0 - a2.toNat) (List.drop a2.toNat a0)).append
 (List.drop
 (a1.toNat - (0 : Nat) +
 (List.take (List.length a0 - a2.toNat) (List.drop a2.toNat a0)).length)
 a0))).length :
 Int) then
 if
 (↑(a1.toNat - (0 : Nat) +
 (List.take (List.length a0 - a2.toNat) (List.drop a2.toNat a0)).length) :
 Int) ≤
 (↑(List.length a0) : Int) then
 if
 (↑(a1.toNat - (0 : Nat) +
 (List.take (List.length a0 - a2.toNat) (List.drop a2.toNat a0)).length) :
 Int).toNat +
 ((↑(List.length a0) : Int).toNat -
 (↑(a1.toNat - (0 : Nat) +
 (List.take (List.length a0 - a2.toNat)
 (List.drop a2.toNat a0)).length) :
 Int).toNat) ≤
 ((List.take (a1.toNat - (0 : Nat)) a0).append
 ((List.take (List.length a0 - a2.toNat) (List.drop a2.toNat a0)).append
 (List.drop
 (a1.toNat - (0 : Nat) +
 (List.take (List.length a0 - a2.toNat) (List.drop a2.toNat a0)).length)
 a0))).length then
 some
 (List.take
 (a1.toNat - (0 : Nat) +
 (List.take (List.length a0 - a2.toNat) (List.drop a2.toNat a0)).length)
 (List.drop (0 : Nat)
 ((List.take
 (↑(a1.toNat - (0 : Nat) +
 (List.take (List.length a0 - a2.toNat)
 (List.drop a2.toNat a0)).length) :
 Int).toNat
 ((List.take (a1.toNat - (0 : Nat)) a0).append
 ((List.take (List.length a0 - a2.toNat) (List.drop a2.toNat a0)).append
 (List.drop
 (a1.toNat - (0 : Nat) +
 (List.take (List.length a0 - a2.toNat)
 (List.drop a2.toNat a0)).length)
 a0)))).append
 ((List.replicate
 ((↑(List.length a0) : Int).toNat -
 (↑(a1.toNat - (0 : Nat) +
 (List.take (List.length a0 - a2.toNat)
 (List.drop a2.toNat a0)).length) :
 Int).toNat)
 (zeroD tILetter)).append
 (List.drop
 ((↑(a1.toNat - (0 : Nat) +
 (List.take (List.length a0 - a2.toNat)
 (List.drop a2.toNat a0)).length) :
 Int).toNat +
 ((↑(List.length a0) : Int).toNat -
 (↑(a1.toNat - (0 : Nat) +
 (List.take (List.length a0 - a2.toNat)
 (List.drop a2.toNat a0)).length) :
 Int).toNat))
 ((List.take (a1.toNat - (0 : Nat)) a0).append
 ((List.take (List.length a0 - a2.toNat) (List.drop a2.toNat a0)).append
 (List.drop
 (a1.toNat - (0 : Nat) +
 (List.take (List.length a0 - a2.toNat)
 (List.drop a2.toNat a0)).length)
 a0))))))))
 else none
 else none
 else none
 else none
 else none
 else none
 else none
 else none)
 (if (0 : Int) ≤ a2 then
 if a2 ≤ (↑(List.length a0) : Int) then
 if (0 : Int) ≤ a1 then
 if a1 ≤ (↑(List.length a0) : Int) then
 if
 a1.toNat - (0 : Nat) +
 (List.take (List.length a0 - a2.toNat) (List.drop a2.toNat a0)).length ≤
 List.length a0 then
 if
 (↑(List.length a0) : Int) ≤
 (↑((List.take (a1.toNat - (0 : Nat)) a0).append
 ((List.take (List.length a0 - a2.toNat) (List.drop a2.toNat a0)).append
 (List.drop
 (a1.toNat - (0 : Nat) +
 (List.take (List.length a0 - a2.toNat) (List.drop a2.toNat a0)).length)
 a0))).length :
 Int) then
 if
 (↑(a1.toNat - (0 : Nat) +
 (List.take (List.length a0 - a2.toNat) (List.drop a2.toNat a0)).length) :
 Int) ≤
 (↑(List.length a0) : Int) then
 if
 (↑(a1.toNat - (0 : Nat) +
 (List.take (List.length a0 - a2.toNat) (List.drop a2.toNat a0)).length) :
 Int).toNat +
 ((↑(List.length a0) : Int).toNat -
 (↑(a1.toNat - (0 : Nat) +
 (List.take (List.length a0 - a2.toNat)
 (List.drop a2.toNat a0)).length) :
 Int).toNat) ≤
 ((List.take (a1.toNat - (0 : Nat)) a0).append
 ((List.take (List.length a0 - a2.toNat) (List.drop a2.toNat a0)).append
 (List.drop
 (a1.toNat - (0 : Nat) +
 (List.take (List.length a0 - a2.toNat) (List.drop a2.toNat a0)).length)
 a0))).length then
 some
 (List.take
 (a1.toNat - (0 : Nat) +
 (List.take (List.length a0 - a2.toNat) (List.drop a2.toNat a0)).length)
 (List.drop (0 : Nat)
 ((List.take
 (↑(a1.toNat - (0 : Nat) +
 (List.take (List.length a0 - a2.toNat)
 (List.drop a2.toNat a0)).length) :
 Int).toNat
 ((List.take (a1.toNat - (0 : Nat)) a0).append
 ((List.take (List.length a0 - a2.toNat) (List.drop a2.toNat a0)).append
 (List.drop
 (a1.toNat - (0 : Nat) +
 (List.take (List.length a0 - a2.toNat)
 (List.drop a2.toNat a0)).length)
 a0)))).append
 ((List.replicate
 ((↑(List.length a0) : Int).toNat -
 (↑(a1.toNat - (0 : Nat) +
 (List.take (List.length a0 - a2.toNat)
 (List.drop a2.toNat a0)).length) :
 Int).toNat)
 (zeroD tILetter)).append
 (List.drop
 ((↑(a1.toNat - (0 : Nat) +
 (List.take (List.length a0 - a2.toNat)
 (List.drop a2.toNat a0)).length) :
 Int).toNat +
 ((↑(List.length a0) : Int).toNat -
 (↑(a1.toNat - (0 : Nat) +
 (List.take (List.length a0 - a2.toNat)
 (List.drop a2.toNat a0)).length) :
 Int).toNat))
 ((List.take (a1.toNat - (0 : Nat)) a0).append
 ((List.take (List.length a0 - a2.toNat) (List.drop a2.toNat a0)).append
 (List.drop
 (a1.toNat - (0 : Nat) +
 (List.take (List.length a0 - a2.toNat)
 (List.drop a2.toNat a0)).length)
 a0))))))))
 else none
 else none
 else none
 else none
 else none
 else none
 else none
 else none)
 else none
 else none
 else none
 else none
 else none := by kernel_rfl

end Go.Sx.Try

set_option maxRecDepth 100000
namespace Go.Sx.Try
open Go Go.Sx Go.Proofs

noncomputable def l_i_LoseAt : List (Nat × Con) := [(114, c_i_cloneCluster), (122, c_i_isLetter), (123, c_g_Delete_ILetter)]
theorem l_i_LoseAt_ok : ∀ q ∈ l_i_LoseAt, ConOk Try.prog q.1 q.2 := Try.cons_cons c_i_cloneCluster_ok (Try.cons_cons c_i_isLetter_ok (Try.cons_cons c_g_Delete_ILetter_ok (Try.cons_nil)))
def kp_i_LoseAt : KP := []
noncomputable def q_i_LoseAt (n : Nat) (x : Args [tICluster, tInt]) := evX (false, false, [2, 6, 14]) l_i_LoseAt kp_i_LoseAt [some uICluster, none] Try.f49 (shT [(true, uICluster), (false, tBool)]) n (encA [tICluster, tInt] x)
noncomputable def c_i_LoseAt : Con := roS [tICluster, tInt] true (shT [(true, uICluster), (false, tBool)]) (q_i_LoseAt big)
theorem c_i_LoseAt_ok : ConOk Try.prog 49 c_i_LoseAt := roS_ok ⟨Try.f49, by kernel_rfl, rfl, by decide⟩ fun _ _ h => evX_ok l_i_LoseAt_ok (f := Try.f49) (by kernel_rfl) rfl (by kernel_rfl) (by kernel_rfl) big h
noncomputable def Q_i_LoseAt (n : Nat) (a0 : DICluster) (a1 : Int) : Option (DICluster × Bool × Unit) := q_i_LoseAt n (a0, a1, ())
theorem Q_i_LoseAt_eq (n : Nat) (a0 : DICluster) (a1 : Int) : Q_i_LoseAt n a0 a1 =
    (Q_i_cloneCluster big a0).bind fun y =>
 (Q_i_isLetter big a0 a1).bind fun y_1 =>
 bif !y_1 then some (y, false, PUnit.unit)
 else
 (Q_g_Delete_ILetter big y.snd.snd.snd.snd.snd.fst a1 (IntKind.i64.wrap (a1 + (1 : Int)))).bind fun y_2 =>
 some
 ((y.fst, y.snd.fst, y.snd.snd.fst, y.snd.snd.snd.fst, y.snd.snd.snd.snd.fst, y_2,
 y.snd.snd.snd.snd.snd.snd),
 true, PUnit.unit) := by kernel_rfl

end Go.Sx.Try

set_option maxRecDepth 100000
namespace Go.Sx.Try
open Go Go.Sx Go.Proofs

noncomputable def l_s_l01In : List (Nat × Con) := []
theorem l_s_l01In_ok : ∀ q ∈ l_s_l01In, ConOk Try.prog q.1 q.2 := Try.cons_nil
def kp_s_l01In : KP := []
noncomputable def q_s_l01In (n : Nat) (x : Args [tInt, tInt, tInt]) := evX (false, false, []) l_s_l01In kp_s_l01In [none] Try.f95 (shV tBool) n (encA [tInt, tInt, tInt] x)
noncomputable def c_s_l01In : Con := roS [tInt, tInt, tInt] true (shV tBool) (q_s_l01In big)
theorem c_s_l01In_ok : ConOk Try.prog 95 c_s_l01In := roS_ok ⟨Try.f95, by kernel_rfl, rfl, by decide⟩ fun _ _ h => evX_ok l_s_l01In_ok (f := Try.f95) (by kernel_rfl) rfl (by kernel_rfl) (by kernel_rfl) big h
noncomputable def Q_s_l01In (n : Nat) (a0 : Int) (a1 : Int) (a2 : Int) : Option Bool := q_s_l01In n (a0, a1, a2, ())
theorem Q_s_l01In_eq (n : Nat) (a0 : Int) (a1 : Int) (a2 : Int) : Q_s_l01In n a0 a1 a2 =
    bif decide (a1 ≤ a0) then some (decide (a0 ≤ a2)) else some false := by kernel_rfl

end Go.Sx.Try
