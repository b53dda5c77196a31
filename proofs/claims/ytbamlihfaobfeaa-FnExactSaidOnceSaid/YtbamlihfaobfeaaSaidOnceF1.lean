/- The functions of the seat: what each comes to. -/
import Derived.Test.YtbamlihfaobfeaaTypes
set_option linter.unusedVariables false
set_option linter.unusedSimpArgs false
set_option maxRecDepth 100000
namespace Go.Sx.Try
open Go Go.Sx Go.Proofs

noncomputable def l_l_szCmd : List (Nat × Con) := []
theorem l_l_szCmd_ok : ∀ q ∈ l_l_szCmd, ConOk Try.prog q.1 q.2 := Try.cons_nil
def kp_l_szCmd : KP := []
noncomputable def q_l_szCmd (n : Nat) (x : Args [tLCmd, tInt]) := evX (false, false, [2, 6]) l_l_szCmd kp_l_szCmd [none] Try.f36 (shV tInt) n (encA [tLCmd, tInt] x)
noncomputable def c_l_szCmd : Con := roS [tLCmd, tInt] true (shV tInt) (q_l_szCmd big)
theorem c_l_szCmd_ok : ConOk Try.prog 36 c_l_szCmd := roS_ok ⟨Try.f36, by kernel_rfl, rfl, by decide⟩ fun _ _ h => evX_ok l_l_szCmd_ok (f := Try.f36) (by kernel_rfl) rfl (by kernel_rfl) (by kernel_rfl) big h
noncomputable def Q_l_szCmd (n : Nat) (a0 : DLCmd) (a1 : Int) : Option Int := q_l_szCmd n (a0, a1, ())
theorem Q_l_szCmd_eq (n : Nat) (a0 : DLCmd) (a1 : Int) : Q_l_szCmd n a0 a1 =
    bif decide (IntKind.i64.wrap (a1 - (↑(ByteArray.size a0.snd.fst) : Int)) < (0 : Int)) then some (-1 : Int)
 else some (IntKind.i64.wrap (a1 - (↑(ByteArray.size a0.snd.fst) : Int))) := by kernel_rfl

end Go.Sx.Try

set_option maxRecDepth 100000
namespace Go.Sx.Try
open Go Go.Sx Go.Proofs

noncomputable def l_l_szCmdS : List (Nat × Con) := [(36, c_l_szCmd)]
theorem l_l_szCmdS_ok : ∀ q ∈ l_l_szCmdS, ConOk Try.prog q.1 q.2 := Try.cons_cons c_l_szCmd_ok (Try.cons_nil)
abbrev k_l_szCmdS_5 : List Keep × List BK := ([.ro tSlLCmd, .ro tInt64, .drop, .drop, .drop, .ro tInt64, .drop, .drop, .drop, .drop, .drop, .drop, .drop, .drop, .drop, .drop, .drop, .drop, .drop, .drop, .drop, .drop, .drop, .drop, .drop, .drop, .drop], [])
def kp_l_szCmdS : KP := [(5, k_l_szCmdS_5)]
noncomputable def q_l_szCmdS (n : Nat) (x : Args [tSlLCmd, tInt]) := evX (false, false, []) l_l_szCmdS kp_l_szCmdS [none] Try.f68 (shV tInt) n (encA [tSlLCmd, tInt] x)
noncomputable def c_l_szCmdS : Con := roS [tSlLCmd, tInt] true (shV tInt) (q_l_szCmdS big)
theorem c_l_szCmdS_ok : ConOk Try.prog 68 c_l_szCmdS := roS_ok ⟨Try.f68, by kernel_rfl, rfl, by decide⟩ fun _ _ h => evX_ok l_l_szCmdS_ok (f := Try.f68) (by kernel_rfl) rfl (by kernel_rfl) (by kernel_rfl) big h
noncomputable def Q_l_szCmdS (n : Nat) (a0 : DSlLCmd) (a1 : Int) : Option Int := q_l_szCmdS n (a0, a1, ())
noncomputable def r_l_szCmdS_5 (n : Nat) (x : KD k_l_szCmdS_5.1) (y : BD k_l_szCmdS_5.2) := rounds (env (false, false, []) l_l_szCmdS) kp_l_szCmdS (body Try.f68) (finX (false, false, []) l_l_szCmdS [none] Try.f68 (shV tInt) [.val tSlLCmd (zeroD tSlLCmd), .val tInt (zeroD tInt)]) n 5 k_l_szCmdS_5 x y
noncomputable def R_l_szCmdS_5 (n : Nat) (s0 : DSlLCmd) (s1 : Int) (s5 : Int) : Option Int := r_l_szCmdS_5 n (s0, s1, s5, ()) ()
theorem Q_l_szCmdS_eq (n : Nat) (a0 : DSlLCmd) (a1 : Int) : Q_l_szCmdS n a0 a1 =
    bif decide (IntKind.i64.wrap (a1 - (↑(List.length a0) : Int)) < (0 : Int)) then some (-1 : Int)
 else R_l_szCmdS_5 n a0 (IntKind.i64.wrap (a1 - (↑(List.length a0) : Int))) (0 : Int) := by kernel_rfl
theorem R_l_szCmdS_5_eq (n : Nat) (s0 : DSlLCmd) (s1 : Int) (s5 : Int) : R_l_szCmdS_5 (n + 1) s0 s1 s5 =
    bif decide (s5 < (↑(List.length s0) : Int)) then
 if (0 : Int) ≤ s5 then
 (nth s0 s5.toNat).bind fun y =>
 (Q_l_szCmd big y s1).bind fun y =>
 bif decide (y < (0 : Int)) then some (-1 : Int) else R_l_szCmdS_5 n s0 y (IntKind.i64.wrap (s5 + (1 : Int)))
 else none
 else some s1 := by kernel_rfl

end Go.Sx.Try

set_option maxRecDepth 100000
namespace Go.Sx.Try
open Go Go.Sx Go.Proofs

noncomputable def l_l_szBlock : List (Nat × Con) := [(68, c_l_szCmdS)]
theorem l_l_szBlock_ok : ∀ q ∈ l_l_szBlock, ConOk Try.prog q.1 q.2 := Try.cons_cons c_l_szCmdS_ok (Try.cons_nil)
def kp_l_szBlock : KP := []
noncomputable def q_l_szBlock (n : Nat) (x : Args [tLBlock, tInt]) := evX (false, false, [2, 5]) l_l_szBlock kp_l_szBlock [none] Try.f133 (shV tInt) n (encA [tLBlock, tInt] x)
noncomputable def c_l_szBlock : Con := roS [tLBlock, tInt] true (shV tInt) (q_l_szBlock big)
theorem c_l_szBlock_ok : ConOk Try.prog 133 c_l_szBlock := roS_ok ⟨Try.f133, by kernel_rfl, rfl, by decide⟩ fun _ _ h => evX_ok l_l_szBlock_ok (f := Try.f133) (by kernel_rfl) rfl (by kernel_rfl) (by kernel_rfl) big h
noncomputable def Q_l_szBlock (n : Nat) (a0 : DLBlock) (a1 : Int) : Option Int := q_l_szBlock n (a0, a1, ())
theorem Q_l_szBlock_eq (n : Nat) (a0 : DLBlock) (a1 : Int) : Q_l_szBlock n a0 a1 =
    (Q_l_szCmdS big a0.snd.snd.fst a1).bind fun y => bif decide (y < (0 : Int)) then some (-1 : Int) else some y := by kernel_rfl

end Go.Sx.Try

set_option maxRecDepth 100000
namespace Go.Sx.Try
open Go Go.Sx Go.Proofs

noncomputable def l_l_szBlockS : List (Nat × Con) := [(133, c_l_szBlock)]
theorem l_l_szBlockS_ok : ∀ q ∈ l_l_szBlockS, ConOk Try.prog q.1 q.2 := Try.cons_cons c_l_szBlock_ok (Try.cons_nil)
abbrev k_l_szBlockS_5 : List Keep × List BK := ([.ro tSlLBlock, .ro tInt64, .drop, .drop, .drop, .ro tInt64, .drop, .drop, .drop, .drop, .drop, .drop, .drop, .drop, .drop, .drop, .drop, .drop, .drop, .drop, .drop, .drop, .drop, .drop, .drop, .drop, .drop], [])
def kp_l_szBlockS : KP := [(5, k_l_szBlockS_5)]
noncomputable def q_l_szBlockS (n : Nat) (x : Args [tSlLBlock, tInt]) := evX (false, false, []) l_l_szBlockS kp_l_szBlockS [none] Try.f56 (shV tInt) n (encA [tSlLBlock, tInt] x)
noncomputable def c_l_szBlockS : Con := roS [tSlLBlock, tInt] true (shV tInt) (q_l_szBlockS big)
theorem c_l_szBlockS_ok : ConOk Try.prog 56 c_l_szBlockS := roS_ok ⟨Try.f56, by kernel_rfl, rfl, by decide⟩ fun _ _ h => evX_ok l_l_szBlockS_ok (f := Try.f56) (by kernel_rfl) rfl (by kernel_rfl) (by kernel_rfl) big h
noncomputable def Q_l_szBlockS (n : Nat) (a0 : DSlLBlock) (a1 : Int) : Option Int := q_l_szBlockS n (a0, a1, ())
noncomputable def r_l_szBlockS_5 (n : Nat) (x : KD k_l_szBlockS_5.1) (y : BD k_l_szBlockS_5.2) := rounds (env (false, false, []) l_l_szBlockS) kp_l_szBlockS (body Try.f56) (finX (false, false, []) l_l_szBlockS [none] Try.f56 (shV tInt) [.val tSlLBlock (zeroD tSlLBlock), .val tInt (zeroD tInt)]) n 5 k_l_szBlockS_5 x y
noncomputable def R_l_szBlockS_5 (n : Nat) (s0 : DSlLBlock) (s1 : Int) (s5 : Int) : Option Int := r_l_szBlockS_5 n (s0, s1, s5, ()) ()
theorem Q_l_szBlockS_eq (n : Nat) (a0 : DSlLBlock) (a1 : Int) : Q_l_szBlockS n a0 a1 =
    bif decide (IntKind.i64.wrap (a1 - (↑(List.length a0) : Int)) < (0 : Int)) then some (-1 : Int)
 else R_l_szBlockS_5 n a0 (IntKind.i64.wrap (a1 - (↑(List.length a0) : Int))) (0 : Int) := by kernel_rfl
theorem R_l_szBlockS_5_eq (n : Nat) (s0 : DSlLBlock) (s1 : Int) (s5 : Int) : R_l_szBlockS_5 (n + 1) s0 s1 s5 =
    bif decide (s5 < (↑(List.length s0) : Int)) then
 if (0 : Int) ≤ s5 then
 (nth s0 s5.toNat).bind fun y =>
 (Q_l_szBlock big y s1).bind fun y =>
 bif decide (y < (0 : Int)) then some (-1 : Int) else R_l_szBlockS_5 n s0 y (IntKind.i64.wrap (s5 + (1 : Int)))
 else none
 else some s1 := by kernel_rfl

end Go.Sx.Try

set_option maxRecDepth 100000
namespace Go.Sx.Try
open Go Go.Sx Go.Proofs

noncomputable def l_l_szIntS : List (Nat × Con) := []
theorem l_l_szIntS_ok : ∀ q ∈ l_l_szIntS, ConOk Try.prog q.1 q.2 := Try.cons_nil
def kp_l_szIntS : KP := []
noncomputable def q_l_szIntS (n : Nat) (x : Args [tSlInt, tInt]) := evX (false, false, []) l_l_szIntS kp_l_szIntS [none] Try.f84 (shV tInt) n (encA [tSlInt, tInt] x)
noncomputable def c_l_szIntS : Con := roS [tSlInt, tInt] true (shV tInt) (q_l_szIntS big)
theorem c_l_szIntS_ok : ConOk Try.prog 84 c_l_szIntS := roS_ok ⟨Try.f84, by kernel_rfl, rfl, by decide⟩ fun _ _ h => evX_ok l_l_szIntS_ok (f := Try.f84) (by kernel_rfl) rfl (by kernel_rfl) (by kernel_rfl) big h
noncomputable def Q_l_szIntS (n : Nat) (a0 : DSlInt) (a1 : Int) : Option Int := q_l_szIntS n (a0, a1, ())
theorem Q_l_szIntS_eq (n : Nat) (a0 : DSlInt) (a1 : Int) : Q_l_szIntS n a0 a1 =
    bif decide (IntKind.i64.wrap (a1 - (↑(List.length a0) : Int)) < (0 : Int)) then some (-1 : Int)
 else some (IntKind.i64.wrap (a1 - (↑(List.length a0) : Int))) := by kernel_rfl

end Go.Sx.Try

set_option maxRecDepth 100000
namespace Go.Sx.Try
open Go Go.Sx Go.Proofs

noncomputable def l_l_szCell : List (Nat × Con) := []
theorem l_l_szCell_ok : ∀ q ∈ l_l_szCell, ConOk Try.prog q.1 q.2 := Try.cons_nil
def kp_l_szCell : KP := []
noncomputable def q_l_szCell (n : Nat) (x : Args [tLCell, tInt]) := evX (false, false, [2, 6]) l_l_szCell kp_l_szCell [none] Try.f148 (shV tInt) n (encA [tLCell, tInt] x)
noncomputable def c_l_szCell : Con := roS [tLCell, tInt] true (shV tInt) (q_l_szCell big)
theorem c_l_szCell_ok : ConOk Try.prog 148 c_l_szCell := roS_ok ⟨Try.f148, by kernel_rfl, rfl, by decide⟩ fun _ _ h => evX_ok l_l_szCell_ok (f := Try.f148) (by kernel_rfl) rfl (by kernel_rfl) (by kernel_rfl) big h
noncomputable def Q_l_szCell (n : Nat) (a0 : DLCell) (a1 : Int) : Option Int := q_l_szCell n (a0, a1, ())
theorem Q_l_szCell_eq (n : Nat) (a0 : DLCell) (a1 : Int) : Q_l_szCell n a0 a1 =
    bif decide (IntKind.i64.wrap (a1 - (↑(ByteArray.size a0.fst) : Int)) < (0 : Int)) then some (-1 : Int)
 else some (IntKind.i64.wrap (a1 - (↑(ByteArray.size a0.fst) : Int))) := by kernel_rfl

end Go.Sx.Try

set_option maxRecDepth 100000
namespace Go.Sx.Try
open Go Go.Sx Go.Proofs

noncomputable def l_l_szCellS : List (Nat × Con) := [(148, c_l_szCell)]
theorem l_l_szCellS_ok : ∀ q ∈ l_l_szCellS, ConOk Try.prog q.1 q.2 := Try.cons_cons c_l_szCell_ok (Try.cons_nil)
abbrev k_l_szCellS_5 : List Keep × List BK := ([.ro tSlICell, .ro tInt64, .drop, .drop, .drop, .ro tInt64, .drop, .drop, .drop, .drop, .drop, .drop, .drop, .drop, .drop, .drop, .drop, .drop, .drop, .drop, .drop, .drop, .drop, .drop, .drop, .drop, .drop], [])
def kp_l_szCellS : KP := [(5, k_l_szCellS_5)]
noncomputable def q_l_szCellS (n : Nat) (x : Args [tSlLCell, tInt]) := evX (false, false, []) l_l_szCellS kp_l_szCellS [none] Try.f85 (shV tInt) n (encA [tSlLCell, tInt] x)
noncomputable def c_l_szCellS : Con := roS [tSlLCell, tInt] true (shV tInt) (q_l_szCellS big)
theorem c_l_szCellS_ok : ConOk Try.prog 85 c_l_szCellS := roS_ok ⟨Try.f85, by kernel_rfl, rfl, by decide⟩ fun _ _ h => evX_ok l_l_szCellS_ok (f := Try.f85) (by kernel_rfl) rfl (by kernel_rfl) (by kernel_rfl) big h
noncomputable def Q_l_szCellS (n : Nat) (a0 : DSlLCell) (a1 : Int) : Option Int := q_l_szCellS n (a0, a1, ())
noncomputable def r_l_szCellS_5 (n : Nat) (x : KD k_l_szCellS_5.1) (y : BD k_l_szCellS_5.2) := rounds (env (false, false, []) l_l_szCellS) kp_l_szCellS (body Try.f85) (finX (false, false, []) l_l_szCellS [none] Try.f85 (shV tInt) [.val tSlLCell (zeroD tSlLCell), .val tInt (zeroD tInt)]) n 5 k_l_szCellS_5 x y
noncomputable def R_l_szCellS_5 (n : Nat) (s0 : DSlICell) (s1 : Int) (s5 : Int) : Option Int := r_l_szCellS_5 n (s0, s1, s5, ()) ()
theorem Q_l_szCellS_eq (n : Nat) (a0 : DSlLCell) (a1 : Int) : Q_l_szCellS n a0 a1 =
    bif decide (IntKind.i64.wrap (a1 - (↑(List.length a0) : Int)) < (0 : Int)) then some (-1 : Int)
 else R_l_szCellS_5 n a0 (IntKind.i64.wrap (a1 - (↑(List.length a0) : Int))) (0 : Int) := by kernel_rfl
theorem R_l_szCellS_5_eq (n : Nat) (s0 : DSlICell) (s1 : Int) (s5 : Int) : R_l_szCellS_5 (n + 1) s0 s1 s5 =
    bif decide (s5 < (↑(List.length s0) : Int)) then
 if (0 : Int) ≤ s5 then
 (nth s0 s5.toNat).bind fun y =>
 (Q_l_szCell big y s1).bind fun y =>
 bif decide (y < (0 : Int)) then some (-1 : Int) else R_l_szCellS_5 n s0 y (IntKind.i64.wrap (s5 + (1 : Int)))
 else none
 else some s1 := by kernel_rfl

end Go.Sx.Try

set_option maxRecDepth 100000
namespace Go.Sx.Try
open Go Go.Sx Go.Proofs

noncomputable def l_l_szUndo : List (Nat × Con) := []
theorem l_l_szUndo_ok : ∀ q ∈ l_l_szUndo, ConOk Try.prog q.1 q.2 := Try.cons_nil
def kp_l_szUndo : KP := []
noncomputable def q_l_szUndo (n : Nat) (x : Args [tLUndo, tInt]) := evX (false, false, [2, 6]) l_l_szUndo kp_l_szUndo [none] Try.f149 (shV tInt) n (encA [tLUndo, tInt] x)
noncomputable def c_l_szUndo : Con := roS [tLUndo, tInt] true (shV tInt) (q_l_szUndo big)
theorem c_l_szUndo_ok : ConOk Try.prog 149 c_l_szUndo := roS_ok ⟨Try.f149, by kernel_rfl, rfl, by decide⟩ fun _ _ h => evX_ok l_l_szUndo_ok (f := Try.f149) (by kernel_rfl) rfl (by kernel_rfl) (by kernel_rfl) big h
noncomputable def Q_l_szUndo (n : Nat) (a0 : DLUndo) (a1 : Int) : Option Int := q_l_szUndo n (a0, a1, ())
theorem Q_l_szUndo_eq (n : Nat) (a0 : DLUndo) (a1 : Int) : Q_l_szUndo n a0 a1 =
    bif decide (IntKind.i64.wrap (a1 - (↑(ByteArray.size a0.fst) : Int)) < (0 : Int)) then some (-1 : Int)
 else some (IntKind.i64.wrap (a1 - (↑(ByteArray.size a0.fst) : Int))) := by kernel_rfl

end Go.Sx.Try

set_option maxRecDepth 100000
namespace Go.Sx.Try
open Go Go.Sx Go.Proofs

noncomputable def l_l_szUndoS : List (Nat × Con) := [(149, c_l_szUndo)]
theorem l_l_szUndoS_ok : ∀ q ∈ l_l_szUndoS, ConOk Try.prog q.1 q.2 := Try.cons_cons c_l_szUndo_ok (Try.cons_nil)
abbrev k_l_szUndoS_5 : List Keep × List BK := ([.ro tSlIUndo, .ro tInt64, .drop, .drop, .drop, .ro tInt64, .drop, .drop, .drop, .drop, .drop, .drop, .drop, .drop, .drop, .drop, .drop, .drop, .drop, .drop, .drop, .drop, .drop, .drop, .drop, .drop, .drop], [])
def kp_l_szUndoS : KP := [(5, k_l_szUndoS_5)]
noncomputable def q_l_szUndoS (n : Nat) (x : Args [tSlLUndo, tInt]) := evX (false, false, []) l_l_szUndoS kp_l_szUndoS [none] Try.f86 (shV tInt) n (encA [tSlLUndo, tInt] x)
noncomputable def c_l_szUndoS : Con := roS [tSlLUndo, tInt] true (shV tInt) (q_l_szUndoS big)
theorem c_l_szUndoS_ok : ConOk Try.prog 86 c_l_szUndoS := roS_ok ⟨Try.f86, by kernel_rfl, rfl, by decide⟩ fun _ _ h => evX_ok l_l_szUndoS_ok (f := Try.f86) (by kernel_rfl) rfl (by kernel_rfl) (by kernel_rfl) big h
noncomputable def Q_l_szUndoS (n : Nat) (a0 : DSlLUndo) (a1 : Int) : Option Int := q_l_szUndoS n (a0, a1, ())
noncomputable def r_l_szUndoS_5 (n : Nat) (x : KD k_l_szUndoS_5.1) (y : BD k_l_szUndoS_5.2) := rounds (env (false, false, []) l_l_szUndoS) kp_l_szUndoS (body Try.f86) (finX (false, false, []) l_l_szUndoS [none] Try.f86 (shV tInt) [.val tSlLUndo (zeroD tSlLUndo), .val tInt (zeroD tInt)]) n 5 k_l_szUndoS_5 x y
noncomputable def R_l_szUndoS_5 (n : Nat) (s0 : DSlIUndo) (s1 : Int) (s5 : Int) : Option Int := r_l_szUndoS_5 n (s0, s1, s5, ()) ()
theorem Q_l_szUndoS_eq (n : Nat) (a0 : DSlLUndo) (a1 : Int) : Q_l_szUndoS n a0 a1 =
    bif decide (IntKind.i64.wrap (a1 - (↑(List.length a0) : Int)) < (0 : Int)) then some (-1 : Int)
 else R_l_szUndoS_5 n a0 (IntKind.i64.wrap (a1 - (↑(List.length a0) : Int))) (0 : Int) := by kernel_rfl
theorem R_l_szUndoS_5_eq (n : Nat) (s0 : DSlIUndo) (s1 : Int) (s5 : Int) : R_l_szUndoS_5 (n + 1) s0 s1 s5 =
    bif decide (s5 < (↑(List.length s0) : Int)) then
 if (0 : Int) ≤ s5 then
 (nth s0 s5.toNat).bind fun y =>
 (Q_l_szUndo big y s1).bind fun y =>
 bif decide (y < (0 : Int)) then some (-1 : Int) else R_l_szUndoS_5 n s0 y (IntKind.i64.wrap (s5 + (1 : Int)))
 else none
 else some s1 := by kernel_rfl

end Go.Sx.Try

set_option maxRecDepth 100000
namespace Go.Sx.Try
open Go Go.Sx Go.Proofs

noncomputable def l_l_szVoteS : List (Nat × Con) := []
theorem l_l_szVoteS_ok : ∀ q ∈ l_l_szVoteS, ConOk Try.prog q.1 q.2 := Try.cons_nil
def kp_l_szVoteS : KP := []
noncomputable def q_l_szVoteS (n : Nat) (x : Args [tSlLVote, tInt]) := evX (false, false, []) l_l_szVoteS kp_l_szVoteS [none] Try.f87 (shV tInt) n (encA [tSlLVote, tInt] x)
noncomputable def c_l_szVoteS : Con := roS [tSlLVote, tInt] true (shV tInt) (q_l_szVoteS big)
theorem c_l_szVoteS_ok : ConOk Try.prog 87 c_l_szVoteS := roS_ok ⟨Try.f87, by kernel_rfl, rfl, by decide⟩ fun _ _ h => evX_ok l_l_szVoteS_ok (f := Try.f87) (by kernel_rfl) rfl (by kernel_rfl) (by kernel_rfl) big h
noncomputable def Q_l_szVoteS (n : Nat) (a0 : DSlLVote) (a1 : Int) : Option Int := q_l_szVoteS n (a0, a1, ())
theorem Q_l_szVoteS_eq (n : Nat) (a0 : DSlLVote) (a1 : Int) : Q_l_szVoteS n a0 a1 =
    bif decide (IntKind.i64.wrap (a1 - (↑(List.length a0) : Int)) < (0 : Int)) then some (-1 : Int)
 else some (IntKind.i64.wrap (a1 - (↑(List.length a0) : Int))) := by kernel_rfl

end Go.Sx.Try

set_option maxRecDepth 100000
namespace Go.Sx.Try
open Go Go.Sx Go.Proofs

noncomputable def l_l_szLetterS : List (Nat × Con) := []
theorem l_l_szLetterS_ok : ∀ q ∈ l_l_szLetterS, ConOk Try.prog q.1 q.2 := Try.cons_nil
def kp_l_szLetterS : KP := []
noncomputable def q_l_szLetterS (n : Nat) (x : Args [tSlLLetter, tInt]) := evX (false, false, []) l_l_szLetterS kp_l_szLetterS [none] Try.f42 (shV tInt) n (encA [tSlLLetter, tInt] x)
noncomputable def c_l_szLetterS : Con := roS [tSlLLetter, tInt] true (shV tInt) (q_l_szLetterS big)
theorem c_l_szLetterS_ok : ConOk Try.prog 42 c_l_szLetterS := roS_ok ⟨Try.f42, by kernel_rfl, rfl, by decide⟩ fun _ _ h => evX_ok l_l_szLetterS_ok (f := Try.f42) (by kernel_rfl) rfl (by kernel_rfl) (by kernel_rfl) big h
noncomputable def Q_l_szLetterS (n : Nat) (a0 : DSlLLetter) (a1 : Int) : Option Int := q_l_szLetterS n (a0, a1, ())
theorem Q_l_szLetterS_eq (n : Nat) (a0 : DSlLLetter) (a1 : Int) : Q_l_szLetterS n a0 a1 =
    bif decide (IntKind.i64.wrap (a1 - (↑(List.length a0) : Int)) < (0 : Int)) then some (-1 : Int)
 else some (IntKind.i64.wrap (a1 - (↑(List.length a0) : Int))) := by kernel_rfl

end Go.Sx.Try

set_option maxRecDepth 100000
namespace Go.Sx.Try
open Go Go.Sx Go.Proofs

noncomputable def l_l_szPeer : List (Nat × Con) := [(84, c_l_szIntS), (85, c_l_szCellS), (86, c_l_szUndoS), (87, c_l_szVoteS), (42, c_l_szLetterS)]
theorem l_l_szPeer_ok : ∀ q ∈ l_l_szPeer, ConOk Try.prog q.1 q.2 := Try.cons_cons c_l_szIntS_ok (Try.cons_cons c_l_szCellS_ok (Try.cons_cons c_l_szUndoS_ok (Try.cons_cons c_l_szVoteS_ok (Try.cons_cons c_l_szLetterS_ok (Try.cons_nil)))))
def kp_l_szPeer : KP := []
noncomputable def q_l_szPeer (n : Nat) (x : Args [tLPeer, tInt]) := evX (false, false, [2, 5, 11, 17, 23, 29, 35]) l_l_szPeer kp_l_szPeer [none] Try.f21 (shV tInt) n (encA [tLPeer, tInt] x)
noncomputable def c_l_szPeer : Con := roS [tLPeer, tInt] true (shV tInt) (q_l_szPeer big)
theorem c_l_szPeer_ok : ConOk Try.prog 21 c_l_szPeer := roS_ok ⟨Try.f21, by kernel_rfl, rfl, by decide⟩ fun _ _ h => evX_ok l_l_szPeer_ok (f := Try.f21) (by kernel_rfl) rfl (by kernel_rfl) (by kernel_rfl) big h
noncomputable def Q_l_szPeer (n : Nat) (a0 : DLPeer) (a1 : Int) : Option Int := q_l_szPeer n (a0, a1, ())
theorem Q_l_szPeer_eq (n : Nat) (a0 : DLPeer) (a1 : Int) : Q_l_szPeer n a0 a1 =
    (Q_l_szIntS big a0.snd.snd.snd.snd.snd.fst a1).bind fun y =>
 bif decide (y < (0 : Int)) then some (-1 : Int)
 else
 (Q_l_szCellS big a0.snd.snd.snd.snd.snd.snd.fst y).bind fun y =>
 bif decide (y < (0 : Int)) then some (-1 : Int)
 else
 (Q_l_szIntS big a0.snd.snd.snd.snd.snd.snd.snd.fst y).bind fun y =>
 bif decide (y < (0 : Int)) then some (-1 : Int)
 else
 (Q_l_szUndoS big a0.snd.snd.snd.snd.snd.snd.snd.snd.fst y).bind fun y =>
 bif decide (y < (0 : Int)) then some (-1 : Int)
 else
 (Q_l_szVoteS big a0.snd.snd.snd.snd.snd.snd.snd.snd.snd.fst y).bind fun y =>
 bif decide (y < (0 : Int)) then some (-1 : Int)
 else
 (Q_l_szLetterS big a0.snd.snd.snd.snd.snd.snd.snd.snd.snd.snd.fst y).bind fun y =>
 bif decide (y < (0 : Int)) then some (-1 : Int) else some y := by kernel_rfl

end Go.Sx.Try

set_option maxRecDepth 100000
namespace Go.Sx.Try
open Go Go.Sx Go.Proofs

noncomputable def l_l_szPeerS : List (Nat × Con) := [(21, c_l_szPeer)]
theorem l_l_szPeerS_ok : ∀ q ∈ l_l_szPeerS, ConOk Try.prog q.1 q.2 := Try.cons_cons c_l_szPeer_ok (Try.cons_nil)
abbrev k_l_szPeerS_5 : List Keep × List BK := ([.ro tSlLPeer, .ro tInt64, .drop, .drop, .drop, .ro tInt64, .drop, .drop, .drop, .drop, .drop, .drop, .drop, .drop, .drop, .drop, .drop, .drop, .drop, .drop, .drop, .drop, .drop, .drop, .drop, .drop, .drop], [])
def kp_l_szPeerS : KP := [(5, k_l_szPeerS_5)]
noncomputable def q_l_szPeerS (n : Nat) (x : Args [tSlLPeer, tInt]) := evX (false, false, []) l_l_szPeerS kp_l_szPeerS [none] Try.f101 (shV tInt) n (encA [tSlLPeer, tInt] x)
noncomputable def c_l_szPeerS : Con := roS [tSlLPeer, tInt] true (shV tInt) (q_l_szPeerS big)
theorem c_l_szPeerS_ok : ConOk Try.prog 101 c_l_szPeerS := roS_ok ⟨Try.f101, by kernel_rfl, rfl, by decide⟩ fun _ _ h => evX_ok l_l_szPeerS_ok (f := Try.f101) (by kernel_rfl) rfl (by kernel_rfl) (by kernel_rfl) big h
noncomputable def Q_l_szPeerS (n : Nat) (a0 : DSlLPeer) (a1 : Int) : Option Int := q_l_szPeerS n (a0, a1, ())
noncomputable def r_l_szPeerS_5 (n : Nat) (x : KD k_l_szPeerS_5.1) (y : BD k_l_szPeerS_5.2) := rounds (env (false, false, []) l_l_szPeerS) kp_l_szPeerS (body Try.f101) (finX (false, false, []) l_l_szPeerS [none] Try.f101 (shV tInt) [.val tSlLPeer (zeroD tSlLPeer), .val tInt (zeroD tInt)]) n 5 k_l_szPeerS_5 x y
noncomputable def R_l_szPeerS_5 (n : Nat) (s0 : DSlLPeer) (s1 : Int) (s5 : Int) : Option Int := r_l_szPeerS_5 n (s0, s1, s5, ()) ()
theorem Q_l_szPeerS_eq (n : Nat) (a0 : DSlLPeer) (a1 : Int) : Q_l_szPeerS n a0 a1 =
    bif decide (IntKind.i64.wrap (a1 - (↑(List.length a0) : Int)) < (0 : Int)) then some (-1 : Int)
 else R_l_szPeerS_5 n a0 (IntKind.i64.wrap (a1 - (↑(List.length a0) : Int))) (0 : Int) := by kernel_rfl
theorem R_l_szPeerS_5_eq (n : Nat) (s0 : DSlLPeer) (s1 : Int) (s5 : Int) : R_l_szPeerS_5 (n + 1) s0 s1 s5 =
    bif decide (s5 < (↑(List.length s0) : Int)) then
 if (0 : Int) ≤ s5 then
 (nth s0 s5.toNat).bind fun y =>
 (Q_l_szPeer big y s1).bind fun y =>
 bif decide (y < (0 : Int)) then some (-1 : Int) else R_l_szPeerS_5 n s0 y (IntKind.i64.wrap (s5 + (1 : Int)))
 else none
 else some s1 := by kernel_rfl

end Go.Sx.Try

set_option maxRecDepth 100000
namespace Go.Sx.Try
open Go Go.Sx Go.Proofs

noncomputable def l_l_szCluster : List (Nat × Con) := [(56, c_l_szBlockS), (101, c_l_szPeerS), (42, c_l_szLetterS), (87, c_l_szVoteS), (68, c_l_szCmdS)]
theorem l_l_szCluster_ok : ∀ q ∈ l_l_szCluster, ConOk Try.prog q.1 q.2 := Try.cons_cons c_l_szBlockS_ok (Try.cons_cons c_l_szPeerS_ok (Try.cons_cons c_l_szLetterS_ok (Try.cons_cons c_l_szVoteS_ok (Try.cons_cons c_l_szCmdS_ok (Try.cons_nil)))))
def kp_l_szCluster : KP := []
noncomputable def q_l_szCluster (n : Nat) (x : Args [tLCluster, tInt]) := evX (false, false, [2, 5, 11, 17, 23, 29]) l_l_szCluster kp_l_szCluster [none] Try.f31 (shV tInt) n (encA [tLCluster, tInt] x)
noncomputable def c_l_szCluster : Con := roS [tLCluster, tInt] true (shV tInt) (q_l_szCluster big)
theorem c_l_szCluster_ok : ConOk Try.prog 31 c_l_szCluster := roS_ok ⟨Try.f31, by kernel_rfl, rfl, by decide⟩ fun _ _ h => evX_ok l_l_szCluster_ok (f := Try.f31) (by kernel_rfl) rfl (by kernel_rfl) (by kernel_rfl) big h
noncomputable def Q_l_szCluster (n : Nat) (a0 : DLCluster) (a1 : Int) : Option Int := q_l_szCluster n (a0, a1, ())
theorem Q_l_szCluster_eq (n : Nat) (a0 : DLCluster) (a1 : Int) : Q_l_szCluster n a0 a1 =
    (Q_l_szBlockS big a0.snd.snd.snd.fst a1).bind fun y =>
 bif decide (y < (0 : Int)) then some (-1 : Int)
 else
 (Q_l_szPeerS big a0.snd.snd.snd.snd.fst y).bind fun y =>
 bif decide (y < (0 : Int)) then some (-1 : Int)
 else
 (Q_l_szLetterS big a0.snd.snd.snd.snd.snd.fst y).bind fun y =>
 bif decide (y < (0 : Int)) then some (-1 : Int)
 else
 (Q_l_szVoteS big a0.snd.snd.snd.snd.snd.snd.fst y).bind fun y =>
 bif decide (y < (0 : Int)) then some (-1 : Int)
 else
 (Q_l_szCmdS big a0.snd.snd.snd.snd.snd.snd.snd.fst y).bind fun y =>
 bif decide (y < (0 : Int)) then some (-1 : Int) else some y := by kernel_rfl

end Go.Sx.Try

set_option maxRecDepth 100000
namespace Go.Sx.Try
open Go Go.Sx Go.Proofs

noncomputable def l_l_toCmd : List (Nat × Con) := []
theorem l_l_toCmd_ok : ∀ q ∈ l_l_toCmd, ConOk Try.prog q.1 q.2 := Try.cons_nil
def kp_l_toCmd : KP := []
noncomputable def q_l_toCmd (n : Nat) (x : Args [tLCmd]) := evX (false, false, [1, 3, 4, 7, 10]) l_l_toCmd kp_l_toCmd [none] Try.f38 (shV tICmd) n (encA [tLCmd] x)
noncomputable def c_l_toCmd : Con := roS [tLCmd] true (shV tICmd) (q_l_toCmd big)
theorem c_l_toCmd_ok : ConOk Try.prog 38 c_l_toCmd := roS_ok ⟨Try.f38, by kernel_rfl, rfl, by decide⟩ fun _ _ h => evX_ok l_l_toCmd_ok (f := Try.f38) (by kernel_rfl) rfl (by kernel_rfl) (by kernel_rfl) big h
noncomputable def Q_l_toCmd (n : Nat) (a0 : DLCmd) : Option DICmd := q_l_toCmd n (a0, ())
theorem Q_l_toCmd_eq (n : Nat) (a0 : DLCmd) : Q_l_toCmd n a0 =
    some a0 := by kernel_rfl

end Go.Sx.Try

set_option maxRecDepth 100000
namespace Go.Sx.Try
open Go Go.Sx Go.Proofs

noncomputable def l_l_toCmdS : List (Nat × Con) := [(38, c_l_toCmd)]
theorem l_l_toCmdS_ok : ∀ q ∈ l_l_toCmdS, ConOk Try.prog q.1 q.2 := Try.cons_cons c_l_toCmd_ok (Try.cons_nil)
abbrev k_l_toCmdS_3 : List Keep × List BK := ([.ro tSlLCmd, .drop, .drop, .is (.own 0 0), .ro tInt64, .drop, .drop, .drop, .drop, .drop, .drop, .drop, .drop, .drop, .drop, .drop, .drop, .drop, .drop, .drop, .drop, .drop, .drop], [.arr tXstruct_Kind_int_Key_string_Num_int_])
def kp_l_toCmdS : KP := [(3, k_l_toCmdS_3)]
noncomputable def q_l_toCmdS (n : Nat) (x : Args [tSlLCmd]) := evX (false, false, []) l_l_toCmdS kp_l_toCmdS [some uSlICmd] Try.f70 (shF uSlICmd) n (encA [tSlLCmd] x)
noncomputable def c_l_toCmdS : Con := roS [tSlLCmd] true (shF uSlICmd) (q_l_toCmdS big)
theorem c_l_toCmdS_ok : ConOk Try.prog 70 c_l_toCmdS := roS_ok ⟨Try.f70, by kernel_rfl, rfl, by decide⟩ fun _ _ h => evX_ok l_l_toCmdS_ok (f := Try.f70) (by kernel_rfl) rfl (by kernel_rfl) (by kernel_rfl) big h
noncomputable def Q_l_toCmdS (n : Nat) (a0 : DSlLCmd) : Option DSlICmd := q_l_toCmdS n (a0, ())
noncomputable def r_l_toCmdS_3 (n : Nat) (x : KD k_l_toCmdS_3.1) (y : BD k_l_toCmdS_3.2) := rounds (env (false, false, []) l_l_toCmdS) kp_l_toCmdS (body Try.f70) (finX (false, false, []) l_l_toCmdS [some uSlICmd] Try.f70 (shF uSlICmd) [.val tSlLCmd (zeroD tSlLCmd)]) n 3 k_l_toCmdS_3 x y
noncomputable def R_l_toCmdS_3 (n : Nat) (s0 : DSlLCmd) (s4 : Int) (b0 : (List DXstruct_Kind_int_Key_string_Num_int_)) : Option DSlICmd := r_l_toCmdS_3 n (s0, s4, ()) (b0, ())
theorem Q_l_toCmdS_eq (n : Nat) (a0 : DSlLCmd) : Q_l_toCmdS n a0 =
    if (↑(List.length a0) : Int) ≤ (↑(List.length a0) : Int) then
 if (↑(List.length a0) : Int) ≤ (↑lim : Int) then
 R_l_toCmdS_3 n a0 (0 : Int)
 (List.replicate (↑(List.length a0) : Int).toNat
 (zeroD (bif (env (false, false, []) l_l_toCmdS).nest then tICmd.uq else tICmd)))
 else none
 else none := by kernel_rfl
theorem R_l_toCmdS_3_eq (n : Nat) (s0 : DSlLCmd) (s4 : Int) (b0 : (List DXstruct_Kind_int_Key_string_Num_int_)) : R_l_toCmdS_3 (n + 1) s0 s4 b0 =
    bif decide (s4 < (↑(List.length s0) : Int)) then
 if (0 : Int) ≤ s4 then
 (nth s0 s4.toNat).bind fun y =>
 if (0 : Int) ≤ s4 then
 if s4 < (↑b0.length : Int) then
 (nth b0 s4.toNat).bind fun y_1 =>
 (updO b0 s4.toNat y).bind fun y => R_l_toCmdS_3 n s0 (IntKind.i64.wrap (s4 + (1 : Int))) y
 else none
 else none
 else none
 else some b0 := by kernel_rfl

end Go.Sx.Try

set_option maxRecDepth 100000
namespace Go.Sx.Try
open Go Go.Sx Go.Proofs

noncomputable def l_l_toQc : List (Nat × Con) := []
theorem l_l_toQc_ok : ∀ q ∈ l_l_toQc, ConOk Try.prog q.1 q.2 := Try.cons_nil
def kp_l_toQc : KP := []
noncomputable def q_l_toQc (n : Nat) (x : Args [tLQc]) := evX (false, false, [1, 3, 4, 7, 10, 13]) l_l_toQc kp_l_toQc [none] Try.f89 (shV tIQc) n (encA [tLQc] x)
noncomputable def c_l_toQc : Con := roS [tLQc] true (shV tIQc) (q_l_toQc big)
theorem c_l_toQc_ok : ConOk Try.prog 89 c_l_toQc := roS_ok ⟨Try.f89, by kernel_rfl, rfl, by decide⟩ fun _ _ h => evX_ok l_l_toQc_ok (f := Try.f89) (by kernel_rfl) rfl (by kernel_rfl) (by kernel_rfl) big h
noncomputable def Q_l_toQc (n : Nat) (a0 : DLQc) : Option DIQc := q_l_toQc n (a0, ())
theorem Q_l_toQc_eq (n : Nat) (a0 : DLQc) : Q_l_toQc n a0 =
    some a0 := by kernel_rfl

end Go.Sx.Try

set_option maxRecDepth 100000
namespace Go.Sx.Try
open Go Go.Sx Go.Proofs

noncomputable def l_l_toBlock : List (Nat × Con) := [(70, c_l_toCmdS), (89, c_l_toQc)]
theorem l_l_toBlock_ok : ∀ q ∈ l_l_toBlock, ConOk Try.prog q.1 q.2 := Try.cons_cons c_l_toCmdS_ok (Try.cons_cons c_l_toQc_ok (Try.cons_nil))
def kp_l_toBlock : KP := []
noncomputable def q_l_toBlock (n : Nat) (x : Args [tLBlock]) := evX (false, false, [1, 3, 4, 7, 10, 14]) l_l_toBlock kp_l_toBlock [some uIBlock] Try.f135 (shF uIBlock) n (encA [tLBlock] x)
noncomputable def c_l_toBlock : Con := roS [tLBlock] true (shF uIBlock) (q_l_toBlock big)
theorem c_l_toBlock_ok : ConOk Try.prog 135 c_l_toBlock := roS_ok ⟨Try.f135, by kernel_rfl, rfl, by decide⟩ fun _ _ h => evX_ok l_l_toBlock_ok (f := Try.f135) (by kernel_rfl) rfl (by kernel_rfl) (by kernel_rfl) big h
noncomputable def Q_l_toBlock (n : Nat) (a0 : DLBlock) : Option DIBlock := q_l_toBlock n (a0, ())
theorem Q_l_toBlock_eq (n : Nat) (a0 : DLBlock) : Q_l_toBlock n a0 =
    (Q_l_toCmdS big a0.snd.snd.fst).bind fun y => some (a0.fst, a0.snd.fst, y, a0.snd.snd.snd) := by kernel_rfl

end Go.Sx.Try

set_option maxRecDepth 100000
namespace Go.Sx.Try
open Go Go.Sx Go.Proofs

noncomputable def l_l_toBlockS : List (Nat × Con) := [(135, c_l_toBlock)]
theorem l_l_toBlockS_ok : ∀ q ∈ l_l_toBlockS, ConOk Try.prog q.1 q.2 := Try.cons_cons c_l_toBlock_ok (Try.cons_nil)
abbrev k_l_toBlockS_3 : List Keep × List BK := ([.ro tSlLBlock, .drop, .drop, .is (.own 0 0), .ro tInt64, .drop, .drop, .drop, .drop, .drop, .drop, .drop, .drop, .drop, .drop, .drop, .drop, .drop, .drop, .drop, .drop, .drop, .drop], [.arr uXstruct_Parent_int_View_int_Cmds_laws_Cmd])
def kp_l_toBlockS : KP := [(3, k_l_toBlockS_3)]
noncomputable def q_l_toBlockS (n : Nat) (x : Args [tSlLBlock]) := evX (true, false, []) l_l_toBlockS kp_l_toBlockS [some uSlIBlock] Try.f58 (shF uSlIBlock) n (encA [tSlLBlock] x)
noncomputable def c_l_toBlockS : Con := roS [tSlLBlock] true (shF uSlIBlock) (q_l_toBlockS big)
theorem c_l_toBlockS_ok : ConOk Try.prog 58 c_l_toBlockS := roS_ok ⟨Try.f58, by kernel_rfl, rfl, by decide⟩ fun _ _ h => evX_ok l_l_toBlockS_ok (f := Try.f58) (by kernel_rfl) rfl (by kernel_rfl) (by kernel_rfl) big h
noncomputable def Q_l_toBlockS (n : Nat) (a0 : DSlLBlock) : Option DSlIBlock := q_l_toBlockS n (a0, ())
noncomputable def r_l_toBlockS_3 (n : Nat) (x : KD k_l_toBlockS_3.1) (y : BD k_l_toBlockS_3.2) := rounds (env (true, false, []) l_l_toBlockS) kp_l_toBlockS (body Try.f58) (finX (true, false, []) l_l_toBlockS [some uSlIBlock] Try.f58 (shF uSlIBlock) [.val tSlLBlock (zeroD tSlLBlock)]) n 3 k_l_toBlockS_3 x y
noncomputable def R_l_toBlockS_3 (n : Nat) (s0 : DSlLBlock) (s4 : Int) (b0 : (List DXstruct_Parent_int_View_int_Cmds_laws_Cmd)) : Option DSlIBlock := r_l_toBlockS_3 n (s0, s4, ()) (b0, ())
theorem Q_l_toBlockS_eq (n : Nat) (a0 : DSlLBlock) : Q_l_toBlockS n a0 =
    if (↑(List.length a0) : Int) ≤ (↑(List.length a0) : Int) then
 if (↑(List.length a0) : Int) ≤ (↑lim : Int) then
 R_l_toBlockS_3 n a0 (0 : Int)
 (List.replicate (↑(List.length a0) : Int).toNat
 (zeroD (bif (env (true, false, []) l_l_toBlockS).nest then tIBlock.uq else tIBlock)))
 else none
 else none := by kernel_rfl
theorem R_l_toBlockS_3_eq (n : Nat) (s0 : DSlLBlock) (s4 : Int) (b0 : (List DXstruct_Parent_int_View_int_Cmds_laws_Cmd)) : R_l_toBlockS_3 (n + 1) s0 s4 b0 =
    bif decide (s4 < (↑(List.length s0) : Int)) then
 if (0 : Int) ≤ s4 then
 (nth s0 s4.toNat).bind fun y =>
 (Q_l_toBlock big y).bind fun y =>
 if (0 : Int) ≤ s4 then
 if s4 < (↑b0.length : Int) then
 (nth b0 s4.toNat).bind fun y_1 =>
 (updO b0 s4.toNat y).bind fun y => R_l_toBlockS_3 n s0 (IntKind.i64.wrap (s4 + (1 : Int))) y
 else none
 else none
 else none
 else some b0 := by kernel_rfl

end Go.Sx.Try

set_option maxRecDepth 100000
namespace Go.Sx.Try
open Go Go.Sx Go.Proofs

noncomputable def l_l_toVote : List (Nat × Con) := []
theorem l_l_toVote_ok : ∀ q ∈ l_l_toVote, ConOk Try.prog q.1 q.2 := Try.cons_nil
def kp_l_toVote : KP := []
noncomputable def q_l_toVote (n : Nat) (x : Args [tLVote]) := evX (false, false, [1, 3, 4, 7, 10, 13]) l_l_toVote kp_l_toVote [none] Try.f90 (shV tIVote) n (encA [tLVote] x)
noncomputable def c_l_toVote : Con := roS [tLVote] true (shV tIVote) (q_l_toVote big)
theorem c_l_toVote_ok : ConOk Try.prog 90 c_l_toVote := roS_ok ⟨Try.f90, by kernel_rfl, rfl, by decide⟩ fun _ _ h => evX_ok l_l_toVote_ok (f := Try.f90) (by kernel_rfl) rfl (by kernel_rfl) (by kernel_rfl) big h
noncomputable def Q_l_toVote (n : Nat) (a0 : DLVote) : Option DIVote := q_l_toVote n (a0, ())
theorem Q_l_toVote_eq (n : Nat) (a0 : DLVote) : Q_l_toVote n a0 =
    some a0 := by kernel_rfl

end Go.Sx.Try

set_option maxRecDepth 100000
namespace Go.Sx.Try
open Go Go.Sx Go.Proofs

noncomputable def l_l_toIntS : List (Nat × Con) := []
theorem l_l_toIntS_ok : ∀ q ∈ l_l_toIntS, ConOk Try.prog q.1 q.2 := Try.cons_nil
abbrev k_l_toIntS_3 : List Keep × List BK := ([.ro tSlInt, .drop, .drop, .is (.own 0 0), .ro tInt64, .drop, .drop, .drop, .drop, .drop, .drop, .drop, .drop, .drop, .drop, .drop, .drop, .drop, .drop, .drop, .drop, .drop], [.arr tInt64])
def kp_l_toIntS : KP := [(3, k_l_toIntS_3)]
noncomputable def q_l_toIntS (n : Nat) (x : Args [tSlInt]) := evX (false, false, []) l_l_toIntS kp_l_toIntS [some uSlInt] Try.f59 (shF uSlInt) n (encA [tSlInt] x)
noncomputable def c_l_toIntS : Con := roS [tSlInt] true (shF uSlInt) (q_l_toIntS big)
theorem c_l_toIntS_ok : ConOk Try.prog 59 c_l_toIntS := roS_ok ⟨Try.f59, by kernel_rfl, rfl, by decide⟩ fun _ _ h => evX_ok l_l_toIntS_ok (f := Try.f59) (by kernel_rfl) rfl (by kernel_rfl) (by kernel_rfl) big h
noncomputable def Q_l_toIntS (n : Nat) (a0 : DSlInt) : Option DSlInt := q_l_toIntS n (a0, ())
noncomputable def r_l_toIntS_3 (n : Nat) (x : KD k_l_toIntS_3.1) (y : BD k_l_toIntS_3.2) := rounds (env (false, false, []) l_l_toIntS) kp_l_toIntS (body Try.f59) (finX (false, false, []) l_l_toIntS [some uSlInt] Try.f59 (shF uSlInt) [.val tSlInt (zeroD tSlInt)]) n 3 k_l_toIntS_3 x y
noncomputable def R_l_toIntS_3 (n : Nat) (s0 : DSlInt) (s4 : Int) (b0 : (List Int)) : Option DSlInt := r_l_toIntS_3 n (s0, s4, ()) (b0, ())
theorem Q_l_toIntS_eq (n : Nat) (a0 : DSlInt) : Q_l_toIntS n a0 =
    if (↑(List.length a0) : Int) ≤ (↑(List.length a0) : Int) then
 if (↑(List.length a0) : Int) ≤ (↑lim : Int) then
 R_l_toIntS_3 n a0 (0 : Int)
 (List.replicate (↑(List.length a0) : Int).toNat
 (zeroD (bif (env (false, false, []) l_l_toIntS).nest then tInt.uq else tInt)))
 else none
 else none := by kernel_rfl
theorem R_l_toIntS_3_eq (n : Nat) (s0 : DSlInt) (s4 : Int) (b0 : (List Int)) : R_l_toIntS_3 (n + 1) s0 s4 b0 =
    bif decide (s4 < (↑(List.length s0) : Int)) then
 if (0 : Int) ≤ s4 then
 (nth s0 s4.toNat).bind fun y =>
 if (0 : Int) ≤ s4 then
 if s4 < (↑b0.length : Int) then
 (nth b0 s4.toNat).bind fun y_1 =>
 (updO b0 s4.toNat y).bind fun y => R_l_toIntS_3 n s0 (IntKind.i64.wrap (s4 + (1 : Int))) y
 else none
 else none
 else none
 else some b0 := by kernel_rfl

end Go.Sx.Try

set_option maxRecDepth 100000
namespace Go.Sx.Try
open Go Go.Sx Go.Proofs

noncomputable def l_l_toCell : List (Nat × Con) := []
theorem l_l_toCell_ok : ∀ q ∈ l_l_toCell, ConOk Try.prog q.1 q.2 := Try.cons_nil
def kp_l_toCell : KP := []
noncomputable def q_l_toCell (n : Nat) (x : Args [tLCell]) := evX (false, false, [1, 3, 4, 7]) l_l_toCell kp_l_toCell [none] Try.f150 (shV tICell) n (encA [tLCell] x)
noncomputable def c_l_toCell : Con := roS [tLCell] true (shV tICell) (q_l_toCell big)
theorem c_l_toCell_ok : ConOk Try.prog 150 c_l_toCell := roS_ok ⟨Try.f150, by kernel_rfl, rfl, by decide⟩ fun _ _ h => evX_ok l_l_toCell_ok (f := Try.f150) (by kernel_rfl) rfl (by kernel_rfl) (by kernel_rfl) big h
noncomputable def Q_l_toCell (n : Nat) (a0 : DLCell) : Option DICell := q_l_toCell n (a0, ())
theorem Q_l_toCell_eq (n : Nat) (a0 : DLCell) : Q_l_toCell n a0 =
    some a0 := by kernel_rfl

end Go.Sx.Try

set_option maxRecDepth 100000
namespace Go.Sx.Try
open Go Go.Sx Go.Proofs

noncomputable def l_l_toCellS : List (Nat × Con) := [(150, c_l_toCell)]
theorem l_l_toCellS_ok : ∀ q ∈ l_l_toCellS, ConOk Try.prog q.1 q.2 := Try.cons_cons c_l_toCell_ok (Try.cons_nil)
abbrev k_l_toCellS_3 : List Keep × List BK := ([.ro tSlICell, .drop, .drop, .is (.own 0 0), .ro tInt64, .drop, .drop, .drop, .drop, .drop, .drop, .drop, .drop, .drop, .drop, .drop, .drop, .drop, .drop, .drop, .drop, .drop, .drop], [.arr tXstruct_Key_string_Num_int_])
def kp_l_toCellS : KP := [(3, k_l_toCellS_3)]
noncomputable def q_l_toCellS (n : Nat) (x : Args [tSlLCell]) := evX (false, false, []) l_l_toCellS kp_l_toCellS [some uSlICell] Try.f91 (shF uSlICell) n (encA [tSlLCell] x)
noncomputable def c_l_toCellS : Con := roS [tSlLCell] true (shF uSlICell) (q_l_toCellS big)
theorem c_l_toCellS_ok : ConOk Try.prog 91 c_l_toCellS := roS_ok ⟨Try.f91, by kernel_rfl, rfl, by decide⟩ fun _ _ h => evX_ok l_l_toCellS_ok (f := Try.f91) (by kernel_rfl) rfl (by kernel_rfl) (by kernel_rfl) big h
noncomputable def Q_l_toCellS (n : Nat) (a0 : DSlLCell) : Option DSlICell := q_l_toCellS n (a0, ())
noncomputable def r_l_toCellS_3 (n : Nat) (x : KD k_l_toCellS_3.1) (y : BD k_l_toCellS_3.2) := rounds (env (false, false, []) l_l_toCellS) kp_l_toCellS (body Try.f91) (finX (false, false, []) l_l_toCellS [some uSlICell] Try.f91 (shF uSlICell) [.val tSlLCell (zeroD tSlLCell)]) n 3 k_l_toCellS_3 x y
noncomputable def R_l_toCellS_3 (n : Nat) (s0 : DSlICell) (s4 : Int) (b0 : (List DXstruct_Key_string_Num_int_)) : Option DSlICell := r_l_toCellS_3 n (s0, s4, ()) (b0, ())
theorem Q_l_toCellS_eq (n : Nat) (a0 : DSlLCell) : Q_l_toCellS n a0 =
    if (↑(List.length a0) : Int) ≤ (↑(List.length a0) : Int) then
 if (↑(List.length a0) : Int) ≤ (↑lim : Int) then
 R_l_toCellS_3 n a0 (0 : Int)
 (List.replicate (↑(List.length a0) : Int).toNat
 (zeroD (bif (env (false, false, []) l_l_toCellS).nest then tICell.uq else tICell)))
 else none
 else none := by kernel_rfl
theorem R_l_toCellS_3_eq (n : Nat) (s0 : DSlICell) (s4 : Int) (b0 : (List DXstruct_Key_string_Num_int_)) : R_l_toCellS_3 (n + 1) s0 s4 b0 =
    bif decide (s4 < (↑(List.length s0) : Int)) then
 if (0 : Int) ≤ s4 then
 (nth s0 s4.toNat).bind fun y =>
 if (0 : Int) ≤ s4 then
 if s4 < (↑b0.length : Int) then
 (nth b0 s4.toNat).bind fun y_1 =>
 (updO b0 s4.toNat y).bind fun y => R_l_toCellS_3 n s0 (IntKind.i64.wrap (s4 + (1 : Int))) y
 else none
 else none
 else none
 else some b0 := by kernel_rfl

end Go.Sx.Try

set_option maxRecDepth 100000
namespace Go.Sx.Try
open Go Go.Sx Go.Proofs

noncomputable def l_l_toUndo : List (Nat × Con) := []
theorem l_l_toUndo_ok : ∀ q ∈ l_l_toUndo, ConOk Try.prog q.1 q.2 := Try.cons_nil
def kp_l_toUndo : KP := []
noncomputable def q_l_toUndo (n : Nat) (x : Args [tLUndo]) := evX (false, false, [1, 3, 4, 7, 10]) l_l_toUndo kp_l_toUndo [none] Try.f151 (shV tIUndo) n (encA [tLUndo] x)
noncomputable def c_l_toUndo : Con := roS [tLUndo] true (shV tIUndo) (q_l_toUndo big)
theorem c_l_toUndo_ok : ConOk Try.prog 151 c_l_toUndo := roS_ok ⟨Try.f151, by kernel_rfl, rfl, by decide⟩ fun _ _ h => evX_ok l_l_toUndo_ok (f := Try.f151) (by kernel_rfl) rfl (by kernel_rfl) (by kernel_rfl) big h
noncomputable def Q_l_toUndo (n : Nat) (a0 : DLUndo) : Option DIUndo := q_l_toUndo n (a0, ())
theorem Q_l_toUndo_eq (n : Nat) (a0 : DLUndo) : Q_l_toUndo n a0 =
    some a0 := by kernel_rfl

end Go.Sx.Try

set_option maxRecDepth 100000
namespace Go.Sx.Try
open Go Go.Sx Go.Proofs

noncomputable def l_l_toUndoS : List (Nat × Con) := [(151, c_l_toUndo)]
theorem l_l_toUndoS_ok : ∀ q ∈ l_l_toUndoS, ConOk Try.prog q.1 q.2 := Try.cons_cons c_l_toUndo_ok (Try.cons_nil)
abbrev k_l_toUndoS_3 : List Keep × List BK := ([.ro tSlIUndo, .drop, .drop, .is (.own 0 0), .ro tInt64, .drop, .drop, .drop, .drop, .drop, .drop, .drop, .drop, .drop, .drop, .drop, .drop, .drop, .drop, .drop, .drop, .drop, .drop], [.arr tXstruct_Key_string_Had_bool_Num_int_])
def kp_l_toUndoS : KP := [(3, k_l_toUndoS_3)]
noncomputable def q_l_toUndoS (n : Nat) (x : Args [tSlLUndo]) := evX (false, false, []) l_l_toUndoS kp_l_toUndoS [some uSlIUndo] Try.f92 (shF uSlIUndo) n (encA [tSlLUndo] x)
noncomputable def c_l_toUndoS : Con := roS [tSlLUndo] true (shF uSlIUndo) (q_l_toUndoS big)
theorem c_l_toUndoS_ok : ConOk Try.prog 92 c_l_toUndoS := roS_ok ⟨Try.f92, by kernel_rfl, rfl, by decide⟩ fun _ _ h => evX_ok l_l_toUndoS_ok (f := Try.f92) (by kernel_rfl) rfl (by kernel_rfl) (by kernel_rfl) big h
noncomputable def Q_l_toUndoS (n : Nat) (a0 : DSlLUndo) : Option DSlIUndo := q_l_toUndoS n (a0, ())
noncomputable def r_l_toUndoS_3 (n : Nat) (x : KD k_l_toUndoS_3.1) (y : BD k_l_toUndoS_3.2) := rounds (env (false, false, []) l_l_toUndoS) kp_l_toUndoS (body Try.f92) (finX (false, false, []) l_l_toUndoS [some uSlIUndo] Try.f92 (shF uSlIUndo) [.val tSlLUndo (zeroD tSlLUndo)]) n 3 k_l_toUndoS_3 x y
noncomputable def R_l_toUndoS_3 (n : Nat) (s0 : DSlIUndo) (s4 : Int) (b0 : (List DXstruct_Key_string_Had_bool_Num_int_)) : Option DSlIUndo := r_l_toUndoS_3 n (s0, s4, ()) (b0, ())
theorem Q_l_toUndoS_eq (n : Nat) (a0 : DSlLUndo) : Q_l_toUndoS n a0 =
    if (↑(List.length a0) : Int) ≤ (↑(List.length a0) : Int) then
 if (↑(List.length a0) : Int) ≤ (↑lim : Int) then
 R_l_toUndoS_3 n a0 (0 : Int)
 (List.replicate (↑(List.length a0) : Int).toNat
 (zeroD (bif (env (false, false, []) l_l_toUndoS).nest then tIUndo.uq else tIUndo)))
 else none
 else none := by kernel_rfl
theorem R_l_toUndoS_3_eq (n : Nat) (s0 : DSlIUndo) (s4 : Int) (b0 : (List DXstruct_Key_string_Had_bool_Num_int_)) : R_l_toUndoS_3 (n + 1) s0 s4 b0 =
    bif decide (s4 < (↑(List.length s0) : Int)) then
 if (0 : Int) ≤ s4 then
 (nth s0 s4.toNat).bind fun y =>
 if (0 : Int) ≤ s4 then
 if s4 < (↑b0.length : Int) then
 (nth b0 s4.toNat).bind fun y_1 =>
 (updO b0 s4.toNat y).bind fun y => R_l_toUndoS_3 n s0 (IntKind.i64.wrap (s4 + (1 : Int))) y
 else none
 else none
 else none
 else some b0 := by kernel_rfl

end Go.Sx.Try

set_option maxRecDepth 100000
namespace Go.Sx.Try
open Go Go.Sx Go.Proofs

noncomputable def l_l_toVoteS : List (Nat × Con) := [(90, c_l_toVote)]
theorem l_l_toVoteS_ok : ∀ q ∈ l_l_toVoteS, ConOk Try.prog q.1 q.2 := Try.cons_cons c_l_toVote_ok (Try.cons_nil)
abbrev k_l_toVoteS_3 : List Keep × List BK := ([.ro tSlIVote, .drop, .drop, .is (.own 0 0), .ro tInt64, .drop, .drop, .drop, .drop, .drop, .drop, .drop, .drop, .drop, .drop, .drop, .drop, .drop, .drop, .drop, .drop, .drop, .drop], [.arr tXstruct_Phase_int_View_int_Block_int_Sign])
def kp_l_toVoteS : KP := [(3, k_l_toVoteS_3)]
noncomputable def q_l_toVoteS (n : Nat) (x : Args [tSlLVote]) := evX (false, false, []) l_l_toVoteS kp_l_toVoteS [some uSlIVote] Try.f93 (shF uSlIVote) n (encA [tSlLVote] x)
noncomputable def c_l_toVoteS : Con := roS [tSlLVote] true (shF uSlIVote) (q_l_toVoteS big)
theorem c_l_toVoteS_ok : ConOk Try.prog 93 c_l_toVoteS := roS_ok ⟨Try.f93, by kernel_rfl, rfl, by decide⟩ fun _ _ h => evX_ok l_l_toVoteS_ok (f := Try.f93) (by kernel_rfl) rfl (by kernel_rfl) (by kernel_rfl) big h
noncomputable def Q_l_toVoteS (n : Nat) (a0 : DSlLVote) : Option DSlIVote := q_l_toVoteS n (a0, ())
noncomputable def r_l_toVoteS_3 (n : Nat) (x : KD k_l_toVoteS_3.1) (y : BD k_l_toVoteS_3.2) := rounds (env (false, false, []) l_l_toVoteS) kp_l_toVoteS (body Try.f93) (finX (false, false, []) l_l_toVoteS [some uSlIVote] Try.f93 (shF uSlIVote) [.val tSlLVote (zeroD tSlLVote)]) n 3 k_l_toVoteS_3 x y
noncomputable def R_l_toVoteS_3 (n : Nat) (s0 : DSlIVote) (s4 : Int) (b0 : (List DXstruct_Phase_int_View_int_Block_int_Sign)) : Option DSlIVote := r_l_toVoteS_3 n (s0, s4, ()) (b0, ())
theorem Q_l_toVoteS_eq (n : Nat) (a0 : DSlLVote) : Q_l_toVoteS n a0 =
    if (↑(List.length a0) : Int) ≤ (↑(List.length a0) : Int) then
 if (↑(List.length a0) : Int) ≤ (↑lim : Int) then
 R_l_toVoteS_3 n a0 (0 : Int)
 (List.replicate (↑(List.length a0) : Int).toNat
 (zeroD (bif (env (false, false, []) l_l_toVoteS).nest then tIVote.uq else tIVote)))
 else none
 else none := by kernel_rfl
theorem R_l_toVoteS_3_eq (n : Nat) (s0 : DSlIVote) (s4 : Int) (b0 : (List DXstruct_Phase_int_View_int_Block_int_Sign)) : R_l_toVoteS_3 (n + 1) s0 s4 b0 =
    bif decide (s4 < (↑(List.length s0) : Int)) then
 if (0 : Int) ≤ s4 then
 (nth s0 s4.toNat).bind fun y =>
 if (0 : Int) ≤ s4 then
 if s4 < (↑b0.length : Int) then
 (nth b0 s4.toNat).bind fun y_1 =>
 (updO b0 s4.toNat y).bind fun y => R_l_toVoteS_3 n s0 (IntKind.i64.wrap (s4 + (1 : Int))) y
 else none
 else none
 else none
 else some b0 := by kernel_rfl

end Go.Sx.Try

set_option maxRecDepth 100000
namespace Go.Sx.Try
open Go Go.Sx Go.Proofs

noncomputable def l_l_toLetter : List (Nat × Con) := [(89, c_l_toQc), (90, c_l_toVote)]
theorem l_l_toLetter_ok : ∀ q ∈ l_l_toLetter, ConOk Try.prog q.1 q.2 := Try.cons_cons c_l_toQc_ok (Try.cons_cons c_l_toVote_ok (Try.cons_nil))
def kp_l_toLetter : KP := []
noncomputable def q_l_toLetter (n : Nat) (x : Args [tLLetter]) := evX (false, false, [1, 3, 4, 7, 10, 13, 16, 19, 23]) l_l_toLetter kp_l_toLetter [none] Try.f120 (shV tILetter) n (encA [tLLetter] x)
noncomputable def c_l_toLetter : Con := roS [tLLetter] true (shV tILetter) (q_l_toLetter big)
theorem c_l_toLetter_ok : ConOk Try.prog 120 c_l_toLetter := roS_ok ⟨Try.f120, by kernel_rfl, rfl, by decide⟩ fun _ _ h => evX_ok l_l_toLetter_ok (f := Try.f120) (by kernel_rfl) rfl (by kernel_rfl) (by kernel_rfl) big h
noncomputable def Q_l_toLetter (n : Nat) (a0 : DLLetter) : Option DILetter := q_l_toLetter n (a0, ())
theorem Q_l_toLetter_eq (n : Nat) (a0 : DLLetter) : Q_l_toLetter n a0 =
    some a0 := by kernel_rfl

end Go.Sx.Try

set_option maxRecDepth 100000
namespace Go.Sx.Try
open Go Go.Sx Go.Proofs

noncomputable def l_l_toLetterS : List (Nat × Con) := [(120, c_l_toLetter)]
theorem l_l_toLetterS_ok : ∀ q ∈ l_l_toLetterS, ConOk Try.prog q.1 q.2 := Try.cons_cons c_l_toLetter_ok (Try.cons_nil)
abbrev k_l_toLetterS_3 : List Keep × List BK := ([.ro tSlILetter, .drop, .drop, .is (.own 0 0), .ro tInt64, .drop, .drop, .drop, .drop, .drop, .drop, .drop, .drop, .drop, .drop, .drop, .drop, .drop, .drop, .drop, .drop, .drop, .drop], [.arr tXstruct_Kind_int_From_int_To_int_View_int])
def kp_l_toLetterS : KP := [(3, k_l_toLetterS_3)]
noncomputable def q_l_toLetterS (n : Nat) (x : Args [tSlLLetter]) := evX (false, false, []) l_l_toLetterS kp_l_toLetterS [some uSlILetter] Try.f44 (shF uSlILetter) n (encA [tSlLLetter] x)
noncomputable def c_l_toLetterS : Con := roS [tSlLLetter] true (shF uSlILetter) (q_l_toLetterS big)
theorem c_l_toLetterS_ok : ConOk Try.prog 44 c_l_toLetterS := roS_ok ⟨Try.f44, by kernel_rfl, rfl, by decide⟩ fun _ _ h => evX_ok l_l_toLetterS_ok (f := Try.f44) (by kernel_rfl) rfl (by kernel_rfl) (by kernel_rfl) big h
noncomputable def Q_l_toLetterS (n : Nat) (a0 : DSlLLetter) : Option DSlILetter := q_l_toLetterS n (a0, ())
noncomputable def r_l_toLetterS_3 (n : Nat) (x : KD k_l_toLetterS_3.1) (y : BD k_l_toLetterS_3.2) := rounds (env (false, false, []) l_l_toLetterS) kp_l_toLetterS (body Try.f44) (finX (false, false, []) l_l_toLetterS [some uSlILetter] Try.f44 (shF uSlILetter) [.val tSlLLetter (zeroD tSlLLetter)]) n 3 k_l_toLetterS_3 x y
noncomputable def R_l_toLetterS_3 (n : Nat) (s0 : DSlILetter) (s4 : Int) (b0 : (List DXstruct_Kind_int_From_int_To_int_View_int)) : Option DSlILetter := r_l_toLetterS_3 n (s0, s4, ()) (b0, ())
theorem Q_l_toLetterS_eq (n : Nat) (a0 : DSlLLetter) : Q_l_toLetterS n a0 =
    if (↑(List.length a0) : Int) ≤ (↑(List.length a0) : Int) then
 if (↑(List.length a0) : Int) ≤ (↑lim : Int) then
 R_l_toLetterS_3 n a0 (0 : Int)
 (List.replicate (↑(List.length a0) : Int).toNat
 (zeroD (bif (env (false, false, []) l_l_toLetterS).nest then tILetter.uq else tILetter)))
 else none
 else none := by kernel_rfl
theorem R_l_toLetterS_3_eq (n : Nat) (s0 : DSlILetter) (s4 : Int) (b0 : (List DXstruct_Kind_int_From_int_To_int_View_int)) : R_l_toLetterS_3 (n + 1) s0 s4 b0 =
    bif decide (s4 < (↑(List.length s0) : Int)) then
 if (0 : Int) ≤ s4 then
 (nth s0 s4.toNat).bind fun y =>
 if (0 : Int) ≤ s4 then
 if s4 < (↑b0.length : Int) then
 (nth b0 s4.toNat).bind fun y_1 =>
 (updO b0 s4.toNat y).bind fun y => R_l_toLetterS_3 n s0 (IntKind.i64.wrap (s4 + (1 : Int))) y
 else none
 else none
 else none
 else some b0 := by kernel_rfl

end Go.Sx.Try

set_option maxRecDepth 100000
namespace Go.Sx.Try
open Go Go.Sx Go.Proofs

noncomputable def l_l_toPeer : List (Nat × Con) := [(89, c_l_toQc), (90, c_l_toVote), (59, c_l_toIntS), (91, c_l_toCellS), (92, c_l_toUndoS), (93, c_l_toVoteS), (44, c_l_toLetterS)]
theorem l_l_toPeer_ok : ∀ q ∈ l_l_toPeer, ConOk Try.prog q.1 q.2 := Try.cons_cons c_l_toQc_ok (Try.cons_cons c_l_toVote_ok (Try.cons_cons c_l_toIntS_ok (Try.cons_cons c_l_toCellS_ok (Try.cons_cons c_l_toUndoS_ok (Try.cons_cons c_l_toVoteS_ok (Try.cons_cons c_l_toLetterS_ok (Try.cons_nil)))))))
def kp_l_toPeer : KP := []
noncomputable def q_l_toPeer (n : Nat) (x : Args [tLPeer]) := evX (false, false, [1, 3, 4, 7, 10, 14, 18, 22, 26, 30, 34, 38, 42, 46]) l_l_toPeer kp_l_toPeer [some uIPeer] Try.f23 (shF uIPeer) n (encA [tLPeer] x)
noncomputable def c_l_toPeer : Con := roS [tLPeer] true (shF uIPeer) (q_l_toPeer big)
theorem c_l_toPeer_ok : ConOk Try.prog 23 c_l_toPeer := roS_ok ⟨Try.f23, by kernel_rfl, rfl, by decide⟩ fun _ _ h => evX_ok l_l_toPeer_ok (f := Try.f23) (by kernel_rfl) rfl (by kernel_rfl) (by kernel_rfl) big h
noncomputable def Q_l_toPeer (n : Nat) (a0 : DLPeer) : Option DIPeer := q_l_toPeer n (a0, ())
theorem Q_l_toPeer_eq (n : Nat) (a0 : DLPeer) : Q_l_toPeer n a0 =
    (Q_l_toIntS big a0.snd.snd.snd.snd.snd.fst).bind fun y =>
 (Q_l_toCellS big a0.snd.snd.snd.snd.snd.snd.fst).bind fun y_1 =>
 (Q_l_toIntS big a0.snd.snd.snd.snd.snd.snd.snd.fst).bind fun y_2 =>
 (Q_l_toUndoS big a0.snd.snd.snd.snd.snd.snd.snd.snd.fst).bind fun y_3 =>
 (Q_l_toVoteS big a0.snd.snd.snd.snd.snd.snd.snd.snd.snd.fst).bind fun y_4 =>
 (Q_l_toLetterS big a0.snd.snd.snd.snd.snd.snd.snd.snd.snd.snd.fst).bind fun y_5 =>
 some
 (a0.fst, a0.snd.fst, a0.snd.snd.fst, a0.snd.snd.snd.fst, a0.snd.snd.snd.snd.fst, y, y_1, y_2, y_3, y_4,
 y_5, a0.snd.snd.snd.snd.snd.snd.snd.snd.snd.snd.snd) := by kernel_rfl

end Go.Sx.Try

set_option maxRecDepth 100000
namespace Go.Sx.Try
open Go Go.Sx Go.Proofs

noncomputable def l_l_toPeerS : List (Nat × Con) := [(23, c_l_toPeer)]
theorem l_l_toPeerS_ok : ∀ q ∈ l_l_toPeerS, ConOk Try.prog q.1 q.2 := Try.cons_cons c_l_toPeer_ok (Try.cons_nil)
abbrev k_l_toPeerS_3 : List Keep × List BK := ([.ro tSlLPeer, .drop, .drop, .is (.own 0 0), .ro tInt64, .drop, .drop, .drop, .drop, .drop, .drop, .drop, .drop, .drop, .drop, .drop, .drop, .drop, .drop, .drop, .drop, .drop, .drop], [.arr uXstruct_Id_int_View_int_High_impl_Qc_Lock])
def kp_l_toPeerS : KP := [(3, k_l_toPeerS_3)]
noncomputable def q_l_toPeerS (n : Nat) (x : Args [tSlLPeer]) := evX (true, false, []) l_l_toPeerS kp_l_toPeerS [some uSlIPeer] Try.f105 (shF uSlIPeer) n (encA [tSlLPeer] x)
noncomputable def c_l_toPeerS : Con := roS [tSlLPeer] true (shF uSlIPeer) (q_l_toPeerS big)
theorem c_l_toPeerS_ok : ConOk Try.prog 105 c_l_toPeerS := roS_ok ⟨Try.f105, by kernel_rfl, rfl, by decide⟩ fun _ _ h => evX_ok l_l_toPeerS_ok (f := Try.f105) (by kernel_rfl) rfl (by kernel_rfl) (by kernel_rfl) big h
noncomputable def Q_l_toPeerS (n : Nat) (a0 : DSlLPeer) : Option DSlIPeer := q_l_toPeerS n (a0, ())
noncomputable def r_l_toPeerS_3 (n : Nat) (x : KD k_l_toPeerS_3.1) (y : BD k_l_toPeerS_3.2) := rounds (env (true, false, []) l_l_toPeerS) kp_l_toPeerS (body Try.f105) (finX (true, false, []) l_l_toPeerS [some uSlIPeer] Try.f105 (shF uSlIPeer) [.val tSlLPeer (zeroD tSlLPeer)]) n 3 k_l_toPeerS_3 x y
noncomputable def R_l_toPeerS_3 (n : Nat) (s0 : DSlLPeer) (s4 : Int) (b0 : (List DXstruct_Id_int_View_int_High_impl_Qc_Lock)) : Option DSlIPeer := r_l_toPeerS_3 n (s0, s4, ()) (b0, ())
theorem Q_l_toPeerS_eq (n : Nat) (a0 : DSlLPeer) : Q_l_toPeerS n a0 =
    if (↑(List.length a0) : Int) ≤ (↑(List.length a0) : Int) then
 if (↑(List.length a0) : Int) ≤ (↑lim : Int) then
 R_l_toPeerS_3 n a0 (0 : Int)
 (List.replicate (↑(List.length a0) : Int).toNat
 (zeroD (bif (env (true, false, []) l_l_toPeerS).nest then tIPeer.uq else tIPeer)))
 else none
 else none := by kernel_rfl
theorem R_l_toPeerS_3_eq (n : Nat) (s0 : DSlLPeer) (s4 : Int) (b0 : (List DXstruct_Id_int_View_int_High_impl_Qc_Lock)) : R_l_toPeerS_3 (n + 1) s0 s4 b0 =
    bif decide (s4 < (↑(List.length s0) : Int)) then
 if (0 : Int) ≤ s4 then
 (nth s0 s4.toNat).bind fun y =>
 (Q_l_toPeer big y).bind fun y =>
 if (0 : Int) ≤ s4 then
 if s4 < (↑b0.length : Int) then
 (nth b0 s4.toNat).bind fun y_1 =>
 (updO b0 s4.toNat y).bind fun y => R_l_toPeerS_3 n s0 (IntKind.i64.wrap (s4 + (1 : Int))) y
 else none
 else none
 else none
 else some b0 := by kernel_rfl

end Go.Sx.Try

set_option maxRecDepth 100000
namespace Go.Sx.Try
open Go Go.Sx Go.Proofs

noncomputable def l_l_toCluster : List (Nat × Con) := [(58, c_l_toBlockS), (105, c_l_toPeerS), (44, c_l_toLetterS), (93, c_l_toVoteS), (70, c_l_toCmdS)]
theorem l_l_toCluster_ok : ∀ q ∈ l_l_toCluster, ConOk Try.prog q.1 q.2 := Try.cons_cons c_l_toBlockS_ok (Try.cons_cons c_l_toPeerS_ok (Try.cons_cons c_l_toLetterS_ok (Try.cons_cons c_l_toVoteS_ok (Try.cons_cons c_l_toCmdS_ok (Try.cons_nil)))))
def kp_l_toCluster : KP := []
noncomputable def q_l_toCluster (n : Nat) (x : Args [tLCluster]) := evX (false, false, [1, 3, 4, 7, 10, 13, 17, 21, 25, 29]) l_l_toCluster kp_l_toCluster [some uICluster] Try.f33 (shF uICluster) n (encA [tLCluster] x)
noncomputable def c_l_toCluster : Con := roS [tLCluster] true (shF uICluster) (q_l_toCluster big)
theorem c_l_toCluster_ok : ConOk Try.prog 33 c_l_toCluster := roS_ok ⟨Try.f33, by kernel_rfl, rfl, by decide⟩ fun _ _ h => evX_ok l_l_toCluster_ok (f := Try.f33) (by kernel_rfl) rfl (by kernel_rfl) (by kernel_rfl) big h
noncomputable def Q_l_toCluster (n : Nat) (a0 : DLCluster) : Option DICluster := q_l_toCluster n (a0, ())
theorem Q_l_toCluster_eq (n : Nat) (a0 : DLCluster) : Q_l_toCluster n a0 =
    (Q_l_toBlockS big a0.snd.snd.snd.fst).bind fun y =>
 (Q_l_toPeerS big a0.snd.snd.snd.snd.fst).bind fun y_1 =>
 (Q_l_toLetterS big a0.snd.snd.snd.snd.snd.fst).bind fun y_2 =>
 (Q_l_toVoteS big a0.snd.snd.snd.snd.snd.snd.fst).bind fun y_3 =>
 (Q_l_toCmdS big a0.snd.snd.snd.snd.snd.snd.snd.fst).bind fun y_4 =>
 some (a0.fst, a0.snd.fst, a0.snd.snd.fst, y, y_1, y_2, y_3, y_4, PUnit.unit) := by kernel_rfl

end Go.Sx.Try

set_option maxRecDepth 100000
namespace Go.Sx.Try
open Go Go.Sx Go.Proofs

noncomputable def l_l_eqCmd : List (Nat × Con) := []
theorem l_l_eqCmd_ok : ∀ q ∈ l_l_eqCmd, ConOk Try.prog q.1 q.2 := Try.cons_nil
def kp_l_eqCmd : KP := []
noncomputable def q_l_eqCmd (n : Nat) (x : Args [tICmd, tICmd]) := evX (false, false, [2, 3, 5, 7, 10, 12, 15, 17]) l_l_eqCmd kp_l_eqCmd [none] Try.f146 (shV tBool) n (encA [tICmd, tICmd] x)
noncomputable def c_l_eqCmd : Con := roS [tICmd, tICmd] true (shV tBool) (q_l_eqCmd big)
theorem c_l_eqCmd_ok : ConOk Try.prog 146 c_l_eqCmd := roS_ok ⟨Try.f146, by kernel_rfl, rfl, by decide⟩ fun _ _ h => evX_ok l_l_eqCmd_ok (f := Try.f146) (by kernel_rfl) rfl (by kernel_rfl) (by kernel_rfl) big h
noncomputable def Q_l_eqCmd (n : Nat) (a0 : DICmd) (a1 : DICmd) : Option Bool := q_l_eqCmd n (a0, a1, ())
theorem Q_l_eqCmd_eq (n : Nat) (a0 : DICmd) (a1 : DICmd) : Q_l_eqCmd n a0 a1 =
    bif !decide (a0.fst = a1.fst) then some false
 else
 bif !decide (a0.snd.fst = a1.snd.fst) then some false
 else bif !decide (a0.snd.snd.fst = a1.snd.snd.fst) then some false else some true := by kernel_rfl

end Go.Sx.Try

set_option maxRecDepth 100000
namespace Go.Sx.Try
open Go Go.Sx Go.Proofs

noncomputable def l_l_eqCmdS : List (Nat × Con) := [(146, c_l_eqCmd)]
theorem l_l_eqCmdS_ok : ∀ q ∈ l_l_eqCmdS, ConOk Try.prog q.1 q.2 := Try.cons_cons c_l_eqCmd_ok (Try.cons_nil)
abbrev k_l_eqCmdS_4 : List Keep × List BK := ([.ro tSlLCmd, .ro tSlLCmd, .drop, .drop, .drop, .ro tInt64, .drop, .drop, .drop, .drop, .drop, .drop, .drop, .drop, .drop, .drop, .drop, .drop, .drop, .drop, .drop, .drop, .drop, .drop, .drop, .drop, .drop], [])
def kp_l_eqCmdS : KP := [(4, k_l_eqCmdS_4)]
noncomputable def q_l_eqCmdS (n : Nat) (x : Args [tSlICmd, tSlICmd]) := evX (false, false, []) l_l_eqCmdS kp_l_eqCmdS [none] Try.f72 (shV tBool) n (encA [tSlICmd, tSlICmd] x)
noncomputable def c_l_eqCmdS : Con := roS [tSlICmd, tSlICmd] true (shV tBool) (q_l_eqCmdS big)
theorem c_l_eqCmdS_ok : ConOk Try.prog 72 c_l_eqCmdS := roS_ok ⟨Try.f72, by kernel_rfl, rfl, by decide⟩ fun _ _ h => evX_ok l_l_eqCmdS_ok (f := Try.f72) (by kernel_rfl) rfl (by kernel_rfl) (by kernel_rfl) big h
noncomputable def Q_l_eqCmdS (n : Nat) (a0 : DSlICmd) (a1 : DSlICmd) : Option Bool := q_l_eqCmdS n (a0, a1, ())
noncomputable def r_l_eqCmdS_4 (n : Nat) (x : KD k_l_eqCmdS_4.1) (y : BD k_l_eqCmdS_4.2) := rounds (env (false, false, []) l_l_eqCmdS) kp_l_eqCmdS (body Try.f72) (finX (false, false, []) l_l_eqCmdS [none] Try.f72 (shV tBool) [.val tSlICmd (zeroD tSlICmd), .val tSlICmd (zeroD tSlICmd)]) n 4 k_l_eqCmdS_4 x y
noncomputable def R_l_eqCmdS_4 (n : Nat) (s0 : DSlLCmd) (s1 : DSlLCmd) (s5 : Int) : Option Bool := r_l_eqCmdS_4 n (s0, s1, s5, ()) ()
theorem Q_l_eqCmdS_eq (n : Nat) (a0 : DSlICmd) (a1 : DSlICmd) : Q_l_eqCmdS n a0 a1 =
    bif !decide ((↑(List.length a0) : Int) = (↑(List.length a1) : Int)) then some false
 else R_l_eqCmdS_4 n a0 a1 (0 : Int) := by kernel_rfl
theorem R_l_eqCmdS_4_eq (n : Nat) (s0 : DSlLCmd) (s1 : DSlLCmd) (s5 : Int) : R_l_eqCmdS_4 (n + 1) s0 s1 s5 =
    bif decide (s5 < (↑(List.length s0) : Int)) then
 if (0 : Int) ≤ s5 then
 (nth s0 s5.toNat).bind fun y =>
 if (0 : Int) ≤ s5 then
 (nth s1 s5.toNat).bind fun y_1 =>
 (Q_l_eqCmd big y y_1).bind fun y =>
 bif !y then some false else R_l_eqCmdS_4 n s0 s1 (IntKind.i64.wrap (s5 + (1 : Int)))
 else none
 else none
 else some true := by kernel_rfl

end Go.Sx.Try

set_option maxRecDepth 100000
namespace Go.Sx.Try
open Go Go.Sx Go.Proofs

noncomputable def l_l_eqQc : List (Nat × Con) := []
theorem l_l_eqQc_ok : ∀ q ∈ l_l_eqQc, ConOk Try.prog q.1 q.2 := Try.cons_nil
def kp_l_eqQc : KP := []
noncomputable def q_l_eqQc (n : Nat) (x : Args [tIQc, tIQc]) := evX (false, false, [2, 3, 5, 7, 10, 12, 15, 17, 20, 22]) l_l_eqQc kp_l_eqQc [none] Try.f75 (shV tBool) n (encA [tIQc, tIQc] x)
noncomputable def c_l_eqQc : Con := roS [tIQc, tIQc] true (shV tBool) (q_l_eqQc big)
theorem c_l_eqQc_ok : ConOk Try.prog 75 c_l_eqQc := roS_ok ⟨Try.f75, by kernel_rfl, rfl, by decide⟩ fun _ _ h => evX_ok l_l_eqQc_ok (f := Try.f75) (by kernel_rfl) rfl (by kernel_rfl) (by kernel_rfl) big h
noncomputable def Q_l_eqQc (n : Nat) (a0 : DIQc) (a1 : DIQc) : Option Bool := q_l_eqQc n (a0, a1, ())
theorem Q_l_eqQc_eq (n : Nat) (a0 : DIQc) (a1 : DIQc) : Q_l_eqQc n a0 a1 =
    bif !decide (a0.fst = a1.fst) then some false
 else
 bif !decide (a0.snd.fst = a1.snd.fst) then some false
 else
 bif !decide (a0.snd.snd.fst = a1.snd.snd.fst) then some false
 else bif !decide (a0.snd.snd.snd.fst = a1.snd.snd.snd.fst) then some false else some true := by kernel_rfl

end Go.Sx.Try

set_option maxRecDepth 100000
namespace Go.Sx.Try
open Go Go.Sx Go.Proofs

noncomputable def l_l_eqBlock : List (Nat × Con) := [(72, c_l_eqCmdS), (75, c_l_eqQc)]
theorem l_l_eqBlock_ok : ∀ q ∈ l_l_eqBlock, ConOk Try.prog q.1 q.2 := Try.cons_cons c_l_eqCmdS_ok (Try.cons_cons c_l_eqQc_ok (Try.cons_nil))
def kp_l_eqBlock : KP := []
noncomputable def q_l_eqBlock (n : Nat) (x : Args [tIBlock, tIBlock]) := evX (false, false, [2, 3, 5, 7, 10, 12, 15, 17, 21, 23]) l_l_eqBlock kp_l_eqBlock [none] Try.f139 (shV tBool) n (encA [tIBlock, tIBlock] x)
noncomputable def c_l_eqBlock : Con := roS [tIBlock, tIBlock] true (shV tBool) (q_l_eqBlock big)
theorem c_l_eqBlock_ok : ConOk Try.prog 139 c_l_eqBlock := roS_ok ⟨Try.f139, by kernel_rfl, rfl, by decide⟩ fun _ _ h => evX_ok l_l_eqBlock_ok (f := Try.f139) (by kernel_rfl) rfl (by kernel_rfl) (by kernel_rfl) big h
noncomputable def Q_l_eqBlock (n : Nat) (a0 : DIBlock) (a1 : DIBlock) : Option Bool := q_l_eqBlock n (a0, a1, ())
theorem Q_l_eqBlock_eq (n : Nat) (a0 : DIBlock) (a1 : DIBlock) : Q_l_eqBlock n a0 a1 =
    bif !decide (a0.fst = a1.fst) then some false
 else
 bif !decide (a0.snd.fst = a1.snd.fst) then some false
 else
 (Q_l_eqCmdS big a0.snd.snd.fst a1.snd.snd.fst).bind fun y =>
 bif !y then some false
 else
 (Q_l_eqQc big a0.snd.snd.snd.fst a1.snd.snd.snd.fst).bind fun y =>
 bif !y then some false else some true := by kernel_rfl

end Go.Sx.Try

set_option maxRecDepth 100000
namespace Go.Sx.Try
open Go Go.Sx Go.Proofs

noncomputable def l_l_eqBlockS : List (Nat × Con) := [(139, c_l_eqBlock)]
theorem l_l_eqBlockS_ok : ∀ q ∈ l_l_eqBlockS, ConOk Try.prog q.1 q.2 := Try.cons_cons c_l_eqBlock_ok (Try.cons_nil)
abbrev k_l_eqBlockS_4 : List Keep × List BK := ([.ro tSlLBlock, .ro tSlLBlock, .drop, .drop, .drop, .ro tInt64, .drop, .drop, .drop, .drop, .drop, .drop, .drop, .drop, .drop, .drop, .drop, .drop, .drop, .drop, .drop, .drop, .drop, .drop, .drop, .drop, .drop], [])
def kp_l_eqBlockS : KP := [(4, k_l_eqBlockS_4)]
noncomputable def q_l_eqBlockS (n : Nat) (x : Args [tSlIBlock, tSlIBlock]) := evX (false, false, []) l_l_eqBlockS kp_l_eqBlockS [none] Try.f62 (shV tBool) n (encA [tSlIBlock, tSlIBlock] x)
noncomputable def c_l_eqBlockS : Con := roS [tSlIBlock, tSlIBlock] true (shV tBool) (q_l_eqBlockS big)
theorem c_l_eqBlockS_ok : ConOk Try.prog 62 c_l_eqBlockS := roS_ok ⟨Try.f62, by kernel_rfl, rfl, by decide⟩ fun _ _ h => evX_ok l_l_eqBlockS_ok (f := Try.f62) (by kernel_rfl) rfl (by kernel_rfl) (by kernel_rfl) big h
noncomputable def Q_l_eqBlockS (n : Nat) (a0 : DSlIBlock) (a1 : DSlIBlock) : Option Bool := q_l_eqBlockS n (a0, a1, ())
noncomputable def r_l_eqBlockS_4 (n : Nat) (x : KD k_l_eqBlockS_4.1) (y : BD k_l_eqBlockS_4.2) := rounds (env (false, false, []) l_l_eqBlockS) kp_l_eqBlockS (body Try.f62) (finX (false, false, []) l_l_eqBlockS [none] Try.f62 (shV tBool) [.val tSlIBlock (zeroD tSlIBlock), .val tSlIBlock (zeroD tSlIBlock)]) n 4 k_l_eqBlockS_4 x y
noncomputable def R_l_eqBlockS_4 (n : Nat) (s0 : DSlLBlock) (s1 : DSlLBlock) (s5 : Int) : Option Bool := r_l_eqBlockS_4 n (s0, s1, s5, ()) ()
theorem Q_l_eqBlockS_eq (n : Nat) (a0 : DSlIBlock) (a1 : DSlIBlock) : Q_l_eqBlockS n a0 a1 =
    bif !decide ((↑(List.length a0) : Int) = (↑(List.length a1) : Int)) then some false
 else R_l_eqBlockS_4 n a0 a1 (0 : Int) := by kernel_rfl
theorem R_l_eqBlockS_4_eq (n : Nat) (s0 : DSlLBlock) (s1 : DSlLBlock) (s5 : Int) : R_l_eqBlockS_4 (n + 1) s0 s1 s5 =
    bif decide (s5 < (↑(List.length s0) : Int)) then
 if (0 : Int) ≤ s5 then
 (nth s0 s5.toNat).bind fun y =>
 if (0 : Int) ≤ s5 then
 (nth s1 s5.toNat).bind fun y_1 =>
 (Q_l_eqBlock big y y_1).bind fun y =>
 bif !y then some false else R_l_eqBlockS_4 n s0 s1 (IntKind.i64.wrap (s5 + (1 : Int)))
 else none
 else none
 else some true := by kernel_rfl

end Go.Sx.Try

set_option maxRecDepth 100000
namespace Go.Sx.Try
open Go Go.Sx Go.Proofs

noncomputable def l_l_eqVote : List (Nat × Con) := []
theorem l_l_eqVote_ok : ∀ q ∈ l_l_eqVote, ConOk Try.prog q.1 q.2 := Try.cons_nil
def kp_l_eqVote : KP := []
noncomputable def q_l_eqVote (n : Nat) (x : Args [tIVote, tIVote]) := evX (false, false, [2, 3, 5, 7, 10, 12, 15, 17, 20, 22]) l_l_eqVote kp_l_eqVote [none] Try.f25 (shV tBool) n (encA [tIVote, tIVote] x)
noncomputable def c_l_eqVote : Con := roS [tIVote, tIVote] true (shV tBool) (q_l_eqVote big)
theorem c_l_eqVote_ok : ConOk Try.prog 25 c_l_eqVote := roS_ok ⟨Try.f25, by kernel_rfl, rfl, by decide⟩ fun _ _ h => evX_ok l_l_eqVote_ok (f := Try.f25) (by kernel_rfl) rfl (by kernel_rfl) (by kernel_rfl) big h
noncomputable def Q_l_eqVote (n : Nat) (a0 : DIVote) (a1 : DIVote) : Option Bool := q_l_eqVote n (a0, a1, ())
theorem Q_l_eqVote_eq (n : Nat) (a0 : DIVote) (a1 : DIVote) : Q_l_eqVote n a0 a1 =
    bif !decide (a0.fst = a1.fst) then some false
 else
 bif !decide (a0.snd.fst = a1.snd.fst) then some false
 else
 bif !decide (a0.snd.snd.fst = a1.snd.snd.fst) then some false
 else bif !decide (a0.snd.snd.snd.fst = a1.snd.snd.snd.fst) then some false else some true := by kernel_rfl

end Go.Sx.Try

set_option maxRecDepth 100000
namespace Go.Sx.Try
open Go Go.Sx Go.Proofs

noncomputable def l_l_eqIntS : List (Nat × Con) := []
theorem l_l_eqIntS_ok : ∀ q ∈ l_l_eqIntS, ConOk Try.prog q.1 q.2 := Try.cons_nil
abbrev k_l_eqIntS_4 : List Keep × List BK := ([.ro tSlInt, .ro tSlInt, .drop, .drop, .drop, .ro tInt64, .drop, .drop, .drop, .drop, .drop, .drop, .drop, .drop, .drop, .drop, .drop, .drop, .drop, .drop, .drop, .drop, .drop, .drop, .drop, .drop], [])
def kp_l_eqIntS : KP := [(4, k_l_eqIntS_4)]
noncomputable def q_l_eqIntS (n : Nat) (x : Args [tSlInt, tSlInt]) := evX (false, false, []) l_l_eqIntS kp_l_eqIntS [none] Try.f63 (shV tBool) n (encA [tSlInt, tSlInt] x)
noncomputable def c_l_eqIntS : Con := roS [tSlInt, tSlInt] true (shV tBool) (q_l_eqIntS big)
theorem c_l_eqIntS_ok : ConOk Try.prog 63 c_l_eqIntS := roS_ok ⟨Try.f63, by kernel_rfl, rfl, by decide⟩ fun _ _ h => evX_ok l_l_eqIntS_ok (f := Try.f63) (by kernel_rfl) rfl (by kernel_rfl) (by kernel_rfl) big h
noncomputable def Q_l_eqIntS (n : Nat) (a0 : DSlInt) (a1 : DSlInt) : Option Bool := q_l_eqIntS n (a0, a1, ())
noncomputable def r_l_eqIntS_4 (n : Nat) (x : KD k_l_eqIntS_4.1) (y : BD k_l_eqIntS_4.2) := rounds (env (false, false, []) l_l_eqIntS) kp_l_eqIntS (body Try.f63) (finX (false, false, []) l_l_eqIntS [none] Try.f63 (shV tBool) [.val tSlInt (zeroD tSlInt), .val tSlInt (zeroD tSlInt)]) n 4 k_l_eqIntS_4 x y
noncomputable def R_l_eqIntS_4 (n : Nat) (s0 : DSlInt) (s1 : DSlInt) (s5 : Int) : Option Bool := r_l_eqIntS_4 n (s0, s1, s5, ()) ()
theorem Q_l_eqIntS_eq (n : Nat) (a0 : DSlInt) (a1 : DSlInt) : Q_l_eqIntS n a0 a1 =
    bif !decide ((↑(List.length a0) : Int) = (↑(List.length a1) : Int)) then some false
 else R_l_eqIntS_4 n a0 a1 (0 : Int) := by kernel_rfl
theorem R_l_eqIntS_4_eq (n : Nat) (s0 : DSlInt) (s1 : DSlInt) (s5 : Int) : R_l_eqIntS_4 (n + 1) s0 s1 s5 =
    bif decide (s5 < (↑(List.length s0) : Int)) then
 if (0 : Int) ≤ s5 then
 (nth s0 s5.toNat).bind fun y =>
 if (0 : Int) ≤ s5 then
 (nth s1 s5.toNat).bind fun y_1 =>
 bif !decide (y = y_1) then some false else R_l_eqIntS_4 n s0 s1 (IntKind.i64.wrap (s5 + (1 : Int)))
 else none
 else none
 else some true := by kernel_rfl

end Go.Sx.Try

set_option maxRecDepth 100000
namespace Go.Sx.Try
open Go Go.Sx Go.Proofs

noncomputable def l_l_eqCell : List (Nat × Con) := []
theorem l_l_eqCell_ok : ∀ q ∈ l_l_eqCell, ConOk Try.prog q.1 q.2 := Try.cons_nil
def kp_l_eqCell : KP := []
noncomputable def q_l_eqCell (n : Nat) (x : Args [tICell, tICell]) := evX (false, false, [2, 3, 5, 7, 10, 12]) l_l_eqCell kp_l_eqCell [none] Try.f138 (shV tBool) n (encA [tICell, tICell] x)
noncomputable def c_l_eqCell : Con := roS [tICell, tICell] true (shV tBool) (q_l_eqCell big)
theorem c_l_eqCell_ok : ConOk Try.prog 138 c_l_eqCell := roS_ok ⟨Try.f138, by kernel_rfl, rfl, by decide⟩ fun _ _ h => evX_ok l_l_eqCell_ok (f := Try.f138) (by kernel_rfl) rfl (by kernel_rfl) (by kernel_rfl) big h
noncomputable def Q_l_eqCell (n : Nat) (a0 : DICell) (a1 : DICell) : Option Bool := q_l_eqCell n (a0, a1, ())
theorem Q_l_eqCell_eq (n : Nat) (a0 : DICell) (a1 : DICell) : Q_l_eqCell n a0 a1 =
    bif !decide (a0.fst = a1.fst) then some false
 else bif !decide (a0.snd.fst = a1.snd.fst) then some false else some true := by kernel_rfl

end Go.Sx.Try

set_option maxRecDepth 100000
namespace Go.Sx.Try
open Go Go.Sx Go.Proofs

noncomputable def l_l_eqCellS : List (Nat × Con) := [(138, c_l_eqCell)]
theorem l_l_eqCellS_ok : ∀ q ∈ l_l_eqCellS, ConOk Try.prog q.1 q.2 := Try.cons_cons c_l_eqCell_ok (Try.cons_nil)
abbrev k_l_eqCellS_4 : List Keep × List BK := ([.ro tSlICell, .ro tSlICell, .drop, .drop, .drop, .ro tInt64, .drop, .drop, .drop, .drop, .drop, .drop, .drop, .drop, .drop, .drop, .drop, .drop, .drop, .drop, .drop, .drop, .drop, .drop, .drop, .drop, .drop], [])
def kp_l_eqCellS : KP := [(4, k_l_eqCellS_4)]
noncomputable def q_l_eqCellS (n : Nat) (x : Args [tSlICell, tSlICell]) := evX (false, false, []) l_l_eqCellS kp_l_eqCellS [none] Try.f61 (shV tBool) n (encA [tSlICell, tSlICell] x)
noncomputable def c_l_eqCellS : Con := roS [tSlICell, tSlICell] true (shV tBool) (q_l_eqCellS big)
theorem c_l_eqCellS_ok : ConOk Try.prog 61 c_l_eqCellS := roS_ok ⟨Try.f61, by kernel_rfl, rfl, by decide⟩ fun _ _ h => evX_ok l_l_eqCellS_ok (f := Try.f61) (by kernel_rfl) rfl (by kernel_rfl) (by kernel_rfl) big h
noncomputable def Q_l_eqCellS (n : Nat) (a0 : DSlICell) (a1 : DSlICell) : Option Bool := q_l_eqCellS n (a0, a1, ())
noncomputable def r_l_eqCellS_4 (n : Nat) (x : KD k_l_eqCellS_4.1) (y : BD k_l_eqCellS_4.2) := rounds (env (false, false, []) l_l_eqCellS) kp_l_eqCellS (body Try.f61) (finX (false, false, []) l_l_eqCellS [none] Try.f61 (shV tBool) [.val tSlICell (zeroD tSlICell), .val tSlICell (zeroD tSlICell)]) n 4 k_l_eqCellS_4 x y
noncomputable def R_l_eqCellS_4 (n : Nat) (s0 : DSlICell) (s1 : DSlICell) (s5 : Int) : Option Bool := r_l_eqCellS_4 n (s0, s1, s5, ()) ()
theorem Q_l_eqCellS_eq (n : Nat) (a0 : DSlICell) (a1 : DSlICell) : Q_l_eqCellS n a0 a1 =
    bif !decide ((↑(List.length a0) : Int) = (↑(List.length a1) : Int)) then some false
 else R_l_eqCellS_4 n a0 a1 (0 : Int) := by kernel_rfl
theorem R_l_eqCellS_4_eq (n : Nat) (s0 : DSlICell) (s1 : DSlICell) (s5 : Int) : R_l_eqCellS_4 (n + 1) s0 s1 s5 =
    bif decide (s5 < (↑(List.length s0) : Int)) then
 if (0 : Int) ≤ s5 then
 (nth s0 s5.toNat).bind fun y =>
 if (0 : Int) ≤ s5 then
 (nth s1 s5.toNat).bind fun y_1 =>
 (Q_l_eqCell big y y_1).bind fun y =>
 bif !y then some false else R_l_eqCellS_4 n s0 s1 (IntKind.i64.wrap (s5 + (1 : Int)))
 else none
 else none
 else some true := by kernel_rfl

end Go.Sx.Try

set_option maxRecDepth 100000
namespace Go.Sx.Try
open Go Go.Sx Go.Proofs

noncomputable def l_l_eqUndo : List (Nat × Con) := []
theorem l_l_eqUndo_ok : ∀ q ∈ l_l_eqUndo, ConOk Try.prog q.1 q.2 := Try.cons_nil
def kp_l_eqUndo : KP := []
noncomputable def q_l_eqUndo (n : Nat) (x : Args [tIUndo, tIUndo]) := evX (false, false, [2, 3, 5, 7, 10, 12, 15, 17]) l_l_eqUndo kp_l_eqUndo [none] Try.f147 (shV tBool) n (encA [tIUndo, tIUndo] x)
noncomputable def c_l_eqUndo : Con := roS [tIUndo, tIUndo] true (shV tBool) (q_l_eqUndo big)
theorem c_l_eqUndo_ok : ConOk Try.prog 147 c_l_eqUndo := roS_ok ⟨Try.f147, by kernel_rfl, rfl, by decide⟩ fun _ _ h => evX_ok l_l_eqUndo_ok (f := Try.f147) (by kernel_rfl) rfl (by kernel_rfl) (by kernel_rfl) big h
noncomputable def Q_l_eqUndo (n : Nat) (a0 : DIUndo) (a1 : DIUndo) : Option Bool := q_l_eqUndo n (a0, a1, ())
theorem Q_l_eqUndo_eq (n : Nat) (a0 : DIUndo) (a1 : DIUndo) : Q_l_eqUndo n a0 a1 =
    bif !decide (a0.fst = a1.fst) then some false
 else
 bif !a0.snd.fst == a1.snd.fst then some false
 else bif !decide (a0.snd.snd.fst = a1.snd.snd.fst) then some false else some true := by kernel_rfl

end Go.Sx.Try

set_option maxRecDepth 100000
namespace Go.Sx.Try
open Go Go.Sx Go.Proofs

noncomputable def l_l_eqUndoS : List (Nat × Con) := [(147, c_l_eqUndo)]
theorem l_l_eqUndoS_ok : ∀ q ∈ l_l_eqUndoS, ConOk Try.prog q.1 q.2 := Try.cons_cons c_l_eqUndo_ok (Try.cons_nil)
abbrev k_l_eqUndoS_4 : List Keep × List BK := ([.ro tSlIUndo, .ro tSlIUndo, .drop, .drop, .drop, .ro tInt64, .drop, .drop, .drop, .drop, .drop, .drop, .drop, .drop, .drop, .drop, .drop, .drop, .drop, .drop, .drop, .drop, .drop, .drop, .drop, .drop, .drop], [])
def kp_l_eqUndoS : KP := [(4, k_l_eqUndoS_4)]
noncomputable def q_l_eqUndoS (n : Nat) (x : Args [tSlIUndo, tSlIUndo]) := evX (false, false, []) l_l_eqUndoS kp_l_eqUndoS [none] Try.f76 (shV tBool) n (encA [tSlIUndo, tSlIUndo] x)
noncomputable def c_l_eqUndoS : Con := roS [tSlIUndo, tSlIUndo] true (shV tBool) (q_l_eqUndoS big)
theorem c_l_eqUndoS_ok : ConOk Try.prog 76 c_l_eqUndoS := roS_ok ⟨Try.f76, by kernel_rfl, rfl, by decide⟩ fun _ _ h => evX_ok l_l_eqUndoS_ok (f := Try.f76) (by kernel_rfl) rfl (by kernel_rfl) (by kernel_rfl) big h
noncomputable def Q_l_eqUndoS (n : Nat) (a0 : DSlIUndo) (a1 : DSlIUndo) : Option Bool := q_l_eqUndoS n (a0, a1, ())
noncomputable def r_l_eqUndoS_4 (n : Nat) (x : KD k_l_eqUndoS_4.1) (y : BD k_l_eqUndoS_4.2) := rounds (env (false, false, []) l_l_eqUndoS) kp_l_eqUndoS (body Try.f76) (finX (false, false, []) l_l_eqUndoS [none] Try.f76 (shV tBool) [.val tSlIUndo (zeroD tSlIUndo), .val tSlIUndo (zeroD tSlIUndo)]) n 4 k_l_eqUndoS_4 x y
noncomputable def R_l_eqUndoS_4 (n : Nat) (s0 : DSlIUndo) (s1 : DSlIUndo) (s5 : Int) : Option Bool := r_l_eqUndoS_4 n (s0, s1, s5, ()) ()
theorem Q_l_eqUndoS_eq (n : Nat) (a0 : DSlIUndo) (a1 : DSlIUndo) : Q_l_eqUndoS n a0 a1 =
    bif !decide ((↑(List.length a0) : Int) = (↑(List.length a1) : Int)) then some false
 else R_l_eqUndoS_4 n a0 a1 (0 : Int) := by kernel_rfl
theorem R_l_eqUndoS_4_eq (n : Nat) (s0 : DSlIUndo) (s1 : DSlIUndo) (s5 : Int) : R_l_eqUndoS_4 (n + 1) s0 s1 s5 =
    bif decide (s5 < (↑(List.length s0) : Int)) then
 if (0 : Int) ≤ s5 then
 (nth s0 s5.toNat).bind fun y =>
 if (0 : Int) ≤ s5 then
 (nth s1 s5.toNat).bind fun y_1 =>
 (Q_l_eqUndo big y y_1).bind fun y =>
 bif !y then some false else R_l_eqUndoS_4 n s0 s1 (IntKind.i64.wrap (s5 + (1 : Int)))
 else none
 else none
 else some true := by kernel_rfl

end Go.Sx.Try

set_option maxRecDepth 100000
namespace Go.Sx.Try
open Go Go.Sx Go.Proofs

noncomputable def l_l_eqVoteS : List (Nat × Con) := [(25, c_l_eqVote)]
theorem l_l_eqVoteS_ok : ∀ q ∈ l_l_eqVoteS, ConOk Try.prog q.1 q.2 := Try.cons_cons c_l_eqVote_ok (Try.cons_nil)
abbrev k_l_eqVoteS_4 : List Keep × List BK := ([.ro tSlIVote, .ro tSlIVote, .drop, .drop, .drop, .ro tInt64, .drop, .drop, .drop, .drop, .drop, .drop, .drop, .drop, .drop, .drop, .drop, .drop, .drop, .drop, .drop, .drop, .drop, .drop, .drop, .drop, .drop], [])
def kp_l_eqVoteS : KP := [(4, k_l_eqVoteS_4)]
noncomputable def q_l_eqVoteS (n : Nat) (x : Args [tSlIVote, tSlIVote]) := evX (false, false, []) l_l_eqVoteS kp_l_eqVoteS [none] Try.f77 (shV tBool) n (encA [tSlIVote, tSlIVote] x)
noncomputable def c_l_eqVoteS : Con := roS [tSlIVote, tSlIVote] true (shV tBool) (q_l_eqVoteS big)
theorem c_l_eqVoteS_ok : ConOk Try.prog 77 c_l_eqVoteS := roS_ok ⟨Try.f77, by kernel_rfl, rfl, by decide⟩ fun _ _ h => evX_ok l_l_eqVoteS_ok (f := Try.f77) (by kernel_rfl) rfl (by kernel_rfl) (by kernel_rfl) big h
noncomputable def Q_l_eqVoteS (n : Nat) (a0 : DSlIVote) (a1 : DSlIVote) : Option Bool := q_l_eqVoteS n (a0, a1, ())
noncomputable def r_l_eqVoteS_4 (n : Nat) (x : KD k_l_eqVoteS_4.1) (y : BD k_l_eqVoteS_4.2) := rounds (env (false, false, []) l_l_eqVoteS) kp_l_eqVoteS (body Try.f77) (finX (false, false, []) l_l_eqVoteS [none] Try.f77 (shV tBool) [.val tSlIVote (zeroD tSlIVote), .val tSlIVote (zeroD tSlIVote)]) n 4 k_l_eqVoteS_4 x y
noncomputable def R_l_eqVoteS_4 (n : Nat) (s0 : DSlIVote) (s1 : DSlIVote) (s5 : Int) : Option Bool := r_l_eqVoteS_4 n (s0, s1, s5, ()) ()
theorem Q_l_eqVoteS_eq (n : Nat) (a0 : DSlIVote) (a1 : DSlIVote) : Q_l_eqVoteS n a0 a1 =
    bif !decide ((↑(List.length a0) : Int) = (↑(List.length a1) : Int)) then some false
 else R_l_eqVoteS_4 n a0 a1 (0 : Int) := by kernel_rfl
theorem R_l_eqVoteS_4_eq (n : Nat) (s0 : DSlIVote) (s1 : DSlIVote) (s5 : Int) : R_l_eqVoteS_4 (n + 1) s0 s1 s5 =
    bif decide (s5 < (↑(List.length s0) : Int)) then
 if (0 : Int) ≤ s5 then
 (nth s0 s5.toNat).bind fun y =>
 if (0 : Int) ≤ s5 then
 (nth s1 s5.toNat).bind fun y_1 =>
 (Q_l_eqVote big y y_1).bind fun y =>
 bif !y then some false else R_l_eqVoteS_4 n s0 s1 (IntKind.i64.wrap (s5 + (1 : Int)))
 else none
 else none
 else some true := by kernel_rfl

end Go.Sx.Try

set_option maxRecDepth 100000
namespace Go.Sx.Try
open Go Go.Sx Go.Proofs

noncomputable def l_l_eqLetter : List (Nat × Con) := [(75, c_l_eqQc), (25, c_l_eqVote)]
theorem l_l_eqLetter_ok : ∀ q ∈ l_l_eqLetter, ConOk Try.prog q.1 q.2 := Try.cons_cons c_l_eqQc_ok (Try.cons_cons c_l_eqVote_ok (Try.cons_nil))
def kp_l_eqLetter : KP := []
noncomputable def q_l_eqLetter (n : Nat) (x : Args [tILetter, tILetter]) := evX (false, false, [2, 3, 5, 7, 10, 12, 15, 17, 20, 22, 25, 27, 30, 32, 36, 38]) l_l_eqLetter kp_l_eqLetter [none] Try.f30 (shV tBool) n (encA [tILetter, tILetter] x)
noncomputable def c_l_eqLetter : Con := roS [tILetter, tILetter] true (shV tBool) (q_l_eqLetter big)
theorem c_l_eqLetter_ok : ConOk Try.prog 30 c_l_eqLetter := roS_ok ⟨Try.f30, by kernel_rfl, rfl, by decide⟩ fun _ _ h => evX_ok l_l_eqLetter_ok (f := Try.f30) (by kernel_rfl) rfl (by kernel_rfl) (by kernel_rfl) big h
noncomputable def Q_l_eqLetter (n : Nat) (a0 : DILetter) (a1 : DILetter) : Option Bool := q_l_eqLetter n (a0, a1, ())
theorem Q_l_eqLetter_eq (n : Nat) (a0 : DILetter) (a1 : DILetter) : Q_l_eqLetter n a0 a1 =
    bif !decide (a0.fst = a1.fst) then some false
 else
 bif !decide (a0.snd.fst = a1.snd.fst) then some false
 else
 bif !decide (a0.snd.snd.fst = a1.snd.snd.fst) then some false
 else
 bif !decide (a0.snd.snd.snd.fst = a1.snd.snd.snd.fst) then some false
 else
 bif !decide (a0.snd.snd.snd.snd.fst = a1.snd.snd.snd.snd.fst) then some false
 else
 (Q_l_eqQc big a0.snd.snd.snd.snd.snd.fst a1.snd.snd.snd.snd.snd.fst).bind fun y =>
 bif !y then some false
 else
 (Q_l_eqVote big a0.snd.snd.snd.snd.snd.snd.fst a1.snd.snd.snd.snd.snd.snd.fst).bind fun y =>
 bif !y then some false else some true := by kernel_rfl

end Go.Sx.Try

set_option maxRecDepth 100000
namespace Go.Sx.Try
open Go Go.Sx Go.Proofs

noncomputable def l_l_eqLetterS : List (Nat × Con) := [(30, c_l_eqLetter)]
theorem l_l_eqLetterS_ok : ∀ q ∈ l_l_eqLetterS, ConOk Try.prog q.1 q.2 := Try.cons_cons c_l_eqLetter_ok (Try.cons_nil)
abbrev k_l_eqLetterS_4 : List Keep × List BK := ([.ro tSlILetter, .ro tSlILetter, .drop, .drop, .drop, .ro tInt64, .drop, .drop, .drop, .drop, .drop, .drop, .drop, .drop, .drop, .drop, .drop, .drop, .drop, .drop, .drop, .drop, .drop, .drop, .drop, .drop, .drop], [])
def kp_l_eqLetterS : KP := [(4, k_l_eqLetterS_4)]
noncomputable def q_l_eqLetterS (n : Nat) (x : Args [tSlILetter, tSlILetter]) := evX (false, false, []) l_l_eqLetterS kp_l_eqLetterS [none] Try.f46 (shV tBool) n (encA [tSlILetter, tSlILetter] x)
noncomputable def c_l_eqLetterS : Con := roS [tSlILetter, tSlILetter] true (shV tBool) (q_l_eqLetterS big)
theorem c_l_eqLetterS_ok : ConOk Try.prog 46 c_l_eqLetterS := roS_ok ⟨Try.f46, by kernel_rfl, rfl, by decide⟩ fun _ _ h => evX_ok l_l_eqLetterS_ok (f := Try.f46) (by kernel_rfl) rfl (by kernel_rfl) (by kernel_rfl) big h
noncomputable def Q_l_eqLetterS (n : Nat) (a0 : DSlILetter) (a1 : DSlILetter) : Option Bool := q_l_eqLetterS n (a0, a1, ())
noncomputable def r_l_eqLetterS_4 (n : Nat) (x : KD k_l_eqLetterS_4.1) (y : BD k_l_eqLetterS_4.2) := rounds (env (false, false, []) l_l_eqLetterS) kp_l_eqLetterS (body Try.f46) (finX (false, false, []) l_l_eqLetterS [none] Try.f46 (shV tBool) [.val tSlILetter (zeroD tSlILetter), .val tSlILetter (zeroD tSlILetter)]) n 4 k_l_eqLetterS_4 x y
noncomputable def R_l_eqLetterS_4 (n : Nat) (s0 : DSlILetter) (s1 : DSlILetter) (s5 : Int) : Option Bool := r_l_eqLetterS_4 n (s0, s1, s5, ()) ()
theorem Q_l_eqLetterS_eq (n : Nat) (a0 : DSlILetter) (a1 : DSlILetter) : Q_l_eqLetterS n a0 a1 =
    bif !decide ((↑(List.length a0) : Int) = (↑(List.length a1) : Int)) then some false
 else R_l_eqLetterS_4 n a0 a1 (0 : Int) := by kernel_rfl
theorem R_l_eqLetterS_4_eq (n : Nat) (s0 : DSlILetter) (s1 : DSlILetter) (s5 : Int) : R_l_eqLetterS_4 (n + 1) s0 s1 s5 =
    bif decide (s5 < (↑(List.length s0) : Int)) then
 if (0 : Int) ≤ s5 then
 (nth s0 s5.toNat).bind fun y =>
 if (0 : Int) ≤ s5 then
 (nth s1 s5.toNat).bind fun y_1 =>
 (Q_l_eqLetter big y y_1).bind fun y =>
 bif !y then some false else R_l_eqLetterS_4 n s0 s1 (IntKind.i64.wrap (s5 + (1 : Int)))
 else none
 else none
 else some true := by kernel_rfl

end Go.Sx.Try

set_option maxRecDepth 100000
namespace Go.Sx.Try
open Go Go.Sx Go.Proofs

noncomputable def l_l_eqPeer : List (Nat × Con) := [(75, c_l_eqQc), (25, c_l_eqVote), (63, c_l_eqIntS), (61, c_l_eqCellS), (76, c_l_eqUndoS), (77, c_l_eqVoteS), (46, c_l_eqLetterS)]
theorem l_l_eqPeer_ok : ∀ q ∈ l_l_eqPeer, ConOk Try.prog q.1 q.2 := Try.cons_cons c_l_eqQc_ok (Try.cons_cons c_l_eqVote_ok (Try.cons_cons c_l_eqIntS_ok (Try.cons_cons c_l_eqCellS_ok (Try.cons_cons c_l_eqUndoS_ok (Try.cons_cons c_l_eqVoteS_ok (Try.cons_cons c_l_eqLetterS_ok (Try.cons_nil)))))))
def kp_l_eqPeer : KP := []
noncomputable def q_l_eqPeer (n : Nat) (x : Args [tIPeer, tIPeer]) := evX (false, false, [2, 3, 5, 7, 10, 12, 15, 17, 21, 23, 27, 29, 33, 35, 39, 41, 45, 47, 51, 53, 57, 59, 63, 65, 69, 71]) l_l_eqPeer kp_l_eqPeer [none] Try.f18 (shV tBool) n (encA [tIPeer, tIPeer] x)
noncomputable def c_l_eqPeer : Con := roS [tIPeer, tIPeer] true (shV tBool) (q_l_eqPeer big)
theorem c_l_eqPeer_ok : ConOk Try.prog 18 c_l_eqPeer := roS_ok ⟨Try.f18, by kernel_rfl, rfl, by decide⟩ fun _ _ h => evX_ok l_l_eqPeer_ok (f := Try.f18) (by kernel_rfl) rfl (by kernel_rfl) (by kernel_rfl) big h
noncomputable def Q_l_eqPeer (n : Nat) (a0 : DIPeer) (a1 : DIPeer) : Option Bool := q_l_eqPeer n (a0, a1, ())
theorem Q_l_eqPeer_eq (n : Nat) (a0 : DIPeer) (a1 : DIPeer) : Q_l_eqPeer n a0 a1 =
    bif !decide (a0.fst = a1.fst) then some false
 else
 bif !decide (a0.snd.fst = a1.snd.fst) then some false
 else
 (Q_l_eqQc big a0.snd.snd.fst a1.snd.snd.fst).bind fun y =>
 bif !y then some false
 else
 (Q_l_eqQc big a0.snd.snd.snd.fst a1.snd.snd.snd.fst).bind fun y =>
 bif !y then some false
 else
 (Q_l_eqVote big a0.snd.snd.snd.snd.fst a1.snd.snd.snd.snd.fst).bind fun y =>
 bif !y then some false
 else
 (Q_l_eqIntS big a0.snd.snd.snd.snd.snd.fst a1.snd.snd.snd.snd.snd.fst).bind fun y =>
 bif !y then some false
 else
 (Q_l_eqCellS big a0.snd.snd.snd.snd.snd.snd.fst a1.snd.snd.snd.snd.snd.snd.fst).bind fun y =>
 bif !y then some false
 else
 (Q_l_eqIntS big a0.snd.snd.snd.snd.snd.snd.snd.fst a1.snd.snd.snd.snd.snd.snd.snd.fst).bind
 fun y =>
 bif !y then some false
 else
 (Q_l_eqUndoS big a0.snd.snd.snd.snd.snd.snd.snd.snd.fst
 a1.snd.snd.snd.snd.snd.snd.snd.snd.fst).bind
 fun y =>
 bif !y then some false
 else
 (Q_l_eqVoteS big a0.snd.snd.snd.snd.snd.snd.snd.snd.snd.fst
 a1.snd.snd.snd.snd.snd.snd.snd.snd.snd.fst).bind
 fun y =>
 bif !y then some false
 else
 (Q_l_eqLetterS big a0.snd.snd.snd.snd.snd.snd.snd.snd.snd.snd.fst
 a1.snd.snd.snd.snd.snd.snd.snd.snd.snd.snd.fst).bind
 fun y =>
 bif !y then some false
 else
 bif
 !decide
 (a0.snd.snd.snd.snd.snd.snd.snd.snd.snd.snd.snd.fst =
 a1.snd.snd.snd.snd.snd.snd.snd.snd.snd.snd.snd.fst) then
 some false
 else some true := by kernel_rfl

end Go.Sx.Try

set_option maxRecDepth 100000
namespace Go.Sx.Try
open Go Go.Sx Go.Proofs

noncomputable def l_l_eqPeerS : List (Nat × Con) := [(18, c_l_eqPeer)]
theorem l_l_eqPeerS_ok : ∀ q ∈ l_l_eqPeerS, ConOk Try.prog q.1 q.2 := Try.cons_cons c_l_eqPeer_ok (Try.cons_nil)
abbrev k_l_eqPeerS_4 : List Keep × List BK := ([.ro tSlLPeer, .ro tSlLPeer, .drop, .drop, .drop, .ro tInt64, .drop, .drop, .drop, .drop, .drop, .drop, .drop, .drop, .drop, .drop, .drop, .drop, .drop, .drop, .drop, .drop, .drop, .drop, .drop, .drop, .drop], [])
def kp_l_eqPeerS : KP := [(4, k_l_eqPeerS_4)]
noncomputable def q_l_eqPeerS (n : Nat) (x : Args [tSlIPeer, tSlIPeer]) := evX (false, false, []) l_l_eqPeerS kp_l_eqPeerS [none] Try.f111 (shV tBool) n (encA [tSlIPeer, tSlIPeer] x)
noncomputable def c_l_eqPeerS : Con := roS [tSlIPeer, tSlIPeer] true (shV tBool) (q_l_eqPeerS big)
theorem c_l_eqPeerS_ok : ConOk Try.prog 111 c_l_eqPeerS := roS_ok ⟨Try.f111, by kernel_rfl, rfl, by decide⟩ fun _ _ h => evX_ok l_l_eqPeerS_ok (f := Try.f111) (by kernel_rfl) rfl (by kernel_rfl) (by kernel_rfl) big h
noncomputable def Q_l_eqPeerS (n : Nat) (a0 : DSlIPeer) (a1 : DSlIPeer) : Option Bool := q_l_eqPeerS n (a0, a1, ())
noncomputable def r_l_eqPeerS_4 (n : Nat) (x : KD k_l_eqPeerS_4.1) (y : BD k_l_eqPeerS_4.2) := rounds (env (false, false, []) l_l_eqPeerS) kp_l_eqPeerS (body Try.f111) (finX (false, false, []) l_l_eqPeerS [none] Try.f111 (shV tBool) [.val tSlIPeer (zeroD tSlIPeer), .val tSlIPeer (zeroD tSlIPeer)]) n 4 k_l_eqPeerS_4 x y
noncomputable def R_l_eqPeerS_4 (n : Nat) (s0 : DSlLPeer) (s1 : DSlLPeer) (s5 : Int) : Option Bool := r_l_eqPeerS_4 n (s0, s1, s5, ()) ()
theorem Q_l_eqPeerS_eq (n : Nat) (a0 : DSlIPeer) (a1 : DSlIPeer) : Q_l_eqPeerS n a0 a1 =
    bif !decide ((↑(List.length a0) : Int) = (↑(List.length a1) : Int)) then some false
 else R_l_eqPeerS_4 n a0 a1 (0 : Int) := by kernel_rfl
theorem R_l_eqPeerS_4_eq (n : Nat) (s0 : DSlLPeer) (s1 : DSlLPeer) (s5 : Int) : R_l_eqPeerS_4 (n + 1) s0 s1 s5 =
    bif decide (s5 < (↑(List.length s0) : Int)) then
 if (0 : Int) ≤ s5 then
 (nth s0 s5.toNat).bind fun y =>
 if (0 : Int) ≤ s5 then
 (nth s1 s5.toNat).bind fun y_1 =>
 (Q_l_eqPeer big y y_1).bind fun y =>
 bif !y then some false else R_l_eqPeerS_4 n s0 s1 (IntKind.i64.wrap (s5 + (1 : Int)))
 else none
 else none
 else some true := by kernel_rfl

end Go.Sx.Try

set_option maxRecDepth 100000
namespace Go.Sx.Try
open Go Go.Sx Go.Proofs

noncomputable def l_l_eqCluster : List (Nat × Con) := [(62, c_l_eqBlockS), (111, c_l_eqPeerS), (46, c_l_eqLetterS), (77, c_l_eqVoteS), (72, c_l_eqCmdS)]
theorem l_l_eqCluster_ok : ∀ q ∈ l_l_eqCluster, ConOk Try.prog q.1 q.2 := Try.cons_cons c_l_eqBlockS_ok (Try.cons_cons c_l_eqPeerS_ok (Try.cons_cons c_l_eqLetterS_ok (Try.cons_cons c_l_eqVoteS_ok (Try.cons_cons c_l_eqCmdS_ok (Try.cons_nil)))))
def kp_l_eqCluster : KP := []
noncomputable def q_l_eqCluster (n : Nat) (x : Args [tICluster, tICluster]) := evX (false, false, [2, 3, 5, 7, 10, 12, 15, 17, 20, 22, 26, 28, 32, 34, 38, 40, 44, 46]) l_l_eqCluster kp_l_eqCluster [none] Try.f35 (shV tBool) n (encA [tICluster, tICluster] x)
noncomputable def c_l_eqCluster : Con := roS [tICluster, tICluster] true (shV tBool) (q_l_eqCluster big)
theorem c_l_eqCluster_ok : ConOk Try.prog 35 c_l_eqCluster := roS_ok ⟨Try.f35, by kernel_rfl, rfl, by decide⟩ fun _ _ h => evX_ok l_l_eqCluster_ok (f := Try.f35) (by kernel_rfl) rfl (by kernel_rfl) (by kernel_rfl) big h
noncomputable def Q_l_eqCluster (n : Nat) (a0 : DICluster) (a1 : DICluster) : Option Bool := q_l_eqCluster n (a0, a1, ())
theorem Q_l_eqCluster_eq (n : Nat) (a0 : DICluster) (a1 : DICluster) : Q_l_eqCluster n a0 a1 =
    bif !decide (a0.fst = a1.fst) then some false
 else
 bif !a0.snd.fst == a1.snd.fst then some false
 else
 bif !decide (a0.snd.snd.fst = a1.snd.snd.fst) then some false
 else
 (Q_l_eqBlockS big a0.snd.snd.snd.fst a1.snd.snd.snd.fst).bind fun y =>
 bif !y then some false
 else
 (Q_l_eqPeerS big a0.snd.snd.snd.snd.fst a1.snd.snd.snd.snd.fst).bind fun y =>
 bif !y then some false
 else
 (Q_l_eqLetterS big a0.snd.snd.snd.snd.snd.fst a1.snd.snd.snd.snd.snd.fst).bind fun y =>
 bif !y then some false
 else
 (Q_l_eqVoteS big a0.snd.snd.snd.snd.snd.snd.fst a1.snd.snd.snd.snd.snd.snd.fst).bind fun y =>
 bif !y then some false
 else
 (Q_l_eqCmdS big a0.snd.snd.snd.snd.snd.snd.snd.fst a1.snd.snd.snd.snd.snd.snd.snd.fst).bind
 fun y => bif !y then some false else some true := by kernel_rfl

end Go.Sx.Try

set_option maxRecDepth 100000
namespace Go.Sx.Try
open Go Go.Sx Go.Proofs

noncomputable def l_i_SaidTwice_1 : List (Nat × Con) := []
theorem l_i_SaidTwice_1_ok : ∀ q ∈ l_i_SaidTwice_1, ConOk Try.prog q.1 q.2 := Try.cons_nil
def kp_i_SaidTwice_1 : KP := []
noncomputable def q_i_SaidTwice_1 (n : Nat) (x : AP.denL [.ro tIVote, .mr tIVote]) := evX (false, false, [1, 2, 4, 6, 10, 12, 17, 19, 24, 26]) l_i_SaidTwice_1 kp_i_SaidTwice_1 [none] Try.f157 (shO (shV tBool) [.mr tIVote]) n (AP.encL [.ro tIVote, .mr tIVote] x)
noncomputable def c_i_SaidTwice_1 : Con := apS [.ro tIVote, .mr tIVote] true (shO (shV tBool) [.mr tIVote]) (q_i_SaidTwice_1 big)
theorem c_i_SaidTwice_1_ok : ConOk Try.prog 157 c_i_SaidTwice_1 := apS_ok ⟨Try.f157, by kernel_rfl, rfl, by decide⟩ fun _ _ h => evX_ok l_i_SaidTwice_1_ok (f := Try.f157) (by kernel_rfl) rfl (by kernel_rfl) (by kernel_rfl) big h
noncomputable def Q_i_SaidTwice_1 (n : Nat) (a0 : DIVote) (a1 : DIVote) : Option (Bool × DIVote × Unit) := q_i_SaidTwice_1 n (a0, a1, ())
theorem Q_i_SaidTwice_1_eq (n : Nat) (a0 : DIVote) (a1 : DIVote) : Q_i_SaidTwice_1 n a0 a1 =
    bif decide (a0.snd.snd.snd.fst = a1.snd.snd.snd.fst) then
 bif decide (a0.fst = a1.fst) then
 bif decide (a0.snd.fst = a1.snd.fst) then some (!decide (a0.snd.snd.fst = a1.snd.snd.fst), a1, PUnit.unit)
 else some (false, a1, PUnit.unit)
 else some (false, a1, PUnit.unit)
 else some (false, a1, PUnit.unit) := by kernel_rfl

end Go.Sx.Try

set_option maxRecDepth 100000
namespace Go.Sx.Try
open Go Go.Sx Go.Proofs

noncomputable def l_g_IndexFunc_IVote__i_SaidTwice_1 : List (Nat × Con) := [(157, c_i_SaidTwice_1)]
theorem l_g_IndexFunc_IVote__i_SaidTwice_1_ok : ∀ q ∈ l_g_IndexFunc_IVote__i_SaidTwice_1, ConOk Try.prog q.1 q.2 := Try.cons_cons c_i_SaidTwice_1_ok (Try.cons_nil)
abbrev k_g_IndexFunc_IVote__i_SaidTwice_1_2 : List Keep × List BK := ([.ro tSlIVote, .is (.fn 157 [.ptr 0 0]), .drop, .drop, .drop, .drop, .drop, .ro tInt64, .ro tInt64, .drop, .drop, .drop, .drop, .drop, .drop, .drop, .drop, .drop, .drop], [.vars [.ro tInt64, .ro tInt64, .ro tInt64, .ro tInt64]])
def kp_g_IndexFunc_IVote__i_SaidTwice_1 : KP := [(2, k_g_IndexFunc_IVote__i_SaidTwice_1_2)]
noncomputable def q_g_IndexFunc_IVote__i_SaidTwice_1 (n : Nat) (x : AP.denL [.ro tSlIVote, .fn 157 [tIVote]]) := evX (false, false, []) l_g_IndexFunc_IVote__i_SaidTwice_1 kp_g_IndexFunc_IVote__i_SaidTwice_1 [none] Try.f158 (shO (shV tInt) [.fn 157 [tIVote]]) n (AP.encL [.ro tSlIVote, .fn 157 [tIVote]] x)
noncomputable def c_g_IndexFunc_IVote__i_SaidTwice_1 : Con := apS [.ro tSlIVote, .fn 157 [tIVote]] true (shO (shV tInt) [.fn 157 [tIVote]]) (q_g_IndexFunc_IVote__i_SaidTwice_1 big)
theorem c_g_IndexFunc_IVote__i_SaidTwice_1_ok : ConOk Try.prog 158 c_g_IndexFunc_IVote__i_SaidTwice_1 := apS_ok ⟨Try.f158, by kernel_rfl, rfl, by decide⟩ fun _ _ h => evX_ok l_g_IndexFunc_IVote__i_SaidTwice_1_ok (f := Try.f158) (by kernel_rfl) rfl (by kernel_rfl) (by kernel_rfl) big h
noncomputable def Q_g_IndexFunc_IVote__i_SaidTwice_1 (n : Nat) (a0 : DSlIVote) (a1 : (DIVote × Unit)) : Option (Int × (DIVote × Unit) × Unit) := q_g_IndexFunc_IVote__i_SaidTwice_1 n (a0, a1, ())
noncomputable def r_g_IndexFunc_IVote__i_SaidTwice_1_2 (n : Nat) (x : KD k_g_IndexFunc_IVote__i_SaidTwice_1_2.1) (y : BD k_g_IndexFunc_IVote__i_SaidTwice_1_2.2) := rounds (env (false, false, []) l_g_IndexFunc_IVote__i_SaidTwice_1) kp_g_IndexFunc_IVote__i_SaidTwice_1 (body Try.f158) (finX (false, false, []) l_g_IndexFunc_IVote__i_SaidTwice_1 [none] Try.f158 (shO (shV tInt) [.fn 157 [tIVote]]) [AP.enc (.ro tSlIVote) (zeroD tSlIVote), AP.enc (.fn 157 [tIVote]) (zeroD tIVote, ())]) n 2 k_g_IndexFunc_IVote__i_SaidTwice_1_2 x y
noncomputable def R_g_IndexFunc_IVote__i_SaidTwice_1_2 (n : Nat) (s0 : DSlIVote) (s7 : Int) (s8 : Int) (b0_0 : Int) (b0_1 : Int) (b0_2 : Int) (b0_3 : Int) : Option (Int × (DIVote × Unit) × Unit) := r_g_IndexFunc_IVote__i_SaidTwice_1_2 n (s0, s7, s8, ()) ((b0_0, b0_1, b0_2, b0_3, ()), ())
theorem Q_g_IndexFunc_IVote__i_SaidTwice_1_eq (n : Nat) (a0 : DSlIVote) (a1 : (DIVote × Unit)) : Q_g_IndexFunc_IVote__i_SaidTwice_1 n a0 a1 =
    R_g_IndexFunc_IVote__i_SaidTwice_1_2 n a0 (↑(List.length a0) : Int) (0 : Int) a1.fst.fst a1.fst.snd.fst
 a1.fst.snd.snd.fst a1.fst.snd.snd.snd.fst := by kernel_rfl
theorem R_g_IndexFunc_IVote__i_SaidTwice_1_2_eq (n : Nat) (s0 : DSlIVote) (s7 : Int) (s8 : Int) (b0_0 : Int) (b0_1 : Int) (b0_2 : Int) (b0_3 : Int) : R_g_IndexFunc_IVote__i_SaidTwice_1_2 (n + 1) s0 s7 s8 b0_0 b0_1 b0_2 b0_3 =
    bif decide (s8 < s7) then
 if (0 : Int) ≤ s8 then
 (nth s0 s8.toNat).bind fun y =>
 (Q_i_SaidTwice_1 big y (b0_0, b0_1, b0_2, b0_3, ())).bind fun y =>
 bif y.fst then some (s8, y.snd, PUnit.unit)
 else
 R_g_IndexFunc_IVote__i_SaidTwice_1_2 n s0 s7 (IntKind.i64.wrap (s8 + (1 : Int))) y.snd.fst.fst
 y.snd.fst.snd.fst y.snd.fst.snd.snd.fst y.snd.fst.snd.snd.snd.fst
 else none
 else some ((-1 : Int), ((b0_0, b0_1, b0_2, b0_3, PUnit.unit), PUnit.unit), PUnit.unit) := by kernel_rfl

end Go.Sx.Try

set_option maxRecDepth 100000
namespace Go.Sx.Try
open Go Go.Sx Go.Proofs

noncomputable def l_g_ContainsFunc_IVote__i_SaidTwice_1 : List (Nat × Con) := [(158, c_g_IndexFunc_IVote__i_SaidTwice_1)]
theorem l_g_ContainsFunc_IVote__i_SaidTwice_1_ok : ∀ q ∈ l_g_ContainsFunc_IVote__i_SaidTwice_1, ConOk Try.prog q.1 q.2 := Try.cons_cons c_g_IndexFunc_IVote__i_SaidTwice_1_ok (Try.cons_nil)
def kp_g_ContainsFunc_IVote__i_SaidTwice_1 : KP := []
noncomputable def q_g_ContainsFunc_IVote__i_SaidTwice_1 (n : Nat) (x : AP.denL [.ro tSlIVote, .fn 157 [tIVote]]) := evX (false, false, []) l_g_ContainsFunc_IVote__i_SaidTwice_1 kp_g_ContainsFunc_IVote__i_SaidTwice_1 [none] Try.f107 (shO (shV tBool) [.fn 157 [tIVote]]) n (AP.encL [.ro tSlIVote, .fn 157 [tIVote]] x)
noncomputable def c_g_ContainsFunc_IVote__i_SaidTwice_1 : Con := apS [.ro tSlIVote, .fn 157 [tIVote]] true (shO (shV tBool) [.fn 157 [tIVote]]) (q_g_ContainsFunc_IVote__i_SaidTwice_1 big)
theorem c_g_ContainsFunc_IVote__i_SaidTwice_1_ok : ConOk Try.prog 107 c_g_ContainsFunc_IVote__i_SaidTwice_1 := apS_ok ⟨Try.f107, by kernel_rfl, rfl, by decide⟩ fun _ _ h => evX_ok l_g_ContainsFunc_IVote__i_SaidTwice_1_ok (f := Try.f107) (by kernel_rfl) rfl (by kernel_rfl) (by kernel_rfl) big h
noncomputable def Q_g_ContainsFunc_IVote__i_SaidTwice_1 (n : Nat) (a0 : DSlIVote) (a1 : (DIVote × Unit)) : Option (Bool × (DIVote × Unit) × Unit) := q_g_ContainsFunc_IVote__i_SaidTwice_1 n (a0, a1, ())
theorem Q_g_ContainsFunc_IVote__i_SaidTwice_1_eq (n : Nat) (a0 : DSlIVote) (a1 : (DIVote × Unit)) : Q_g_ContainsFunc_IVote__i_SaidTwice_1 n a0 a1 =
    (Q_g_IndexFunc_IVote__i_SaidTwice_1 big a0 a1).bind fun y => some (decide ((0 : Int) ≤ y.fst), y.snd) := by kernel_rfl

end Go.Sx.Try

set_option maxRecDepth 100000
namespace Go.Sx.Try
open Go Go.Sx Go.Proofs

noncomputable def l_i_SaidTwice : List (Nat × Con) := [(107, c_g_ContainsFunc_IVote__i_SaidTwice_1)]
theorem l_i_SaidTwice_ok : ∀ q ∈ l_i_SaidTwice, ConOk Try.prog q.1 q.2 := Try.cons_cons c_g_ContainsFunc_IVote__i_SaidTwice_1_ok (Try.cons_nil)
abbrev k_i_SaidTwice_2 : List Keep × List BK := ([.ro tSlIVote, .drop, .drop, .drop, .drop, .ro tSlIVote, .ro tInt64, .ro tInt64, .drop, .drop, .drop, .drop, .drop, .drop, .drop, .drop, .drop, .drop], [])
def kp_i_SaidTwice : KP := [(2, k_i_SaidTwice_2)]
noncomputable def q_i_SaidTwice (n : Nat) (x : Args [tSlIVote]) := evX (false, false, []) l_i_SaidTwice kp_i_SaidTwice [none] Try.f106 (shV tBool) n (encA [tSlIVote] x)
noncomputable def c_i_SaidTwice : Con := roS [tSlIVote] true (shV tBool) (q_i_SaidTwice big)
theorem c_i_SaidTwice_ok : ConOk Try.prog 106 c_i_SaidTwice := roS_ok ⟨Try.f106, by kernel_rfl, rfl, by decide⟩ fun _ _ h => evX_ok l_i_SaidTwice_ok (f := Try.f106) (by kernel_rfl) rfl (by kernel_rfl) (by kernel_rfl) big h
noncomputable def Q_i_SaidTwice (n : Nat) (a0 : DSlIVote) : Option Bool := q_i_SaidTwice n (a0, ())
noncomputable def r_i_SaidTwice_2 (n : Nat) (x : KD k_i_SaidTwice_2.1) (y : BD k_i_SaidTwice_2.2) := rounds (env (false, false, []) l_i_SaidTwice) kp_i_SaidTwice (body Try.f106) (finX (false, false, []) l_i_SaidTwice [none] Try.f106 (shV tBool) [.val tSlIVote (zeroD tSlIVote)]) n 2 k_i_SaidTwice_2 x y
noncomputable def R_i_SaidTwice_2 (n : Nat) (s0 : DSlIVote) (s5 : DSlIVote) (s6 : Int) (s7 : Int) : Option Bool := r_i_SaidTwice_2 n (s0, s5, s6, s7, ()) ()
theorem Q_i_SaidTwice_eq (n : Nat) (a0 : DSlIVote) : Q_i_SaidTwice n a0 =
    R_i_SaidTwice_2 n a0 a0 (↑(List.length a0) : Int) (0 : Int) := by kernel_rfl
theorem R_i_SaidTwice_2_eq (n : Nat) (s0 : DSlIVote) (s5 : DSlIVote) (s6 : Int) (s7 : Int) : R_i_SaidTwice_2 (n + 1) s0 s5 s6 s7 =
    bif decide (s7 < s6) then
 if (0 : Int) ≤ s7 then
 (nth s5 s7.toNat).bind fun y =>
 if (0 : Int) ≤ s7 then
 if s7 ≤ (↑(List.length s0) : Int) then
 (Q_g_ContainsFunc_IVote__i_SaidTwice_1 big (List.take (s7.toNat - (0 : Nat)) (List.drop (0 : Nat) s0))
 (y, ())).bind
 fun y => bif y.fst then some true else R_i_SaidTwice_2 n s0 s5 s6 (IntKind.i64.wrap (s7 + (1 : Int)))
 else none
 else none
 else none
 else some false := by kernel_rfl

end Go.Sx.Try

set_option maxRecDepth 100000
namespace Go.Sx.Try
open Go Go.Sx Go.Proofs

noncomputable def l_s_SaidTwice : List (Nat × Con) := []
theorem l_s_SaidTwice_ok : ∀ q ∈ l_s_SaidTwice, ConOk Try.prog q.1 q.2 := Try.cons_nil
abbrev k_s_SaidTwice_2 : List Keep × List BK := ([.ro tSlIVote, .drop, .drop, .ro tInt64, .drop, .drop, .drop, .drop, .drop, .drop, .drop, .drop, .drop, .drop, .drop, .drop, .drop, .drop, .drop, .drop, .drop, .drop, .drop, .drop, .drop, .drop, .drop, .drop, .drop, .drop, .drop, .drop, .drop, .drop, .drop, .drop, .drop, .drop, .drop, .drop, .drop, .drop, .drop, .drop, .drop, .drop, .drop, .drop, .drop, .drop, .drop, .drop], [])
abbrev k_s_SaidTwice_5 : List Keep × List BK := ([.ro tSlIVote, .drop, .drop, .ro tInt64, .ro tInt64, .drop, .drop, .drop, .drop, .drop, .drop, .drop, .drop, .drop, .drop, .drop, .drop, .drop, .drop, .drop, .drop, .drop, .drop, .drop, .drop, .drop, .drop, .drop, .drop, .drop, .drop, .drop, .drop, .drop, .drop, .drop, .drop, .drop, .drop, .drop, .drop, .drop, .drop, .drop, .drop, .drop, .drop, .drop, .drop, .drop, .drop, .drop], [])
def kp_s_SaidTwice : KP := [(2, k_s_SaidTwice_2), (5, k_s_SaidTwice_5)]
noncomputable def q_s_SaidTwice (n : Nat) (x : Args [tSlIVote]) := evX (false, false, [5, 6, 26, 28, 32, 34, 39, 41, 46, 48]) l_s_SaidTwice kp_s_SaidTwice [none] Try.f104 (shV tBool) n (encA [tSlIVote] x)
noncomputable def c_s_SaidTwice : Con := roS [tSlIVote] true (shV tBool) (q_s_SaidTwice big)
theorem c_s_SaidTwice_ok : ConOk Try.prog 104 c_s_SaidTwice := roS_ok ⟨Try.f104, by kernel_rfl, rfl, by decide⟩ fun _ _ h => evX_ok l_s_SaidTwice_ok (f := Try.f104) (by kernel_rfl) rfl (by kernel_rfl) (by kernel_rfl) big h
noncomputable def Q_s_SaidTwice (n : Nat) (a0 : DSlIVote) : Option Bool := q_s_SaidTwice n (a0, ())
noncomputable def r_s_SaidTwice_2 (n : Nat) (x : KD k_s_SaidTwice_2.1) (y : BD k_s_SaidTwice_2.2) := rounds (env (false, false, [5, 6, 26, 28, 32, 34, 39, 41, 46, 48]) l_s_SaidTwice) kp_s_SaidTwice (body Try.f104) (finX (false, false, [5, 6, 26, 28, 32, 34, 39, 41, 46, 48]) l_s_SaidTwice [none] Try.f104 (shV tBool) [.val tSlIVote (zeroD tSlIVote)]) n 2 k_s_SaidTwice_2 x y
noncomputable def R_s_SaidTwice_2 (n : Nat) (s0 : DSlIVote) (s3 : Int) : Option Bool := r_s_SaidTwice_2 n (s0, s3, ()) ()
noncomputable def r_s_SaidTwice_5 (n : Nat) (x : KD k_s_SaidTwice_5.1) (y : BD k_s_SaidTwice_5.2) := rounds (env (false, false, [5, 6, 26, 28, 32, 34, 39, 41, 46, 48]) l_s_SaidTwice) kp_s_SaidTwice (body Try.f104) (finX (false, false, [5, 6, 26, 28, 32, 34, 39, 41, 46, 48]) l_s_SaidTwice [none] Try.f104 (shV tBool) [.val tSlIVote (zeroD tSlIVote)]) n 5 k_s_SaidTwice_5 x y
noncomputable def R_s_SaidTwice_5 (n : Nat) (s0 : DSlIVote) (s3 : Int) (s4 : Int) : Option Bool := r_s_SaidTwice_5 n (s0, s3, s4, ()) ()
theorem Q_s_SaidTwice_eq (n : Nat) (a0 : DSlIVote) : Q_s_SaidTwice n a0 =
    R_s_SaidTwice_2 n a0 (0 : Int) := by kernel_rfl
theorem R_s_SaidTwice_2_eq (n : Nat) (s0 : DSlIVote) (s3 : Int) : R_s_SaidTwice_2 (n + 1) s0 s3 =
    bif decide (s3 < (↑(List.length s0) : Int)) then R_s_SaidTwice_5 n s0 s3 (0 : Int) else some false := by kernel_rfl
theorem R_s_SaidTwice_5_eq (n : Nat) (s0 : DSlIVote) (s3 : Int) (s4 : Int) : R_s_SaidTwice_5 (n + 1) s0 s3 s4 =
    bif decide (s4 < s3) then
 if (0 : Int) ≤ s3 then
 (nth s0 s3.toNat).bind fun y =>
 if (0 : Int) ≤ s4 then
 (nth s0 s4.toNat).bind fun y_1 =>
 bif decide (y.snd.snd.snd.fst = y_1.snd.snd.snd.fst) then
 bif decide (y.fst = y_1.fst) then
 bif decide (y.snd.fst = y_1.snd.fst) then
 bif !decide (y.snd.snd.fst = y_1.snd.snd.fst) then some true
 else R_s_SaidTwice_5 n s0 s3 (IntKind.i64.wrap (s4 + (1 : Int)))
 else R_s_SaidTwice_5 n s0 s3 (IntKind.i64.wrap (s4 + (1 : Int)))
 else R_s_SaidTwice_5 n s0 s3 (IntKind.i64.wrap (s4 + (1 : Int)))
 else R_s_SaidTwice_5 n s0 s3 (IntKind.i64.wrap (s4 + (1 : Int)))
 else none
 else none
 else R_s_SaidTwice_2 n s0 (IntKind.i64.wrap (s3 + (1 : Int))) := by kernel_rfl

end Go.Sx.Try

set_option maxRecDepth 100000
namespace Go.Sx.Try
open Go Go.Sx Go.Proofs

noncomputable def l_i_in : List (Nat × Con) := []
theorem l_i_in_ok : ∀ q ∈ l_i_in, ConOk Try.prog q.1 q.2 := Try.cons_nil
def kp_i_in : KP := []
noncomputable def q_i_in (n : Nat) (x : Args [tInt, tInt, tInt]) := evX (false, false, []) l_i_in kp_i_in [none] Try.f98 (shV tBool) n (encA [tInt, tInt, tInt] x)
noncomputable def c_i_in : Con := roS [tInt, tInt, tInt] true (shV tBool) (q_i_in big)
theorem c_i_in_ok : ConOk Try.prog 98 c_i_in := roS_ok ⟨Try.f98, by kernel_rfl, rfl, by decide⟩ fun _ _ h => evX_ok l_i_in_ok (f := Try.f98) (by kernel_rfl) rfl (by kernel_rfl) (by kernel_rfl) big h
noncomputable def Q_i_in (n : Nat) (a0 : Int) (a1 : Int) (a2 : Int) : Option Bool := q_i_in n (a0, a1, a2, ())
theorem Q_i_in_eq (n : Nat) (a0 : Int) (a1 : Int) (a2 : Int) : Q_i_in n a0 a1 a2 =
    bif decide (a1 ≤ a0) then some (decide (a0 ≤ a2)) else some false := by kernel_rfl

end Go.Sx.Try

set_option maxRecDepth 100000
namespace Go.Sx.Try
open Go Go.Sx Go.Proofs

noncomputable def l_i_saidOk : List (Nat × Con) := [(98, c_i_in)]
theorem l_i_saidOk_ok : ∀ q ∈ l_i_saidOk, ConOk Try.prog q.1 q.2 := Try.cons_cons c_i_in_ok (Try.cons_nil)
def kp_i_saidOk : KP := []
noncomputable def q_i_saidOk (n : Nat) (x : Args [tSlIBlock, tInt, tInt, tInt]) := evX (false, false, []) l_i_saidOk kp_i_saidOk [none] Try.f159 (shV tBool) n (encA [tSlIBlock, tInt, tInt, tInt] x)
noncomputable def c_i_saidOk : Con := roS [tSlIBlock, tInt, tInt, tInt] true (shV tBool) (q_i_saidOk big)
theorem c_i_saidOk_ok : ConOk Try.prog 159 c_i_saidOk := roS_ok ⟨Try.f159, by kernel_rfl, rfl, by decide⟩ fun _ _ h => evX_ok l_i_saidOk_ok (f := Try.f159) (by kernel_rfl) rfl (by kernel_rfl) (by kernel_rfl) big h
noncomputable def Q_i_saidOk (n : Nat) (a0 : DSlIBlock) (a1 : Int) (a2 : Int) (a3 : Int) : Option Bool := q_i_saidOk n (a0, a1, a2, a3, ())
theorem Q_i_saidOk_eq (n : Nat) (a0 : DSlIBlock) (a1 : Int) (a2 : Int) (a3 : Int) : Q_i_saidOk n a0 a1 a2 a3 =
    (Q_i_in big a1 (1 : Int) (4 : Int)).bind fun y =>
 bif y then
 (Q_i_in big a2 (1 : Int) (900 : Int)).bind fun y =>
 bif y then
 (Q_i_in big a3 (1 : Int) (IntKind.i64.wrap ((↑(List.length a0) : Int) - (1 : Int)))).bind fun y =>
 bif y then if (0 : Int) ≤ a3 then (nth a0 a3.toNat).bind fun y => some (decide (y.snd.fst = a2)) else none
 else some false
 else some false
 else some false := by kernel_rfl

end Go.Sx.Try

set_option maxRecDepth 100000
namespace Go.Sx.Try
open Go Go.Sx Go.Proofs

noncomputable def l_i_isPeer : List (Nat × Con) := []
theorem l_i_isPeer_ok : ∀ q ∈ l_i_isPeer, ConOk Try.prog q.1 q.2 := Try.cons_nil
def kp_i_isPeer : KP := []
noncomputable def q_i_isPeer (n : Nat) (x : Args [tInt, tInt]) := evX (false, false, []) l_i_isPeer kp_i_isPeer [none] Try.f160 (shV tBool) n (encA [tInt, tInt] x)
noncomputable def c_i_isPeer : Con := roS [tInt, tInt] true (shV tBool) (q_i_isPeer big)
theorem c_i_isPeer_ok : ConOk Try.prog 160 c_i_isPeer := roS_ok ⟨Try.f160, by kernel_rfl, rfl, by decide⟩ fun _ _ h => evX_ok l_i_isPeer_ok (f := Try.f160) (by kernel_rfl) rfl (by kernel_rfl) (by kernel_rfl) big h
noncomputable def Q_i_isPeer (n : Nat) (a0 : Int) (a1 : Int) : Option Bool := q_i_isPeer n (a0, a1, ())
theorem Q_i_isPeer_eq (n : Nat) (a0 : Int) (a1 : Int) : Q_i_isPeer n a0 a1 =
    bif decide ((0 : Int) ≤ a0) then some (decide (a0 < a1)) else some false := by kernel_rfl

end Go.Sx.Try

set_option maxRecDepth 100000
namespace Go.Sx.Try
open Go Go.Sx Go.Proofs

noncomputable def l_i_VoteOk : List (Nat × Con) := [(98, c_i_in), (159, c_i_saidOk), (160, c_i_isPeer)]
theorem l_i_VoteOk_ok : ∀ q ∈ l_i_VoteOk, ConOk Try.prog q.1 q.2 := Try.cons_cons c_i_in_ok (Try.cons_cons c_i_saidOk_ok (Try.cons_cons c_i_isPeer_ok (Try.cons_nil)))
def kp_i_VoteOk : KP := []
noncomputable def q_i_VoteOk (n : Nat) (x : Args [tSlIBlock, tInt, tIVote]) := evX (false, false, [5, 11, 13, 15, 20]) l_i_VoteOk kp_i_VoteOk [none] Try.f109 (shV tBool) n (encA [tSlIBlock, tInt, tIVote] x)
noncomputable def c_i_VoteOk : Con := roS [tSlIBlock, tInt, tIVote] true (shV tBool) (q_i_VoteOk big)
theorem c_i_VoteOk_ok : ConOk Try.prog 109 c_i_VoteOk := roS_ok ⟨Try.f109, by kernel_rfl, rfl, by decide⟩ fun _ _ h => evX_ok l_i_VoteOk_ok (f := Try.f109) (by kernel_rfl) rfl (by kernel_rfl) (by kernel_rfl) big h
noncomputable def Q_i_VoteOk (n : Nat) (a0 : DSlIBlock) (a1 : Int) (a2 : DIVote) : Option Bool := q_i_VoteOk n (a0, a1, a2, ())
theorem Q_i_VoteOk_eq (n : Nat) (a0 : DSlIBlock) (a1 : Int) (a2 : DIVote) : Q_i_VoteOk n a0 a1 a2 =
    (Q_i_in big a1 (1 : Int) (7 : Int)).bind fun y =>
 bif y then
 (Q_i_saidOk big a0 a2.fst a2.snd.fst a2.snd.snd.fst).bind fun y =>
 bif y then (Q_i_isPeer big a2.snd.snd.snd.fst a1).bind fun y => some y else some false
 else some false := by kernel_rfl

end Go.Sx.Try

set_option maxRecDepth 100000
namespace Go.Sx.Try
open Go Go.Sx Go.Proofs

noncomputable def l_s_l01In : List (Nat × Con) := []
theorem l_s_l01In_ok : ∀ q ∈ l_s_l01In, ConOk Try.prog q.1 q.2 := Try.cons_nil
def kp_s_l01In : KP := []
noncomputable def q_s_l01In (n : Nat) (x : Args [tInt, tInt, tInt]) := evX (false, false, []) l_s_l01In kp_s_l01In [none] Try.f95 (shV tBool) n (encA [tInt, tInt, tInt] x)
noncomputable def c_s_l01In : Con := roS [tInt, tInt, tInt] true (shV tBool) (q_s_l01In big)
theorem c_s_l01In_ok : ConOk Try.prog 95 c_s_l01In := roS_ok ⟨Try.f95, by kernel_rfl, rfl, by decide⟩ fun _ _ h => evX_ok l_s_l01In_ok (f := Try.f95) (by kernel_rfl) rfl (by kernel_rfl) (by kernel_rfl) big h
noncomputable def Q_s_l01In (n : Nat) (a0 : Int) (a1 : Int) (a2 : Int) : Option Bool := q_s_l01In n (a0, a1, a2, ())
theorem Q_s_l01In_eq (n : Nat) (a0 : Int) (a1 : Int) (a2 : Int) : Q_s_l01In n a0 a1 a2 =
    bif decide (a1 ≤ a0) then some (decide (a0 ≤ a2)) else some false := by kernel_rfl

end Go.Sx.Try

set_option maxRecDepth 100000
namespace Go.Sx.Try
open Go Go.Sx Go.Proofs

noncomputable def l_s_VoteOk : List (Nat × Con) := [(95, c_s_l01In)]
theorem l_s_VoteOk_ok : ∀ q ∈ l_s_VoteOk, ConOk Try.prog q.1 q.2 := Try.cons_cons c_s_l01In_ok (Try.cons_nil)
def kp_s_VoteOk : KP := []
noncomputable def q_s_VoteOk (n : Nat) (x : Args [tSlIBlock, tInt, tIVote]) := evX (false, false, [5, 10, 15, 20, 29, 34, 39]) l_s_VoteOk kp_s_VoteOk [none] Try.f102 (shV tBool) n (encA [tSlIBlock, tInt, tIVote] x)
noncomputable def c_s_VoteOk : Con := roS [tSlIBlock, tInt, tIVote] true (shV tBool) (q_s_VoteOk big)
theorem c_s_VoteOk_ok : ConOk Try.prog 102 c_s_VoteOk := roS_ok ⟨Try.f102, by kernel_rfl, rfl, by decide⟩ fun _ _ h => evX_ok l_s_VoteOk_ok (f := Try.f102) (by kernel_rfl) rfl (by kernel_rfl) (by kernel_rfl) big h
noncomputable def Q_s_VoteOk (n : Nat) (a0 : DSlIBlock) (a1 : Int) (a2 : DIVote) : Option Bool := q_s_VoteOk n (a0, a1, a2, ())
theorem Q_s_VoteOk_eq (n : Nat) (a0 : DSlIBlock) (a1 : Int) (a2 : DIVote) : Q_s_VoteOk n a0 a1 a2 =
    (Q_s_l01In big a1 (1 : Int) (7 : Int)).bind fun y =>
 bif y then
 (Q_s_l01In big a2.fst (1 : Int) (4 : Int)).bind fun y =>
 bif y then
 (Q_s_l01In big a2.snd.fst (1 : Int) (900 : Int)).bind fun y =>
 bif y then
 (Q_s_l01In big a2.snd.snd.fst (1 : Int) (IntKind.i64.wrap ((↑(List.length a0) : Int) - (1 : Int)))).bind
 fun y =>
 bif y then
 if (0 : Int) ≤ a2.snd.snd.fst then
 (nth a0 (Int.toNat a2.snd.snd.fst)).bind fun y =>
 bif decide (y.snd.fst = a2.snd.fst) then
 (Q_s_l01In big a2.snd.snd.snd.fst (0 : Int) (IntKind.i64.wrap (a1 - (1 : Int)))).bind fun y =>
 some y
 else some false
 else none
 else some false
 else some false
 else some false
 else some false := by kernel_rfl

end Go.Sx.Try

set_option maxRecDepth 100000
namespace Go.Sx.Try
open Go Go.Sx Go.Proofs

noncomputable def l_i_Lies : List (Nat × Con) := [(160, c_i_isPeer)]
theorem l_i_Lies_ok : ∀ q ∈ l_i_Lies, ConOk Try.prog q.1 q.2 := Try.cons_cons c_i_isPeer_ok (Try.cons_nil)
def kp_i_Lies : KP := []
noncomputable def q_i_Lies (n : Nat) (x : Args [tICluster, tInt]) := evX (false, false, [2, 6, 14]) l_i_Lies kp_i_Lies [none] Try.f110 (shV tBool) n (encA [tICluster, tInt] x)
noncomputable def c_i_Lies : Con := roS [tICluster, tInt] true (shV tBool) (q_i_Lies big)
theorem c_i_Lies_ok : ConOk Try.prog 110 c_i_Lies := roS_ok ⟨Try.f110, by kernel_rfl, rfl, by decide⟩ fun _ _ h => evX_ok l_i_Lies_ok (f := Try.f110) (by kernel_rfl) rfl (by kernel_rfl) (by kernel_rfl) big h
noncomputable def Q_i_Lies (n : Nat) (a0 : DICluster) (a1 : Int) : Option Bool := q_i_Lies n (a0, a1, ())
theorem Q_i_Lies_eq (n : Nat) (a0 : DICluster) (a1 : Int) : Q_i_Lies n a0 a1 =
    (Q_i_isPeer big a1 a0.fst).bind fun y =>
 bif y then
 bif decide (a1 < (7 : Int)) then
 if a1 < (0 : Int) then none
 else
 some
 (decide
 (IntKind.i64.wrap
 (↑(BitVec.ofInt IntKind.i64.bits
 (Int.fdiv a0.snd.snd.fst ((2 : Int) ^ min a1.toNat IntKind.i64.bits)) &&&
 BitVec.ofInt IntKind.i64.bits (1 : Int)).toNat :
 Int) =
 (1 : Int)))
 else some false
 else some false := by kernel_rfl

end Go.Sx.Try

set_option maxRecDepth 100000
namespace Go.Sx.Try
open Go Go.Sx Go.Proofs

noncomputable def l_s_Lies : List (Nat × Con) := [(95, c_s_l01In)]
theorem l_s_Lies_ok : ∀ q ∈ l_s_Lies, ConOk Try.prog q.1 q.2 := Try.cons_cons c_s_l01In_ok (Try.cons_nil)
def kp_s_Lies : KP := []
noncomputable def q_s_Lies (n : Nat) (x : Args [tICluster, tInt]) := evX (false, false, [2, 5, 10, 20]) l_s_Lies kp_s_Lies [none] Try.f103 (shV tBool) n (encA [tICluster, tInt] x)
noncomputable def c_s_Lies : Con := roS [tICluster, tInt] true (shV tBool) (q_s_Lies big)
theorem c_s_Lies_ok : ConOk Try.prog 103 c_s_Lies := roS_ok ⟨Try.f103, by kernel_rfl, rfl, by decide⟩ fun _ _ h => evX_ok l_s_Lies_ok (f := Try.f103) (by kernel_rfl) rfl (by kernel_rfl) (by kernel_rfl) big h
noncomputable def Q_s_Lies (n : Nat) (a0 : DICluster) (a1 : Int) : Option Bool := q_s_Lies n (a0, a1, ())
theorem Q_s_Lies_eq (n : Nat) (a0 : DICluster) (a1 : Int) : Q_s_Lies n a0 a1 =
    bif decide ((0 : Int) < a0.fst) then
 (Q_s_l01In big a1 (0 : Int) (IntKind.i64.wrap (a0.fst - (1 : Int)))).bind fun y =>
 bif y then
 bif decide (a1 < (7 : Int)) then
 if IntKind.u64.wrap a1 < (0 : Int) then none
 else
 some
 !decide
 ((Int.fdiv a0.snd.snd.fst ((2 : Int) ^ min (IntKind.u64.wrap a1).toNat IntKind.i64.bits)).tmod
 (2 : Int) =
 (0 : Int))
 else some false
 else some false
 else some false := by kernel_rfl

end Go.Sx.Try

set_option maxRecDepth 100000
namespace Go.Sx.Try
open Go Go.Sx Go.Proofs

noncomputable def l_i_SaidOnce_1 : List (Nat × Con) := [(109, c_i_VoteOk), (110, c_i_Lies)]
theorem l_i_SaidOnce_1_ok : ∀ q ∈ l_i_SaidOnce_1, ConOk Try.prog q.1 q.2 := Try.cons_cons c_i_VoteOk_ok (Try.cons_cons c_i_Lies_ok (Try.cons_nil))
def kp_i_SaidOnce_1 : KP := []
noncomputable def q_i_SaidOnce_1 (n : Nat) (x : AP.denL [.ro tIVote, .mr tICluster]) := evX (false, false, [1, 2, 4, 6, 13]) l_i_SaidOnce_1 kp_i_SaidOnce_1 [none] Try.f108 (shO (shV tBool) [.mr tICluster]) n (AP.encL [.ro tIVote, .mr tICluster] x)
noncomputable def c_i_SaidOnce_1 : Con := apS [.ro tIVote, .mr tICluster] false (shO (shV tBool) [.mr tICluster]) (q_i_SaidOnce_1 big)
theorem c_i_SaidOnce_1_ok : ConOk Try.prog 108 c_i_SaidOnce_1 := apS_ok ⟨Try.f108, by kernel_rfl, rfl, by decide⟩ fun _ _ h => evX_ok l_i_SaidOnce_1_ok (f := Try.f108) (by kernel_rfl) rfl (by kernel_rfl) (by kernel_rfl) big h
noncomputable def Q_i_SaidOnce_1 (n : Nat) (a0 : DIVote) (a1 : DICluster) : Option (Bool × DICluster × Unit) := q_i_SaidOnce_1 n (a0, a1, ())
theorem Q_i_SaidOnce_1_eq (n : Nat) (a0 : DIVote) (a1 : DICluster) : Q_i_SaidOnce_1 n a0 a1 =
    (Q_i_VoteOk big a1.snd.snd.snd.fst a1.fst a0).bind fun y =>
 bif !y then some (true, a1, PUnit.unit)
 else (Q_i_Lies big a1 a0.snd.snd.snd.fst).bind fun y => some (y, a1, PUnit.unit) := by kernel_rfl

end Go.Sx.Try

set_option maxRecDepth 100000
namespace Go.Sx.Try
open Go Go.Sx Go.Proofs

noncomputable def l_g_IndexFunc_IVote__i_SaidOnce_1 : List (Nat × Con) := [(108, c_i_SaidOnce_1)]
theorem l_g_IndexFunc_IVote__i_SaidOnce_1_ok : ∀ q ∈ l_g_IndexFunc_IVote__i_SaidOnce_1, ConOk Try.prog q.1 q.2 := Try.cons_cons c_i_SaidOnce_1_ok (Try.cons_nil)
abbrev k_g_IndexFunc_IVote__i_SaidOnce_1_2 : List Keep × List BK := ([.ro tSlIVote, .is (.fn 108 [.ptr 0 0]), .drop, .drop, .drop, .drop, .drop, .ro tInt64, .ro tInt64, .drop, .drop, .drop, .drop, .drop, .drop, .drop, .drop, .drop, .drop], [.vars [.ro tInt64, .ro tBool, .ro tInt64, .ro tSlLBlock, .ro tSlLPeer, .ro tSlILetter, .ro tSlIVote, .ro tSlLCmd]])
def kp_g_IndexFunc_IVote__i_SaidOnce_1 : KP := [(2, k_g_IndexFunc_IVote__i_SaidOnce_1_2)]
noncomputable def q_g_IndexFunc_IVote__i_SaidOnce_1 (n : Nat) (x : AP.denL [.ro tSlIVote, .fn 108 [tICluster]]) := evX (false, false, []) l_g_IndexFunc_IVote__i_SaidOnce_1 kp_g_IndexFunc_IVote__i_SaidOnce_1 [none] Try.f158 (shO (shV tInt) [.fn 108 [tICluster]]) n (AP.encL [.ro tSlIVote, .fn 108 [tICluster]] x)
noncomputable def c_g_IndexFunc_IVote__i_SaidOnce_1 : Con := apS [.ro tSlIVote, .fn 108 [tICluster]] false (shO (shV tInt) [.fn 108 [tICluster]]) (q_g_IndexFunc_IVote__i_SaidOnce_1 big)
theorem c_g_IndexFunc_IVote__i_SaidOnce_1_ok : ConOk Try.prog 158 c_g_IndexFunc_IVote__i_SaidOnce_1 := apS_ok ⟨Try.f158, by kernel_rfl, rfl, by decide⟩ fun _ _ h => evX_ok l_g_IndexFunc_IVote__i_SaidOnce_1_ok (f := Try.f158) (by kernel_rfl) rfl (by kernel_rfl) (by kernel_rfl) big h
noncomputable def Q_g_IndexFunc_IVote__i_SaidOnce_1 (n : Nat) (a0 : DSlIVote) (a1 : (DICluster × Unit)) : Option (Int × (DICluster × Unit) × Unit) := q_g_IndexFunc_IVote__i_SaidOnce_1 n (a0, a1, ())
noncomputable def r_g_IndexFunc_IVote__i_SaidOnce_1_2 (n : Nat) (x : KD k_g_IndexFunc_IVote__i_SaidOnce_1_2.1) (y : BD k_g_IndexFunc_IVote__i_SaidOnce_1_2.2) := rounds (env (false, false, []) l_g_IndexFunc_IVote__i_SaidOnce_1) kp_g_IndexFunc_IVote__i_SaidOnce_1 (body Try.f158) (finX (false, false, []) l_g_IndexFunc_IVote__i_SaidOnce_1 [none] Try.f158 (shO (shV tInt) [.fn 108 [tICluster]]) [AP.enc (.ro tSlIVote) (zeroD tSlIVote), AP.enc (.fn 108 [tICluster]) (zeroD tICluster, ())]) n 2 k_g_IndexFunc_IVote__i_SaidOnce_1_2 x y
noncomputable def R_g_IndexFunc_IVote__i_SaidOnce_1_2 (n : Nat) (s0 : DSlIVote) (s7 : Int) (s8 : Int) (b0_0 : Int) (b0_1 : Bool) (b0_2 : Int) (b0_3 : DSlLBlock) (b0_4 : DSlLPeer) (b0_5 : DSlILetter) (b0_6 : DSlIVote) (b0_7 : DSlLCmd) : Option (Int × (DICluster × Unit) × Unit) := r_g_IndexFunc_IVote__i_SaidOnce_1_2 n (s0, s7, s8, ()) ((b0_0, b0_1, b0_2, b0_3, b0_4, b0_5, b0_6, b0_7, ()), ())
theorem Q_g_IndexFunc_IVote__i_SaidOnce_1_eq (n : Nat) (a0 : DSlIVote) (a1 : (DICluster × Unit)) : Q_g_IndexFunc_IVote__i_SaidOnce_1 n a0 a1 =
    R_g_IndexFunc_IVote__i_SaidOnce_1_2 n a0 (↑(List.length a0) : Int) (0 : Int) a1.fst.fst a1.fst.snd.fst
 a1.fst.snd.snd.fst a1.fst.snd.snd.snd.fst a1.fst.snd.snd.snd.snd.fst a1.fst.snd.snd.snd.snd.snd.fst
 a1.fst.snd.snd.snd.snd.snd.snd.fst a1.fst.snd.snd.snd.snd.snd.snd.snd.fst := by kernel_rfl
theorem R_g_IndexFunc_IVote__i_SaidOnce_1_2_eq (n : Nat) (s0 : DSlIVote) (s7 : Int) (s8 : Int) (b0_0 : Int) (b0_1 : Bool) (b0_2 : Int) (b0_3 : DSlLBlock) (b0_4 : DSlLPeer) (b0_5 : DSlILetter) (b0_6 : DSlIVote) (b0_7 : DSlLCmd) : R_g_IndexFunc_IVote__i_SaidOnce_1_2 (n + 1) s0 s7 s8 b0_0 b0_1 b0_2 b0_3 b0_4 b0_5 b0_6 b0_7 =
    bif decide (s8 < s7) then
 if (0 : Int) ≤ s8 then
 (nth s0 s8.toNat).bind fun y =>
 (Q_i_SaidOnce_1 big y (b0_0, b0_1, b0_2, b0_3, b0_4, b0_5, b0_6, b0_7, ())).bind fun y =>
 bif y.fst then some (s8, y.snd, PUnit.unit)
 else
 R_g_IndexFunc_IVote__i_SaidOnce_1_2 n s0 s7 (IntKind.i64.wrap (s8 + (1 : Int))) y.snd.fst.fst
 y.snd.fst.snd.fst y.snd.fst.snd.snd.fst y.snd.fst.snd.snd.snd.fst y.snd.fst.snd.snd.snd.snd.fst
 y.snd.fst.snd.snd.snd.snd.snd.fst y.snd.fst.snd.snd.snd.snd.snd.snd.fst
 y.snd.fst.snd.snd.snd.snd.snd.snd.snd.fst
 else none
 else some ((-1 : Int), ((b0_0, b0_1, b0_2, b0_3, b0_4, b0_5, b0_6, b0_7, PUnit.unit), PUnit.unit), PUnit.unit) := by kernel_rfl

end Go.Sx.Try

set_option maxRecDepth 100000
namespace Go.Sx.Try
open Go Go.Sx Go.Proofs

noncomputable def l_g_ContainsFunc_IVote__i_SaidOnce_1 : List (Nat × Con) := [(158, c_g_IndexFunc_IVote__i_SaidOnce_1)]
theorem l_g_ContainsFunc_IVote__i_SaidOnce_1_ok : ∀ q ∈ l_g_ContainsFunc_IVote__i_SaidOnce_1, ConOk Try.prog q.1 q.2 := Try.cons_cons c_g_IndexFunc_IVote__i_SaidOnce_1_ok (Try.cons_nil)
def kp_g_ContainsFunc_IVote__i_SaidOnce_1 : KP := []
noncomputable def q_g_ContainsFunc_IVote__i_SaidOnce_1 (n : Nat) (x : AP.denL [.ro tSlIVote, .fn 108 [tICluster]]) := evX (false, false, []) l_g_ContainsFunc_IVote__i_SaidOnce_1 kp_g_ContainsFunc_IVote__i_SaidOnce_1 [none] Try.f107 (shO (shV tBool) [.fn 108 [tICluster]]) n (AP.encL [.ro tSlIVote, .fn 108 [tICluster]] x)
noncomputable def c_g_ContainsFunc_IVote__i_SaidOnce_1 : Con := apS [.ro tSlIVote, .fn 108 [tICluster]] false (shO (shV tBool) [.fn 108 [tICluster]]) (q_g_ContainsFunc_IVote__i_SaidOnce_1 big)
theorem c_g_ContainsFunc_IVote__i_SaidOnce_1_ok : ConOk Try.prog 107 c_g_ContainsFunc_IVote__i_SaidOnce_1 := apS_ok ⟨Try.f107, by kernel_rfl, rfl, by decide⟩ fun _ _ h => evX_ok l_g_ContainsFunc_IVote__i_SaidOnce_1_ok (f := Try.f107) (by kernel_rfl) rfl (by kernel_rfl) (by kernel_rfl) big h
noncomputable def Q_g_ContainsFunc_IVote__i_SaidOnce_1 (n : Nat) (a0 : DSlIVote) (a1 : (DICluster × Unit)) : Option (Bool × (DICluster × Unit) × Unit) := q_g_ContainsFunc_IVote__i_SaidOnce_1 n (a0, a1, ())
theorem Q_g_ContainsFunc_IVote__i_SaidOnce_1_eq (n : Nat) (a0 : DSlIVote) (a1 : (DICluster × Unit)) : Q_g_ContainsFunc_IVote__i_SaidOnce_1 n a0 a1 =
    (Q_g_IndexFunc_IVote__i_SaidOnce_1 big a0 a1).bind fun y => some (decide ((0 : Int) ≤ y.fst), y.snd) := by kernel_rfl

end Go.Sx.Try

set_option maxRecDepth 100000
namespace Go.Sx.Try
open Go Go.Sx Go.Proofs

noncomputable def l_i_SaidOnce : List (Nat × Con) := [(106, c_i_SaidTwice), (107, c_g_ContainsFunc_IVote__i_SaidOnce_1)]
theorem l_i_SaidOnce_ok : ∀ q ∈ l_i_SaidOnce, ConOk Try.prog q.1 q.2 := Try.cons_cons c_i_SaidTwice_ok (Try.cons_cons c_g_ContainsFunc_IVote__i_SaidOnce_1_ok (Try.cons_nil))
def kp_i_SaidOnce : KP := []
noncomputable def q_i_SaidOnce (n : Nat) (x : Args [tICluster]) := evX (false, false, [1, 3, 8]) l_i_SaidOnce kp_i_SaidOnce [none] Try.f34 (shV tBool) n (encA [tICluster] x)
noncomputable def c_i_SaidOnce : Con := roS [tICluster] true (shV tBool) (q_i_SaidOnce big)
theorem c_i_SaidOnce_ok : ConOk Try.prog 34 c_i_SaidOnce := roS_ok ⟨Try.f34, by kernel_rfl, rfl, by decide⟩ fun _ _ h => evX_ok l_i_SaidOnce_ok (f := Try.f34) (by kernel_rfl) rfl (by kernel_rfl) (by kernel_rfl) big h
noncomputable def Q_i_SaidOnce (n : Nat) (a0 : DICluster) : Option Bool := q_i_SaidOnce n (a0, ())
theorem Q_i_SaidOnce_eq (n : Nat) (a0 : DICluster) : Q_i_SaidOnce n a0 =
    (Q_i_SaidTwice big a0.snd.snd.snd.snd.snd.snd.fst).bind fun y =>
 bif !y then
 (Q_g_ContainsFunc_IVote__i_SaidOnce_1 big a0.snd.snd.snd.snd.snd.snd.fst (a0, ())).bind fun y => some !y.fst
 else some false := by kernel_rfl

end Go.Sx.Try

set_option maxRecDepth 100000
namespace Go.Sx.Try
open Go Go.Sx Go.Proofs

noncomputable def l_s_SaidOnce : List (Nat × Con) := [(102, c_s_VoteOk), (103, c_s_Lies), (104, c_s_SaidTwice)]
theorem l_s_SaidOnce_ok : ∀ q ∈ l_s_SaidOnce, ConOk Try.prog q.1 q.2 := Try.cons_cons c_s_VoteOk_ok (Try.cons_cons c_s_Lies_ok (Try.cons_cons c_s_SaidTwice_ok (Try.cons_nil)))
abbrev k_s_SaidOnce_2 : List Keep × List BK := ([.drop, .is (.ptr 0 0), .drop, .ro tInt64, .drop, .drop, .drop, .drop, .drop, .drop, .drop, .drop, .drop, .drop, .drop, .drop, .drop, .drop, .drop, .drop, .drop, .drop, .drop, .drop, .drop, .drop, .drop, .drop, .drop, .drop, .drop, .drop, .drop, .drop, .drop, .drop], [.vars [.ro tInt64, .ro tBool, .ro tInt64, .ro tSlLBlock, .ro tSlLPeer, .ro tSlILetter, .ro tSlIVote, .ro tSlLCmd]])
def kp_s_SaidOnce : KP := [(2, k_s_SaidOnce_2)]
noncomputable def q_s_SaidOnce (n : Nat) (x : Args [tICluster]) := evX (false, false, [1, 5, 11, 13, 15, 24, 32]) l_s_SaidOnce kp_s_SaidOnce [none] Try.f32 (shV tBool) n (encA [tICluster] x)
noncomputable def c_s_SaidOnce : Con := roS [tICluster] true (shV tBool) (q_s_SaidOnce big)
theorem c_s_SaidOnce_ok : ConOk Try.prog 32 c_s_SaidOnce := roS_ok ⟨Try.f32, by kernel_rfl, rfl, by decide⟩ fun _ _ h => evX_ok l_s_SaidOnce_ok (f := Try.f32) (by kernel_rfl) rfl (by kernel_rfl) (by kernel_rfl) big h
noncomputable def Q_s_SaidOnce (n : Nat) (a0 : DICluster) : Option Bool := q_s_SaidOnce n (a0, ())
noncomputable def r_s_SaidOnce_2 (n : Nat) (x : KD k_s_SaidOnce_2.1) (y : BD k_s_SaidOnce_2.2) := rounds (env (false, false, [1, 5, 11, 13, 15, 24, 32]) l_s_SaidOnce) kp_s_SaidOnce (body Try.f32) (finX (false, false, [1, 5, 11, 13, 15, 24, 32]) l_s_SaidOnce [none] Try.f32 (shV tBool) [.val tICluster (zeroD tICluster)]) n 2 k_s_SaidOnce_2 x y
noncomputable def R_s_SaidOnce_2 (n : Nat) (s3 : Int) (b0_0 : Int) (b0_1 : Bool) (b0_2 : Int) (b0_3 : DSlLBlock) (b0_4 : DSlLPeer) (b0_5 : DSlILetter) (b0_6 : DSlIVote) (b0_7 : DSlLCmd) : Option Bool := r_s_SaidOnce_2 n (s3, ()) ((b0_0, b0_1, b0_2, b0_3, b0_4, b0_5, b0_6, b0_7, ()), ())
theorem Q_s_SaidOnce_eq (n : Nat) (a0 : DICluster) : Q_s_SaidOnce n a0 =
    R_s_SaidOnce_2 n (0 : Int) a0.fst a0.snd.fst a0.snd.snd.fst a0.snd.snd.snd.fst a0.snd.snd.snd.snd.fst
 a0.snd.snd.snd.snd.snd.fst a0.snd.snd.snd.snd.snd.snd.fst a0.snd.snd.snd.snd.snd.snd.snd.fst := by kernel_rfl
theorem R_s_SaidOnce_2_eq (n : Nat) (s3 : Int) (b0_0 : Int) (b0_1 : Bool) (b0_2 : Int) (b0_3 : DSlLBlock) (b0_4 : DSlLPeer) (b0_5 : DSlILetter) (b0_6 : DSlIVote) (b0_7 : DSlLCmd) : R_s_SaidOnce_2 (n + 1) s3 b0_0 b0_1 b0_2 b0_3 b0_4 b0_5 b0_6 b0_7 =
    bif decide (s3 < (↑(List.length b0_6) : Int)) then
 if (0 : Int) ≤ s3 then
 (nth b0_6 s3.toNat).bind fun y =>
 (Q_s_VoteOk big b0_3 b0_0 y).bind fun y =>
 bif !y then some false
 else
 if (0 : Int) ≤ s3 then
 (nth b0_6 s3.toNat).bind fun y =>
 (Q_s_Lies big (b0_0, b0_1, b0_2, b0_3, b0_4, b0_5, b0_6, b0_7, ()) y.snd.snd.snd.fst).bind fun y =>
 bif y then some false
 else R_s_SaidOnce_2 n (IntKind.i64.wrap (s3 + (1 : Int))) b0_0 b0_1 b0_2 b0_3 b0_4 b0_5 b0_6 b0_7
 else none
 else none
 else (Q_s_SaidTwice big b0_6).bind fun y => some !y := by kernel_rfl

end Go.Sx.Try

set_option maxRecDepth 100000
namespace Go.Sx.Try
open Go Go.Sx Go.Proofs

noncomputable def l_l_FnExactSaidOnce : List (Nat × Con) := [(31, c_l_szCluster), (33, c_l_toCluster), (32, c_s_SaidOnce), (34, c_i_SaidOnce), (35, c_l_eqCluster)]
theorem l_l_FnExactSaidOnce_ok : ∀ q ∈ l_l_FnExactSaidOnce, ConOk Try.prog q.1 q.2 := Try.cons_cons c_l_szCluster_ok (Try.cons_cons c_l_toCluster_ok (Try.cons_cons c_s_SaidOnce_ok (Try.cons_cons c_i_SaidOnce_ok (Try.cons_cons c_l_eqCluster_ok (Try.cons_nil)))))
def kp_l_FnExactSaidOnce : KP := []
noncomputable def q_l_FnExactSaidOnce (n : Nat) (x : Args [tLCluster]) := evX (false, false, [1, 5]) l_l_FnExactSaidOnce kp_l_FnExactSaidOnce [none] Try.f7 (shV tBool) n (encA [tLCluster] x)
noncomputable def c_l_FnExactSaidOnce : Con := roS [tLCluster] true (shV tBool) (q_l_FnExactSaidOnce big)
theorem c_l_FnExactSaidOnce_ok : ConOk Try.prog 7 c_l_FnExactSaidOnce := roS_ok ⟨Try.f7, by kernel_rfl, rfl, by decide⟩ fun _ _ h => evX_ok l_l_FnExactSaidOnce_ok (f := Try.f7) (by kernel_rfl) rfl (by kernel_rfl) (by kernel_rfl) big h
noncomputable def Q_l_FnExactSaidOnce (n : Nat) (a0 : DLCluster) : Option Bool := q_l_FnExactSaidOnce n (a0, ())
theorem Q_l_FnExactSaidOnce_eq (n : Nat) (a0 : DLCluster) : Q_l_FnExactSaidOnce n a0 =
    (Q_l_szCluster big a0 (1048576 : Int)).bind fun y =>
 bif decide (y < (0 : Int)) then some true
 else
 (Q_l_toCluster big a0).bind fun y =>
 (Q_s_SaidOnce big y).bind fun y =>
 (Q_l_toCluster big a0).bind fun y_1 =>
 (Q_i_SaidOnce big y_1).bind fun y_2 =>
 bif !y_2 == y then some false
 else
 (Q_l_toCluster big a0).bind fun y =>
 (Q_l_eqCluster big y_1 y).bind fun y => bif !y then some false else some true := by kernel_rfl

end Go.Sx.Try
