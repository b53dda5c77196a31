/- The functions of the seat: what each comes to. -/
import Derived.Test.YtbamlihfaobfeaaTypes
set_option linter.unusedVariables false
set_option linter.unusedSimpArgs false
set_option maxRecDepth 100000
namespace Go.Sx.Try
open Go Go.Sx Go.Proofs

noncomputable def l_l_szIntS : List (Nat × Con) := []
theorem l_l_szIntS_ok : ∀ q ∈ l_l_szIntS, ConOk Try.prog q.1 q.2 := Try.cons_nil
def kp_l_szIntS : KP := []
noncomputable def q_l_szIntS (n : Nat) (x : Args [tSlInt, tInt]) := evX (false, false, []) l_l_szIntS kp_l_szIntS [none] Try.f84 (shV tInt) n (encA [tSlInt, tInt] x)
noncomputable def c_l_szIntS : Con := roS [tSlInt, tInt] true (shV tInt) (q_l_szIntS big)
theorem c_l_szIntS_ok : ConOk Try.prog 84 c_l_szIntS := roS_ok ⟨Try.f84, by kernel_rfl, rfl, by decide⟩ fun _ _ h => evX_ok l_l_szIntS_ok (f := Try.f84) (by kernel_rfl) rfl (by kernel_rfl) (by kernel_rfl) big h
noncomputable def Q_l_szIntS (n : Nat) (a0 : DSlInt) (a1 : Int) : Option Int := q_l_szIntS n (a0, a1, ())
theorem Q_l_szIntS_eq (n : Nat) (a0 : DSlInt) (a1 : Int) : Q_l_szIntS n a0 a1 =
    bif decide (IntKind.i64.wrap (a1 - (↑(List.length a0) : Int)) < (0 : Int)) then some (-1 : Int)
 else some (IntKind.i64.wrap (a1 - (↑(List.length a0) : Int))) := by kernel_rfl

end Go.Sx.Try

set_option maxRecDepth 100000
namespace Go.Sx.Try
open Go Go.Sx Go.Proofs

noncomputable def l_l_szCell : List (Nat × Con) := []
theorem l_l_szCell_ok : ∀ q ∈ l_l_szCell, ConOk Try.prog q.1 q.2 := Try.cons_nil
def kp_l_szCell : KP := []
noncomputable def q_l_szCell (n : Nat) (x : Args [tLCell, tInt]) := evX (false, false, [2, 6]) l_l_szCell kp_l_szCell [none] Try.f148 (shV tInt) n (encA [tLCell, tInt] x)
noncomputable def c_l_szCell : Con := roS [tLCell, tInt] true (shV tInt) (q_l_szCell big)
theorem c_l_szCell_ok : ConOk Try.prog 148 c_l_szCell := roS_ok ⟨Try.f148, by kernel_rfl, rfl, by decide⟩ fun _ _ h => evX_ok l_l_szCell_ok (f := Try.f148) (by kernel_rfl) rfl (by kernel_rfl) (by kernel_rfl) big h
noncomputable def Q_l_szCell (n : Nat) (a0 : DLCell) (a1 : Int) : Option Int := q_l_szCell n (a0, a1, ())
theorem Q_l_szCell_eq (n : Nat) (a0 : DLCell) (a1 : Int) : Q_l_szCell n a0 a1 =
    bif decide (IntKind.i64.wrap (a1 - (↑(ByteArray.size a0.fst) : Int)) < (0 : Int)) then some (-1 : Int)
 else some (IntKind.i64.wrap (a1 - (↑(ByteArray.size a0.fst) : Int))) := by kernel_rfl

end Go.Sx.Try

set_option maxRecDepth 100000
namespace Go.Sx.Try
open Go Go.Sx Go.Proofs

noncomputable def l_l_szCellS : List (Nat × Con) := [(148, c_l_szCell)]
theorem l_l_szCellS_ok : ∀ q ∈ l_l_szCellS, ConOk Try.prog q.1 q.2 := Try.cons_cons c_l_szCell_ok (Try.cons_nil)
abbrev k_l_szCellS_5 : List Keep × List BK := ([.ro tSlICell, .ro tInt64, .drop, .drop, .drop, .ro tInt64, .drop, .drop, .drop, .drop, .drop, .drop, .drop, .drop, .drop, .drop, .drop, .drop, .drop, .drop, .drop, .drop, .drop, .drop, .drop, .drop, .drop], [])
def kp_l_szCellS : KP := [(5, k_l_szCellS_5)]
noncomputable def q_l_szCellS (n : Nat) (x : Args [tSlLCell, tInt]) := evX (false, false, []) l_l_szCellS kp_l_szCellS [none] Try.f85 (shV tInt) n (encA [tSlLCell, tInt] x)
noncomputable def c_l_szCellS : Con := roS [tSlLCell, tInt] true (shV tInt) (q_l_szCellS big)
theorem c_l_szCellS_ok : ConOk Try.prog 85 c_l_szCellS := roS_ok ⟨Try.f85, by kernel_rfl, rfl, by decide⟩ fun _ _ h => evX_ok l_l_szCellS_ok (f := Try.f85) (by kernel_rfl) rfl (by kernel_rfl) (by kernel_rfl) big h
noncomputable def Q_l_szCellS (n : Nat) (a0 : DSlLCell) (a1 : Int) : Option Int := q_l_szCellS n (a0, a1, ())
noncomputable def r_l_szCellS_5 (n : Nat) (x : KD k_l_szCellS_5.1) (y : BD k_l_szCellS_5.2) := rounds (env (false, false, []) l_l_szCellS) kp_l_szCellS (body Try.f85) (finX (false, false, []) l_l_szCellS [none] Try.f85 (shV tInt) [.val tSlLCell (zeroD tSlLCell), .val tInt (zeroD tInt)]) n 5 k_l_szCellS_5 x y
noncomputable def R_l_szCellS_5 (n : Nat) (s0 : DSlICell) (s1 : Int) (s5 : Int) : Option Int := r_l_szCellS_5 n (s0, s1, s5, ()) ()
theorem Q_l_szCellS_eq (n : Nat) (a0 : DSlLCell) (a1 : Int) : Q_l_szCellS n a0 a1 =
    bif decide (IntKind.i64.wrap (a1 - (↑(List.length a0) : Int)) < (0 : Int)) then some (-1 : Int)
 else R_l_szCellS_5 n a0 (IntKind.i64.wrap (a1 - (↑(List.length a0) : Int))) (0 : Int) := by kernel_rfl
theorem R_l_szCellS_5_eq (n : Nat) (s0 : DSlICell) (s1 : Int) (s5 : Int) : R_l_szCellS_5 (n + 1) s0 s1 s5 =
    bif decide (s5 < (↑(List.length s0) : Int)) then
 if (0 : Int) ≤ s5 then
 (nth s0 s5.toNat).bind fun y =>
 (Q_l_szCell big y s1).bind fun y =>
 bif decide (y < (0 : Int)) then some (-1 : Int) else R_l_szCellS_5 n s0 y (IntKind.i64.wrap (s5 + (1 : Int)))
 else none
 else some s1 := by kernel_rfl

end Go.Sx.Try

set_option maxRecDepth 100000
namespace Go.Sx.Try
open Go Go.Sx Go.Proofs

noncomputable def l_l_szUndo : List (Nat × Con) := []
theorem l_l_szUndo_ok : ∀ q ∈ l_l_szUndo, ConOk Try.prog q.1 q.2 := Try.cons_nil
def kp_l_szUndo : KP := []
noncomputable def q_l_szUndo (n : Nat) (x : Args [tLUndo, tInt]) := evX (false, false, [2, 6]) l_l_szUndo kp_l_szUndo [none] Try.f149 (shV tInt) n (encA [tLUndo, tInt] x)
noncomputable def c_l_szUndo : Con := roS [tLUndo, tInt] true (shV tInt) (q_l_szUndo big)
theorem c_l_szUndo_ok : ConOk Try.prog 149 c_l_szUndo := roS_ok ⟨Try.f149, by kernel_rfl, rfl, by decide⟩ fun _ _ h => evX_ok l_l_szUndo_ok (f := Try.f149) (by kernel_rfl) rfl (by kernel_rfl) (by kernel_rfl) big h
noncomputable def Q_l_szUndo (n : Nat) (a0 : DLUndo) (a1 : Int) : Option Int := q_l_szUndo n (a0, a1, ())
theorem Q_l_szUndo_eq (n : Nat) (a0 : DLUndo) (a1 : Int) : Q_l_szUndo n a0 a1 =
    bif decide (IntKind.i64.wrap (a1 - (↑(ByteArray.size a0.fst) : Int)) < (0 : Int)) then some (-1 : Int)
 else some (IntKind.i64.wrap (a1 - (↑(ByteArray.size a0.fst) : Int))) := by kernel_rfl

end Go.Sx.Try

set_option maxRecDepth 100000
namespace Go.Sx.Try
open Go Go.Sx Go.Proofs

noncomputable def l_l_szUndoS : List (Nat × Con) := [(149, c_l_szUndo)]
theorem l_l_szUndoS_ok : ∀ q ∈ l_l_szUndoS, ConOk Try.prog q.1 q.2 := Try.cons_cons c_l_szUndo_ok (Try.cons_nil)
abbrev k_l_szUndoS_5 : List Keep × List BK := ([.ro tSlIUndo, .ro tInt64, .drop, .drop, .drop, .ro tInt64, .drop, .drop, .drop, .drop, .drop, .drop, .drop, .drop, .drop, .drop, .drop, .drop, .drop, .drop, .drop, .drop, .drop, .drop, .drop, .drop, .drop], [])
def kp_l_szUndoS : KP := [(5, k_l_szUndoS_5)]
noncomputable def q_l_szUndoS (n : Nat) (x : Args [tSlLUndo, tInt]) := evX (false, false, []) l_l_szUndoS kp_l_szUndoS [none] Try.f86 (shV tInt) n (encA [tSlLUndo, tInt] x)
noncomputable def c_l_szUndoS : Con := roS [tSlLUndo, tInt] true (shV tInt) (q_l_szUndoS big)
theorem c_l_szUndoS_ok : ConOk Try.prog 86 c_l_szUndoS := roS_ok ⟨Try.f86, by kernel_rfl, rfl, by decide⟩ fun _ _ h => evX_ok l_l_szUndoS_ok (f := Try.f86) (by kernel_rfl) rfl (by kernel_rfl) (by kernel_rfl) big h
noncomputable def Q_l_szUndoS (n : Nat) (a0 : DSlLUndo) (a1 : Int) : Option Int := q_l_szUndoS n (a0, a1, ())
noncomputable def r_l_szUndoS_5 (n : Nat) (x : KD k_l_szUndoS_5.1) (y : BD k_l_szUndoS_5.2) := rounds (env (false, false, []) l_l_szUndoS) kp_l_szUndoS (body Try.f86) (finX (false, false, []) l_l_szUndoS [none] Try.f86 (shV tInt) [.val tSlLUndo (zeroD tSlLUndo), .val tInt (zeroD tInt)]) n 5 k_l_szUndoS_5 x y
noncomputable def R_l_szUndoS_5 (n : Nat) (s0 : DSlIUndo) (s1 : Int) (s5 : Int) : Option Int := r_l_szUndoS_5 n (s0, s1, s5, ()) ()
theorem Q_l_szUndoS_eq (n : Nat) (a0 : DSlLUndo) (a1 : Int) : Q_l_szUndoS n a0 a1 =
    bif decide (IntKind.i64.wrap (a1 - (↑(List.length a0) : Int)) < (0 : Int)) then some (-1 : Int)
 else R_l_szUndoS_5 n a0 (IntKind.i64.wrap (a1 - (↑(List.length a0) : Int))) (0 : Int) := by kernel_rfl
theorem R_l_szUndoS_5_eq (n : Nat) (s0 : DSlIUndo) (s1 : Int) (s5 : Int) : R_l_szUndoS_5 (n + 1) s0 s1 s5 =
    bif decide (s5 < (↑(List.length s0) : Int)) then
 if (0 : Int) ≤ s5 then
 (nth s0 s5.toNat).bind fun y =>
 (Q_l_szUndo big y s1).bind fun y =>
 bif decide (y < (0 : Int)) then some (-1 : Int) else R_l_szUndoS_5 n s0 y (IntKind.i64.wrap (s5 + (1 : Int)))
 else none
 else some s1 := by kernel_rfl

end Go.Sx.Try

set_option maxRecDepth 100000
namespace Go.Sx.Try
open Go Go.Sx Go.Proofs

noncomputable def l_l_szVoteS : List (Nat × Con) := []
theorem l_l_szVoteS_ok : ∀ q ∈ l_l_szVoteS, ConOk Try.prog q.1 q.2 := Try.cons_nil
def kp_l_szVoteS : KP := []
noncomputable def q_l_szVoteS (n : Nat) (x : Args [tSlLVote, tInt]) := evX (false, false, []) l_l_szVoteS kp_l_szVoteS [none] Try.f87 (shV tInt) n (encA [tSlLVote, tInt] x)
noncomputable def c_l_szVoteS : Con := roS [tSlLVote, tInt] true (shV tInt) (q_l_szVoteS big)
theorem c_l_szVoteS_ok : ConOk Try.prog 87 c_l_szVoteS := roS_ok ⟨Try.f87, by kernel_rfl, rfl, by decide⟩ fun _ _ h => evX_ok l_l_szVoteS_ok (f := Try.f87) (by kernel_rfl) rfl (by kernel_rfl) (by kernel_rfl) big h
noncomputable def Q_l_szVoteS (n : Nat) (a0 : DSlLVote) (a1 : Int) : Option Int := q_l_szVoteS n (a0, a1, ())
theorem Q_l_szVoteS_eq (n : Nat) (a0 : DSlLVote) (a1 : Int) : Q_l_szVoteS n a0 a1 =
    bif decide (IntKind.i64.wrap (a1 - (↑(List.length a0) : Int)) < (0 : Int)) then some (-1 : Int)
 else some (IntKind.i64.wrap (a1 - (↑(List.length a0) : Int))) := by kernel_rfl

end Go.Sx.Try

set_option maxRecDepth 100000
namespace Go.Sx.Try
open Go Go.Sx Go.Proofs

noncomputable def l_l_szLetterS : List (Nat × Con) := []
theorem l_l_szLetterS_ok : ∀ q ∈ l_l_szLetterS, ConOk Try.prog q.1 q.2 := Try.cons_nil
def kp_l_szLetterS : KP := []
noncomputable def q_l_szLetterS (n : Nat) (x : Args [tSlLLetter, tInt]) := evX (false, false, []) l_l_szLetterS kp_l_szLetterS [none] Try.f42 (shV tInt) n (encA [tSlLLetter, tInt] x)
noncomputable def c_l_szLetterS : Con := roS [tSlLLetter, tInt] true (shV tInt) (q_l_szLetterS big)
theorem c_l_szLetterS_ok : ConOk Try.prog 42 c_l_szLetterS := roS_ok ⟨Try.f42, by kernel_rfl, rfl, by decide⟩ fun _ _ h => evX_ok l_l_szLetterS_ok (f := Try.f42) (by kernel_rfl) rfl (by kernel_rfl) (by kernel_rfl) big h
noncomputable def Q_l_szLetterS (n : Nat) (a0 : DSlLLetter) (a1 : Int) : Option Int := q_l_szLetterS n (a0, a1, ())
theorem Q_l_szLetterS_eq (n : Nat) (a0 : DSlLLetter) (a1 : Int) : Q_l_szLetterS n a0 a1 =
    bif decide (IntKind.i64.wrap (a1 - (↑(List.length a0) : Int)) < (0 : Int)) then some (-1 : Int)
 else some (IntKind.i64.wrap (a1 - (↑(List.length a0) : Int))) := by kernel_rfl

end Go.Sx.Try

set_option maxRecDepth 100000
namespace Go.Sx.Try
open Go Go.Sx Go.Proofs

noncomputable def l_l_szPeer : List (Nat × Con) := [(84, c_l_szIntS), (85, c_l_szCellS), (86, c_l_szUndoS), (87, c_l_szVoteS), (42, c_l_szLetterS)]
theorem l_l_szPeer_ok : ∀ q ∈ l_l_szPeer, ConOk Try.prog q.1 q.2 := Try.cons_cons c_l_szIntS_ok (Try.cons_cons c_l_szCellS_ok (Try.cons_cons c_l_szUndoS_ok (Try.cons_cons c_l_szVoteS_ok (Try.cons_cons c_l_szLetterS_ok (Try.cons_nil)))))
def kp_l_szPeer : KP := []
noncomputable def q_l_szPeer (n : Nat) (x : Args [tLPeer, tInt]) := evX (false, false, [2, 5, 11, 17, 23, 29, 35]) l_l_szPeer kp_l_szPeer [none] Try.f21 (shV tInt) n (encA [tLPeer, tInt] x)
noncomputable def c_l_szPeer : Con := roS [tLPeer, tInt] true (shV tInt) (q_l_szPeer big)
theorem c_l_szPeer_ok : ConOk Try.prog 21 c_l_szPeer := roS_ok ⟨Try.f21, by kernel_rfl, rfl, by decide⟩ fun _ _ h => evX_ok l_l_szPeer_ok (f := Try.f21) (by kernel_rfl) rfl (by kernel_rfl) (by kernel_rfl) big h
noncomputable def Q_l_szPeer (n : Nat) (a0 : DLPeer) (a1 : Int) : Option Int := q_l_szPeer n (a0, a1, ())
theorem Q_l_szPeer_eq (n : Nat) (a0 : DLPeer) (a1 : Int) : Q_l_szPeer n a0 a1 =
    (Q_l_szIntS big a0.snd.snd.snd.snd.snd.fst a1).bind fun y =>
 bif decide (y < (0 : Int)) then some (-1 : Int)
 else
 (Q_l_szCellS big a0.snd.snd.snd.snd.snd.snd.fst y).bind fun y =>
 bif decide (y < (0 : Int)) then some (-1 : Int)
 else
 (Q_l_szIntS big a0.snd.snd.snd.snd.snd.snd.snd.fst y).bind fun y =>
 bif decide (y < (0 : Int)) then some (-1 : Int)
 else
 (Q_l_szUndoS big a0.snd.snd.snd.snd.snd.snd.snd.snd.fst y).bind fun y =>
 bif decide (y < (0 : Int)) then some (-1 : Int)
 else
 (Q_l_szVoteS big a0.snd.snd.snd.snd.snd.snd.snd.snd.snd.fst y).bind fun y =>
 bif decide (y < (0 : Int)) then some (-1 : Int)
 else
 (Q_l_szLetterS big a0.snd.snd.snd.snd.snd.snd.snd.snd.snd.snd.fst y).bind fun y =>
 bif decide (y < (0 : Int)) then some (-1 : Int) else some y := by kernel_rfl

end Go.Sx.Try

set_option maxRecDepth 100000
namespace Go.Sx.Try
open Go Go.Sx Go.Proofs

noncomputable def l_l_toQc : List (Nat × Con) := []
theorem l_l_toQc_ok : ∀ q ∈ l_l_toQc, ConOk Try.prog q.1 q.2 := Try.cons_nil
def kp_l_toQc : KP := []
noncomputable def q_l_toQc (n : Nat) (x : Args [tLQc]) := evX (false, false, [1, 3, 4, 7, 10, 13]) l_l_toQc kp_l_toQc [none] Try.f89 (shV tIQc) n (encA [tLQc] x)
noncomputable def c_l_toQc : Con := roS [tLQc] true (shV tIQc) (q_l_toQc big)
theorem c_l_toQc_ok : ConOk Try.prog 89 c_l_toQc := roS_ok ⟨Try.f89, by kernel_rfl, rfl, by decide⟩ fun _ _ h => evX_ok l_l_toQc_ok (f := Try.f89) (by kernel_rfl) rfl (by kernel_rfl) (by kernel_rfl) big h
noncomputable def Q_l_toQc (n : Nat) (a0 : DLQc) : Option DIQc := q_l_toQc n (a0, ())
theorem Q_l_toQc_eq (n : Nat) (a0 : DLQc) : Q_l_toQc n a0 =
    some a0 := by kernel_rfl

end Go.Sx.Try

set_option maxRecDepth 100000
namespace Go.Sx.Try
open Go Go.Sx Go.Proofs

noncomputable def l_l_toVote : List (Nat × Con) := []
theorem l_l_toVote_ok : ∀ q ∈ l_l_toVote, ConOk Try.prog q.1 q.2 := Try.cons_nil
def kp_l_toVote : KP := []
noncomputable def q_l_toVote (n : Nat) (x : Args [tLVote]) := evX (false, false, [1, 3, 4, 7, 10, 13]) l_l_toVote kp_l_toVote [none] Try.f90 (shV tIVote) n (encA [tLVote] x)
noncomputable def c_l_toVote : Con := roS [tLVote] true (shV tIVote) (q_l_toVote big)
theorem c_l_toVote_ok : ConOk Try.prog 90 c_l_toVote := roS_ok ⟨Try.f90, by kernel_rfl, rfl, by decide⟩ fun _ _ h => evX_ok l_l_toVote_ok (f := Try.f90) (by kernel_rfl) rfl (by kernel_rfl) (by kernel_rfl) big h
noncomputable def Q_l_toVote (n : Nat) (a0 : DLVote) : Option DIVote := q_l_toVote n (a0, ())
theorem Q_l_toVote_eq (n : Nat) (a0 : DLVote) : Q_l_toVote n a0 =
    some a0 := by kernel_rfl

end Go.Sx.Try

set_option maxRecDepth 100000
namespace Go.Sx.Try
open Go Go.Sx Go.Proofs

noncomputable def l_l_toIntS : List (Nat × Con) := []
theorem l_l_toIntS_ok : ∀ q ∈ l_l_toIntS, ConOk Try.prog q.1 q.2 := Try.cons_nil
abbrev k_l_toIntS_3 : List Keep × List BK := ([.ro tSlInt, .drop, .drop, .is (.own 0 0), .ro tInt64, .drop, .drop, .drop, .drop, .drop, .drop, .drop, .drop, .drop, .drop, .drop, .drop, .drop, .drop, .drop, .drop, .drop], [.arr tInt64])
def kp_l_toIntS : KP := [(3, k_l_toIntS_3)]
noncomputable def q_l_toIntS (n : Nat) (x : Args [tSlInt]) := evX (false, false, []) l_l_toIntS kp_l_toIntS [some uSlInt] Try.f59 (shF uSlInt) n (encA [tSlInt] x)
noncomputable def c_l_toIntS : Con := roS [tSlInt] true (shF uSlInt) (q_l_toIntS big)
theorem c_l_toIntS_ok : ConOk Try.prog 59 c_l_toIntS := roS_ok ⟨Try.f59, by kernel_rfl, rfl, by decide⟩ fun _ _ h => evX_ok l_l_toIntS_ok (f := Try.f59) (by kernel_rfl) rfl (by kernel_rfl) (by kernel_rfl) big h
noncomputable def Q_l_toIntS (n : Nat) (a0 : DSlInt) : Option DSlInt := q_l_toIntS n (a0, ())
noncomputable def r_l_toIntS_3 (n : Nat) (x : KD k_l_toIntS_3.1) (y : BD k_l_toIntS_3.2) := rounds (env (false, false, []) l_l_toIntS) kp_l_toIntS (body Try.f59) (finX (false, false, []) l_l_toIntS [some uSlInt] Try.f59 (shF uSlInt) [.val tSlInt (zeroD tSlInt)]) n 3 k_l_toIntS_3 x y
noncomputable def R_l_toIntS_3 (n : Nat) (s0 : DSlInt) (s4 : Int) (b0 : (List Int)) : Option DSlInt := r_l_toIntS_3 n (s0, s4, ()) (b0, ())
theorem Q_l_toIntS_eq (n : Nat) (a0 : DSlInt) : Q_l_toIntS n a0 =
    if (↑(List.length a0) : Int) ≤ (↑(List.length a0) : Int) then
 if (↑(List.length a0) : Int) ≤ (↑lim : Int) then
 R_l_toIntS_3 n a0 (0 : Int)
 (List.replicate (↑(List.length a0) : Int).toNat
 (zeroD (bif (env (false, false, []) l_l_toIntS).nest then tInt.uq else tInt)))
 else none
 else none := by kernel_rfl
theorem R_l_toIntS_3_eq (n : Nat) (s0 : DSlInt) (s4 : Int) (b0 : (List Int)) : R_l_toIntS_3 (n + 1) s0 s4 b0 =
    bif decide (s4 < (↑(List.length s0) : Int)) then
 if (0 : Int) ≤ s4 then
 (nth s0 s4.toNat).bind fun y =>
 if (0 : Int) ≤ s4 then
 if s4 < (↑b0.length : Int) then
 (nth b0 s4.toNat).bind fun y_1 =>
 (updO b0 s4.toNat y).bind fun y => R_l_toIntS_3 n s0 (IntKind.i64.wrap (s4 + (1 : Int))) y
 else none
 else none
 else none
 else some b0 := by kernel_rfl

end Go.Sx.Try

set_option maxRecDepth 100000
namespace Go.Sx.Try
open Go Go.Sx Go.Proofs

noncomputable def l_l_toCell : List (Nat × Con) := []
theorem l_l_toCell_ok : ∀ q ∈ l_l_toCell, ConOk Try.prog q.1 q.2 := Try.cons_nil
def kp_l_toCell : KP := []
noncomputable def q_l_toCell (n : Nat) (x : Args [tLCell]) := evX (false, false, [1, 3, 4, 7]) l_l_toCell kp_l_toCell [none] Try.f150 (shV tICell) n (encA [tLCell] x)
noncomputable def c_l_toCell : Con := roS [tLCell] true (shV tICell) (q_l_toCell big)
theorem c_l_toCell_ok : ConOk Try.prog 150 c_l_toCell := roS_ok ⟨Try.f150, by kernel_rfl, rfl, by decide⟩ fun _ _ h => evX_ok l_l_toCell_ok (f := Try.f150) (by kernel_rfl) rfl (by kernel_rfl) (by kernel_rfl) big h
noncomputable def Q_l_toCell (n : Nat) (a0 : DLCell) : Option DICell := q_l_toCell n (a0, ())
theorem Q_l_toCell_eq (n : Nat) (a0 : DLCell) : Q_l_toCell n a0 =
    some a0 := by kernel_rfl

end Go.Sx.Try

set_option maxRecDepth 100000
namespace Go.Sx.Try
open Go Go.Sx Go.Proofs

noncomputable def l_l_toCellS : List (Nat × Con) := [(150, c_l_toCell)]
theorem l_l_toCellS_ok : ∀ q ∈ l_l_toCellS, ConOk Try.prog q.1 q.2 := Try.cons_cons c_l_toCell_ok (Try.cons_nil)
abbrev k_l_toCellS_3 : List Keep × List BK := ([.ro tSlICell, .drop, .drop, .is (.own 0 0), .ro tInt64, .drop, .drop, .drop, .drop, .drop, .drop, .drop, .drop, .drop, .drop, .drop, .drop, .drop, .drop, .drop, .drop, .drop, .drop], [.arr tXstruct_Key_string_Num_int_])
def kp_l_toCellS : KP := [(3, k_l_toCellS_3)]
noncomputable def q_l_toCellS (n : Nat) (x : Args [tSlLCell]) := evX (false, false, []) l_l_toCellS kp_l_toCellS [some uSlICell] Try.f91 (shF uSlICell) n (encA [tSlLCell] x)
noncomputable def c_l_toCellS : Con := roS [tSlLCell] true (shF uSlICell) (q_l_toCellS big)
theorem c_l_toCellS_ok : ConOk Try.prog 91 c_l_toCellS := roS_ok ⟨Try.f91, by kernel_rfl, rfl, by decide⟩ fun _ _ h => evX_ok l_l_toCellS_ok (f := Try.f91) (by kernel_rfl) rfl (by kernel_rfl) (by kernel_rfl) big h
noncomputable def Q_l_toCellS (n : Nat) (a0 : DSlLCell) : Option DSlICell := q_l_toCellS n (a0, ())
noncomputable def r_l_toCellS_3 (n : Nat) (x : KD k_l_toCellS_3.1) (y : BD k_l_toCellS_3.2) := rounds (env (false, false, []) l_l_toCellS) kp_l_toCellS (body Try.f91) (finX (false, false, []) l_l_toCellS [some uSlICell] Try.f91 (shF uSlICell) [.val tSlLCell (zeroD tSlLCell)]) n 3 k_l_toCellS_3 x y
noncomputable def R_l_toCellS_3 (n : Nat) (s0 : DSlICell) (s4 : Int) (b0 : (List DXstruct_Key_string_Num_int_)) : Option DSlICell := r_l_toCellS_3 n (s0, s4, ()) (b0, ())
theorem Q_l_toCellS_eq (n : Nat) (a0 : DSlLCell) : Q_l_toCellS n a0 =
    if (↑(List.length a0) : Int) ≤ (↑(List.length a0) : Int) then
 if (↑(List.length a0) : Int) ≤ (↑lim : Int) then
 R_l_toCellS_3 n a0 (0 : Int)
 (List.replicate (↑(List.length a0) : Int).toNat
 (zeroD (bif (env (false, false, []) l_l_toCellS).nest then tICell.uq else tICell)))
 else none
 else none := by kernel_rfl
theorem R_l_toCellS_3_eq (n : Nat) (s0 : DSlICell) (s4 : Int) (b0 : (List DXstruct_Key_string_Num_int_)) : R_l_toCellS_3 (n + 1) s0 s4 b0 =
    bif decide (s4 < (↑(List.length s0) : Int)) then
 if (0 : Int) ≤ s4 then
 (nth s0 s4.toNat).bind fun y =>
 if (0 : Int) ≤ s4 then
 if s4 < (↑b0.length : Int) then
 (nth b0 s4.toNat).bind fun y_1 =>
 (updO b0 s4.toNat y).bind fun y => R_l_toCellS_3 n s0 (IntKind.i64.wrap (s4 + (1 : Int))) y
 else none
 else none
 else none
 else some b0 := by kernel_rfl

end Go.Sx.Try

set_option maxRecDepth 100000
namespace Go.Sx.Try
open Go Go.Sx Go.Proofs

noncomputable def l_l_toUndo : List (Nat × Con) := []
theorem l_l_toUndo_ok : ∀ q ∈ l_l_toUndo, ConOk Try.prog q.1 q.2 := Try.cons_nil
def kp_l_toUndo : KP := []
noncomputable def q_l_toUndo (n : Nat) (x : Args [tLUndo]) := evX (false, false, [1, 3, 4, 7, 10]) l_l_toUndo kp_l_toUndo [none] Try.f151 (shV tIUndo) n (encA [tLUndo] x)
noncomputable def c_l_toUndo : Con := roS [tLUndo] true (shV tIUndo) (q_l_toUndo big)
theorem c_l_toUndo_ok : ConOk Try.prog 151 c_l_toUndo := roS_ok ⟨Try.f151, by kernel_rfl, rfl, by decide⟩ fun _ _ h => evX_ok l_l_toUndo_ok (f := Try.f151) (by kernel_rfl) rfl (by kernel_rfl) (by kernel_rfl) big h
noncomputable def Q_l_toUndo (n : Nat) (a0 : DLUndo) : Option DIUndo := q_l_toUndo n (a0, ())
theorem Q_l_toUndo_eq (n : Nat) (a0 : DLUndo) : Q_l_toUndo n a0 =
    some a0 := by kernel_rfl

end Go.Sx.Try

set_option maxRecDepth 100000
namespace Go.Sx.Try
open Go Go.Sx Go.Proofs

noncomputable def l_l_toUndoS : List (Nat × Con) := [(151, c_l_toUndo)]
theorem l_l_toUndoS_ok : ∀ q ∈ l_l_toUndoS, ConOk Try.prog q.1 q.2 := Try.cons_cons c_l_toUndo_ok (Try.cons_nil)
abbrev k_l_toUndoS_3 : List Keep × List BK := ([.ro tSlIUndo, .drop, .drop, .is (.own 0 0), .ro tInt64, .drop, .drop, .drop, .drop, .drop, .drop, .drop, .drop, .drop, .drop, .drop, .drop, .drop, .drop, .drop, .drop, .drop, .drop], [.arr tXstruct_Key_string_Had_bool_Num_int_])
def kp_l_toUndoS : KP := [(3, k_l_toUndoS_3)]
noncomputable def q_l_toUndoS (n : Nat) (x : Args [tSlLUndo]) := evX (false, false, []) l_l_toUndoS kp_l_toUndoS [some uSlIUndo] Try.f92 (shF uSlIUndo) n (encA [tSlLUndo] x)
noncomputable def c_l_toUndoS : Con := roS [tSlLUndo] true (shF uSlIUndo) (q_l_toUndoS big)
theorem c_l_toUndoS_ok : ConOk Try.prog 92 c_l_toUndoS := roS_ok ⟨Try.f92, by kernel_rfl, rfl, by decide⟩ fun _ _ h => evX_ok l_l_toUndoS_ok (f := Try.f92) (by kernel_rfl) rfl (by kernel_rfl) (by kernel_rfl) big h
noncomputable def Q_l_toUndoS (n : Nat) (a0 : DSlLUndo) : Option DSlIUndo := q_l_toUndoS n (a0, ())
noncomputable def r_l_toUndoS_3 (n : Nat) (x : KD k_l_toUndoS_3.1) (y : BD k_l_toUndoS_3.2) := rounds (env (false, false, []) l_l_toUndoS) kp_l_toUndoS (body Try.f92) (finX (false, false, []) l_l_toUndoS [some uSlIUndo] Try.f92 (shF uSlIUndo) [.val tSlLUndo (zeroD tSlLUndo)]) n 3 k_l_toUndoS_3 x y
noncomputable def R_l_toUndoS_3 (n : Nat) (s0 : DSlIUndo) (s4 : Int) (b0 : (List DXstruct_Key_string_Had_bool_Num_int_)) : Option DSlIUndo := r_l_toUndoS_3 n (s0, s4, ()) (b0, ())
theorem Q_l_toUndoS_eq (n : Nat) (a0 : DSlLUndo) : Q_l_toUndoS n a0 =
    if (↑(List.length a0) : Int) ≤ (↑(List.length a0) : Int) then
 if (↑(List.length a0) : Int) ≤ (↑lim : Int) then
 R_l_toUndoS_3 n a0 (0 : Int)
 (List.replicate (↑(List.length a0) : Int).toNat
 (zeroD (bif (env (false, false, []) l_l_toUndoS).nest then tIUndo.uq else tIUndo)))
 else none
 else none := by kernel_rfl
theorem R_l_toUndoS_3_eq (n : Nat) (s0 : DSlIUndo) (s4 : Int) (b0 : (List DXstruct_Key_string_Had_bool_Num_int_)) : R_l_toUndoS_3 (n + 1) s0 s4 b0 =
    bif decide (s4 < (↑(List.length s0) : Int)) then
 if (0 : Int) ≤ s4 then
 (nth s0 s4.toNat).bind fun y =>
 if (0 : Int) ≤ s4 then
 if s4 < (↑b0.length : Int) then
 (nth b0 s4.toNat).bind fun y_1 =>
 (updO b0 s4.toNat y).bind fun y => R_l_toUndoS_3 n s0 (IntKind.i64.wrap (s4 + (1 : Int))) y
 else none
 else none
 else none
 else some b0 := by kernel_rfl

end Go.Sx.Try

set_option maxRecDepth 100000
namespace Go.Sx.Try
open Go Go.Sx Go.Proofs

noncomputable def l_l_toVoteS : List (Nat × Con) := [(90, c_l_toVote)]
theorem l_l_toVoteS_ok : ∀ q ∈ l_l_toVoteS, ConOk Try.prog q.1 q.2 := Try.cons_cons c_l_toVote_ok (Try.cons_nil)
abbrev k_l_toVoteS_3 : List Keep × List BK := ([.ro tSlIVote, .drop, .drop, .is (.own 0 0), .ro tInt64, .drop, .drop, .drop, .drop, .drop, .drop, .drop, .drop, .drop, .drop, .drop, .drop, .drop, .drop, .drop, .drop, .drop, .drop], [.arr tXstruct_Phase_int_View_int_Block_int_Sign])
def kp_l_toVoteS : KP := [(3, k_l_toVoteS_3)]
noncomputable def q_l_toVoteS (n : Nat) (x : Args [tSlLVote]) := evX (false, false, []) l_l_toVoteS kp_l_toVoteS [some uSlIVote] Try.f93 (shF uSlIVote) n (encA [tSlLVote] x)
noncomputable def c_l_toVoteS : Con := roS [tSlLVote] true (shF uSlIVote) (q_l_toVoteS big)
theorem c_l_toVoteS_ok : ConOk Try.prog 93 c_l_toVoteS := roS_ok ⟨Try.f93, by kernel_rfl, rfl, by decide⟩ fun _ _ h => evX_ok l_l_toVoteS_ok (f := Try.f93) (by kernel_rfl) rfl (by kernel_rfl) (by kernel_rfl) big h
noncomputable def Q_l_toVoteS (n : Nat) (a0 : DSlLVote) : Option DSlIVote := q_l_toVoteS n (a0, ())
noncomputable def r_l_toVoteS_3 (n : Nat) (x : KD k_l_toVoteS_3.1) (y : BD k_l_toVoteS_3.2) := rounds (env (false, false, []) l_l_toVoteS) kp_l_toVoteS (body Try.f93) (finX (false, false, []) l_l_toVoteS [some uSlIVote] Try.f93 (shF uSlIVote) [.val tSlLVote (zeroD tSlLVote)]) n 3 k_l_toVoteS_3 x y
noncomputable def R_l_toVoteS_3 (n : Nat) (s0 : DSlIVote) (s4 : Int) (b0 : (List DXstruct_Phase_int_View_int_Block_int_Sign)) : Option DSlIVote := r_l_toVoteS_3 n (s0, s4, ()) (b0, ())
theorem Q_l_toVoteS_eq (n : Nat) (a0 : DSlLVote) : Q_l_toVoteS n a0 =
    if (↑(List.length a0) : Int) ≤ (↑(List.length a0) : Int) then
 if (↑(List.length a0) : Int) ≤ (↑lim : Int) then
 R_l_toVoteS_3 n a0 (0 : Int)
 (List.replicate (↑(List.length a0) : Int).toNat
 (zeroD (bif (env (false, false, []) l_l_toVoteS).nest then tIVote.uq else tIVote)))
 else none
 else none := by kernel_rfl
theorem R_l_toVoteS_3_eq (n : Nat) (s0 : DSlIVote) (s4 : Int) (b0 : (List DXstruct_Phase_int_View_int_Block_int_Sign)) : R_l_toVoteS_3 (n + 1) s0 s4 b0 =
    bif decide (s4 < (↑(List.length s0) : Int)) then
 if (0 : Int) ≤ s4 then
 (nth s0 s4.toNat).bind fun y =>
 if (0 : Int) ≤ s4 then
 if s4 < (↑b0.length : Int) then
 (nth b0 s4.toNat).bind fun y_1 =>
 (updO b0 s4.toNat y).bind fun y => R_l_toVoteS_3 n s0 (IntKind.i64.wrap (s4 + (1 : Int))) y
 else none
 else none
 else none
 else some b0 := by kernel_rfl

end Go.Sx.Try

set_option maxRecDepth 100000
namespace Go.Sx.Try
open Go Go.Sx Go.Proofs

noncomputable def l_l_toLetter : List (Nat × Con) := [(89, c_l_toQc), (90, c_l_toVote)]
theorem l_l_toLetter_ok : ∀ q ∈ l_l_toLetter, ConOk Try.prog q.1 q.2 := Try.cons_cons c_l_toQc_ok (Try.cons_cons c_l_toVote_ok (Try.cons_nil))
def kp_l_toLetter : KP := []
noncomputable def q_l_toLetter (n : Nat) (x : Args [tLLetter]) := evX (false, false, [1, 3, 4, 7, 10, 13, 16, 19, 23]) l_l_toLetter kp_l_toLetter [none] Try.f120 (shV tILetter) n (encA [tLLetter] x)
noncomputable def c_l_toLetter : Con := roS [tLLetter] true (shV tILetter) (q_l_toLetter big)
theorem c_l_toLetter_ok : ConOk Try.prog 120 c_l_toLetter := roS_ok ⟨Try.f120, by kernel_rfl, rfl, by decide⟩ fun _ _ h => evX_ok l_l_toLetter_ok (f := Try.f120) (by kernel_rfl) rfl (by kernel_rfl) (by kernel_rfl) big h
noncomputable def Q_l_toLetter (n : Nat) (a0 : DLLetter) : Option DILetter := q_l_toLetter n (a0, ())
theorem Q_l_toLetter_eq (n : Nat) (a0 : DLLetter) : Q_l_toLetter n a0 =
    some a0 := by kernel_rfl

end Go.Sx.Try

set_option maxRecDepth 100000
namespace Go.Sx.Try
open Go Go.Sx Go.Proofs

noncomputable def l_l_toLetterS : List (Nat × Con) := [(120, c_l_toLetter)]
theorem l_l_toLetterS_ok : ∀ q ∈ l_l_toLetterS, ConOk Try.prog q.1 q.2 := Try.cons_cons c_l_toLetter_ok (Try.cons_nil)
abbrev k_l_toLetterS_3 : List Keep × List BK := ([.ro tSlILetter, .drop, .drop, .is (.own 0 0), .ro tInt64, .drop, .drop, .drop, .drop, .drop, .drop, .drop, .drop, .drop, .drop, .drop, .drop, .drop, .drop, .drop, .drop, .drop, .drop], [.arr tXstruct_Kind_int_From_int_To_int_View_int])
def kp_l_toLetterS : KP := [(3, k_l_toLetterS_3)]
noncomputable def q_l_toLetterS (n : Nat) (x : Args [tSlLLetter]) := evX (false, false, []) l_l_toLetterS kp_l_toLetterS [some uSlILetter] Try.f44 (shF uSlILetter) n (encA [tSlLLetter] x)
noncomputable def c_l_toLetterS : Con := roS [tSlLLetter] true (shF uSlILetter) (q_l_toLetterS big)
theorem c_l_toLetterS_ok : ConOk Try.prog 44 c_l_toLetterS := roS_ok ⟨Try.f44, by kernel_rfl, rfl, by decide⟩ fun _ _ h => evX_ok l_l_toLetterS_ok (f := Try.f44) (by kernel_rfl) rfl (by kernel_rfl) (by kernel_rfl) big h
noncomputable def Q_l_toLetterS (n : Nat) (a0 : DSlLLetter) : Option DSlILetter := q_l_toLetterS n (a0, ())
noncomputable def r_l_toLetterS_3 (n : Nat) (x : KD k_l_toLetterS_3.1) (y : BD k_l_toLetterS_3.2) := rounds (env (false, false, []) l_l_toLetterS) kp_l_toLetterS (body Try.f44) (finX (false, false, []) l_l_toLetterS [some uSlILetter] Try.f44 (shF uSlILetter) [.val tSlLLetter (zeroD tSlLLetter)]) n 3 k_l_toLetterS_3 x y
noncomputable def R_l_toLetterS_3 (n : Nat) (s0 : DSlILetter) (s4 : Int) (b0 : (List DXstruct_Kind_int_From_int_To_int_View_int)) : Option DSlILetter := r_l_toLetterS_3 n (s0, s4, ()) (b0, ())
theorem Q_l_toLetterS_eq (n : Nat) (a0 : DSlLLetter) : Q_l_toLetterS n a0 =
    if (↑(List.length a0) : Int) ≤ (↑(List.length a0) : Int) then
 if (↑(List.length a0) : Int) ≤ (↑lim : Int) then
 R_l_toLetterS_3 n a0 (0 : Int)
 (List.replicate (↑(List.length a0) : Int).toNat
 (zeroD (bif (env (false, false, []) l_l_toLetterS).nest then tILetter.uq else tILetter)))
 else none
 else none := by kernel_rfl
theorem R_l_toLetterS_3_eq (n : Nat) (s0 : DSlILetter) (s4 : Int) (b0 : (List DXstruct_Kind_int_From_int_To_int_View_int)) : R_l_toLetterS_3 (n + 1) s0 s4 b0 =
    bif decide (s4 < (↑(List.length s0) : Int)) then
 if (0 : Int) ≤ s4 then
 (nth s0 s4.toNat).bind fun y =>
 if (0 : Int) ≤ s4 then
 if s4 < (↑b0.length : Int) then
 (nth b0 s4.toNat).bind fun y_1 =>
 (updO b0 s4.toNat y).bind fun y => R_l_toLetterS_3 n s0 (IntKind.i64.wrap (s4 + (1 : Int))) y
 else none
 else none
 else none
 else some b0 := by kernel_rfl

end Go.Sx.Try

set_option maxRecDepth 100000
namespace Go.Sx.Try
open Go Go.Sx Go.Proofs

noncomputable def l_l_toPeer : List (Nat × Con) := [(89, c_l_toQc), (90, c_l_toVote), (59, c_l_toIntS), (91, c_l_toCellS), (92, c_l_toUndoS), (93, c_l_toVoteS), (44, c_l_toLetterS)]
theorem l_l_toPeer_ok : ∀ q ∈ l_l_toPeer, ConOk Try.prog q.1 q.2 := Try.cons_cons c_l_toQc_ok (Try.cons_cons c_l_toVote_ok (Try.cons_cons c_l_toIntS_ok (Try.cons_cons c_l_toCellS_ok (Try.cons_cons c_l_toUndoS_ok (Try.cons_cons c_l_toVoteS_ok (Try.cons_cons c_l_toLetterS_ok (Try.cons_nil)))))))
def kp_l_toPeer : KP := []
noncomputable def q_l_toPeer (n : Nat) (x : Args [tLPeer]) := evX (false, false, [1, 3, 4, 7, 10, 14, 18, 22, 26, 30, 34, 38, 42, 46]) l_l_toPeer kp_l_toPeer [some uIPeer] Try.f23 (shF uIPeer) n (encA [tLPeer] x)
noncomputable def c_l_toPeer : Con := roS [tLPeer] true (shF uIPeer) (q_l_toPeer big)
theorem c_l_toPeer_ok : ConOk Try.prog 23 c_l_toPeer := roS_ok ⟨Try.f23, by kernel_rfl, rfl, by decide⟩ fun _ _ h => evX_ok l_l_toPeer_ok (f := Try.f23) (by kernel_rfl) rfl (by kernel_rfl) (by kernel_rfl) big h
noncomputable def Q_l_toPeer (n : Nat) (a0 : DLPeer) : Option DIPeer := q_l_toPeer n (a0, ())
theorem Q_l_toPeer_eq (n : Nat) (a0 : DLPeer) : Q_l_toPeer n a0 =
    (Q_l_toIntS big a0.snd.snd.snd.snd.snd.fst).bind fun y =>
 (Q_l_toCellS big a0.snd.snd.snd.snd.snd.snd.fst).bind fun y_1 =>
 (Q_l_toIntS big a0.snd.snd.snd.snd.snd.snd.snd.fst).bind fun y_2 =>
 (Q_l_toUndoS big a0.snd.snd.snd.snd.snd.snd.snd.snd.fst).bind fun y_3 =>
 (Q_l_toVoteS big a0.snd.snd.snd.snd.snd.snd.snd.snd.snd.fst).bind fun y_4 =>
 (Q_l_toLetterS big a0.snd.snd.snd.snd.snd.snd.snd.snd.snd.snd.fst).bind fun y_5 =>
 some
 (a0.fst, a0.snd.fst, a0.snd.snd.fst, a0.snd.snd.snd.fst, a0.snd.snd.snd.snd.fst, y, y_1, y_2, y_3, y_4,
 y_5, a0.snd.snd.snd.snd.snd.snd.snd.snd.snd.snd.snd) := by kernel_rfl

end Go.Sx.Try

set_option maxRecDepth 100000
namespace Go.Sx.Try
open Go Go.Sx Go.Proofs

noncomputable def l_l_eqQc : List (Nat × Con) := []
theorem l_l_eqQc_ok : ∀ q ∈ l_l_eqQc, ConOk Try.prog q.1 q.2 := Try.cons_nil
def kp_l_eqQc : KP := []
noncomputable def q_l_eqQc (n : Nat) (x : Args [tIQc, tIQc]) := evX (false, false, [2, 3, 5, 7, 10, 12, 15, 17, 20, 22]) l_l_eqQc kp_l_eqQc [none] Try.f75 (shV tBool) n (encA [tIQc, tIQc] x)
noncomputable def c_l_eqQc : Con := roS [tIQc, tIQc] true (shV tBool) (q_l_eqQc big)
theorem c_l_eqQc_ok : ConOk Try.prog 75 c_l_eqQc := roS_ok ⟨Try.f75, by kernel_rfl, rfl, by decide⟩ fun _ _ h => evX_ok l_l_eqQc_ok (f := Try.f75) (by kernel_rfl) rfl (by kernel_rfl) (by kernel_rfl) big h
noncomputable def Q_l_eqQc (n : Nat) (a0 : DIQc) (a1 : DIQc) : Option Bool := q_l_eqQc n (a0, a1, ())
theorem Q_l_eqQc_eq (n : Nat) (a0 : DIQc) (a1 : DIQc) : Q_l_eqQc n a0 a1 =
    bif !decide (a0.fst = a1.fst) then some false
 else
 bif !decide (a0.snd.fst = a1.snd.fst) then some false
 else
 bif !decide (a0.snd.snd.fst = a1.snd.snd.fst) then some false
 else bif !decide (a0.snd.snd.snd.fst = a1.snd.snd.snd.fst) then some false else some true := by kernel_rfl

end Go.Sx.Try

set_option maxRecDepth 100000
namespace Go.Sx.Try
open Go Go.Sx Go.Proofs

noncomputable def l_l_eqVote : List (Nat × Con) := []
theorem l_l_eqVote_ok : ∀ q ∈ l_l_eqVote, ConOk Try.prog q.1 q.2 := Try.cons_nil
def kp_l_eqVote : KP := []
noncomputable def q_l_eqVote (n : Nat) (x : Args [tIVote, tIVote]) := evX (false, false, [2, 3, 5, 7, 10, 12, 15, 17, 20, 22]) l_l_eqVote kp_l_eqVote [none] Try.f25 (shV tBool) n (encA [tIVote, tIVote] x)
noncomputable def c_l_eqVote : Con := roS [tIVote, tIVote] true (shV tBool) (q_l_eqVote big)
theorem c_l_eqVote_ok : ConOk Try.prog 25 c_l_eqVote := roS_ok ⟨Try.f25, by kernel_rfl, rfl, by decide⟩ fun _ _ h => evX_ok l_l_eqVote_ok (f := Try.f25) (by kernel_rfl) rfl (by kernel_rfl) (by kernel_rfl) big h
noncomputable def Q_l_eqVote (n : Nat) (a0 : DIVote) (a1 : DIVote) : Option Bool := q_l_eqVote n (a0, a1, ())
theorem Q_l_eqVote_eq (n : Nat) (a0 : DIVote) (a1 : DIVote) : Q_l_eqVote n a0 a1 =
    bif !decide (a0.fst = a1.fst) then some false
 else
 bif !decide (a0.snd.fst = a1.snd.fst) then some false
 else
 bif !decide (a0.snd.snd.fst = a1.snd.snd.fst) then some false
 else bif !decide (a0.snd.snd.snd.fst = a1.snd.snd.snd.fst) then some false else some true := by kernel_rfl

end Go.Sx.Try

set_option maxRecDepth 100000
namespace Go.Sx.Try
open Go Go.Sx Go.Proofs

noncomputable def l_l_eqIntS : List (Nat × Con) := []
theorem l_l_eqIntS_ok : ∀ q ∈ l_l_eqIntS, ConOk Try.prog q.1 q.2 := Try.cons_nil
abbrev k_l_eqIntS_4 : List Keep × List BK := ([.ro tSlInt, .ro tSlInt, .drop, .drop, .drop, .ro tInt64, .drop, .drop, .drop, .drop, .drop, .drop, .drop, .drop, .drop, .drop, .drop, .drop, .drop, .drop, .drop, .drop, .drop, .drop, .drop, .drop], [])
def kp_l_eqIntS : KP := [(4, k_l_eqIntS_4)]
noncomputable def q_l_eqIntS (n : Nat) (x : Args [tSlInt, tSlInt]) := evX (false, false, []) l_l_eqIntS kp_l_eqIntS [none] Try.f63 (shV tBool) n (encA [tSlInt, tSlInt] x)
noncomputable def c_l_eqIntS : Con := roS [tSlInt, tSlInt] true (shV tBool) (q_l_eqIntS big)
theorem c_l_eqIntS_ok : ConOk Try.prog 63 c_l_eqIntS := roS_ok ⟨Try.f63, by kernel_rfl, rfl, by decide⟩ fun _ _ h => evX_ok l_l_eqIntS_ok (f := Try.f63) (by kernel_rfl) rfl (by kernel_rfl) (by kernel_rfl) big h
noncomputable def Q_l_eqIntS (n : Nat) (a0 : DSlInt) (a1 : DSlInt) : Option Bool := q_l_eqIntS n (a0, a1, ())
noncomputable def r_l_eqIntS_4 (n : Nat) (x : KD k_l_eqIntS_4.1) (y : BD k_l_eqIntS_4.2) := rounds (env (false, false, []) l_l_eqIntS) kp_l_eqIntS (body Try.f63) (finX (false, false, []) l_l_eqIntS [none] Try.f63 (shV tBool) [.val tSlInt (zeroD tSlInt), .val tSlInt (zeroD tSlInt)]) n 4 k_l_eqIntS_4 x y
noncomputable def R_l_eqIntS_4 (n : Nat) (s0 : DSlInt) (s1 : DSlInt) (s5 : Int) : Option Bool := r_l_eqIntS_4 n (s0, s1, s5, ()) ()
theorem Q_l_eqIntS_eq (n : Nat) (a0 : DSlInt) (a1 : DSlInt) : Q_l_eqIntS n a0 a1 =
    bif !decide ((↑(List.length a0) : Int) = (↑(List.length a1) : Int)) then some false
 else R_l_eqIntS_4 n a0 a1 (0 : Int) := by kernel_rfl
theorem R_l_eqIntS_4_eq (n : Nat) (s0 : DSlInt) (s1 : DSlInt) (s5 : Int) : R_l_eqIntS_4 (n + 1) s0 s1 s5 =
    bif decide (s5 < (↑(List.length s0) : Int)) then
 if (0 : Int) ≤ s5 then
 (nth s0 s5.toNat).bind fun y =>
 if (0 : Int) ≤ s5 then
 (nth s1 s5.toNat).bind fun y_1 =>
 bif !decide (y = y_1) then some false else R_l_eqIntS_4 n s0 s1 (IntKind.i64.wrap (s5 + (1 : Int)))
 else none
 else none
 else some true := by kernel_rfl

end Go.Sx.Try

set_option maxRecDepth 100000
namespace Go.Sx.Try
open Go Go.Sx Go.Proofs

noncomputable def l_l_eqCell : List (Nat × Con) := []
theorem l_l_eqCell_ok : ∀ q ∈ l_l_eqCell, ConOk Try.prog q.1 q.2 := Try.cons_nil
def kp_l_eqCell : KP := []
noncomputable def q_l_eqCell (n : Nat) (x : Args [tICell, tICell]) := evX (false, false, [2, 3, 5, 7, 10, 12]) l_l_eqCell kp_l_eqCell [none] Try.f138 (shV tBool) n (encA [tICell, tICell] x)
noncomputable def c_l_eqCell : Con := roS [tICell, tICell] true (shV tBool) (q_l_eqCell big)
theorem c_l_eqCell_ok : ConOk Try.prog 138 c_l_eqCell := roS_ok ⟨Try.f138, by kernel_rfl, rfl, by decide⟩ fun _ _ h => evX_ok l_l_eqCell_ok (f := Try.f138) (by kernel_rfl) rfl (by kernel_rfl) (by kernel_rfl) big h
noncomputable def Q_l_eqCell (n : Nat) (a0 : DICell) (a1 : DICell) : Option Bool := q_l_eqCell n (a0, a1, ())
theorem Q_l_eqCell_eq (n : Nat) (a0 : DICell) (a1 : DICell) : Q_l_eqCell n a0 a1 =
    bif !decide (a0.fst = a1.fst) then some false
 else bif !decide (a0.snd.fst = a1.snd.fst) then some false else some true := by kernel_rfl

end Go.Sx.Try

set_option maxRecDepth 100000
namespace Go.Sx.Try
open Go Go.Sx Go.Proofs

noncomputable def l_l_eqCellS : List (Nat × Con) := [(138, c_l_eqCell)]
theorem l_l_eqCellS_ok : ∀ q ∈ l_l_eqCellS, ConOk Try.prog q.1 q.2 := Try.cons_cons c_l_eqCell_ok (Try.cons_nil)
abbrev k_l_eqCellS_4 : List Keep × List BK := ([.ro tSlICell, .ro tSlICell, .drop, .drop, .drop, .ro tInt64, .drop, .drop, .drop, .drop, .drop, .drop, .drop, .drop, .drop, .drop, .drop, .drop, .drop, .drop, .drop, .drop, .drop, .drop, .drop, .drop, .drop], [])
def kp_l_eqCellS : KP := [(4, k_l_eqCellS_4)]
noncomputable def q_l_eqCellS (n : Nat) (x : Args [tSlICell, tSlICell]) := evX (false, false, []) l_l_eqCellS kp_l_eqCellS [none] Try.f61 (shV tBool) n (encA [tSlICell, tSlICell] x)
noncomputable def c_l_eqCellS : Con := roS [tSlICell, tSlICell] true (shV tBool) (q_l_eqCellS big)
theorem c_l_eqCellS_ok : ConOk Try.prog 61 c_l_eqCellS := roS_ok ⟨Try.f61, by kernel_rfl, rfl, by decide⟩ fun _ _ h => evX_ok l_l_eqCellS_ok (f := Try.f61) (by kernel_rfl) rfl (by kernel_rfl) (by kernel_rfl) big h
noncomputable def Q_l_eqCellS (n : Nat) (a0 : DSlICell) (a1 : DSlICell) : Option Bool := q_l_eqCellS n (a0, a1, ())
noncomputable def r_l_eqCellS_4 (n : Nat) (x : KD k_l_eqCellS_4.1) (y : BD k_l_eqCellS_4.2) := rounds (env (false, false, []) l_l_eqCellS) kp_l_eqCellS (body Try.f61) (finX (false, false, []) l_l_eqCellS [none] Try.f61 (shV tBool) [.val tSlICell (zeroD tSlICell), .val tSlICell (zeroD tSlICell)]) n 4 k_l_eqCellS_4 x y
noncomputable def R_l_eqCellS_4 (n : Nat) (s0 : DSlICell) (s1 : DSlICell) (s5 : Int) : Option Bool := r_l_eqCellS_4 n (s0, s1, s5, ()) ()
theorem Q_l_eqCellS_eq (n : Nat) (a0 : DSlICell) (a1 : DSlICell) : Q_l_eqCellS n a0 a1 =
    bif !decide ((↑(List.length a0) : Int) = (↑(List.length a1) : Int)) then some false
 else R_l_eqCellS_4 n a0 a1 (0 : Int) := by kernel_rfl
theorem R_l_eqCellS_4_eq (n : Nat) (s0 : DSlICell) (s1 : DSlICell) (s5 : Int) : R_l_eqCellS_4 (n + 1) s0 s1 s5 =
    bif decide (s5 < (↑(List.length s0) : Int)) then
 if (0 : Int) ≤ s5 then
 (nth s0 s5.toNat).bind fun y =>
 if (0 : Int) ≤ s5 then
 (nth s1 s5.toNat).bind fun y_1 =>
 (Q_l_eqCell big y y_1).bind fun y =>
 bif !y then some false else R_l_eqCellS_4 n s0 s1 (IntKind.i64.wrap (s5 + (1 : Int)))
 else none
 else none
 else some true := by kernel_rfl

end Go.Sx.Try

set_option maxRecDepth 100000
namespace Go.Sx.Try
open Go Go.Sx Go.Proofs

noncomputable def l_l_eqUndo : List (Nat × Con) := []
theorem l_l_eqUndo_ok : ∀ q ∈ l_l_eqUndo, ConOk Try.prog q.1 q.2 := Try.cons_nil
def kp_l_eqUndo : KP := []
noncomputable def q_l_eqUndo (n : Nat) (x : Args [tIUndo, tIUndo]) := evX (false, false, [2, 3, 5, 7, 10, 12, 15, 17]) l_l_eqUndo kp_l_eqUndo [none] Try.f147 (shV tBool) n (encA [tIUndo, tIUndo] x)
noncomputable def c_l_eqUndo : Con := roS [tIUndo, tIUndo] true (shV tBool) (q_l_eqUndo big)
theorem c_l_eqUndo_ok : ConOk Try.prog 147 c_l_eqUndo := roS_ok ⟨Try.f147, by kernel_rfl, rfl, by decide⟩ fun _ _ h => evX_ok l_l_eqUndo_ok (f := Try.f147) (by kernel_rfl) rfl (by kernel_rfl) (by kernel_rfl) big h
noncomputable def Q_l_eqUndo (n : Nat) (a0 : DIUndo) (a1 : DIUndo) : Option Bool := q_l_eqUndo n (a0, a1, ())
theorem Q_l_eqUndo_eq (n : Nat) (a0 : DIUndo) (a1 : DIUndo) : Q_l_eqUndo n a0 a1 =
    bif !decide (a0.fst = a1.fst) then some false
 else
 bif !a0.snd.fst == a1.snd.fst then some false
 else bif !decide (a0.snd.snd.fst = a1.snd.snd.fst) then some false else some true := by kernel_rfl

end Go.Sx.Try

set_option maxRecDepth 100000
namespace Go.Sx.Try
open Go Go.Sx Go.Proofs

noncomputable def l_l_eqUndoS : List (Nat × Con) := [(147, c_l_eqUndo)]
theorem l_l_eqUndoS_ok : ∀ q ∈ l_l_eqUndoS, ConOk Try.prog q.1 q.2 := Try.cons_cons c_l_eqUndo_ok (Try.cons_nil)
abbrev k_l_eqUndoS_4 : List Keep × List BK := ([.ro tSlIUndo, .ro tSlIUndo, .drop, .drop, .drop, .ro tInt64, .drop, .drop, .drop, .drop, .drop, .drop, .drop, .drop, .drop, .drop, .drop, .drop, .drop, .drop, .drop, .drop, .drop, .drop, .drop, .drop, .drop], [])
def kp_l_eqUndoS : KP := [(4, k_l_eqUndoS_4)]
noncomputable def q_l_eqUndoS (n : Nat) (x : Args [tSlIUndo, tSlIUndo]) := evX (false, false, []) l_l_eqUndoS kp_l_eqUndoS [none] Try.f76 (shV tBool) n (encA [tSlIUndo, tSlIUndo] x)
noncomputable def c_l_eqUndoS : Con := roS [tSlIUndo, tSlIUndo] true (shV tBool) (q_l_eqUndoS big)
theorem c_l_eqUndoS_ok : ConOk Try.prog 76 c_l_eqUndoS := roS_ok ⟨Try.f76, by kernel_rfl, rfl, by decide⟩ fun _ _ h => evX_ok l_l_eqUndoS_ok (f := Try.f76) (by kernel_rfl) rfl (by kernel_rfl) (by kernel_rfl) big h
noncomputable def Q_l_eqUndoS (n : Nat) (a0 : DSlIUndo) (a1 : DSlIUndo) : Option Bool := q_l_eqUndoS n (a0, a1, ())
noncomputable def r_l_eqUndoS_4 (n : Nat) (x : KD k_l_eqUndoS_4.1) (y : BD k_l_eqUndoS_4.2) := rounds (env (false, false, []) l_l_eqUndoS) kp_l_eqUndoS (body Try.f76) (finX (false, false, []) l_l_eqUndoS [none] Try.f76 (shV tBool) [.val tSlIUndo (zeroD tSlIUndo), .val tSlIUndo (zeroD tSlIUndo)]) n 4 k_l_eqUndoS_4 x y
noncomputable def R_l_eqUndoS_4 (n : Nat) (s0 : DSlIUndo) (s1 : DSlIUndo) (s5 : Int) : Option Bool := r_l_eqUndoS_4 n (s0, s1, s5, ()) ()
theorem Q_l_eqUndoS_eq (n : Nat) (a0 : DSlIUndo) (a1 : DSlIUndo) : Q_l_eqUndoS n a0 a1 =
    bif !decide ((↑(List.length a0) : Int) = (↑(List.length a1) : Int)) then some false
 else R_l_eqUndoS_4 n a0 a1 (0 : Int) := by kernel_rfl
theorem R_l_eqUndoS_4_eq (n : Nat) (s0 : DSlIUndo) (s1 : DSlIUndo) (s5 : Int) : R_l_eqUndoS_4 (n + 1) s0 s1 s5 =
    bif decide (s5 < (↑(List.length s0) : Int)) then
 if (0 : Int) ≤ s5 then
 (nth s0 s5.toNat).bind fun y =>
 if (0 : Int) ≤ s5 then
 (nth s1 s5.toNat).bind fun y_1 =>
 (Q_l_eqUndo big y y_1).bind fun y =>
 bif !y then some false else R_l_eqUndoS_4 n s0 s1 (IntKind.i64.wrap (s5 + (1 : Int)))
 else none
 else none
 else some true := by kernel_rfl

end Go.Sx.Try

set_option maxRecDepth 100000
namespace Go.Sx.Try
open Go Go.Sx Go.Proofs

noncomputable def l_l_eqVoteS : List (Nat × Con) := [(25, c_l_eqVote)]
theorem l_l_eqVoteS_ok : ∀ q ∈ l_l_eqVoteS, ConOk Try.prog q.1 q.2 := Try.cons_cons c_l_eqVote_ok (Try.cons_nil)
abbrev k_l_eqVoteS_4 : List Keep × List BK := ([.ro tSlIVote, .ro tSlIVote, .drop, .drop, .drop, .ro tInt64, .drop, .drop, .drop, .drop, .drop, .drop, .drop, .drop, .drop, .drop, .drop, .drop, .drop, .drop, .drop, .drop, .drop, .drop, .drop, .drop, .drop], [])
def kp_l_eqVoteS : KP := [(4, k_l_eqVoteS_4)]
noncomputable def q_l_eqVoteS (n : Nat) (x : Args [tSlIVote, tSlIVote]) := evX (false, false, []) l_l_eqVoteS kp_l_eqVoteS [none] Try.f77 (shV tBool) n (encA [tSlIVote, tSlIVote] x)
noncomputable def c_l_eqVoteS : Con := roS [tSlIVote, tSlIVote] true (shV tBool) (q_l_eqVoteS big)
theorem c_l_eqVoteS_ok : ConOk Try.prog 77 c_l_eqVoteS := roS_ok ⟨Try.f77, by kernel_rfl, rfl, by decide⟩ fun _ _ h => evX_ok l_l_eqVoteS_ok (f := Try.f77) (by kernel_rfl) rfl (by kernel_rfl) (by kernel_rfl) big h
noncomputable def Q_l_eqVoteS (n : Nat) (a0 : DSlIVote) (a1 : DSlIVote) : Option Bool := q_l_eqVoteS n (a0, a1, ())
noncomputable def r_l_eqVoteS_4 (n : Nat) (x : KD k_l_eqVoteS_4.1) (y : BD k_l_eqVoteS_4.2) := rounds (env (false, false, []) l_l_eqVoteS) kp_l_eqVoteS (body Try.f77) (finX (false, false, []) l_l_eqVoteS [none] Try.f77 (shV tBool) [.val tSlIVote (zeroD tSlIVote), .val tSlIVote (zeroD tSlIVote)]) n 4 k_l_eqVoteS_4 x y
noncomputable def R_l_eqVoteS_4 (n : Nat) (s0 : DSlIVote) (s1 : DSlIVote) (s5 : Int) : Option Bool := r_l_eqVoteS_4 n (s0, s1, s5, ()) ()
theorem Q_l_eqVoteS_eq (n : Nat) (a0 : DSlIVote) (a1 : DSlIVote) : Q_l_eqVoteS n a0 a1 =
    bif !decide ((↑(List.length a0) : Int) = (↑(List.length a1) : Int)) then some false
 else R_l_eqVoteS_4 n a0 a1 (0 : Int) := by kernel_rfl
theorem R_l_eqVoteS_4_eq (n : Nat) (s0 : DSlIVote) (s1 : DSlIVote) (s5 : Int) : R_l_eqVoteS_4 (n + 1) s0 s1 s5 =
    bif decide (s5 < (↑(List.length s0) : Int)) then
 if (0 : Int) ≤ s5 then
 (nth s0 s5.toNat).bind fun y =>
 if (0 : Int) ≤ s5 then
 (nth s1 s5.toNat).bind fun y_1 =>
 (Q_l_eqVote big y y_1).bind fun y =>
 bif !y then some false else R_l_eqVoteS_4 n s0 s1 (IntKind.i64.wrap (s5 + (1 : Int)))
 else none
 else none
 else some true := by kernel_rfl

end Go.Sx.Try

set_option maxRecDepth 100000
namespace Go.Sx.Try
open Go Go.Sx Go.Proofs

noncomputable def l_l_eqLetter : List (Nat × Con) := [(75, c_l_eqQc), (25, c_l_eqVote)]
theorem l_l_eqLetter_ok : ∀ q ∈ l_l_eqLetter, ConOk Try.prog q.1 q.2 := Try.cons_cons c_l_eqQc_ok (Try.cons_cons c_l_eqVote_ok (Try.cons_nil))
def kp_l_eqLetter : KP := []
noncomputable def q_l_eqLetter (n : Nat) (x : Args [tILetter, tILetter]) := evX (false, false, [2, 3, 5, 7, 10, 12, 15, 17, 20, 22, 25, 27, 30, 32, 36, 38]) l_l_eqLetter kp_l_eqLetter [none] Try.f30 (shV tBool) n (encA [tILetter, tILetter] x)
noncomputable def c_l_eqLetter : Con := roS [tILetter, tILetter] true (shV tBool) (q_l_eqLetter big)
theorem c_l_eqLetter_ok : ConOk Try.prog 30 c_l_eqLetter := roS_ok ⟨Try.f30, by kernel_rfl, rfl, by decide⟩ fun _ _ h => evX_ok l_l_eqLetter_ok (f := Try.f30) (by kernel_rfl) rfl (by kernel_rfl) (by kernel_rfl) big h
noncomputable def Q_l_eqLetter (n : Nat) (a0 : DILetter) (a1 : DILetter) : Option Bool := q_l_eqLetter n (a0, a1, ())
theorem Q_l_eqLetter_eq (n : Nat) (a0 : DILetter) (a1 : DILetter) : Q_l_eqLetter n a0 a1 =
    bif !decide (a0.fst = a1.fst) then some false
 else
 bif !decide (a0.snd.fst = a1.snd.fst) then some false
 else
 bif !decide (a0.snd.snd.fst = a1.snd.snd.fst) then some false
 else
 bif !decide (a0.snd.snd.snd.fst = a1.snd.snd.snd.fst) then some false
 else
 bif !decide (a0.snd.snd.snd.snd.fst = a1.snd.snd.snd.snd.fst) then some false
 else
 (Q_l_eqQc big a0.snd.snd.snd.snd.snd.fst a1.snd.snd.snd.snd.snd.fst).bind fun y =>
 bif !y then some false
 else
 (Q_l_eqVote big a0.snd.snd.snd.snd.snd.snd.fst a1.snd.snd.snd.snd.snd.snd.fst).bind fun y =>
 bif !y then some false else some true := by kernel_rfl

end Go.Sx.Try

set_option maxRecDepth 100000
namespace Go.Sx.Try
open Go Go.Sx Go.Proofs

noncomputable def l_l_eqLetterS : List (Nat × Con) := [(30, c_l_eqLetter)]
theorem l_l_eqLetterS_ok : ∀ q ∈ l_l_eqLetterS, ConOk Try.prog q.1 q.2 := Try.cons_cons c_l_eqLetter_ok (Try.cons_nil)
abbrev k_l_eqLetterS_4 : List Keep × List BK := ([.ro tSlILetter, .ro tSlILetter, .drop, .drop, .drop, .ro tInt64, .drop, .drop, .drop, .drop, .drop, .drop, .drop, .drop, .drop, .drop, .drop, .drop, .drop, .drop, .drop, .drop, .drop, .drop, .drop, .drop, .drop], [])
def kp_l_eqLetterS : KP := [(4, k_l_eqLetterS_4)]
noncomputable def q_l_eqLetterS (n : Nat) (x : Args [tSlILetter, tSlILetter]) := evX (false, false, []) l_l_eqLetterS kp_l_eqLetterS [none] Try.f46 (shV tBool) n (encA [tSlILetter, tSlILetter] x)
noncomputable def c_l_eqLetterS : Con := roS [tSlILetter, tSlILetter] true (shV tBool) (q_l_eqLetterS big)
theorem c_l_eqLetterS_ok : ConOk Try.prog 46 c_l_eqLetterS := roS_ok ⟨Try.f46, by kernel_rfl, rfl, by decide⟩ fun _ _ h => evX_ok l_l_eqLetterS_ok (f := Try.f46) (by kernel_rfl) rfl (by kernel_rfl) (by kernel_rfl) big h
noncomputable def Q_l_eqLetterS (n : Nat) (a0 : DSlILetter) (a1 : DSlILetter) : Option Bool := q_l_eqLetterS n (a0, a1, ())
noncomputable def r_l_eqLetterS_4 (n : Nat) (x : KD k_l_eqLetterS_4.1) (y : BD k_l_eqLetterS_4.2) := rounds (env (false, false, []) l_l_eqLetterS) kp_l_eqLetterS (body Try.f46) (finX (false, false, []) l_l_eqLetterS [none] Try.f46 (shV tBool) [.val tSlILetter (zeroD tSlILetter), .val tSlILetter (zeroD tSlILetter)]) n 4 k_l_eqLetterS_4 x y
noncomputable def R_l_eqLetterS_4 (n : Nat) (s0 : DSlILetter) (s1 : DSlILetter) (s5 : Int) : Option Bool := r_l_eqLetterS_4 n (s0, s1, s5, ()) ()
theorem Q_l_eqLetterS_eq (n : Nat) (a0 : DSlILetter) (a1 : DSlILetter) : Q_l_eqLetterS n a0 a1 =
    bif !decide ((↑(List.length a0) : Int) = (↑(List.length a1) : Int)) then some false
 else R_l_eqLetterS_4 n a0 a1 (0 : Int) := by kernel_rfl
theorem R_l_eqLetterS_4_eq (n : Nat) (s0 : DSlILetter) (s1 : DSlILetter) (s5 : Int) : R_l_eqLetterS_4 (n + 1) s0 s1 s5 =
    bif decide (s5 < (↑(List.length s0) : Int)) then
 if (0 : Int) ≤ s5 then
 (nth s0 s5.toNat).bind fun y =>
 if (0 : Int) ≤ s5 then
 (nth s1 s5.toNat).bind fun y_1 =>
 (Q_l_eqLetter big y y_1).bind fun y =>
 bif !y then some false else R_l_eqLetterS_4 n s0 s1 (IntKind.i64.wrap (s5 + (1 : Int)))
 else none
 else none
 else some true := by kernel_rfl

end Go.Sx.Try

set_option maxRecDepth 100000
namespace Go.Sx.Try
open Go Go.Sx Go.Proofs

noncomputable def l_l_eqPeer : List (Nat × Con) := [(75, c_l_eqQc), (25, c_l_eqVote), (63, c_l_eqIntS), (61, c_l_eqCellS), (76, c_l_eqUndoS), (77, c_l_eqVoteS), (46, c_l_eqLetterS)]
theorem l_l_eqPeer_ok : ∀ q ∈ l_l_eqPeer, ConOk Try.prog q.1 q.2 := Try.cons_cons c_l_eqQc_ok (Try.cons_cons c_l_eqVote_ok (Try.cons_cons c_l_eqIntS_ok (Try.cons_cons c_l_eqCellS_ok (Try.cons_cons c_l_eqUndoS_ok (Try.cons_cons c_l_eqVoteS_ok (Try.cons_cons c_l_eqLetterS_ok (Try.cons_nil)))))))
def kp_l_eqPeer : KP := []
noncomputable def q_l_eqPeer (n : Nat) (x : Args [tIPeer, tIPeer]) := evX (false, false, [2, 3, 5, 7, 10, 12, 15, 17, 21, 23, 27, 29, 33, 35, 39, 41, 45, 47, 51, 53, 57, 59, 63, 65, 69, 71]) l_l_eqPeer kp_l_eqPeer [none] Try.f18 (shV tBool) n (encA [tIPeer, tIPeer] x)
noncomputable def c_l_eqPeer : Con := roS [tIPeer, tIPeer] true (shV tBool) (q_l_eqPeer big)
theorem c_l_eqPeer_ok : ConOk Try.prog 18 c_l_eqPeer := roS_ok ⟨Try.f18, by kernel_rfl, rfl, by decide⟩ fun _ _ h => evX_ok l_l_eqPeer_ok (f := Try.f18) (by kernel_rfl) rfl (by kernel_rfl) (by kernel_rfl) big h
noncomputable def Q_l_eqPeer (n : Nat) (a0 : DIPeer) (a1 : DIPeer) : Option Bool := q_l_eqPeer n (a0, a1, ())
theorem Q_l_eqPeer_eq (n : Nat) (a0 : DIPeer) (a1 : DIPeer) : Q_l_eqPeer n a0 a1 =
    bif !decide (a0.fst = a1.fst) then some false
 else
 bif !decide (a0.snd.fst = a1.snd.fst) then some false
 else
 (Q_l_eqQc big a0.snd.snd.fst a1.snd.snd.fst).bind fun y =>
 bif !y then some false
 else
 (Q_l_eqQc big a0.snd.snd.snd.fst a1.snd.snd.snd.fst).bind fun y =>
 bif !y then some false
 else
 (Q_l_eqVote big a0.snd.snd.snd.snd.fst a1.snd.snd.snd.snd.fst).bind fun y =>
 bif !y then some false
 else
 (Q_l_eqIntS big a0.snd.snd.snd.snd.snd.fst a1.snd.snd.snd.snd.snd.fst).bind fun y =>
 bif !y then some false
 else
 (Q_l_eqCellS big a0.snd.snd.snd.snd.snd.snd.fst a1.snd.snd.snd.snd.snd.snd.fst).bind fun y =>
 bif !y then some false
 else
 (Q_l_eqIntS big a0.snd.snd.snd.snd.snd.snd.snd.fst a1.snd.snd.snd.snd.snd.snd.snd.fst).bind
 fun y =>
 bif !y then some false
 else
 (Q_l_eqUndoS big a0.snd.snd.snd.snd.snd.snd.snd.snd.fst
 a1.snd.snd.snd.snd.snd.snd.snd.snd.fst).bind
 fun y =>
 bif !y then some false
 else
 (Q_l_eqVoteS big a0.snd.snd.snd.snd.snd.snd.snd.snd.snd.fst
 a1.snd.snd.snd.snd.snd.snd.snd.snd.snd.fst).bind
 fun y =>
 bif !y then some false
 else
 (Q_l_eqLetterS big a0.snd.snd.snd.snd.snd.snd.snd.snd.snd.snd.fst
 a1.snd.snd.snd.snd.snd.snd.snd.snd.snd.snd.fst).bind
 fun y =>
 bif !y then some false
 else
 bif
 !decide
 (a0.snd.snd.snd.snd.snd.snd.snd.snd.snd.snd.snd.fst =
 a1.snd.snd.snd.snd.snd.snd.snd.snd.snd.snd.snd.fst) then
 some false
 else some true := by kernel_rfl

end Go.Sx.Try

set_option maxRecDepth 100000
namespace Go.Sx.Try
open Go Go.Sx Go.Proofs

noncomputable def l_l_markIntS : List (Nat × Con) := []
theorem l_l_markIntS_ok : ∀ q ∈ l_l_markIntS, ConOk Try.prog q.1 q.2 := Try.cons_nil
abbrev k_l_markIntS_2 : List Keep × List BK := ([.is (.own 0 0), .ro tInt64, .drop, .drop, .drop, .ro tInt64, .drop, .drop, .drop, .drop, .drop, .drop, .drop, .drop, .drop, .drop, .drop, .drop, .drop], [.arr tInt])
def kp_l_markIntS : KP := [(2, k_l_markIntS_2)]
noncomputable def q_l_markIntS (n : Nat) (x : AP.denL [.io tInt, .ro tInt]) := evX (false, false, []) l_l_markIntS kp_l_markIntS [none] Try.f65 (shO (shV tInt) [.io tInt]) n (AP.encL [.io tInt, .ro tInt] x)
noncomputable def c_l_markIntS : Con := apS [.io tInt, .ro tInt] true (shO (shV tInt) [.io tInt]) (q_l_markIntS big)
theorem c_l_markIntS_ok : ConOk Try.prog 65 c_l_markIntS := apS_ok ⟨Try.f65, by kernel_rfl, rfl, by decide⟩ fun _ _ h => evX_ok l_l_markIntS_ok (f := Try.f65) (by kernel_rfl) rfl (by kernel_rfl) (by kernel_rfl) big h
noncomputable def Q_l_markIntS (n : Nat) (a0 : DSlInt) (a1 : Int) : Option (Int × DSlInt × Unit) := q_l_markIntS n (a0, a1, ())
noncomputable def r_l_markIntS_2 (n : Nat) (x : KD k_l_markIntS_2.1) (y : BD k_l_markIntS_2.2) := rounds (env (false, false, []) l_l_markIntS) kp_l_markIntS (body Try.f65) (finX (false, false, []) l_l_markIntS [none] Try.f65 (shO (shV tInt) [.io tInt]) [AP.enc (.io tInt) [], AP.enc (.ro tInt) (zeroD tInt)]) n 2 k_l_markIntS_2 x y
noncomputable def R_l_markIntS_2 (n : Nat) (s1 : Int) (s5 : Int) (b0 : (List Int)) : Option (Int × DSlInt × Unit) := r_l_markIntS_2 n (s1, s5, ()) (b0, ())
theorem Q_l_markIntS_eq (n : Nat) (a0 : DSlInt) (a1 : Int) : Q_l_markIntS n a0 a1 =
    R_l_markIntS_2 n a1 (0 : Int) a0 := by kernel_rfl
theorem R_l_markIntS_2_eq (n : Nat) (s1 : Int) (s5 : Int) (b0 : (List Int)) : R_l_markIntS_2 (n + 1) s1 s5 b0 =
    bif decide (s5 < (↑b0.length : Int)) then
 if (0 : Int) ≤ s5 then
 if s5 < (↑b0.length : Int) then
 (nth b0 s5.toNat).bind fun y =>
 (updO b0 s5.toNat s1).bind fun y =>
 R_l_markIntS_2 n (IntKind.i64.wrap (s1 + (1 : Int))) (IntKind.i64.wrap (s5 + (1 : Int))) y
 else none
 else none
 else some (s1, b0, PUnit.unit) := by kernel_rfl

end Go.Sx.Try

set_option maxRecDepth 100000
namespace Go.Sx.Try
open Go Go.Sx Go.Proofs

noncomputable def l_l_heldIntS : List (Nat × Con) := []
theorem l_l_heldIntS_ok : ∀ q ∈ l_l_heldIntS, ConOk Try.prog q.1 q.2 := Try.cons_nil
abbrev k_l_heldIntS_2 : List Keep × List BK := ([.ro tSlInt, .ro tInt64, .drop, .drop, .drop, .ro tInt64, .drop, .drop, .drop, .drop, .drop, .drop, .drop, .drop, .drop, .drop, .drop, .drop, .drop, .drop, .drop], [])
def kp_l_heldIntS : KP := [(2, k_l_heldIntS_2)]
noncomputable def q_l_heldIntS (n : Nat) (x : Args [tSlInt, tInt]) := evX (false, false, []) l_l_heldIntS kp_l_heldIntS [none] Try.f80 (shV tInt) n (encA [tSlInt, tInt] x)
noncomputable def c_l_heldIntS : Con := roS [tSlInt, tInt] true (shV tInt) (q_l_heldIntS big)
theorem c_l_heldIntS_ok : ConOk Try.prog 80 c_l_heldIntS := roS_ok ⟨Try.f80, by kernel_rfl, rfl, by decide⟩ fun _ _ h => evX_ok l_l_heldIntS_ok (f := Try.f80) (by kernel_rfl) rfl (by kernel_rfl) (by kernel_rfl) big h
noncomputable def Q_l_heldIntS (n : Nat) (a0 : DSlInt) (a1 : Int) : Option Int := q_l_heldIntS n (a0, a1, ())
noncomputable def r_l_heldIntS_2 (n : Nat) (x : KD k_l_heldIntS_2.1) (y : BD k_l_heldIntS_2.2) := rounds (env (false, false, []) l_l_heldIntS) kp_l_heldIntS (body Try.f80) (finX (false, false, []) l_l_heldIntS [none] Try.f80 (shV tInt) [.val tSlInt (zeroD tSlInt), .val tInt (zeroD tInt)]) n 2 k_l_heldIntS_2 x y
noncomputable def R_l_heldIntS_2 (n : Nat) (s0 : DSlInt) (s1 : Int) (s5 : Int) : Option Int := r_l_heldIntS_2 n (s0, s1, s5, ()) ()
theorem Q_l_heldIntS_eq (n : Nat) (a0 : DSlInt) (a1 : Int) : Q_l_heldIntS n a0 a1 =
    R_l_heldIntS_2 n a0 a1 (0 : Int) := by kernel_rfl
theorem R_l_heldIntS_2_eq (n : Nat) (s0 : DSlInt) (s1 : Int) (s5 : Int) : R_l_heldIntS_2 (n + 1) s0 s1 s5 =
    bif decide (s5 < (↑(List.length s0) : Int)) then
 if (0 : Int) ≤ s5 then
 (nth s0 s5.toNat).bind fun y =>
 bif !decide (y = s1) then some (-1 : Int)
 else R_l_heldIntS_2 n s0 (IntKind.i64.wrap (s1 + (1 : Int))) (IntKind.i64.wrap (s5 + (1 : Int)))
 else none
 else some s1 := by kernel_rfl

end Go.Sx.Try

set_option maxRecDepth 100000
namespace Go.Sx.Try
open Go Go.Sx Go.Proofs

noncomputable def l_l_markText : List (Nat × Con) := []
theorem l_l_markText_ok : ∀ q ∈ l_l_markText, ConOk Try.prog q.1 q.2 := Try.cons_nil
abbrev k_l_markText_4 : List Keep × List BK := ([.ro tInt64, .drop, .drop, .ro tString, .drop, .drop, .drop, .drop, .drop, .drop, .drop, .drop, .drop, .drop, .drop, .drop, .drop, .drop, .drop, .drop], [])
def kp_l_markText : KP := [(4, k_l_markText_4)]
noncomputable def q_l_markText (n : Nat) (x : Args [tInt]) := evX (false, false, []) l_l_markText kp_l_markText [none] Try.f140 (shV tString) n (encA [tInt] x)
noncomputable def c_l_markText : Con := roS [tInt] true (shV tString) (q_l_markText big)
theorem c_l_markText_ok : ConOk Try.prog 140 c_l_markText := roS_ok ⟨Try.f140, by kernel_rfl, rfl, by decide⟩ fun _ _ h => evX_ok l_l_markText_ok (f := Try.f140) (by kernel_rfl) rfl (by kernel_rfl) (by kernel_rfl) big h
noncomputable def Q_l_markText (n : Nat) (a0 : Int) : Option ByteArray := q_l_markText n (a0, ())
noncomputable def r_l_markText_4 (n : Nat) (x : KD k_l_markText_4.1) (y : BD k_l_markText_4.2) := rounds (env (false, false, []) l_l_markText) kp_l_markText (body Try.f140) (finX (false, false, []) l_l_markText [none] Try.f140 (shV tString) [.val tInt (zeroD tInt)]) n 4 k_l_markText_4 x y
noncomputable def R_l_markText_4 (n : Nat) (s0 : Int) (s3 : ByteArray) : Option ByteArray := r_l_markText_4 n (s0, s3, ()) ()
theorem Q_l_markText_eq (n : Nat) (a0 : Int) : Q_l_markText n a0 =
    bif decide (a0 ≤ (0 : Int)) then some (ByteArray.mk #[(109 : UInt8), (48 : UInt8)])
 else R_l_markText_4 n a0 (ByteArray.mk #[]) := by kernel_rfl
theorem R_l_markText_4_eq (n : Nat) (s0 : Int) (s3 : ByteArray) : R_l_markText_4 (n + 1) s0 s3 =
    bif decide ((0 : Int) < s0) then
 if
 (ByteArray.mk
 (List.map (fun n => UInt8.ofNat n.toNat)
 [IntKind.u8.wrap (IntKind.i64.wrap ((48 : Int) + s0.tmod (10 : Int)))]).toArray).size +
 s3.size ≤
 lim then
 R_l_markText_4 n (IntKind.i64.wrap (s0.tdiv (10 : Int)))
 (ByteArray.mk
 (List.map (fun n => UInt8.ofNat n.toNat)
 [IntKind.u8.wrap (IntKind.i64.wrap ((48 : Int) + s0.tmod (10 : Int)))]).toArray ++
 s3)
 else none
 else
 if (ByteArray.mk #[(109 : UInt8)]).size + s3.size ≤ lim then some (ByteArray.mk #[(109 : UInt8)] ++ s3)
 else none := by kernel_rfl

end Go.Sx.Try

set_option maxRecDepth 100000
namespace Go.Sx.Try
open Go Go.Sx Go.Proofs

noncomputable def l_l_markCellS : List (Nat × Con) := [(140, c_l_markText)]
theorem l_l_markCellS_ok : ∀ q ∈ l_l_markCellS, ConOk Try.prog q.1 q.2 := Try.cons_cons c_l_markText_ok (Try.cons_nil)
abbrev k_l_markCellS_2 : List Keep × List BK := ([.is (.own 0 0), .ro tInt64, .drop, .drop, .drop, .ro tInt64, .drop, .drop, .drop, .drop, .drop, .drop, .drop, .drop, .drop, .drop, .drop, .drop, .drop, .drop, .drop, .drop, .drop, .drop, .drop, .drop, .drop, .drop], [.arr tICell])
def kp_l_markCellS : KP := [(2, k_l_markCellS_2)]
noncomputable def q_l_markCellS (n : Nat) (x : AP.denL [.io tICell, .ro tInt]) := evX (false, false, []) l_l_markCellS kp_l_markCellS [none] Try.f66 (shO (shV tInt) [.io tICell]) n (AP.encL [.io tICell, .ro tInt] x)
noncomputable def c_l_markCellS : Con := apS [.io tICell, .ro tInt] true (shO (shV tInt) [.io tICell]) (q_l_markCellS big)
theorem c_l_markCellS_ok : ConOk Try.prog 66 c_l_markCellS := apS_ok ⟨Try.f66, by kernel_rfl, rfl, by decide⟩ fun _ _ h => evX_ok l_l_markCellS_ok (f := Try.f66) (by kernel_rfl) rfl (by kernel_rfl) (by kernel_rfl) big h
noncomputable def Q_l_markCellS (n : Nat) (a0 : DSlICell) (a1 : Int) : Option (Int × DSlICell × Unit) := q_l_markCellS n (a0, a1, ())
noncomputable def r_l_markCellS_2 (n : Nat) (x : KD k_l_markCellS_2.1) (y : BD k_l_markCellS_2.2) := rounds (env (false, false, []) l_l_markCellS) kp_l_markCellS (body Try.f66) (finX (false, false, []) l_l_markCellS [none] Try.f66 (shO (shV tInt) [.io tICell]) [AP.enc (.io tICell) [], AP.enc (.ro tInt) (zeroD tInt)]) n 2 k_l_markCellS_2 x y
noncomputable def R_l_markCellS_2 (n : Nat) (s1 : Int) (s5 : Int) (b0 : (List DICell)) : Option (Int × DSlICell × Unit) := r_l_markCellS_2 n (s1, s5, ()) (b0, ())
theorem Q_l_markCellS_eq (n : Nat) (a0 : DSlICell) (a1 : Int) : Q_l_markCellS n a0 a1 =
    R_l_markCellS_2 n a1 (0 : Int) a0 := by kernel_rfl
theorem R_l_markCellS_2_eq (n : Nat) (s1 : Int) (s5 : Int) (b0 : (List DICell)) : R_l_markCellS_2 (n + 1) s1 s5 b0 =
    bif decide (s5 < (↑b0.length : Int)) then
 (Q_l_markText big s1).bind fun y =>
 if (0 : Int) ≤ s5 then
 if s5 < (↑b0.length : Int) then
 (nth b0 s5.toNat).bind fun y_1 =>
 (updO b0 s5.toNat (y, y_1.snd)).bind fun y =>
 if (0 : Int) ≤ s5 then
 if s5 < (↑y.length : Int) then
 (nth y s5.toNat).bind fun y_2 =>
 (updO y s5.toNat (y_2.fst, IntKind.i64.wrap (s1 + (1 : Int)), ())).bind fun y =>
 R_l_markCellS_2 n (IntKind.i64.wrap (IntKind.i64.wrap (s1 + (1 : Int)) + (1 : Int)))
 (IntKind.i64.wrap (s5 + (1 : Int))) y
 else none
 else none
 else none
 else none
 else some (s1, b0, PUnit.unit) := by kernel_rfl

end Go.Sx.Try

set_option maxRecDepth 100000
namespace Go.Sx.Try
open Go Go.Sx Go.Proofs

noncomputable def l_l_heldCellS : List (Nat × Con) := [(140, c_l_markText)]
theorem l_l_heldCellS_ok : ∀ q ∈ l_l_heldCellS, ConOk Try.prog q.1 q.2 := Try.cons_cons c_l_markText_ok (Try.cons_nil)
abbrev k_l_heldCellS_2 : List Keep × List BK := ([.ro tSlICell, .ro tInt64, .drop, .drop, .drop, .ro tInt64, .drop, .drop, .drop, .drop, .drop, .drop, .drop, .drop, .drop, .drop, .drop, .drop, .drop, .drop, .drop, .drop, .drop, .drop, .drop, .drop, .drop, .drop, .drop, .drop, .drop, .drop], [])
def kp_l_heldCellS : KP := [(2, k_l_heldCellS_2)]
noncomputable def q_l_heldCellS (n : Nat) (x : Args [tSlICell, tInt]) := evX (false, false, []) l_l_heldCellS kp_l_heldCellS [none] Try.f67 (shV tInt) n (encA [tSlICell, tInt] x)
noncomputable def c_l_heldCellS : Con := roS [tSlICell, tInt] true (shV tInt) (q_l_heldCellS big)
theorem c_l_heldCellS_ok : ConOk Try.prog 67 c_l_heldCellS := roS_ok ⟨Try.f67, by kernel_rfl, rfl, by decide⟩ fun _ _ h => evX_ok l_l_heldCellS_ok (f := Try.f67) (by kernel_rfl) rfl (by kernel_rfl) (by kernel_rfl) big h
noncomputable def Q_l_heldCellS (n : Nat) (a0 : DSlICell) (a1 : Int) : Option Int := q_l_heldCellS n (a0, a1, ())
noncomputable def r_l_heldCellS_2 (n : Nat) (x : KD k_l_heldCellS_2.1) (y : BD k_l_heldCellS_2.2) := rounds (env (false, false, []) l_l_heldCellS) kp_l_heldCellS (body Try.f67) (finX (false, false, []) l_l_heldCellS [none] Try.f67 (shV tInt) [.val tSlICell (zeroD tSlICell), .val tInt (zeroD tInt)]) n 2 k_l_heldCellS_2 x y
noncomputable def R_l_heldCellS_2 (n : Nat) (s0 : DSlICell) (s1 : Int) (s5 : Int) : Option Int := r_l_heldCellS_2 n (s0, s1, s5, ()) ()
theorem Q_l_heldCellS_eq (n : Nat) (a0 : DSlICell) (a1 : Int) : Q_l_heldCellS n a0 a1 =
    R_l_heldCellS_2 n a0 a1 (0 : Int) := by kernel_rfl
theorem R_l_heldCellS_2_eq (n : Nat) (s0 : DSlICell) (s1 : Int) (s5 : Int) : R_l_heldCellS_2 (n + 1) s0 s1 s5 =
    bif decide (s5 < (↑(List.length s0) : Int)) then
 if (0 : Int) ≤ s5 then
 (nth s0 s5.toNat).bind fun y =>
 (Q_l_markText big s1).bind fun y_1 =>
 bif !decide (y.fst = y_1) then some (-1 : Int)
 else
 if (0 : Int) ≤ s5 then
 (nth s0 s5.toNat).bind fun y =>
 bif !decide (y.snd.fst = IntKind.i64.wrap (s1 + (1 : Int))) then some (-1 : Int)
 else
 R_l_heldCellS_2 n s0 (IntKind.i64.wrap (IntKind.i64.wrap (s1 + (1 : Int)) + (1 : Int)))
 (IntKind.i64.wrap (s5 + (1 : Int)))
 else none
 else none
 else some s1 := by kernel_rfl

end Go.Sx.Try

set_option maxRecDepth 100000
namespace Go.Sx.Try
open Go Go.Sx Go.Proofs

noncomputable def l_l_markUndoS : List (Nat × Con) := [(140, c_l_markText)]
theorem l_l_markUndoS_ok : ∀ q ∈ l_l_markUndoS, ConOk Try.prog q.1 q.2 := Try.cons_cons c_l_markText_ok (Try.cons_nil)
abbrev k_l_markUndoS_2 : List Keep × List BK := ([.is (.own 0 0), .ro tInt64, .drop, .drop, .drop, .ro tInt64, .drop, .drop, .drop, .drop, .drop, .drop, .drop, .drop, .drop, .drop, .drop, .drop, .drop, .drop, .drop, .drop, .drop, .drop, .drop, .drop, .drop, .drop, .drop, .drop, .drop, .drop, .drop, .drop, .drop, .drop, .drop], [.arr tIUndo])
def kp_l_markUndoS : KP := [(2, k_l_markUndoS_2)]
noncomputable def q_l_markUndoS (n : Nat) (x : AP.denL [.io tIUndo, .ro tInt]) := evX (false, false, []) l_l_markUndoS kp_l_markUndoS [none] Try.f78 (shO (shV tInt) [.io tIUndo]) n (AP.encL [.io tIUndo, .ro tInt] x)
noncomputable def c_l_markUndoS : Con := apS [.io tIUndo, .ro tInt] true (shO (shV tInt) [.io tIUndo]) (q_l_markUndoS big)
theorem c_l_markUndoS_ok : ConOk Try.prog 78 c_l_markUndoS := apS_ok ⟨Try.f78, by kernel_rfl, rfl, by decide⟩ fun _ _ h => evX_ok l_l_markUndoS_ok (f := Try.f78) (by kernel_rfl) rfl (by kernel_rfl) (by kernel_rfl) big h
noncomputable def Q_l_markUndoS (n : Nat) (a0 : DSlIUndo) (a1 : Int) : Option (Int × DSlIUndo × Unit) := q_l_markUndoS n (a0, a1, ())
noncomputable def r_l_markUndoS_2 (n : Nat) (x : KD k_l_markUndoS_2.1) (y : BD k_l_markUndoS_2.2) := rounds (env (false, false, []) l_l_markUndoS) kp_l_markUndoS (body Try.f78) (finX (false, false, []) l_l_markUndoS [none] Try.f78 (shO (shV tInt) [.io tIUndo]) [AP.enc (.io tIUndo) [], AP.enc (.ro tInt) (zeroD tInt)]) n 2 k_l_markUndoS_2 x y
noncomputable def R_l_markUndoS_2 (n : Nat) (s1 : Int) (s5 : Int) (b0 : (List DIUndo)) : Option (Int × DSlIUndo × Unit) := r_l_markUndoS_2 n (s1, s5, ()) (b0, ())
theorem Q_l_markUndoS_eq (n : Nat) (a0 : DSlIUndo) (a1 : Int) : Q_l_markUndoS n a0 a1 =
    R_l_markUndoS_2 n a1 (0 : Int) a0 := by kernel_rfl
theorem R_l_markUndoS_2_eq (n : Nat) (s1 : Int) (s5 : Int) (b0 : (List DIUndo)) : R_l_markUndoS_2 (n + 1) s1 s5 b0 =
    bif decide (s5 < (↑b0.length : Int)) then
 (Q_l_markText big s1).bind fun y =>
 if (0 : Int) ≤ s5 then
 if s5 < (↑b0.length : Int) then
 (nth b0 s5.toNat).bind fun y_1 =>
 (updO b0 s5.toNat (y, y_1.snd)).bind fun y =>
 if (0 : Int) ≤ s5 then
 if s5 < (↑y.length : Int) then
 (nth y s5.toNat).bind fun y_2 =>
 (updO y s5.toNat
 (y_2.fst, decide ((IntKind.i64.wrap (s1 + (1 : Int))).tmod (3 : Int) = (0 : Int)),
 y_2.snd.snd)).bind
 fun y =>
 if (0 : Int) ≤ s5 then
 if s5 < (↑y.length : Int) then
 (nth y s5.toNat).bind fun y_3 =>
 (updO y s5.toNat
 (y_3.fst, y_3.snd.fst,
 IntKind.i64.wrap (IntKind.i64.wrap (s1 + (1 : Int)) + (1 : Int)), ())).bind
 fun y =>
 R_l_markUndoS_2 n
 (IntKind.i64.wrap
 (IntKind.i64.wrap (IntKind.i64.wrap (s1 + (1 : Int)) + (1 : Int)) + (1 : Int)))
 (IntKind.i64.wrap (s5 + (1 : Int))) y
 else none
 else none
 else none
 else none
 else none
 else none
 else some (s1, b0, PUnit.unit) := by kernel_rfl

end Go.Sx.Try

set_option maxRecDepth 100000
namespace Go.Sx.Try
open Go Go.Sx Go.Proofs

noncomputable def l_l_heldUndoS : List (Nat × Con) := [(140, c_l_markText)]
theorem l_l_heldUndoS_ok : ∀ q ∈ l_l_heldUndoS, ConOk Try.prog q.1 q.2 := Try.cons_cons c_l_markText_ok (Try.cons_nil)
abbrev k_l_heldUndoS_2 : List Keep × List BK := ([.ro tSlIUndo, .ro tInt64, .drop, .drop, .drop, .ro tInt64, .drop, .drop, .drop, .drop, .drop, .drop, .drop, .drop, .drop, .drop, .drop, .drop, .drop, .drop, .drop, .drop, .drop, .drop, .drop, .drop, .drop, .drop, .drop, .drop, .drop, .drop, .drop, .drop, .drop, .drop, .drop, .drop, .drop, .drop, .drop, .drop, .drop], [])
def kp_l_heldUndoS : KP := [(2, k_l_heldUndoS_2)]
noncomputable def q_l_heldUndoS (n : Nat) (x : Args [tSlIUndo, tInt]) := evX (false, false, []) l_l_heldUndoS kp_l_heldUndoS [none] Try.f81 (shV tInt) n (encA [tSlIUndo, tInt] x)
noncomputable def c_l_heldUndoS : Con := roS [tSlIUndo, tInt] true (shV tInt) (q_l_heldUndoS big)
theorem c_l_heldUndoS_ok : ConOk Try.prog 81 c_l_heldUndoS := roS_ok ⟨Try.f81, by kernel_rfl, rfl, by decide⟩ fun _ _ h => evX_ok l_l_heldUndoS_ok (f := Try.f81) (by kernel_rfl) rfl (by kernel_rfl) (by kernel_rfl) big h
noncomputable def Q_l_heldUndoS (n : Nat) (a0 : DSlIUndo) (a1 : Int) : Option Int := q_l_heldUndoS n (a0, a1, ())
noncomputable def r_l_heldUndoS_2 (n : Nat) (x : KD k_l_heldUndoS_2.1) (y : BD k_l_heldUndoS_2.2) := rounds (env (false, false, []) l_l_heldUndoS) kp_l_heldUndoS (body Try.f81) (finX (false, false, []) l_l_heldUndoS [none] Try.f81 (shV tInt) [.val tSlIUndo (zeroD tSlIUndo), .val tInt (zeroD tInt)]) n 2 k_l_heldUndoS_2 x y
noncomputable def R_l_heldUndoS_2 (n : Nat) (s0 : DSlIUndo) (s1 : Int) (s5 : Int) : Option Int := r_l_heldUndoS_2 n (s0, s1, s5, ()) ()
theorem Q_l_heldUndoS_eq (n : Nat) (a0 : DSlIUndo) (a1 : Int) : Q_l_heldUndoS n a0 a1 =
    R_l_heldUndoS_2 n a0 a1 (0 : Int) := by kernel_rfl
theorem R_l_heldUndoS_2_eq (n : Nat) (s0 : DSlIUndo) (s1 : Int) (s5 : Int) : R_l_heldUndoS_2 (n + 1) s0 s1 s5 =
    bif decide (s5 < (↑(List.length s0) : Int)) then
 if (0 : Int) ≤ s5 then
 (nth s0 s5.toNat).bind fun y =>
 (Q_l_markText big s1).bind fun y_1 =>
 bif !decide (y.fst = y_1) then some (-1 : Int)
 else
 if (0 : Int) ≤ s5 then
 (nth s0 s5.toNat).bind fun y =>
 bif !y.snd.fst == decide ((IntKind.i64.wrap (s1 + (1 : Int))).tmod (3 : Int) = (0 : Int)) then
 some (-1 : Int)
 else
 if (0 : Int) ≤ s5 then
 (nth s0 s5.toNat).bind fun y =>
 bif
 !decide
 (y.snd.snd.fst = IntKind.i64.wrap (IntKind.i64.wrap (s1 + (1 : Int)) + (1 : Int))) then
 some (-1 : Int)
 else
 R_l_heldUndoS_2 n s0
 (IntKind.i64.wrap
 (IntKind.i64.wrap (IntKind.i64.wrap (s1 + (1 : Int)) + (1 : Int)) + (1 : Int)))
 (IntKind.i64.wrap (s5 + (1 : Int)))
 else none
 else none
 else none
 else some s1 := by kernel_rfl

end Go.Sx.Try

set_option maxRecDepth 100000
namespace Go.Sx.Try
open Go Go.Sx Go.Proofs

noncomputable def l_l_markVoteS : List (Nat × Con) := []
theorem l_l_markVoteS_ok : ∀ q ∈ l_l_markVoteS, ConOk Try.prog q.1 q.2 := Try.cons_nil
abbrev k_l_markVoteS_2 : List Keep × List BK := ([.is (.own 0 0), .ro tInt64, .drop, .drop, .drop, .ro tInt64, .drop, .drop, .drop, .drop, .drop, .drop, .drop, .drop, .drop, .drop, .drop, .drop, .drop, .drop, .drop, .drop, .drop, .drop, .drop, .drop, .drop, .drop, .drop, .drop, .drop, .drop, .drop, .drop, .drop, .drop, .drop, .drop, .drop, .drop, .drop], [.arr tIVote])
def kp_l_markVoteS : KP := [(2, k_l_markVoteS_2)]
noncomputable def q_l_markVoteS (n : Nat) (x : AP.denL [.io tIVote, .ro tInt]) := evX (false, false, []) l_l_markVoteS kp_l_markVoteS [none] Try.f79 (shO (shV tInt) [.io tIVote]) n (AP.encL [.io tIVote, .ro tInt] x)
noncomputable def c_l_markVoteS : Con := apS [.io tIVote, .ro tInt] true (shO (shV tInt) [.io tIVote]) (q_l_markVoteS big)
theorem c_l_markVoteS_ok : ConOk Try.prog 79 c_l_markVoteS := apS_ok ⟨Try.f79, by kernel_rfl, rfl, by decide⟩ fun _ _ h => evX_ok l_l_markVoteS_ok (f := Try.f79) (by kernel_rfl) rfl (by kernel_rfl) (by kernel_rfl) big h
noncomputable def Q_l_markVoteS (n : Nat) (a0 : DSlIVote) (a1 : Int) : Option (Int × DSlIVote × Unit) := q_l_markVoteS n (a0, a1, ())
noncomputable def r_l_markVoteS_2 (n : Nat) (x : KD k_l_markVoteS_2.1) (y : BD k_l_markVoteS_2.2) := rounds (env (false, false, []) l_l_markVoteS) kp_l_markVoteS (body Try.f79) (finX (false, false, []) l_l_markVoteS [none] Try.f79 (shO (shV tInt) [.io tIVote]) [AP.enc (.io tIVote) [], AP.enc (.ro tInt) (zeroD tInt)]) n 2 k_l_markVoteS_2 x y
noncomputable def R_l_markVoteS_2 (n : Nat) (s1 : Int) (s5 : Int) (b0 : (List DIVote)) : Option (Int × DSlIVote × Unit) := r_l_markVoteS_2 n (s1, s5, ()) (b0, ())
theorem Q_l_markVoteS_eq (n : Nat) (a0 : DSlIVote) (a1 : Int) : Q_l_markVoteS n a0 a1 =
    R_l_markVoteS_2 n a1 (0 : Int) a0 := by kernel_rfl
theorem R_l_markVoteS_2_eq (n : Nat) (s1 : Int) (s5 : Int) (b0 : (List DIVote)) : R_l_markVoteS_2 (n + 1) s1 s5 b0 =
    bif decide (s5 < (↑b0.length : Int)) then
 if (0 : Int) ≤ s5 then
 if s5 < (↑b0.length : Int) then
 (nth b0 s5.toNat).bind fun y =>
 (updO b0 s5.toNat (s1, y.snd)).bind fun y =>
 if (0 : Int) ≤ s5 then
 if s5 < (↑y.length : Int) then
 (nth y s5.toNat).bind fun y_1 =>
 (updO y s5.toNat (y_1.fst, IntKind.i64.wrap (s1 + (1 : Int)), y_1.snd.snd)).bind fun y =>
 if (0 : Int) ≤ s5 then
 if s5 < (↑y.length : Int) then
 (nth y s5.toNat).bind fun y_2 =>
 (updO y s5.toNat
 (y_2.fst, y_2.snd.fst, IntKind.i64.wrap (IntKind.i64.wrap (s1 + (1 : Int)) + (1 : Int)),
 y_2.snd.snd.snd)).bind
 fun y =>
 if (0 : Int) ≤ s5 then
 if s5 < (↑y.length : Int) then
 (nth y s5.toNat).bind fun y_3 =>
 (updO y s5.toNat
 (y_3.fst, y_3.snd.fst, y_3.snd.snd.fst,
 IntKind.i64.wrap
 (IntKind.i64.wrap (IntKind.i64.wrap (s1 + (1 : Int)) + (1 : Int)) +
 (1 : Int)),
 ())).bind
 fun y =>
 R_l_markVoteS_2 n
 (IntKind.i64.wrap
 (IntKind.i64.wrap
 (IntKind.i64.wrap (IntKind.i64.wrap (s1 + (1 : Int)) + (1 : Int)) +
 (1 : Int)) +
 (1 : Int)))
 (IntKind.i64.wrap (s5 + (1 : Int))) y
 else none
 else none
 else none
 else none
 else none
 else none
 else none
 else none
 else some (s1, b0, PUnit.unit) := by kernel_rfl

end Go.Sx.Try

set_option maxRecDepth 100000
namespace Go.Sx.Try
open Go Go.Sx Go.Proofs

noncomputable def l_l_heldVoteS : List (Nat × Con) := []
theorem l_l_heldVoteS_ok : ∀ q ∈ l_l_heldVoteS, ConOk Try.prog q.1 q.2 := Try.cons_nil
abbrev k_l_heldVoteS_2 : List Keep × List BK := ([.ro tSlIVote, .ro tInt64, .drop, .drop, .drop, .ro tInt64, .drop, .drop, .drop, .drop, .drop, .drop, .drop, .drop, .drop, .drop, .drop, .drop, .drop, .drop, .drop, .drop, .drop, .drop, .drop, .drop, .drop, .drop, .drop, .drop, .drop, .drop, .drop, .drop, .drop, .drop, .drop, .drop, .drop, .drop, .drop, .drop, .drop, .drop, .drop, .drop, .drop, .drop, .drop], [])
def kp_l_heldVoteS : KP := [(2, k_l_heldVoteS_2)]
noncomputable def q_l_heldVoteS (n : Nat) (x : Args [tSlIVote, tInt]) := evX (false, false, []) l_l_heldVoteS kp_l_heldVoteS [none] Try.f82 (shV tInt) n (encA [tSlIVote, tInt] x)
noncomputable def c_l_heldVoteS : Con := roS [tSlIVote, tInt] true (shV tInt) (q_l_heldVoteS big)
theorem c_l_heldVoteS_ok : ConOk Try.prog 82 c_l_heldVoteS := roS_ok ⟨Try.f82, by kernel_rfl, rfl, by decide⟩ fun _ _ h => evX_ok l_l_heldVoteS_ok (f := Try.f82) (by kernel_rfl) rfl (by kernel_rfl) (by kernel_rfl) big h
noncomputable def Q_l_heldVoteS (n : Nat) (a0 : DSlIVote) (a1 : Int) : Option Int := q_l_heldVoteS n (a0, a1, ())
noncomputable def r_l_heldVoteS_2 (n : Nat) (x : KD k_l_heldVoteS_2.1) (y : BD k_l_heldVoteS_2.2) := rounds (env (false, false, []) l_l_heldVoteS) kp_l_heldVoteS (body Try.f82) (finX (false, false, []) l_l_heldVoteS [none] Try.f82 (shV tInt) [.val tSlIVote (zeroD tSlIVote), .val tInt (zeroD tInt)]) n 2 k_l_heldVoteS_2 x y
noncomputable def R_l_heldVoteS_2 (n : Nat) (s0 : DSlIVote) (s1 : Int) (s5 : Int) : Option Int := r_l_heldVoteS_2 n (s0, s1, s5, ()) ()
theorem Q_l_heldVoteS_eq (n : Nat) (a0 : DSlIVote) (a1 : Int) : Q_l_heldVoteS n a0 a1 =
    R_l_heldVoteS_2 n a0 a1 (0 : Int) := by kernel_rfl
theorem R_l_heldVoteS_2_eq (n : Nat) (s0 : DSlIVote) (s1 : Int) (s5 : Int) : R_l_heldVoteS_2 (n + 1) s0 s1 s5 =
    bif decide (s5 < (↑(List.length s0) : Int)) then
 if (0 : Int) ≤ s5 then
 (nth s0 s5.toNat).bind fun y =>
 bif !decide (y.fst = s1) then some (-1 : Int)
 else
 if (0 : Int) ≤ s5 then
 (nth s0 s5.toNat).bind fun y =>
 bif !decide (y.snd.fst = IntKind.i64.wrap (s1 + (1 : Int))) then some (-1 : Int)
 else
 if (0 : Int) ≤ s5 then
 (nth s0 s5.toNat).bind fun y =>
 bif !decide (y.snd.snd.fst = IntKind.i64.wrap (IntKind.i64.wrap (s1 + (1 : Int)) + (1 : Int))) then
 some (-1 : Int)
 else
 if (0 : Int) ≤ s5 then
 (nth s0 s5.toNat).bind fun y =>
 bif
 !decide
 (y.snd.snd.snd.fst =
 IntKind.i64.wrap
 (IntKind.i64.wrap (IntKind.i64.wrap (s1 + (1 : Int)) + (1 : Int)) +
 (1 : Int))) then
 some (-1 : Int)
 else
 R_l_heldVoteS_2 n s0
 (IntKind.i64.wrap
 (IntKind.i64.wrap
 (IntKind.i64.wrap (IntKind.i64.wrap (s1 + (1 : Int)) + (1 : Int)) + (1 : Int)) +
 (1 : Int)))
 (IntKind.i64.wrap (s5 + (1 : Int)))
 else none
 else none
 else none
 else none
 else some s1 := by kernel_rfl

end Go.Sx.Try

set_option maxRecDepth 100000
namespace Go.Sx.Try
open Go Go.Sx Go.Proofs

noncomputable def l_l_markLetterS : List (Nat × Con) := []
theorem l_l_markLetterS_ok : ∀ q ∈ l_l_markLetterS, ConOk Try.prog q.1 q.2 := Try.cons_nil
abbrev k_l_markLetterS_2 : List Keep × List BK := ([.is (.own 0 0), .ro tInt64, .drop, .drop, .drop, .ro tInt64, .drop, .drop, .drop, .drop, .drop, .drop, .drop, .drop, .drop, .drop, .drop, .drop, .drop, .drop, .drop, .drop, .drop, .drop, .drop, .drop, .drop, .drop, .drop, .drop, .drop, .drop, .drop, .drop, .drop, .drop, .drop, .drop, .drop, .drop, .drop, .drop, .drop, .drop, .drop, .drop, .drop, .drop, .drop, .drop, .drop, .drop, .drop, .drop, .drop, .drop, .drop, .drop, .drop, .drop, .drop, .drop, .drop, .drop, .drop, .drop, .drop, .drop, .drop, .drop, .drop, .drop, .drop, .drop, .drop, .drop, .drop, .drop, .drop, .drop, .drop, .drop, .drop, .drop, .drop, .drop, .drop, .drop, .drop, .drop, .drop, .drop, .drop, .drop, .drop, .drop, .drop, .drop, .drop, .drop, .drop, .drop, .drop, .drop, .drop, .drop, .drop, .drop, .drop, .drop, .drop, .drop], [.arr tILetter])
def kp_l_markLetterS : KP := [(2, k_l_markLetterS_2)]
noncomputable def q_l_markLetterS (n : Nat) (x : AP.denL [.io tILetter, .ro tInt]) := evX (false, false, []) l_l_markLetterS kp_l_markLetterS [none] Try.f47 (shO (shV tInt) [.io tILetter]) n (AP.encL [.io tILetter, .ro tInt] x)
noncomputable def c_l_markLetterS : Con := apS [.io tILetter, .ro tInt] true (shO (shV tInt) [.io tILetter]) (q_l_markLetterS big)
theorem c_l_markLetterS_ok : ConOk Try.prog 47 c_l_markLetterS := apS_ok ⟨Try.f47, by kernel_rfl, rfl, by decide⟩ fun _ _ h => evX_ok l_l_markLetterS_ok (f := Try.f47) (by kernel_rfl) rfl (by kernel_rfl) (by kernel_rfl) big h
noncomputable def Q_l_markLetterS (n : Nat) (a0 : DSlILetter) (a1 : Int) : Option (Int × DSlILetter × Unit) := q_l_markLetterS n (a0, a1, ())
noncomputable def r_l_markLetterS_2 (n : Nat) (x : KD k_l_markLetterS_2.1) (y : BD k_l_markLetterS_2.2) := rounds (env (false, false, []) l_l_markLetterS) kp_l_markLetterS (body Try.f47) (finX (false, false, []) l_l_markLetterS [none] Try.f47 (shO (shV tInt) [.io tILetter]) [AP.enc (.io tILetter) [], AP.enc (.ro tInt) (zeroD tInt)]) n 2 k_l_markLetterS_2 x y
noncomputable def R_l_markLetterS_2 (n : Nat) (s1 : Int) (s5 : Int) (b0 : (List DILetter)) : Option (Int × DSlILetter × Unit) := r_l_markLetterS_2 n (s1, s5, ()) (b0, ())
theorem Q_l_markLetterS_eq (n : Nat) (a0 : DSlILetter) (a1 : Int) : Q_l_markLetterS n a0 a1 =
    R_l_markLetterS_2 n a1 (0 : Int) a0 := by kernel_rfl
theorem R_l_markLetterS_2_eq (n : Nat) (s1 : Int) (s5 : Int) (b0 : (List DILetter)) : R_l_markLetterS_2 (n + 1) s1 s5 b0 =
    bif decide (s5 < (↑b0.length : Int)) then
 if (0 : Int) ≤ s5 then
 if s5 < (↑b0.length : Int) then
 (nth b0 s5.toNat).bind fun y =>
 (updO b0 s5.toNat (s1, y.snd)).bind fun y =>
 if (0 : Int) ≤ s5 then
 if s5 < (↑y.length : Int) then
 (nth y s5.toNat).bind fun y_1 =>
 (updO y s5.toNat (y_1.fst, IntKind.i64.wrap (s1 + (1 : Int)), y_1.snd.snd)).bind fun y =>
 if (0 : Int) ≤ s5 then
 if s5 < (↑y.length : Int) then
 (nth y s5.toNat).bind fun y_2 =>
 (updO y s5.toNat
 (y_2.fst, y_2.snd.fst, IntKind.i64.wrap (IntKind.i64.wrap (s1 + (1 : Int)) + (1 : Int)),
 y_2.snd.snd.snd)).bind
 fun y =>
 if (0 : Int) ≤ s5 then
 if s5 < (↑y.length : Int) then
 (nth y s5.toNat).bind fun y_3 =>
 (updO y s5.toNat
 (y_3.fst, y_3.snd.fst, y_3.snd.snd.fst,
 IntKind.i64.wrap
 (IntKind.i64.wrap (IntKind.i64.wrap (s1 + (1 : Int)) + (1 : Int)) +
 (1 : Int)),
 y_3.snd.snd.snd.snd)).bind
 fun y =>
 if (0 : Int) ≤ s5 then
 if s5 < (↑y.length : Int) then
 (nth y s5.toNat).bind fun y_4 =>
 (updO y s5.toNat
 (y_4.fst, y_4.snd.fst, y_4.snd.snd.fst, y_4.snd.snd.snd.fst,
 IntKind.i64.wrap
 (IntKind.i64.wrap
 (IntKind.i64.wrap
 (IntKind.i64.wrap (s1 + (1 : Int)) + (1 : Int)) +
 (1 : Int)) +
 (1 : Int)),
 y_4.snd.snd.snd.snd.snd)).bind
 fun y =>
 if (0 : Int) ≤ s5 then
 if s5 < (↑y.length : Int) then
 (nth y s5.toNat).bind fun y_5 =>
 (updO y s5.toNat
 (y_5.fst, y_5.snd.fst, y_5.snd.snd.fst, y_5.snd.snd.snd.fst,
 y_5.snd.snd.snd.snd.fst,
 (IntKind.i64.wrap
 (IntKind.i64.wrap
 (IntKind.i64.wrap
 (IntKind.i64.wrap
 (IntKind.i64.wrap (s1 + (1 : Int)) +
 (1 : Int)) +
 (1 : Int)) +
 (1 : Int)) +
 (1 : Int)),
 y_5.snd.snd.snd.snd.snd.fst.snd),
 y_5.snd.snd.snd.snd.snd.snd)).bind
 fun y =>
 if (0 : Int) ≤ s5 then
 if s5 < (↑y.length : Int) then
 (nth y s5.toNat).bind fun y_6 =>
 (updO y s5.toNat
 (y_6.fst, y_6.snd.fst, y_6.snd.snd.fst,
 y_6.snd.snd.snd.fst, y_6.snd.snd.snd.snd.fst,
 (y_6.snd.snd.snd.snd.snd.fst.fst,
 IntKind.i64.wrap
 (IntKind.i64.wrap
 (IntKind.i64.wrap
 (IntKind.i64.wrap
 (IntKind.i64.wrap
 (IntKind.i64.wrap
 (s1 + (1 : Int)) +
 (1 : Int)) +
 (1 : Int)) +
 (1 : Int)) +
 (1 : Int)) +
 (1 : Int)),
 y_6.snd.snd.snd.snd.snd.fst.snd.snd),
 y_6.snd.snd.snd.snd.snd.snd)).bind
 fun y =>
 if (0 : Int) ≤ s5 then
 if s5 < (↑y.length : Int) then
 (nth y s5.toNat).bind fun y_7 =>
 (updO y s5.toNat
 (y_7.fst, y_7.snd.fst, y_7.snd.snd.fst,
 y_7.snd.snd.snd.fst, y_7.snd.snd.snd.snd.fst,
 (y_7.snd.snd.snd.snd.snd.fst.fst,
 y_7.snd.snd.snd.snd.snd.fst.snd.fst,
 IntKind.i64.wrap
 (IntKind.i64.wrap
 (IntKind.i64.wrap
 (IntKind.i64.wrap
 (IntKind.i64.wrap
 (IntKind.i64.wrap
 (IntKind.i64.wrap
 (s1 + (1 : Int)) +
 (1 : Int)) +
 (1 : Int)) +
 (1 : Int)) +
 (1 : Int)) +
 (1 : Int)) +
 (1 : Int)),
 y_7.snd.snd.snd.snd.snd.fst.snd.snd.snd),
 y_7.snd.snd.snd.snd.snd.snd)).bind
 fun y =>
 if (0 : Int) ≤ s5 then
 if s5 < (↑y.length : Int) then
 (nth y s5.toNat).bind fun y_8 =>
 (updO y s5.toNat
 (y_8.fst, y_8.snd.fst, y_8.snd.snd.fst,
 y_8.snd.snd.snd.fst,
 y_8.snd.snd.snd.snd.fst,
 (y_8.snd.snd.snd.snd.snd.fst.fst,
 y_8.snd.snd.snd.snd.snd.fst.snd.fst,
 y_8.snd.snd.snd.snd.snd.fst.snd.snd.fst,
 IntKind.i64.wrap
 (IntKind.i64.wrap
 (IntKind.i64.wrap
 (IntKind.i64.wrap
 (IntKind.i64.wrap
 (IntKind.i64.wrap
 (IntKind.i64.wrap
 (IntKind.i64.wrap
 (s1 +
 (1 :
 Int)) +
 (1 :
 Int)) +
 (1 : Int)) +
 (1 : Int)) +
 (1 : Int)) +
 (1 : Int)) +
 (1 : Int)) +
 (1 : Int)),
 ()),
 y_8.snd.snd.snd.snd.snd.snd)).bind
 fun y =>
 if (0 : Int) ≤ s5 then
 if s5 < (↑y.length : Int) then
 (nth y s5.toNat).bind fun y_9 =>
 (updO y s5.toNat
 (y_9.fst, y_9.snd.fst,
 y_9.snd.snd.fst,
 y_9.snd.snd.snd.fst,
 y_9.snd.snd.snd.snd.fst,
 y_9.snd.snd.snd.snd.snd.fst,
 (IntKind.i64.wrap
 (IntKind.i64.wrap
 (IntKind.i64.wrap
 (IntKind.i64.wrap
 (IntKind.i64.wrap
 (IntKind.i64.wrap
 (IntKind.i64.wrap
 (IntKind.i64.wrap
 (IntKind.i64.wrap
 (s1 +
 (1 :
 Int)) +
 (1 :
 Int)) +
 (1 :
 Int)) +
 (1 :
 Int)) +
 (1 :
 Int)) +
 (1 : Int)) +
 (1 : Int)) +
 (1 : Int)) +
 (1 : Int)),
 y_9.snd.snd.snd.snd.snd.snd.fst.snd),
 ())).bind
 fun y =>
 if (0 : Int) ≤ s5 then
 if s5 < (↑y.length : Int) then
 (nth y s5.toNat).bind
 fun y_10 =>
 (updO y s5.toNat
 (y_10.fst, y_10.snd.fst,
 y_10.snd.snd.fst,
 y_10.snd.snd.snd.fst,
 y_10.snd.snd.snd.snd.fst,
 y_10.snd.snd.snd.snd.snd.fst,
 (y_10.snd.snd.snd.snd.snd.snd.fst.fst,
 IntKind.i64.wrap
 (IntKind.i64.wrap
 (IntKind.i64.wrap
 (IntKind.i64.wrap
 (IntKind.i64.wrap
 (IntKind.i64.wrap
 (IntKind.i64.wrap
 (IntKind.i64.wrap
 (IntKind.i64.wrap
 (IntKind.i64.wrap
 (s1 +
 (1 :
 Int)) +
 (1 :
 Int)) +
 (1 :
 Int)) +
 (1 :
 Int)) +
 (1 :
 Int)) +
 (1 :
 Int)) +
 (1 :
 Int)) +
 (1 :
 Int)) +
 (1 : Int)) +
 (1 : Int)),
 y_10.snd.snd.snd.snd.snd.snd.fst.snd.snd),
 ())).bind
 fun y =>
 if (0 : Int) ≤ s5 then
 if
 s5 <
 (↑y.length :
 Int) then
 (nth y s5.toNat).bind
 fun y_11 =>
 (updO y s5.toNat
 (y_11.fst,
 y_11.snd.fst,
 y_11.snd.snd.fst,
 y_11.snd.snd.snd.fst,
 y_11.snd.snd.snd.snd.fst,
 y_11.snd.snd.snd.snd.snd.fst,
 (y_11.snd.snd.snd.snd.snd.snd.fst.fst,
 y_11.snd.snd.snd.snd.snd.snd.fst.snd.fst,
 IntKind.i64.wrap
 (IntKind.i64.wrap
 (IntKind.i64.wrap
 (IntKind.i64.wrap
 (IntKind.i64.wrap
 (IntKind.i64.wrap
 (IntKind.i64.wrap
 (IntKind.i64.wrap
 (IntKind.i64.wrap
 (IntKind.i64.wrap
 (IntKind.i64.wrap
 (s1 +
 (1 :
 Int)) +
 (1 :
 Int)) +
 (1 :
 Int)) +
 (1 :
 Int)) +
 (1 :
 Int)) +
 (1 :
 Int)) +
 (1 :
 Int)) +
 (1 :
 Int)) +
 (1 :
 Int)) +
 (1 :
 Int)) +
 (1 :
 Int)),
 y_11.snd.snd.snd.snd.snd.snd.fst.snd.snd.snd),
 ())).bind
 fun y =>
 if
 (0 : Int) ≤
 s5 then
 if
 s5 <
 (↑y.length :
 Int) then
 (nth y
 s5.toNat).bind
 fun y_12 =>
 (updO y
 s5.toNat
 (y_12.fst,
 y_12.snd.fst,
 y_12.snd.snd.fst,
 y_12.snd.snd.snd.fst,
 y_12.snd.snd.snd.snd.fst,
 y_12.snd.snd.snd.snd.snd.fst,
 (y_12.snd.snd.snd.snd.snd.snd.fst.fst,
 y_12.snd.snd.snd.snd.snd.snd.fst.snd.fst,
 y_12.snd.snd.snd.snd.snd.snd.fst.snd.snd.fst,
 IntKind.i64.wrap
 (IntKind.i64.wrap
 (IntKind.i64.wrap
 (IntKind.i64.wrap
 (IntKind.i64.wrap
 (IntKind.i64.wrap
 (IntKind.i64.wrap
 (IntKind.i64.wrap
 (IntKind.i64.wrap
 (IntKind.i64.wrap
 (IntKind.i64.wrap
 (IntKind.i64.wrap
 (s1 +
 (1 :
 Int)) +
 (1 :
 Int)) +
 (1 :
 Int)) +
 (1 :
 Int)) +
 (1 :
 Int)) +
 (1 :
 Int)) +
 (1 :
 Int)) +
 (1 :
 Int)) +
 (1 :
 Int)) +
 (1 :
 Int)) +
 (1 :
 Int)) +
 (1 :
 Int)),
 ()),
 ())).bind
 fun y =>
 R_l_markLetterS_2
 n
 (IntKind.i64.wrap
 (IntKind.i64.wrap
 (IntKind.i64.wrap
 (IntKind.i64.wrap
 (IntKind.i64.wrap
 (IntKind.i64.wrap
 (IntKind.i64.wrap
 (IntKind.i64.wrap
 (IntKind.i64.wrap
 (IntKind.i64.wrap
 (IntKind.i64.wrap
 (IntKind.i64.wrap
 (IntKind.i64.wrap
 (s1 +
 (1 :
 Int)) +
 (1 :
 Int)) +
 (1 :
 Int)) +
 (1 :
 Int)) +
 (1 :
 Int)) +
 (1 :
 Int)) +
 (1 :
 Int)) +
 (1 :
 Int)) +
 (1 :
 Int)) +
 (1 :
 Int)) +
 (1 :
 Int)) +
 (1 :
 Int)) +
 (1 :
 Int)))
 (IntKind.i64.wrap
 (s5 +
 (1 :
 Int)))
 y
 else none
 else none
 else none
 else none
 else none
 else none
 else none
 else none
 else none
 else none
 else none
 else none
 else none
 else none
 else none
 else none
 else none
 else none
 else none
 else none
 else none
 else none
 else none
 else none
 else none
 else none
 else some (s1, b0, PUnit.unit) := by kernel_rfl

end Go.Sx.Try

set_option maxRecDepth 100000
namespace Go.Sx.Try
open Go Go.Sx Go.Proofs

noncomputable def l_l_heldLetterS : List (Nat × Con) := []
theorem l_l_heldLetterS_ok : ∀ q ∈ l_l_heldLetterS, ConOk Try.prog q.1 q.2 := Try.cons_nil
abbrev k_l_heldLetterS_2 : List Keep × List BK := ([.ro tSlILetter, .ro tInt64, .drop, .drop, .drop, .ro tInt64, .drop, .drop, .drop, .drop, .drop, .drop, .drop, .drop, .drop, .drop, .drop, .drop, .drop, .drop, .drop, .drop, .drop, .drop, .drop, .drop, .drop, .drop, .drop, .drop, .drop, .drop, .drop, .drop, .drop, .drop, .drop, .drop, .drop, .drop, .drop, .drop, .drop, .drop, .drop, .drop, .drop, .drop, .drop, .drop, .drop, .drop, .drop, .drop, .drop, .drop, .drop, .drop, .drop, .drop, .drop, .drop, .drop, .drop, .drop, .drop, .drop, .drop, .drop, .drop, .drop, .drop, .drop, .drop, .drop, .drop, .drop, .drop, .drop, .drop, .drop, .drop, .drop, .drop, .drop, .drop, .drop, .drop, .drop, .drop, .drop, .drop, .drop, .drop, .drop, .drop, .drop, .drop, .drop, .drop, .drop, .drop, .drop, .drop, .drop, .drop, .drop, .drop, .drop, .drop, .drop, .drop, .drop, .drop, .drop, .drop, .drop, .drop, .drop, .drop, .drop, .drop, .drop, .drop, .drop, .drop, .drop, .drop, .drop, .drop, .drop, .drop, .drop, .drop, .drop, .drop, .drop, .drop], [])
def kp_l_heldLetterS : KP := [(2, k_l_heldLetterS_2)]
noncomputable def q_l_heldLetterS (n : Nat) (x : Args [tSlILetter, tInt]) := evX (false, false, []) l_l_heldLetterS kp_l_heldLetterS [none] Try.f83 (shV tInt) n (encA [tSlILetter, tInt] x)
noncomputable def c_l_heldLetterS : Con := roS [tSlILetter, tInt] true (shV tInt) (q_l_heldLetterS big)
theorem c_l_heldLetterS_ok : ConOk Try.prog 83 c_l_heldLetterS := roS_ok ⟨Try.f83, by kernel_rfl, rfl, by decide⟩ fun _ _ h => evX_ok l_l_heldLetterS_ok (f := Try.f83) (by kernel_rfl) rfl (by kernel_rfl) (by kernel_rfl) big h
noncomputable def Q_l_heldLetterS (n : Nat) (a0 : DSlILetter) (a1 : Int) : Option Int := q_l_heldLetterS n (a0, a1, ())
noncomputable def r_l_heldLetterS_2 (n : Nat) (x : KD k_l_heldLetterS_2.1) (y : BD k_l_heldLetterS_2.2) := rounds (env (false, false, []) l_l_heldLetterS) kp_l_heldLetterS (body Try.f83) (finX (false, false, []) l_l_heldLetterS [none] Try.f83 (shV tInt) [.val tSlILetter (zeroD tSlILetter), .val tInt (zeroD tInt)]) n 2 k_l_heldLetterS_2 x y
noncomputable def R_l_heldLetterS_2 (n : Nat) (s0 : DSlILetter) (s1 : Int) (s5 : Int) : Option Int := r_l_heldLetterS_2 n (s0, s1, s5, ()) ()
theorem Q_l_heldLetterS_eq (n : Nat) (a0 : DSlILetter) (a1 : Int) : Q_l_heldLetterS n a0 a1 =
    R_l_heldLetterS_2 n a0 a1 (0 : Int) := by kernel_rfl
theorem R_l_heldLetterS_2_eq (n : Nat) (s0 : DSlILetter) (s1 : Int) (s5 : Int) : R_l_heldLetterS_2 (n + 1) s0 s1 s5 =
    bif decide (s5 < (↑(List.length s0) : Int)) then
 if (0 : Int) ≤ s5 then
 (nth s0 s5.toNat).bind fun y =>
 bif !decide (y.fst = s1) then some (-1 : Int)
 else
 if (0 : Int) ≤ s5 then
 (nth s0 s5.toNat).bind fun y =>
 bif !decide (y.snd.fst = IntKind.i64.wrap (s1 + (1 : Int))) then some (-1 : Int)
 else
 if (0 : Int) ≤ s5 then
 (nth s0 s5.toNat).bind fun y =>
 bif !decide (y.snd.snd.fst = IntKind.i64.wrap (IntKind.i64.wrap (s1 + (1 : Int)) + (1 : Int))) then
 some (-1 : Int)
 else
 if (0 : Int) ≤ s5 then
 (nth s0 s5.toNat).bind fun y =>
 bif
 !decide
 (y.snd.snd.snd.fst =
 IntKind.i64.wrap
 (IntKind.i64.wrap (IntKind.i64.wrap (s1 + (1 : Int)) + (1 : Int)) +
 (1 : Int))) then
 some (-1 : Int)
 else
 if (0 : Int) ≤ s5 then
 (nth s0 s5.toNat).bind fun y =>
 bif
 !decide
 (y.snd.snd.snd.snd.fst =
 IntKind.i64.wrap
 (IntKind.i64.wrap
 (IntKind.i64.wrap (IntKind.i64.wrap (s1 + (1 : Int)) + (1 : Int)) +
 (1 : Int)) +
 (1 : Int))) then
 some (-1 : Int)
 else
 if (0 : Int) ≤ s5 then
 (nth s0 s5.toNat).bind fun y =>
 bif
 !decide
 (y.snd.snd.snd.snd.snd.fst.fst =
 IntKind.i64.wrap
 (IntKind.i64.wrap
 (IntKind.i64.wrap
 (IntKind.i64.wrap
 (IntKind.i64.wrap (s1 + (1 : Int)) + (1 : Int)) +
 (1 : Int)) +
 (1 : Int)) +
 (1 : Int))) then
 some (-1 : Int)
 else
 if (0 : Int) ≤ s5 then
 (nth s0 s5.toNat).bind fun y =>
 bif
 !decide
 (y.snd.snd.snd.snd.snd.fst.snd.fst =
 IntKind.i64.wrap
 (IntKind.i64.wrap
 (IntKind.i64.wrap
 (IntKind.i64.wrap
 (IntKind.i64.wrap
 (IntKind.i64.wrap (s1 + (1 : Int)) +
 (1 : Int)) +
 (1 : Int)) +
 (1 : Int)) +
 (1 : Int)) +
 (1 : Int))) then
 some (-1 : Int)
 else
 if (0 : Int) ≤ s5 then
 (nth s0 s5.toNat).bind fun y =>
 bif
 !decide
 (y.snd.snd.snd.snd.snd.fst.snd.snd.fst =
 IntKind.i64.wrap
 (IntKind.i64.wrap
 (IntKind.i64.wrap
 (IntKind.i64.wrap
 (IntKind.i64.wrap
 (IntKind.i64.wrap
 (IntKind.i64.wrap (s1 + (1 : Int)) +
 (1 : Int)) +
 (1 : Int)) +
 (1 : Int)) +
 (1 : Int)) +
 (1 : Int)) +
 (1 : Int))) then
 some (-1 : Int)
 else
 if (0 : Int) ≤ s5 then
 (nth s0 s5.toNat).bind fun y =>
 bif
 !decide
 (y.snd.snd.snd.snd.snd.fst.snd.snd.snd.fst =
 IntKind.i64.wrap
 (IntKind.i64.wrap
 (IntKind.i64.wrap
 (IntKind.i64.wrap
 (IntKind.i64.wrap
 (IntKind.i64.wrap
 (IntKind.i64.wrap
 (IntKind.i64.wrap
 (s1 + (1 : Int)) +
 (1 : Int)) +
 (1 : Int)) +
 (1 : Int)) +
 (1 : Int)) +
 (1 : Int)) +
 (1 : Int)) +
 (1 : Int))) then
 some (-1 : Int)
 else
 if (0 : Int) ≤ s5 then
 (nth s0 s5.toNat).bind fun y =>
 bif
 !decide
 (y.snd.snd.snd.snd.snd.snd.fst.fst =
 IntKind.i64.wrap
 (IntKind.i64.wrap
 (IntKind.i64.wrap
 (IntKind.i64.wrap
 (IntKind.i64.wrap
 (IntKind.i64.wrap
 (IntKind.i64.wrap
 (IntKind.i64.wrap
 (IntKind.i64.wrap
 (s1 +
 (1 : Int)) +
 (1 : Int)) +
 (1 : Int)) +
 (1 : Int)) +
 (1 : Int)) +
 (1 : Int)) +
 (1 : Int)) +
 (1 : Int)) +
 (1 : Int))) then
 some (-1 : Int)
 else
 if (0 : Int) ≤ s5 then
 (nth s0 s5.toNat).bind fun y =>
 bif
 !decide
 (y.snd.snd.snd.snd.snd.snd.fst.snd.fst =
 IntKind.i64.wrap
 (IntKind.i64.wrap
 (IntKind.i64.wrap
 (IntKind.i64.wrap
 (IntKind.i64.wrap
 (IntKind.i64.wrap
 (IntKind.i64.wrap
 (IntKind.i64.wrap
 (IntKind.i64.wrap
 (IntKind.i64.wrap
 (s1 +
 (1 :
 Int)) +
 (1 :
 Int)) +
 (1 :
 Int)) +
 (1 : Int)) +
 (1 : Int)) +
 (1 : Int)) +
 (1 : Int)) +
 (1 : Int)) +
 (1 : Int)) +
 (1 : Int))) then
 some (-1 : Int)
 else
 if (0 : Int) ≤ s5 then
 (nth s0 s5.toNat).bind fun y =>
 bif
 !decide
 (y.snd.snd.snd.snd.snd.snd.fst.snd.snd.fst =
 IntKind.i64.wrap
 (IntKind.i64.wrap
 (IntKind.i64.wrap
 (IntKind.i64.wrap
 (IntKind.i64.wrap
 (IntKind.i64.wrap
 (IntKind.i64.wrap
 (IntKind.i64.wrap
 (IntKind.i64.wrap
 (IntKind.i64.wrap
 (IntKind.i64.wrap
 (s1 +
 (1 :
 Int)) +
 (1 :
 Int)) +
 (1 :
 Int)) +
 (1 :
 Int)) +
 (1 :
 Int)) +
 (1 : Int)) +
 (1 : Int)) +
 (1 : Int)) +
 (1 : Int)) +
 (1 : Int)) +
 (1 : Int))) then
 some (-1 : Int)
 else
 if (0 : Int) ≤ s5 then
 (nth s0 s5.toNat).bind fun y =>
 bif
 !decide
 (y.snd.snd.snd.snd.snd.snd.fst.snd.snd.snd.fst =
 IntKind.i64.wrap
 (IntKind.i64.wrap
 (IntKind.i64.wrap
 (IntKind.i64.wrap
 (IntKind.i64.wrap
 (IntKind.i64.wrap
 (IntKind.i64.wrap
 (IntKind.i64.wrap
 (IntKind.i64.wrap
 (IntKind.i64.wrap
 (IntKind.i64.wrap
 (IntKind.i64.wrap
 (s1 +
 (1 :
 Int)) +
 (1 :
 Int)) +
 (1 :
 Int)) +
 (1 :
 Int)) +
 (1 :
 Int)) +
 (1 :
 Int)) +
 (1 :
 Int)) +
 (1 :
 Int)) +
 (1 : Int)) +
 (1 : Int)) +
 (1 : Int)) +
 (1 : Int))) then
 some (-1 : Int)
 else
 R_l_heldLetterS_2 n s0
 (IntKind.i64.wrap
 (IntKind.i64.wrap
 (IntKind.i64.wrap
 (IntKind.i64.wrap
 (IntKind.i64.wrap
 (IntKind.i64.wrap
 (IntKind.i64.wrap
 (IntKind.i64.wrap
 (IntKind.i64.wrap
 (IntKind.i64.wrap
 (IntKind.i64.wrap
 (IntKind.i64.wrap
 (IntKind.i64.wrap
 (s1 +
 (1 :
 Int)) +
 (1 :
 Int)) +
 (1 :
 Int)) +
 (1 :
 Int)) +
 (1 :
 Int)) +
 (1 :
 Int)) +
 (1 :
 Int)) +
 (1 : Int)) +
 (1 : Int)) +
 (1 : Int)) +
 (1 : Int)) +
 (1 : Int)) +
 (1 : Int)))
 (IntKind.i64.wrap (s5 + (1 : Int)))
 else none
 else none
 else none
 else none
 else none
 else none
 else none
 else none
 else none
 else none
 else none
 else none
 else none
 else some s1 := by kernel_rfl

end Go.Sx.Try

set_option maxRecDepth 100000
namespace Go.Sx.Try
open Go Go.Sx Go.Proofs

noncomputable def l_l_markPeer : List (Nat × Con) := [(65, c_l_markIntS), (66, c_l_markCellS), (78, c_l_markUndoS), (79, c_l_markVoteS), (47, c_l_markLetterS)]
theorem l_l_markPeer_ok : ∀ q ∈ l_l_markPeer, ConOk Try.prog q.1 q.2 := Try.cons_cons c_l_markIntS_ok (Try.cons_cons c_l_markCellS_ok (Try.cons_cons c_l_markUndoS_ok (Try.cons_cons c_l_markVoteS_ok (Try.cons_cons c_l_markLetterS_ok (Try.cons_nil)))))
def kp_l_markPeer : KP := []
noncomputable def q_l_markPeer (n : Nat) (x : AP.denL [.mo uIPeer, .ro tInt]) := evX (false, false, [2, 5, 9, 13, 17, 21, 25]) l_l_markPeer kp_l_markPeer [none] Try.f19 (shO (shV tInt) [.mo uIPeer]) n (AP.encL [.mo uIPeer, .ro tInt] x)
noncomputable def c_l_markPeer : Con := apS [.mo uIPeer, .ro tInt] true (shO (shV tInt) [.mo uIPeer]) (q_l_markPeer big)
theorem c_l_markPeer_ok : ConOk Try.prog 19 c_l_markPeer := apS_ok ⟨Try.f19, by kernel_rfl, rfl, by decide⟩ fun _ _ h => evX_ok l_l_markPeer_ok (f := Try.f19) (by kernel_rfl) rfl (by kernel_rfl) (by kernel_rfl) big h
noncomputable def Q_l_markPeer (n : Nat) (a0 : DIPeer) (a1 : Int) : Option (Int × (Unit × Unit × (Unit × Unit × Unit × Unit × Unit) × (Unit × Unit × Unit × Unit × Unit) × (Unit × Unit × Unit × Unit × Unit) × (List Int) × (List DICell) × (List Int) × (List DIUndo) × (List DIVote) × (List DILetter) × Unit × Unit) × Unit) := q_l_markPeer n (a0, a1, ())
theorem Q_l_markPeer_eq (n : Nat) (a0 : DIPeer) (a1 : Int) : Q_l_markPeer n a0 a1 =
    (Q_l_markIntS big a0.snd.snd.snd.snd.snd.fst a1).bind fun y =>
 (Q_l_markCellS big a0.snd.snd.snd.snd.snd.snd.fst y.fst).bind fun y_1 =>
 (Q_l_markIntS big a0.snd.snd.snd.snd.snd.snd.snd.fst y_1.fst).bind fun y_2 =>
 (Q_l_markUndoS big a0.snd.snd.snd.snd.snd.snd.snd.snd.fst y_2.fst).bind fun y_3 =>
 (Q_l_markVoteS big a0.snd.snd.snd.snd.snd.snd.snd.snd.snd.fst y_3.fst).bind fun y_4 =>
 (Q_l_markLetterS big a0.snd.snd.snd.snd.snd.snd.snd.snd.snd.snd.fst y_4.fst).bind fun y_5 =>
 some
 (y_5.fst,
 (PUnit.unit, PUnit.unit, (PUnit.unit, PUnit.unit, PUnit.unit, PUnit.unit, PUnit.unit),
 (PUnit.unit, PUnit.unit, PUnit.unit, PUnit.unit, PUnit.unit),
 (PUnit.unit, PUnit.unit, PUnit.unit, PUnit.unit, PUnit.unit), y.snd.fst, y_1.snd.fst, y_2.snd.fst,
 y_3.snd.fst, y_4.snd.fst, y_5.snd.fst, PUnit.unit, PUnit.unit),
 PUnit.unit) := by kernel_rfl

end Go.Sx.Try

set_option maxRecDepth 100000
namespace Go.Sx.Try
open Go Go.Sx Go.Proofs

noncomputable def l_l_heldPeer : List (Nat × Con) := [(80, c_l_heldIntS), (67, c_l_heldCellS), (81, c_l_heldUndoS), (82, c_l_heldVoteS), (83, c_l_heldLetterS)]
theorem l_l_heldPeer_ok : ∀ q ∈ l_l_heldPeer, ConOk Try.prog q.1 q.2 := Try.cons_cons c_l_heldIntS_ok (Try.cons_cons c_l_heldCellS_ok (Try.cons_cons c_l_heldUndoS_ok (Try.cons_cons c_l_heldVoteS_ok (Try.cons_cons c_l_heldLetterS_ok (Try.cons_nil)))))
def kp_l_heldPeer : KP := []
noncomputable def q_l_heldPeer (n : Nat) (x : Args [tIPeer, tInt]) := evX (false, false, [2, 5, 11, 17, 23, 29, 35]) l_l_heldPeer kp_l_heldPeer [none] Try.f20 (shV tInt) n (encA [tIPeer, tInt] x)
noncomputable def c_l_heldPeer : Con := roS [tIPeer, tInt] true (shV tInt) (q_l_heldPeer big)
theorem c_l_heldPeer_ok : ConOk Try.prog 20 c_l_heldPeer := roS_ok ⟨Try.f20, by kernel_rfl, rfl, by decide⟩ fun _ _ h => evX_ok l_l_heldPeer_ok (f := Try.f20) (by kernel_rfl) rfl (by kernel_rfl) (by kernel_rfl) big h
noncomputable def Q_l_heldPeer (n : Nat) (a0 : DIPeer) (a1 : Int) : Option Int := q_l_heldPeer n (a0, a1, ())
theorem Q_l_heldPeer_eq (n : Nat) (a0 : DIPeer) (a1 : Int) : Q_l_heldPeer n a0 a1 =
    (Q_l_heldIntS big a0.snd.snd.snd.snd.snd.fst a1).bind fun y =>
 bif decide (y < (0 : Int)) then some (-1 : Int)
 else
 (Q_l_heldCellS big a0.snd.snd.snd.snd.snd.snd.fst y).bind fun y =>
 bif decide (y < (0 : Int)) then some (-1 : Int)
 else
 (Q_l_heldIntS big a0.snd.snd.snd.snd.snd.snd.snd.fst y).bind fun y =>
 bif decide (y < (0 : Int)) then some (-1 : Int)
 else
 (Q_l_heldUndoS big a0.snd.snd.snd.snd.snd.snd.snd.snd.fst y).bind fun y =>
 bif decide (y < (0 : Int)) then some (-1 : Int)
 else
 (Q_l_heldVoteS big a0.snd.snd.snd.snd.snd.snd.snd.snd.snd.fst y).bind fun y =>
 bif decide (y < (0 : Int)) then some (-1 : Int)
 else
 (Q_l_heldLetterS big a0.snd.snd.snd.snd.snd.snd.snd.snd.snd.snd.fst y).bind fun y =>
 bif decide (y < (0 : Int)) then some (-1 : Int) else some y := by kernel_rfl

end Go.Sx.Try

set_option maxRecDepth 100000
namespace Go.Sx.Try
open Go Go.Sx Go.Proofs

noncomputable def l_g_Clone_Int : List (Nat × Con) := []
theorem l_g_Clone_Int_ok : ∀ q ∈ l_g_Clone_Int, ConOk Try.prog q.1 q.2 := Try.cons_nil
def kp_g_Clone_Int : KP := []
noncomputable def q_g_Clone_Int (n : Nat) (x : Args [tSlInt]) := evX (false, false, []) l_g_Clone_Int kp_g_Clone_Int [some uSlInt] Try.f152 (shF uSlInt) n (encA [tSlInt] x)
noncomputable def c_g_Clone_Int : Con := roS [tSlInt] true (shF uSlInt) (q_g_Clone_Int big)
theorem c_g_Clone_Int_ok : ConOk Try.prog 152 c_g_Clone_Int := roS_ok ⟨Try.f152, by kernel_rfl, rfl, by decide⟩ fun _ _ h => evX_ok l_g_Clone_Int_ok (f := Try.f152) (by kernel_rfl) rfl (by kernel_rfl) (by kernel_rfl) big h
noncomputable def Q_g_Clone_Int (n : Nat) (a0 : DSlInt) : Option DSlInt := q_g_Clone_Int n (a0, ())
theorem Q_g_Clone_Int_eq (n : Nat) (a0 : DSlInt) : Q_g_Clone_Int n a0 =
    nilC a0 fun b => bif b then some [] else if (0 : Nat) + List.length a0 ≤ lim then some a0 else none := by kernel_rfl

end Go.Sx.Try

set_option maxRecDepth 100000
namespace Go.Sx.Try
open Go Go.Sx Go.Proofs

noncomputable def l_g_Clone_ICell : List (Nat × Con) := []
theorem l_g_Clone_ICell_ok : ∀ q ∈ l_g_Clone_ICell, ConOk Try.prog q.1 q.2 := Try.cons_nil
def kp_g_Clone_ICell : KP := []
noncomputable def q_g_Clone_ICell (n : Nat) (x : Args [tSlICell]) := evX (false, false, []) l_g_Clone_ICell kp_g_Clone_ICell [some uSlICell] Try.f153 (shF uSlICell) n (encA [tSlICell] x)
noncomputable def c_g_Clone_ICell : Con := roS [tSlICell] true (shF uSlICell) (q_g_Clone_ICell big)
theorem c_g_Clone_ICell_ok : ConOk Try.prog 153 c_g_Clone_ICell := roS_ok ⟨Try.f153, by kernel_rfl, rfl, by decide⟩ fun _ _ h => evX_ok l_g_Clone_ICell_ok (f := Try.f153) (by kernel_rfl) rfl (by kernel_rfl) (by kernel_rfl) big h
noncomputable def Q_g_Clone_ICell (n : Nat) (a0 : DSlICell) : Option DSlICell := q_g_Clone_ICell n (a0, ())
theorem Q_g_Clone_ICell_eq (n : Nat) (a0 : DSlICell) : Q_g_Clone_ICell n a0 =
    nilC a0 fun b => bif b then some [] else if (0 : Nat) + List.length a0 ≤ lim then some a0 else none := by kernel_rfl

end Go.Sx.Try

set_option maxRecDepth 100000
namespace Go.Sx.Try
open Go Go.Sx Go.Proofs

noncomputable def l_g_Clone_IUndo : List (Nat × Con) := []
theorem l_g_Clone_IUndo_ok : ∀ q ∈ l_g_Clone_IUndo, ConOk Try.prog q.1 q.2 := Try.cons_nil
def kp_g_Clone_IUndo : KP := []
noncomputable def q_g_Clone_IUndo (n : Nat) (x : Args [tSlIUndo]) := evX (false, false, []) l_g_Clone_IUndo kp_g_Clone_IUndo [some uSlIUndo] Try.f154 (shF uSlIUndo) n (encA [tSlIUndo] x)
noncomputable def c_g_Clone_IUndo : Con := roS [tSlIUndo] true (shF uSlIUndo) (q_g_Clone_IUndo big)
theorem c_g_Clone_IUndo_ok : ConOk Try.prog 154 c_g_Clone_IUndo := roS_ok ⟨Try.f154, by kernel_rfl, rfl, by decide⟩ fun _ _ h => evX_ok l_g_Clone_IUndo_ok (f := Try.f154) (by kernel_rfl) rfl (by kernel_rfl) (by kernel_rfl) big h
noncomputable def Q_g_Clone_IUndo (n : Nat) (a0 : DSlIUndo) : Option DSlIUndo := q_g_Clone_IUndo n (a0, ())
theorem Q_g_Clone_IUndo_eq (n : Nat) (a0 : DSlIUndo) : Q_g_Clone_IUndo n a0 =
    nilC a0 fun b => bif b then some [] else if (0 : Nat) + List.length a0 ≤ lim then some a0 else none := by kernel_rfl

end Go.Sx.Try

set_option maxRecDepth 100000
namespace Go.Sx.Try
open Go Go.Sx Go.Proofs

noncomputable def l_g_Clone_IVote : List (Nat × Con) := []
theorem l_g_Clone_IVote_ok : ∀ q ∈ l_g_Clone_IVote, ConOk Try.prog q.1 q.2 := Try.cons_nil
def kp_g_Clone_IVote : KP := []
noncomputable def q_g_Clone_IVote (n : Nat) (x : Args [tSlIVote]) := evX (false, false, []) l_g_Clone_IVote kp_g_Clone_IVote [some uSlIVote] Try.f155 (shF uSlIVote) n (encA [tSlIVote] x)
noncomputable def c_g_Clone_IVote : Con := roS [tSlIVote] true (shF uSlIVote) (q_g_Clone_IVote big)
theorem c_g_Clone_IVote_ok : ConOk Try.prog 155 c_g_Clone_IVote := roS_ok ⟨Try.f155, by kernel_rfl, rfl, by decide⟩ fun _ _ h => evX_ok l_g_Clone_IVote_ok (f := Try.f155) (by kernel_rfl) rfl (by kernel_rfl) (by kernel_rfl) big h
noncomputable def Q_g_Clone_IVote (n : Nat) (a0 : DSlIVote) : Option DSlIVote := q_g_Clone_IVote n (a0, ())
theorem Q_g_Clone_IVote_eq (n : Nat) (a0 : DSlIVote) : Q_g_Clone_IVote n a0 =
    nilC a0 fun b => bif b then some [] else if (0 : Nat) + List.length a0 ≤ lim then some a0 else none := by kernel_rfl

end Go.Sx.Try

set_option maxRecDepth 100000
namespace Go.Sx.Try
open Go Go.Sx Go.Proofs

noncomputable def l_g_Clone_ILetter : List (Nat × Con) := []
theorem l_g_Clone_ILetter_ok : ∀ q ∈ l_g_Clone_ILetter, ConOk Try.prog q.1 q.2 := Try.cons_nil
def kp_g_Clone_ILetter : KP := []
noncomputable def q_g_Clone_ILetter (n : Nat) (x : Args [tSlILetter]) := evX (false, false, []) l_g_Clone_ILetter kp_g_Clone_ILetter [some uSlILetter] Try.f156 (shF uSlILetter) n (encA [tSlILetter] x)
noncomputable def c_g_Clone_ILetter : Con := roS [tSlILetter] true (shF uSlILetter) (q_g_Clone_ILetter big)
theorem c_g_Clone_ILetter_ok : ConOk Try.prog 156 c_g_Clone_ILetter := roS_ok ⟨Try.f156, by kernel_rfl, rfl, by decide⟩ fun _ _ h => evX_ok l_g_Clone_ILetter_ok (f := Try.f156) (by kernel_rfl) rfl (by kernel_rfl) (by kernel_rfl) big h
noncomputable def Q_g_Clone_ILetter (n : Nat) (a0 : DSlILetter) : Option DSlILetter := q_g_Clone_ILetter n (a0, ())
theorem Q_g_Clone_ILetter_eq (n : Nat) (a0 : DSlILetter) : Q_g_Clone_ILetter n a0 =
    nilC a0 fun b => bif b then some [] else if (0 : Nat) + List.length a0 ≤ lim then some a0 else none := by kernel_rfl

end Go.Sx.Try

set_option maxRecDepth 100000
namespace Go.Sx.Try
open Go Go.Sx Go.Proofs

noncomputable def l_i_clonePeer : List (Nat × Con) := [(152, c_g_Clone_Int), (153, c_g_Clone_ICell), (154, c_g_Clone_IUndo), (155, c_g_Clone_IVote), (156, c_g_Clone_ILetter)]
theorem l_i_clonePeer_ok : ∀ q ∈ l_i_clonePeer, ConOk Try.prog q.1 q.2 := Try.cons_cons c_g_Clone_Int_ok (Try.cons_cons c_g_Clone_ICell_ok (Try.cons_cons c_g_Clone_IUndo_ok (Try.cons_cons c_g_Clone_IVote_ok (Try.cons_cons c_g_Clone_ILetter_ok (Try.cons_nil)))))
def kp_i_clonePeer : KP := []
noncomputable def q_i_clonePeer (n : Nat) (x : Args [tIPeer]) := evX (false, false, [1, 3, 6, 9, 12, 15, 18]) l_i_clonePeer kp_i_clonePeer [some uIPeer] Try.f94 (shF uIPeer) n (encA [tIPeer] x)
noncomputable def c_i_clonePeer : Con := roS [tIPeer] true (shF uIPeer) (q_i_clonePeer big)
theorem c_i_clonePeer_ok : ConOk Try.prog 94 c_i_clonePeer := roS_ok ⟨Try.f94, by kernel_rfl, rfl, by decide⟩ fun _ _ h => evX_ok l_i_clonePeer_ok (f := Try.f94) (by kernel_rfl) rfl (by kernel_rfl) (by kernel_rfl) big h
noncomputable def Q_i_clonePeer (n : Nat) (a0 : DIPeer) : Option DIPeer := q_i_clonePeer n (a0, ())
theorem Q_i_clonePeer_eq (n : Nat) (a0 : DIPeer) : Q_i_clonePeer n a0 =
    (Q_g_Clone_Int big a0.snd.snd.snd.snd.snd.fst).bind fun y =>
 (Q_g_Clone_ICell big a0.snd.snd.snd.snd.snd.snd.fst).bind fun y_1 =>
 (Q_g_Clone_Int big a0.snd.snd.snd.snd.snd.snd.snd.fst).bind fun y_2 =>
 (Q_g_Clone_IUndo big a0.snd.snd.snd.snd.snd.snd.snd.snd.fst).bind fun y_3 =>
 (Q_g_Clone_IVote big a0.snd.snd.snd.snd.snd.snd.snd.snd.snd.fst).bind fun y_4 =>
 (Q_g_Clone_ILetter big a0.snd.snd.snd.snd.snd.snd.snd.snd.snd.snd.fst).bind fun y_5 =>
 some
 (a0.fst, a0.snd.fst, a0.snd.snd.fst, a0.snd.snd.snd.fst, a0.snd.snd.snd.snd.fst, y, y_1, y_2, y_3, y_4,
 y_5, a0.snd.snd.snd.snd.snd.snd.snd.snd.snd.snd.snd) := by kernel_rfl

end Go.Sx.Try

set_option maxRecDepth 100000
namespace Go.Sx.Try
open Go Go.Sx Go.Proofs

noncomputable def l_s_l09Copy : List (Nat × Con) := []
theorem l_s_l09Copy_ok : ∀ q ∈ l_s_l09Copy, ConOk Try.prog q.1 q.2 := Try.cons_nil
def kp_s_l09Copy : KP := []
noncomputable def q_s_l09Copy (n : Nat) (x : Args [tIPeer]) := evX (false, false, [1, 3, 6, 11, 16, 21, 26, 31]) l_s_l09Copy kp_s_l09Copy [some uIPeer] Try.f88 (shF uIPeer) n (encA [tIPeer] x)
noncomputable def c_s_l09Copy : Con := roS [tIPeer] true (shF uIPeer) (q_s_l09Copy big)
theorem c_s_l09Copy_ok : ConOk Try.prog 88 c_s_l09Copy := roS_ok ⟨Try.f88, by kernel_rfl, rfl, by decide⟩ fun _ _ h => evX_ok l_s_l09Copy_ok (f := Try.f88) (by kernel_rfl) rfl (by kernel_rfl) (by kernel_rfl) big h
noncomputable def Q_s_l09Copy (n : Nat) (a0 : DIPeer) : Option DIPeer := q_s_l09Copy n (a0, ())
theorem Q_s_l09Copy_eq (n : Nat) (a0 : DIPeer) : Q_s_l09Copy n a0 =
    if (0 : Nat) + List.length a0.snd.snd.snd.snd.snd.fst ≤ lim then
 if (0 : Nat) + List.length a0.snd.snd.snd.snd.snd.snd.fst ≤ lim then
 if (0 : Nat) + List.length a0.snd.snd.snd.snd.snd.snd.snd.fst ≤ lim then
 if (0 : Nat) + List.length a0.snd.snd.snd.snd.snd.snd.snd.snd.fst ≤ lim then
 if (0 : Nat) + List.length a0.snd.snd.snd.snd.snd.snd.snd.snd.snd.fst ≤ lim then
 if (0 : Nat) + List.length a0.snd.snd.snd.snd.snd.snd.snd.snd.snd.snd.fst ≤ lim then some a0 else none
 else none
 else none
 else none
 else none
 else none := by kernel_rfl

end Go.Sx.Try

set_option maxRecDepth 100000
namespace Go.Sx.Try
open Go Go.Sx Go.Proofs

noncomputable def l_i_Entered : List (Nat × Con) := [(94, c_i_clonePeer)]
theorem l_i_Entered_ok : ∀ q ∈ l_i_Entered, ConOk Try.prog q.1 q.2 := Try.cons_cons c_i_clonePeer_ok (Try.cons_nil)
def kp_i_Entered : KP := []
noncomputable def q_i_Entered (n : Nat) (x : Args [tIPeer, tInt]) := evX (false, false, [2, 5, 9]) l_i_Entered kp_i_Entered [some uIPeer] Try.f27 (shF uIPeer) n (encA [tIPeer, tInt] x)
noncomputable def c_i_Entered : Con := roS [tIPeer, tInt] true (shF uIPeer) (q_i_Entered big)
theorem c_i_Entered_ok : ConOk Try.prog 27 c_i_Entered := roS_ok ⟨Try.f27, by kernel_rfl, rfl, by decide⟩ fun _ _ h => evX_ok l_i_Entered_ok (f := Try.f27) (by kernel_rfl) rfl (by kernel_rfl) (by kernel_rfl) big h
noncomputable def Q_i_Entered (n : Nat) (a0 : DIPeer) (a1 : Int) : Option DIPeer := q_i_Entered n (a0, a1, ())
theorem Q_i_Entered_eq (n : Nat) (a0 : DIPeer) (a1 : Int) : Q_i_Entered n a0 a1 =
    (Q_i_clonePeer big a0).bind fun y =>
 bif decide (a0.snd.fst < a1) then
 bif decide (a1 ≤ (900 : Int)) then
 some
 (y.fst, a1, y.snd.snd.fst, y.snd.snd.snd.fst, y.snd.snd.snd.snd.fst, y.snd.snd.snd.snd.snd.fst,
 y.snd.snd.snd.snd.snd.snd.fst, y.snd.snd.snd.snd.snd.snd.snd.fst, y.snd.snd.snd.snd.snd.snd.snd.snd.fst, [],
 [], y.snd.snd.snd.snd.snd.snd.snd.snd.snd.snd.snd)
 else some y
 else some y := by kernel_rfl

end Go.Sx.Try

set_option maxRecDepth 100000
namespace Go.Sx.Try
open Go Go.Sx Go.Proofs

noncomputable def l_s_Entered : List (Nat × Con) := [(88, c_s_l09Copy)]
theorem l_s_Entered_ok : ∀ q ∈ l_s_Entered, ConOk Try.prog q.1 q.2 := Try.cons_cons c_s_l09Copy_ok (Try.cons_nil)
def kp_s_Entered : KP := []
noncomputable def q_s_Entered (n : Nat) (x : Args [tIPeer, tInt]) := evX (false, false, [2, 5, 9]) l_s_Entered kp_s_Entered [some uIPeer] Try.f26 (shF uIPeer) n (encA [tIPeer, tInt] x)
noncomputable def c_s_Entered : Con := roS [tIPeer, tInt] true (shF uIPeer) (q_s_Entered big)
theorem c_s_Entered_ok : ConOk Try.prog 26 c_s_Entered := roS_ok ⟨Try.f26, by kernel_rfl, rfl, by decide⟩ fun _ _ h => evX_ok l_s_Entered_ok (f := Try.f26) (by kernel_rfl) rfl (by kernel_rfl) (by kernel_rfl) big h
noncomputable def Q_s_Entered (n : Nat) (a0 : DIPeer) (a1 : Int) : Option DIPeer := q_s_Entered n (a0, a1, ())
theorem Q_s_Entered_eq (n : Nat) (a0 : DIPeer) (a1 : Int) : Q_s_Entered n a0 a1 =
    (Q_s_l09Copy big a0).bind fun y =>
 bif decide (a0.snd.fst < a1) then
 bif decide (a1 ≤ (900 : Int)) then
 some
 (y.fst, a1, y.snd.snd.fst, y.snd.snd.snd.fst, y.snd.snd.snd.snd.fst, y.snd.snd.snd.snd.snd.fst,
 y.snd.snd.snd.snd.snd.snd.fst, y.snd.snd.snd.snd.snd.snd.snd.fst, y.snd.snd.snd.snd.snd.snd.snd.snd.fst, [],
 [], y.snd.snd.snd.snd.snd.snd.snd.snd.snd.snd.snd)
 else some y
 else some y := by kernel_rfl

end Go.Sx.Try

set_option maxRecDepth 100000
namespace Go.Sx.Try
open Go Go.Sx Go.Proofs

noncomputable def l_i_in : List (Nat × Con) := []
theorem l_i_in_ok : ∀ q ∈ l_i_in, ConOk Try.prog q.1 q.2 := Try.cons_nil
def kp_i_in : KP := []
noncomputable def q_i_in (n : Nat) (x : Args [tInt, tInt, tInt]) := evX (false, false, []) l_i_in kp_i_in [none] Try.f98 (shV tBool) n (encA [tInt, tInt, tInt] x)
noncomputable def c_i_in : Con := roS [tInt, tInt, tInt] true (shV tBool) (q_i_in big)
theorem c_i_in_ok : ConOk Try.prog 98 c_i_in := roS_ok ⟨Try.f98, by kernel_rfl, rfl, by decide⟩ fun _ _ h => evX_ok l_i_in_ok (f := Try.f98) (by kernel_rfl) rfl (by kernel_rfl) (by kernel_rfl) big h
noncomputable def Q_i_in (n : Nat) (a0 : Int) (a1 : Int) (a2 : Int) : Option Bool := q_i_in n (a0, a1, a2, ())
theorem Q_i_in_eq (n : Nat) (a0 : Int) (a1 : Int) (a2 : Int) : Q_i_in n a0 a1 a2 =
    bif decide (a1 ≤ a0) then some (decide (a0 ≤ a2)) else some false := by kernel_rfl

end Go.Sx.Try

set_option maxRecDepth 100000
namespace Go.Sx.Try
open Go Go.Sx Go.Proofs

noncomputable def l_i_LeaderOf : List (Nat × Con) := []
theorem l_i_LeaderOf_ok : ∀ q ∈ l_i_LeaderOf, ConOk Try.prog q.1 q.2 := Try.cons_nil
def kp_i_LeaderOf : KP := []
noncomputable def q_i_LeaderOf (n : Nat) (x : Args [tInt, tInt]) := evX (false, false, []) l_i_LeaderOf kp_i_LeaderOf [none] Try.f100 (shV tInt) n (encA [tInt, tInt] x)
noncomputable def c_i_LeaderOf : Con := roS [tInt, tInt] true (shV tInt) (q_i_LeaderOf big)
theorem c_i_LeaderOf_ok : ConOk Try.prog 100 c_i_LeaderOf := roS_ok ⟨Try.f100, by kernel_rfl, rfl, by decide⟩ fun _ _ h => evX_ok l_i_LeaderOf_ok (f := Try.f100) (by kernel_rfl) rfl (by kernel_rfl) (by kernel_rfl) big h
noncomputable def Q_i_LeaderOf (n : Nat) (a0 : Int) (a1 : Int) : Option Int := q_i_LeaderOf n (a0, a1, ())
theorem Q_i_LeaderOf_eq (n : Nat) (a0 : Int) (a1 : Int) : Q_i_LeaderOf n a0 a1 =
    bif decide (a1 < (1 : Int)) then some (0 : Int)
 else
 bif decide (a0 < (0 : Int)) then some (0 : Int)
 else if a1 = (0 : Int) then none else some ((IntKind.i64.wrap (a0.tdiv (4 : Int))).tmod a1) := by kernel_rfl

end Go.Sx.Try

set_option maxRecDepth 100000
namespace Go.Sx.Try
open Go Go.Sx Go.Proofs

noncomputable def l_i_Answered : List (Nat × Con) := []
theorem l_i_Answered_ok : ∀ q ∈ l_i_Answered, ConOk Try.prog q.1 q.2 := Try.cons_nil
def kp_i_Answered : KP := []
noncomputable def q_i_Answered (n : Nat) (x : Args [tIPeer, tInt, tInt, tIQc, tIVote]) := evX (false, false, [5, 8, 9, 14, 17, 22, 25]) l_i_Answered kp_i_Answered [none] Try.f99 (shV tILetter) n (encA [tIPeer, tInt, tInt, tIQc, tIVote] x)
noncomputable def c_i_Answered : Con := roS [tIPeer, tInt, tInt, tIQc, tIVote] true (shV tILetter) (q_i_Answered big)
theorem c_i_Answered_ok : ConOk Try.prog 99 c_i_Answered := roS_ok ⟨Try.f99, by kernel_rfl, rfl, by decide⟩ fun _ _ h => evX_ok l_i_Answered_ok (f := Try.f99) (by kernel_rfl) rfl (by kernel_rfl) (by kernel_rfl) big h
noncomputable def Q_i_Answered (n : Nat) (a0 : DIPeer) (a1 : Int) (a2 : Int) (a3 : DIQc) (a4 : DIVote) : Option DILetter := q_i_Answered n (a0, a1, a2, a3, a4, ())
theorem Q_i_Answered_eq (n : Nat) (a0 : DIPeer) (a1 : Int) (a2 : Int) (a3 : DIQc) (a4 : DIVote) : Q_i_Answered n a0 a1 a2 a3 a4 =
    bif decide (a1 = (2 : Int)) then
 some
 (a1, a0.fst, a2, a4.snd.fst, (0 : Int), ((0 : Int), (0 : Int), (0 : Int), (0 : Int), PUnit.unit), a4, PUnit.unit)
 else
 some
 (a1, a0.fst, a2, a0.snd.fst, (0 : Int), a3, ((0 : Int), (0 : Int), (0 : Int), (0 : Int), PUnit.unit),
 PUnit.unit) := by kernel_rfl

end Go.Sx.Try

set_option maxRecDepth 100000
namespace Go.Sx.Try
open Go Go.Sx Go.Proofs

noncomputable def l_i_TimedOut : List (Nat × Con) := [(98, c_i_in), (94, c_i_clonePeer), (27, c_i_Entered), (100, c_i_LeaderOf), (99, c_i_Answered)]
theorem l_i_TimedOut_ok : ∀ q ∈ l_i_TimedOut, ConOk Try.prog q.1 q.2 := Try.cons_cons c_i_in_ok (Try.cons_cons c_i_clonePeer_ok (Try.cons_cons c_i_Entered_ok (Try.cons_cons c_i_LeaderOf_ok (Try.cons_cons c_i_Answered_ok (Try.cons_nil)))))
def kp_i_TimedOut : KP := []
noncomputable def q_i_TimedOut (n : Nat) (x : Args [tIPeer, tInt]) := evX (false, false, [2, 7, 8, 20, 26, 30]) l_i_TimedOut kp_i_TimedOut [some uIPeer, none, none] Try.f29 (shT [(true, uIPeer), (false, tILetter), (false, tBool)]) n (encA [tIPeer, tInt] x)
noncomputable def c_i_TimedOut : Con := roS [tIPeer, tInt] true (shT [(true, uIPeer), (false, tILetter), (false, tBool)]) (q_i_TimedOut big)
theorem c_i_TimedOut_ok : ConOk Try.prog 29 c_i_TimedOut := roS_ok ⟨Try.f29, by kernel_rfl, rfl, by decide⟩ fun _ _ h => evX_ok l_i_TimedOut_ok (f := Try.f29) (by kernel_rfl) rfl (by kernel_rfl) (by kernel_rfl) big h
noncomputable def Q_i_TimedOut (n : Nat) (a0 : DIPeer) (a1 : Int) : Option (DIPeer × DILetter × Bool × Unit) := q_i_TimedOut n (a0, a1, ())
theorem Q_i_TimedOut_eq (n : Nat) (a0 : DIPeer) (a1 : Int) : Q_i_TimedOut n a0 a1 =
    bif decide ((900 : Int) ≤ a0.snd.fst) then
 (Q_i_clonePeer big a0).bind fun y =>
 some
 (y,
 ((0 : Int), (0 : Int), (0 : Int), (0 : Int), (0 : Int),
 ((0 : Int), (0 : Int), (0 : Int), (0 : Int), PUnit.unit),
 ((0 : Int), (0 : Int), (0 : Int), (0 : Int), PUnit.unit), PUnit.unit),
 false, PUnit.unit)
 else
 (Q_i_in big a1 (1 : Int) (7 : Int)).bind fun y =>
 bif !y then
 (Q_i_clonePeer big a0).bind fun y =>
 some
 (y,
 ((0 : Int), (0 : Int), (0 : Int), (0 : Int), (0 : Int),
 ((0 : Int), (0 : Int), (0 : Int), (0 : Int), PUnit.unit),
 ((0 : Int), (0 : Int), (0 : Int), (0 : Int), PUnit.unit), PUnit.unit),
 false, PUnit.unit)
 else
 (Q_i_Entered big a0 (IntKind.i64.wrap (a0.snd.fst + (1 : Int)))).bind fun y =>
 (Q_i_LeaderOf big y.snd.fst a1).bind fun y_1 =>
 some
 (y,
 ((4 : Int), y.fst, y_1, y.snd.fst, (0 : Int), y.snd.snd.fst,
 ((0 : Int), (0 : Int), (0 : Int), (0 : Int), PUnit.unit), PUnit.unit),
 true, PUnit.unit) := by kernel_rfl

end Go.Sx.Try

set_option maxRecDepth 100000
namespace Go.Sx.Try
open Go Go.Sx Go.Proofs

noncomputable def l_s_l01In : List (Nat × Con) := []
theorem l_s_l01In_ok : ∀ q ∈ l_s_l01In, ConOk Try.prog q.1 q.2 := Try.cons_nil
def kp_s_l01In : KP := []
noncomputable def q_s_l01In (n : Nat) (x : Args [tInt, tInt, tInt]) := evX (false, false, []) l_s_l01In kp_s_l01In [none] Try.f95 (shV tBool) n (encA [tInt, tInt, tInt] x)
noncomputable def c_s_l01In : Con := roS [tInt, tInt, tInt] true (shV tBool) (q_s_l01In big)
theorem c_s_l01In_ok : ConOk Try.prog 95 c_s_l01In := roS_ok ⟨Try.f95, by kernel_rfl, rfl, by decide⟩ fun _ _ h => evX_ok l_s_l01In_ok (f := Try.f95) (by kernel_rfl) rfl (by kernel_rfl) (by kernel_rfl) big h
noncomputable def Q_s_l01In (n : Nat) (a0 : Int) (a1 : Int) (a2 : Int) : Option Bool := q_s_l01In n (a0, a1, a2, ())
theorem Q_s_l01In_eq (n : Nat) (a0 : Int) (a1 : Int) (a2 : Int) : Q_s_l01In n a0 a1 a2 =
    bif decide (a1 ≤ a0) then some (decide (a0 ≤ a2)) else some false := by kernel_rfl

end Go.Sx.Try

set_option maxRecDepth 100000
namespace Go.Sx.Try
open Go Go.Sx Go.Proofs

noncomputable def l_s_LeaderOf : List (Nat × Con) := []
theorem l_s_LeaderOf_ok : ∀ q ∈ l_s_LeaderOf, ConOk Try.prog q.1 q.2 := Try.cons_nil
def kp_s_LeaderOf : KP := []
noncomputable def q_s_LeaderOf (n : Nat) (x : Args [tInt, tInt]) := evX (false, false, []) l_s_LeaderOf kp_s_LeaderOf [none] Try.f97 (shV tInt) n (encA [tInt, tInt] x)
noncomputable def c_s_LeaderOf : Con := roS [tInt, tInt] true (shV tInt) (q_s_LeaderOf big)
theorem c_s_LeaderOf_ok : ConOk Try.prog 97 c_s_LeaderOf := roS_ok ⟨Try.f97, by kernel_rfl, rfl, by decide⟩ fun _ _ h => evX_ok l_s_LeaderOf_ok (f := Try.f97) (by kernel_rfl) rfl (by kernel_rfl) (by kernel_rfl) big h
noncomputable def Q_s_LeaderOf (n : Nat) (a0 : Int) (a1 : Int) : Option Int := q_s_LeaderOf n (a0, a1, ())
theorem Q_s_LeaderOf_eq (n : Nat) (a0 : Int) (a1 : Int) : Q_s_LeaderOf n a0 a1 =
    bif decide (a1 < (1 : Int)) then some (0 : Int)
 else
 bif decide (a0 < (0 : Int)) then some (0 : Int)
 else if a1 = (0 : Int) then none else some ((IntKind.i64.wrap (a0.tdiv (4 : Int))).tmod a1) := by kernel_rfl

end Go.Sx.Try

set_option maxRecDepth 100000
namespace Go.Sx.Try
open Go Go.Sx Go.Proofs

noncomputable def l_s_Answered : List (Nat × Con) := []
theorem l_s_Answered_ok : ∀ q ∈ l_s_Answered, ConOk Try.prog q.1 q.2 := Try.cons_nil
def kp_s_Answered : KP := []
noncomputable def q_s_Answered (n : Nat) (x : Args [tIPeer, tInt, tInt, tIQc, tIVote]) := evX (false, false, [5, 8, 9, 11, 13, 16, 23]) l_s_Answered kp_s_Answered [none] Try.f96 (shV tILetter) n (encA [tIPeer, tInt, tInt, tIQc, tIVote] x)
noncomputable def c_s_Answered : Con := roS [tIPeer, tInt, tInt, tIQc, tIVote] true (shV tILetter) (q_s_Answered big)
theorem c_s_Answered_ok : ConOk Try.prog 96 c_s_Answered := roS_ok ⟨Try.f96, by kernel_rfl, rfl, by decide⟩ fun _ _ h => evX_ok l_s_Answered_ok (f := Try.f96) (by kernel_rfl) rfl (by kernel_rfl) (by kernel_rfl) big h
noncomputable def Q_s_Answered (n : Nat) (a0 : DIPeer) (a1 : Int) (a2 : Int) (a3 : DIQc) (a4 : DIVote) : Option DILetter := q_s_Answered n (a0, a1, a2, a3, a4, ())
theorem Q_s_Answered_eq (n : Nat) (a0 : DIPeer) (a1 : Int) (a2 : Int) (a3 : DIQc) (a4 : DIVote) : Q_s_Answered n a0 a1 a2 a3 a4 =
    bif decide (a1 = (2 : Int)) then
 some
 (a1, a0.fst, a2, a4.snd.fst, (0 : Int), ((0 : Int), (0 : Int), (0 : Int), (0 : Int), PUnit.unit), a4, PUnit.unit)
 else
 some
 (a1, a0.fst, a2, a0.snd.fst, (0 : Int), a3, ((0 : Int), (0 : Int), (0 : Int), (0 : Int), PUnit.unit),
 PUnit.unit) := by kernel_rfl

end Go.Sx.Try

set_option maxRecDepth 100000
namespace Go.Sx.Try
open Go Go.Sx Go.Proofs

noncomputable def l_s_TimedOut : List (Nat × Con) := [(95, c_s_l01In), (88, c_s_l09Copy), (26, c_s_Entered), (97, c_s_LeaderOf), (96, c_s_Answered)]
theorem l_s_TimedOut_ok : ∀ q ∈ l_s_TimedOut, ConOk Try.prog q.1 q.2 := Try.cons_cons c_s_l01In_ok (Try.cons_cons c_s_l09Copy_ok (Try.cons_cons c_s_Entered_ok (Try.cons_cons c_s_LeaderOf_ok (Try.cons_cons c_s_Answered_ok (Try.cons_nil)))))
def kp_s_TimedOut : KP := []
noncomputable def q_s_TimedOut (n : Nat) (x : Args [tIPeer, tInt]) := evX (false, false, [2, 7, 8, 20, 26, 30]) l_s_TimedOut kp_s_TimedOut [some uIPeer, none, none] Try.f28 (shT [(true, uIPeer), (false, tILetter), (false, tBool)]) n (encA [tIPeer, tInt] x)
noncomputable def c_s_TimedOut : Con := roS [tIPeer, tInt] true (shT [(true, uIPeer), (false, tILetter), (false, tBool)]) (q_s_TimedOut big)
theorem c_s_TimedOut_ok : ConOk Try.prog 28 c_s_TimedOut := roS_ok ⟨Try.f28, by kernel_rfl, rfl, by decide⟩ fun _ _ h => evX_ok l_s_TimedOut_ok (f := Try.f28) (by kernel_rfl) rfl (by kernel_rfl) (by kernel_rfl) big h
noncomputable def Q_s_TimedOut (n : Nat) (a0 : DIPeer) (a1 : Int) : Option (DIPeer × DILetter × Bool × Unit) := q_s_TimedOut n (a0, a1, ())
theorem Q_s_TimedOut_eq (n : Nat) (a0 : DIPeer) (a1 : Int) : Q_s_TimedOut n a0 a1 =
    bif decide ((900 : Int) ≤ a0.snd.fst) then
 (Q_s_l09Copy big a0).bind fun y =>
 some
 (y,
 ((0 : Int), (0 : Int), (0 : Int), (0 : Int), (0 : Int),
 ((0 : Int), (0 : Int), (0 : Int), (0 : Int), PUnit.unit),
 ((0 : Int), (0 : Int), (0 : Int), (0 : Int), PUnit.unit), PUnit.unit),
 false, PUnit.unit)
 else
 (Q_s_l01In big a1 (1 : Int) (7 : Int)).bind fun y =>
 bif !y then
 (Q_s_l09Copy big a0).bind fun y =>
 some
 (y,
 ((0 : Int), (0 : Int), (0 : Int), (0 : Int), (0 : Int),
 ((0 : Int), (0 : Int), (0 : Int), (0 : Int), PUnit.unit),
 ((0 : Int), (0 : Int), (0 : Int), (0 : Int), PUnit.unit), PUnit.unit),
 false, PUnit.unit)
 else
 (Q_s_Entered big a0 (IntKind.i64.wrap (a0.snd.fst + (1 : Int)))).bind fun y =>
 (Q_s_LeaderOf big y.snd.fst a1).bind fun y_1 =>
 some
 (y,
 ((4 : Int), y.fst, y_1, y.snd.fst, (0 : Int), y.snd.snd.fst,
 ((0 : Int), (0 : Int), (0 : Int), (0 : Int), PUnit.unit), PUnit.unit),
 true, PUnit.unit) := by kernel_rfl

end Go.Sx.Try

set_option maxRecDepth 100000
namespace Go.Sx.Try
open Go Go.Sx Go.Proofs

noncomputable def l_l_FnExactTimedOut : List (Nat × Con) := [(21, c_l_szPeer), (23, c_l_toPeer), (28, c_s_TimedOut), (29, c_i_TimedOut), (18, c_l_eqPeer), (30, c_l_eqLetter), (19, c_l_markPeer), (20, c_l_heldPeer)]
theorem l_l_FnExactTimedOut_ok : ∀ q ∈ l_l_FnExactTimedOut, ConOk Try.prog q.1 q.2 := Try.cons_cons c_l_szPeer_ok (Try.cons_cons c_l_toPeer_ok (Try.cons_cons c_s_TimedOut_ok (Try.cons_cons c_i_TimedOut_ok (Try.cons_cons c_l_eqPeer_ok (Try.cons_cons c_l_eqLetter_ok (Try.cons_cons c_l_markPeer_ok (Try.cons_cons c_l_heldPeer_ok (Try.cons_nil))))))))
def kp_l_FnExactTimedOut : KP := []
noncomputable def q_l_FnExactTimedOut (n : Nat) (x : Args [tLPeer, tInt]) := evX (false, false, [2, 6, 7, 9, 10, 11, 16, 17]) l_l_FnExactTimedOut kp_l_FnExactTimedOut [none] Try.f6 (shV tBool) n (encA [tLPeer, tInt] x)
noncomputable def c_l_FnExactTimedOut : Con := roS [tLPeer, tInt] true (shV tBool) (q_l_FnExactTimedOut big)
theorem c_l_FnExactTimedOut_ok : ConOk Try.prog 6 c_l_FnExactTimedOut := roS_ok ⟨Try.f6, by kernel_rfl, rfl, by decide⟩ fun _ _ h => evX_ok l_l_FnExactTimedOut_ok (f := Try.f6) (by kernel_rfl) rfl (by kernel_rfl) (by kernel_rfl) big h
noncomputable def Q_l_FnExactTimedOut (n : Nat) (a0 : DLPeer) (a1 : Int) : Option Bool := q_l_FnExactTimedOut n (a0, a1, ())
theorem Q_l_FnExactTimedOut_eq (n : Nat) (a0 : DLPeer) (a1 : Int) : Q_l_FnExactTimedOut n a0 a1 =
    (Q_l_szPeer big a0 (1048576 : Int)).bind fun y =>
 bif decide (y < (0 : Int)) then some true
 else
 (Q_l_toPeer big a0).bind fun y =>
 (Q_s_TimedOut big y a1).bind fun y =>
 (Q_l_toPeer big a0).bind fun y_1 =>
 (Q_i_TimedOut big y_1 a1).bind fun y_2 =>
 (Q_l_eqPeer big y_2.fst y.fst).bind fun y_3 =>
 bif !y_3 then some false
 else
 (Q_l_eqLetter big y_2.snd.fst y.snd.fst).bind fun y_4 =>
 bif !y_4 then some false
 else
 bif !y_2.snd.snd.fst == y.snd.snd.fst then some false
 else
 (Q_l_toPeer big a0).bind fun y_5 =>
 (Q_l_eqPeer big y_1 y_5).bind fun y_6 =>
 bif !y_6 then some false
 else
 (Q_l_markPeer big y_1 (1 : Int)).bind fun y_7 =>
 bif decide (y_7.fst < (0 : Int)) then some false
 else
 (Q_l_eqPeer big y_2.fst y.fst).bind fun y_8 =>
 bif !y_8 then some false
 else
 (Q_l_eqLetter big y_2.snd.fst y.snd.fst).bind fun y_9 =>
 bif !y_9 then some false
 else
 bif !y_2.snd.snd.fst == y.snd.snd.fst then some false
 else
 (Q_l_markPeer big y_2.fst (1 : Int)).bind fun y_10 =>
 (Q_l_heldPeer big
 (y_2.fst.fst, y_2.fst.snd.fst, y_2.fst.snd.snd.fst,
 y_2.fst.snd.snd.snd.fst, y_2.fst.snd.snd.snd.snd.fst,
 y_10.snd.fst.snd.snd.snd.snd.snd.fst,
 y_10.snd.fst.snd.snd.snd.snd.snd.snd.fst,
 y_10.snd.fst.snd.snd.snd.snd.snd.snd.snd.fst,
 y_10.snd.fst.snd.snd.snd.snd.snd.snd.snd.snd.fst,
 y_10.snd.fst.snd.snd.snd.snd.snd.snd.snd.snd.snd.fst,
 y_10.snd.fst.snd.snd.snd.snd.snd.snd.snd.snd.snd.snd.fst,
 y_2.fst.snd.snd.snd.snd.snd.snd.snd.snd.snd.snd.snd)
 (1 : Int)).bind
 fun y_11 =>
 bif decide (y_11 < (0 : Int)) then some false
 else
 bif !decide (y_11 = y_10.fst) then some false
 else
 (Q_l_toPeer big a0).bind fun y_12 =>
 (Q_i_TimedOut big y_12 a1).bind fun y_13 =>
 (Q_l_eqPeer big y_13.fst y.fst).bind fun y_14 =>
 bif !y_14 then some false
 else
 (Q_l_eqLetter big y_13.snd.fst y.snd.fst).bind fun y_15 =>
 bif !y_15 then some false
 else
 bif !y_13.snd.snd.fst == y.snd.snd.fst then some false
 else
 (Q_l_heldPeer big
 (y_2.fst.fst, y_2.fst.snd.fst,
 y_2.fst.snd.snd.fst, y_2.fst.snd.snd.snd.fst,
 y_2.fst.snd.snd.snd.snd.fst,
 y_10.snd.fst.snd.snd.snd.snd.snd.fst,
 y_10.snd.fst.snd.snd.snd.snd.snd.snd.fst,
 y_10.snd.fst.snd.snd.snd.snd.snd.snd.snd.fst,
 y_10.snd.fst.snd.snd.snd.snd.snd.snd.snd.snd.fst,
 y_10.snd.fst.snd.snd.snd.snd.snd.snd.snd.snd.snd.fst,
 y_10.snd.fst.snd.snd.snd.snd.snd.snd.snd.snd.snd.snd.fst,
 y_2.fst.snd.snd.snd.snd.snd.snd.snd.snd.snd.snd.snd)
 (1 : Int)).bind
 fun y =>
 bif decide (y < (0 : Int)) then some false
 else
 bif !decide (y = y_10.fst) then some false
 else some true := by kernel_rfl

end Go.Sx.Try
