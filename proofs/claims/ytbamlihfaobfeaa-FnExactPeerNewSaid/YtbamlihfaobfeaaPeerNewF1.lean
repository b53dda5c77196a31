/- The functions of the seat: what each comes to. -/
import Derived.Test.YtbamlihfaobfeaaTypes
set_option linter.unusedVariables false
set_option maxRecDepth 100000
namespace Go.Sx.Try
open Go Go.Sx Go.Proofs

noncomputable def l_l_eqQc : List (Nat × Con) := []
theorem l_l_eqQc_ok : ∀ q ∈ l_l_eqQc, ConOk Try.prog q.1 q.2 := Try.cons_nil
def kp_l_eqQc : KP := []
noncomputable def q_l_eqQc (n : Nat) (x : Args [tIQc, tIQc]) := evX false l_l_eqQc kp_l_eqQc [none] Try.f75 (shV tBool) n (encA [tIQc, tIQc] x)
noncomputable def c_l_eqQc : Con := roS [tIQc, tIQc] true (shV tBool) (q_l_eqQc big)
theorem c_l_eqQc_ok : ConOk Try.prog 75 c_l_eqQc := roS_ok ⟨Try.f75, by kernel_rfl, rfl, by decide⟩ fun _ _ h => evX_ok l_l_eqQc_ok (f := Try.f75) (by kernel_rfl) rfl (by kernel_rfl) (by kernel_rfl) big h
noncomputable def Q_l_eqQc (n : Nat) (a0 : DIQc) (a1 : DIQc) : Option DBool := q_l_eqQc n (a0, a1, ())
theorem Q_l_eqQc_eq (n : Nat) (a0 : DIQc) (a1 : DIQc) : Q_l_eqQc n a0 a1 =
    bif !decide (a0.fst = a1.fst) then some false
  else
    bif !decide (a0.snd.fst = a1.snd.fst) then some false
    else
      bif !decide (a0.snd.snd.fst = a1.snd.snd.fst) then some false
      else bif !decide (a0.snd.snd.snd.fst = a1.snd.snd.snd.fst) then some false else some true := by kernel_rfl

end Go.Sx.Try

set_option maxRecDepth 100000
namespace Go.Sx.Try
open Go Go.Sx Go.Proofs

noncomputable def l_l_eqVote : List (Nat × Con) := []
theorem l_l_eqVote_ok : ∀ q ∈ l_l_eqVote, ConOk Try.prog q.1 q.2 := Try.cons_nil
def kp_l_eqVote : KP := []
noncomputable def q_l_eqVote (n : Nat) (x : Args [tIVote, tIVote]) := evX false l_l_eqVote kp_l_eqVote [none] Try.f25 (shV tBool) n (encA [tIVote, tIVote] x)
noncomputable def c_l_eqVote : Con := roS [tIVote, tIVote] true (shV tBool) (q_l_eqVote big)
theorem c_l_eqVote_ok : ConOk Try.prog 25 c_l_eqVote := roS_ok ⟨Try.f25, by kernel_rfl, rfl, by decide⟩ fun _ _ h => evX_ok l_l_eqVote_ok (f := Try.f25) (by kernel_rfl) rfl (by kernel_rfl) (by kernel_rfl) big h
noncomputable def Q_l_eqVote (n : Nat) (a0 : DIVote) (a1 : DIVote) : Option DBool := q_l_eqVote n (a0, a1, ())
theorem Q_l_eqVote_eq (n : Nat) (a0 : DIVote) (a1 : DIVote) : Q_l_eqVote n a0 a1 =
    bif !decide (a0.fst = a1.fst) then some false
  else
    bif !decide (a0.snd.fst = a1.snd.fst) then some false
    else
      bif !decide (a0.snd.snd.fst = a1.snd.snd.fst) then some false
      else bif !decide (a0.snd.snd.snd.fst = a1.snd.snd.snd.fst) then some false else some true := by kernel_rfl

end Go.Sx.Try

set_option maxRecDepth 100000
namespace Go.Sx.Try
open Go Go.Sx Go.Proofs

noncomputable def l_l_eqIntS : List (Nat × Con) := []
theorem l_l_eqIntS_ok : ∀ q ∈ l_l_eqIntS, ConOk Try.prog q.1 q.2 := Try.cons_nil
abbrev k_l_eqIntS_4 : List Keep × List BK := ([.ro tSlInt, .ro tSlInt, .drop, .drop, .drop, .ro tInt64, .drop, .drop, .drop, .drop, .drop, .drop, .drop, .drop, .drop, .drop, .drop, .drop, .drop, .drop, .drop, .drop, .drop, .drop, .drop, .drop], [])
def kp_l_eqIntS : KP := [(4, k_l_eqIntS_4)]
noncomputable def q_l_eqIntS (n : Nat) (x : Args [tSlInt, tSlInt]) := evX false l_l_eqIntS kp_l_eqIntS [none] Try.f63 (shV tBool) n (encA [tSlInt, tSlInt] x)
noncomputable def c_l_eqIntS : Con := roS [tSlInt, tSlInt] true (shV tBool) (q_l_eqIntS big)
theorem c_l_eqIntS_ok : ConOk Try.prog 63 c_l_eqIntS := roS_ok ⟨Try.f63, by kernel_rfl, rfl, by decide⟩ fun _ _ h => evX_ok l_l_eqIntS_ok (f := Try.f63) (by kernel_rfl) rfl (by kernel_rfl) (by kernel_rfl) big h
noncomputable def Q_l_eqIntS (n : Nat) (a0 : DSlInt) (a1 : DSlInt) : Option DBool := q_l_eqIntS n (a0, a1, ())
noncomputable def r_l_eqIntS_4 (n : Nat) (x : KD k_l_eqIntS_4.1) (y : BD k_l_eqIntS_4.2) := rounds (env false l_l_eqIntS) kp_l_eqIntS (body Try.f63) (finX false l_l_eqIntS [none] Try.f63 (shV tBool) [.val tSlInt (zeroD tSlInt), .val tSlInt (zeroD tSlInt)]) n 4 k_l_eqIntS_4 x y
noncomputable def R_l_eqIntS_4 (n : Nat) (s0 : DSlInt) (s1 : DSlInt) (s5 : DInt64) : Option DBool := r_l_eqIntS_4 n (s0, s1, s5, ()) ()
theorem Q_l_eqIntS_eq (n : Nat) (a0 : DSlInt) (a1 : DSlInt) : Q_l_eqIntS n a0 a1 =
    bif !decide ((↑(List.length a0) : Int) = (↑(List.length a1) : Int)) then some false
  else R_l_eqIntS_4 n a0 a1 (0 : Int) := by kernel_rfl
theorem R_l_eqIntS_4_eq (n : Nat) (s0 : DSlInt) (s1 : DSlInt) (s5 : DInt64) : R_l_eqIntS_4 (n + 1) s0 s1 s5 =
    bif decide (s5 < (↑(List.length s0) : Int)) then
    if (0 : Int) ≤ s5 then
      (nth s0 (Int.toNat s5)).bind fun y =>
        if (0 : Int) ≤ s5 then
          (nth s1 (Int.toNat s5)).bind fun y_1 =>
            bif !decide (y = y_1) then some false else R_l_eqIntS_4 n s0 s1 (IntKind.i64.wrap (s5 + (1 : Int)))
        else none
    else none
  else some true := by kernel_rfl

end Go.Sx.Try

set_option maxRecDepth 100000
namespace Go.Sx.Try
open Go Go.Sx Go.Proofs

noncomputable def l_l_eqCell : List (Nat × Con) := []
theorem l_l_eqCell_ok : ∀ q ∈ l_l_eqCell, ConOk Try.prog q.1 q.2 := Try.cons_nil
def kp_l_eqCell : KP := []
noncomputable def q_l_eqCell (n : Nat) (x : Args [tICell, tICell]) := evX false l_l_eqCell kp_l_eqCell [none] Try.f138 (shV tBool) n (encA [tICell, tICell] x)
noncomputable def c_l_eqCell : Con := roS [tICell, tICell] true (shV tBool) (q_l_eqCell big)
theorem c_l_eqCell_ok : ConOk Try.prog 138 c_l_eqCell := roS_ok ⟨Try.f138, by kernel_rfl, rfl, by decide⟩ fun _ _ h => evX_ok l_l_eqCell_ok (f := Try.f138) (by kernel_rfl) rfl (by kernel_rfl) (by kernel_rfl) big h
noncomputable def Q_l_eqCell (n : Nat) (a0 : DICell) (a1 : DICell) : Option DBool := q_l_eqCell n (a0, a1, ())
theorem Q_l_eqCell_eq (n : Nat) (a0 : DICell) (a1 : DICell) : Q_l_eqCell n a0 a1 =
    bif !decide (a0.fst = a1.fst) then some false
  else bif !decide (a0.snd.fst = a1.snd.fst) then some false else some true := by kernel_rfl

end Go.Sx.Try

set_option maxRecDepth 100000
namespace Go.Sx.Try
open Go Go.Sx Go.Proofs

noncomputable def l_l_eqCellS : List (Nat × Con) := [(138, c_l_eqCell)]
theorem l_l_eqCellS_ok : ∀ q ∈ l_l_eqCellS, ConOk Try.prog q.1 q.2 := Try.cons_cons c_l_eqCell_ok (Try.cons_nil)
abbrev k_l_eqCellS_4 : List Keep × List BK := ([.ro tSlICell, .ro tSlICell, .drop, .drop, .drop, .ro tInt64, .drop, .drop, .drop, .drop, .drop, .drop, .drop, .drop, .drop, .drop, .drop, .drop, .drop, .drop, .drop, .drop, .drop, .drop, .drop, .drop, .drop], [])
def kp_l_eqCellS : KP := [(4, k_l_eqCellS_4)]
noncomputable def q_l_eqCellS (n : Nat) (x : Args [tSlICell, tSlICell]) := evX false l_l_eqCellS kp_l_eqCellS [none] Try.f61 (shV tBool) n (encA [tSlICell, tSlICell] x)
noncomputable def c_l_eqCellS : Con := roS [tSlICell, tSlICell] true (shV tBool) (q_l_eqCellS big)
theorem c_l_eqCellS_ok : ConOk Try.prog 61 c_l_eqCellS := roS_ok ⟨Try.f61, by kernel_rfl, rfl, by decide⟩ fun _ _ h => evX_ok l_l_eqCellS_ok (f := Try.f61) (by kernel_rfl) rfl (by kernel_rfl) (by kernel_rfl) big h
noncomputable def Q_l_eqCellS (n : Nat) (a0 : DSlICell) (a1 : DSlICell) : Option DBool := q_l_eqCellS n (a0, a1, ())
noncomputable def r_l_eqCellS_4 (n : Nat) (x : KD k_l_eqCellS_4.1) (y : BD k_l_eqCellS_4.2) := rounds (env false l_l_eqCellS) kp_l_eqCellS (body Try.f61) (finX false l_l_eqCellS [none] Try.f61 (shV tBool) [.val tSlICell (zeroD tSlICell), .val tSlICell (zeroD tSlICell)]) n 4 k_l_eqCellS_4 x y
noncomputable def R_l_eqCellS_4 (n : Nat) (s0 : DSlICell) (s1 : DSlICell) (s5 : DInt64) : Option DBool := r_l_eqCellS_4 n (s0, s1, s5, ()) ()
theorem Q_l_eqCellS_eq (n : Nat) (a0 : DSlICell) (a1 : DSlICell) : Q_l_eqCellS n a0 a1 =
    bif !decide ((↑(List.length a0) : Int) = (↑(List.length a1) : Int)) then some false
  else R_l_eqCellS_4 n a0 a1 (0 : Int) := by kernel_rfl
theorem R_l_eqCellS_4_eq (n : Nat) (s0 : DSlICell) (s1 : DSlICell) (s5 : DInt64) : R_l_eqCellS_4 (n + 1) s0 s1 s5 =
    bif decide (s5 < (↑(List.length s0) : Int)) then
    if (0 : Int) ≤ s5 then
      (nth s0 (Int.toNat s5)).bind fun y =>
        if (0 : Int) ≤ s5 then
          (nth s1 (Int.toNat s5)).bind fun y_1 =>
            (Q_l_eqCell big y y_1).bind fun y =>
              bif !y then some false else R_l_eqCellS_4 n s0 s1 (IntKind.i64.wrap (s5 + (1 : Int)))
        else none
    else none
  else some true := by kernel_rfl

end Go.Sx.Try

set_option maxRecDepth 100000
namespace Go.Sx.Try
open Go Go.Sx Go.Proofs

noncomputable def l_l_eqUndo : List (Nat × Con) := []
theorem l_l_eqUndo_ok : ∀ q ∈ l_l_eqUndo, ConOk Try.prog q.1 q.2 := Try.cons_nil
def kp_l_eqUndo : KP := []
noncomputable def q_l_eqUndo (n : Nat) (x : Args [tIUndo, tIUndo]) := evX false l_l_eqUndo kp_l_eqUndo [none] Try.f147 (shV tBool) n (encA [tIUndo, tIUndo] x)
noncomputable def c_l_eqUndo : Con := roS [tIUndo, tIUndo] true (shV tBool) (q_l_eqUndo big)
theorem c_l_eqUndo_ok : ConOk Try.prog 147 c_l_eqUndo := roS_ok ⟨Try.f147, by kernel_rfl, rfl, by decide⟩ fun _ _ h => evX_ok l_l_eqUndo_ok (f := Try.f147) (by kernel_rfl) rfl (by kernel_rfl) (by kernel_rfl) big h
noncomputable def Q_l_eqUndo (n : Nat) (a0 : DIUndo) (a1 : DIUndo) : Option DBool := q_l_eqUndo n (a0, a1, ())
theorem Q_l_eqUndo_eq (n : Nat) (a0 : DIUndo) (a1 : DIUndo) : Q_l_eqUndo n a0 a1 =
    bif !decide (a0.fst = a1.fst) then some false
  else
    bif !a0.snd.fst == a1.snd.fst then some false
    else bif !decide (a0.snd.snd.fst = a1.snd.snd.fst) then some false else some true := by kernel_rfl

end Go.Sx.Try

set_option maxRecDepth 100000
namespace Go.Sx.Try
open Go Go.Sx Go.Proofs

noncomputable def l_l_eqUndoS : List (Nat × Con) := [(147, c_l_eqUndo)]
theorem l_l_eqUndoS_ok : ∀ q ∈ l_l_eqUndoS, ConOk Try.prog q.1 q.2 := Try.cons_cons c_l_eqUndo_ok (Try.cons_nil)
abbrev k_l_eqUndoS_4 : List Keep × List BK := ([.ro tSlIUndo, .ro tSlIUndo, .drop, .drop, .drop, .ro tInt64, .drop, .drop, .drop, .drop, .drop, .drop, .drop, .drop, .drop, .drop, .drop, .drop, .drop, .drop, .drop, .drop, .drop, .drop, .drop, .drop, .drop], [])
def kp_l_eqUndoS : KP := [(4, k_l_eqUndoS_4)]
noncomputable def q_l_eqUndoS (n : Nat) (x : Args [tSlIUndo, tSlIUndo]) := evX false l_l_eqUndoS kp_l_eqUndoS [none] Try.f76 (shV tBool) n (encA [tSlIUndo, tSlIUndo] x)
noncomputable def c_l_eqUndoS : Con := roS [tSlIUndo, tSlIUndo] true (shV tBool) (q_l_eqUndoS big)
theorem c_l_eqUndoS_ok : ConOk Try.prog 76 c_l_eqUndoS := roS_ok ⟨Try.f76, by kernel_rfl, rfl, by decide⟩ fun _ _ h => evX_ok l_l_eqUndoS_ok (f := Try.f76) (by kernel_rfl) rfl (by kernel_rfl) (by kernel_rfl) big h
noncomputable def Q_l_eqUndoS (n : Nat) (a0 : DSlIUndo) (a1 : DSlIUndo) : Option DBool := q_l_eqUndoS n (a0, a1, ())
noncomputable def r_l_eqUndoS_4 (n : Nat) (x : KD k_l_eqUndoS_4.1) (y : BD k_l_eqUndoS_4.2) := rounds (env false l_l_eqUndoS) kp_l_eqUndoS (body Try.f76) (finX false l_l_eqUndoS [none] Try.f76 (shV tBool) [.val tSlIUndo (zeroD tSlIUndo), .val tSlIUndo (zeroD tSlIUndo)]) n 4 k_l_eqUndoS_4 x y
noncomputable def R_l_eqUndoS_4 (n : Nat) (s0 : DSlIUndo) (s1 : DSlIUndo) (s5 : DInt64) : Option DBool := r_l_eqUndoS_4 n (s0, s1, s5, ()) ()
theorem Q_l_eqUndoS_eq (n : Nat) (a0 : DSlIUndo) (a1 : DSlIUndo) : Q_l_eqUndoS n a0 a1 =
    bif !decide ((↑(List.length a0) : Int) = (↑(List.length a1) : Int)) then some false
  else R_l_eqUndoS_4 n a0 a1 (0 : Int) := by kernel_rfl
theorem R_l_eqUndoS_4_eq (n : Nat) (s0 : DSlIUndo) (s1 : DSlIUndo) (s5 : DInt64) : R_l_eqUndoS_4 (n + 1) s0 s1 s5 =
    bif decide (s5 < (↑(List.length s0) : Int)) then
    if (0 : Int) ≤ s5 then
      (nth s0 (Int.toNat s5)).bind fun y =>
        if (0 : Int) ≤ s5 then
          (nth s1 (Int.toNat s5)).bind fun y_1 =>
            (Q_l_eqUndo big y y_1).bind fun y =>
              bif !y then some false else R_l_eqUndoS_4 n s0 s1 (IntKind.i64.wrap (s5 + (1 : Int)))
        else none
    else none
  else some true := by kernel_rfl

end Go.Sx.Try

set_option maxRecDepth 100000
namespace Go.Sx.Try
open Go Go.Sx Go.Proofs

noncomputable def l_l_eqVoteS : List (Nat × Con) := [(25, c_l_eqVote)]
theorem l_l_eqVoteS_ok : ∀ q ∈ l_l_eqVoteS, ConOk Try.prog q.1 q.2 := Try.cons_cons c_l_eqVote_ok (Try.cons_nil)
abbrev k_l_eqVoteS_4 : List Keep × List BK := ([.ro tSlIVote, .ro tSlIVote, .drop, .drop, .drop, .ro tInt64, .drop, .drop, .drop, .drop, .drop, .drop, .drop, .drop, .drop, .drop, .drop, .drop, .drop, .drop, .drop, .drop, .drop, .drop, .drop, .drop, .drop], [])
def kp_l_eqVoteS : KP := [(4, k_l_eqVoteS_4)]
noncomputable def q_l_eqVoteS (n : Nat) (x : Args [tSlIVote, tSlIVote]) := evX false l_l_eqVoteS kp_l_eqVoteS [none] Try.f77 (shV tBool) n (encA [tSlIVote, tSlIVote] x)
noncomputable def c_l_eqVoteS : Con := roS [tSlIVote, tSlIVote] true (shV tBool) (q_l_eqVoteS big)
theorem c_l_eqVoteS_ok : ConOk Try.prog 77 c_l_eqVoteS := roS_ok ⟨Try.f77, by kernel_rfl, rfl, by decide⟩ fun _ _ h => evX_ok l_l_eqVoteS_ok (f := Try.f77) (by kernel_rfl) rfl (by kernel_rfl) (by kernel_rfl) big h
noncomputable def Q_l_eqVoteS (n : Nat) (a0 : DSlIVote) (a1 : DSlIVote) : Option DBool := q_l_eqVoteS n (a0, a1, ())
noncomputable def r_l_eqVoteS_4 (n : Nat) (x : KD k_l_eqVoteS_4.1) (y : BD k_l_eqVoteS_4.2) := rounds (env false l_l_eqVoteS) kp_l_eqVoteS (body Try.f77) (finX false l_l_eqVoteS [none] Try.f77 (shV tBool) [.val tSlIVote (zeroD tSlIVote), .val tSlIVote (zeroD tSlIVote)]) n 4 k_l_eqVoteS_4 x y
noncomputable def R_l_eqVoteS_4 (n : Nat) (s0 : DSlIVote) (s1 : DSlIVote) (s5 : DInt64) : Option DBool := r_l_eqVoteS_4 n (s0, s1, s5, ()) ()
theorem Q_l_eqVoteS_eq (n : Nat) (a0 : DSlIVote) (a1 : DSlIVote) : Q_l_eqVoteS n a0 a1 =
    bif !decide ((↑(List.length a0) : Int) = (↑(List.length a1) : Int)) then some false
  else R_l_eqVoteS_4 n a0 a1 (0 : Int) := by kernel_rfl
theorem R_l_eqVoteS_4_eq (n : Nat) (s0 : DSlIVote) (s1 : DSlIVote) (s5 : DInt64) : R_l_eqVoteS_4 (n + 1) s0 s1 s5 =
    bif decide (s5 < (↑(List.length s0) : Int)) then
    if (0 : Int) ≤ s5 then
      (nth s0 (Int.toNat s5)).bind fun y =>
        if (0 : Int) ≤ s5 then
          (nth s1 (Int.toNat s5)).bind fun y_1 =>
            (Q_l_eqVote big y y_1).bind fun y =>
              bif !y then some false else R_l_eqVoteS_4 n s0 s1 (IntKind.i64.wrap (s5 + (1 : Int)))
        else none
    else none
  else some true := by kernel_rfl

end Go.Sx.Try

set_option maxRecDepth 100000
namespace Go.Sx.Try
open Go Go.Sx Go.Proofs

noncomputable def l_l_eqLetter : List (Nat × Con) := [(75, c_l_eqQc), (25, c_l_eqVote)]
theorem l_l_eqLetter_ok : ∀ q ∈ l_l_eqLetter, ConOk Try.prog q.1 q.2 := Try.cons_cons c_l_eqQc_ok (Try.cons_cons c_l_eqVote_ok (Try.cons_nil))
def kp_l_eqLetter : KP := []
noncomputable def q_l_eqLetter (n : Nat) (x : Args [tILetter, tILetter]) := evX false l_l_eqLetter kp_l_eqLetter [none] Try.f30 (shV tBool) n (encA [tILetter, tILetter] x)
noncomputable def c_l_eqLetter : Con := roS [tILetter, tILetter] true (shV tBool) (q_l_eqLetter big)
theorem c_l_eqLetter_ok : ConOk Try.prog 30 c_l_eqLetter := roS_ok ⟨Try.f30, by kernel_rfl, rfl, by decide⟩ fun _ _ h => evX_ok l_l_eqLetter_ok (f := Try.f30) (by kernel_rfl) rfl (by kernel_rfl) (by kernel_rfl) big h
noncomputable def Q_l_eqLetter (n : Nat) (a0 : DILetter) (a1 : DILetter) : Option DBool := q_l_eqLetter n (a0, a1, ())
theorem Q_l_eqLetter_eq (n : Nat) (a0 : DILetter) (a1 : DILetter) : Q_l_eqLetter n a0 a1 =
    bif !decide (a0.fst = a1.fst) then some false
  else
    bif !decide (a0.snd.fst = a1.snd.fst) then some false
    else
      bif !decide (a0.snd.snd.fst = a1.snd.snd.fst) then some false
      else
        bif !decide (a0.snd.snd.snd.fst = a1.snd.snd.snd.fst) then some false
        else
          bif !decide (a0.snd.snd.snd.snd.fst = a1.snd.snd.snd.snd.fst) then some false
          else
            (Q_l_eqQc big a0.snd.snd.snd.snd.snd.fst a1.snd.snd.snd.snd.snd.fst).bind fun y =>
              bif !y then some false
              else
                (Q_l_eqVote big a0.snd.snd.snd.snd.snd.snd.fst a1.snd.snd.snd.snd.snd.snd.fst).bind fun y =>
                  bif !y then some false else some true := by kernel_rfl

end Go.Sx.Try

set_option maxRecDepth 100000
namespace Go.Sx.Try
open Go Go.Sx Go.Proofs

noncomputable def l_l_eqLetterS : List (Nat × Con) := [(30, c_l_eqLetter)]
theorem l_l_eqLetterS_ok : ∀ q ∈ l_l_eqLetterS, ConOk Try.prog q.1 q.2 := Try.cons_cons c_l_eqLetter_ok (Try.cons_nil)
abbrev k_l_eqLetterS_4 : List Keep × List BK := ([.ro tSlILetter, .ro tSlILetter, .drop, .drop, .drop, .ro tInt64, .drop, .drop, .drop, .drop, .drop, .drop, .drop, .drop, .drop, .drop, .drop, .drop, .drop, .drop, .drop, .drop, .drop, .drop, .drop, .drop, .drop], [])
def kp_l_eqLetterS : KP := [(4, k_l_eqLetterS_4)]
noncomputable def q_l_eqLetterS (n : Nat) (x : Args [tSlILetter, tSlILetter]) := evX false l_l_eqLetterS kp_l_eqLetterS [none] Try.f46 (shV tBool) n (encA [tSlILetter, tSlILetter] x)
noncomputable def c_l_eqLetterS : Con := roS [tSlILetter, tSlILetter] true (shV tBool) (q_l_eqLetterS big)
theorem c_l_eqLetterS_ok : ConOk Try.prog 46 c_l_eqLetterS := roS_ok ⟨Try.f46, by kernel_rfl, rfl, by decide⟩ fun _ _ h => evX_ok l_l_eqLetterS_ok (f := Try.f46) (by kernel_rfl) rfl (by kernel_rfl) (by kernel_rfl) big h
noncomputable def Q_l_eqLetterS (n : Nat) (a0 : DSlILetter) (a1 : DSlILetter) : Option DBool := q_l_eqLetterS n (a0, a1, ())
noncomputable def r_l_eqLetterS_4 (n : Nat) (x : KD k_l_eqLetterS_4.1) (y : BD k_l_eqLetterS_4.2) := rounds (env false l_l_eqLetterS) kp_l_eqLetterS (body Try.f46) (finX false l_l_eqLetterS [none] Try.f46 (shV tBool) [.val tSlILetter (zeroD tSlILetter), .val tSlILetter (zeroD tSlILetter)]) n 4 k_l_eqLetterS_4 x y
noncomputable def R_l_eqLetterS_4 (n : Nat) (s0 : DSlILetter) (s1 : DSlILetter) (s5 : DInt64) : Option DBool := r_l_eqLetterS_4 n (s0, s1, s5, ()) ()
theorem Q_l_eqLetterS_eq (n : Nat) (a0 : DSlILetter) (a1 : DSlILetter) : Q_l_eqLetterS n a0 a1 =
    bif !decide ((↑(List.length a0) : Int) = (↑(List.length a1) : Int)) then some false
  else R_l_eqLetterS_4 n a0 a1 (0 : Int) := by kernel_rfl
theorem R_l_eqLetterS_4_eq (n : Nat) (s0 : DSlILetter) (s1 : DSlILetter) (s5 : DInt64) : R_l_eqLetterS_4 (n + 1) s0 s1 s5 =
    bif decide (s5 < (↑(List.length s0) : Int)) then
    if (0 : Int) ≤ s5 then
      (nth s0 (Int.toNat s5)).bind fun y =>
        if (0 : Int) ≤ s5 then
          (nth s1 (Int.toNat s5)).bind fun y_1 =>
            (Q_l_eqLetter big y y_1).bind fun y =>
              bif !y then some false else R_l_eqLetterS_4 n s0 s1 (IntKind.i64.wrap (s5 + (1 : Int)))
        else none
    else none
  else some true := by kernel_rfl

end Go.Sx.Try

set_option maxRecDepth 100000
namespace Go.Sx.Try
open Go Go.Sx Go.Proofs

noncomputable def l_l_eqPeer : List (Nat × Con) := [(75, c_l_eqQc), (25, c_l_eqVote), (63, c_l_eqIntS), (61, c_l_eqCellS), (76, c_l_eqUndoS), (77, c_l_eqVoteS), (46, c_l_eqLetterS)]
theorem l_l_eqPeer_ok : ∀ q ∈ l_l_eqPeer, ConOk Try.prog q.1 q.2 := Try.cons_cons c_l_eqQc_ok (Try.cons_cons c_l_eqVote_ok (Try.cons_cons c_l_eqIntS_ok (Try.cons_cons c_l_eqCellS_ok (Try.cons_cons c_l_eqUndoS_ok (Try.cons_cons c_l_eqVoteS_ok (Try.cons_cons c_l_eqLetterS_ok (Try.cons_nil)))))))
def kp_l_eqPeer : KP := []
noncomputable def q_l_eqPeer (n : Nat) (x : Args [tIPeer, tIPeer]) := evX false l_l_eqPeer kp_l_eqPeer [none] Try.f18 (shV tBool) n (encA [tIPeer, tIPeer] x)
noncomputable def c_l_eqPeer : Con := roS [tIPeer, tIPeer] true (shV tBool) (q_l_eqPeer big)
theorem c_l_eqPeer_ok : ConOk Try.prog 18 c_l_eqPeer := roS_ok ⟨Try.f18, by kernel_rfl, rfl, by decide⟩ fun _ _ h => evX_ok l_l_eqPeer_ok (f := Try.f18) (by kernel_rfl) rfl (by kernel_rfl) (by kernel_rfl) big h
noncomputable def Q_l_eqPeer (n : Nat) (a0 : DIPeer) (a1 : DIPeer) : Option DBool := q_l_eqPeer n (a0, a1, ())
theorem Q_l_eqPeer_eq (n : Nat) (a0 : DIPeer) (a1 : DIPeer) : Q_l_eqPeer n a0 a1 =
    bif !decide (a0.fst = a1.fst) then some false
  else
    bif !decide (a0.snd.fst = a1.snd.fst) then some false
    else
      (Q_l_eqQc big a0.snd.snd.fst a1.snd.snd.fst).bind fun y =>
        bif !y then some false
        else
          (Q_l_eqQc big a0.snd.snd.snd.fst a1.snd.snd.snd.fst).bind fun y =>
            bif !y then some false
            else
              (Q_l_eqVote big a0.snd.snd.snd.snd.fst a1.snd.snd.snd.snd.fst).bind fun y =>
                bif !y then some false
                else
                  (Q_l_eqIntS big a0.snd.snd.snd.snd.snd.fst a1.snd.snd.snd.snd.snd.fst).bind fun y =>
                    bif !y then some false
                    else
                      (Q_l_eqCellS big a0.snd.snd.snd.snd.snd.snd.fst a1.snd.snd.snd.snd.snd.snd.fst).bind fun y =>
                        bif !y then some false
                        else
                          (Q_l_eqIntS big a0.snd.snd.snd.snd.snd.snd.snd.fst a1.snd.snd.snd.snd.snd.snd.snd.fst).bind
                            fun y =>
                            bif !y then some false
                            else
                              (Q_l_eqUndoS big a0.snd.snd.snd.snd.snd.snd.snd.snd.fst
                                    a1.snd.snd.snd.snd.snd.snd.snd.snd.fst).bind
                                fun y =>
                                bif !y then some false
                                else
                                  (Q_l_eqVoteS big a0.snd.snd.snd.snd.snd.snd.snd.snd.snd.fst
                                        a1.snd.snd.snd.snd.snd.snd.snd.snd.snd.fst).bind
                                    fun y =>
                                    bif !y then some false
                                    else
                                      (Q_l_eqLetterS big a0.snd.snd.snd.snd.snd.snd.snd.snd.snd.snd.fst
                                            a1.snd.snd.snd.snd.snd.snd.snd.snd.snd.snd.fst).bind
                                        fun y =>
                                        bif !y then some false
                                        else
                                          bif
                                              !decide
                                                  (a0.snd.snd.snd.snd.snd.snd.snd.snd.snd.snd.snd.fst =
                                                    a1.snd.snd.snd.snd.snd.snd.snd.snd.snd.snd.snd.fst) then
                                            some false
                                          else some true := by kernel_rfl

end Go.Sx.Try

set_option maxRecDepth 100000
namespace Go.Sx.Try
open Go Go.Sx Go.Proofs

noncomputable def l_s_PeerNew : List (Nat × Con) := []
theorem l_s_PeerNew_ok : ∀ q ∈ l_s_PeerNew, ConOk Try.prog q.1 q.2 := Try.cons_nil
def kp_s_PeerNew : KP := []
noncomputable def q_s_PeerNew (n : Nat) (x : Args [tInt]) := evX false l_s_PeerNew kp_s_PeerNew [some uIPeer] Try.f16 (shF uIPeer) n (encA [tInt] x)
noncomputable def c_s_PeerNew : Con := roS [tInt] true (shF uIPeer) (q_s_PeerNew big)
theorem c_s_PeerNew_ok : ConOk Try.prog 16 c_s_PeerNew := roS_ok ⟨Try.f16, by kernel_rfl, rfl, by decide⟩ fun _ _ h => evX_ok l_s_PeerNew_ok (f := Try.f16) (by kernel_rfl) rfl (by kernel_rfl) (by kernel_rfl) big h
noncomputable def Q_s_PeerNew (n : Nat) (a0 : DInt) : Option DIPeer := q_s_PeerNew n (a0, ())
theorem Q_s_PeerNew_eq (n : Nat) (a0 : DInt) : Q_s_PeerNew n a0 =
    some
    (a0, (1 : Int), ((0 : Int), (0 : Int), (0 : Int), (0 : Int), PUnit.unit),
      ((0 : Int), (0 : Int), (0 : Int), (0 : Int), PUnit.unit),
      ((0 : Int), (0 : Int), (0 : Int), (0 : Int), PUnit.unit), [], [], [], [], [], [], (0 : Int), PUnit.unit) := by kernel_rfl

end Go.Sx.Try

set_option maxRecDepth 100000
namespace Go.Sx.Try
open Go Go.Sx Go.Proofs

noncomputable def l_i_PeerNew : List (Nat × Con) := []
theorem l_i_PeerNew_ok : ∀ q ∈ l_i_PeerNew, ConOk Try.prog q.1 q.2 := Try.cons_nil
def kp_i_PeerNew : KP := []
noncomputable def q_i_PeerNew (n : Nat) (x : Args [tInt]) := evX false l_i_PeerNew kp_i_PeerNew [some uIPeer] Try.f17 (shF uIPeer) n (encA [tInt] x)
noncomputable def c_i_PeerNew : Con := roS [tInt] true (shF uIPeer) (q_i_PeerNew big)
theorem c_i_PeerNew_ok : ConOk Try.prog 17 c_i_PeerNew := roS_ok ⟨Try.f17, by kernel_rfl, rfl, by decide⟩ fun _ _ h => evX_ok l_i_PeerNew_ok (f := Try.f17) (by kernel_rfl) rfl (by kernel_rfl) (by kernel_rfl) big h
noncomputable def Q_i_PeerNew (n : Nat) (a0 : DInt) : Option DIPeer := q_i_PeerNew n (a0, ())
theorem Q_i_PeerNew_eq (n : Nat) (a0 : DInt) : Q_i_PeerNew n a0 =
    some
    (a0, (1 : Int), ((0 : Int), (0 : Int), (0 : Int), (0 : Int), PUnit.unit),
      ((0 : Int), (0 : Int), (0 : Int), (0 : Int), PUnit.unit),
      ((0 : Int), (0 : Int), (0 : Int), (0 : Int), PUnit.unit), [], [], [], [], [], [], (0 : Int), PUnit.unit) := by kernel_rfl

end Go.Sx.Try

set_option maxRecDepth 100000
namespace Go.Sx.Try
open Go Go.Sx Go.Proofs

noncomputable def l_l_markIntS : List (Nat × Con) := []
theorem l_l_markIntS_ok : ∀ q ∈ l_l_markIntS, ConOk Try.prog q.1 q.2 := Try.cons_nil
abbrev k_l_markIntS_2 : List Keep × List BK := ([.is (.own 0 0), .ro tInt64, .drop, .drop, .drop, .ro tInt64, .drop, .drop, .drop, .drop, .drop, .drop, .drop, .drop, .drop, .drop, .drop, .drop, .drop], [.arr tInt])
def kp_l_markIntS : KP := [(2, k_l_markIntS_2)]
noncomputable def q_l_markIntS (n : Nat) (x : AP.denL [.io tInt, .ro tInt]) := evX false l_l_markIntS kp_l_markIntS [none] Try.f65 (shO (shV tInt) [.io tInt]) n (AP.encL [.io tInt, .ro tInt] x)
noncomputable def c_l_markIntS : Con := apS [.io tInt, .ro tInt] true (shO (shV tInt) [.io tInt]) (q_l_markIntS big)
theorem c_l_markIntS_ok : ConOk Try.prog 65 c_l_markIntS := apS_ok ⟨Try.f65, by kernel_rfl, rfl, by decide⟩ fun _ _ h => evX_ok l_l_markIntS_ok (f := Try.f65) (by kernel_rfl) rfl (by kernel_rfl) (by kernel_rfl) big h
noncomputable def Q_l_markIntS (n : Nat) (a0 : DSlInt) (a1 : DInt) : Option (DInt × DSlInt × Unit) := q_l_markIntS n (a0, a1, ())
noncomputable def r_l_markIntS_2 (n : Nat) (x : KD k_l_markIntS_2.1) (y : BD k_l_markIntS_2.2) := rounds (env false l_l_markIntS) kp_l_markIntS (body Try.f65) (finX false l_l_markIntS [none] Try.f65 (shO (shV tInt) [.io tInt]) [AP.enc (.io tInt) [], AP.enc (.ro tInt) (zeroD tInt)]) n 2 k_l_markIntS_2 x y
noncomputable def R_l_markIntS_2 (n : Nat) (s1 : DInt64) (s5 : DInt64) (b0 : (List DInt)) : Option (DInt × DSlInt × Unit) := r_l_markIntS_2 n (s1, s5, ()) (b0, ())
theorem Q_l_markIntS_eq (n : Nat) (a0 : DSlInt) (a1 : DInt) : Q_l_markIntS n a0 a1 =
    R_l_markIntS_2 n a1 (0 : Int) a0 := by kernel_rfl
theorem R_l_markIntS_2_eq (n : Nat) (s1 : DInt64) (s5 : DInt64) (b0 : (List DInt)) : R_l_markIntS_2 (n + 1) s1 s5 b0 =
    bif decide (s5 < (↑b0.length : Int)) then
    if (0 : Int) ≤ s5 then
      if s5 < (↑b0.length : Int) then
        (nth b0 (Int.toNat s5)).bind fun y =>
          R_l_markIntS_2 n (IntKind.i64.wrap (s1 + (1 : Int))) (IntKind.i64.wrap (s5 + (1 : Int)))
            (upd b0 (Int.toNat s5) s1)
      else none
    else none
  else some (s1, b0, PUnit.unit) := by kernel_rfl

end Go.Sx.Try

set_option maxRecDepth 100000
namespace Go.Sx.Try
open Go Go.Sx Go.Proofs

noncomputable def l_l_markText : List (Nat × Con) := []
theorem l_l_markText_ok : ∀ q ∈ l_l_markText, ConOk Try.prog q.1 q.2 := Try.cons_nil
abbrev k_l_markText_4 : List Keep × List BK := ([.ro tInt64, .drop, .drop, .ro tString, .drop, .drop, .drop, .drop, .drop, .drop, .drop, .drop, .drop, .drop, .drop, .drop, .drop, .drop, .drop, .drop], [])
def kp_l_markText : KP := [(4, k_l_markText_4)]
noncomputable def q_l_markText (n : Nat) (x : Args [tInt]) := evX false l_l_markText kp_l_markText [none] Try.f140 (shV tString) n (encA [tInt] x)
noncomputable def c_l_markText : Con := roS [tInt] true (shV tString) (q_l_markText big)
theorem c_l_markText_ok : ConOk Try.prog 140 c_l_markText := roS_ok ⟨Try.f140, by kernel_rfl, rfl, by decide⟩ fun _ _ h => evX_ok l_l_markText_ok (f := Try.f140) (by kernel_rfl) rfl (by kernel_rfl) (by kernel_rfl) big h
noncomputable def Q_l_markText (n : Nat) (a0 : DInt) : Option DString := q_l_markText n (a0, ())
noncomputable def r_l_markText_4 (n : Nat) (x : KD k_l_markText_4.1) (y : BD k_l_markText_4.2) := rounds (env false l_l_markText) kp_l_markText (body Try.f140) (finX false l_l_markText [none] Try.f140 (shV tString) [.val tInt (zeroD tInt)]) n 4 k_l_markText_4 x y
noncomputable def R_l_markText_4 (n : Nat) (s0 : DInt64) (s3 : DString) : Option DString := r_l_markText_4 n (s0, s3, ()) ()
theorem Q_l_markText_eq (n : Nat) (a0 : DInt) : Q_l_markText n a0 =
    bif decide (a0 ≤ (0 : Int)) then some (ByteArray.mk #[(109 : UInt8), (48 : UInt8)])
  else R_l_markText_4 n a0 (ByteArray.mk #[]) := by kernel_rfl
theorem R_l_markText_4_eq (n : Nat) (s0 : DInt64) (s3 : DString) : R_l_markText_4 (n + 1) s0 s3 =
    bif decide ((0 : Int) < s0) then
    if
        (ByteArray.mk
                (List.map (fun n => UInt8.ofNat n.toNat)
                    [IntKind.u8.wrap (IntKind.i64.wrap ((48 : Int) + Int.tmod s0 (10 : Int)))]).toArray).size +
            ByteArray.size s3 ≤
          lim then
      R_l_markText_4 n (IntKind.i64.wrap (Int.tdiv s0 (10 : Int)))
        (ByteArray.mk
            (List.map (fun n => UInt8.ofNat n.toNat)
                [IntKind.u8.wrap (IntKind.i64.wrap ((48 : Int) + Int.tmod s0 (10 : Int)))]).toArray ++
          s3)
    else none
  else
    if (ByteArray.mk #[(109 : UInt8)]).size + ByteArray.size s3 ≤ lim then some (ByteArray.mk #[(109 : UInt8)] ++ s3)
    else none := by kernel_rfl

end Go.Sx.Try

set_option maxRecDepth 100000
namespace Go.Sx.Try
open Go Go.Sx Go.Proofs

noncomputable def l_l_markCellS : List (Nat × Con) := [(140, c_l_markText)]
theorem l_l_markCellS_ok : ∀ q ∈ l_l_markCellS, ConOk Try.prog q.1 q.2 := Try.cons_cons c_l_markText_ok (Try.cons_nil)
abbrev k_l_markCellS_2 : List Keep × List BK := ([.is (.own 0 0), .ro tInt64, .drop, .drop, .drop, .ro tInt64, .drop, .drop, .drop, .drop, .drop, .drop, .drop, .drop, .drop, .drop, .drop, .drop, .drop, .drop, .drop, .drop, .drop, .drop, .drop, .drop, .drop, .drop], [.arr tICell])
def kp_l_markCellS : KP := [(2, k_l_markCellS_2)]
noncomputable def q_l_markCellS (n : Nat) (x : AP.denL [.io tICell, .ro tInt]) := evX false l_l_markCellS kp_l_markCellS [none] Try.f66 (shO (shV tInt) [.io tICell]) n (AP.encL [.io tICell, .ro tInt] x)
noncomputable def c_l_markCellS : Con := apS [.io tICell, .ro tInt] true (shO (shV tInt) [.io tICell]) (q_l_markCellS big)
theorem c_l_markCellS_ok : ConOk Try.prog 66 c_l_markCellS := apS_ok ⟨Try.f66, by kernel_rfl, rfl, by decide⟩ fun _ _ h => evX_ok l_l_markCellS_ok (f := Try.f66) (by kernel_rfl) rfl (by kernel_rfl) (by kernel_rfl) big h
noncomputable def Q_l_markCellS (n : Nat) (a0 : DSlICell) (a1 : DInt) : Option (DInt × DSlICell × Unit) := q_l_markCellS n (a0, a1, ())
noncomputable def r_l_markCellS_2 (n : Nat) (x : KD k_l_markCellS_2.1) (y : BD k_l_markCellS_2.2) := rounds (env false l_l_markCellS) kp_l_markCellS (body Try.f66) (finX false l_l_markCellS [none] Try.f66 (shO (shV tInt) [.io tICell]) [AP.enc (.io tICell) [], AP.enc (.ro tInt) (zeroD tInt)]) n 2 k_l_markCellS_2 x y
noncomputable def R_l_markCellS_2 (n : Nat) (s1 : DInt64) (s5 : DInt64) (b0 : (List DICell)) : Option (DInt × DSlICell × Unit) := r_l_markCellS_2 n (s1, s5, ()) (b0, ())
theorem Q_l_markCellS_eq (n : Nat) (a0 : DSlICell) (a1 : DInt) : Q_l_markCellS n a0 a1 =
    R_l_markCellS_2 n a1 (0 : Int) a0 := by kernel_rfl
theorem R_l_markCellS_2_eq (n : Nat) (s1 : DInt64) (s5 : DInt64) (b0 : (List DICell)) : R_l_markCellS_2 (n + 1) s1 s5 b0 =
    bif decide (s5 < (↑b0.length : Int)) then
    (Q_l_markText big s1).bind fun y =>
      if (0 : Int) ≤ s5 then
        if s5 < (↑b0.length : Int) then
          (nth b0 (Int.toNat s5)).bind fun y_1 =>
            if (0 : Int) ≤ s5 then
              if s5 < (↑(upd b0 (Int.toNat s5) (y, y_1.snd)).length : Int) then
                (nth (upd b0 (Int.toNat s5) (y, y_1.snd)) (Int.toNat s5)).bind fun y_2 =>
                  R_l_markCellS_2 n (IntKind.i64.wrap (IntKind.i64.wrap (s1 + (1 : Int)) + (1 : Int)))
                    (IntKind.i64.wrap (s5 + (1 : Int)))
                    (upd (upd b0 (Int.toNat s5) (y, y_1.snd)) (Int.toNat s5)
                      (y_2.fst, IntKind.i64.wrap (s1 + (1 : Int)), ()))
              else none
            else none
        else none
      else none
  else some (s1, b0, PUnit.unit) := by kernel_rfl

end Go.Sx.Try

set_option maxRecDepth 100000
namespace Go.Sx.Try
open Go Go.Sx Go.Proofs

noncomputable def l_l_markUndoS : List (Nat × Con) := [(140, c_l_markText)]
theorem l_l_markUndoS_ok : ∀ q ∈ l_l_markUndoS, ConOk Try.prog q.1 q.2 := Try.cons_cons c_l_markText_ok (Try.cons_nil)
abbrev k_l_markUndoS_2 : List Keep × List BK := ([.is (.own 0 0), .ro tInt64, .drop, .drop, .drop, .ro tInt64, .drop, .drop, .drop, .drop, .drop, .drop, .drop, .drop, .drop, .drop, .drop, .drop, .drop, .drop, .drop, .drop, .drop, .drop, .drop, .drop, .drop, .drop, .drop, .drop, .drop, .drop, .drop, .drop, .drop, .drop, .drop], [.arr tIUndo])
def kp_l_markUndoS : KP := [(2, k_l_markUndoS_2)]
noncomputable def q_l_markUndoS (n : Nat) (x : AP.denL [.io tIUndo, .ro tInt]) := evX false l_l_markUndoS kp_l_markUndoS [none] Try.f78 (shO (shV tInt) [.io tIUndo]) n (AP.encL [.io tIUndo, .ro tInt] x)
noncomputable def c_l_markUndoS : Con := apS [.io tIUndo, .ro tInt] true (shO (shV tInt) [.io tIUndo]) (q_l_markUndoS big)
theorem c_l_markUndoS_ok : ConOk Try.prog 78 c_l_markUndoS := apS_ok ⟨Try.f78, by kernel_rfl, rfl, by decide⟩ fun _ _ h => evX_ok l_l_markUndoS_ok (f := Try.f78) (by kernel_rfl) rfl (by kernel_rfl) (by kernel_rfl) big h
noncomputable def Q_l_markUndoS (n : Nat) (a0 : DSlIUndo) (a1 : DInt) : Option (DInt × DSlIUndo × Unit) := q_l_markUndoS n (a0, a1, ())
noncomputable def r_l_markUndoS_2 (n : Nat) (x : KD k_l_markUndoS_2.1) (y : BD k_l_markUndoS_2.2) := rounds (env false l_l_markUndoS) kp_l_markUndoS (body Try.f78) (finX false l_l_markUndoS [none] Try.f78 (shO (shV tInt) [.io tIUndo]) [AP.enc (.io tIUndo) [], AP.enc (.ro tInt) (zeroD tInt)]) n 2 k_l_markUndoS_2 x y
noncomputable def R_l_markUndoS_2 (n : Nat) (s1 : DInt64) (s5 : DInt64) (b0 : (List DIUndo)) : Option (DInt × DSlIUndo × Unit) := r_l_markUndoS_2 n (s1, s5, ()) (b0, ())
theorem Q_l_markUndoS_eq (n : Nat) (a0 : DSlIUndo) (a1 : DInt) : Q_l_markUndoS n a0 a1 =
    R_l_markUndoS_2 n a1 (0 : Int) a0 := by kernel_rfl
theorem R_l_markUndoS_2_eq (n : Nat) (s1 : DInt64) (s5 : DInt64) (b0 : (List DIUndo)) : R_l_markUndoS_2 (n + 1) s1 s5 b0 =
    bif decide (s5 < (↑b0.length : Int)) then
    (Q_l_markText big s1).bind fun y =>
      if (0 : Int) ≤ s5 then
        if s5 < (↑b0.length : Int) then
          (nth b0 (Int.toNat s5)).bind fun y_1 =>
            if (0 : Int) ≤ s5 then
              if s5 < (↑(upd b0 (Int.toNat s5) (y, y_1.snd)).length : Int) then
                (nth (upd b0 (Int.toNat s5) (y, y_1.snd)) (Int.toNat s5)).bind fun y_2 =>
                  if (0 : Int) ≤ s5 then
                    if
                        s5 <
                          (↑(upd (upd b0 (Int.toNat s5) (y, y_1.snd)) (Int.toNat s5)
                                  (y_2.fst, decide ((IntKind.i64.wrap (s1 + (1 : Int))).tmod (3 : Int) = (0 : Int)),
                                    y_2.snd.snd)).length :
                            Int) then
                      (nth
                            (upd (upd b0 (Int.toNat s5) (y, y_1.snd)) (Int.toNat s5)
                              (y_2.fst, decide ((IntKind.i64.wrap (s1 + (1 : Int))).tmod (3 : Int) = (0 : Int)),
                                y_2.snd.snd))
                            (Int.toNat s5)).bind
                        fun y_3 =>
                        R_l_markUndoS_2 n
                          (IntKind.i64.wrap
                            (IntKind.i64.wrap (IntKind.i64.wrap (s1 + (1 : Int)) + (1 : Int)) + (1 : Int)))
                          (IntKind.i64.wrap (s5 + (1 : Int)))
                          (upd
                            (upd (upd b0 (Int.toNat s5) (y, y_1.snd)) (Int.toNat s5)
                              (y_2.fst, decide ((IntKind.i64.wrap (s1 + (1 : Int))).tmod (3 : Int) = (0 : Int)),
                                y_2.snd.snd))
                            (Int.toNat s5)
                            (y_3.fst, y_3.snd.fst, IntKind.i64.wrap (IntKind.i64.wrap (s1 + (1 : Int)) + (1 : Int)),
                              ()))
                    else none
                  else none
              else none
            else none
        else none
      else none
  else some (s1, b0, PUnit.unit) := by kernel_rfl

end Go.Sx.Try

set_option maxRecDepth 100000
namespace Go.Sx.Try
open Go Go.Sx Go.Proofs

noncomputable def l_l_markVoteS : List (Nat × Con) := []
theorem l_l_markVoteS_ok : ∀ q ∈ l_l_markVoteS, ConOk Try.prog q.1 q.2 := Try.cons_nil
abbrev k_l_markVoteS_2 : List Keep × List BK := ([.is (.own 0 0), .ro tInt64, .drop, .drop, .drop, .ro tInt64, .drop, .drop, .drop, .drop, .drop, .drop, .drop, .drop, .drop, .drop, .drop, .drop, .drop, .drop, .drop, .drop, .drop, .drop, .drop, .drop, .drop, .drop, .drop, .drop, .drop, .drop, .drop, .drop, .drop, .drop, .drop, .drop, .drop, .drop, .drop], [.arr tIVote])
def kp_l_markVoteS : KP := [(2, k_l_markVoteS_2)]
noncomputable def q_l_markVoteS (n : Nat) (x : AP.denL [.io tIVote, .ro tInt]) := evX false l_l_markVoteS kp_l_markVoteS [none] Try.f79 (shO (shV tInt) [.io tIVote]) n (AP.encL [.io tIVote, .ro tInt] x)
noncomputable def c_l_markVoteS : Con := apS [.io tIVote, .ro tInt] true (shO (shV tInt) [.io tIVote]) (q_l_markVoteS big)
theorem c_l_markVoteS_ok : ConOk Try.prog 79 c_l_markVoteS := apS_ok ⟨Try.f79, by kernel_rfl, rfl, by decide⟩ fun _ _ h => evX_ok l_l_markVoteS_ok (f := Try.f79) (by kernel_rfl) rfl (by kernel_rfl) (by kernel_rfl) big h
noncomputable def Q_l_markVoteS (n : Nat) (a0 : DSlIVote) (a1 : DInt) : Option (DInt × DSlIVote × Unit) := q_l_markVoteS n (a0, a1, ())
noncomputable def r_l_markVoteS_2 (n : Nat) (x : KD k_l_markVoteS_2.1) (y : BD k_l_markVoteS_2.2) := rounds (env false l_l_markVoteS) kp_l_markVoteS (body Try.f79) (finX false l_l_markVoteS [none] Try.f79 (shO (shV tInt) [.io tIVote]) [AP.enc (.io tIVote) [], AP.enc (.ro tInt) (zeroD tInt)]) n 2 k_l_markVoteS_2 x y
noncomputable def R_l_markVoteS_2 (n : Nat) (s1 : DInt64) (s5 : DInt64) (b0 : (List DIVote)) : Option (DInt × DSlIVote × Unit) := r_l_markVoteS_2 n (s1, s5, ()) (b0, ())
theorem Q_l_markVoteS_eq (n : Nat) (a0 : DSlIVote) (a1 : DInt) : Q_l_markVoteS n a0 a1 =
    R_l_markVoteS_2 n a1 (0 : Int) a0 := by kernel_rfl
theorem R_l_markVoteS_2_eq (n : Nat) (s1 : DInt64) (s5 : DInt64) (b0 : (List DIVote)) : R_l_markVoteS_2 (n + 1) s1 s5 b0 =
    bif decide (s5 < (↑b0.length : Int)) then
    if (0 : Int) ≤ s5 then
      if s5 < (↑b0.length : Int) then
        (nth b0 (Int.toNat s5)).bind fun y =>
          if (0 : Int) ≤ s5 then
            if s5 < (↑(upd b0 (Int.toNat s5) (s1, y.snd)).length : Int) then
              (nth (upd b0 (Int.toNat s5) (s1, y.snd)) (Int.toNat s5)).bind fun y_1 =>
                if (0 : Int) ≤ s5 then
                  if
                      s5 <
                        (↑(upd (upd b0 (Int.toNat s5) (s1, y.snd)) (Int.toNat s5)
                                (y_1.fst, IntKind.i64.wrap (s1 + (1 : Int)), y_1.snd.snd)).length :
                          Int) then
                    (nth
                          (upd (upd b0 (Int.toNat s5) (s1, y.snd)) (Int.toNat s5)
                            (y_1.fst, IntKind.i64.wrap (s1 + (1 : Int)), y_1.snd.snd))
                          (Int.toNat s5)).bind
                      fun y_2 =>
                      if (0 : Int) ≤ s5 then
                        if
                            s5 <
                              (↑(upd
                                      (upd (upd b0 (Int.toNat s5) (s1, y.snd)) (Int.toNat s5)
                                        (y_1.fst, IntKind.i64.wrap (s1 + (1 : Int)), y_1.snd.snd))
                                      (Int.toNat s5)
                                      (y_2.fst, y_2.snd.fst,
                                        IntKind.i64.wrap (IntKind.i64.wrap (s1 + (1 : Int)) + (1 : Int)),
                                        y_2.snd.snd.snd)).length :
                                Int) then
                          (nth
                                (upd
                                  (upd (upd b0 (Int.toNat s5) (s1, y.snd)) (Int.toNat s5)
                                    (y_1.fst, IntKind.i64.wrap (s1 + (1 : Int)), y_1.snd.snd))
                                  (Int.toNat s5)
                                  (y_2.fst, y_2.snd.fst,
                                    IntKind.i64.wrap (IntKind.i64.wrap (s1 + (1 : Int)) + (1 : Int)), y_2.snd.snd.snd))
                                (Int.toNat s5)).bind
                            fun y_3 =>
                            R_l_markVoteS_2 n
                              (IntKind.i64.wrap
                                (IntKind.i64.wrap
                                    (IntKind.i64.wrap (IntKind.i64.wrap (s1 + (1 : Int)) + (1 : Int)) + (1 : Int)) +
                                  (1 : Int)))
                              (IntKind.i64.wrap (s5 + (1 : Int)))
                              (upd
                                (upd
                                  (upd (upd b0 (Int.toNat s5) (s1, y.snd)) (Int.toNat s5)
                                    (y_1.fst, IntKind.i64.wrap (s1 + (1 : Int)), y_1.snd.snd))
                                  (Int.toNat s5)
                                  (y_2.fst, y_2.snd.fst,
                                    IntKind.i64.wrap (IntKind.i64.wrap (s1 + (1 : Int)) + (1 : Int)), y_2.snd.snd.snd))
                                (Int.toNat s5)
                                (y_3.fst, y_3.snd.fst, y_3.snd.snd.fst,
                                  IntKind.i64.wrap
                                    (IntKind.i64.wrap (IntKind.i64.wrap (s1 + (1 : Int)) + (1 : Int)) + (1 : Int)),
                                  ()))
                        else none
                      else none
                  else none
                else none
            else none
          else none
      else none
    else none
  else some (s1, b0, PUnit.unit) := by kernel_rfl

end Go.Sx.Try
