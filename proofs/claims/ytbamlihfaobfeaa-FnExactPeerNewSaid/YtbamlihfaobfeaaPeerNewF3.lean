/- The functions of the seat: what each comes to. -/
import Derived.Test.YtbamlihfaobfeaaTypes
import Derived.Test.YtbamlihfaobfeaaPeerNewF1
import Derived.Test.YtbamlihfaobfeaaPeerNewF2
set_option linter.unusedVariables false
set_option maxRecDepth 100000
namespace Go.Sx.Try
open Go Go.Sx Go.Proofs

noncomputable def l_l_markPeer : List (Nat × Con) := [(65, c_l_markIntS), (66, c_l_markCellS), (78, c_l_markUndoS), (79, c_l_markVoteS), (47, c_l_markLetterS)]
theorem l_l_markPeer_ok : ∀ q ∈ l_l_markPeer, ConOk Try.prog q.1 q.2 := Try.cons_cons c_l_markIntS_ok (Try.cons_cons c_l_markCellS_ok (Try.cons_cons c_l_markUndoS_ok (Try.cons_cons c_l_markVoteS_ok (Try.cons_cons c_l_markLetterS_ok (Try.cons_nil)))))
def kp_l_markPeer : KP := []
noncomputable def q_l_markPeer (n : Nat) (x : AP.denL [.mo uIPeer, .ro tInt]) := evX false l_l_markPeer kp_l_markPeer [none] Try.f19 (shO (shV tInt) [.mo uIPeer]) n (AP.encL [.mo uIPeer, .ro tInt] x)
noncomputable def c_l_markPeer : Con := apS [.mo uIPeer, .ro tInt] true (shO (shV tInt) [.mo uIPeer]) (q_l_markPeer big)
theorem c_l_markPeer_ok : ConOk Try.prog 19 c_l_markPeer := apS_ok ⟨Try.f19, by kernel_rfl, rfl, by decide⟩ fun _ _ h => evX_ok l_l_markPeer_ok (f := Try.f19) (by kernel_rfl) rfl (by kernel_rfl) (by kernel_rfl) big h
noncomputable def Q_l_markPeer (n : Nat) (a0 : DIPeer) (a1 : DInt) : Option (DInt × (Unit × Unit × (Unit × Unit × Unit × Unit × Unit) × (Unit × Unit × Unit × Unit × Unit) × (Unit × Unit × Unit × Unit × Unit) × (List DInt) × (List DICell) × (List DInt) × (List DIUndo) × (List DIVote) × (List DILetter) × Unit × Unit) × Unit) := q_l_markPeer n (a0, a1, ())
theorem Q_l_markPeer_eq (n : Nat) (a0 : DIPeer) (a1 : DInt) : Q_l_markPeer n a0 a1 =
    (Q_l_markIntS big a0.snd.snd.snd.snd.snd.fst a1).bind fun y =>
    (Q_l_markCellS big a0.snd.snd.snd.snd.snd.snd.fst y.fst).bind fun y_1 =>
      (Q_l_markIntS big a0.snd.snd.snd.snd.snd.snd.snd.fst y_1.fst).bind fun y_2 =>
        (Q_l_markUndoS big a0.snd.snd.snd.snd.snd.snd.snd.snd.fst y_2.fst).bind fun y_3 =>
          (Q_l_markVoteS big a0.snd.snd.snd.snd.snd.snd.snd.snd.snd.fst y_3.fst).bind fun y_4 =>
            (Q_l_markLetterS big a0.snd.snd.snd.snd.snd.snd.snd.snd.snd.snd.fst y_4.fst).bind fun y_5 =>
              some
                (y_5.fst,
                  (PUnit.unit, PUnit.unit, (PUnit.unit, PUnit.unit, PUnit.unit, PUnit.unit, PUnit.unit),
                    (PUnit.unit, PUnit.unit, PUnit.unit, PUnit.unit, PUnit.unit),
                    (PUnit.unit, PUnit.unit, PUnit.unit, PUnit.unit, PUnit.unit), y.snd.fst, y_1.snd.fst, y_2.snd.fst,
                    y_3.snd.fst, y_4.snd.fst, y_5.snd.fst, PUnit.unit, PUnit.unit),
                  PUnit.unit) := by kernel_rfl

end Go.Sx.Try

set_option maxRecDepth 100000
namespace Go.Sx.Try
open Go Go.Sx Go.Proofs

noncomputable def l_l_heldIntS : List (Nat × Con) := []
theorem l_l_heldIntS_ok : ∀ q ∈ l_l_heldIntS, ConOk Try.prog q.1 q.2 := Try.cons_nil
abbrev k_l_heldIntS_2 : List Keep × List BK := ([.ro tSlInt, .ro tInt64, .drop, .drop, .drop, .ro tInt64, .drop, .drop, .drop, .drop, .drop, .drop, .drop, .drop, .drop, .drop, .drop, .drop, .drop, .drop, .drop], [])
def kp_l_heldIntS : KP := [(2, k_l_heldIntS_2)]
noncomputable def q_l_heldIntS (n : Nat) (x : Args [tSlInt, tInt]) := evX false l_l_heldIntS kp_l_heldIntS [none] Try.f80 (shV tInt) n (encA [tSlInt, tInt] x)
noncomputable def c_l_heldIntS : Con := roS [tSlInt, tInt] true (shV tInt) (q_l_heldIntS big)
theorem c_l_heldIntS_ok : ConOk Try.prog 80 c_l_heldIntS := roS_ok ⟨Try.f80, by kernel_rfl, rfl, by decide⟩ fun _ _ h => evX_ok l_l_heldIntS_ok (f := Try.f80) (by kernel_rfl) rfl (by kernel_rfl) (by kernel_rfl) big h
noncomputable def Q_l_heldIntS (n : Nat) (a0 : DSlInt) (a1 : DInt) : Option DInt := q_l_heldIntS n (a0, a1, ())
noncomputable def r_l_heldIntS_2 (n : Nat) (x : KD k_l_heldIntS_2.1) (y : BD k_l_heldIntS_2.2) := rounds (env false l_l_heldIntS) kp_l_heldIntS (body Try.f80) (finX false l_l_heldIntS [none] Try.f80 (shV tInt) [.val tSlInt (zeroD tSlInt), .val tInt (zeroD tInt)]) n 2 k_l_heldIntS_2 x y
noncomputable def R_l_heldIntS_2 (n : Nat) (s0 : DSlInt) (s1 : DInt64) (s5 : DInt64) : Option DInt := r_l_heldIntS_2 n (s0, s1, s5, ()) ()
theorem Q_l_heldIntS_eq (n : Nat) (a0 : DSlInt) (a1 : DInt) : Q_l_heldIntS n a0 a1 =
    R_l_heldIntS_2 n a0 a1 (0 : Int) := by kernel_rfl
theorem R_l_heldIntS_2_eq (n : Nat) (s0 : DSlInt) (s1 : DInt64) (s5 : DInt64) : R_l_heldIntS_2 (n + 1) s0 s1 s5 =
    bif decide (s5 < (↑(List.length s0) : Int)) then
    if (0 : Int) ≤ s5 then
      (nth s0 (Int.toNat s5)).bind fun y =>
        bif !decide (y = s1) then some (-1 : Int)
        else R_l_heldIntS_2 n s0 (IntKind.i64.wrap (s1 + (1 : Int))) (IntKind.i64.wrap (s5 + (1 : Int)))
    else none
  else some s1 := by kernel_rfl

end Go.Sx.Try

set_option maxRecDepth 100000
namespace Go.Sx.Try
open Go Go.Sx Go.Proofs

noncomputable def l_l_heldCellS : List (Nat × Con) := [(140, c_l_markText)]
theorem l_l_heldCellS_ok : ∀ q ∈ l_l_heldCellS, ConOk Try.prog q.1 q.2 := Try.cons_cons c_l_markText_ok (Try.cons_nil)
abbrev k_l_heldCellS_2 : List Keep × List BK := ([.ro tSlICell, .ro tInt64, .drop, .drop, .drop, .ro tInt64, .drop, .drop, .drop, .drop, .drop, .drop, .drop, .drop, .drop, .drop, .drop, .drop, .drop, .drop, .drop, .drop, .drop, .drop, .drop, .drop, .drop, .drop, .drop, .drop, .drop, .drop], [])
def kp_l_heldCellS : KP := [(2, k_l_heldCellS_2)]
noncomputable def q_l_heldCellS (n : Nat) (x : Args [tSlICell, tInt]) := evX false l_l_heldCellS kp_l_heldCellS [none] Try.f67 (shV tInt) n (encA [tSlICell, tInt] x)
noncomputable def c_l_heldCellS : Con := roS [tSlICell, tInt] true (shV tInt) (q_l_heldCellS big)
theorem c_l_heldCellS_ok : ConOk Try.prog 67 c_l_heldCellS := roS_ok ⟨Try.f67, by kernel_rfl, rfl, by decide⟩ fun _ _ h => evX_ok l_l_heldCellS_ok (f := Try.f67) (by kernel_rfl) rfl (by kernel_rfl) (by kernel_rfl) big h
noncomputable def Q_l_heldCellS (n : Nat) (a0 : DSlICell) (a1 : DInt) : Option DInt := q_l_heldCellS n (a0, a1, ())
noncomputable def r_l_heldCellS_2 (n : Nat) (x : KD k_l_heldCellS_2.1) (y : BD k_l_heldCellS_2.2) := rounds (env false l_l_heldCellS) kp_l_heldCellS (body Try.f67) (finX false l_l_heldCellS [none] Try.f67 (shV tInt) [.val tSlICell (zeroD tSlICell), .val tInt (zeroD tInt)]) n 2 k_l_heldCellS_2 x y
noncomputable def R_l_heldCellS_2 (n : Nat) (s0 : DSlICell) (s1 : DInt64) (s5 : DInt64) : Option DInt := r_l_heldCellS_2 n (s0, s1, s5, ()) ()
theorem Q_l_heldCellS_eq (n : Nat) (a0 : DSlICell) (a1 : DInt) : Q_l_heldCellS n a0 a1 =
    R_l_heldCellS_2 n a0 a1 (0 : Int) := by kernel_rfl
theorem R_l_heldCellS_2_eq (n : Nat) (s0 : DSlICell) (s1 : DInt64) (s5 : DInt64) : R_l_heldCellS_2 (n + 1) s0 s1 s5 =
    bif decide (s5 < (↑(List.length s0) : Int)) then
    if (0 : Int) ≤ s5 then
      (nth s0 (Int.toNat s5)).bind fun y =>
        (Q_l_markText big s1).bind fun y_1 =>
          bif !decide (y.fst = y_1) then some (-1 : Int)
          else
            if (0 : Int) ≤ s5 then
              (nth s0 (Int.toNat s5)).bind fun y =>
                bif !decide (y.snd.fst = IntKind.i64.wrap (s1 + (1 : Int))) then some (-1 : Int)
                else
                  R_l_heldCellS_2 n s0 (IntKind.i64.wrap (IntKind.i64.wrap (s1 + (1 : Int)) + (1 : Int)))
                    (IntKind.i64.wrap (s5 + (1 : Int)))
            else none
    else none
  else some s1 := by kernel_rfl

end Go.Sx.Try

set_option maxRecDepth 100000
namespace Go.Sx.Try
open Go Go.Sx Go.Proofs

noncomputable def l_l_heldUndoS : List (Nat × Con) := [(140, c_l_markText)]
theorem l_l_heldUndoS_ok : ∀ q ∈ l_l_heldUndoS, ConOk Try.prog q.1 q.2 := Try.cons_cons c_l_markText_ok (Try.cons_nil)
abbrev k_l_heldUndoS_2 : List Keep × List BK := ([.ro tSlIUndo, .ro tInt64, .drop, .drop, .drop, .ro tInt64, .drop, .drop, .drop, .drop, .drop, .drop, .drop, .drop, .drop, .drop, .drop, .drop, .drop, .drop, .drop, .drop, .drop, .drop, .drop, .drop, .drop, .drop, .drop, .drop, .drop, .drop, .drop, .drop, .drop, .drop, .drop, .drop, .drop, .drop, .drop, .drop, .drop], [])
def kp_l_heldUndoS : KP := [(2, k_l_heldUndoS_2)]
noncomputable def q_l_heldUndoS (n : Nat) (x : Args [tSlIUndo, tInt]) := evX false l_l_heldUndoS kp_l_heldUndoS [none] Try.f81 (shV tInt) n (encA [tSlIUndo, tInt] x)
noncomputable def c_l_heldUndoS : Con := roS [tSlIUndo, tInt] true (shV tInt) (q_l_heldUndoS big)
theorem c_l_heldUndoS_ok : ConOk Try.prog 81 c_l_heldUndoS := roS_ok ⟨Try.f81, by kernel_rfl, rfl, by decide⟩ fun _ _ h => evX_ok l_l_heldUndoS_ok (f := Try.f81) (by kernel_rfl) rfl (by kernel_rfl) (by kernel_rfl) big h
noncomputable def Q_l_heldUndoS (n : Nat) (a0 : DSlIUndo) (a1 : DInt) : Option DInt := q_l_heldUndoS n (a0, a1, ())
noncomputable def r_l_heldUndoS_2 (n : Nat) (x : KD k_l_heldUndoS_2.1) (y : BD k_l_heldUndoS_2.2) := rounds (env false l_l_heldUndoS) kp_l_heldUndoS (body Try.f81) (finX false l_l_heldUndoS [none] Try.f81 (shV tInt) [.val tSlIUndo (zeroD tSlIUndo), .val tInt (zeroD tInt)]) n 2 k_l_heldUndoS_2 x y
noncomputable def R_l_heldUndoS_2 (n : Nat) (s0 : DSlIUndo) (s1 : DInt64) (s5 : DInt64) : Option DInt := r_l_heldUndoS_2 n (s0, s1, s5, ()) ()
theorem Q_l_heldUndoS_eq (n : Nat) (a0 : DSlIUndo) (a1 : DInt) : Q_l_heldUndoS n a0 a1 =
    R_l_heldUndoS_2 n a0 a1 (0 : Int) := by kernel_rfl
theorem R_l_heldUndoS_2_eq (n : Nat) (s0 : DSlIUndo) (s1 : DInt64) (s5 : DInt64) : R_l_heldUndoS_2 (n + 1) s0 s1 s5 =
    bif decide (s5 < (↑(List.length s0) : Int)) then
    if (0 : Int) ≤ s5 then
      (nth s0 (Int.toNat s5)).bind fun y =>
        (Q_l_markText big s1).bind fun y_1 =>
          bif !decide (y.fst = y_1) then some (-1 : Int)
          else
            if (0 : Int) ≤ s5 then
              (nth s0 (Int.toNat s5)).bind fun y =>
                bif !y.snd.fst == decide ((IntKind.i64.wrap (s1 + (1 : Int))).tmod (3 : Int) = (0 : Int)) then
                  some (-1 : Int)
                else
                  if (0 : Int) ≤ s5 then
                    (nth s0 (Int.toNat s5)).bind fun y =>
                      bif
                          !decide
                              (y.snd.snd.fst = IntKind.i64.wrap (IntKind.i64.wrap (s1 + (1 : Int)) + (1 : Int))) then
                        some (-1 : Int)
                      else
                        R_l_heldUndoS_2 n s0
                          (IntKind.i64.wrap
                            (IntKind.i64.wrap (IntKind.i64.wrap (s1 + (1 : Int)) + (1 : Int)) + (1 : Int)))
                          (IntKind.i64.wrap (s5 + (1 : Int)))
                  else none
            else none
    else none
  else some s1 := by kernel_rfl

end Go.Sx.Try

set_option maxRecDepth 100000
namespace Go.Sx.Try
open Go Go.Sx Go.Proofs

noncomputable def l_l_heldVoteS : List (Nat × Con) := []
theorem l_l_heldVoteS_ok : ∀ q ∈ l_l_heldVoteS, ConOk Try.prog q.1 q.2 := Try.cons_nil
abbrev k_l_heldVoteS_2 : List Keep × List BK := ([.ro tSlIVote, .ro tInt64, .drop, .drop, .drop, .ro tInt64, .drop, .drop, .drop, .drop, .drop, .drop, .drop, .drop, .drop, .drop, .drop, .drop, .drop, .drop, .drop, .drop, .drop, .drop, .drop, .drop, .drop, .drop, .drop, .drop, .drop, .drop, .drop, .drop, .drop, .drop, .drop, .drop, .drop, .drop, .drop, .drop, .drop, .drop, .drop, .drop, .drop, .drop, .drop], [])
def kp_l_heldVoteS : KP := [(2, k_l_heldVoteS_2)]
noncomputable def q_l_heldVoteS (n : Nat) (x : Args [tSlIVote, tInt]) := evX false l_l_heldVoteS kp_l_heldVoteS [none] Try.f82 (shV tInt) n (encA [tSlIVote, tInt] x)
noncomputable def c_l_heldVoteS : Con := roS [tSlIVote, tInt] true (shV tInt) (q_l_heldVoteS big)
theorem c_l_heldVoteS_ok : ConOk Try.prog 82 c_l_heldVoteS := roS_ok ⟨Try.f82, by kernel_rfl, rfl, by decide⟩ fun _ _ h => evX_ok l_l_heldVoteS_ok (f := Try.f82) (by kernel_rfl) rfl (by kernel_rfl) (by kernel_rfl) big h
noncomputable def Q_l_heldVoteS (n : Nat) (a0 : DSlIVote) (a1 : DInt) : Option DInt := q_l_heldVoteS n (a0, a1, ())
noncomputable def r_l_heldVoteS_2 (n : Nat) (x : KD k_l_heldVoteS_2.1) (y : BD k_l_heldVoteS_2.2) := rounds (env false l_l_heldVoteS) kp_l_heldVoteS (body Try.f82) (finX false l_l_heldVoteS [none] Try.f82 (shV tInt) [.val tSlIVote (zeroD tSlIVote), .val tInt (zeroD tInt)]) n 2 k_l_heldVoteS_2 x y
noncomputable def R_l_heldVoteS_2 (n : Nat) (s0 : DSlIVote) (s1 : DInt64) (s5 : DInt64) : Option DInt := r_l_heldVoteS_2 n (s0, s1, s5, ()) ()
theorem Q_l_heldVoteS_eq (n : Nat) (a0 : DSlIVote) (a1 : DInt) : Q_l_heldVoteS n a0 a1 =
    R_l_heldVoteS_2 n a0 a1 (0 : Int) := by kernel_rfl
theorem R_l_heldVoteS_2_eq (n : Nat) (s0 : DSlIVote) (s1 : DInt64) (s5 : DInt64) : R_l_heldVoteS_2 (n + 1) s0 s1 s5 =
    bif decide (s5 < (↑(List.length s0) : Int)) then
    if (0 : Int) ≤ s5 then
      (nth s0 (Int.toNat s5)).bind fun y =>
        bif !decide (y.fst = s1) then some (-1 : Int)
        else
          if (0 : Int) ≤ s5 then
            (nth s0 (Int.toNat s5)).bind fun y =>
              bif !decide (y.snd.fst = IntKind.i64.wrap (s1 + (1 : Int))) then some (-1 : Int)
              else
                if (0 : Int) ≤ s5 then
                  (nth s0 (Int.toNat s5)).bind fun y =>
                    bif !decide (y.snd.snd.fst = IntKind.i64.wrap (IntKind.i64.wrap (s1 + (1 : Int)) + (1 : Int))) then
                      some (-1 : Int)
                    else
                      if (0 : Int) ≤ s5 then
                        (nth s0 (Int.toNat s5)).bind fun y =>
                          bif
                              !decide
                                  (y.snd.snd.snd.fst =
                                    IntKind.i64.wrap
                                      (IntKind.i64.wrap (IntKind.i64.wrap (s1 + (1 : Int)) + (1 : Int)) +
                                        (1 : Int))) then
                            some (-1 : Int)
                          else
                            R_l_heldVoteS_2 n s0
                              (IntKind.i64.wrap
                                (IntKind.i64.wrap
                                    (IntKind.i64.wrap (IntKind.i64.wrap (s1 + (1 : Int)) + (1 : Int)) + (1 : Int)) +
                                  (1 : Int)))
                              (IntKind.i64.wrap (s5 + (1 : Int)))
                      else none
                else none
          else none
    else none
  else some s1 := by kernel_rfl

end Go.Sx.Try

set_option maxRecDepth 100000
namespace Go.Sx.Try
open Go Go.Sx Go.Proofs

noncomputable def l_l_heldLetterS : List (Nat × Con) := []
theorem l_l_heldLetterS_ok : ∀ q ∈ l_l_heldLetterS, ConOk Try.prog q.1 q.2 := Try.cons_nil
abbrev k_l_heldLetterS_2 : List Keep × List BK := ([.ro tSlILetter, .ro tInt64, .drop, .drop, .drop, .ro tInt64, .drop, .drop, .drop, .drop, .drop, .drop, .drop, .drop, .drop, .drop, .drop, .drop, .drop, .drop, .drop, .drop, .drop, .drop, .drop, .drop, .drop, .drop, .drop, .drop, .drop, .drop, .drop, .drop, .drop, .drop, .drop, .drop, .drop, .drop, .drop, .drop, .drop, .drop, .drop, .drop, .drop, .drop, .drop, .drop, .drop, .drop, .drop, .drop, .drop, .drop, .drop, .drop, .drop, .drop, .drop, .drop, .drop, .drop, .drop, .drop, .drop, .drop, .drop, .drop, .drop, .drop, .drop, .drop, .drop, .drop, .drop, .drop, .drop, .drop, .drop, .drop, .drop, .drop, .drop, .drop, .drop, .drop, .drop, .drop, .drop, .drop, .drop, .drop, .drop, .drop, .drop, .drop, .drop, .drop, .drop, .drop, .drop, .drop, .drop, .drop, .drop, .drop, .drop, .drop, .drop, .drop, .drop, .drop, .drop, .drop, .drop, .drop, .drop, .drop, .drop, .drop, .drop, .drop, .drop, .drop, .drop, .drop, .drop, .drop, .drop, .drop, .drop, .drop, .drop, .drop, .drop, .drop], [])
def kp_l_heldLetterS : KP := [(2, k_l_heldLetterS_2)]
noncomputable def q_l_heldLetterS (n : Nat) (x : Args [tSlILetter, tInt]) := evX false l_l_heldLetterS kp_l_heldLetterS [none] Try.f83 (shV tInt) n (encA [tSlILetter, tInt] x)
noncomputable def c_l_heldLetterS : Con := roS [tSlILetter, tInt] true (shV tInt) (q_l_heldLetterS big)
theorem c_l_heldLetterS_ok : ConOk Try.prog 83 c_l_heldLetterS := roS_ok ⟨Try.f83, by kernel_rfl, rfl, by decide⟩ fun _ _ h => evX_ok l_l_heldLetterS_ok (f := Try.f83) (by kernel_rfl) rfl (by kernel_rfl) (by kernel_rfl) big h
noncomputable def Q_l_heldLetterS (n : Nat) (a0 : DSlILetter) (a1 : DInt) : Option DInt := q_l_heldLetterS n (a0, a1, ())
noncomputable def r_l_heldLetterS_2 (n : Nat) (x : KD k_l_heldLetterS_2.1) (y : BD k_l_heldLetterS_2.2) := rounds (env false l_l_heldLetterS) kp_l_heldLetterS (body Try.f83) (finX false l_l_heldLetterS [none] Try.f83 (shV tInt) [.val tSlILetter (zeroD tSlILetter), .val tInt (zeroD tInt)]) n 2 k_l_heldLetterS_2 x y
noncomputable def R_l_heldLetterS_2 (n : Nat) (s0 : DSlILetter) (s1 : DInt64) (s5 : DInt64) : Option DInt := r_l_heldLetterS_2 n (s0, s1, s5, ()) ()
theorem Q_l_heldLetterS_eq (n : Nat) (a0 : DSlILetter) (a1 : DInt) : Q_l_heldLetterS n a0 a1 =
    R_l_heldLetterS_2 n a0 a1 (0 : Int) := by kernel_rfl
theorem R_l_heldLetterS_2_eq (n : Nat) (s0 : DSlILetter) (s1 : DInt64) (s5 : DInt64) : R_l_heldLetterS_2 (n + 1) s0 s1 s5 =
    bif decide (s5 < (↑(List.length s0) : Int)) then
    if (0 : Int) ≤ s5 then
      (nth s0 (Int.toNat s5)).bind fun y =>
        bif !decide (y.fst = s1) then some (-1 : Int)
        else
          if (0 : Int) ≤ s5 then
            (nth s0 (Int.toNat s5)).bind fun y =>
              bif !decide (y.snd.fst = IntKind.i64.wrap (s1 + (1 : Int))) then some (-1 : Int)
              else
                if (0 : Int) ≤ s5 then
                  (nth s0 (Int.toNat s5)).bind fun y =>
                    bif !decide (y.snd.snd.fst = IntKind.i64.wrap (IntKind.i64.wrap (s1 + (1 : Int)) + (1 : Int))) then
                      some (-1 : Int)
                    else
                      if (0 : Int) ≤ s5 then
                        (nth s0 (Int.toNat s5)).bind fun y =>
                          bif
                              !decide
                                  (y.snd.snd.snd.fst =
                                    IntKind.i64.wrap
                                      (IntKind.i64.wrap (IntKind.i64.wrap (s1 + (1 : Int)) + (1 : Int)) +
                                        (1 : Int))) then
                            some (-1 : Int)
                          else
                            if (0 : Int) ≤ s5 then
                              (nth s0 (Int.toNat s5)).bind fun y =>
                                bif
                                    !decide
                                        (y.snd.snd.snd.snd.fst =
                                          IntKind.i64.wrap
                                            (IntKind.i64.wrap
                                                (IntKind.i64.wrap (IntKind.i64.wrap (s1 + (1 : Int)) + (1 : Int)) +
                                                  (1 : Int)) +
                                              (1 : Int))) then
                                  some (-1 : Int)
                                else
                                  if (0 : Int) ≤ s5 then
                                    (nth s0 (Int.toNat s5)).bind fun y =>
                                      bif
                                          !decide
                                              (y.snd.snd.snd.snd.snd.fst.fst =
                                                IntKind.i64.wrap
                                                  (IntKind.i64.wrap
                                                      (IntKind.i64.wrap
                                                          (IntKind.i64.wrap
                                                              (IntKind.i64.wrap (s1 + (1 : Int)) + (1 : Int)) +
                                                            (1 : Int)) +
                                                        (1 : Int)) +
                                                    (1 : Int))) then
                                        some (-1 : Int)
                                      else
                                        if (0 : Int) ≤ s5 then
                                          (nth s0 (Int.toNat s5)).bind fun y =>
                                            bif
                                                !decide
                                                    (y.snd.snd.snd.snd.snd.fst.snd.fst =
                                                      IntKind.i64.wrap
                                                        (IntKind.i64.wrap
                                                            (IntKind.i64.wrap
                                                                (IntKind.i64.wrap
                                                                    (IntKind.i64.wrap
                                                                        (IntKind.i64.wrap (s1 + (1 : Int)) +
                                                                          (1 : Int)) +
                                                                      (1 : Int)) +
                                                                  (1 : Int)) +
                                                              (1 : Int)) +
                                                          (1 : Int))) then
                                              some (-1 : Int)
                                            else
                                              if (0 : Int) ≤ s5 then
                                                (nth s0 (Int.toNat s5)).bind fun y =>
                                                  bif
                                                      !decide
                                                          (y.snd.snd.snd.snd.snd.fst.snd.snd.fst =
                                                            IntKind.i64.wrap
                                                              (IntKind.i64.wrap
                                                                  (IntKind.i64.wrap
                                                                      (IntKind.i64.wrap
                                                                          (IntKind.i64.wrap
                                                                              (IntKind.i64.wrap
                                                                                  (IntKind.i64.wrap (s1 + (1 : Int)) +
                                                                                    (1 : Int)) +
                                                                                (1 : Int)) +
                                                                            (1 : Int)) +
                                                                        (1 : Int)) +
                                                                    (1 : Int)) +
                                                                (1 : Int))) then
                                                    some (-1 : Int)
                                                  else
                                                    if (0 : Int) ≤ s5 then
                                                      (nth s0 (Int.toNat s5)).bind fun y =>
                                                        bif
                                                            !decide
                                                                (y.snd.snd.snd.snd.snd.fst.snd.snd.snd.fst =
                                                                  IntKind.i64.wrap
                                                                    (IntKind.i64.wrap
                                                                        (IntKind.i64.wrap
                                                                            (IntKind.i64.wrap
                                                                                (IntKind.i64.wrap
                                                                                    (IntKind.i64.wrap
                                                                                        (IntKind.i64.wrap
                                                                                            (IntKind.i64.wrap
                                                                                                (s1 + (1 : Int)) +
                                                                                              (1 : Int)) +
                                                                                          (1 : Int)) +
                                                                                      (1 : Int)) +
                                                                                  (1 : Int)) +
                                                                              (1 : Int)) +
                                                                          (1 : Int)) +
                                                                      (1 : Int))) then
                                                          some (-1 : Int)
                                                        else
                                                          if (0 : Int) ≤ s5 then
                                                            (nth s0 (Int.toNat s5)).bind fun y =>
                                                              bif
                                                                  !decide
                                                                      (y.snd.snd.snd.snd.snd.snd.fst.fst =
                                                                        IntKind.i64.wrap
                                                                          (IntKind.i64.wrap
                                                                              (IntKind.i64.wrap
                                                                                  (IntKind.i64.wrap
                                                                                      (IntKind.i64.wrap
                                                                                          (IntKind.i64.wrap
                                                                                              (IntKind.i64.wrap
                                                                                                  (IntKind.i64.wrap
                                                                                                      (IntKind.i64.wrap
                                                                                                          (s1 +
                                                                                                            (1 : Int)) +
                                                                                                        (1 : Int)) +
                                                                                                    (1 : Int)) +
                                                                                                (1 : Int)) +
                                                                                            (1 : Int)) +
                                                                                        (1 : Int)) +
                                                                                    (1 : Int)) +
                                                                                (1 : Int)) +
                                                                            (1 : Int))) then
                                                                some (-1 : Int)
                                                              else
                                                                if (0 : Int) ≤ s5 then
                                                                  (nth s0 (Int.toNat s5)).bind fun y =>
                                                                    bif
                                                                        !decide
                                                                            (y.snd.snd.snd.snd.snd.snd.fst.snd.fst =
                                                                              IntKind.i64.wrap
                                                                                (IntKind.i64.wrap
                                                                                    (IntKind.i64.wrap
                                                                                        (IntKind.i64.wrap
                                                                                            (IntKind.i64.wrap
                                                                                                (IntKind.i64.wrap
                                                                                                    (IntKind.i64.wrap
                                                                                                        (IntKind.i64.wrap
                                                                                                            (IntKind.i64.wrap
                                                                                                                (IntKind.i64.wrap
                                                                                                                    (s1 +
                                                                                                                      (1 :
                                                                                                                        Int)) +
                                                                                                                  (1 :
                                                                                                                    Int)) +
                                                                                                              (1 :
                                                                                                                Int)) +
                                                                                                          (1 : Int)) +
                                                                                                      (1 : Int)) +
                                                                                                  (1 : Int)) +
                                                                                              (1 : Int)) +
                                                                                          (1 : Int)) +
                                                                                      (1 : Int)) +
                                                                                  (1 : Int))) then
                                                                      some (-1 : Int)
                                                                    else
                                                                      if (0 : Int) ≤ s5 then
                                                                        (nth s0 (Int.toNat s5)).bind fun y =>
                                                                          bif
                                                                              !decide
                                                                                  (y.snd.snd.snd.snd.snd.snd.fst.snd.snd.fst =
                                                                                    IntKind.i64.wrap
                                                                                      (IntKind.i64.wrap
                                                                                          (IntKind.i64.wrap
                                                                                              (IntKind.i64.wrap
                                                                                                  (IntKind.i64.wrap
                                                                                                      (IntKind.i64.wrap
                                                                                                          (IntKind.i64.wrap
                                                                                                              (IntKind.i64.wrap
                                                                                                                  (IntKind.i64.wrap
                                                                                                                      (IntKind.i64.wrap
                                                                                                                          (IntKind.i64.wrap
                                                                                                                              (s1 +
                                                                                                                                (1 :
                                                                                                                                  Int)) +
                                                                                                                            (1 :
                                                                                                                              Int)) +
                                                                                                                        (1 :
                                                                                                                          Int)) +
                                                                                                                    (1 :
                                                                                                                      Int)) +
                                                                                                                (1 :
                                                                                                                  Int)) +
                                                                                                            (1 : Int)) +
                                                                                                        (1 : Int)) +
                                                                                                    (1 : Int)) +
                                                                                                (1 : Int)) +
                                                                                            (1 : Int)) +
                                                                                        (1 : Int))) then
                                                                            some (-1 : Int)
                                                                          else
                                                                            if (0 : Int) ≤ s5 then
                                                                              (nth s0 (Int.toNat s5)).bind fun y =>
                                                                                bif
                                                                                    !decide
                                                                                        (y.snd.snd.snd.snd.snd.snd.fst.snd.snd.snd.fst =
                                                                                          IntKind.i64.wrap
                                                                                            (IntKind.i64.wrap
                                                                                                (IntKind.i64.wrap
                                                                                                    (IntKind.i64.wrap
                                                                                                        (IntKind.i64.wrap
                                                                                                            (IntKind.i64.wrap
                                                                                                                (IntKind.i64.wrap
                                                                                                                    (IntKind.i64.wrap
                                                                                                                        (IntKind.i64.wrap
                                                                                                                            (IntKind.i64.wrap
                                                                                                                                (IntKind.i64.wrap
                                                                                                                                    (IntKind.i64.wrap
                                                                                                                                        (s1 +
                                                                                                                                          (1 :
                                                                                                                                            Int)) +
                                                                                                                                      (1 :
                                                                                                                                        Int)) +
                                                                                                                                  (1 :
                                                                                                                                    Int)) +
                                                                                                                              (1 :
                                                                                                                                Int)) +
                                                                                                                          (1 :
                                                                                                                            Int)) +
                                                                                                                      (1 :
                                                                                                                        Int)) +
                                                                                                                  (1 :
                                                                                                                    Int)) +
                                                                                                              (1 :
                                                                                                                Int)) +
                                                                                                          (1 : Int)) +
                                                                                                      (1 : Int)) +
                                                                                                  (1 : Int)) +
                                                                                              (1 : Int))) then
                                                                                  some (-1 : Int)
                                                                                else
                                                                                  R_l_heldLetterS_2 n s0
                                                                                    (IntKind.i64.wrap
                                                                                      (IntKind.i64.wrap
                                                                                          (IntKind.i64.wrap
                                                                                              (IntKind.i64.wrap
                                                                                                  (IntKind.i64.wrap
                                                                                                      (IntKind.i64.wrap
                                                                                                          (IntKind.i64.wrap
                                                                                                              (IntKind.i64.wrap
                                                                                                                  (IntKind.i64.wrap
                                                                                                                      (IntKind.i64.wrap
                                                                                                                          (IntKind.i64.wrap
                                                                                                                              (IntKind.i64.wrap
                                                                                                                                  (IntKind.i64.wrap
                                                                                                                                      (s1 +
                                                                                                                                        (1 :
                                                                                                                                          Int)) +
                                                                                                                                    (1 :
                                                                                                                                      Int)) +
                                                                                                                                (1 :
                                                                                                                                  Int)) +
                                                                                                                            (1 :
                                                                                                                              Int)) +
                                                                                                                        (1 :
                                                                                                                          Int)) +
                                                                                                                    (1 :
                                                                                                                      Int)) +
                                                                                                                (1 :
                                                                                                                  Int)) +
                                                                                                            (1 : Int)) +
                                                                                                        (1 : Int)) +
                                                                                                    (1 : Int)) +
                                                                                                (1 : Int)) +
                                                                                            (1 : Int)) +
                                                                                        (1 : Int)))
                                                                                    (IntKind.i64.wrap (s5 + (1 : Int)))
                                                                            else none
                                                                      else none
                                                                else none
                                                          else none
                                                    else none
                                              else none
                                        else none
                                  else none
                            else none
                      else none
                else none
          else none
    else none
  else some s1 := by kernel_rfl

end Go.Sx.Try

set_option maxRecDepth 100000
namespace Go.Sx.Try
open Go Go.Sx Go.Proofs

noncomputable def l_l_heldPeer : List (Nat × Con) := [(80, c_l_heldIntS), (67, c_l_heldCellS), (81, c_l_heldUndoS), (82, c_l_heldVoteS), (83, c_l_heldLetterS)]
theorem l_l_heldPeer_ok : ∀ q ∈ l_l_heldPeer, ConOk Try.prog q.1 q.2 := Try.cons_cons c_l_heldIntS_ok (Try.cons_cons c_l_heldCellS_ok (Try.cons_cons c_l_heldUndoS_ok (Try.cons_cons c_l_heldVoteS_ok (Try.cons_cons c_l_heldLetterS_ok (Try.cons_nil)))))
def kp_l_heldPeer : KP := []
noncomputable def q_l_heldPeer (n : Nat) (x : Args [tIPeer, tInt]) := evX false l_l_heldPeer kp_l_heldPeer [none] Try.f20 (shV tInt) n (encA [tIPeer, tInt] x)
noncomputable def c_l_heldPeer : Con := roS [tIPeer, tInt] true (shV tInt) (q_l_heldPeer big)
theorem c_l_heldPeer_ok : ConOk Try.prog 20 c_l_heldPeer := roS_ok ⟨Try.f20, by kernel_rfl, rfl, by decide⟩ fun _ _ h => evX_ok l_l_heldPeer_ok (f := Try.f20) (by kernel_rfl) rfl (by kernel_rfl) (by kernel_rfl) big h
noncomputable def Q_l_heldPeer (n : Nat) (a0 : DIPeer) (a1 : DInt) : Option DInt := q_l_heldPeer n (a0, a1, ())
theorem Q_l_heldPeer_eq (n : Nat) (a0 : DIPeer) (a1 : DInt) : Q_l_heldPeer n a0 a1 =
    (Q_l_heldIntS big a0.snd.snd.snd.snd.snd.fst a1).bind fun y =>
    bif decide (y < (0 : Int)) then some (-1 : Int)
    else
      (Q_l_heldCellS big a0.snd.snd.snd.snd.snd.snd.fst y).bind fun y =>
        bif decide (y < (0 : Int)) then some (-1 : Int)
        else
          (Q_l_heldIntS big a0.snd.snd.snd.snd.snd.snd.snd.fst y).bind fun y =>
            bif decide (y < (0 : Int)) then some (-1 : Int)
            else
              (Q_l_heldUndoS big a0.snd.snd.snd.snd.snd.snd.snd.snd.fst y).bind fun y =>
                bif decide (y < (0 : Int)) then some (-1 : Int)
                else
                  (Q_l_heldVoteS big a0.snd.snd.snd.snd.snd.snd.snd.snd.snd.fst y).bind fun y =>
                    bif decide (y < (0 : Int)) then some (-1 : Int)
                    else
                      (Q_l_heldLetterS big a0.snd.snd.snd.snd.snd.snd.snd.snd.snd.snd.fst y).bind fun y =>
                        bif decide (y < (0 : Int)) then some (-1 : Int) else some y := by kernel_rfl

end Go.Sx.Try

set_option maxRecDepth 100000
namespace Go.Sx.Try
open Go Go.Sx Go.Proofs

noncomputable def l_l_FnExactPeerNew : List (Nat × Con) := [(16, c_s_PeerNew), (17, c_i_PeerNew), (18, c_l_eqPeer), (19, c_l_markPeer), (20, c_l_heldPeer)]
theorem l_l_FnExactPeerNew_ok : ∀ q ∈ l_l_FnExactPeerNew, ConOk Try.prog q.1 q.2 := Try.cons_cons c_s_PeerNew_ok (Try.cons_cons c_i_PeerNew_ok (Try.cons_cons c_l_eqPeer_ok (Try.cons_cons c_l_markPeer_ok (Try.cons_cons c_l_heldPeer_ok (Try.cons_nil)))))
def kp_l_FnExactPeerNew : KP := []
noncomputable def q_l_FnExactPeerNew (n : Nat) (x : Args [tInt]) := evX false l_l_FnExactPeerNew kp_l_FnExactPeerNew [none] Try.f3 (shV tBool) n (encA [tInt] x)
noncomputable def c_l_FnExactPeerNew : Con := roS [tInt] true (shV tBool) (q_l_FnExactPeerNew big)
theorem c_l_FnExactPeerNew_ok : ConOk Try.prog 3 c_l_FnExactPeerNew := roS_ok ⟨Try.f3, by kernel_rfl, rfl, by decide⟩ fun _ _ h => evX_ok l_l_FnExactPeerNew_ok (f := Try.f3) (by kernel_rfl) rfl (by kernel_rfl) (by kernel_rfl) big h
noncomputable def Q_l_FnExactPeerNew (n : Nat) (a0 : DInt) : Option DBool := q_l_FnExactPeerNew n (a0, ())
theorem Q_l_FnExactPeerNew_eq (n : Nat) (a0 : DInt) : Q_l_FnExactPeerNew n a0 =
    (Q_l_eqPeer big
        (a0, (1 : Int), ((0 : Int), (0 : Int), (0 : Int), (0 : Int), ()),
          ((0 : Int), (0 : Int), (0 : Int), (0 : Int), ()), ((0 : Int), (0 : Int), (0 : Int), (0 : Int), ()), [], [],
          [], [], [], [], (0 : Int), ())
        (a0, (1 : Int), ((0 : Int), (0 : Int), (0 : Int), (0 : Int), ()),
          ((0 : Int), (0 : Int), (0 : Int), (0 : Int), ()), ((0 : Int), (0 : Int), (0 : Int), (0 : Int), ()), [], [],
          [], [], [], [], (0 : Int), ())).bind
    fun y =>
    bif !y then some false
    else
      (Q_l_eqPeer big
            (a0, (1 : Int), ((0 : Int), (0 : Int), (0 : Int), (0 : Int), ()),
              ((0 : Int), (0 : Int), (0 : Int), (0 : Int), ()), ((0 : Int), (0 : Int), (0 : Int), (0 : Int), ()), [],
              [], [], [], [], [], (0 : Int), ())
            (a0, (1 : Int), ((0 : Int), (0 : Int), (0 : Int), (0 : Int), ()),
              ((0 : Int), (0 : Int), (0 : Int), (0 : Int), ()), ((0 : Int), (0 : Int), (0 : Int), (0 : Int), ()), [],
              [], [], [], [], [], (0 : Int), ())).bind
        fun y => bif !y then some false else some true := by kernel_rfl

end Go.Sx.Try
