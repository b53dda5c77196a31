/- The helpers of the laws. -/
import Derived.Test.YtbamlihfaobfeaaM9
import Derived.Test.YtbamlihfaobfeaaPeerNewF1
import Derived.Test.YtbamlihfaobfeaaTypes
import Derived.Test.YtbamlihfaobfeaaPeerNewF3
set_option linter.unusedVariables false
set_option maxRecDepth 100000
namespace Go.Sx.Try
open Go Go.Sx Go.Proofs

theorem peqQc (x : DIQc) (h : Bg tIQc x) : Q_l_eqQc big x x = some true := by
  rw [Q_l_eqQc_eq]
  simp only [decide_true, Bool.not_true, cond_false]

theorem peqVote (x : DIVote) (h : Bg tIVote x) : Q_l_eqVote big x x = some true := by
  rw [Q_l_eqVote_eq]
  simp only [decide_true, Bool.not_true, cond_false]

theorem peqIntS (x : DSlInt) (h : Bg tSlInt x) : Q_l_eqIntS big x x = some true := 
  eq_ok (e := fun y y1 => some (decide (y = y1))) (r := fun n i => R_l_eqIntS_4 n x x i) (n := big) (Q_l_eqIntS_eq big x x) (fun n i => R_l_eqIntS_4_eq n x x i) (fun y _ => by simp) h.1 (by decide)

theorem peqCell (x : DICell) (h : Bg tICell x) : Q_l_eqCell big x x = some true := by
  rw [Q_l_eqCell_eq]
  simp only [decide_true, Bool.not_true, cond_false]

theorem peqCellS (x : DSlICell) (h : Bg tSlICell x) : Q_l_eqCellS big x x = some true := 
  eq_ok (e := fun y y1 => Q_l_eqCell big y y1) (r := fun n i => R_l_eqCellS_4 n x x i) (n := big) (Q_l_eqCellS_eq big x x) (fun n i => R_l_eqCellS_4_eq n x x i) (fun y hy => peqCell y (h.2 y hy)) h.1 (by decide)

theorem peqUndo (x : DIUndo) (h : Bg tIUndo x) : Q_l_eqUndo big x x = some true := by
  rw [Q_l_eqUndo_eq]
  simp only [decide_true, beq_self_eq_true, Bool.not_true, cond_false]

theorem peqUndoS (x : DSlIUndo) (h : Bg tSlIUndo x) : Q_l_eqUndoS big x x = some true := 
  eq_ok (e := fun y y1 => Q_l_eqUndo big y y1) (r := fun n i => R_l_eqUndoS_4 n x x i) (n := big) (Q_l_eqUndoS_eq big x x) (fun n i => R_l_eqUndoS_4_eq n x x i) (fun y hy => peqUndo y (h.2 y hy)) h.1 (by decide)

theorem peqVoteS (x : DSlIVote) (h : Bg tSlIVote x) : Q_l_eqVoteS big x x = some true := 
  eq_ok (e := fun y y1 => Q_l_eqVote big y y1) (r := fun n i => R_l_eqVoteS_4 n x x i) (n := big) (Q_l_eqVoteS_eq big x x) (fun n i => R_l_eqVoteS_4_eq n x x i) (fun y hy => peqVote y (h.2 y hy)) h.1 (by decide)

theorem peqLetter (x : DILetter) (h : Bg tILetter x) : Q_l_eqLetter big x x = some true := by
  rw [Q_l_eqLetter_eq]
  simp only [decide_true, Bool.not_true, cond_false, Option.bind_some, peqQc _ (h.2.2.2.2.2.1), peqVote _ (h.2.2.2.2.2.2.1)]

theorem peqLetterS (x : DSlILetter) (h : Bg tSlILetter x) : Q_l_eqLetterS big x x = some true := 
  eq_ok (e := fun y y1 => Q_l_eqLetter big y y1) (r := fun n i => R_l_eqLetterS_4 n x x i) (n := big) (Q_l_eqLetterS_eq big x x) (fun n i => R_l_eqLetterS_4_eq n x x i) (fun y hy => peqLetter y (h.2 y hy)) h.1 (by decide)

theorem peqPeer (x : DIPeer) (h : Bg tIPeer x) : Q_l_eqPeer big x x = some true := by
  rw [Q_l_eqPeer_eq]
  simp only [decide_true, Bool.not_true, cond_false, Option.bind_some, peqQc _ (h.2.2.1), peqQc _ (h.2.2.2.1), peqVote _ (h.2.2.2.2.1), peqIntS _ (h.2.2.2.2.2.1), peqCellS _ (h.2.2.2.2.2.2.1), peqIntS _ (h.2.2.2.2.2.2.2.1), peqUndoS _ (h.2.2.2.2.2.2.2.2.1), peqVoteS _ (h.2.2.2.2.2.2.2.2.2.1), peqLetterS _ (h.2.2.2.2.2.2.2.2.2.2.1)]

end Go.Sx.Try

set_option maxRecDepth 100000
namespace Go.Sx.Try
open Go Go.Sx Go.Proofs

theorem law_PeerNew (a0 : Int) : Q_l_FnExactPeerNew big a0 = some true := by
  rw [Q_l_FnExactPeerNew_eq]
  rw [peqPeer _ ⟨trivial, trivial, Bg_flat rfl _, Bg_flat rfl _, Bg_flat rfl _, ⟨Nat.zero_le _, fun _ h => by cases h⟩, ⟨Nat.zero_le _, fun _ h => by cases h⟩, ⟨Nat.zero_le _, fun _ h => by cases h⟩, ⟨Nat.zero_le _, fun _ h => by cases h⟩, ⟨Nat.zero_le _, fun _ h => by cases h⟩, ⟨Nat.zero_le _, fun _ h => by cases h⟩, trivial, trivial⟩]
  rfl

end Go.Sx.Try
