/- The helpers of the laws. -/
import Derived.Test.YtbamlihfaobfeaaM9
import Derived.Test.YtbamlihfaobfeaaLoseAtF1
import Derived.Test.YtbamlihfaobfeaaTypes
import Derived.Test.YtbamlihfaobfeaaLoseAtF2
set_option linter.unusedVariables false
set_option linter.unusedSimpArgs false
set_option maxRecDepth 100000
namespace Go.Sx.Try
open Go Go.Sx Go.Proofs

theorem pszCmd (x : DLCmd) (a : Int) (hw : WfD tLCmd x) (h0 : 0 ≤ a) (h1 : a ≤ 1048576) : SzR (Q_l_szCmd big x a) a (Bd tLCmd x) := by
  rw [Q_l_szCmd_eq]
  exact (szR_len (K := some) (hw.2.1) h0 h1 fun v0 k0 l0 _ => szR_end).imp fun h => (Bd_flat rfl _)

theorem pszCmdS (x : DSlLCmd) (a : Int) (hw : WfD tSlLCmd x) (h0 : 0 ≤ a) (h1 : a ≤ 1048576) : SzR (Q_l_szCmdS big x a) a (Bd tSlLCmd x) := 
  szR_list (qe := fun y a => Q_l_szCmd big y a) (r := fun n a i => R_l_szCmdS_5 n x a i) (n := big) hw.1 h0 h1 (Q_l_szCmdS_eq big x a) (fun n a i => R_l_szCmdS_5_eq n x a i) (fun y hy a h0 h1 => pszCmd y a (hw.2 y hy) h0 h1) (by decide)

theorem pszBlock (x : DLBlock) (a : Int) (hw : WfD tLBlock x) (h0 : 0 ≤ a) (h1 : a ≤ 1048576) : SzR (Q_l_szBlock big x a) a (Bd tLBlock x) := by
  rw [Q_l_szBlock_eq]
  exact (szR_bind (pszCmdS _ _ (hw.2.2.1) h0 h1) h0 h1 fun v0 k0 l0 => szR_end).imp fun h => ⟨(Bd_flat rfl _), (Bd_flat rfl _), h.1, (Bd_flat rfl _), trivial⟩

theorem pszBlockS (x : DSlLBlock) (a : Int) (hw : WfD tSlLBlock x) (h0 : 0 ≤ a) (h1 : a ≤ 1048576) : SzR (Q_l_szBlockS big x a) a (Bd tSlLBlock x) := 
  szR_list (qe := fun y a => Q_l_szBlock big y a) (r := fun n a i => R_l_szBlockS_5 n x a i) (n := big) hw.1 h0 h1 (Q_l_szBlockS_eq big x a) (fun n a i => R_l_szBlockS_5_eq n x a i) (fun y hy a h0 h1 => pszBlock y a (hw.2 y hy) h0 h1) (by decide)

theorem pszIntS (x : DSlInt) (a : Int) (hw : WfD tSlInt x) (h0 : 0 ≤ a) (h1 : a ≤ 1048576) : SzR (Q_l_szIntS big x a) a (Bd tSlInt x) := by
  rw [Q_l_szIntS_eq]
  exact (szR_len (K := some) hw.1 h0 h1 fun v _ _ _ => szR_end).imp fun h => ⟨h.1, fun y _ => Bd_flat rfl y⟩

theorem pszCell (x : DLCell) (a : Int) (hw : WfD tLCell x) (h0 : 0 ≤ a) (h1 : a ≤ 1048576) : SzR (Q_l_szCell big x a) a (Bd tLCell x) := by
  rw [Q_l_szCell_eq]
  exact (szR_len (K := some) (hw.1) h0 h1 fun v0 k0 l0 _ => szR_end).imp fun h => (Bd_flat rfl _)

theorem pszCellS (x : DSlLCell) (a : Int) (hw : WfD tSlLCell x) (h0 : 0 ≤ a) (h1 : a ≤ 1048576) : SzR (Q_l_szCellS big x a) a (Bd tSlLCell x) := 
  szR_list (qe := fun y a => Q_l_szCell big y a) (r := fun n a i => R_l_szCellS_5 n x a i) (n := big) hw.1 h0 h1 (Q_l_szCellS_eq big x a) (fun n a i => R_l_szCellS_5_eq n x a i) (fun y hy a h0 h1 => pszCell y a (hw.2 y hy) h0 h1) (by decide)

theorem pszUndo (x : DLUndo) (a : Int) (hw : WfD tLUndo x) (h0 : 0 ≤ a) (h1 : a ≤ 1048576) : SzR (Q_l_szUndo big x a) a (Bd tLUndo x) := by
  rw [Q_l_szUndo_eq]
  exact (szR_len (K := some) (hw.1) h0 h1 fun v0 k0 l0 _ => szR_end).imp fun h => (Bd_flat rfl _)

theorem pszUndoS (x : DSlLUndo) (a : Int) (hw : WfD tSlLUndo x) (h0 : 0 ≤ a) (h1 : a ≤ 1048576) : SzR (Q_l_szUndoS big x a) a (Bd tSlLUndo x) := 
  szR_list (qe := fun y a => Q_l_szUndo big y a) (r := fun n a i => R_l_szUndoS_5 n x a i) (n := big) hw.1 h0 h1 (Q_l_szUndoS_eq big x a) (fun n a i => R_l_szUndoS_5_eq n x a i) (fun y hy a h0 h1 => pszUndo y a (hw.2 y hy) h0 h1) (by decide)

theorem pszVoteS (x : DSlLVote) (a : Int) (hw : WfD tSlLVote x) (h0 : 0 ≤ a) (h1 : a ≤ 1048576) : SzR (Q_l_szVoteS big x a) a (Bd tSlLVote x) := by
  rw [Q_l_szVoteS_eq]
  exact (szR_len (K := some) hw.1 h0 h1 fun v _ _ _ => szR_end).imp fun h => ⟨h.1, fun y _ => Bd_flat rfl y⟩

theorem pszLetterS (x : DSlLLetter) (a : Int) (hw : WfD tSlLLetter x) (h0 : 0 ≤ a) (h1 : a ≤ 1048576) : SzR (Q_l_szLetterS big x a) a (Bd tSlLLetter x) := by
  rw [Q_l_szLetterS_eq]
  exact (szR_len (K := some) hw.1 h0 h1 fun v _ _ _ => szR_end).imp fun h => ⟨h.1, fun y _ => Bd_flat rfl y⟩

theorem pszPeer (x : DLPeer) (a : Int) (hw : WfD tLPeer x) (h0 : 0 ≤ a) (h1 : a ≤ 1048576) : SzR (Q_l_szPeer big x a) a (Bd tLPeer x) := by
  rw [Q_l_szPeer_eq]
  exact (szR_bind (pszIntS _ _ (hw.2.2.2.2.2.1) h0 h1) h0 h1 fun v0 k0 l0 => szR_bind (pszCellS _ _ (hw.2.2.2.2.2.2.1) k0 l0) k0 l0 fun v1 k1 l1 => szR_bind (pszIntS _ _ (hw.2.2.2.2.2.2.2.1) k1 l1) k1 l1 fun v2 k2 l2 => szR_bind (pszUndoS _ _ (hw.2.2.2.2.2.2.2.2.1) k2 l2) k2 l2 fun v3 k3 l3 => szR_bind (pszVoteS _ _ (hw.2.2.2.2.2.2.2.2.2.1) k3 l3) k3 l3 fun v4 k4 l4 => szR_bind (pszLetterS _ _ (hw.2.2.2.2.2.2.2.2.2.2.1) k4 l4) k4 l4 fun v5 k5 l5 => szR_end).imp fun h => ⟨(Bd_flat rfl _), (Bd_flat rfl _), (Bd_flat rfl _), (Bd_flat rfl _), (Bd_flat rfl _), h.1, h.2.1, h.2.2.1, h.2.2.2.1, h.2.2.2.2.1, h.2.2.2.2.2.1, (Bd_flat rfl _), trivial⟩

theorem pszPeerS (x : DSlLPeer) (a : Int) (hw : WfD tSlLPeer x) (h0 : 0 ≤ a) (h1 : a ≤ 1048576) : SzR (Q_l_szPeerS big x a) a (Bd tSlLPeer x) := 
  szR_list (qe := fun y a => Q_l_szPeer big y a) (r := fun n a i => R_l_szPeerS_5 n x a i) (n := big) hw.1 h0 h1 (Q_l_szPeerS_eq big x a) (fun n a i => R_l_szPeerS_5_eq n x a i) (fun y hy a h0 h1 => pszPeer y a (hw.2 y hy) h0 h1) (by decide)

theorem pszCluster (x : DLCluster) (a : Int) (hw : WfD tLCluster x) (h0 : 0 ≤ a) (h1 : a ≤ 1048576) : SzR (Q_l_szCluster big x a) a (Bd tLCluster x) := by
  rw [Q_l_szCluster_eq]
  exact (szR_bind (pszBlockS _ _ (hw.2.2.2.1) h0 h1) h0 h1 fun v0 k0 l0 => szR_bind (pszPeerS _ _ (hw.2.2.2.2.1) k0 l0) k0 l0 fun v1 k1 l1 => szR_bind (pszLetterS _ _ (hw.2.2.2.2.2.1) k1 l1) k1 l1 fun v2 k2 l2 => szR_bind (pszVoteS _ _ (hw.2.2.2.2.2.2.1) k2 l2) k2 l2 fun v3 k3 l3 => szR_bind (pszCmdS _ _ (hw.2.2.2.2.2.2.2.1) k3 l3) k3 l3 fun v4 k4 l4 => szR_end).imp fun h => ⟨(Bd_flat rfl _), (Bd_flat rfl _), (Bd_flat rfl _), h.1, h.2.1, h.2.2.1, h.2.2.2.1, h.2.2.2.2.1, trivial⟩

theorem ptoCmd (x : DLCmd) (h : Bd tLCmd x) : Q_l_toCmd big x = some x := by
  rw [Q_l_toCmd_eq]

theorem ptoCmdS (x : DSlLCmd) (h : Bd tSlLCmd x) : Q_l_toCmdS big x = some x := by
  have := copy_ok (g := fun y => some y) (f := fun y => y) (r := fun n i b => R_l_toCmdS_3 n x i b) (n := big) (Q_l_toCmdS_eq big x) (fun n i b => R_l_toCmdS_3_eq n x i b) (fun _ _ => rfl) (Nat.le_trans h.1 (by decide)) (by decide)
  simpa using this

theorem ptoQc (x : DLQc) (h : Bd tLQc x) : Q_l_toQc big x = some x := by
  rw [Q_l_toQc_eq]

theorem ptoBlock (x : DLBlock) (h : Bd tLBlock x) : Q_l_toBlock big x = some x := by
  rw [Q_l_toBlock_eq, ptoCmdS _ (h.2.2.1)]
  rfl

theorem ptoBlockS (x : DSlLBlock) (h : Bd tSlLBlock x) : Q_l_toBlockS big x = some x := by
  have := copy_ok (g := fun y => Q_l_toBlock big y) (f := fun y => y) (r := fun n i b => R_l_toBlockS_3 n x i b) (n := big) (Q_l_toBlockS_eq big x) (fun n i b => R_l_toBlockS_3_eq n x i b) (fun y hy => ptoBlock y (h.2 y hy)) (Nat.le_trans h.1 (by decide)) (by decide)
  simpa using this

theorem ptoVote (x : DLVote) (h : Bd tLVote x) : Q_l_toVote big x = some x := by
  rw [Q_l_toVote_eq]

theorem ptoIntS (x : DSlInt) (h : Bd tSlInt x) : Q_l_toIntS big x = some x := by
  have := copy_ok (g := fun y => some y) (f := fun y => y) (r := fun n i b => R_l_toIntS_3 n x i b) (n := big) (Q_l_toIntS_eq big x) (fun n i b => R_l_toIntS_3_eq n x i b) (fun _ _ => rfl) (Nat.le_trans h.1 (by decide)) (by decide)
  simpa using this

theorem ptoCell (x : DLCell) (h : Bd tLCell x) : Q_l_toCell big x = some x := by
  rw [Q_l_toCell_eq]

theorem ptoCellS (x : DSlLCell) (h : Bd tSlLCell x) : Q_l_toCellS big x = some x := by
  have := copy_ok (g := fun y => some y) (f := fun y => y) (r := fun n i b => R_l_toCellS_3 n x i b) (n := big) (Q_l_toCellS_eq big x) (fun n i b => R_l_toCellS_3_eq n x i b) (fun _ _ => rfl) (Nat.le_trans h.1 (by decide)) (by decide)
  simpa using this

theorem ptoUndo (x : DLUndo) (h : Bd tLUndo x) : Q_l_toUndo big x = some x := by
  rw [Q_l_toUndo_eq]

theorem ptoUndoS (x : DSlLUndo) (h : Bd tSlLUndo x) : Q_l_toUndoS big x = some x := by
  have := copy_ok (g := fun y => some y) (f := fun y => y) (r := fun n i b => R_l_toUndoS_3 n x i b) (n := big) (Q_l_toUndoS_eq big x) (fun n i b => R_l_toUndoS_3_eq n x i b) (fun _ _ => rfl) (Nat.le_trans h.1 (by decide)) (by decide)
  simpa using this

theorem ptoVoteS (x : DSlLVote) (h : Bd tSlLVote x) : Q_l_toVoteS big x = some x := by
  have := copy_ok (g := fun y => some y) (f := fun y => y) (r := fun n i b => R_l_toVoteS_3 n x i b) (n := big) (Q_l_toVoteS_eq big x) (fun n i b => R_l_toVoteS_3_eq n x i b) (fun _ _ => rfl) (Nat.le_trans h.1 (by decide)) (by decide)
  simpa using this

theorem ptoLetter (x : DLLetter) (h : Bd tLLetter x) : Q_l_toLetter big x = some x := by
  rw [Q_l_toLetter_eq]

theorem ptoLetterS (x : DSlLLetter) (h : Bd tSlLLetter x) : Q_l_toLetterS big x = some x := by
  have := copy_ok (g := fun y => some y) (f := fun y => y) (r := fun n i b => R_l_toLetterS_3 n x i b) (n := big) (Q_l_toLetterS_eq big x) (fun n i b => R_l_toLetterS_3_eq n x i b) (fun _ _ => rfl) (Nat.le_trans h.1 (by decide)) (by decide)
  simpa using this

theorem ptoPeer (x : DLPeer) (h : Bd tLPeer x) : Q_l_toPeer big x = some x := by
  rw [Q_l_toPeer_eq, ptoIntS _ (h.2.2.2.2.2.1), ptoCellS _ (h.2.2.2.2.2.2.1), ptoIntS _ (h.2.2.2.2.2.2.2.1), ptoUndoS _ (h.2.2.2.2.2.2.2.2.1), ptoVoteS _ (h.2.2.2.2.2.2.2.2.2.1), ptoLetterS _ (h.2.2.2.2.2.2.2.2.2.2.1)]
  rfl

theorem ptoPeerS (x : DSlLPeer) (h : Bd tSlLPeer x) : Q_l_toPeerS big x = some x := by
  have := copy_ok (g := fun y => Q_l_toPeer big y) (f := fun y => y) (r := fun n i b => R_l_toPeerS_3 n x i b) (n := big) (Q_l_toPeerS_eq big x) (fun n i b => R_l_toPeerS_3_eq n x i b) (fun y hy => ptoPeer y (h.2 y hy)) (Nat.le_trans h.1 (by decide)) (by decide)
  simpa using this

theorem ptoCluster (x : DLCluster) (h : Bd tLCluster x) : Q_l_toCluster big x = some x := by
  rw [Q_l_toCluster_eq, ptoBlockS _ (h.2.2.2.1), ptoPeerS _ (h.2.2.2.2.1), ptoLetterS _ (h.2.2.2.2.2.1), ptoVoteS _ (h.2.2.2.2.2.2.1), ptoCmdS _ (h.2.2.2.2.2.2.2.1)]
  rfl

theorem peqCmd (x : DICmd) (h : Bg tICmd x) : Q_l_eqCmd big x x = some true := by
  rw [Q_l_eqCmd_eq]
  simp only [decide_true, Bool.not_true, cond_false]

theorem peqCmdS (x : DSlICmd) (h : Bg tSlICmd x) : Q_l_eqCmdS big x x = some true := 
  eq_ok (e := fun y y1 => Q_l_eqCmd big y y1) (r := fun n i => R_l_eqCmdS_4 n x x i) (n := big) (Q_l_eqCmdS_eq big x x) (fun n i => R_l_eqCmdS_4_eq n x x i) (fun y hy => peqCmd y (h.2 y hy)) h.1 (by decide)

theorem peqQc (x : DIQc) (h : Bg tIQc x) : Q_l_eqQc big x x = some true := by
  rw [Q_l_eqQc_eq]
  simp only [decide_true, Bool.not_true, cond_false]

theorem peqBlock (x : DIBlock) (h : Bg tIBlock x) : Q_l_eqBlock big x x = some true := by
  rw [Q_l_eqBlock_eq]
  simp only [decide_true, Bool.not_true, cond_false, Option.bind_some, peqCmdS _ (h.2.2.1), peqQc _ (h.2.2.2.1)]

theorem peqBlockS (x : DSlIBlock) (h : Bg tSlIBlock x) : Q_l_eqBlockS big x x = some true := 
  eq_ok (e := fun y y1 => Q_l_eqBlock big y y1) (r := fun n i => R_l_eqBlockS_4 n x x i) (n := big) (Q_l_eqBlockS_eq big x x) (fun n i => R_l_eqBlockS_4_eq n x x i) (fun y hy => peqBlock y (h.2 y hy)) h.1 (by decide)

theorem peqVote (x : DIVote) (h : Bg tIVote x) : Q_l_eqVote big x x = some true := by
  rw [Q_l_eqVote_eq]
  simp only [decide_true, Bool.not_true, cond_false]

theorem peqIntS (x : DSlInt) (h : Bg tSlInt x) : Q_l_eqIntS big x x = some true := 
  eq_ok (e := fun y y1 => some (decide (y = y1))) (r := fun n i => R_l_eqIntS_4 n x x i) (n := big) (Q_l_eqIntS_eq big x x) (fun n i => R_l_eqIntS_4_eq n x x i) (fun y _ => by simp) h.1 (by decide)

theorem peqCell (x : DICell) (h : Bg tICell x) : Q_l_eqCell big x x = some true := by
  rw [Q_l_eqCell_eq]
  simp only [decide_true, Bool.not_true, cond_false]

theorem peqCellS (x : DSlICell) (h : Bg tSlICell x) : Q_l_eqCellS big x x = some true := 
  eq_ok (e := fun y y1 => Q_l_eqCell big y y1) (r := fun n i => R_l_eqCellS_4 n x x i) (n := big) (Q_l_eqCellS_eq big x x) (fun n i => R_l_eqCellS_4_eq n x x i) (fun y hy => peqCell y (h.2 y hy)) h.1 (by decide)

theorem peqUndo (x : DIUndo) (h : Bg tIUndo x) : Q_l_eqUndo big x x = some true := by
  rw [Q_l_eqUndo_eq]
  simp only [decide_true, beq_self_eq_true, Bool.not_true, cond_false]

theorem peqUndoS (x : DSlIUndo) (h : Bg tSlIUndo x) : Q_l_eqUndoS big x x = some true := 
  eq_ok (e := fun y y1 => Q_l_eqUndo big y y1) (r := fun n i => R_l_eqUndoS_4 n x x i) (n := big) (Q_l_eqUndoS_eq big x x) (fun n i => R_l_eqUndoS_4_eq n x x i) (fun y hy => peqUndo y (h.2 y hy)) h.1 (by decide)

theorem peqVoteS (x : DSlIVote) (h : Bg tSlIVote x) : Q_l_eqVoteS big x x = some true := 
  eq_ok (e := fun y y1 => Q_l_eqVote big y y1) (r := fun n i => R_l_eqVoteS_4 n x x i) (n := big) (Q_l_eqVoteS_eq big x x) (fun n i => R_l_eqVoteS_4_eq n x x i) (fun y hy => peqVote y (h.2 y hy)) h.1 (by decide)

theorem peqLetter (x : DILetter) (h : Bg tILetter x) : Q_l_eqLetter big x x = some true := by
  rw [Q_l_eqLetter_eq]
  simp only [decide_true, Bool.not_true, cond_false, Option.bind_some, peqQc _ (h.2.2.2.2.2.1), peqVote _ (h.2.2.2.2.2.2.1)]

theorem peqLetterS (x : DSlILetter) (h : Bg tSlILetter x) : Q_l_eqLetterS big x x = some true := 
  eq_ok (e := fun y y1 => Q_l_eqLetter big y y1) (r := fun n i => R_l_eqLetterS_4 n x x i) (n := big) (Q_l_eqLetterS_eq big x x) (fun n i => R_l_eqLetterS_4_eq n x x i) (fun y hy => peqLetter y (h.2 y hy)) h.1 (by decide)

theorem peqPeer (x : DIPeer) (h : Bg tIPeer x) : Q_l_eqPeer big x x = some true := by
  rw [Q_l_eqPeer_eq]
  simp only [decide_true, Bool.not_true, cond_false, Option.bind_some, peqQc _ (h.2.2.1), peqQc _ (h.2.2.2.1), peqVote _ (h.2.2.2.2.1), peqIntS _ (h.2.2.2.2.2.1), peqCellS _ (h.2.2.2.2.2.2.1), peqIntS _ (h.2.2.2.2.2.2.2.1), peqUndoS _ (h.2.2.2.2.2.2.2.2.1), peqVoteS _ (h.2.2.2.2.2.2.2.2.2.1), peqLetterS _ (h.2.2.2.2.2.2.2.2.2.2.1)]

theorem peqPeerS (x : DSlIPeer) (h : Bg tSlIPeer x) : Q_l_eqPeerS big x x = some true := 
  eq_ok (e := fun y y1 => Q_l_eqPeer big y y1) (r := fun n i => R_l_eqPeerS_4 n x x i) (n := big) (Q_l_eqPeerS_eq big x x) (fun n i => R_l_eqPeerS_4_eq n x x i) (fun y hy => peqPeer y (h.2 y hy)) h.1 (by decide)

theorem peqCluster (x : DICluster) (h : Bg tICluster x) : Q_l_eqCluster big x x = some true := by
  rw [Q_l_eqCluster_eq]
  simp only [decide_true, beq_self_eq_true, Bool.not_true, cond_false, Option.bind_some, peqBlockS _ (h.2.2.2.1), peqPeerS _ (h.2.2.2.2.1), peqLetterS _ (h.2.2.2.2.2.1), peqVoteS _ (h.2.2.2.2.2.2.1), peqCmdS _ (h.2.2.2.2.2.2.2.1)]

end Go.Sx.Try

set_option maxRecDepth 100000
namespace Go.Sx.Try
open Go Go.Sx Go.Proofs

theorem clone_ok {α : Type} (xs : List α) (h : xs.length ≤ 16777216) : (nilC xs fun b => bif b then some [] else if (0 : Nat) + List.length xs ≤ lim then some xs else none) = some xs := by
  cases xs with
  | nil => exact both_self _
  | cons x l =>
    simp only [nilC, cond_false]
    rw [if_pos (by unfold lim; omega)]
theorem pClone_Int (x : DSlInt) (h : x.length ≤ 16777216) : Q_g_Clone_Int big x = some x := by rw [Q_g_Clone_Int_eq]; exact clone_ok x h
theorem pClone_ICell (x : DSlICell) (h : x.length ≤ 16777216) : Q_g_Clone_ICell big x = some x := by rw [Q_g_Clone_ICell_eq]; exact clone_ok x h
theorem pClone_IUndo (x : DSlIUndo) (h : x.length ≤ 16777216) : Q_g_Clone_IUndo big x = some x := by rw [Q_g_Clone_IUndo_eq]; exact clone_ok x h
theorem pClone_IVote (x : DSlIVote) (h : x.length ≤ 16777216) : Q_g_Clone_IVote big x = some x := by rw [Q_g_Clone_IVote_eq]; exact clone_ok x h
theorem pClone_ILetter (x : DSlILetter) (h : x.length ≤ 16777216) : Q_g_Clone_ILetter big x = some x := by rw [Q_g_Clone_ILetter_eq]; exact clone_ok x h

/-- a peer whose lists are rather short -/
structure PeerB (x : DIPeer) : Prop where
  row : List.length x.2.2.2.2.2.1 ≤ 16777216
  cells : List.length x.2.2.2.2.2.2.1 ≤ 16777216
  early : List.length x.2.2.2.2.2.2.2.1 ≤ 16777216
  undos : List.length x.2.2.2.2.2.2.2.2.1 ≤ 16777216
  votes : List.length x.2.2.2.2.2.2.2.2.2.1 ≤ 16777216
  news : List.length x.2.2.2.2.2.2.2.2.2.2.1 ≤ 16777216
theorem PeerB.of {x : DIPeer} (h : Bg tIPeer x) : PeerB x :=
  ⟨h.2.2.2.2.2.1.1, h.2.2.2.2.2.2.1.1, h.2.2.2.2.2.2.2.1.1, h.2.2.2.2.2.2.2.2.1.1, h.2.2.2.2.2.2.2.2.2.1.1, h.2.2.2.2.2.2.2.2.2.2.1.1⟩
theorem PeerB.bg {x : DIPeer} (h : PeerB x) : Bg tIPeer x :=
  ⟨trivial, trivial, Bg_flat rfl _, Bg_flat rfl _, Bg_flat rfl _, ⟨h.row, fun _ _ => trivial⟩, ⟨h.cells, fun _ _ => Bg_flat rfl _⟩, ⟨h.early, fun _ _ => trivial⟩, ⟨h.undos, fun _ _ => Bg_flat rfl _⟩,
    ⟨h.votes, fun _ _ => Bg_flat rfl _⟩, ⟨h.news, fun _ _ => Bg_flat rfl _⟩, trivial, trivial⟩

theorem p_clonePeer (x : DIPeer) (h : PeerB x) : Q_i_clonePeer big x = some x := by
  rw [Q_i_clonePeer_eq]
  simp only [pClone_Int _ h.row, pClone_ICell _ h.cells, pClone_Int _ h.early, pClone_IUndo _ h.undos, pClone_IVote _ h.votes, pClone_ILetter _ h.news, Option.bind_some]
theorem p_l09Copy (x : DIPeer) (h : PeerB x) : Q_s_l09Copy big x = some x := by
  rw [Q_s_l09Copy_eq]
  have := h.row; have := h.cells; have := h.early; have := h.undos; have := h.votes; have := h.news
  unfold lim
  repeat rw [if_pos (by omega)]

end Go.Sx.Try

set_option maxRecDepth 100000
namespace Go.Sx.Try
open Go Go.Sx Go.Proofs

theorem text_ex : ∀ (n : Nat) (f : Nat) (k : Int) (s : ByteArray), n < f → 0 ≤ k → k ≤ 4611686018427387904 → k < 2 ^ n → s.size + n ≤ 100 → ∃ t, R_l_markText_4 f k s = some t
  | n, 0, k, s, h, _, _, _, _ => by omega
  | n, f + 1, k, s, h1, h2, h2', h3, h4 => by
    rw [R_l_markText_4_eq]
    by_cases hk : (0 : Int) < k
    · rw [decide_eq_true hk]
      simp only [cond_true]
      cases n with
      | zero => simp at h3; omega
      | succ n =>
        have hsz : ∀ x : Int, (ByteArray.mk (List.map (fun n => UInt8.ofNat (Int.toNat n)) [x]).toArray).size = 1 := fun _ => rfl
        rw [if_pos (by rw [hsz]; simp only [lim]; omega)]
        have h5 : Int.tdiv k 10 = k / 10 := by rw [Int.tdiv_eq_ediv_of_nonneg h2]
        rw [h5, wrap64 (n := k / 10) (by omega) (by omega)]
        exact text_ex n f (k / 10) _ (by omega) (by omega) (by omega) (by
          have : (2 : Int) ^ (n + 1) = 2 * 2 ^ n := by rw [Int.pow_succ]; omega
          omega) (by rw [ByteArray.size_append, hsz]; omega)
    · rw [decide_eq_false hk]
      simp only [cond_false]
      have hsz : (ByteArray.mk #[(109 : UInt8)]).size = 1 := rfl
      rw [if_pos (by rw [hsz]; simp only [lim]; omega)]
      exact ⟨_, rfl⟩
/-- the text of a mark -/
noncomputable def mt (k : Int) : ByteArray := (Q_l_markText big k).getD ByteArray.empty
theorem pmt {k : Int} (h1 : 0 < k) (h2 : k ≤ 4611686018427387904) : Q_l_markText big k = some (mt k) := by
  have : ∃ t, Q_l_markText big k = some t := by
    rw [Q_l_markText_eq, decide_eq_false (show ¬ k ≤ 0 by omega)]
    simp only [cond_false]
    exact text_ex 63 big k _ (by decide) (by omega) (by omega) (by omega) (by decide)
  obtain ⟨t, ht⟩ := this
  unfold mt
  rw [ht]; rfl

theorem mh_IntS {xs : List Int} (hl : xs.length ≤ 16777216) {k : Int} (hk : 0 < k) (hM : k + 16777216 * 1 ≤ 4611686018427387904) :
    ∃ (k' : Int) (b' : List Int), Q_l_markIntS big xs k = some (k', b', ()) ∧ Q_l_heldIntS big b' k = some k' ∧ k ≤ k' ∧ k' ≤ k + 16777216 * 1 := by
  simp only [Q_l_markIntS_eq, Q_l_heldIntS_eq]
  refine mh_list (xs := xs) (W := 1) (B := fun _ => True) (r := fun n k i b => R_l_markIntS_2 n k i b) (s := fun n b k i => R_l_heldIntS_2 n b k i) (n := big) (by decide) (fun k i b hi _ h1 h2 h3 => ?_) (fun n k b => ?_) (fun n k b => ?_) (by decide) hl (fun _ _ => trivial) hk (by omega)
  · have h4 : (i : Int) < (b.length : Int) := by omega
    refine ⟨(k : Int), k + 1, by omega, by omega, fun n => ?_, fun m b' hb' => ?_⟩
    · rw [R_l_markIntS_2_eq, decide_eq_true h4]
      simp only [cond_true, mk1 hi, mk2 hi]
      simp (disch := omega) only [wrap64, pmt, Option.bind_some, mk1 hi, mk2 hi]
    · have h5 : (i : Int) < (b'.length : Int) := by have := nth_lt hb'; omega
      simp (disch := omega) only [R_l_heldIntS_2_eq, h5, decide_true, cond_true, Int.natCast_nonneg, if_true, Int.toNat_natCast, hb', Option.bind_some, wrap64, Bool.not_true, cond_false, pmt, beq_self_eq_true]
  · simp only [R_l_markIntS_2_eq, Int.lt_irrefl, decide_false, cond_false]
  · simp only [R_l_heldIntS_2_eq, Int.lt_irrefl, decide_false, cond_false]
theorem mh_CellS {xs : List DICell} (hl : xs.length ≤ 16777216) {k : Int} (hk : 0 < k) (hM : k + 16777216 * 2 ≤ 4611686018427387904) :
    ∃ (k' : Int) (b' : List DICell), Q_l_markCellS big xs k = some (k', b', ()) ∧ Q_l_heldCellS big b' k = some k' ∧ k ≤ k' ∧ k' ≤ k + 16777216 * 2 := by
  simp only [Q_l_markCellS_eq, Q_l_heldCellS_eq]
  refine mh_list (xs := xs) (W := 2) (B := fun _ => True) (r := fun n k i b => R_l_markCellS_2 n k i b) (s := fun n b k i => R_l_heldCellS_2 n b k i) (n := big) (by decide) (fun k i b hi _ h1 h2 h3 => ?_) (fun n k b => ?_) (fun n k b => ?_) (by decide) hl (fun _ _ => trivial) hk (by omega)
  · have h4 : (i : Int) < (b.length : Int) := by omega
    refine ⟨((mt k, k + 1, ()) : DICell), k + 1 + 1, by omega, by omega, fun n => ?_, fun m b' hb' => ?_⟩
    · rw [R_l_markCellS_2_eq, decide_eq_true h4]
      simp only [cond_true, mk1 hi, mk2 hi]
      simp (disch := omega) only [wrap64, pmt, Option.bind_some, mk1 hi, mk2 hi]
    · have h5 : (i : Int) < (b'.length : Int) := by have := nth_lt hb'; omega
      simp (disch := omega) only [R_l_heldCellS_2_eq, h5, decide_true, cond_true, Int.natCast_nonneg, if_true, Int.toNat_natCast, hb', Option.bind_some, wrap64, Bool.not_true, cond_false, pmt, beq_self_eq_true]
  · simp only [R_l_markCellS_2_eq, Int.lt_irrefl, decide_false, cond_false]
  · simp only [R_l_heldCellS_2_eq, Int.lt_irrefl, decide_false, cond_false]
theorem mh_UndoS {xs : List DIUndo} (hl : xs.length ≤ 16777216) {k : Int} (hk : 0 < k) (hM : k + 16777216 * 3 ≤ 4611686018427387904) :
    ∃ (k' : Int) (b' : List DIUndo), Q_l_markUndoS big xs k = some (k', b', ()) ∧ Q_l_heldUndoS big b' k = some k' ∧ k ≤ k' ∧ k' ≤ k + 16777216 * 3 := by
  simp only [Q_l_markUndoS_eq, Q_l_heldUndoS_eq]
  refine mh_list (xs := xs) (W := 3) (B := fun _ => True) (r := fun n k i b => R_l_markUndoS_2 n k i b) (s := fun n b k i => R_l_heldUndoS_2 n b k i) (n := big) (by decide) (fun k i b hi _ h1 h2 h3 => ?_) (fun n k b => ?_) (fun n k b => ?_) (by decide) hl (fun _ _ => trivial) hk (by omega)
  · have h4 : (i : Int) < (b.length : Int) := by omega
    refine ⟨((mt k, decide ((k + 1).tmod 3 = 0), k + 1 + 1, ()) : DIUndo), k + 1 + 1 + 1, by omega, by omega, fun n => ?_, fun m b' hb' => ?_⟩
    · rw [R_l_markUndoS_2_eq, decide_eq_true h4]
      simp only [cond_true, mk1 hi, mk2 hi]
      simp (disch := omega) only [wrap64, pmt, Option.bind_some, mk1 hi, mk2 hi]
    · have h5 : (i : Int) < (b'.length : Int) := by have := nth_lt hb'; omega
      simp (disch := omega) only [R_l_heldUndoS_2_eq, h5, decide_true, cond_true, Int.natCast_nonneg, if_true, Int.toNat_natCast, hb', Option.bind_some, wrap64, Bool.not_true, cond_false, pmt, beq_self_eq_true]
  · simp only [R_l_markUndoS_2_eq, Int.lt_irrefl, decide_false, cond_false]
  · simp only [R_l_heldUndoS_2_eq, Int.lt_irrefl, decide_false, cond_false]
theorem mh_VoteS {xs : List DIVote} (hl : xs.length ≤ 16777216) {k : Int} (hk : 0 < k) (hM : k + 16777216 * 4 ≤ 4611686018427387904) :
    ∃ (k' : Int) (b' : List DIVote), Q_l_markVoteS big xs k = some (k', b', ()) ∧ Q_l_heldVoteS big b' k = some k' ∧ k ≤ k' ∧ k' ≤ k + 16777216 * 4 := by
  simp only [Q_l_markVoteS_eq, Q_l_heldVoteS_eq]
  refine mh_list (xs := xs) (W := 4) (B := fun _ => True) (r := fun n k i b => R_l_markVoteS_2 n k i b) (s := fun n b k i => R_l_heldVoteS_2 n b k i) (n := big) (by decide) (fun k i b hi _ h1 h2 h3 => ?_) (fun n k b => ?_) (fun n k b => ?_) (by decide) hl (fun _ _ => trivial) hk (by omega)
  · have h4 : (i : Int) < (b.length : Int) := by omega
    refine ⟨((k, k + 1, k + 1 + 1, k + 1 + 1 + 1, ()) : DIVote), k + 1 + 1 + 1 + 1, by omega, by omega, fun n => ?_, fun m b' hb' => ?_⟩
    · rw [R_l_markVoteS_2_eq, decide_eq_true h4]
      simp only [cond_true, mk1 hi, mk2 hi]
      simp (disch := omega) only [wrap64, pmt, Option.bind_some, mk1 hi, mk2 hi]
    · have h5 : (i : Int) < (b'.length : Int) := by have := nth_lt hb'; omega
      simp (disch := omega) only [R_l_heldVoteS_2_eq, h5, decide_true, cond_true, Int.natCast_nonneg, if_true, Int.toNat_natCast, hb', Option.bind_some, wrap64, Bool.not_true, cond_false, pmt, beq_self_eq_true]
  · simp only [R_l_markVoteS_2_eq, Int.lt_irrefl, decide_false, cond_false]
  · simp only [R_l_heldVoteS_2_eq, Int.lt_irrefl, decide_false, cond_false]
theorem mh_LetterS {xs : List DILetter} (hl : xs.length ≤ 16777216) {k : Int} (hk : 0 < k) (hM : k + 16777216 * 13 ≤ 4611686018427387904) :
    ∃ (k' : Int) (b' : List DILetter), Q_l_markLetterS big xs k = some (k', b', ()) ∧ Q_l_heldLetterS big b' k = some k' ∧ k ≤ k' ∧ k' ≤ k + 16777216 * 13 := by
  simp only [Q_l_markLetterS_eq, Q_l_heldLetterS_eq]
  refine mh_list (xs := xs) (W := 13) (B := fun _ => True) (r := fun n k i b => R_l_markLetterS_2 n k i b) (s := fun n b k i => R_l_heldLetterS_2 n b k i) (n := big) (by decide) (fun k i b hi _ h1 h2 h3 => ?_) (fun n k b => ?_) (fun n k b => ?_) (by decide) hl (fun _ _ => trivial) hk (by omega)
  · have h4 : (i : Int) < (b.length : Int) := by omega
    refine ⟨((k, k + 1, k + 1 + 1, k + 1 + 1 + 1, k + 1 + 1 + 1 + 1, (k + 1 + 1 + 1 + 1 + 1, k + 1 + 1 + 1 + 1 + 1 + 1, k + 1 + 1 + 1 + 1 + 1 + 1 + 1, k + 1 + 1 + 1 + 1 + 1 + 1 + 1 + 1, ()), (k + 1 + 1 + 1 + 1 + 1 + 1 + 1 + 1 + 1, k + 1 + 1 + 1 + 1 + 1 + 1 + 1 + 1 + 1 + 1, k + 1 + 1 + 1 + 1 + 1 + 1 + 1 + 1 + 1 + 1 + 1, k + 1 + 1 + 1 + 1 + 1 + 1 + 1 + 1 + 1 + 1 + 1 + 1, ()), ()) : DILetter), k + 1 + 1 + 1 + 1 + 1 + 1 + 1 + 1 + 1 + 1 + 1 + 1 + 1, by omega, by omega, fun n => ?_, fun m b' hb' => ?_⟩
    · rw [R_l_markLetterS_2_eq, decide_eq_true h4]
      simp only [cond_true, mk1 hi, mk2 hi]
      simp (disch := omega) only [wrap64, pmt, Option.bind_some, mk1 hi, mk2 hi]
    · have h5 : (i : Int) < (b'.length : Int) := by have := nth_lt hb'; omega
      simp (disch := omega) only [R_l_heldLetterS_2_eq, h5, decide_true, cond_true, Int.natCast_nonneg, if_true, Int.toNat_natCast, hb', Option.bind_some, wrap64, Bool.not_true, cond_false, pmt, beq_self_eq_true]
  · simp only [R_l_markLetterS_2_eq, Int.lt_irrefl, decide_false, cond_false]
  · simp only [R_l_heldLetterS_2_eq, Int.lt_irrefl, decide_false, cond_false]

end Go.Sx.Try

set_option maxRecDepth 100000
namespace Go.Sx.Try
open Go Go.Sx Go.Proofs

theorem not_neg {k : Int} (h : 0 < k) : decide (k < 0) = false := decide_eq_false (by omega)

/-- what of a peer is its lists, put back -/
abbrev peerWith (x : DIPeer) (a : List Int) (b : List DICell) (c : List Int) (d : List DIUndo) (e : List DIVote) (f : List DILetter) : DIPeer :=
  (x.1, x.2.1, x.2.2.1, x.2.2.2.1, x.2.2.2.2.1, a, b, c, d, e, f, x.2.2.2.2.2.2.2.2.2.2.2)

theorem mh_Peer {x : DIPeer} (h : PeerB x) {k : Int} (hk : 0 < k) (hM : k + 16777216 * 24 ≤ 4611686018427387904) :
    ∃ (k' : Int), ∃ y, Q_l_markPeer big x k = some (k', y, ()) ∧ k ≤ k' ∧ k' ≤ k + 16777216 * 24 ∧
      Q_l_heldPeer big (x.1, x.2.1, x.2.2.1, x.2.2.2.1, x.2.2.2.2.1, y.2.2.2.2.2.1, y.2.2.2.2.2.2.1, y.2.2.2.2.2.2.2.1, y.2.2.2.2.2.2.2.2.1, y.2.2.2.2.2.2.2.2.2.1, y.2.2.2.2.2.2.2.2.2.2.1, x.2.2.2.2.2.2.2.2.2.2.2) k = some k' := by
  obtain ⟨k1, b1, m1, h1, l1, u1⟩ := mh_IntS h.row hk (by omega)
  obtain ⟨k2, b2, m2, h2, l2, u2⟩ := mh_CellS h.cells (k := k1) (by omega) (by omega)
  obtain ⟨k3, b3, m3, h3, l3, u3⟩ := mh_IntS h.early (k := k2) (by omega) (by omega)
  obtain ⟨k4, b4, m4, h4, l4, u4⟩ := mh_UndoS h.undos (k := k3) (by omega) (by omega)
  obtain ⟨k5, b5, m5, h5, l5, u5⟩ := mh_VoteS h.votes (k := k4) (by omega) (by omega)
  obtain ⟨k6, b6, m6, h6, l6, u6⟩ := mh_LetterS h.news (k := k5) (by omega) (by omega)
  refine ⟨k6, ((), (), ((), (), (), (), ()), ((), (), (), (), ()), ((), (), (), (), ()), b1, b2, b3, b4, b5, b6, (), ()), ?_, by omega, by omega, ?_⟩
  · rw [Q_l_markPeer_eq]
    simp only [m1, m2, m3, m4, m5, m6, Option.bind_some]
  · rw [Q_l_heldPeer_eq]
    simp (disch := omega) only [h1, h2, h3, h4, h5, h6, Option.bind_some, not_neg, cond_false]

end Go.Sx.Try

set_option maxRecDepth 100000
namespace Go.Sx.Try
open Go Go.Sx Go.Proofs
theorem mk5 {α β : Type} {b : List α} {i : Nat} (h : i < b.length) (x z : α) (K : List α → Option β) :
    (updO (upd b i x) (Int.toNat (i : Int)) z).bind K = K (upd b i z) := by
  rw [Int.toNat_natCast, updO_upd h]
  rfl
theorem ck {α β : Type} {a b : α} [Decidable (a = b)] (h : a = b) (x y : β) : (bif !decide (a = b) then x else y) = y := by
  rw [decide_eq_true h]; rfl

theorem mh_CmdS {xs : List DICmd} (hl : xs.length ≤ 16777216) {k : Int} (hk : 0 < k) (hM : k + 16777216 * 3 ≤ 4611686018427387904) :
    ∃ (k' : Int) (b' : List DICmd), Q_l_markCmdS big xs k = some (k', b', ()) ∧ Q_l_heldCmdS big b' k = some k' ∧ k ≤ k' ∧ k' ≤ k + 16777216 * 3 := by
  simp only [Q_l_markCmdS_eq, Q_l_heldCmdS_eq]
  refine mh_list (xs := xs) (W := 3) (B := fun _ => True) (r := fun n k i b => R_l_markCmdS_2 n k i b) (s := fun n b k i => R_l_heldCmdS_2 n b k i) (n := big) (by decide) (fun k i b hi _ h1 h2 h3 => ?_) (fun n k b => ?_) (fun n k b => ?_) (by decide) hl (fun _ _ => trivial) hk (by omega)
  · have h4 : (i : Int) < (b.length : Int) := by omega
    refine ⟨((k, mt (k + 1), k + 1 + 1, ()) : DICmd), k + 1 + 1 + 1, by omega, by omega, fun n => ?_, fun m b' hb' => ?_⟩
    · rw [R_l_markCmdS_2_eq, decide_eq_true h4]
      simp only [cond_true, mk1 hi, mk2 hi]
      simp (disch := omega) only [wrap64, pmt, Option.bind_some, mk1 hi, mk2 hi]
    · have h5 : (i : Int) < (b'.length : Int) := by have := nth_lt hb'; omega
      simp (disch := omega) only [R_l_heldCmdS_2_eq, h5, decide_true, cond_true, Int.natCast_nonneg, if_true, Int.toNat_natCast, hb', Option.bind_some, wrap64, Bool.not_true, cond_false, pmt, beq_self_eq_true]
  · simp only [R_l_markCmdS_2_eq, Int.lt_irrefl, decide_false, cond_false]
  · simp only [R_l_heldCmdS_2_eq, Int.lt_irrefl, decide_false, cond_false]

theorem mh_BlockS {xs : List DIBlock} (hl : xs.length ≤ 16777216) (hB : ∀ x ∈ xs, (fun x => List.length x.2.2.1 ≤ 16777216 : DIBlock → Prop) x) {k : Int} (hk : 0 < k) (hM : k + 16777216 * 50331654 ≤ 4611686018427387904) :
    ∃ (k' : Int) (b' : List DIBlock), Q_l_markBlockS big xs k = some (k', b', ()) ∧ Q_l_heldBlockS big b' k = some k' ∧ k ≤ k' ∧ k' ≤ k + 16777216 * 50331654 := by
  simp only [Q_l_markBlockS_eq, Q_l_heldBlockS_eq]
  refine mh_list (xs := xs) (W := 50331654) (B := fun x => List.length x.2.2.1 ≤ 16777216) (r := fun n k i b => R_l_markBlockS_2 n k i b) (s := fun n b k i => R_l_heldBlockS_2 n b k i) (n := big) (by decide) (fun k i b hi hx h1 h2 h3 => ?_) (fun n k b => ?_) (fun n k b => ?_) (by decide) hl hB hk (by omega)
  · have h4 : (i : Int) < (b.length : Int) := by omega
    obtain ⟨k1, b1, m1, g1, l1, u1⟩ := mh_CmdS hx (k := k + 1 + 1) (by omega) (by omega)
    refine ⟨((k, k + 1, b1, (k1, k1 + 1, k1 + 1 + 1, k1 + 1 + 1 + 1, ()), ()) : DIBlock), k1 + 1 + 1 + 1 + 1, by omega, by omega, fun n => ?_, fun m b' hb' => ?_⟩
    · rw [R_l_markBlockS_2_eq, decide_eq_true h4, cond_true]
      rw [mk1 hi]
      rw [mk2 hi]
      dsimp only
      rw [wrap64 (n := k + 1) (by omega) (by omega), wrap64 (n := k + 1 + 1) (by omega) (by omega)]
      rw [mk3 hi, show Q_l_markCmdS big _ (k + 1 + 1) = _ from m1, Option.bind_some, mk5 hi]
      dsimp only
      rw [mk2 hi]
      dsimp only
      rw [mk2 hi]
      dsimp only
      rw [mk2 hi]
      dsimp only
      rw [mk2 hi]
      dsimp only
      rw [wrap64 (n := k1 + 1) (by omega) (by omega), wrap64 (n := k1 + 1 + 1) (by omega) (by omega), wrap64 (n := k1 + 1 + 1 + 1) (by omega) (by omega), wrap64 (n := k1 + 1 + 1 + 1 + 1) (by omega) (by omega)]
      rw [wrap64 (n := (i : Int) + 1) (by omega) (by omega)]
    · have h5 : (i : Int) < (b'.length : Int) := by have := nth_lt hb'; omega
      rw [R_l_heldBlockS_2_eq, decide_eq_true h5, cond_true]
      rw [wrap64 (n := k + 1) (by omega) (by omega), wrap64 (n := k + 1 + 1) (by omega) (by omega)]
      rw [mk4 hb']
      dsimp only
      rw [ck rfl]
      rw [mk4 hb']
      dsimp only
      rw [ck rfl]
      rw [mk4 hb']
      dsimp only
      rw [show Q_l_heldCmdS big _ (k + 1 + 1) = _ from g1, Option.bind_some, not_neg (by omega), cond_false]
      rw [wrap64 (n := k1 + 1) (by omega) (by omega), wrap64 (n := k1 + 1 + 1) (by omega) (by omega), wrap64 (n := k1 + 1 + 1 + 1) (by omega) (by omega), wrap64 (n := k1 + 1 + 1 + 1 + 1) (by omega) (by omega)]
      rw [mk4 hb']
      dsimp only
      rw [ck rfl]
      rw [mk4 hb']
      dsimp only
      rw [ck rfl]
      rw [mk4 hb']
      dsimp only
      rw [ck rfl]
      rw [mk4 hb']
      dsimp only
      rw [ck rfl]
      rw [wrap64 (n := (i : Int) + 1) (by omega) (by omega)]
  · simp only [R_l_markBlockS_2_eq, Int.lt_irrefl, decide_false, cond_false]
  · simp only [R_l_heldBlockS_2_eq, Int.lt_irrefl, decide_false, cond_false]

theorem mh_PeerS {xs : List DIPeer} (hl : xs.length ≤ 16777216) (hB : ∀ x ∈ xs, (PeerB : DIPeer → Prop) x) {k : Int} (hk : 0 < k) (hM : k + 16777216 * 402653199 ≤ 4611686018427387904) :
    ∃ (k' : Int) (b' : List DIPeer), Q_l_markPeerS big xs k = some (k', b', ()) ∧ Q_l_heldPeerS big b' k = some k' ∧ k ≤ k' ∧ k' ≤ k + 16777216 * 402653199 := by
  simp only [Q_l_markPeerS_eq, Q_l_heldPeerS_eq]
  refine mh_list (xs := xs) (W := 402653199) (B := PeerB) (r := fun n k i b => R_l_markPeerS_2 n k i b) (s := fun n b k i => R_l_heldPeerS_2 n b k i) (n := big) (by decide) (fun k i b hi hx h1 h2 h3 => ?_) (fun n k b => ?_) (fun n k b => ?_) (by decide) hl hB hk (by omega)
  · have h4 : (i : Int) < (b.length : Int) := by omega
    obtain ⟨k1, b1, m1, g1, l1, u1⟩ := mh_IntS hx.row (k := k + 1 + 1 + 1 + 1 + 1 + 1 + 1 + 1 + 1 + 1 + 1 + 1 + 1 + 1) (by omega) (by omega)
    obtain ⟨k2, b2, m2, g2, l2, u2⟩ := mh_CellS hx.cells (k := k1) (by omega) (by omega)
    obtain ⟨k3, b3, m3, g3, l3, u3⟩ := mh_IntS hx.early (k := k2) (by omega) (by omega)
    obtain ⟨k4, b4, m4, g4, l4, u4⟩ := mh_UndoS hx.undos (k := k3) (by omega) (by omega)
    obtain ⟨k5, b5, m5, g5, l5, u5⟩ := mh_VoteS hx.votes (k := k4) (by omega) (by omega)
    obtain ⟨k6, b6, m6, g6, l6, u6⟩ := mh_LetterS hx.news (k := k5) (by omega) (by omega)
    refine ⟨((k, k + 1, (k + 1 + 1, k + 1 + 1 + 1, k + 1 + 1 + 1 + 1, k + 1 + 1 + 1 + 1 + 1, ()), (k + 1 + 1 + 1 + 1 + 1 + 1, k + 1 + 1 + 1 + 1 + 1 + 1 + 1, k + 1 + 1 + 1 + 1 + 1 + 1 + 1 + 1, k + 1 + 1 + 1 + 1 + 1 + 1 + 1 + 1 + 1, ()), (k + 1 + 1 + 1 + 1 + 1 + 1 + 1 + 1 + 1 + 1, k + 1 + 1 + 1 + 1 + 1 + 1 + 1 + 1 + 1 + 1 + 1, k + 1 + 1 + 1 + 1 + 1 + 1 + 1 + 1 + 1 + 1 + 1 + 1, k + 1 + 1 + 1 + 1 + 1 + 1 + 1 + 1 + 1 + 1 + 1 + 1 + 1, ()), b1, b2, b3, b4, b5, b6, k6, ()) : DIPeer), k6 + 1, by omega, by omega, fun n => ?_, fun m b' hb' => ?_⟩
    · rw [R_l_markPeerS_2_eq, decide_eq_true h4, cond_true]
      rw [mk1 hi]
      rw [mk2 hi]
      dsimp only
      rw [mk2 hi]
      dsimp only
      rw [mk2 hi]
      dsimp only
      rw [mk2 hi]
      dsimp only
      rw [mk2 hi]
      dsimp only
      rw [mk2 hi]
      dsimp only
      rw [mk2 hi]
      dsimp only
      rw [mk2 hi]
      dsimp only
      rw [mk2 hi]
      dsimp only
      rw [mk2 hi]
      dsimp only
      rw [mk2 hi]
      dsimp only
      rw [mk2 hi]
      dsimp only
      rw [mk2 hi]
      dsimp only
      rw [wrap64 (n := k + 1) (by omega) (by omega), wrap64 (n := k + 1 + 1) (by omega) (by omega), wrap64 (n := k + 1 + 1 + 1) (by omega) (by omega), wrap64 (n := k + 1 + 1 + 1 + 1) (by omega) (by omega), wrap64 (n := k + 1 + 1 + 1 + 1 + 1) (by omega) (by omega), wrap64 (n := k + 1 + 1 + 1 + 1 + 1 + 1) (by omega) (by omega), wrap64 (n := k + 1 + 1 + 1 + 1 + 1 + 1 + 1) (by omega) (by omega), wrap64 (n := k + 1 + 1 + 1 + 1 + 1 + 1 + 1 + 1) (by omega) (by omega), wrap64 (n := k + 1 + 1 + 1 + 1 + 1 + 1 + 1 + 1 + 1) (by omega) (by omega), wrap64 (n := k + 1 + 1 + 1 + 1 + 1 + 1 + 1 + 1 + 1 + 1) (by omega) (by omega), wrap64 (n := k + 1 + 1 + 1 + 1 + 1 + 1 + 1 + 1 + 1 + 1 + 1) (by omega) (by omega), wrap64 (n := k + 1 + 1 + 1 + 1 + 1 + 1 + 1 + 1 + 1 + 1 + 1 + 1) (by omega) (by omega), wrap64 (n := k + 1 + 1 + 1 + 1 + 1 + 1 + 1 + 1 + 1 + 1 + 1 + 1 + 1) (by omega) (by omega), wrap64 (n := k + 1 + 1 + 1 + 1 + 1 + 1 + 1 + 1 + 1 + 1 + 1 + 1 + 1 + 1) (by omega) (by omega)]
      rw [mk3 hi, show Q_l_markIntS big _ (k + 1 + 1 + 1 + 1 + 1 + 1 + 1 + 1 + 1 + 1 + 1 + 1 + 1 + 1) = _ from m1, Option.bind_some, mk5 hi]
      dsimp only
      rw [mk3 hi, show Q_l_markCellS big _ (k1) = _ from m2, Option.bind_some, mk5 hi]
      dsimp only
      rw [mk3 hi, show Q_l_markIntS big _ (k2) = _ from m3, Option.bind_some, mk5 hi]
      dsimp only
      rw [mk3 hi, show Q_l_markUndoS big _ (k3) = _ from m4, Option.bind_some, mk5 hi]
      dsimp only
      rw [mk3 hi, show Q_l_markVoteS big _ (k4) = _ from m5, Option.bind_some, mk5 hi]
      dsimp only
      rw [mk3 hi, show Q_l_markLetterS big _ (k5) = _ from m6, Option.bind_some, mk5 hi]
      dsimp only
      rw [mk2 hi]
      dsimp only
      rw [wrap64 (n := k6 + 1) (by omega) (by omega)]
      rw [wrap64 (n := (i : Int) + 1) (by omega) (by omega)]
    · have h5 : (i : Int) < (b'.length : Int) := by have := nth_lt hb'; omega
      rw [R_l_heldPeerS_2_eq, decide_eq_true h5, cond_true]
      rw [wrap64 (n := k + 1) (by omega) (by omega), wrap64 (n := k + 1 + 1) (by omega) (by omega), wrap64 (n := k + 1 + 1 + 1) (by omega) (by omega), wrap64 (n := k + 1 + 1 + 1 + 1) (by omega) (by omega), wrap64 (n := k + 1 + 1 + 1 + 1 + 1) (by omega) (by omega), wrap64 (n := k + 1 + 1 + 1 + 1 + 1 + 1) (by omega) (by omega), wrap64 (n := k + 1 + 1 + 1 + 1 + 1 + 1 + 1) (by omega) (by omega), wrap64 (n := k + 1 + 1 + 1 + 1 + 1 + 1 + 1 + 1) (by omega) (by omega), wrap64 (n := k + 1 + 1 + 1 + 1 + 1 + 1 + 1 + 1 + 1) (by omega) (by omega), wrap64 (n := k + 1 + 1 + 1 + 1 + 1 + 1 + 1 + 1 + 1 + 1) (by omega) (by omega), wrap64 (n := k + 1 + 1 + 1 + 1 + 1 + 1 + 1 + 1 + 1 + 1 + 1) (by omega) (by omega), wrap64 (n := k + 1 + 1 + 1 + 1 + 1 + 1 + 1 + 1 + 1 + 1 + 1 + 1) (by omega) (by omega), wrap64 (n := k + 1 + 1 + 1 + 1 + 1 + 1 + 1 + 1 + 1 + 1 + 1 + 1 + 1) (by omega) (by omega), wrap64 (n := k + 1 + 1 + 1 + 1 + 1 + 1 + 1 + 1 + 1 + 1 + 1 + 1 + 1 + 1) (by omega) (by omega)]
      rw [mk4 hb']
      dsimp only
      rw [ck rfl]
      rw [mk4 hb']
      dsimp only
      rw [ck rfl]
      rw [mk4 hb']
      dsimp only
      rw [ck rfl]
      rw [mk4 hb']
      dsimp only
      rw [ck rfl]
      rw [mk4 hb']
      dsimp only
      rw [ck rfl]
      rw [mk4 hb']
      dsimp only
      rw [ck rfl]
      rw [mk4 hb']
      dsimp only
      rw [ck rfl]
      rw [mk4 hb']
      dsimp only
      rw [ck rfl]
      rw [mk4 hb']
      dsimp only
      rw [ck rfl]
      rw [mk4 hb']
      dsimp only
      rw [ck rfl]
      rw [mk4 hb']
      dsimp only
      rw [ck rfl]
      rw [mk4 hb']
      dsimp only
      rw [ck rfl]
      rw [mk4 hb']
      dsimp only
      rw [ck rfl]
      rw [mk4 hb']
      dsimp only
      rw [ck rfl]
      rw [mk4 hb']
      dsimp only
      rw [show Q_l_heldIntS big _ (k + 1 + 1 + 1 + 1 + 1 + 1 + 1 + 1 + 1 + 1 + 1 + 1 + 1 + 1) = _ from g1, Option.bind_some, not_neg (by omega), cond_false]
      rw [mk4 hb']
      dsimp only
      rw [show Q_l_heldCellS big _ (k1) = _ from g2, Option.bind_some, not_neg (by omega), cond_false]
      rw [mk4 hb']
      dsimp only
      rw [show Q_l_heldIntS big _ (k2) = _ from g3, Option.bind_some, not_neg (by omega), cond_false]
      rw [mk4 hb']
      dsimp only
      rw [show Q_l_heldUndoS big _ (k3) = _ from g4, Option.bind_some, not_neg (by omega), cond_false]
      rw [mk4 hb']
      dsimp only
      rw [show Q_l_heldVoteS big _ (k4) = _ from g5, Option.bind_some, not_neg (by omega), cond_false]
      rw [mk4 hb']
      dsimp only
      rw [show Q_l_heldLetterS big _ (k5) = _ from g6, Option.bind_some, not_neg (by omega), cond_false]
      rw [wrap64 (n := k6 + 1) (by omega) (by omega)]
      rw [mk4 hb']
      dsimp only
      rw [ck rfl]
      rw [wrap64 (n := (i : Int) + 1) (by omega) (by omega)]
  · simp only [R_l_markPeerS_2_eq, Int.lt_irrefl, decide_false, cond_false]
  · simp only [R_l_heldPeerS_2_eq, Int.lt_irrefl, decide_false, cond_false]

structure ClB (x : DICluster) : Prop where
  bg : Bg tICluster x
  trees : List.length x.2.2.2.1 ≤ 16777216
  tree : ∀ y ∈ x.2.2.2.1, List.length y.2.2.1 ≤ 16777216
  peers : List.length x.2.2.2.2.1 ≤ 16777216
  peer : ∀ y ∈ x.2.2.2.2.1, PeerB y
  way : List.length x.2.2.2.2.2.1 ≤ 16777216
  votes : List.length x.2.2.2.2.2.2.1 ≤ 16777216
  cmds : List.length x.2.2.2.2.2.2.2.1 ≤ 16777216
theorem ClB.of {x : DICluster} (h : Bg tICluster x) : ClB x :=
  ⟨h, h.2.2.2.1.1, fun y hy => (h.2.2.2.1.2 y hy).2.2.1.1, h.2.2.2.2.1.1, fun y hy => PeerB.of (h.2.2.2.2.1.2 y hy), h.2.2.2.2.2.1.1, h.2.2.2.2.2.2.1.1, h.2.2.2.2.2.2.2.1.1⟩

theorem mh_Cluster {x : DICluster} (h : ClB x) {k : Int} (hk : 0 < k) (hM : k + 16777216 * 452984893 ≤ 4611686018427387904) :
    ∃ (k' : Int), ∃ y, Q_l_markCluster big x k = some (k', y, ()) ∧ k ≤ k' ∧ k' ≤ k + 16777216 * 452984893 ∧
      Q_l_heldCluster big (x.1, x.2.1, x.2.2.1, y.2.2.2.1, y.2.2.2.2.1, y.2.2.2.2.2.1, y.2.2.2.2.2.2.1, y.2.2.2.2.2.2.2.1, x.2.2.2.2.2.2.2.2) k = some k' := by
  obtain ⟨k1, b1, m1, h1, l1, u1⟩ := mh_BlockS h.trees h.tree hk (by omega)
  obtain ⟨k2, b2, m2, h2, l2, u2⟩ := mh_PeerS h.peers h.peer (k := k1) (by omega) (by omega)
  obtain ⟨k3, b3, m3, h3, l3, u3⟩ := mh_LetterS h.way (k := k2) (by omega) (by omega)
  obtain ⟨k4, b4, m4, h4, l4, u4⟩ := mh_VoteS h.votes (k := k3) (by omega) (by omega)
  obtain ⟨k5, b5, m5, h5, l5, u5⟩ := mh_CmdS h.cmds (k := k4) (by omega) (by omega)
  refine ⟨k5, ((), (), (), b1, b2, b3, b4, b5, ()), ?_, by omega, by omega, ?_⟩
  · rw [Q_l_markCluster_eq]
    simp only [m1, m2, m3, m4, m5, Option.bind_some]
  · rw [Q_l_heldCluster_eq]
    simp (disch := omega) only [h1, h2, h3, h4, h5, Option.bind_some, not_neg, cond_false]

end Go.Sx.Try

set_option maxRecDepth 100000
namespace Go.Sx.Try
open Go Go.Sx Go.Proofs

/-- a loop that puts one element to the end for each of a list -/
theorem app_loop {α β γ : Type} {f : α → β} {xs : List α} {r : Nat → Int → List β → Option γ} {fin : List β → Option γ}
    (h1 : ∀ n (i : Nat) acc y, (hi : i < xs.length) → nth xs i = some y → y ∈ xs → acc.length ≤ 16777216 → i < 16777216 → r (n + 1) (i : Int) acc = r n ((i : Int) + 1) (acc ++ [f y]))
    (h2 : ∀ n acc, r (n + 1) (xs.length : Nat) acc = fin acc) (hl : xs.length ≤ 16777216) :
    ∀ (n i : Nat) (acc : List β), xs.length < n + i → i ≤ xs.length → acc.length = i → r n (i : Int) acc = fin (acc ++ (xs.drop i).map f)
  | 0, i, acc, h3, h4, _ => by omega
  | n + 1, i, acc, h3, h4, h5 => by
    rcases Nat.lt_or_ge i xs.length with hi | hi
    · rw [h1 n i acc xs[i] hi (nth_at hi) (List.getElem_mem hi) (by omega) (by omega)]
      have := app_loop h1 h2 hl n (i + 1) (acc ++ [f xs[i]]) (by omega) (by omega) (by simp [h5])
      rw [show ((i + 1 : Nat) : Int) = (i : Int) + 1 by omega] at this
      rw [this, List.drop_eq_getElem_cons hi, List.map_cons, List.append_assoc]
      rfl
    · have e : i = xs.length := by omega
      subst e
      rw [h2, List.drop_length]
      simp
theorem app_ok {α β γ : Type} {f : α → β} {xs : List α} {r : Nat → Int → List β → Option γ} {fin : List β → Option γ}
    (h1 : ∀ n (i : Nat) acc y, (hi : i < xs.length) → nth xs i = some y → y ∈ xs → acc.length ≤ 16777216 → i < 16777216 → r (n + 1) (i : Int) acc = r n ((i : Int) + 1) (acc ++ [f y]))
    (h2 : ∀ n acc, r (n + 1) (xs.length : Nat) acc = fin acc) (hl : xs.length ≤ 16777216) {n : Nat} (hn : 16777216 < n) : r n 0 [] = fin (xs.map f) := by
  have := app_loop h1 h2 hl n 0 [] (by omega) (by omega) rfl
  simpa using this
theorem lim_ok {α β : Type} {xs : List α} {y : α} {a b : Option β} (h : xs.length ≤ 16777216) : (if xs.length + [y].length ≤ lim then a else b) = a := if_pos (by unfold lim; simp only [List.length_singleton]; omega)
theorem lim_ok2 {α β : Type} {xs : List α} {a b : Option β} (h : xs.length ≤ 16777216) : (if 0 + xs.length ≤ lim then a else b) = a := if_pos (by unfold lim; omega)

theorem pClone_ICmd (x : DSlICmd) (h : x.length ≤ 16777216) : Q_g_Clone_ICmd big x = some x := by rw [Q_g_Clone_ICmd_eq]; exact clone_ok x h

theorem p_cloneTree (xs : List DIBlock) (h : xs.length ≤ 16777216) (hB : ∀ y ∈ xs, List.length y.2.2.1 ≤ 16777216) : Q_i_cloneTree big xs = some xs := by
  rw [Q_i_cloneTree_eq]
  rw [app_ok (f := fun y => y) (xs := xs) (r := fun n i acc => R_i_cloneTree_3 n acc xs (List.length xs : Int) i) (fin := some) (fun n i acc y hi hn hm ha hb => ?_) (fun n acc => ?_) h (by decide), List.map_id']
  · rw [R_i_cloneTree_3_eq, decide_eq_true (by omega), cond_true, mk4 hn, pClone_ICmd _ (hB y hm), Option.bind_some, lim_ok ha, wrap64 (by omega) (by omega)]
    rfl
  · rw [R_i_cloneTree_3_eq, decide_eq_false (by omega), cond_false]
theorem p_l05Tree (xs : List DIBlock) (h : xs.length ≤ 16777216) (hB : ∀ y ∈ xs, List.length y.2.2.1 ≤ 16777216) : Q_s_l05Tree big xs = some xs := by
  rw [Q_s_l05Tree_eq]
  rw [app_ok (f := fun y => y) (xs := xs) (r := fun n i acc => R_s_l05Tree_3 n xs acc i) (fin := some) (fun n i acc y hi hn hm ha hb => ?_) (fun n acc => ?_) h (by decide), List.map_id']
  · have e : Q_s_l05Block big y = some y := by
      rw [Q_s_l05Block_eq, lim_ok2 (hB y hm)]
    rw [R_s_l05Tree_3_eq, decide_eq_true (by omega), cond_true, mk4 hn, e, Option.bind_some, lim_ok ha, wrap64 (by omega) (by omega)]
    rfl
  · rw [R_s_l05Tree_3_eq, decide_eq_false (by omega), cond_false]
theorem p_cloneCluster (x : DICluster) (h : ClB x) : Q_i_cloneCluster big x = some x := by
  rw [Q_i_cloneCluster_eq, p_cloneTree _ h.trees h.tree, Option.bind_some, pClone_ILetter _ h.way, Option.bind_some, pClone_IVote _ h.votes, Option.bind_some, pClone_ICmd _ h.cmds, Option.bind_some]
  rw [app_ok (f := fun y => y) (xs := x.2.2.2.2.1) (r := fun n i acc => R_i_cloneCluster_4 n acc x.2.2.2.2.1 (List.length x.2.2.2.2.1 : Int) i x.1 x.2.1 x.2.2.1 x.2.2.2.1 x.2.2.2.2.1 x.2.2.2.2.2.1 x.2.2.2.2.2.2.1 x.2.2.2.2.2.2.2.1 0 false 0 [] [] [] [] [])
    (fin := fun l => some (x.1, x.2.1, x.2.2.1, x.2.2.2.1, l, x.2.2.2.2.2.1, x.2.2.2.2.2.2.1, x.2.2.2.2.2.2.2.1, ())) (fun n i acc y hi hn hm ha hb => ?_) (fun n acc => ?_) h.peers (by decide), List.map_id']
  · rw [R_i_cloneCluster_4_eq, decide_eq_true (by omega), cond_true, mk4 hn, p_clonePeer y (h.peer y hm), Option.bind_some, lim_ok ha, wrap64 (by omega) (by omega)]
    rfl
  · rw [R_i_cloneCluster_4_eq, decide_eq_false (by omega), cond_false]
theorem p_l15Copy (x : DICluster) (h : ClB x) : Q_s_l15Copy big x = some x := by
  rw [Q_s_l15Copy_eq, p_l05Tree _ h.trees h.tree, Option.bind_some]
  rw [app_ok (f := fun y => y) (xs := x.2.2.2.2.1) (r := fun n i acc => R_s_l15Copy_5 n i x.1 x.2.1 x.2.2.1 x.2.2.2.1 x.2.2.2.2.1 x.2.2.2.2.2.1 x.2.2.2.2.2.2.1 x.2.2.2.2.2.2.2.1 0 false 0 [] [] [] [] [] x.1 x.2.1 x.2.2.1 x.2.2.2.1 acc x.2.2.2.2.2.1 x.2.2.2.2.2.2.1 x.2.2.2.2.2.2.2.1)
    (fin := fun l => some (x.1, x.2.1, x.2.2.1, x.2.2.2.1, l, x.2.2.2.2.2.1, x.2.2.2.2.2.2.1, x.2.2.2.2.2.2.2.1, ())) (fun n i acc y hi hn hm ha hb => ?_) (fun n acc => ?_) h.peers (by decide), List.map_id']
  · rw [R_s_l15Copy_5_eq, decide_eq_true (by omega), cond_true, mk4 hn, p_l09Copy y (h.peer y hm), Option.bind_some, lim_ok ha, wrap64 (by omega) (by omega)]
    rfl
  · rw [R_s_l15Copy_5_eq, decide_eq_false (by omega), cond_false, lim_ok2 h.way, lim_ok2 h.votes, lim_ok2 h.cmds]

end Go.Sx.Try

set_option maxRecDepth 100000
namespace Go.Sx.Try
open Go Go.Sx Go.Proofs

theorem q_in (x a b : Int) : Q_i_in big x a b = some (decide (a ≤ x) && decide (x ≤ b)) := by
  rw [Q_i_in_eq]
  cases decide (a ≤ x) <;> rfl
theorem q_l01In (x a b : Int) : Q_s_l01In big x a b = some (decide (a ≤ x) && decide (x ≤ b)) := by
  rw [Q_s_l01In_eq]
  cases decide (a ≤ x) <;> rfl

theorem cut_out {α : Type} (xs : List α) (i : Nat) (hi : i < xs.length) (z : List α) (w : List α) :
    List.take (i + (xs.length - (i + 1))) (List.take (i + (xs.length - (i + 1))) (xs.take i ++ (xs.drop (i + 1) ++ z)) ++ w) = xs.take i ++ xs.drop (i + 1) := by
  have h1 : (xs.take i ++ xs.drop (i + 1)).length = i + (xs.length - (i + 1)) := by simp only [List.length_append, List.length_take, List.length_drop]; omega
  rw [← List.append_assoc, List.take_left' h1, List.take_left' h1]

theorem p_Delete (xs : List DILetter) (i : Nat) (hi : i < xs.length) : Q_g_Delete_ILetter big xs (i : Int) ((i : Int) + 1) = some (xs.take i ++ xs.drop (i + 1)) := by
  have h1 : List.take (xs.length - (i + 1)) (xs.drop (i + 1)) = xs.drop (i + 1) := List.take_of_length_le (by simp)
  have h2 : ((i : Int) + 1).toNat = i + 1 := by omega
  have h3 : (xs.take i ++ (xs.drop (i + 1) ++ xs.drop (i + (xs.length - (i + 1))))).length = xs.length := by simp only [List.length_append, List.length_take, List.length_drop]; omega
  rw [Q_g_Delete_ILetter_eq]
  simp only [h2, Int.toNat_natCast, Nat.sub_zero, List.drop_zero, List.append_eq, h1, List.length_drop, h3]
  rw [decide_eq_false (by omega)]
  simp only [cond_false]
  repeat rw [if_pos (by omega)]
  rw [both_self, cut_out xs i hi]

/-- the cluster without a letter -/
def loseF (x : DICluster) (i : Nat) : DICluster := (x.1, x.2.1, x.2.2.1, x.2.2.2.1, x.2.2.2.2.1, x.2.2.2.2.2.1.take i ++ x.2.2.2.2.2.1.drop (i + 1), x.2.2.2.2.2.2)
theorem loseF_B {x : DICluster} (h : ClB x) (i : Nat) : ClB (loseF x i) := by
  have h1 := h.way
  have e : (x.2.2.2.2.2.1.take i ++ x.2.2.2.2.2.1.drop (i + 1)).length ≤ 16777216 := by simp only [List.length_append, List.length_take, List.length_drop]; omega
  exact ⟨⟨h.bg.1, h.bg.2.1, h.bg.2.2.1, h.bg.2.2.2.1, h.bg.2.2.2.2.1, ⟨e, fun _ _ => Bg_flat rfl _⟩, h.bg.2.2.2.2.2.2⟩, h.trees, h.tree, h.peers, h.peer, e, h.votes, h.cmds⟩

theorem p_l15Out (x : DICluster) (h : ClB x) (i : Nat) (hi : i < x.2.2.2.2.2.1.length) : ∃ y, Q_s_l15Out big x (i : Int) = some ((y, true, ()), loseF x i, ()) := by
  have hway := h.way
  have h1 : List.take (x.2.2.2.2.2.1.length - (i + 1)) (x.2.2.2.2.2.1.drop (i + 1)) = x.2.2.2.2.2.1.drop (i + 1) := List.take_of_length_le (by simp)
  have h2 : ((i : Int) + 1).toNat = i + 1 := by omega
  refine ⟨x.2.2.2.2.2.1[i], ?_⟩
  rw [Q_s_l15Out_eq, q_l01In, wrap64 (n := (List.length x.2.2.2.2.2.1 : Int) - 1) (by omega) (by omega), wrap64 (n := (i : Int) + 1) (by omega) (by omega)]
  rw [decide_eq_true (show (0 : Int) ≤ (i : Int) by omega), decide_eq_true (show (i : Int) ≤ (List.length x.2.2.2.2.2.1 : Int) - 1 by omega)]
  simp only [Bool.and_self, Bool.not_true, cond_false, Option.bind_some, h2, Int.toNat_natCast, Nat.sub_zero, List.drop_zero, List.append_eq, h1, List.length_drop, List.length_take, nth_at hi]
  have hl : ∀ n : Nat, n ≤ 16777216 → n ≤ lim := fun n hn => by unfold lim; omega
  simp only [if_pos (show (0 : Int) ≤ (i : Int) by omega), if_pos (show (i : Int) < (List.length x.2.2.2.2.2.1 : Int) by omega), if_pos (show (i : Int) ≤ (List.length x.2.2.2.2.2.1 : Int) by omega), if_pos (show (0 : Int) ≤ (i : Int) + 1 by omega), if_pos (show (i : Int) + 1 ≤ (List.length x.2.2.2.2.2.1 : Int) by omega),
    if_pos (hl (0 + min i x.2.2.2.2.2.1.length) (by omega)), if_pos (hl (min i x.2.2.2.2.2.1.length + (x.2.2.2.2.2.1.length - (i + 1))) (by omega)), both_self]
  rfl

theorem p_LoseAt (x : DICluster) (h : ClB x) (i : Int) : ∃ r, Q_i_LoseAt big x i = some r ∧ Q_s_LoseAt big x i = some r ∧ ClB r.1 := by
  have hway := h.way
  rw [Q_i_LoseAt_eq, Q_s_LoseAt_eq, Q_i_isLetter_eq, q_in, p_cloneCluster x h, p_l15Copy x h]
  simp only [Option.bind_some]
  rw [wrap64 (n := (List.length x.2.2.2.2.2.1 : Int) - 1) (by omega) (by omega)]
  by_cases c0 : 0 ≤ i
  · by_cases c1 : i ≤ (List.length x.2.2.2.2.2.1 : Int) - 1
    · obtain ⟨k, rfl⟩ : ∃ k : Nat, i = k := ⟨i.toNat, by omega⟩
      have hk : k < x.2.2.2.2.2.1.length := by omega
      obtain ⟨y, hy⟩ := p_l15Out x h k hk
      rw [hy, decide_eq_true c0, decide_eq_true c1, wrap64 (n := (k : Int) + 1) (by omega) (by omega)]
      simp only [Bool.and_self, Bool.not_true, cond_false, Option.bind_some]
      rw [p_Delete _ k hk]
      exact ⟨_, rfl, rfl, loseF_B h k⟩
    · rw [Q_s_l15Out_eq, q_l01In, wrap64 (n := (List.length x.2.2.2.2.2.1 : Int) - 1) (by omega) (by omega), decide_eq_false c1]
      simp only [Bool.and_false, Bool.not_false, cond_true, Option.bind_some]
      exact ⟨_, rfl, rfl, h⟩
  · rw [Q_s_l15Out_eq, q_l01In, wrap64 (n := (List.length x.2.2.2.2.2.1 : Int) - 1) (by omega) (by omega), decide_eq_false c0]
    simp only [Bool.false_and, Bool.not_false, cond_true, Option.bind_some]
    exact ⟨_, rfl, rfl, h⟩

end Go.Sx.Try

set_option maxRecDepth 100000
namespace Go.Sx.Try
open Go Go.Sx Go.Proofs

theorem law_LoseAt (x : DLCluster) (i : Int) (hw : WfD tLCluster x) : Q_l_FnExactLoseAt big x i = some true := by
  rw [Q_l_FnExactLoseAt_eq]
  refine law_sz (pszCluster x 1048576 hw (by decide) (by decide)) fun hb _ => ?_
  have hx : ClB x := ClB.of (Bg_of (t := tICluster) hb)
  obtain ⟨r, e1, e2, hr⟩ := p_LoseAt x hx i
  obtain ⟨k1, y1, m1, l1, u1, _⟩ := mh_Cluster hx (k := 1) (by decide) (by decide)
  obtain ⟨k2, y2, m2, l2, u2, h2⟩ := mh_Cluster hr (k := 1) (by decide) (by decide)
  simp (disch := omega) only [ptoCluster x hb, e1, e2, Option.bind_some, peqCluster _ hr.bg, peqCluster _ hx.bg, m1, m2, h2, not_neg, beq_self_eq_true, Bool.not_true, cond_false, decide_true, both_self]

end Go.Sx.Try
