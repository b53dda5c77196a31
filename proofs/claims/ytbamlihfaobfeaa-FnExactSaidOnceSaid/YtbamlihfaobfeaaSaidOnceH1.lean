/- The helpers of the laws. -/
import Derived.Test.YtbamlihfaobfeaaM9
import Derived.Test.YtbamlihfaobfeaaSaidOnceF1
import Derived.Test.YtbamlihfaobfeaaTypes
set_option linter.unusedVariables false
set_option linter.unusedSimpArgs false
set_option maxRecDepth 100000
namespace Go.Sx.Try
open Go Go.Sx Go.Proofs

theorem pszCmd (x : DLCmd) (a : Int) (hw : WfD tLCmd x) (h0 : 0 ≤ a) (h1 : a ≤ 1048576) : SzR (Q_l_szCmd big x a) a (Bd tLCmd x) := by
  rw [Q_l_szCmd_eq]
  exact (szR_len (K := some) (hw.2.1) h0 h1 fun v0 k0 l0 _ => szR_end).imp fun h => (Bd_flat rfl _)

theorem pszCmdS (x : DSlLCmd) (a : Int) (hw : WfD tSlLCmd x) (h0 : 0 ≤ a) (h1 : a ≤ 1048576) : SzR (Q_l_szCmdS big x a) a (Bd tSlLCmd x) := 
  szR_list (qe := fun y a => Q_l_szCmd big y a) (r := fun n a i => R_l_szCmdS_5 n x a i) (n := big) hw.1 h0 h1 (Q_l_szCmdS_eq big x a) (fun n a i => R_l_szCmdS_5_eq n x a i) (fun y hy a h0 h1 => pszCmd y a (hw.2 y hy) h0 h1) (by decide)

theorem pszBlock (x : DLBlock) (a : Int) (hw : WfD tLBlock x) (h0 : 0 ≤ a) (h1 : a ≤ 1048576) : SzR (Q_l_szBlock big x a) a (Bd tLBlock x) := by
  rw [Q_l_szBlock_eq]
  exact (szR_bind (pszCmdS _ _ (hw.2.2.1) h0 h1) h0 h1 fun v0 k0 l0 => szR_end).imp fun h => ⟨(Bd_flat rfl _), (Bd_flat rfl _), h.1, (Bd_flat rfl _), trivial⟩

theorem pszBlockS (x : DSlLBlock) (a : Int) (hw : WfD tSlLBlock x) (h0 : 0 ≤ a) (h1 : a ≤ 1048576) : SzR (Q_l_szBlockS big x a) a (Bd tSlLBlock x) := 
  szR_list (qe := fun y a => Q_l_szBlock big y a) (r := fun n a i => R_l_szBlockS_5 n x a i) (n := big) hw.1 h0 h1 (Q_l_szBlockS_eq big x a) (fun n a i => R_l_szBlockS_5_eq n x a i) (fun y hy a h0 h1 => pszBlock y a (hw.2 y hy) h0 h1) (by decide)

theorem pszIntS (x : DSlInt) (a : Int) (hw : WfD tSlInt x) (h0 : 0 ≤ a) (h1 : a ≤ 1048576) : SzR (Q_l_szIntS big x a) a (Bd tSlInt x) := by
  rw [Q_l_szIntS_eq]
  exact (szR_len (K := some) hw.1 h0 h1 fun v _ _ _ => szR_end).imp fun h => ⟨h.1, fun y _ => Bd_flat rfl y⟩

theorem pszCell (x : DLCell) (a : Int) (hw : WfD tLCell x) (h0 : 0 ≤ a) (h1 : a ≤ 1048576) : SzR (Q_l_szCell big x a) a (Bd tLCell x) := by
  rw [Q_l_szCell_eq]
  exact (szR_len (K := some) (hw.1) h0 h1 fun v0 k0 l0 _ => szR_end).imp fun h => (Bd_flat rfl _)

theorem pszCellS (x : DSlLCell) (a : Int) (hw : WfD tSlLCell x) (h0 : 0 ≤ a) (h1 : a ≤ 1048576) : SzR (Q_l_szCellS big x a) a (Bd tSlLCell x) := 
  szR_list (qe := fun y a => Q_l_szCell big y a) (r := fun n a i => R_l_szCellS_5 n x a i) (n := big) hw.1 h0 h1 (Q_l_szCellS_eq big x a) (fun n a i => R_l_szCellS_5_eq n x a i) (fun y hy a h0 h1 => pszCell y a (hw.2 y hy) h0 h1) (by decide)

theorem pszUndo (x : DLUndo) (a : Int) (hw : WfD tLUndo x) (h0 : 0 ≤ a) (h1 : a ≤ 1048576) : SzR (Q_l_szUndo big x a) a (Bd tLUndo x) := by
  rw [Q_l_szUndo_eq]
  exact (szR_len (K := some) (hw.1) h0 h1 fun v0 k0 l0 _ => szR_end).imp fun h => (Bd_flat rfl _)

theorem pszUndoS (x : DSlLUndo) (a : Int) (hw : WfD tSlLUndo x) (h0 : 0 ≤ a) (h1 : a ≤ 1048576) : SzR (Q_l_szUndoS big x a) a (Bd tSlLUndo x) := 
  szR_list (qe := fun y a => Q_l_szUndo big y a) (r := fun n a i => R_l_szUndoS_5 n x a i) (n := big) hw.1 h0 h1 (Q_l_szUndoS_eq big x a) (fun n a i => R_l_szUndoS_5_eq n x a i) (fun y hy a h0 h1 => pszUndo y a (hw.2 y hy) h0 h1) (by decide)

theorem pszVoteS (x : DSlLVote) (a : Int) (hw : WfD tSlLVote x) (h0 : 0 ≤ a) (h1 : a ≤ 1048576) : SzR (Q_l_szVoteS big x a) a (Bd tSlLVote x) := by
  rw [Q_l_szVoteS_eq]
  exact (szR_len (K := some) hw.1 h0 h1 fun v _ _ _ => szR_end).imp fun h => ⟨h.1, fun y _ => Bd_flat rfl y⟩

theorem pszLetterS (x : DSlLLetter) (a : Int) (hw : WfD tSlLLetter x) (h0 : 0 ≤ a) (h1 : a ≤ 1048576) : SzR (Q_l_szLetterS big x a) a (Bd tSlLLetter x) := by
  rw [Q_l_szLetterS_eq]
  exact (szR_len (K := some) hw.1 h0 h1 fun v _ _ _ => szR_end).imp fun h => ⟨h.1, fun y _ => Bd_flat rfl y⟩

theorem pszPeer (x : DLPeer) (a : Int) (hw : WfD tLPeer x) (h0 : 0 ≤ a) (h1 : a ≤ 1048576) : SzR (Q_l_szPeer big x a) a (Bd tLPeer x) := by
  rw [Q_l_szPeer_eq]
  exact (szR_bind (pszIntS _ _ (hw.2.2.2.2.2.1) h0 h1) h0 h1 fun v0 k0 l0 => szR_bind (pszCellS _ _ (hw.2.2.2.2.2.2.1) k0 l0) k0 l0 fun v1 k1 l1 => szR_bind (pszIntS _ _ (hw.2.2.2.2.2.2.2.1) k1 l1) k1 l1 fun v2 k2 l2 => szR_bind (pszUndoS _ _ (hw.2.2.2.2.2.2.2.2.1) k2 l2) k2 l2 fun v3 k3 l3 => szR_bind (pszVoteS _ _ (hw.2.2.2.2.2.2.2.2.2.1) k3 l3) k3 l3 fun v4 k4 l4 => szR_bind (pszLetterS _ _ (hw.2.2.2.2.2.2.2.2.2.2.1) k4 l4) k4 l4 fun v5 k5 l5 => szR_end).imp fun h => ⟨(Bd_flat rfl _), (Bd_flat rfl _), (Bd_flat rfl _), (Bd_flat rfl _), (Bd_flat rfl _), h.1, h.2.1, h.2.2.1, h.2.2.2.1, h.2.2.2.2.1, h.2.2.2.2.2.1, (Bd_flat rfl _), trivial⟩

theorem pszPeerS (x : DSlLPeer) (a : Int) (hw : WfD tSlLPeer x) (h0 : 0 ≤ a) (h1 : a ≤ 1048576) : SzR (Q_l_szPeerS big x a) a (Bd tSlLPeer x) := 
  szR_list (qe := fun y a => Q_l_szPeer big y a) (r := fun n a i => R_l_szPeerS_5 n x a i) (n := big) hw.1 h0 h1 (Q_l_szPeerS_eq big x a) (fun n a i => R_l_szPeerS_5_eq n x a i) (fun y hy a h0 h1 => pszPeer y a (hw.2 y hy) h0 h1) (by decide)

theorem pszCluster (x : DLCluster) (a : Int) (hw : WfD tLCluster x) (h0 : 0 ≤ a) (h1 : a ≤ 1048576) : SzR (Q_l_szCluster big x a) a (Bd tLCluster x) := by
  rw [Q_l_szCluster_eq]
  exact (szR_bind (pszBlockS _ _ (hw.2.2.2.1) h0 h1) h0 h1 fun v0 k0 l0 => szR_bind (pszPeerS _ _ (hw.2.2.2.2.1) k0 l0) k0 l0 fun v1 k1 l1 => szR_bind (pszLetterS _ _ (hw.2.2.2.2.2.1) k1 l1) k1 l1 fun v2 k2 l2 => szR_bind (pszVoteS _ _ (hw.2.2.2.2.2.2.1) k2 l2) k2 l2 fun v3 k3 l3 => szR_bind (pszCmdS _ _ (hw.2.2.2.2.2.2.2.1) k3 l3) k3 l3 fun v4 k4 l4 => szR_end).imp fun h => ⟨(Bd_flat rfl _), (Bd_flat rfl _), (Bd_flat rfl _), h.1, h.2.1, h.2.2.1, h.2.2.2.1, h.2.2.2.2.1, trivial⟩

theorem ptoCmd (x : DLCmd) (h : Bd tLCmd x) : Q_l_toCmd big x = some x := by
  rw [Q_l_toCmd_eq]

theorem ptoCmdS (x : DSlLCmd) (h : Bd tSlLCmd x) : Q_l_toCmdS big x = some x := by
  have := copy_ok (g := fun y => some y) (f := fun y => y) (r := fun n i b => R_l_toCmdS_3 n x i b) (n := big) (Q_l_toCmdS_eq big x) (fun n i b => R_l_toCmdS_3_eq n x i b) (fun _ _ => rfl) (Nat.le_trans h.1 (by decide)) (by decide)
  simpa using this

theorem ptoQc (x : DLQc) (h : Bd tLQc x) : Q_l_toQc big x = some x := by
  rw [Q_l_toQc_eq]

theorem ptoBlock (x : DLBlock) (h : Bd tLBlock x) : Q_l_toBlock big x = some x := by
  rw [Q_l_toBlock_eq, ptoCmdS _ (h.2.2.1)]
  rfl

theorem ptoBlockS (x : DSlLBlock) (h : Bd tSlLBlock x) : Q_l_toBlockS big x = some x := by
  have := copy_ok (g := fun y => Q_l_toBlock big y) (f := fun y => y) (r := fun n i b => R_l_toBlockS_3 n x i b) (n := big) (Q_l_toBlockS_eq big x) (fun n i b => R_l_toBlockS_3_eq n x i b) (fun y hy => ptoBlock y (h.2 y hy)) (Nat.le_trans h.1 (by decide)) (by decide)
  simpa using this

theorem ptoVote (x : DLVote) (h : Bd tLVote x) : Q_l_toVote big x = some x := by
  rw [Q_l_toVote_eq]

theorem ptoIntS (x : DSlInt) (h : Bd tSlInt x) : Q_l_toIntS big x = some x := by
  have := copy_ok (g := fun y => some y) (f := fun y => y) (r := fun n i b => R_l_toIntS_3 n x i b) (n := big) (Q_l_toIntS_eq big x) (fun n i b => R_l_toIntS_3_eq n x i b) (fun _ _ => rfl) (Nat.le_trans h.1 (by decide)) (by decide)
  simpa using this

theorem ptoCell (x : DLCell) (h : Bd tLCell x) : Q_l_toCell big x = some x := by
  rw [Q_l_toCell_eq]

theorem ptoCellS (x : DSlLCell) (h : Bd tSlLCell x) : Q_l_toCellS big x = some x := by
  have := copy_ok (g := fun y => some y) (f := fun y => y) (r := fun n i b => R_l_toCellS_3 n x i b) (n := big) (Q_l_toCellS_eq big x) (fun n i b => R_l_toCellS_3_eq n x i b) (fun _ _ => rfl) (Nat.le_trans h.1 (by decide)) (by decide)
  simpa using this

theorem ptoUndo (x : DLUndo) (h : Bd tLUndo x) : Q_l_toUndo big x = some x := by
  rw [Q_l_toUndo_eq]

theorem ptoUndoS (x : DSlLUndo) (h : Bd tSlLUndo x) : Q_l_toUndoS big x = some x := by
  have := copy_ok (g := fun y => some y) (f := fun y => y) (r := fun n i b => R_l_toUndoS_3 n x i b) (n := big) (Q_l_toUndoS_eq big x) (fun n i b => R_l_toUndoS_3_eq n x i b) (fun _ _ => rfl) (Nat.le_trans h.1 (by decide)) (by decide)
  simpa using this

theorem ptoVoteS (x : DSlLVote) (h : Bd tSlLVote x) : Q_l_toVoteS big x = some x := by
  have := copy_ok (g := fun y => some y) (f := fun y => y) (r := fun n i b => R_l_toVoteS_3 n x i b) (n := big) (Q_l_toVoteS_eq big x) (fun n i b => R_l_toVoteS_3_eq n x i b) (fun _ _ => rfl) (Nat.le_trans h.1 (by decide)) (by decide)
  simpa using this

theorem ptoLetter (x : DLLetter) (h : Bd tLLetter x) : Q_l_toLetter big x = some x := by
  rw [Q_l_toLetter_eq]

theorem ptoLetterS (x : DSlLLetter) (h : Bd tSlLLetter x) : Q_l_toLetterS big x = some x := by
  have := copy_ok (g := fun y => some y) (f := fun y => y) (r := fun n i b => R_l_toLetterS_3 n x i b) (n := big) (Q_l_toLetterS_eq big x) (fun n i b => R_l_toLetterS_3_eq n x i b) (fun _ _ => rfl) (Nat.le_trans h.1 (by decide)) (by decide)
  simpa using this

theorem ptoPeer (x : DLPeer) (h : Bd tLPeer x) : Q_l_toPeer big x = some x := by
  rw [Q_l_toPeer_eq, ptoIntS _ (h.2.2.2.2.2.1), ptoCellS _ (h.2.2.2.2.2.2.1), ptoIntS _ (h.2.2.2.2.2.2.2.1), ptoUndoS _ (h.2.2.2.2.2.2.2.2.1), ptoVoteS _ (h.2.2.2.2.2.2.2.2.2.1), ptoLetterS _ (h.2.2.2.2.2.2.2.2.2.2.1)]
  rfl

theorem ptoPeerS (x : DSlLPeer) (h : Bd tSlLPeer x) : Q_l_toPeerS big x = some x := by
  have := copy_ok (g := fun y => Q_l_toPeer big y) (f := fun y => y) (r := fun n i b => R_l_toPeerS_3 n x i b) (n := big) (Q_l_toPeerS_eq big x) (fun n i b => R_l_toPeerS_3_eq n x i b) (fun y hy => ptoPeer y (h.2 y hy)) (Nat.le_trans h.1 (by decide)) (by decide)
  simpa using this

theorem ptoCluster (x : DLCluster) (h : Bd tLCluster x) : Q_l_toCluster big x = some x := by
  rw [Q_l_toCluster_eq, ptoBlockS _ (h.2.2.2.1), ptoPeerS _ (h.2.2.2.2.1), ptoLetterS _ (h.2.2.2.2.2.1), ptoVoteS _ (h.2.2.2.2.2.2.1), ptoCmdS _ (h.2.2.2.2.2.2.2.1)]
  rfl

theorem peqCmd (x : DICmd) (h : Bg tICmd x) : Q_l_eqCmd big x x = some true := by
  rw [Q_l_eqCmd_eq]
  simp only [decide_true, Bool.not_true, cond_false]

theorem peqCmdS (x : DSlICmd) (h : Bg tSlICmd x) : Q_l_eqCmdS big x x = some true := 
  eq_ok (e := fun y y1 => Q_l_eqCmd big y y1) (r := fun n i => R_l_eqCmdS_4 n x x i) (n := big) (Q_l_eqCmdS_eq big x x) (fun n i => R_l_eqCmdS_4_eq n x x i) (fun y hy => peqCmd y (h.2 y hy)) h.1 (by decide)

theorem peqQc (x : DIQc) (h : Bg tIQc x) : Q_l_eqQc big x x = some true := by
  rw [Q_l_eqQc_eq]
  simp only [decide_true, Bool.not_true, cond_false]

theorem peqBlock (x : DIBlock) (h : Bg tIBlock x) : Q_l_eqBlock big x x = some true := by
  rw [Q_l_eqBlock_eq]
  simp only [decide_true, Bool.not_true, cond_false, Option.bind_some, peqCmdS _ (h.2.2.1), peqQc _ (h.2.2.2.1)]

theorem peqBlockS (x : DSlIBlock) (h : Bg tSlIBlock x) : Q_l_eqBlockS big x x = some true := 
  eq_ok (e := fun y y1 => Q_l_eqBlock big y y1) (r := fun n i => R_l_eqBlockS_4 n x x i) (n := big) (Q_l_eqBlockS_eq big x x) (fun n i => R_l_eqBlockS_4_eq n x x i) (fun y hy => peqBlock y (h.2 y hy)) h.1 (by decide)

theorem peqVote (x : DIVote) (h : Bg tIVote x) : Q_l_eqVote big x x = some true := by
  rw [Q_l_eqVote_eq]
  simp only [decide_true, Bool.not_true, cond_false]

theorem peqIntS (x : DSlInt) (h : Bg tSlInt x) : Q_l_eqIntS big x x = some true := 
  eq_ok (e := fun y y1 => some (decide (y = y1))) (r := fun n i => R_l_eqIntS_4 n x x i) (n := big) (Q_l_eqIntS_eq big x x) (fun n i => R_l_eqIntS_4_eq n x x i) (fun y _ => by simp) h.1 (by decide)

theorem peqCell (x : DICell) (h : Bg tICell x) : Q_l_eqCell big x x = some true := by
  rw [Q_l_eqCell_eq]
  simp only [decide_true, Bool.not_true, cond_false]

theorem peqCellS (x : DSlICell) (h : Bg tSlICell x) : Q_l_eqCellS big x x = some true := 
  eq_ok (e := fun y y1 => Q_l_eqCell big y y1) (r := fun n i => R_l_eqCellS_4 n x x i) (n := big) (Q_l_eqCellS_eq big x x) (fun n i => R_l_eqCellS_4_eq n x x i) (fun y hy => peqCell y (h.2 y hy)) h.1 (by decide)

theorem peqUndo (x : DIUndo) (h : Bg tIUndo x) : Q_l_eqUndo big x x = some true := by
  rw [Q_l_eqUndo_eq]
  simp only [decide_true, beq_self_eq_true, Bool.not_true, cond_false]

theorem peqUndoS (x : DSlIUndo) (h : Bg tSlIUndo x) : Q_l_eqUndoS big x x = some true := 
  eq_ok (e := fun y y1 => Q_l_eqUndo big y y1) (r := fun n i => R_l_eqUndoS_4 n x x i) (n := big) (Q_l_eqUndoS_eq big x x) (fun n i => R_l_eqUndoS_4_eq n x x i) (fun y hy => peqUndo y (h.2 y hy)) h.1 (by decide)

theorem peqVoteS (x : DSlIVote) (h : Bg tSlIVote x) : Q_l_eqVoteS big x x = some true := 
  eq_ok (e := fun y y1 => Q_l_eqVote big y y1) (r := fun n i => R_l_eqVoteS_4 n x x i) (n := big) (Q_l_eqVoteS_eq big x x) (fun n i => R_l_eqVoteS_4_eq n x x i) (fun y hy => peqVote y (h.2 y hy)) h.1 (by decide)

theorem peqLetter (x : DILetter) (h : Bg tILetter x) : Q_l_eqLetter big x x = some true := by
  rw [Q_l_eqLetter_eq]
  simp only [decide_true, Bool.not_true, cond_false, Option.bind_some, peqQc _ (h.2.2.2.2.2.1), peqVote _ (h.2.2.2.2.2.2.1)]

theorem peqLetterS (x : DSlILetter) (h : Bg tSlILetter x) : Q_l_eqLetterS big x x = some true := 
  eq_ok (e := fun y y1 => Q_l_eqLetter big y y1) (r := fun n i => R_l_eqLetterS_4 n x x i) (n := big) (Q_l_eqLetterS_eq big x x) (fun n i => R_l_eqLetterS_4_eq n x x i) (fun y hy => peqLetter y (h.2 y hy)) h.1 (by decide)

theorem peqPeer (x : DIPeer) (h : Bg tIPeer x) : Q_l_eqPeer big x x = some true := by
  rw [Q_l_eqPeer_eq]
  simp only [decide_true, Bool.not_true, cond_false, Option.bind_some, peqQc _ (h.2.2.1), peqQc _ (h.2.2.2.1), peqVote _ (h.2.2.2.2.1), peqIntS _ (h.2.2.2.2.2.1), peqCellS _ (h.2.2.2.2.2.2.1), peqIntS _ (h.2.2.2.2.2.2.2.1), peqUndoS _ (h.2.2.2.2.2.2.2.2.1), peqVoteS _ (h.2.2.2.2.2.2.2.2.2.1), peqLetterS _ (h.2.2.2.2.2.2.2.2.2.2.1)]

theorem peqPeerS (x : DSlIPeer) (h : Bg tSlIPeer x) : Q_l_eqPeerS big x x = some true := 
  eq_ok (e := fun y y1 => Q_l_eqPeer big y y1) (r := fun n i => R_l_eqPeerS_4 n x x i) (n := big) (Q_l_eqPeerS_eq big x x) (fun n i => R_l_eqPeerS_4_eq n x x i) (fun y hy => peqPeer y (h.2 y hy)) h.1 (by decide)

theorem peqCluster (x : DICluster) (h : Bg tICluster x) : Q_l_eqCluster big x x = some true := by
  rw [Q_l_eqCluster_eq]
  simp only [decide_true, beq_self_eq_true, Bool.not_true, cond_false, Option.bind_some, peqBlockS _ (h.2.2.2.1), peqPeerS _ (h.2.2.2.2.1), peqLetterS _ (h.2.2.2.2.2.1), peqVoteS _ (h.2.2.2.2.2.2.1), peqCmdS _ (h.2.2.2.2.2.2.2.1)]

end Go.Sx.Try

set_option maxRecDepth 100000
namespace Go.Sx.Try
open Go Go.Sx Go.Proofs

/-- two votes of one voter that do not agree -/
def conf (v w : DIVote) : Bool := bif decide (v.2.2.2.1 = w.2.2.2.1) then (bif decide (v.1 = w.1) then (bif decide (v.2.1 = w.2.1) then !decide (v.2.2.1 = w.2.2.1) else false) else false) else false
theorem conf_comm (v w : DIVote) : conf v w = conf w v := by
  unfold conf
  rw [show decide (v.2.2.2.1 = w.2.2.2.1) = decide (w.2.2.2.1 = v.2.2.2.1) from decide_eq_decide.2 eq_comm, show decide (v.1 = w.1) = decide (w.1 = v.1) from decide_eq_decide.2 eq_comm,
    show decide (v.2.1 = w.2.1) = decide (w.2.1 = v.2.1) from decide_eq_decide.2 eq_comm, show decide (v.2.2.1 = w.2.2.1) = decide (w.2.2.1 = v.2.2.1) from decide_eq_decide.2 eq_comm]
/-- is there such a pair from there on? -/
def tw (xs : List DIVote) : Nat → Nat → Bool
  | 0, _ => false
  | m + 1, k => (match xs[k]? with | some v => (xs.take k).any (conf v) | none => false) || tw xs m (k + 1)
theorem tw_at {xs : List DIVote} {k : Nat} (hk : k < xs.length) : tw xs (xs.length - k) k = ((xs.take k).any (conf xs[k]) || tw xs (xs.length - (k + 1)) (k + 1)) := by
  rw [show xs.length - k = (xs.length - (k + 1)) + 1 by omega]
  simp only [tw, List.getElem?_eq_getElem hk]
theorem p_SaidTwice_1 (y v : DIVote) : Q_i_SaidTwice_1 big y v = some (conf v y, v, ()) := by
  rw [Q_i_SaidTwice_1_eq, conf_comm]
  unfold conf
  cases decide (y.2.2.2.1 = v.2.2.2.1) <;> cases decide (y.1 = v.1) <;> cases decide (y.2.1 = v.2.1) <;> rfl
theorem p_Idx_SaidTwice (l : List DIVote) (v : DIVote) (hl : l.length ≤ 16777216) : Q_g_IndexFunc_IVote__i_SaidTwice_1 big l (v, ()) = some (fIdx (conf v) l 0, (v, ()), ()) := by
  rw [Q_g_IndexFunc_IVote__i_SaidTwice_1_eq]
  refine idx_ok (xs := l) (p := conf v) (r := fun n k => R_g_IndexFunc_IVote__i_SaidTwice_1_2 n l (l.length : Int) k v.1 v.2.1 v.2.2.1 v.2.2.2.1) (n := big) (fun n k hk => ?_) (fun n => ?_) (Nat.lt_of_le_of_lt (by first | exact hl | exact h) (by decide))
  · have h1 : (k : Int) < (l.length : Int) := by omega
    rw [R_g_IndexFunc_IVote__i_SaidTwice_1_2_eq]
    simp only [h1, decide_true, cond_true, Int.natCast_nonneg, if_true, Int.toNat_natCast, nth_at hk, Option.bind_some]
    rw [show ((v.1, v.2.1, v.2.2.1, v.2.2.2.1, ()) : DIVote) = v from rfl, p_SaidTwice_1]
    simp only [Option.bind_some]
    rw [wrap_succ (by omega)]
  · rw [R_g_IndexFunc_IVote__i_SaidTwice_1_2_eq, decide_eq_false (Int.lt_irrefl _)]
    rfl
theorem p_Contains_SaidTwice (l : List DIVote) (v : DIVote) (hl : l.length ≤ 16777216) : Q_g_ContainsFunc_IVote__i_SaidTwice_1 big l (v, ()) = some (l.any (conf v), (v, ()), ()) := by
  rw [Q_g_ContainsFunc_IVote__i_SaidTwice_1_eq, p_Idx_SaidTwice l v hl]
  simp only [Option.bind_some]
  rw [fIdx_any (by decide)]
theorem p_i_SaidTwice_loop (xs : List DIVote) (hl : xs.length ≤ 16777216) : ∀ (n k : Nat), xs.length < n + k → k ≤ xs.length → R_i_SaidTwice_2 n xs xs (xs.length : Int) (k : Int) = some (tw xs (xs.length - k) k)
  | 0, k, h, h2 => by omega
  | n + 1, k, h, h2 => by
    rw [R_i_SaidTwice_2_eq]
    rcases Nat.lt_or_ge k xs.length with hk | hk
    · rw [decide_eq_true (show (k : Int) < (xs.length : Int) by omega)]
      have hle : (k : Int) ≤ (xs.length : Int) := by omega
      simp only [cond_true, if_pos (Int.natCast_nonneg k), Int.toNat_natCast]
      rw [nth_at hk]
      simp only [Option.bind_some, if_pos hle]
      rw [List.drop_zero, Nat.sub_zero, p_Contains_SaidTwice (xs.take k) xs[k] (by simp; omega), tw_at hk]
      simp only [Option.bind_some]
      cases (xs.take k).any (conf xs[k]) with
      | true => rfl
      | false =>
        simp only [cond_false, Bool.false_or]
        rw [wrap_succ (by omega)]
        exact p_i_SaidTwice_loop xs hl n (k + 1) (by omega) (by omega)
    · rw [decide_eq_false (show ¬ (k : Int) < (xs.length : Int) by omega), show xs.length - k = 0 by omega]
      rfl
theorem p_i_SaidTwice (xs : List DIVote) (h : xs.length ≤ 16777216) : Q_i_SaidTwice big xs = some (tw xs xs.length 0) := by
  rw [Q_i_SaidTwice_eq]
  have := p_i_SaidTwice_loop xs h big 0 (Nat.lt_of_le_of_lt h (by decide)) (Nat.zero_le _)
  rw [Int.natCast_zero] at this
  exact this
theorem p_s_SaidTwice_loop (xs : List DIVote) (hl : xs.length ≤ 16777216) : ∀ (n : Nat),
    (∀ k : Nat, k ≤ xs.length → (xs.length - k) * (xs.length + 3) < n → R_s_SaidTwice_2 n xs (k : Int) = some (tw xs (xs.length - k) k)) ∧
    (∀ (k j : Nat) (hk : k < xs.length), j ≤ k → (k - j) + 1 + (xs.length - (k + 1)) * (xs.length + 3) < n → R_s_SaidTwice_5 n xs (k : Int) (j : Int) = some (((xs.take k).drop j).any (conf xs[k]) || tw xs (xs.length - (k + 1)) (k + 1)))
  | 0 => ⟨fun _ _ h => by omega, fun _ _ _ _ h => by omega⟩
  | n + 1 => by
    obtain ⟨ih1, ih2⟩ := p_s_SaidTwice_loop xs hl n
    refine ⟨fun k hk hc => ?_, fun k j hk hj hc => ?_⟩
    · rw [R_s_SaidTwice_2_eq]
      rcases Nat.lt_or_ge k xs.length with hk | hk
      · rw [decide_eq_true (show (k : Int) < (xs.length : Int) by omega), tw_at hk]
        have e : (xs.length - k) * (xs.length + 3) = (xs.length + 3) + (xs.length - (k + 1)) * (xs.length + 3) := by
          rw [show xs.length - k = (xs.length - (k + 1)) + 1 by omega, Nat.add_mul, Nat.one_mul, Nat.add_comm]
        have := ih2 k 0 hk (Nat.zero_le _) (by omega)
        rw [Int.natCast_zero, List.drop_zero] at this
        exact this
      · rw [decide_eq_false (show ¬ (k : Int) < (xs.length : Int) by omega), show xs.length - k = 0 by omega]
        rfl
    · rw [R_s_SaidTwice_5_eq]
      rcases Nat.lt_or_ge j k with hjk | hjk
      · have hjx : j < xs.length := by omega
        rw [decide_eq_true (show (j : Int) < (k : Int) by omega)]
        simp only [cond_true, if_pos (Int.natCast_nonneg k), if_pos (Int.natCast_nonneg j), Int.toNat_natCast]
        rw [nth_at hk, nth_at hjx]
        simp only [Option.bind_some]
        have hd : (xs.take k).drop j = xs[j] :: (xs.take k).drop (j + 1) := by
          rw [List.drop_eq_getElem_cons (by simp; omega)]
          simp
        rw [hd, List.any_cons, wrap_succ (by omega), ih2 k (j + 1) hk (by omega) (by omega)]
        have key : ∀ (a b c d : Bool) (X : Option Bool) (Y : Bool), X = some Y → (bif a then (bif b then (bif c then (bif !d then some true else X) else X) else X) else X) = some ((bif a then (bif b then (bif c then !d else false) else false) else false) || Y) := by
          intro a b c d X Y hX
          subst hX
          cases a <;> cases b <;> cases c <;> cases d <;> rfl
        rw [Bool.or_assoc]
        exact key _ _ _ _ _ _ rfl
      · rw [decide_eq_false (show ¬ (j : Int) < (k : Int) by omega)]
        simp only [cond_false]
        rw [wrap_succ (by omega), ih1 (k + 1) (by omega) (by omega), List.drop_eq_nil_of_le (by simp; omega)]
        rfl
theorem p_s_SaidTwice (xs : List DIVote) (h : xs.length ≤ 16777216) : Q_s_SaidTwice big xs = some (tw xs xs.length 0) := by
  rw [Q_s_SaidTwice_eq]
  have := (p_s_SaidTwice_loop xs h big).1 0 (Nat.zero_le _) (by
    have h1 : (xs.length - 0) * (xs.length + 3) ≤ 16777216 * (16777216 + 3) := Nat.mul_le_mul (by omega) (by omega)
    have h2 : 16777216 * (16777216 + 3) < big := by decide
    omega)
  rw [Int.natCast_zero] at this
  exact this

end Go.Sx.Try

set_option maxRecDepth 100000
namespace Go.Sx.Try
open Go Go.Sx Go.Proofs

theorem p_in (x a b : Int) : Q_i_in big x a b = some (decide (a ≤ x) && decide (x ≤ b)) := by
  rw [Q_i_in_eq]
  cases decide (a ≤ x) <;> rfl
theorem p_l01In (x a b : Int) : Q_s_l01In big x a b = some (decide (a ≤ x) && decide (x ≤ b)) := by
  rw [Q_s_l01In_eq]
  cases decide (a ≤ x) <;> rfl
theorem p_isPeer (i n : Int) : Q_i_isPeer big i n = some (decide (0 ≤ i) && decide (i < n)) := by
  rw [Q_i_isPeer_eq]
  cases decide (0 ≤ i) <;> rfl
/-- does one lie? -/
def liesF (c : DICluster) (i : Int) : Bool := decide (0 ≤ i) && decide (i < c.1) && decide (i < 7) && !decide ((Int.fdiv c.2.2.1 ((2 : Int) ^ i.toNat)).tmod 2 = 0)
theorem p_i_Lies (c : DICluster) (i : Int) : Q_i_Lies big c i = some (liesF c i) := by
  rw [Q_i_Lies_eq, p_isPeer]
  unfold liesF
  simp only [Option.bind_some]
  by_cases h1 : 0 ≤ i
  · by_cases h2 : i < c.1
    · by_cases h3 : i < 7
      · rw [decide_eq_true h1, decide_eq_true h2, decide_eq_true h3, if_neg (show ¬ i < 0 by omega), odd_bit, show min i.toNat IntKind.i64.bits = i.toNat from Nat.min_eq_left (show i.toNat ≤ 64 by omega)]
        rfl
      · rw [decide_eq_true h1, decide_eq_true h2, decide_eq_false h3]; rfl
    · rw [decide_eq_true h1, decide_eq_false h2]; rfl
  · rw [decide_eq_false h1]; rfl
theorem p_s_Lies (c : DICluster) (i : Int) (hc : c.1 ≤ 9223372036854775807) : Q_s_Lies big c i = some (liesF c i) := by
  rw [Q_s_Lies_eq]
  unfold liesF
  by_cases h0 : 0 < c.1
  · rw [decide_eq_true h0, p_l01In, wrap64 (by omega) (by omega)]
    simp only [cond_true, Option.bind_some]
    by_cases h1 : 0 ≤ i
    · by_cases h2 : i < c.1
      · by_cases h3 : i < 7
        · have hw : IntKind.u64.wrap i = i := by
            unfold IntKind.wrap
            simp [IntKind.bits, IntKind.signed]
            omega
          rw [decide_eq_true h1, decide_eq_true h2, decide_eq_true h3, decide_eq_true (show i ≤ c.1 - 1 by omega), hw, if_neg (show ¬ i < 0 by omega), show min i.toNat IntKind.i64.bits = i.toNat from Nat.min_eq_left (show i.toNat ≤ 64 by omega)]
          rfl
        · rw [decide_eq_true h1, decide_eq_true h2, decide_eq_false h3, decide_eq_true (show i ≤ c.1 - 1 by omega)]; rfl
      · rw [decide_eq_true h1, decide_eq_false h2, decide_eq_false (show ¬ i ≤ c.1 - 1 by omega)]; rfl
    · rw [decide_eq_false h1]; rfl
  · rw [decide_eq_false h0]
    by_cases h1 : 0 ≤ i
    · rw [decide_eq_false (show ¬ i < c.1 by omega)]; simp
    · rw [decide_eq_false h1]; simp

/-- is a vote right? -/
def voteOkF (t : DSlIBlock) (n : Int) (v : DIVote) : Bool :=
  decide (1 ≤ n) && decide (n ≤ 7) && (decide (1 ≤ v.1) && decide (v.1 ≤ 4)) && (decide (1 ≤ v.2.1) && decide (v.2.1 ≤ 900)) && (decide (1 ≤ v.2.2.1) && decide (v.2.2.1 ≤ (t.length : Int) - 1)) &&
    (match nth t v.2.2.1.toNat with | some b => decide (b.2.1 = v.2.1) | none => false) && (decide (0 ≤ v.2.2.2.1) && decide (v.2.2.2.1 < n))
theorem p_i_VoteOk (t : DSlIBlock) (n : Int) (v : DIVote) (ht : t.length ≤ 16777216) : Q_i_VoteOk big t n v = some (voteOkF t n v) := by
  rw [Q_i_VoteOk_eq, p_in, p_isPeer, Q_i_saidOk_eq, p_in, p_in, p_in, wrap64 (by omega) (by omega)]
  unfold voteOkF
  simp only [Option.bind_some]
  cases decide (1 ≤ n) && decide (n ≤ 7)
  · simp
  cases decide (1 ≤ v.1) && decide (v.1 ≤ 4)
  · simp
  cases decide (1 ≤ v.2.1) && decide (v.2.1 ≤ 900)
  · simp
  by_cases h1 : 1 ≤ v.2.2.1
  · by_cases h2 : v.2.2.1 ≤ (t.length : Int) - 1
    · have hk : v.2.2.1.toNat < t.length := by omega
      rw [decide_eq_true h1, decide_eq_true h2, if_pos (show 0 ≤ v.2.2.1 by omega), nth_at hk]
      simp only [Bool.and_true, Bool.true_and, cond_true, Option.bind_some]
      cases decide (t[v.2.2.1.toNat].2.1 = v.2.1) <;> simp
    · rw [decide_eq_false h2]; simp
  · rw [decide_eq_false h1]; simp
theorem p_s_VoteOk (t : DSlIBlock) (n : Int) (v : DIVote) (ht : t.length ≤ 16777216) : Q_s_VoteOk big t n v = some (voteOkF t n v) := by
  rw [Q_s_VoteOk_eq, p_l01In, p_l01In, p_l01In, p_l01In, p_l01In, wrap64 (n := (t.length : Int) - 1) (by omega) (by omega)]
  unfold voteOkF
  simp only [Option.bind_some]
  by_cases hn : 1 ≤ n ∧ n ≤ 7
  · rw [wrap64 (n := n - 1) (by omega) (by omega), decide_eq_true hn.1, decide_eq_true hn.2, show decide (v.2.2.2.1 ≤ n - 1) = decide (v.2.2.2.1 < n) from decide_eq_decide.2 (by omega)]
    cases decide (1 ≤ v.1) && decide (v.1 ≤ 4)
    · simp
    cases decide (1 ≤ v.2.1) && decide (v.2.1 ≤ 900)
    · simp
    by_cases h1 : 1 ≤ v.2.2.1
    · by_cases h2 : v.2.2.1 ≤ (t.length : Int) - 1
      · have hk : v.2.2.1.toNat < t.length := by omega
        rw [decide_eq_true h1, decide_eq_true h2, if_pos (show 0 ≤ v.2.2.1 by omega), nth_at hk]
        simp only [Bool.and_true, Bool.true_and, cond_true, Option.bind_some]
        cases decide (t[v.2.2.1.toNat].2.1 = v.2.1) <;> simp
      · rw [decide_eq_false h2]; simp
    · rw [decide_eq_false h1]; simp
  · have : (decide (1 ≤ n) && decide (n ≤ 7)) = false := by
      by_cases h1 : 1 ≤ n
      · rw [decide_eq_false (show ¬ n ≤ 7 from fun h2 => hn ⟨h1, h2⟩), Bool.and_false]
      · rw [decide_eq_false h1, Bool.false_and]
    rw [this]
    simp

end Go.Sx.Try

set_option maxRecDepth 100000
namespace Go.Sx.Try
open Go Go.Sx Go.Proofs

/-- a vote that may not stand there -/
def badVote (c : DICluster) (v : DIVote) : Bool := !voteOkF c.2.2.2.1 c.1 v || liesF c v.2.2.2.1
def saidOnceF (c : DICluster) : Bool := !tw c.2.2.2.2.2.2.1 (List.length c.2.2.2.2.2.2.1) 0 && !(List.any c.2.2.2.2.2.2.1 (badVote c))

theorem p_SaidOnce_1 (v : DIVote) (c : DICluster) (ht : List.length c.2.2.2.1 ≤ 16777216) : Q_i_SaidOnce_1 big v c = some (badVote c v, c, ()) := by
  rw [Q_i_SaidOnce_1_eq, p_i_VoteOk _ _ _ ht]
  unfold badVote
  simp only [Option.bind_some]
  rw [p_i_Lies]
  cases voteOkF c.2.2.2.1 c.1 v <;> rfl
theorem p_Contains_SaidOnce (l : List DIVote) (c : DICluster) (hl : l.length ≤ 16777216) (ht : List.length c.2.2.2.1 ≤ 16777216) :
    Q_g_ContainsFunc_IVote__i_SaidOnce_1 big l (c, ()) = some (l.any (badVote c), (c, ()), ()) := by
  have : Q_g_IndexFunc_IVote__i_SaidOnce_1 big l (c, ()) = some (fIdx (badVote c) l 0, (c, ()), ()) := by
    rw [Q_g_IndexFunc_IVote__i_SaidOnce_1_eq]
    refine idx_ok (xs := l) (p := badVote c) (r := fun n k => R_g_IndexFunc_IVote__i_SaidOnce_1_2 n l (l.length : Int) k c.1 c.2.1 c.2.2.1 c.2.2.2.1 c.2.2.2.2.1 c.2.2.2.2.2.1 c.2.2.2.2.2.2.1 c.2.2.2.2.2.2.2.1) (n := big) (fun n k hk => ?_) (fun n => ?_) (Nat.lt_of_le_of_lt hl (by decide))
    · have h1 : (k : Int) < (l.length : Int) := by omega
      rw [R_g_IndexFunc_IVote__i_SaidOnce_1_2_eq, decide_eq_true h1, if_pos (Int.natCast_nonneg k), Int.toNat_natCast, nth_at hk]
      simp only [Option.bind_some, cond_true]
      rw [show ((c.1, c.2.1, c.2.2.1, c.2.2.2.1, c.2.2.2.2.1, c.2.2.2.2.2.1, c.2.2.2.2.2.2.1, c.2.2.2.2.2.2.2.1, ()) : DICluster) = c from rfl, p_SaidOnce_1 _ _ ht]
      simp only [Option.bind_some]
      rw [wrap_succ (by omega)]
    · rw [R_g_IndexFunc_IVote__i_SaidOnce_1_2_eq, decide_eq_false (Int.lt_irrefl _)]
      rfl
  rw [Q_g_ContainsFunc_IVote__i_SaidOnce_1_eq, this]
  simp only [Option.bind_some]
  rw [fIdx_any (by decide)]
theorem p_i_SaidOnce (c : DICluster) (ht : List.length c.2.2.2.1 ≤ 16777216) (hs : List.length c.2.2.2.2.2.2.1 ≤ 16777216) : Q_i_SaidOnce big c = some (saidOnceF c) := by
  rw [Q_i_SaidOnce_eq, p_i_SaidTwice _ hs, p_Contains_SaidOnce _ c hs ht]
  unfold saidOnceF
  simp only [Option.bind_some]
  cases tw c.2.2.2.2.2.2.1 (List.length c.2.2.2.2.2.2.1) 0 <;> simp
theorem p_s_SaidOnce (c : DICluster) (hn : c.1 ≤ 9223372036854775807) (ht : List.length c.2.2.2.1 ≤ 16777216) (hs : List.length c.2.2.2.2.2.2.1 ≤ 16777216) : Q_s_SaidOnce big c = some (saidOnceF c) := by
  rw [Q_s_SaidOnce_eq]
  have := any_ok (xs := c.2.2.2.2.2.2.1) (p := badVote c) (b := false) (e := some (!tw c.2.2.2.2.2.2.1 (List.length c.2.2.2.2.2.2.1) 0)) (r := fun n k => R_s_SaidOnce_2 n k c.1 c.2.1 c.2.2.1 c.2.2.2.1 c.2.2.2.2.1 c.2.2.2.2.2.1 c.2.2.2.2.2.2.1 c.2.2.2.2.2.2.2.1) (n := big) (fun n k hk => by
    have h1 : (k : Int) < (List.length c.2.2.2.2.2.2.1 : Int) := by omega
    rw [R_s_SaidOnce_2_eq, decide_eq_true h1, if_pos (Int.natCast_nonneg k), Int.toNat_natCast, nth_at hk]
    simp only [Option.bind_some, cond_true]
    rw [p_s_VoteOk _ _ _ ht]
    unfold badVote
    simp only [Option.bind_some]
    rw [show ((c.1, c.2.1, c.2.2.1, c.2.2.2.1, c.2.2.2.2.1, c.2.2.2.2.2.1, c.2.2.2.2.2.2.1, c.2.2.2.2.2.2.2.1, ()) : DICluster) = c from rfl, p_s_Lies c _ hn]
    simp only [Option.bind_some]
    rw [wrap_succ (by omega)]
    cases voteOkF c.2.2.2.1 c.1 c.2.2.2.2.2.2.1[k] with
    | false => rfl
    | true => cases liesF c c.2.2.2.2.2.2.1[k].2.2.2.1 <;> rfl) (fun n => by
    rw [R_s_SaidOnce_2_eq, decide_eq_false (Int.lt_irrefl _), p_s_SaidTwice _ hs]
    rfl) (Nat.lt_of_le_of_lt hs (by decide))
  rw [this]
  unfold saidOnceF
  cases List.any c.2.2.2.2.2.2.1 (badVote c) <;> simp

end Go.Sx.Try

set_option maxRecDepth 100000
namespace Go.Sx.Try
open Go Go.Sx Go.Proofs

theorem law_SaidOnce (x : DLCluster) (hw : WfD tLCluster x) : Q_l_FnExactSaidOnce big x = some true := by
  rw [Q_l_FnExactSaidOnce_eq]
  refine law_sz (pszCluster x 1048576 hw (by decide) (by decide)) fun hb _ => ?_
  have ht : List.length x.2.2.2.1 ≤ 16777216 := Nat.le_trans hb.2.2.2.1.1 (by decide)
  have hs : List.length x.2.2.2.2.2.2.1 ≤ 16777216 := Nat.le_trans hb.2.2.2.2.2.2.1.1 (by decide)
  have hn : x.1 ≤ 9223372036854775807 := hw.1.2
  simp only [ptoCluster x hb, Option.bind_some, p_i_SaidOnce x ht hs, p_s_SaidOnce x hn ht hs, peqCluster x (Bg_of (t := tICluster) hb), beq_self_eq_true, Bool.not_true, cond_false]

end Go.Sx.Try
