/- The helpers of the laws. -/
import Derived.Test.YtbamlihfaobfeaaM9
import Derived.Test.YtbamlihfaobfeaaShowsF1
import Derived.Test.YtbamlihfaobfeaaTypes
import Derived.Test.YtbamlihfaobfeaaShowsF2
set_option linter.unusedVariables false
set_option linter.unusedSimpArgs false
set_option maxRecDepth 100000
namespace Go.Sx.Try
open Go Go.Sx Go.Proofs

theorem pszCmd (x : DLCmd) (a : Int) (hw : WfD tLCmd x) (h0 : 0 ≤ a) (h1 : a ≤ 1048576) : SzR (Q_l_szCmd big x a) a (Bd tLCmd x) := by
  rw [Q_l_szCmd_eq]
  exact (szR_len (K := some) (hw.2.1) h0 h1 fun v0 k0 l0 _ => szR_end).imp fun h => (Bd_flat rfl _)

theorem pszCmdS (x : DSlLCmd) (a : Int) (hw : WfD tSlLCmd x) (h0 : 0 ≤ a) (h1 : a ≤ 1048576) : SzR (Q_l_szCmdS big x a) a (Bd tSlLCmd x) := 
  szR_list (qe := fun y a => Q_l_szCmd big y a) (r := fun n a i => R_l_szCmdS_5 n x a i) (n := big) hw.1 h0 h1 (Q_l_szCmdS_eq big x a) (fun n a i => R_l_szCmdS_5_eq n x a i) (fun y hy a h0 h1 => pszCmd y a (hw.2 y hy) h0 h1) (by decide)

theorem pszBlock (x : DLBlock) (a : Int) (hw : WfD tLBlock x) (h0 : 0 ≤ a) (h1 : a ≤ 1048576) : SzR (Q_l_szBlock big x a) a (Bd tLBlock x) := by
  rw [Q_l_szBlock_eq]
  exact (szR_bind (pszCmdS _ _ (hw.2.2.1) h0 h1) h0 h1 fun v0 k0 l0 => szR_end).imp fun h => ⟨(Bd_flat rfl _), (Bd_flat rfl _), h.1, (Bd_flat rfl _), trivial⟩

theorem pszBlockS (x : DSlLBlock) (a : Int) (hw : WfD tSlLBlock x) (h0 : 0 ≤ a) (h1 : a ≤ 1048576) : SzR (Q_l_szBlockS big x a) a (Bd tSlLBlock x) := 
  szR_list (qe := fun y a => Q_l_szBlock big y a) (r := fun n a i => R_l_szBlockS_5 n x a i) (n := big) hw.1 h0 h1 (Q_l_szBlockS_eq big x a) (fun n a i => R_l_szBlockS_5_eq n x a i) (fun y hy a h0 h1 => pszBlock y a (hw.2 y hy) h0 h1) (by decide)

theorem pszIntS (x : DSlInt) (a : Int) (hw : WfD tSlInt x) (h0 : 0 ≤ a) (h1 : a ≤ 1048576) : SzR (Q_l_szIntS big x a) a (Bd tSlInt x) := by
  rw [Q_l_szIntS_eq]
  exact (szR_len (K := some) hw.1 h0 h1 fun v _ _ _ => szR_end).imp fun h => ⟨h.1, fun y _ => Bd_flat rfl y⟩

theorem pszCell (x : DLCell) (a : Int) (hw : WfD tLCell x) (h0 : 0 ≤ a) (h1 : a ≤ 1048576) : SzR (Q_l_szCell big x a) a (Bd tLCell x) := by
  rw [Q_l_szCell_eq]
  exact (szR_len (K := some) (hw.1) h0 h1 fun v0 k0 l0 _ => szR_end).imp fun h => (Bd_flat rfl _)

theorem pszCellS (x : DSlLCell) (a : Int) (hw : WfD tSlLCell x) (h0 : 0 ≤ a) (h1 : a ≤ 1048576) : SzR (Q_l_szCellS big x a) a (Bd tSlLCell x) := 
  szR_list (qe := fun y a => Q_l_szCell big y a) (r := fun n a i => R_l_szCellS_5 n x a i) (n := big) hw.1 h0 h1 (Q_l_szCellS_eq big x a) (fun n a i => R_l_szCellS_5_eq n x a i) (fun y hy a h0 h1 => pszCell y a (hw.2 y hy) h0 h1) (by decide)

theorem pszUndo (x : DLUndo) (a : Int) (hw : WfD tLUndo x) (h0 : 0 ≤ a) (h1 : a ≤ 1048576) : SzR (Q_l_szUndo big x a) a (Bd tLUndo x) := by
  rw [Q_l_szUndo_eq]
  exact (szR_len (K := some) (hw.1) h0 h1 fun v0 k0 l0 _ => szR_end).imp fun h => (Bd_flat rfl _)

theorem pszUndoS (x : DSlLUndo) (a : Int) (hw : WfD tSlLUndo x) (h0 : 0 ≤ a) (h1 : a ≤ 1048576) : SzR (Q_l_szUndoS big x a) a (Bd tSlLUndo x) := 
  szR_list (qe := fun y a => Q_l_szUndo big y a) (r := fun n a i => R_l_szUndoS_5 n x a i) (n := big) hw.1 h0 h1 (Q_l_szUndoS_eq big x a) (fun n a i => R_l_szUndoS_5_eq n x a i) (fun y hy a h0 h1 => pszUndo y a (hw.2 y hy) h0 h1) (by decide)

theorem pszVoteS (x : DSlLVote) (a : Int) (hw : WfD tSlLVote x) (h0 : 0 ≤ a) (h1 : a ≤ 1048576) : SzR (Q_l_szVoteS big x a) a (Bd tSlLVote x) := by
  rw [Q_l_szVoteS_eq]
  exact (szR_len (K := some) hw.1 h0 h1 fun v _ _ _ => szR_end).imp fun h => ⟨h.1, fun y _ => Bd_flat rfl y⟩

theorem pszLetterS (x : DSlLLetter) (a : Int) (hw : WfD tSlLLetter x) (h0 : 0 ≤ a) (h1 : a ≤ 1048576) : SzR (Q_l_szLetterS big x a) a (Bd tSlLLetter x) := by
  rw [Q_l_szLetterS_eq]
  exact (szR_len (K := some) hw.1 h0 h1 fun v _ _ _ => szR_end).imp fun h => ⟨h.1, fun y _ => Bd_flat rfl y⟩

theorem pszPeer (x : DLPeer) (a : Int) (hw : WfD tLPeer x) (h0 : 0 ≤ a) (h1 : a ≤ 1048576) : SzR (Q_l_szPeer big x a) a (Bd tLPeer x) := by
  rw [Q_l_szPeer_eq]
  exact (szR_bind (pszIntS _ _ (hw.2.2.2.2.2.1) h0 h1) h0 h1 fun v0 k0 l0 => szR_bind (pszCellS _ _ (hw.2.2.2.2.2.2.1) k0 l0) k0 l0 fun v1 k1 l1 => szR_bind (pszIntS _ _ (hw.2.2.2.2.2.2.2.1) k1 l1) k1 l1 fun v2 k2 l2 => szR_bind (pszUndoS _ _ (hw.2.2.2.2.2.2.2.2.1) k2 l2) k2 l2 fun v3 k3 l3 => szR_bind (pszVoteS _ _ (hw.2.2.2.2.2.2.2.2.2.1) k3 l3) k3 l3 fun v4 k4 l4 => szR_bind (pszLetterS _ _ (hw.2.2.2.2.2.2.2.2.2.2.1) k4 l4) k4 l4 fun v5 k5 l5 => szR_end).imp fun h => ⟨(Bd_flat rfl _), (Bd_flat rfl _), (Bd_flat rfl _), (Bd_flat rfl _), (Bd_flat rfl _), h.1, h.2.1, h.2.2.1, h.2.2.2.1, h.2.2.2.2.1, h.2.2.2.2.2.1, (Bd_flat rfl _), trivial⟩

theorem ptoCmd (x : DLCmd) (h : Bd tLCmd x) : Q_l_toCmd big x = some x := by
  rw [Q_l_toCmd_eq]

theorem ptoCmdS (x : DSlLCmd) (h : Bd tSlLCmd x) : Q_l_toCmdS big x = some x := by
  have := copy_ok (g := fun y => some y) (f := fun y => y) (r := fun n i b => R_l_toCmdS_3 n x i b) (n := big) (Q_l_toCmdS_eq big x) (fun n i b => R_l_toCmdS_3_eq n x i b) (fun _ _ => rfl) (Nat.le_trans h.1 (by decide)) (by decide)
  simpa using this

theorem ptoQc (x : DLQc) (h : Bd tLQc x) : Q_l_toQc big x = some x := by
  rw [Q_l_toQc_eq]

theorem ptoBlock (x : DLBlock) (h : Bd tLBlock x) : Q_l_toBlock big x = some x := by
  rw [Q_l_toBlock_eq, ptoCmdS _ (h.2.2.1)]
  rfl

theorem ptoBlockS (x : DSlLBlock) (h : Bd tSlLBlock x) : Q_l_toBlockS big x = some x := by
  have := copy_ok (g := fun y => Q_l_toBlock big y) (f := fun y => y) (r := fun n i b => R_l_toBlockS_3 n x i b) (n := big) (Q_l_toBlockS_eq big x) (fun n i b => R_l_toBlockS_3_eq n x i b) (fun y hy => ptoBlock y (h.2 y hy)) (Nat.le_trans h.1 (by decide)) (by decide)
  simpa using this

theorem ptoVote (x : DLVote) (h : Bd tLVote x) : Q_l_toVote big x = some x := by
  rw [Q_l_toVote_eq]

theorem ptoIntS (x : DSlInt) (h : Bd tSlInt x) : Q_l_toIntS big x = some x := by
  have := copy_ok (g := fun y => some y) (f := fun y => y) (r := fun n i b => R_l_toIntS_3 n x i b) (n := big) (Q_l_toIntS_eq big x) (fun n i b => R_l_toIntS_3_eq n x i b) (fun _ _ => rfl) (Nat.le_trans h.1 (by decide)) (by decide)
  simpa using this

theorem ptoCell (x : DLCell) (h : Bd tLCell x) : Q_l_toCell big x = some x := by
  rw [Q_l_toCell_eq]

theorem ptoCellS (x : DSlLCell) (h : Bd tSlLCell x) : Q_l_toCellS big x = some x := by
  have := copy_ok (g := fun y => some y) (f := fun y => y) (r := fun n i b => R_l_toCellS_3 n x i b) (n := big) (Q_l_toCellS_eq big x) (fun n i b => R_l_toCellS_3_eq n x i b) (fun _ _ => rfl) (Nat.le_trans h.1 (by decide)) (by decide)
  simpa using this

theorem ptoUndo (x : DLUndo) (h : Bd tLUndo x) : Q_l_toUndo big x = some x := by
  rw [Q_l_toUndo_eq]

theorem ptoUndoS (x : DSlLUndo) (h : Bd tSlLUndo x) : Q_l_toUndoS big x = some x := by
  have := copy_ok (g := fun y => some y) (f := fun y => y) (r := fun n i b => R_l_toUndoS_3 n x i b) (n := big) (Q_l_toUndoS_eq big x) (fun n i b => R_l_toUndoS_3_eq n x i b) (fun _ _ => rfl) (Nat.le_trans h.1 (by decide)) (by decide)
  simpa using this

theorem ptoVoteS (x : DSlLVote) (h : Bd tSlLVote x) : Q_l_toVoteS big x = some x := by
  have := copy_ok (g := fun y => some y) (f := fun y => y) (r := fun n i b => R_l_toVoteS_3 n x i b) (n := big) (Q_l_toVoteS_eq big x) (fun n i b => R_l_toVoteS_3_eq n x i b) (fun _ _ => rfl) (Nat.le_trans h.1 (by decide)) (by decide)
  simpa using this

theorem ptoLetter (x : DLLetter) (h : Bd tLLetter x) : Q_l_toLetter big x = some x := by
  rw [Q_l_toLetter_eq]

theorem ptoLetterS (x : DSlLLetter) (h : Bd tSlLLetter x) : Q_l_toLetterS big x = some x := by
  have := copy_ok (g := fun y => some y) (f := fun y => y) (r := fun n i b => R_l_toLetterS_3 n x i b) (n := big) (Q_l_toLetterS_eq big x) (fun n i b => R_l_toLetterS_3_eq n x i b) (fun _ _ => rfl) (Nat.le_trans h.1 (by decide)) (by decide)
  simpa using this

theorem ptoPeer (x : DLPeer) (h : Bd tLPeer x) : Q_l_toPeer big x = some x := by
  rw [Q_l_toPeer_eq, ptoIntS _ (h.2.2.2.2.2.1), ptoCellS _ (h.2.2.2.2.2.2.1), ptoIntS _ (h.2.2.2.2.2.2.2.1), ptoUndoS _ (h.2.2.2.2.2.2.2.2.1), ptoVoteS _ (h.2.2.2.2.2.2.2.2.2.1), ptoLetterS _ (h.2.2.2.2.2.2.2.2.2.2.1)]
  rfl

theorem peqCmd (x : DICmd) (h : Bg tICmd x) : Q_l_eqCmd big x x = some true := by
  rw [Q_l_eqCmd_eq]
  simp only [decide_true, Bool.not_true, cond_false]

theorem peqCmdS (x : DSlICmd) (h : Bg tSlICmd x) : Q_l_eqCmdS big x x = some true := 
  eq_ok (e := fun y y1 => Q_l_eqCmd big y y1) (r := fun n i => R_l_eqCmdS_4 n x x i) (n := big) (Q_l_eqCmdS_eq big x x) (fun n i => R_l_eqCmdS_4_eq n x x i) (fun y hy => peqCmd y (h.2 y hy)) h.1 (by decide)

theorem peqQc (x : DIQc) (h : Bg tIQc x) : Q_l_eqQc big x x = some true := by
  rw [Q_l_eqQc_eq]
  simp only [decide_true, Bool.not_true, cond_false]

theorem peqBlock (x : DIBlock) (h : Bg tIBlock x) : Q_l_eqBlock big x x = some true := by
  rw [Q_l_eqBlock_eq]
  simp only [decide_true, Bool.not_true, cond_false, Option.bind_some, peqCmdS _ (h.2.2.1), peqQc _ (h.2.2.2.1)]

theorem peqBlockS (x : DSlIBlock) (h : Bg tSlIBlock x) : Q_l_eqBlockS big x x = some true := 
  eq_ok (e := fun y y1 => Q_l_eqBlock big y y1) (r := fun n i => R_l_eqBlockS_4 n x x i) (n := big) (Q_l_eqBlockS_eq big x x) (fun n i => R_l_eqBlockS_4_eq n x x i) (fun y hy => peqBlock y (h.2 y hy)) h.1 (by decide)

theorem peqVote (x : DIVote) (h : Bg tIVote x) : Q_l_eqVote big x x = some true := by
  rw [Q_l_eqVote_eq]
  simp only [decide_true, Bool.not_true, cond_false]

theorem peqIntS (x : DSlInt) (h : Bg tSlInt x) : Q_l_eqIntS big x x = some true := 
  eq_ok (e := fun y y1 => some (decide (y = y1))) (r := fun n i => R_l_eqIntS_4 n x x i) (n := big) (Q_l_eqIntS_eq big x x) (fun n i => R_l_eqIntS_4_eq n x x i) (fun y _ => by simp) h.1 (by decide)

theorem peqCell (x : DICell) (h : Bg tICell x) : Q_l_eqCell big x x = some true := by
  rw [Q_l_eqCell_eq]
  simp only [decide_true, Bool.not_true, cond_false]

theorem peqCellS (x : DSlICell) (h : Bg tSlICell x) : Q_l_eqCellS big x x = some true := 
  eq_ok (e := fun y y1 => Q_l_eqCell big y y1) (r := fun n i => R_l_eqCellS_4 n x x i) (n := big) (Q_l_eqCellS_eq big x x) (fun n i => R_l_eqCellS_4_eq n x x i) (fun y hy => peqCell y (h.2 y hy)) h.1 (by decide)

theorem peqUndo (x : DIUndo) (h : Bg tIUndo x) : Q_l_eqUndo big x x = some true := by
  rw [Q_l_eqUndo_eq]
  simp only [decide_true, beq_self_eq_true, Bool.not_true, cond_false]

theorem peqUndoS (x : DSlIUndo) (h : Bg tSlIUndo x) : Q_l_eqUndoS big x x = some true := 
  eq_ok (e := fun y y1 => Q_l_eqUndo big y y1) (r := fun n i => R_l_eqUndoS_4 n x x i) (n := big) (Q_l_eqUndoS_eq big x x) (fun n i => R_l_eqUndoS_4_eq n x x i) (fun y hy => peqUndo y (h.2 y hy)) h.1 (by decide)

theorem peqVoteS (x : DSlIVote) (h : Bg tSlIVote x) : Q_l_eqVoteS big x x = some true := 
  eq_ok (e := fun y y1 => Q_l_eqVote big y y1) (r := fun n i => R_l_eqVoteS_4 n x x i) (n := big) (Q_l_eqVoteS_eq big x x) (fun n i => R_l_eqVoteS_4_eq n x x i) (fun y hy => peqVote y (h.2 y hy)) h.1 (by decide)

theorem peqLetter (x : DILetter) (h : Bg tILetter x) : Q_l_eqLetter big x x = some true := by
  rw [Q_l_eqLetter_eq]
  simp only [decide_true, Bool.not_true, cond_false, Option.bind_some, peqQc _ (h.2.2.2.2.2.1), peqVote _ (h.2.2.2.2.2.2.1)]

theorem peqLetterS (x : DSlILetter) (h : Bg tSlILetter x) : Q_l_eqLetterS big x x = some true := 
  eq_ok (e := fun y y1 => Q_l_eqLetter big y y1) (r := fun n i => R_l_eqLetterS_4 n x x i) (n := big) (Q_l_eqLetterS_eq big x x) (fun n i => R_l_eqLetterS_4_eq n x x i) (fun y hy => peqLetter y (h.2 y hy)) h.1 (by decide)

theorem peqPeer (x : DIPeer) (h : Bg tIPeer x) : Q_l_eqPeer big x x = some true := by
  rw [Q_l_eqPeer_eq]
  simp only [decide_true, Bool.not_true, cond_false, Option.bind_some, peqQc _ (h.2.2.1), peqQc _ (h.2.2.2.1), peqVote _ (h.2.2.2.2.1), peqIntS _ (h.2.2.2.2.2.1), peqCellS _ (h.2.2.2.2.2.2.1), peqIntS _ (h.2.2.2.2.2.2.2.1), peqUndoS _ (h.2.2.2.2.2.2.2.2.1), peqVoteS _ (h.2.2.2.2.2.2.2.2.2.1), peqLetterS _ (h.2.2.2.2.2.2.2.2.2.2.1)]

end Go.Sx.Try

set_option maxRecDepth 100000
namespace Go.Sx.Try
open Go Go.Sx Go.Proofs

theorem clone_ok {α : Type} (xs : List α) (h : xs.length ≤ 16777216) : (nilC xs fun b => bif b then some [] else if (0 : Nat) + List.length xs ≤ lim then some xs else none) = some xs := by
  cases xs with
  | nil => exact both_self _
  | cons x l =>
    simp only [nilC, cond_false]
    rw [if_pos (by unfold lim; omega)]
theorem pClone_Int (x : DSlInt) (h : x.length ≤ 16777216) : Q_g_Clone_Int big x = some x := by rw [Q_g_Clone_Int_eq]; exact clone_ok x h
theorem pClone_ICell (x : DSlICell) (h : x.length ≤ 16777216) : Q_g_Clone_ICell big x = some x := by rw [Q_g_Clone_ICell_eq]; exact clone_ok x h
theorem pClone_IUndo (x : DSlIUndo) (h : x.length ≤ 16777216) : Q_g_Clone_IUndo big x = some x := by rw [Q_g_Clone_IUndo_eq]; exact clone_ok x h
theorem pClone_IVote (x : DSlIVote) (h : x.length ≤ 16777216) : Q_g_Clone_IVote big x = some x := by rw [Q_g_Clone_IVote_eq]; exact clone_ok x h
theorem pClone_ILetter (x : DSlILetter) (h : x.length ≤ 16777216) : Q_g_Clone_ILetter big x = some x := by rw [Q_g_Clone_ILetter_eq]; exact clone_ok x h

/-- a peer whose lists are rather short -/
structure PeerB (x : DIPeer) : Prop where
  row : List.length x.2.2.2.2.2.1 ≤ 16777216
  cells : List.length x.2.2.2.2.2.2.1 ≤ 16777216
  early : List.length x.2.2.2.2.2.2.2.1 ≤ 16777216
  undos : List.length x.2.2.2.2.2.2.2.2.1 ≤ 16777216
  votes : List.length x.2.2.2.2.2.2.2.2.2.1 ≤ 16777216
  news : List.length x.2.2.2.2.2.2.2.2.2.2.1 ≤ 16777216
theorem PeerB.of {x : DIPeer} (h : Bg tIPeer x) : PeerB x :=
  ⟨h.2.2.2.2.2.1.1, h.2.2.2.2.2.2.1.1, h.2.2.2.2.2.2.2.1.1, h.2.2.2.2.2.2.2.2.1.1, h.2.2.2.2.2.2.2.2.2.1.1, h.2.2.2.2.2.2.2.2.2.2.1.1⟩
theorem PeerB.bg {x : DIPeer} (h : PeerB x) : Bg tIPeer x :=
  ⟨trivial, trivial, Bg_flat rfl _, Bg_flat rfl _, Bg_flat rfl _, ⟨h.row, fun _ _ => trivial⟩, ⟨h.cells, fun _ _ => Bg_flat rfl _⟩, ⟨h.early, fun _ _ => trivial⟩, ⟨h.undos, fun _ _ => Bg_flat rfl _⟩,
    ⟨h.votes, fun _ _ => Bg_flat rfl _⟩, ⟨h.news, fun _ _ => Bg_flat rfl _⟩, trivial, trivial⟩

theorem p_clonePeer (x : DIPeer) (h : PeerB x) : Q_i_clonePeer big x = some x := by
  rw [Q_i_clonePeer_eq]
  simp only [pClone_Int _ h.row, pClone_ICell _ h.cells, pClone_Int _ h.early, pClone_IUndo _ h.undos, pClone_IVote _ h.votes, pClone_ILetter _ h.news, Option.bind_some]
theorem p_l09Copy (x : DIPeer) (h : PeerB x) : Q_s_l09Copy big x = some x := by
  rw [Q_s_l09Copy_eq]
  have := h.row; have := h.cells; have := h.early; have := h.undos; have := h.votes; have := h.news
  unfold lim
  repeat rw [if_pos (by omega)]

end Go.Sx.Try

set_option maxRecDepth 100000
namespace Go.Sx.Try
open Go Go.Sx Go.Proofs

theorem text_ex : ∀ (n : Nat) (f : Nat) (k : Int) (s : ByteArray), n < f → 0 ≤ k → k ≤ 4611686018427387904 → k < 2 ^ n → s.size + n ≤ 100 → ∃ t, R_l_markText_4 f k s = some t
  | n, 0, k, s, h, _, _, _, _ => by omega
  | n, f + 1, k, s, h1, h2, h2', h3, h4 => by
    rw [R_l_markText_4_eq]
    by_cases hk : (0 : Int) < k
    · rw [decide_eq_true hk]
      simp only [cond_true]
      cases n with
      | zero => simp at h3; omega
      | succ n =>
        have hsz : ∀ x : Int, (ByteArray.mk (List.map (fun n => UInt8.ofNat (Int.toNat n)) [x]).toArray).size = 1 := fun _ => rfl
        rw [if_pos (by rw [hsz]; simp only [lim]; omega)]
        have h5 : Int.tdiv k 10 = k / 10 := by rw [Int.tdiv_eq_ediv_of_nonneg h2]
        rw [h5, wrap64 (n := k / 10) (by omega) (by omega)]
        exact text_ex n f (k / 10) _ (by omega) (by omega) (by omega) (by
          have : (2 : Int) ^ (n + 1) = 2 * 2 ^ n := by rw [Int.pow_succ]; omega
          omega) (by rw [ByteArray.size_append, hsz]; omega)
    · rw [decide_eq_false hk]
      simp only [cond_false]
      have hsz : (ByteArray.mk #[(109 : UInt8)]).size = 1 := rfl
      rw [if_pos (by rw [hsz]; simp only [lim]; omega)]
      exact ⟨_, rfl⟩
/-- the text of a mark -/
noncomputable def mt (k : Int) : ByteArray := (Q_l_markText big k).getD ByteArray.empty
theorem pmt {k : Int} (h1 : 0 < k) (h2 : k ≤ 4611686018427387904) : Q_l_markText big k = some (mt k) := by
  have : ∃ t, Q_l_markText big k = some t := by
    rw [Q_l_markText_eq, decide_eq_false (show ¬ k ≤ 0 by omega)]
    simp only [cond_false]
    exact text_ex 63 big k _ (by decide) (by omega) (by omega) (by omega) (by decide)
  obtain ⟨t, ht⟩ := this
  unfold mt
  rw [ht]; rfl

theorem mh_IntS {xs : List Int} (hl : xs.length ≤ 16777216) {k : Int} (hk : 0 < k) (hM : k + 16777216 * 1 ≤ 4611686018427387904) :
    ∃ (k' : Int) (b' : List Int), Q_l_markIntS big xs k = some (k', b', ()) ∧ Q_l_heldIntS big b' k = some k' ∧ k ≤ k' ∧ k' ≤ k + 16777216 * 1 := by
  simp only [Q_l_markIntS_eq, Q_l_heldIntS_eq]
  refine mh_list (xs := xs) (W := 1) (B := fun _ => True) (r := fun n k i b => R_l_markIntS_2 n k i b) (s := fun n b k i => R_l_heldIntS_2 n b k i) (n := big) (by decide) (fun k i b hi _ h1 h2 h3 => ?_) (fun n k b => ?_) (fun n k b => ?_) (by decide) hl (fun _ _ => trivial) hk (by omega)
  · have h4 : (i : Int) < (b.length : Int) := by omega
    refine ⟨(k : Int), k + 1, by omega, by omega, fun n => ?_, fun m b' hb' => ?_⟩
    · rw [R_l_markIntS_2_eq, decide_eq_true h4]
      simp only [cond_true, mk1 hi, mk2 hi]
      simp (disch := omega) only [wrap64, pmt, Option.bind_some, mk1 hi, mk2 hi]
    · have h5 : (i : Int) < (b'.length : Int) := by have := nth_lt hb'; omega
      simp (disch := omega) only [R_l_heldIntS_2_eq, h5, decide_true, cond_true, Int.natCast_nonneg, if_true, Int.toNat_natCast, hb', Option.bind_some, wrap64, Bool.not_true, cond_false, pmt, beq_self_eq_true]
  · simp only [R_l_markIntS_2_eq, Int.lt_irrefl, decide_false, cond_false]
  · simp only [R_l_heldIntS_2_eq, Int.lt_irrefl, decide_false, cond_false]
theorem mh_CellS {xs : List DICell} (hl : xs.length ≤ 16777216) {k : Int} (hk : 0 < k) (hM : k + 16777216 * 2 ≤ 4611686018427387904) :
    ∃ (k' : Int) (b' : List DICell), Q_l_markCellS big xs k = some (k', b', ()) ∧ Q_l_heldCellS big b' k = some k' ∧ k ≤ k' ∧ k' ≤ k + 16777216 * 2 := by
  simp only [Q_l_markCellS_eq, Q_l_heldCellS_eq]
  refine mh_list (xs := xs) (W := 2) (B := fun _ => True) (r := fun n k i b => R_l_markCellS_2 n k i b) (s := fun n b k i => R_l_heldCellS_2 n b k i) (n := big) (by decide) (fun k i b hi _ h1 h2 h3 => ?_) (fun n k b => ?_) (fun n k b => ?_) (by decide) hl (fun _ _ => trivial) hk (by omega)
  · have h4 : (i : Int) < (b.length : Int) := by omega
    refine ⟨((mt k, k + 1, ()) : DICell), k + 1 + 1, by omega, by omega, fun n => ?_, fun m b' hb' => ?_⟩
    · rw [R_l_markCellS_2_eq, decide_eq_true h4]
      simp only [cond_true, mk1 hi, mk2 hi]
      simp (disch := omega) only [wrap64, pmt, Option.bind_some, mk1 hi, mk2 hi]
    · have h5 : (i : Int) < (b'.length : Int) := by have := nth_lt hb'; omega
      simp (disch := omega) only [R_l_heldCellS_2_eq, h5, decide_true, cond_true, Int.natCast_nonneg, if_true, Int.toNat_natCast, hb', Option.bind_some, wrap64, Bool.not_true, cond_false, pmt, beq_self_eq_true]
  · simp only [R_l_markCellS_2_eq, Int.lt_irrefl, decide_false, cond_false]
  · simp only [R_l_heldCellS_2_eq, Int.lt_irrefl, decide_false, cond_false]
theorem mh_UndoS {xs : List DIUndo} (hl : xs.length ≤ 16777216) {k : Int} (hk : 0 < k) (hM : k + 16777216 * 3 ≤ 4611686018427387904) :
    ∃ (k' : Int) (b' : List DIUndo), Q_l_markUndoS big xs k = some (k', b', ()) ∧ Q_l_heldUndoS big b' k = some k' ∧ k ≤ k' ∧ k' ≤ k + 16777216 * 3 := by
  simp only [Q_l_markUndoS_eq, Q_l_heldUndoS_eq]
  refine mh_list (xs := xs) (W := 3) (B := fun _ => True) (r := fun n k i b => R_l_markUndoS_2 n k i b) (s := fun n b k i => R_l_heldUndoS_2 n b k i) (n := big) (by decide) (fun k i b hi _ h1 h2 h3 => ?_) (fun n k b => ?_) (fun n k b => ?_) (by decide) hl (fun _ _ => trivial) hk (by omega)
  · have h4 : (i : Int) < (b.length : Int) := by omega
    refine ⟨((mt k, decide ((k + 1).tmod 3 = 0), k + 1 + 1, ()) : DIUndo), k + 1 + 1 + 1, by omega, by omega, fun n => ?_, fun m b' hb' => ?_⟩
    · rw [R_l_markUndoS_2_eq, decide_eq_true h4]
      simp only [cond_true, mk1 hi, mk2 hi]
      simp (disch := omega) only [wrap64, pmt, Option.bind_some, mk1 hi, mk2 hi]
    · have h5 : (i : Int) < (b'.length : Int) := by have := nth_lt hb'; omega
      simp (disch := omega) only [R_l_heldUndoS_2_eq, h5, decide_true, cond_true, Int.natCast_nonneg, if_true, Int.toNat_natCast, hb', Option.bind_some, wrap64, Bool.not_true, cond_false, pmt, beq_self_eq_true]
  · simp only [R_l_markUndoS_2_eq, Int.lt_irrefl, decide_false, cond_false]
  · simp only [R_l_heldUndoS_2_eq, Int.lt_irrefl, decide_false, cond_false]
theorem mh_VoteS {xs : List DIVote} (hl : xs.length ≤ 16777216) {k : Int} (hk : 0 < k) (hM : k + 16777216 * 4 ≤ 4611686018427387904) :
    ∃ (k' : Int) (b' : List DIVote), Q_l_markVoteS big xs k = some (k', b', ()) ∧ Q_l_heldVoteS big b' k = some k' ∧ k ≤ k' ∧ k' ≤ k + 16777216 * 4 := by
  simp only [Q_l_markVoteS_eq, Q_l_heldVoteS_eq]
  refine mh_list (xs := xs) (W := 4) (B := fun _ => True) (r := fun n k i b => R_l_markVoteS_2 n k i b) (s := fun n b k i => R_l_heldVoteS_2 n b k i) (n := big) (by decide) (fun k i b hi _ h1 h2 h3 => ?_) (fun n k b => ?_) (fun n k b => ?_) (by decide) hl (fun _ _ => trivial) hk (by omega)
  · have h4 : (i : Int) < (b.length : Int) := by omega
    refine ⟨((k, k + 1, k + 1 + 1, k + 1 + 1 + 1, ()) : DIVote), k + 1 + 1 + 1 + 1, by omega, by omega, fun n => ?_, fun m b' hb' => ?_⟩
    · rw [R_l_markVoteS_2_eq, decide_eq_true h4]
      simp only [cond_true, mk1 hi, mk2 hi]
      simp (disch := omega) only [wrap64, pmt, Option.bind_some, mk1 hi, mk2 hi]
    · have h5 : (i : Int) < (b'.length : Int) := by have := nth_lt hb'; omega
      simp (disch := omega) only [R_l_heldVoteS_2_eq, h5, decide_true, cond_true, Int.natCast_nonneg, if_true, Int.toNat_natCast, hb', Option.bind_some, wrap64, Bool.not_true, cond_false, pmt, beq_self_eq_true]
  · simp only [R_l_markVoteS_2_eq, Int.lt_irrefl, decide_false, cond_false]
  · simp only [R_l_heldVoteS_2_eq, Int.lt_irrefl, decide_false, cond_false]
theorem mh_LetterS {xs : List DILetter} (hl : xs.length ≤ 16777216) {k : Int} (hk : 0 < k) (hM : k + 16777216 * 13 ≤ 4611686018427387904) :
    ∃ (k' : Int) (b' : List DILetter), Q_l_markLetterS big xs k = some (k', b', ()) ∧ Q_l_heldLetterS big b' k = some k' ∧ k ≤ k' ∧ k' ≤ k + 16777216 * 13 := by
  simp only [Q_l_markLetterS_eq, Q_l_heldLetterS_eq]
  refine mh_list (xs := xs) (W := 13) (B := fun _ => True) (r := fun n k i b => R_l_markLetterS_2 n k i b) (s := fun n b k i => R_l_heldLetterS_2 n b k i) (n := big) (by decide) (fun k i b hi _ h1 h2 h3 => ?_) (fun n k b => ?_) (fun n k b => ?_) (by decide) hl (fun _ _ => trivial) hk (by omega)
  · have h4 : (i : Int) < (b.length : Int) := by omega
    refine ⟨((k, k + 1, k + 1 + 1, k + 1 + 1 + 1, k + 1 + 1 + 1 + 1, (k + 1 + 1 + 1 + 1 + 1, k + 1 + 1 + 1 + 1 + 1 + 1, k + 1 + 1 + 1 + 1 + 1 + 1 + 1, k + 1 + 1 + 1 + 1 + 1 + 1 + 1 + 1, ()), (k + 1 + 1 + 1 + 1 + 1 + 1 + 1 + 1 + 1, k + 1 + 1 + 1 + 1 + 1 + 1 + 1 + 1 + 1 + 1, k + 1 + 1 + 1 + 1 + 1 + 1 + 1 + 1 + 1 + 1 + 1, k + 1 + 1 + 1 + 1 + 1 + 1 + 1 + 1 + 1 + 1 + 1 + 1, ()), ()) : DILetter), k + 1 + 1 + 1 + 1 + 1 + 1 + 1 + 1 + 1 + 1 + 1 + 1 + 1, by omega, by omega, fun n => ?_, fun m b' hb' => ?_⟩
    · rw [R_l_markLetterS_2_eq, decide_eq_true h4]
      simp only [cond_true, mk1 hi, mk2 hi]
      simp (disch := omega) only [wrap64, pmt, Option.bind_some, mk1 hi, mk2 hi]
    · have h5 : (i : Int) < (b'.length : Int) := by have := nth_lt hb'; omega
      simp (disch := omega) only [R_l_heldLetterS_2_eq, h5, decide_true, cond_true, Int.natCast_nonneg, if_true, Int.toNat_natCast, hb', Option.bind_some, wrap64, Bool.not_true, cond_false, pmt, beq_self_eq_true]
  · simp only [R_l_markLetterS_2_eq, Int.lt_irrefl, decide_false, cond_false]
  · simp only [R_l_heldLetterS_2_eq, Int.lt_irrefl, decide_false, cond_false]

end Go.Sx.Try

set_option maxRecDepth 100000
namespace Go.Sx.Try
open Go Go.Sx Go.Proofs

theorem not_neg {k : Int} (h : 0 < k) : decide (k < 0) = false := decide_eq_false (by omega)

/-- what of a peer is its lists, put back -/
abbrev peerWith (x : DIPeer) (a : List Int) (b : List DICell) (c : List Int) (d : List DIUndo) (e : List DIVote) (f : List DILetter) : DIPeer :=
  (x.1, x.2.1, x.2.2.1, x.2.2.2.1, x.2.2.2.2.1, a, b, c, d, e, f, x.2.2.2.2.2.2.2.2.2.2.2)

theorem mh_Peer {x : DIPeer} (h : PeerB x) {k : Int} (hk : 0 < k) (hM : k + 16777216 * 24 ≤ 4611686018427387904) :
    ∃ (k' : Int), ∃ y, Q_l_markPeer big x k = some (k', y, ()) ∧ k ≤ k' ∧ k' ≤ k + 16777216 * 24 ∧
      Q_l_heldPeer big (x.1, x.2.1, x.2.2.1, x.2.2.2.1, x.2.2.2.2.1, y.2.2.2.2.2.1, y.2.2.2.2.2.2.1, y.2.2.2.2.2.2.2.1, y.2.2.2.2.2.2.2.2.1, y.2.2.2.2.2.2.2.2.2.1, y.2.2.2.2.2.2.2.2.2.2.1, x.2.2.2.2.2.2.2.2.2.2.2) k = some k' := by
  obtain ⟨k1, b1, m1, h1, l1, u1⟩ := mh_IntS h.row hk (by omega)
  obtain ⟨k2, b2, m2, h2, l2, u2⟩ := mh_CellS h.cells (k := k1) (by omega) (by omega)
  obtain ⟨k3, b3, m3, h3, l3, u3⟩ := mh_IntS h.early (k := k2) (by omega) (by omega)
  obtain ⟨k4, b4, m4, h4, l4, u4⟩ := mh_UndoS h.undos (k := k3) (by omega) (by omega)
  obtain ⟨k5, b5, m5, h5, l5, u5⟩ := mh_VoteS h.votes (k := k4) (by omega) (by omega)
  obtain ⟨k6, b6, m6, h6, l6, u6⟩ := mh_LetterS h.news (k := k5) (by omega) (by omega)
  refine ⟨k6, ((), (), ((), (), (), (), ()), ((), (), (), (), ()), ((), (), (), (), ()), b1, b2, b3, b4, b5, b6, (), ()), ?_, by omega, by omega, ?_⟩
  · rw [Q_l_markPeer_eq]
    simp only [m1, m2, m3, m4, m5, m6, Option.bind_some]
  · rw [Q_l_heldPeer_eq]
    simp (disch := omega) only [h1, h2, h3, h4, h5, h6, Option.bind_some, not_neg, cond_false]

end Go.Sx.Try

set_option maxRecDepth 100000
namespace Go.Sx.Try
open Go Go.Sx Go.Proofs
theorem mk5 {α β : Type} {b : List α} {i : Nat} (h : i < b.length) (x z : α) (K : List α → Option β) :
    (updO (upd b i x) (Int.toNat (i : Int)) z).bind K = K (upd b i z) := by
  rw [Int.toNat_natCast, updO_upd h]
  rfl
theorem ck {α β : Type} {a b : α} [Decidable (a = b)] (h : a = b) (x y : β) : (bif !decide (a = b) then x else y) = y := by
  rw [decide_eq_true h]; rfl

theorem mh_CmdS {xs : List DICmd} (hl : xs.length ≤ 16777216) {k : Int} (hk : 0 < k) (hM : k + 16777216 * 3 ≤ 4611686018427387904) :
    ∃ (k' : Int) (b' : List DICmd), Q_l_markCmdS big xs k = some (k', b', ()) ∧ Q_l_heldCmdS big b' k = some k' ∧ k ≤ k' ∧ k' ≤ k + 16777216 * 3 := by
  simp only [Q_l_markCmdS_eq, Q_l_heldCmdS_eq]
  refine mh_list (xs := xs) (W := 3) (B := fun _ => True) (r := fun n k i b => R_l_markCmdS_2 n k i b) (s := fun n b k i => R_l_heldCmdS_2 n b k i) (n := big) (by decide) (fun k i b hi _ h1 h2 h3 => ?_) (fun n k b => ?_) (fun n k b => ?_) (by decide) hl (fun _ _ => trivial) hk (by omega)
  · have h4 : (i : Int) < (b.length : Int) := by omega
    refine ⟨((k, mt (k + 1), k + 1 + 1, ()) : DICmd), k + 1 + 1 + 1, by omega, by omega, fun n => ?_, fun m b' hb' => ?_⟩
    · rw [R_l_markCmdS_2_eq, decide_eq_true h4]
      simp only [cond_true, mk1 hi, mk2 hi]
      simp (disch := omega) only [wrap64, pmt, Option.bind_some, mk1 hi, mk2 hi]
    · have h5 : (i : Int) < (b'.length : Int) := by have := nth_lt hb'; omega
      simp (disch := omega) only [R_l_heldCmdS_2_eq, h5, decide_true, cond_true, Int.natCast_nonneg, if_true, Int.toNat_natCast, hb', Option.bind_some, wrap64, Bool.not_true, cond_false, pmt, beq_self_eq_true]
  · simp only [R_l_markCmdS_2_eq, Int.lt_irrefl, decide_false, cond_false]
  · simp only [R_l_heldCmdS_2_eq, Int.lt_irrefl, decide_false, cond_false]

theorem mh_BlockS {xs : List DIBlock} (hl : xs.length ≤ 16777216) (hB : ∀ x ∈ xs, (fun x => List.length x.2.2.1 ≤ 16777216 : DIBlock → Prop) x) {k : Int} (hk : 0 < k) (hM : k + 16777216 * 50331654 ≤ 4611686018427387904) :
    ∃ (k' : Int) (b' : List DIBlock), Q_l_markBlockS big xs k = some (k', b', ()) ∧ Q_l_heldBlockS big b' k = some k' ∧ k ≤ k' ∧ k' ≤ k + 16777216 * 50331654 := by
  simp only [Q_l_markBlockS_eq, Q_l_heldBlockS_eq]
  refine mh_list (xs := xs) (W := 50331654) (B := fun x => List.length x.2.2.1 ≤ 16777216) (r := fun n k i b => R_l_markBlockS_2 n k i b) (s := fun n b k i => R_l_heldBlockS_2 n b k i) (n := big) (by decide) (fun k i b hi hx h1 h2 h3 => ?_) (fun n k b => ?_) (fun n k b => ?_) (by decide) hl hB hk (by omega)
  · have h4 : (i : Int) < (b.length : Int) := by omega
    obtain ⟨k1, b1, m1, g1, l1, u1⟩ := mh_CmdS hx (k := k + 1 + 1) (by omega) (by omega)
    refine ⟨((k, k + 1, b1, (k1, k1 + 1, k1 + 1 + 1, k1 + 1 + 1 + 1, ()), ()) : DIBlock), k1 + 1 + 1 + 1 + 1, by omega, by omega, fun n => ?_, fun m b' hb' => ?_⟩
    · rw [R_l_markBlockS_2_eq, decide_eq_true h4, cond_true]
      rw [mk1 hi]
      rw [mk2 hi]
      dsimp only
      rw [wrap64 (n := k + 1) (by omega) (by omega), wrap64 (n := k + 1 + 1) (by omega) (by omega)]
      rw [mk3 hi, show Q_l_markCmdS big _ (k + 1 + 1) = _ from m1, Option.bind_some, mk5 hi]
      dsimp only
      rw [mk2 hi]
      dsimp only
      rw [mk2 hi]
      dsimp only
      rw [mk2 hi]
      dsimp only
      rw [mk2 hi]
      dsimp only
      rw [wrap64 (n := k1 + 1) (by omega) (by omega), wrap64 (n := k1 + 1 + 1) (by omega) (by omega), wrap64 (n := k1 + 1 + 1 + 1) (by omega) (by omega), wrap64 (n := k1 + 1 + 1 + 1 + 1) (by omega) (by omega)]
      rw [wrap64 (n := (i : Int) + 1) (by omega) (by omega)]
    · have h5 : (i : Int) < (b'.length : Int) := by have := nth_lt hb'; omega
      rw [R_l_heldBlockS_2_eq, decide_eq_true h5, cond_true]
      rw [wrap64 (n := k + 1) (by omega) (by omega), wrap64 (n := k + 1 + 1) (by omega) (by omega)]
      rw [mk4 hb']
      dsimp only
      rw [ck rfl]
      rw [mk4 hb']
      dsimp only
      rw [ck rfl]
      rw [mk4 hb']
      dsimp only
      rw [show Q_l_heldCmdS big _ (k + 1 + 1) = _ from g1, Option.bind_some, not_neg (by omega), cond_false]
      rw [wrap64 (n := k1 + 1) (by omega) (by omega), wrap64 (n := k1 + 1 + 1) (by omega) (by omega), wrap64 (n := k1 + 1 + 1 + 1) (by omega) (by omega), wrap64 (n := k1 + 1 + 1 + 1 + 1) (by omega) (by omega)]
      rw [mk4 hb']
      dsimp only
      rw [ck rfl]
      rw [mk4 hb']
      dsimp only
      rw [ck rfl]
      rw [mk4 hb']
      dsimp only
      rw [ck rfl]
      rw [mk4 hb']
      dsimp only
      rw [ck rfl]
      rw [wrap64 (n := (i : Int) + 1) (by omega) (by omega)]
  · simp only [R_l_markBlockS_2_eq, Int.lt_irrefl, decide_false, cond_false]
  · simp only [R_l_heldBlockS_2_eq, Int.lt_irrefl, decide_false, cond_false]

theorem mh_PeerS {xs : List DIPeer} (hl : xs.length ≤ 16777216) (hB : ∀ x ∈ xs, (PeerB : DIPeer → Prop) x) {k : Int} (hk : 0 < k) (hM : k + 16777216 * 402653199 ≤ 4611686018427387904) :
    ∃ (k' : Int) (b' : List DIPeer), Q_l_markPeerS big xs k = some (k', b', ()) ∧ Q_l_heldPeerS big b' k = some k' ∧ k ≤ k' ∧ k' ≤ k + 16777216 * 402653199 := by
  simp only [Q_l_markPeerS_eq, Q_l_heldPeerS_eq]
  refine mh_list (xs := xs) (W := 402653199) (B := PeerB) (r := fun n k i b => R_l_markPeerS_2 n k i b) (s := fun n b k i => R_l_heldPeerS_2 n b k i) (n := big) (by decide) (fun k i b hi hx h1 h2 h3 => ?_) (fun n k b => ?_) (fun n k b => ?_) (by decide) hl hB hk (by omega)
  · have h4 : (i : Int) < (b.length : Int) := by omega
    obtain ⟨k1, b1, m1, g1, l1, u1⟩ := mh_IntS hx.row (k := k + 1 + 1 + 1 + 1 + 1 + 1 + 1 + 1 + 1 + 1 + 1 + 1 + 1 + 1) (by omega) (by omega)
    obtain ⟨k2, b2, m2, g2, l2, u2⟩ := mh_CellS hx.cells (k := k1) (by omega) (by omega)
    obtain ⟨k3, b3, m3, g3, l3, u3⟩ := mh_IntS hx.early (k := k2) (by omega) (by omega)
    obtain ⟨k4, b4, m4, g4, l4, u4⟩ := mh_UndoS hx.undos (k := k3) (by omega) (by omega)
    obtain ⟨k5, b5, m5, g5, l5, u5⟩ := mh_VoteS hx.votes (k := k4) (by omega) (by omega)
    obtain ⟨k6, b6, m6, g6, l6, u6⟩ := mh_LetterS hx.news (k := k5) (by omega) (by omega)
    refine ⟨((k, k + 1, (k + 1 + 1, k + 1 + 1 + 1, k + 1 + 1 + 1 + 1, k + 1 + 1 + 1 + 1 + 1, ()), (k + 1 + 1 + 1 + 1 + 1 + 1, k + 1 + 1 + 1 + 1 + 1 + 1 + 1, k + 1 + 1 + 1 + 1 + 1 + 1 + 1 + 1, k + 1 + 1 + 1 + 1 + 1 + 1 + 1 + 1 + 1, ()), (k + 1 + 1 + 1 + 1 + 1 + 1 + 1 + 1 + 1 + 1, k + 1 + 1 + 1 + 1 + 1 + 1 + 1 + 1 + 1 + 1 + 1, k + 1 + 1 + 1 + 1 + 1 + 1 + 1 + 1 + 1 + 1 + 1 + 1, k + 1 + 1 + 1 + 1 + 1 + 1 + 1 + 1 + 1 + 1 + 1 + 1 + 1, ()), b1, b2, b3, b4, b5, b6, k6, ()) : DIPeer), k6 + 1, by omega, by omega, fun n => ?_, fun m b' hb' => ?_⟩
    · rw [R_l_markPeerS_2_eq, decide_eq_true h4, cond_true]
      rw [mk1 hi]
      rw [mk2 hi]
      dsimp only
      rw [mk2 hi]
      dsimp only
      rw [mk2 hi]
      dsimp only
      rw [mk2 hi]
      dsimp only
      rw [mk2 hi]
      dsimp only
      rw [mk2 hi]
      dsimp only
      rw [mk2 hi]
      dsimp only
      rw [mk2 hi]
      dsimp only
      rw [mk2 hi]
      dsimp only
      rw [mk2 hi]
      dsimp only
      rw [mk2 hi]
      dsimp only
      rw [mk2 hi]
      dsimp only
      rw [mk2 hi]
      dsimp only
      rw [wrap64 (n := k + 1) (by omega) (by omega), wrap64 (n := k + 1 + 1) (by omega) (by omega), wrap64 (n := k + 1 + 1 + 1) (by omega) (by omega), wrap64 (n := k + 1 + 1 + 1 + 1) (by omega) (by omega), wrap64 (n := k + 1 + 1 + 1 + 1 + 1) (by omega) (by omega), wrap64 (n := k + 1 + 1 + 1 + 1 + 1 + 1) (by omega) (by omega), wrap64 (n := k + 1 + 1 + 1 + 1 + 1 + 1 + 1) (by omega) (by omega), wrap64 (n := k + 1 + 1 + 1 + 1 + 1 + 1 + 1 + 1) (by omega) (by omega), wrap64 (n := k + 1 + 1 + 1 + 1 + 1 + 1 + 1 + 1 + 1) (by omega) (by omega), wrap64 (n := k + 1 + 1 + 1 + 1 + 1 + 1 + 1 + 1 + 1 + 1) (by omega) (by omega), wrap64 (n := k + 1 + 1 + 1 + 1 + 1 + 1 + 1 + 1 + 1 + 1 + 1) (by omega) (by omega), wrap64 (n := k + 1 + 1 + 1 + 1 + 1 + 1 + 1 + 1 + 1 + 1 + 1 + 1) (by omega) (by omega), wrap64 (n := k + 1 + 1 + 1 + 1 + 1 + 1 + 1 + 1 + 1 + 1 + 1 + 1 + 1) (by omega) (by omega), wrap64 (n := k + 1 + 1 + 1 + 1 + 1 + 1 + 1 + 1 + 1 + 1 + 1 + 1 + 1 + 1) (by omega) (by omega)]
      rw [mk3 hi, show Q_l_markIntS big _ (k + 1 + 1 + 1 + 1 + 1 + 1 + 1 + 1 + 1 + 1 + 1 + 1 + 1 + 1) = _ from m1, Option.bind_some, mk5 hi]
      dsimp only
      rw [mk3 hi, show Q_l_markCellS big _ (k1) = _ from m2, Option.bind_some, mk5 hi]
      dsimp only
      rw [mk3 hi, show Q_l_markIntS big _ (k2) = _ from m3, Option.bind_some, mk5 hi]
      dsimp only
      rw [mk3 hi, show Q_l_markUndoS big _ (k3) = _ from m4, Option.bind_some, mk5 hi]
      dsimp only
      rw [mk3 hi, show Q_l_markVoteS big _ (k4) = _ from m5, Option.bind_some, mk5 hi]
      dsimp only
      rw [mk3 hi, show Q_l_markLetterS big _ (k5) = _ from m6, Option.bind_some, mk5 hi]
      dsimp only
      rw [mk2 hi]
      dsimp only
      rw [wrap64 (n := k6 + 1) (by omega) (by omega)]
      rw [wrap64 (n := (i : Int) + 1) (by omega) (by omega)]
    · have h5 : (i : Int) < (b'.length : Int) := by have := nth_lt hb'; omega
      rw [R_l_heldPeerS_2_eq, decide_eq_true h5, cond_true]
      rw [wrap64 (n := k + 1) (by omega) (by omega), wrap64 (n := k + 1 + 1) (by omega) (by omega), wrap64 (n := k + 1 + 1 + 1) (by omega) (by omega), wrap64 (n := k + 1 + 1 + 1 + 1) (by omega) (by omega), wrap64 (n := k + 1 + 1 + 1 + 1 + 1) (by omega) (by omega), wrap64 (n := k + 1 + 1 + 1 + 1 + 1 + 1) (by omega) (by omega), wrap64 (n := k + 1 + 1 + 1 + 1 + 1 + 1 + 1) (by omega) (by omega), wrap64 (n := k + 1 + 1 + 1 + 1 + 1 + 1 + 1 + 1) (by omega) (by omega), wrap64 (n := k + 1 + 1 + 1 + 1 + 1 + 1 + 1 + 1 + 1) (by omega) (by omega), wrap64 (n := k + 1 + 1 + 1 + 1 + 1 + 1 + 1 + 1 + 1 + 1) (by omega) (by omega), wrap64 (n := k + 1 + 1 + 1 + 1 + 1 + 1 + 1 + 1 + 1 + 1 + 1) (by omega) (by omega), wrap64 (n := k + 1 + 1 + 1 + 1 + 1 + 1 + 1 + 1 + 1 + 1 + 1 + 1) (by omega) (by omega), wrap64 (n := k + 1 + 1 + 1 + 1 + 1 + 1 + 1 + 1 + 1 + 1 + 1 + 1 + 1) (by omega) (by omega), wrap64 (n := k + 1 + 1 + 1 + 1 + 1 + 1 + 1 + 1 + 1 + 1 + 1 + 1 + 1 + 1) (by omega) (by omega)]
      rw [mk4 hb']
      dsimp only
      rw [ck rfl]
      rw [mk4 hb']
      dsimp only
      rw [ck rfl]
      rw [mk4 hb']
      dsimp only
      rw [ck rfl]
      rw [mk4 hb']
      dsimp only
      rw [ck rfl]
      rw [mk4 hb']
      dsimp only
      rw [ck rfl]
      rw [mk4 hb']
      dsimp only
      rw [ck rfl]
      rw [mk4 hb']
      dsimp only
      rw [ck rfl]
      rw [mk4 hb']
      dsimp only
      rw [ck rfl]
      rw [mk4 hb']
      dsimp only
      rw [ck rfl]
      rw [mk4 hb']
      dsimp only
      rw [ck rfl]
      rw [mk4 hb']
      dsimp only
      rw [ck rfl]
      rw [mk4 hb']
      dsimp only
      rw [ck rfl]
      rw [mk4 hb']
      dsimp only
      rw [ck rfl]
      rw [mk4 hb']
      dsimp only
      rw [ck rfl]
      rw [mk4 hb']
      dsimp only
      rw [show Q_l_heldIntS big _ (k + 1 + 1 + 1 + 1 + 1 + 1 + 1 + 1 + 1 + 1 + 1 + 1 + 1 + 1) = _ from g1, Option.bind_some, not_neg (by omega), cond_false]
      rw [mk4 hb']
      dsimp only
      rw [show Q_l_heldCellS big _ (k1) = _ from g2, Option.bind_some, not_neg (by omega), cond_false]
      rw [mk4 hb']
      dsimp only
      rw [show Q_l_heldIntS big _ (k2) = _ from g3, Option.bind_some, not_neg (by omega), cond_false]
      rw [mk4 hb']
      dsimp only
      rw [show Q_l_heldUndoS big _ (k3) = _ from g4, Option.bind_some, not_neg (by omega), cond_false]
      rw [mk4 hb']
      dsimp only
      rw [show Q_l_heldVoteS big _ (k4) = _ from g5, Option.bind_some, not_neg (by omega), cond_false]
      rw [mk4 hb']
      dsimp only
      rw [show Q_l_heldLetterS big _ (k5) = _ from g6, Option.bind_some, not_neg (by omega), cond_false]
      rw [wrap64 (n := k6 + 1) (by omega) (by omega)]
      rw [mk4 hb']
      dsimp only
      rw [ck rfl]
      rw [wrap64 (n := (i : Int) + 1) (by omega) (by omega)]
  · simp only [R_l_markPeerS_2_eq, Int.lt_irrefl, decide_false, cond_false]
  · simp only [R_l_heldPeerS_2_eq, Int.lt_irrefl, decide_false, cond_false]

structure ClB (x : DICluster) : Prop where
  bg : Bg tICluster x
  trees : List.length x.2.2.2.1 ≤ 16777216
  tree : ∀ y ∈ x.2.2.2.1, List.length y.2.2.1 ≤ 16777216
  peers : List.length x.2.2.2.2.1 ≤ 16777216
  peer : ∀ y ∈ x.2.2.2.2.1, PeerB y
  way : List.length x.2.2.2.2.2.1 ≤ 16777216
  votes : List.length x.2.2.2.2.2.2.1 ≤ 16777216
  cmds : List.length x.2.2.2.2.2.2.2.1 ≤ 16777216
theorem ClB.of {x : DICluster} (h : Bg tICluster x) : ClB x :=
  ⟨h, h.2.2.2.1.1, fun y hy => (h.2.2.2.1.2 y hy).2.2.1.1, h.2.2.2.2.1.1, fun y hy => PeerB.of (h.2.2.2.2.1.2 y hy), h.2.2.2.2.2.1.1, h.2.2.2.2.2.2.1.1, h.2.2.2.2.2.2.2.1.1⟩

theorem mh_Cluster {x : DICluster} (h : ClB x) {k : Int} (hk : 0 < k) (hM : k + 16777216 * 452984893 ≤ 4611686018427387904) :
    ∃ (k' : Int), ∃ y, Q_l_markCluster big x k = some (k', y, ()) ∧ k ≤ k' ∧ k' ≤ k + 16777216 * 452984893 ∧
      Q_l_heldCluster big (x.1, x.2.1, x.2.2.1, y.2.2.2.1, y.2.2.2.2.1, y.2.2.2.2.2.1, y.2.2.2.2.2.2.1, y.2.2.2.2.2.2.2.1, x.2.2.2.2.2.2.2.2) k = some k' := by
  obtain ⟨k1, b1, m1, h1, l1, u1⟩ := mh_BlockS h.trees h.tree hk (by omega)
  obtain ⟨k2, b2, m2, h2, l2, u2⟩ := mh_PeerS h.peers h.peer (k := k1) (by omega) (by omega)
  obtain ⟨k3, b3, m3, h3, l3, u3⟩ := mh_LetterS h.way (k := k2) (by omega) (by omega)
  obtain ⟨k4, b4, m4, h4, l4, u4⟩ := mh_VoteS h.votes (k := k3) (by omega) (by omega)
  obtain ⟨k5, b5, m5, h5, l5, u5⟩ := mh_CmdS h.cmds (k := k4) (by omega) (by omega)
  refine ⟨k5, ((), (), (), b1, b2, b3, b4, b5, ()), ?_, by omega, by omega, ?_⟩
  · rw [Q_l_markCluster_eq]
    simp only [m1, m2, m3, m4, m5, Option.bind_some]
  · rw [Q_l_heldCluster_eq]
    simp (disch := omega) only [h1, h2, h3, h4, h5, Option.bind_some, not_neg, cond_false]

end Go.Sx.Try

set_option maxRecDepth 100000
namespace Go.Sx.Try
open Go Go.Sx Go.Proofs

/-- a loop that puts one element to the end for each of a list -/
theorem app_loop {α β γ : Type} {f : α → β} {xs : List α} {r : Nat → Int → List β → Option γ} {fin : List β → Option γ}
    (h1 : ∀ n (i : Nat) acc y, (hi : i < xs.length) → nth xs i = some y → y ∈ xs → acc.length ≤ 16777216 → i < 16777216 → r (n + 1) (i : Int) acc = r n ((i : Int) + 1) (acc ++ [f y]))
    (h2 : ∀ n acc, r (n + 1) (xs.length : Nat) acc = fin acc) (hl : xs.length ≤ 16777216) :
    ∀ (n i : Nat) (acc : List β), xs.length < n + i → i ≤ xs.length → acc.length = i → r n (i : Int) acc = fin (acc ++ (xs.drop i).map f)
  | 0, i, acc, h3, h4, _ => by omega
  | n + 1, i, acc, h3, h4, h5 => by
    rcases Nat.lt_or_ge i xs.length with hi | hi
    · rw [h1 n i acc xs[i] hi (nth_at hi) (List.getElem_mem hi) (by omega) (by omega)]
      have := app_loop h1 h2 hl n (i + 1) (acc ++ [f xs[i]]) (by omega) (by omega) (by simp [h5])
      rw [show ((i + 1 : Nat) : Int) = (i : Int) + 1 by omega] at this
      rw [this, List.drop_eq_getElem_cons hi, List.map_cons, List.append_assoc]
      rfl
    · have e : i = xs.length := by omega
      subst e
      rw [h2, List.drop_length]
      simp
theorem app_ok {α β γ : Type} {f : α → β} {xs : List α} {r : Nat → Int → List β → Option γ} {fin : List β → Option γ}
    (h1 : ∀ n (i : Nat) acc y, (hi : i < xs.length) → nth xs i = some y → y ∈ xs → acc.length ≤ 16777216 → i < 16777216 → r (n + 1) (i : Int) acc = r n ((i : Int) + 1) (acc ++ [f y]))
    (h2 : ∀ n acc, r (n + 1) (xs.length : Nat) acc = fin acc) (hl : xs.length ≤ 16777216) {n : Nat} (hn : 16777216 < n) : r n 0 [] = fin (xs.map f) := by
  have := app_loop h1 h2 hl n 0 [] (by omega) (by omega) rfl
  simpa using this
theorem lim_ok {α β : Type} {xs : List α} {y : α} {a b : Option β} (h : xs.length ≤ 16777216) : (if xs.length + [y].length ≤ lim then a else b) = a := if_pos (by unfold lim; simp only [List.length_singleton]; omega)
theorem lim_ok2 {α β : Type} {xs : List α} {a b : Option β} (h : xs.length ≤ 16777216) : (if 0 + xs.length ≤ lim then a else b) = a := if_pos (by unfold lim; omega)

theorem pClone_ICmd (x : DSlICmd) (h : x.length ≤ 16777216) : Q_g_Clone_ICmd big x = some x := by rw [Q_g_Clone_ICmd_eq]; exact clone_ok x h

theorem p_cloneTree (xs : List DIBlock) (h : xs.length ≤ 16777216) (hB : ∀ y ∈ xs, List.length y.2.2.1 ≤ 16777216) : Q_i_cloneTree big xs = some xs := by
  rw [Q_i_cloneTree_eq]
  rw [app_ok (f := fun y => y) (xs := xs) (r := fun n i acc => R_i_cloneTree_3 n acc xs (List.length xs : Int) i) (fin := some) (fun n i acc y hi hn hm ha hb => ?_) (fun n acc => ?_) h (by decide), List.map_id']
  · rw [R_i_cloneTree_3_eq, decide_eq_true (by omega), cond_true, mk4 hn, pClone_ICmd _ (hB y hm), Option.bind_some, lim_ok ha, wrap64 (by omega) (by omega)]
    rfl
  · rw [R_i_cloneTree_3_eq, decide_eq_false (by omega), cond_false]
theorem p_l05Tree (xs : List DIBlock) (h : xs.length ≤ 16777216) (hB : ∀ y ∈ xs, List.length y.2.2.1 ≤ 16777216) : Q_s_l05Tree big xs = some xs := by
  rw [Q_s_l05Tree_eq]
  rw [app_ok (f := fun y => y) (xs := xs) (r := fun n i acc => R_s_l05Tree_3 n xs acc i) (fin := some) (fun n i acc y hi hn hm ha hb => ?_) (fun n acc => ?_) h (by decide), List.map_id']
  · have e : Q_s_l05Block big y = some y := by
      rw [Q_s_l05Block_eq, lim_ok2 (hB y hm)]
    rw [R_s_l05Tree_3_eq, decide_eq_true (by omega), cond_true, mk4 hn, e, Option.bind_some, lim_ok ha, wrap64 (by omega) (by omega)]
    rfl
  · rw [R_s_l05Tree_3_eq, decide_eq_false (by omega), cond_false]
theorem p_cloneCluster (x : DICluster) (h : ClB x) : Q_i_cloneCluster big x = some x := by
  rw [Q_i_cloneCluster_eq, p_cloneTree _ h.trees h.tree, Option.bind_some, pClone_ILetter _ h.way, Option.bind_some, pClone_IVote _ h.votes, Option.bind_some, pClone_ICmd _ h.cmds, Option.bind_some]
  rw [app_ok (f := fun y => y) (xs := x.2.2.2.2.1) (r := fun n i acc => R_i_cloneCluster_4 n acc x.2.2.2.2.1 (List.length x.2.2.2.2.1 : Int) i x.1 x.2.1 x.2.2.1 x.2.2.2.1 x.2.2.2.2.1 x.2.2.2.2.2.1 x.2.2.2.2.2.2.1 x.2.2.2.2.2.2.2.1 0 false 0 [] [] [] [] [])
    (fin := fun l => some (x.1, x.2.1, x.2.2.1, x.2.2.2.1, l, x.2.2.2.2.2.1, x.2.2.2.2.2.2.1, x.2.2.2.2.2.2.2.1, ())) (fun n i acc y hi hn hm ha hb => ?_) (fun n acc => ?_) h.peers (by decide), List.map_id']
  · rw [R_i_cloneCluster_4_eq, decide_eq_true (by omega), cond_true, mk4 hn, p_clonePeer y (h.peer y hm), Option.bind_some, lim_ok ha, wrap64 (by omega) (by omega)]
    rfl
  · rw [R_i_cloneCluster_4_eq, decide_eq_false (by omega), cond_false]
theorem p_l15Copy (x : DICluster) (h : ClB x) : Q_s_l15Copy big x = some x := by
  rw [Q_s_l15Copy_eq, p_l05Tree _ h.trees h.tree, Option.bind_some]
  rw [app_ok (f := fun y => y) (xs := x.2.2.2.2.1) (r := fun n i acc => R_s_l15Copy_5 n i x.1 x.2.1 x.2.2.1 x.2.2.2.1 x.2.2.2.2.1 x.2.2.2.2.2.1 x.2.2.2.2.2.2.1 x.2.2.2.2.2.2.2.1 0 false 0 [] [] [] [] [] x.1 x.2.1 x.2.2.1 x.2.2.2.1 acc x.2.2.2.2.2.1 x.2.2.2.2.2.2.1 x.2.2.2.2.2.2.2.1)
    (fin := fun l => some (x.1, x.2.1, x.2.2.1, x.2.2.2.1, l, x.2.2.2.2.2.1, x.2.2.2.2.2.2.1, x.2.2.2.2.2.2.2.1, ())) (fun n i acc y hi hn hm ha hb => ?_) (fun n acc => ?_) h.peers (by decide), List.map_id']
  · rw [R_s_l15Copy_5_eq, decide_eq_true (by omega), cond_true, mk4 hn, p_l09Copy y (h.peer y hm), Option.bind_some, lim_ok ha, wrap64 (by omega) (by omega)]
    rfl
  · rw [R_s_l15Copy_5_eq, decide_eq_false (by omega), cond_false, lim_ok2 h.way, lim_ok2 h.votes, lim_ok2 h.cmds]

end Go.Sx.Try

set_option maxRecDepth 100000
namespace Go.Sx.Try
open Go Go.Sx Go.Proofs

/-- there is room -/
def postB (x : DICluster) (l : List DILetter) : Bool := !decide (60 < x.2.2.2.2.2.1.length + l.length)
/-- the cluster with the letters, where there is room -/
def postF (x : DICluster) (l : List DILetter) : DICluster :=
  if 60 < x.2.2.2.2.2.1.length + l.length then x else (x.1, x.2.1, x.2.2.1, x.2.2.2.1, x.2.2.2.2.1, x.2.2.2.2.2.1 ++ l, x.2.2.2.2.2.2)
theorem postF_B {x : DICluster} (h : ClB x) (l : List DILetter) : ClB (postF x l) := by
  unfold postF
  split
  · exact h
  · have e : (x.2.2.2.2.2.1 ++ l).length ≤ 16777216 := by rw [List.length_append]; omega
    exact ⟨⟨h.bg.1, h.bg.2.1, h.bg.2.2.1, h.bg.2.2.2.1, h.bg.2.2.2.2.1, ⟨e, fun _ _ => Bg_flat rfl _⟩, h.bg.2.2.2.2.2.2⟩, h.trees, h.tree, h.peers, h.peer, e, h.votes, h.cmds⟩

theorem p_i_Post (x : DICluster) (h : ClB x) (l : List DILetter) (hl : l.length ≤ 16777216) : Q_i_Post big x l = some (postF x l, postB x l, ()) := by
  have := h.way
  rw [Q_i_Post_eq, p_cloneCluster x h, Option.bind_some, wrap64 (by omega) (by omega)]
  unfold postF postB
  by_cases c : 60 < x.2.2.2.2.2.1.length + l.length
  · rw [decide_eq_true (by omega), if_pos c, decide_eq_true c]; rfl
  · rw [decide_eq_false (by omega), if_neg c, decide_eq_false c, if_pos (by unfold lim; omega)]; rfl
theorem p_s_l15Post (x : DICluster) (h : ClB x) (l : List DILetter) (hl : l.length ≤ 16777216) : Q_s_l15Post big x l = some (postB x l, postF x l, ()) := by
  have := h.way
  rw [Q_s_l15Post_eq, wrap64 (by omega) (by omega)]
  unfold postF postB
  by_cases c : 60 < x.2.2.2.2.2.1.length + l.length
  · rw [decide_eq_true (by omega), if_pos c, decide_eq_true c]; rfl
  · rw [decide_eq_false (by omega), if_neg c, decide_eq_false c, if_pos (by unfold lim; omega), if_pos (by unfold lim; omega)]; rfl
theorem p_s_Post (x : DICluster) (h : ClB x) (l : List DILetter) (hl : l.length ≤ 16777216) : Q_s_Post big x l = some (postF x l, postB x l, ()) := by
  rw [Q_s_Post_eq, p_l15Copy x h, Option.bind_some, p_s_l15Post x h l hl, Option.bind_some]
theorem law_sz2 {q : Option Int} {a : Int} {P : Prop} {K : Int → Option Bool} (h : SzR q a P) (hk : P → ∀ v, 0 ≤ v → v ≤ a → K v = some true) : (q.bind fun y => bif decide (y < (0 : Int)) then some true else K y) = some true := by
  obtain ⟨v, h1, h2, h3⟩ := h
  rw [h1]
  simp only [Option.bind_some]
  by_cases hv : v < 0
  · rw [decide_eq_true hv]; rfl
  · rw [decide_eq_false hv]
    exact hk (h3 (by omega)) v (by omega) h2

end Go.Sx.Try

set_option maxRecDepth 100000
namespace Go.Sx.Try
open Go Go.Sx Go.Proofs

theorem p_in (x a b : Int) : Q_i_in big x a b = some (decide (a ≤ x) && decide (x ≤ b)) := by
  rw [Q_i_in_eq]
  cases decide (a ≤ x) <;> rfl
theorem p_l01In (x a b : Int) : Q_s_l01In big x a b = some (decide (a ≤ x) && decide (x ≤ b)) := by
  rw [Q_s_l01In_eq]
  cases decide (a ≤ x) <;> rfl
theorem p_isPeer (i n : Int) : Q_i_isPeer big i n = some (decide (0 ≤ i) && decide (i < n)) := by
  rw [Q_i_isPeer_eq]
  cases decide (0 ≤ i) <;> rfl
/-- does one lie? -/
def liesF (c : DICluster) (i : Int) : Bool := decide (0 ≤ i) && decide (i < c.1) && decide (i < 7) && !decide ((Int.fdiv c.2.2.1 ((2 : Int) ^ i.toNat)).tmod 2 = 0)
theorem p_i_Lies (c : DICluster) (i : Int) : Q_i_Lies big c i = some (liesF c i) := by
  rw [Q_i_Lies_eq, p_isPeer]
  unfold liesF
  simp only [Option.bind_some]
  by_cases h1 : 0 ≤ i
  · by_cases h2 : i < c.1
    · by_cases h3 : i < 7
      · rw [decide_eq_true h1, decide_eq_true h2, decide_eq_true h3, if_neg (show ¬ i < 0 by omega), odd_bit, show min i.toNat IntKind.i64.bits = i.toNat from Nat.min_eq_left (show i.toNat ≤ 64 by omega)]
        rfl
      · rw [decide_eq_true h1, decide_eq_true h2, decide_eq_false h3]; rfl
    · rw [decide_eq_true h1, decide_eq_false h2]; rfl
  · rw [decide_eq_false h1]; rfl
theorem p_s_Lies (c : DICluster) (i : Int) (hc : c.1 ≤ 9223372036854775807) : Q_s_Lies big c i = some (liesF c i) := by
  rw [Q_s_Lies_eq]
  unfold liesF
  by_cases h0 : 0 < c.1
  · rw [decide_eq_true h0, p_l01In, wrap64 (by omega) (by omega)]
    simp only [cond_true, Option.bind_some]
    by_cases h1 : 0 ≤ i
    · by_cases h2 : i < c.1
      · by_cases h3 : i < 7
        · have hw : IntKind.u64.wrap i = i := by
            unfold IntKind.wrap
            simp [IntKind.bits, IntKind.signed]
            omega
          rw [decide_eq_true h1, decide_eq_true h2, decide_eq_true h3, decide_eq_true (show i ≤ c.1 - 1 by omega), hw, if_neg (show ¬ i < 0 by omega), show min i.toNat IntKind.i64.bits = i.toNat from Nat.min_eq_left (show i.toNat ≤ 64 by omega)]
          rfl
        · rw [decide_eq_true h1, decide_eq_true h2, decide_eq_false h3, decide_eq_true (show i ≤ c.1 - 1 by omega)]; rfl
      · rw [decide_eq_true h1, decide_eq_false h2, decide_eq_false (show ¬ i ≤ c.1 - 1 by omega)]; rfl
    · rw [decide_eq_false h1]; rfl
  · rw [decide_eq_false h0]
    by_cases h1 : 0 ≤ i
    · rw [decide_eq_false (show ¬ i < c.1 by omega)]; simp
    · rw [decide_eq_false h1]; simp

/-- is a vote right? -/
def voteOkF (t : DSlIBlock) (n : Int) (v : DIVote) : Bool :=
  decide (1 ≤ n) && decide (n ≤ 7) && (decide (1 ≤ v.1) && decide (v.1 ≤ 4)) && (decide (1 ≤ v.2.1) && decide (v.2.1 ≤ 900)) && (decide (1 ≤ v.2.2.1) && decide (v.2.2.1 ≤ (t.length : Int) - 1)) &&
    (match nth t v.2.2.1.toNat with | some b => decide (b.2.1 = v.2.1) | none => false) && (decide (0 ≤ v.2.2.2.1) && decide (v.2.2.2.1 < n))
theorem p_i_VoteOk (t : DSlIBlock) (n : Int) (v : DIVote) (ht : t.length ≤ 16777216) : Q_i_VoteOk big t n v = some (voteOkF t n v) := by
  rw [Q_i_VoteOk_eq, p_in, p_isPeer, Q_i_saidOk_eq, p_in, p_in, p_in, wrap64 (by omega) (by omega)]
  unfold voteOkF
  simp only [Option.bind_some]
  cases decide (1 ≤ n) && decide (n ≤ 7)
  · simp
  cases decide (1 ≤ v.1) && decide (v.1 ≤ 4)
  · simp
  cases decide (1 ≤ v.2.1) && decide (v.2.1 ≤ 900)
  · simp
  by_cases h1 : 1 ≤ v.2.2.1
  · by_cases h2 : v.2.2.1 ≤ (t.length : Int) - 1
    · have hk : v.2.2.1.toNat < t.length := by omega
      rw [decide_eq_true h1, decide_eq_true h2, if_pos (show 0 ≤ v.2.2.1 by omega), nth_at hk]
      simp only [Bool.and_true, Bool.true_and, cond_true, Option.bind_some]
      cases decide (t[v.2.2.1.toNat].2.1 = v.2.1) <;> simp
    · rw [decide_eq_false h2]; simp
  · rw [decide_eq_false h1]; simp
theorem p_s_VoteOk (t : DSlIBlock) (n : Int) (v : DIVote) (ht : t.length ≤ 16777216) : Q_s_VoteOk big t n v = some (voteOkF t n v) := by
  rw [Q_s_VoteOk_eq, p_l01In, p_l01In, p_l01In, p_l01In, p_l01In, wrap64 (n := (t.length : Int) - 1) (by omega) (by omega)]
  unfold voteOkF
  simp only [Option.bind_some]
  by_cases hn : 1 ≤ n ∧ n ≤ 7
  · rw [wrap64 (n := n - 1) (by omega) (by omega), decide_eq_true hn.1, decide_eq_true hn.2, show decide (v.2.2.2.1 ≤ n - 1) = decide (v.2.2.2.1 < n) from decide_eq_decide.2 (by omega)]
    cases decide (1 ≤ v.1) && decide (v.1 ≤ 4)
    · simp
    cases decide (1 ≤ v.2.1) && decide (v.2.1 ≤ 900)
    · simp
    by_cases h1 : 1 ≤ v.2.2.1
    · by_cases h2 : v.2.2.1 ≤ (t.length : Int) - 1
      · have hk : v.2.2.1.toNat < t.length := by omega
        rw [decide_eq_true h1, decide_eq_true h2, if_pos (show 0 ≤ v.2.2.1 by omega), nth_at hk]
        simp only [Bool.and_true, Bool.true_and, cond_true, Option.bind_some]
        cases decide (t[v.2.2.1.toNat].2.1 = v.2.1) <;> simp
      · rw [decide_eq_false h2]; simp
    · rw [decide_eq_false h1]; simp
  · have : (decide (1 ≤ n) && decide (n ≤ 7)) = false := by
      by_cases h1 : 1 ≤ n
      · rw [decide_eq_false (show ¬ n ≤ 7 from fun h2 => hn ⟨h1, h2⟩), Bool.and_false]
      · rw [decide_eq_false h1, Bool.false_and]
    rw [this]
    simp

end Go.Sx.Try

set_option maxRecDepth 100000
namespace Go.Sx.Try
open Go Go.Sx Go.Proofs

theorem key_loop (s : ByteArray) (hs : s.size ≤ 1048576) : ∀ (n i : Nat), s.size < n + i → i ≤ s.size → ∃ b, R_i_KeyOk_2 n s (s.size : Int) (i : Int) = some b ∧ R_s_KeyOk_2 n s (i : Int) = some b
  | 0, i, h1, h2 => by omega
  | n + 1, i, h1, h2 => by
    rw [R_i_KeyOk_2_eq, R_s_KeyOk_2_eq]
    rcases Nat.lt_or_ge i s.size with hi | hi
    · have hl : i < s.data.toList.length := hi
      rw [decide_eq_true (show (i : Int) < (s.size : Int) by omega)]
      simp only [cond_true, mk4 (nth_at hl)]
      cases decide ((↑(s.data.toList[i]).toNat : Int) < (97 : Int)) with
      | true => exact ⟨_, rfl, rfl⟩
      | false =>
        simp only [cond_false]
        cases decide ((122 : Int) < (↑(s.data.toList[i]).toNat : Int)) with
        | true => exact ⟨_, rfl, rfl⟩
        | false =>
          simp only [cond_false]
          rw [wrap64 (n := (i : Int) + 1) (by omega) (by omega)]
          exact key_loop s hs n (i + 1) (by omega) (by omega)
    · rw [decide_eq_false (show ¬ (i : Int) < (s.size : Int) by omega), p_in, p_l01In]
      exact ⟨_, rfl, rfl⟩
theorem p_KeyOk (s : ByteArray) (hs : s.size ≤ 1048576) : ∃ b, Q_i_KeyOk big s = some b ∧ Q_s_KeyOk big s = some b := by
  rw [Q_i_KeyOk_eq, Q_s_KeyOk_eq]
  exact key_loop s hs big 0 (by unfold big; omega) (by omega)
theorem p_CmdOk (x : DICmd) (hs : ByteArray.size x.2.1 ≤ 1048576) : ∃ b, Q_i_CmdOk big x = some b ∧ Q_s_CmdOk big x = some b := by
  obtain ⟨b, h1, h2⟩ := p_KeyOk x.2.1 hs
  rw [Q_i_CmdOk_eq, Q_s_CmdOk_eq, p_in, p_l01In]
  simp only [Option.bind_some, h1, h2, Q_i_isNum_eq, p_in, p_l01In]
  cases (decide ((1 : Int) ≤ x.1) && decide (x.1 ≤ (3 : Int))) <;> cases b <;> exact ⟨_, rfl, rfl⟩

/-- what an offer does, where the command may be taken -/
def offerF (b : Bool) (x : DICluster) (c : DICmd) : DICluster × Bool × Unit :=
  bif !b then (x, false, ()) else bif decide ((8 : Int) ≤ (List.length x.2.2.2.2.2.2.2.1 : Int)) then (x, false, ()) else
    ((x.1, x.2.1, x.2.2.1, x.2.2.2.1, x.2.2.2.2.1, x.2.2.2.2.2.1, x.2.2.2.2.2.2.1, List.append x.2.2.2.2.2.2.2.1 [c], ()), true, ())
theorem offerB {x : DICluster} (h : ClB x) (b : Bool) (c : DICmd) : ClB (offerF b x c).1 := by
  unfold offerF
  cases b with
  | false => exact h
  | true =>
    by_cases c8 : (8 : Int) ≤ (List.length x.2.2.2.2.2.2.2.1 : Int)
    · rw [decide_eq_true c8]; exact h
    · rw [decide_eq_false c8]
      have e : (List.append x.2.2.2.2.2.2.2.1 [c]).length ≤ 16777216 := by rw [List.append_eq, List.length_append, List.length_singleton]; omega
      exact ⟨⟨h.bg.1, h.bg.2.1, h.bg.2.2.1, h.bg.2.2.2.1, h.bg.2.2.2.2.1, h.bg.2.2.2.2.2.1, h.bg.2.2.2.2.2.2.1, ⟨e, fun _ _ => Bg_flat rfl _⟩, trivial⟩, h.trees, h.tree, h.peers, h.peer, h.way, h.votes, e⟩
theorem p_Offer (x : DICluster) (h : ClB x) (c : DICmd) (hs : ByteArray.size c.2.1 ≤ 1048576) : ∃ b, Q_i_Offer big x c = some (offerF b x c) ∧ Q_s_Offer big x c = some (offerF b x c) := by
  obtain ⟨b, h1, h2⟩ := p_CmdOk c hs
  refine ⟨b, ?_, ?_⟩
  · rw [Q_i_Offer_eq, p_cloneCluster x h, h1]
    unfold offerF
    simp only [Option.bind_some]
    cases b with
    | false => rfl
    | true =>
      simp only [Bool.not_true, cond_false, lim_ok h.cmds]
      cases decide ((8 : Int) ≤ (List.length x.2.2.2.2.2.2.2.1 : Int)) <;> rfl
  · rw [Q_s_Offer_eq, p_l15Copy x h, h2]
    unfold offerF
    simp only [Option.bind_some]
    cases b with
    | false => rfl
    | true =>
      simp only [Bool.not_true, cond_false, lim_ok h.cmds]
      cases decide ((8 : Int) ≤ (List.length x.2.2.2.2.2.2.2.1 : Int)) <;> rfl

theorem szCmdB (x : DLCmd) (a : Int) (hw : WfD tLCmd x) (h0 : 0 ≤ a) (h1 : a ≤ 1048576) : SzR (Q_l_szCmd big x a) a (ByteArray.size x.2.1 ≤ 1048576) := by
  have hm : ByteArray.size x.2.1 ≤ 9223372036854775807 := hw.2.1
  rw [Q_l_szCmd_eq, wrap64 (by omega) (by omega)]
  by_cases c : a - (ByteArray.size x.2.1 : Int) < 0
  · rw [decide_eq_true c]; exact ⟨-1, rfl, by omega, fun h => by omega⟩
  · rw [decide_eq_false c]; exact ⟨_, rfl, by omega, fun h => by omega⟩

end Go.Sx.Try

set_option maxRecDepth 100000
namespace Go.Sx.Try
open Go Go.Sx Go.Proofs

theorem cmds_loop (xs ys : List DICmd) (he : xs.length = ys.length) (hl : xs.length ≤ 16777216) : ∀ (n i : Nat), xs.length < n + i → i ≤ xs.length →
    ∃ b, R_g_Equal_ICmd_4 n xs ys (List.length xs : Int) (i : Int) = some b ∧ ∀ a0 a1 a3 a4 a5 a6 c0 c1 c3 c4 c5 c6, R_s_SameBlock_4 n (i : Int) a0 a1 xs a3 a4 a5 a6 c0 c1 ys c3 c4 c5 c6 = some b
  | 0, i, h1, h2 => by omega
  | n + 1, i, h1, h2 => by
    rcases Nat.lt_or_ge i xs.length with hi | hi
    · have hy : i < ys.length := by omega
      obtain ⟨b, e1, e2⟩ := cmds_loop xs ys he hl n (i + 1) (by omega) (by omega)
      rw [show ((i + 1 : Nat) : Int) = (i : Int) + 1 by omega] at e1 e2
      cases c : eqD tICmd xs[i] ys[i] with
      | false =>
        refine ⟨false, ?_, fun _ _ _ _ _ _ _ _ _ _ _ _ => ?_⟩
        · rw [R_g_Equal_ICmd_4_eq, decide_eq_true (by omega), cond_true, mk4 (nth_at hi), mk4 (nth_at hy), c]; rfl
        · rw [R_s_SameBlock_4_eq, decide_eq_true (by omega), cond_true, mk4 (nth_at hi), mk4 (nth_at hy), c]; rfl
      | true =>
        refine ⟨b, ?_, fun _ _ _ _ _ _ _ _ _ _ _ _ => ?_⟩
        · rw [R_g_Equal_ICmd_4_eq, decide_eq_true (by omega), cond_true, mk4 (nth_at hi), mk4 (nth_at hy), c, wrap64 (by omega) (by omega)]; exact e1
        · rw [R_s_SameBlock_4_eq, decide_eq_true (by omega), cond_true, mk4 (nth_at hi), mk4 (nth_at hy), c, wrap64 (by omega) (by omega)]; exact e2 ..
    · refine ⟨true, ?_, fun _ _ _ _ _ _ _ _ _ _ _ _ => ?_⟩
      · rw [R_g_Equal_ICmd_4_eq, decide_eq_false (by omega)]; rfl
      · rw [R_s_SameBlock_4_eq, decide_eq_false (by omega)]; rfl

theorem p_SameBlock (x y : DIBlock) (hx : List.length x.2.2.1 ≤ 16777216) : ∃ b, Q_i_SameBlock big x y = some b ∧ Q_s_SameBlock big x y = some b := by
  rw [Q_i_SameBlock_eq, Q_s_SameBlock_eq, Q_g_Equal_ICmd_eq]
  cases decide (x.1 = y.1) with
  | false => exact ⟨_, rfl, rfl⟩
  | true =>
    cases decide (x.2.1 = y.2.1) with
    | false => exact ⟨_, rfl, rfl⟩
    | true =>
      by_cases hl : List.length x.2.2.1 = List.length y.2.2.1
      · obtain ⟨b, e1, e2⟩ := cmds_loop x.2.2.1 y.2.2.1 hl hx big 0 (by unfold big; omega) (by omega)
        rw [Int.natCast_zero] at e1 e2
        rw [decide_eq_true (show (List.length x.2.2.1 : Int) = (List.length y.2.2.1 : Int) by omega), e1, e2]
        simp only [Bool.not_true, cond_false, cond_true, Option.bind_some]
        cases eqD tIQc x.2.2.2.1 y.2.2.2.1 <;> cases b <;> exact ⟨_, rfl, rfl⟩
      · rw [decide_eq_false (show ¬ (List.length x.2.2.1 : Int) = (List.length y.2.2.1 : Int) by omega)]
        cases eqD tIQc x.2.2.2.1 y.2.2.2.1 <;> exact ⟨_, rfl, rfl⟩

theorem at_loop (t : List DIBlock) (ht : t.length ≤ 16777216) (hB : ∀ y ∈ t, List.length y.2.2.1 ≤ 16777216) (b : DIBlock) : ∀ (n i : Nat), t.length < n + i → i ≤ t.length →
    ∃ k, R_g_IndexFunc_IBlock__i_BlockAt_1_2 n t (List.length t : Int) (i : Int) b.1 b.2.1 b.2.2.1 b.2.2.2.1.1 b.2.2.2.1.2.1 b.2.2.2.1.2.2.1 b.2.2.2.1.2.2.2.1 = some (k, (b, ()), ()) ∧
      R_s_BlockAt_2 n t (i : Int) b.1 b.2.1 b.2.2.1 b.2.2.2.1.1 b.2.2.2.1.2.1 b.2.2.2.1.2.2.1 b.2.2.2.1.2.2.2.1 = some k ∧ (k = -1 ∨ 0 ≤ k)
  | 0, i, h1, h2 => by omega
  | n + 1, i, h1, h2 => by
    rw [R_g_IndexFunc_IBlock__i_BlockAt_1_2_eq, R_s_BlockAt_2_eq]
    rcases Nat.lt_or_ge i t.length with hi | hi
    · obtain ⟨q, e1, e2⟩ := p_SameBlock t[i] b (hB _ (List.getElem_mem hi))
      have e3 : Q_i_BlockAt_1 big t[i] b = some (q, b, ()) := by rw [Q_i_BlockAt_1_eq, e1]; rfl
      rw [decide_eq_true (by omega), cond_true, cond_true, mk4 (nth_at hi), mk4 (nth_at hi)]
      rw [show Q_i_BlockAt_1 big t[i] _ = _ from e3, show Q_s_SameBlock big t[i] _ = _ from e2, Option.bind_some, Option.bind_some]
      cases q with
      | true => exact ⟨(i : Int), rfl, rfl, Or.inr (by omega)⟩
      | false =>
        rw [wrap64 (by omega) (by omega)]
        exact at_loop t ht hB b n (i + 1) (by omega) (by omega)
    · rw [decide_eq_false (by omega)]
      exact ⟨-1, rfl, rfl, Or.inl rfl⟩
theorem p_BlockAt (t : List DIBlock) (ht : t.length ≤ 16777216) (hB : ∀ y ∈ t, List.length y.2.2.1 ≤ 16777216) (b : DIBlock) : ∃ k, Q_i_BlockAt big t b = some k ∧ Q_s_BlockAt big t b = some k ∧ (k = -1 ∨ 0 ≤ k) := by
  obtain ⟨k, e1, e2, e3⟩ := at_loop t ht hB b big 0 (by unfold big; omega) (by omega)
  rw [Int.natCast_zero] at e1 e2
  refine ⟨k, ?_, ?_, e3⟩
  · rw [Q_i_BlockAt_eq, Q_g_IndexFunc_IBlock__i_BlockAt_1_eq]
    rw [show R_g_IndexFunc_IBlock__i_BlockAt_1_2 big t _ _ _ _ _ _ _ _ _ = _ from e1]; rfl
  · rw [Q_s_BlockAt_eq]; exact e2

theorem ok_loop (t : List DIBlock) (b : DIBlock) (hl : List.length b.2.2.1 ≤ 16777216) (hs : ∀ c ∈ b.2.2.1, ByteArray.size c.2.1 ≤ 1048576) : ∀ (n i : Nat), List.length b.2.2.1 < n + i → i ≤ List.length b.2.2.1 →
    ∃ k, R_g_IndexFunc_ICmd__i_BlockOk_1_2 n b.2.2.1 (List.length b.2.2.1 : Int) (i : Int) = some k ∧
      R_s_BlockOk_4 n t (i : Int) b.1 b.2.1 b.2.2.1 b.2.2.2.1.1 b.2.2.2.1.2.1 b.2.2.2.1.2.2.1 b.2.2.2.1.2.2.2.1 =
        bif !decide (0 ≤ k) then bif decide (b.2.2.2.1.2.2.1 = b.1) then (if (0 : Int) ≤ b.1 then (nth t b.1.toNat).bind fun y => some (decide (b.2.2.2.1.2.1 = y.2.1)) else none) else some false else some false
  | 0, i, h1, h2 => by omega
  | n + 1, i, h1, h2 => by
    rw [R_g_IndexFunc_ICmd__i_BlockOk_1_2_eq, R_s_BlockOk_4_eq]
    rcases Nat.lt_or_ge i (List.length b.2.2.1) with hi | hi
    · obtain ⟨q, e1, e2⟩ := p_CmdOk b.2.2.1[i] (hs _ (List.getElem_mem hi))
      rw [decide_eq_true (by omega), cond_true, cond_true, mk4 (nth_at hi), mk4 (nth_at hi), Q_i_BlockOk_1_eq, e1, e2]
      simp only [Option.bind_some]
      cases q with
      | false => exact ⟨(i : Int), rfl, by rw [decide_eq_true (show (0 : Int) ≤ (i : Int) by omega)]; rfl⟩
      | true =>
        rw [wrap64 (by omega) (by omega)]
        exact ok_loop t b hl hs n (i + 1) (by omega) (by omega)
    · rw [decide_eq_false (by omega)]
      exact ⟨-1, rfl, rfl⟩
theorem p_BlockOk (t : List DIBlock) (ht : t.length ≤ 16777216) (b : DIBlock) (hl : List.length b.2.2.1 ≤ 16777216) (hs : ∀ c ∈ b.2.2.1, ByteArray.size c.2.1 ≤ 1048576) : ∃ q, Q_i_BlockOk big t b = some q ∧ Q_s_BlockOk big t b = some q := by
  obtain ⟨k, e1, e2⟩ := ok_loop t b hl hs big 0 (by unfold big; omega) (by omega)
  rw [Int.natCast_zero] at e1 e2
  rw [Q_i_BlockOk_eq, Q_s_BlockOk_eq, p_in, p_l01In, Q_g_ContainsFunc_ICmd__i_BlockOk_1_eq, Q_g_IndexFunc_ICmd__i_BlockOk_1_eq, e1, e2, wrap64 (by omega) (by omega)]
  simp only [Option.bind_some]
  by_cases h0 : 0 ≤ b.1
  · by_cases h1 : b.1 ≤ (List.length t : Int) - 1
    · have hk : b.1.toNat < t.length := by omega
      rw [decide_eq_true h0, decide_eq_true h1]
      simp only [Bool.and_self, Bool.not_true, cond_false, mk4 (nth_at hk), if_pos h0, nth_at hk, Option.bind_some]
      cases decide (b.2.1 ≤ t[b.1.toNat].2.1)
      · cases decide (900 < b.2.1)
        · cases decide (4 < (List.length b.2.2.1 : Int))
          · simp only [cond_false]
            cases decide (0 ≤ k) <;> cases decide (b.2.2.2.1.2.2.1 = b.1) <;> exact ⟨_, rfl, rfl⟩
          · exact ⟨_, rfl, rfl⟩
        · exact ⟨_, rfl, rfl⟩
      · exact ⟨_, rfl, rfl⟩
    · rw [decide_eq_false h1, Bool.and_false]; exact ⟨_, rfl, rfl⟩
  · rw [decide_eq_false h0]; exact ⟨_, rfl, rfl⟩

/-- a block put into a tree -/
theorem p_PutBlock (t : List DIBlock) (ht : t.length ≤ 16777216) (hB : ∀ y ∈ t, List.length y.2.2.1 ≤ 16777216) (b : DIBlock) (hl : List.length b.2.2.1 ≤ 16777216) (hs : ∀ c ∈ b.2.2.1, ByteArray.size c.2.1 ≤ 1048576) :
    ∃ t' k, Q_i_PutBlock big t b = some (t', k, ()) ∧ Q_s_PutBlock big t b = some (t', k, ()) ∧ (k = -1 ∨ 0 ≤ k) ∧ t'.length ≤ 16777216 ∧ ∀ y ∈ t', List.length y.2.2.1 ≤ 16777216 := by
  obtain ⟨k, a1, a2, a3⟩ := p_BlockAt t ht hB b
  obtain ⟨q, o1, o2⟩ := p_BlockOk t ht b hl hs
  rw [Q_i_PutBlock_eq, Q_s_PutBlock_eq, p_cloneTree t ht hB, p_l05Tree t ht hB, a1, a2, o1, o2]
  simp only [Option.bind_some]
  cases decide (0 ≤ k) with
  | true => exact ⟨_, _, rfl, rfl, a3, ht, hB⟩
  | false =>
    cases q with
    | false => exact ⟨_, _, rfl, rfl, Or.inl rfl, ht, hB⟩
    | true =>
      simp only [Bool.not_true, cond_false]
      by_cases h60 : (60 : Int) ≤ (List.length t : Int)
      · rw [decide_eq_true h60]; exact ⟨_, _, rfl, rfl, Or.inl rfl, ht, hB⟩
      · rw [decide_eq_false h60, pClone_ICmd _ hl, Q_s_l05Block_eq, lim_ok2 hl]
        simp only [cond_false, Option.bind_some, lim_ok ht]
        refine ⟨_, _, rfl, rfl, Or.inr (by omega), ?_, fun y hy => ?_⟩
        · rw [List.append_eq, List.length_append, List.length_singleton]; omega
        · rcases List.mem_append.1 hy with hy | hy
          · exact hB y hy
          · rw [List.mem_singleton.1 hy]; exact hl

end Go.Sx.Try

set_option maxRecDepth 100000
namespace Go.Sx.Try
open Go Go.Sx Go.Proofs

theorem best_loop (xs : List DILetter) (hl : xs.length ≤ 16777216) : ∀ (n i : Nat) (q : DIQc), xs.length < n + i → i ≤ xs.length →
    ∃ r, R_i_BestQc_3 n xs (List.length xs : Int) (i : Int) 0 0 0 0 q.1 q.2.1 q.2.2.1 q.2.2.2.1 = some r ∧
      ∀ b0 b1 b2 b3 b4 b5 b6 b7 b8 b9 b10 b11 b12 b13 b14 b15 b16 b17 b18 b20, R_s_BestQc_3 n (i : Int) b0 b1 b2 b3 b4 b5 b6 b7 b8 b9 b10 b11 b12 b13 b14 b15 b16 b17 b18 xs b20 0 0 0 0 q.1 q.2.1 q.2.2.1 q.2.2.2.1 = some r
  | 0, i, q, h1, h2 => by omega
  | n + 1, i, q, h1, h2 => by
    rcases Nat.lt_or_ge i xs.length with hi | hi
    · obtain ⟨r, e1, e2⟩ := best_loop xs hl n (i + 1) (bif decide (q.2.1 < xs[i].2.2.2.2.2.1.2.1) then xs[i].2.2.2.2.2.1 else q) (by omega) (by omega)
      rw [show ((i + 1 : Nat) : Int) = (i : Int) + 1 by omega] at e1 e2
      have g1 : Q_i_HigherQc big (q.1, q.2.1, q.2.2.1, q.2.2.2.1, ()) xs[i].2.2.2.2.2.1 = some (bif decide (q.2.1 < xs[i].2.2.2.2.2.1.2.1) then xs[i].2.2.2.2.2.1 else q) := by
        rw [Q_i_HigherQc_eq]; cases decide (q.2.1 < xs[i].2.2.2.2.2.1.2.1) <;> rfl
      have g2 : Q_s_HigherQc big (q.1, q.2.1, q.2.2.1, q.2.2.2.1, ()) xs[i].2.2.2.2.2.1 = some (bif decide (q.2.1 < xs[i].2.2.2.2.2.1.2.1) then xs[i].2.2.2.2.2.1 else q) := by
        rw [Q_s_HigherQc_eq]; cases decide (q.2.1 < xs[i].2.2.2.2.2.1.2.1) <;> rfl
      refine ⟨r, ?_, fun _ _ _ _ _ _ _ _ _ _ _ _ _ _ _ _ _ _ _ _ => ?_⟩
      · rw [R_i_BestQc_3_eq, decide_eq_true (by omega), cond_true, mk4 (nth_at hi), g1, Option.bind_some, wrap64 (by omega) (by omega)]; exact e1
      · rw [R_s_BestQc_3_eq, decide_eq_true (by omega), cond_true, mk4 (nth_at hi), g2, Option.bind_some, wrap64 (by omega) (by omega)]; exact e2 ..
    · refine ⟨q, ?_, fun _ _ _ _ _ _ _ _ _ _ _ _ _ _ _ _ _ _ _ _ => ?_⟩
      · rw [R_i_BestQc_3_eq, decide_eq_false (by omega)]; rfl
      · rw [R_s_BestQc_3_eq, decide_eq_false (by omega)]; rfl
theorem p_BestQc (p : DIPeer) (hp : PeerB p) : ∃ q, Q_i_BestQc big p = some q ∧ Q_s_BestQc big p = some q := by
  have hn := hp.news
  obtain ⟨r, e1, e2⟩ := best_loop p.2.2.2.2.2.2.2.2.2.2.1 hn big 0 p.2.2.1 (by unfold big; omega) (by omega)
  rw [Int.natCast_zero] at e1 e2
  exact ⟨r, by rw [Q_i_BestQc_eq]; exact e1, by rw [Q_s_BestQc_eq]; exact e2 ..⟩

theorem p_Shows (t : List DIBlock) (ht : t.length ≤ 16777216) (hB : ∀ y ∈ t, List.length y.2.2.1 ≤ 16777216) (p : DIPeer) (hp : PeerB p) (c : List DICmd) (hl : List.length c ≤ 16777216) (hs : ∀ y ∈ c, ByteArray.size y.2.1 ≤ 1048576) :
    ∃ t' p' k, Q_i_Shows big t p c = some (t', p', k, ()) ∧ Q_s_Shows big t p c = some (t', p', k, ()) ∧ t'.length ≤ 16777216 ∧ (∀ y ∈ t', List.length y.2.2.1 ≤ 16777216) ∧ PeerB p' := by
  obtain ⟨q, q1, q2⟩ := p_BestQc p hp
  obtain ⟨t', k, e1, e2, e3, e4, e5⟩ := p_PutBlock t ht hB (q.2.2.1, p.2.1, c, q, ()) hl hs
  rw [Q_i_Shows_eq, Q_s_Shows_eq, q1, q2, pClone_ICmd c hl, p_clonePeer p hp, p_l09Copy p hp]
  simp only [Option.bind_some]
  rw [e1, e2]
  simp only [Option.bind_some]
  by_cases hk : 0 ≤ k
  · rw [decide_eq_true hk, decide_eq_false (show ¬ k < 0 by omega)]
    exact ⟨_, _, _, rfl, rfl, e4, e5, ⟨hp.row, hp.cells, hp.early, hp.undos, hp.votes, hp.news⟩⟩
  · rw [decide_eq_false hk, decide_eq_true (show k < 0 by omega)]
    have : k = -1 := by omega
    subst this
    exact ⟨_, _, _, rfl, rfl, e4, e5, hp⟩

theorem szCmdSB (x : DSlLCmd) (a : Int) (hw : WfD tSlLCmd x) (h0 : 0 ≤ a) (h1 : a ≤ 1048576) : SzR (Q_l_szCmdS big x a) a (List.length x ≤ 1048576 ∧ ∀ y ∈ x, ByteArray.size y.2.1 ≤ 1048576) :=
  szR_list (qe := fun y a => Q_l_szCmd big y a) (r := fun n a i => R_l_szCmdS_5 n x a i) (n := big) hw.1 h0 h1 (Q_l_szCmdS_eq big x a) (fun n a i => R_l_szCmdS_5_eq n x a i) (fun y hy a h0 h1 => szCmdB y a (hw.2 y hy) h0 h1) (by decide)

end Go.Sx.Try

set_option maxRecDepth 100000
namespace Go.Sx.Try
open Go Go.Sx Go.Proofs

set_option maxHeartbeats 4000000 in
theorem law_Shows (t : DSlLBlock) (p : DLPeer) (c : DSlLCmd) (hw : WfD tSlLBlock t) (hp : WfD tLPeer p) (hc : WfD tSlLCmd c) : Q_l_FnExactShows big t p c = some true := by
  rw [Q_l_FnExactShows_eq]
  refine law_sz2 (pszBlockS t 1048576 hw (by decide) (by decide)) fun hb v v0 v1 => ?_
  refine law_sz2 (pszPeer p v hp v0 v1) fun hbp v' v0' v1' => ?_
  refine law_sz2 (szCmdSB c v' hc v0' (by omega)) fun hs _ _ _ => ?_
  have hbt : Bg tSlIBlock t := Bg_of (t := tSlIBlock) hb
  have h1 : List.length t ≤ 16777216 := hbt.1
  have h2 : ∀ y ∈ (t : List DIBlock), List.length y.2.2.1 ≤ 16777216 := fun y hy => (hbt.2 y hy).2.2.1.1
  have h3 : PeerB p := PeerB.of (Bg_of (t := tIPeer) hbp)
  have h4 : List.length c ≤ 16777216 := Nat.le_trans hs.1 (by decide)
  have h5 : Bd tSlLCmd c := ⟨hs.1, fun _ _ => Bd_flat rfl _⟩
  obtain ⟨t', p', k, e1, e2, r1, r2, r3⟩ := p_Shows t h1 h2 p h3 c h4 hs.2
  have ht' : Bg tSlIBlock t' := ⟨r1, fun y hy => ⟨trivial, trivial, ⟨r2 y hy, fun _ _ => Bg_flat rfl _⟩, Bg_flat rfl _, trivial⟩⟩
  obtain ⟨k1, b1, m1, g1, l1, u1⟩ := mh_BlockS h1 h2 (k := 1) (by decide) (by decide)
  obtain ⟨k2, y2, m2, l2, u2, _⟩ := mh_Peer h3 (k := k1) (by omega) (by omega)
  obtain ⟨k3, b3, m3, g3, l3, u3⟩ := mh_CmdS h4 (k := k2) (by omega) (by omega)
  obtain ⟨k4, b4, m4, g4, l4, u4⟩ := mh_BlockS r1 r2 (k := 1) (by decide) (by decide)
  obtain ⟨k5, y5, m5, l5, u5, g5⟩ := mh_Peer r3 (k := k4) (by omega) (by omega)
  simp (maxSteps := 20000000) (disch := omega) only [ptoBlockS t hb, ptoPeer p hbp, ptoCmdS c h5, e1, e2, Option.bind_some, peqBlockS _ ht', peqPeer _ r3.bg, peqBlockS _ hbt, peqPeer _ h3.bg, peqCmdS _ (Bg_of (t := tSlICmd) h5), m1, m2, m3, m4, m5, g4, g5, not_neg, beq_self_eq_true, Bool.not_true, cond_false, decide_true, both_self]

end Go.Sx.Try
