/- The helpers of the laws. -/
import Derived.Test.YtbamlihfaobfeaaGreatM9
import Derived.Test.YtbamlihfaobfeaaGreatTooEarlyF1
import Derived.Test.YtbamlihfaobfeaaGreatTypes
import Derived.Test.YtbamlihfaobfeaaGreatTooEarlyF2
set_option linter.unusedVariables false
set_option linter.unusedSimpArgs false
set_option maxRecDepth 100000
namespace Go.Sx.Tryz
open Go Go.Sx Go.Proofs

theorem pszCmd (x : DLCmd) (a : Int) (hw : WfD tLCmd x) (h0 : 0 ≤ a) (h1 : a ≤ 1048576) : SzR (Q_l_szCmd big x a) a (Bd tLCmd x) := by
  rw [Q_l_szCmd_eq]
  exact (szR_len (K := some) (hw.2.1) h0 h1 fun v0 k0 l0 _ => szR_end).imp fun h => (Bd_flat rfl _)

theorem pszCmdS (x : DSlLCmd) (a : Int) (hw : WfD tSlLCmd x) (h0 : 0 ≤ a) (h1 : a ≤ 1048576) : SzR (Q_l_szCmdS big x a) a (Bd tSlLCmd x) := 
  szR_list (qe := fun y a => Q_l_szCmd big y a) (r := fun n a i => R_l_szCmdS_5 n x a i) (n := big) hw.1 h0 h1 (Q_l_szCmdS_eq big x a) (fun n a i => R_l_szCmdS_5_eq n x a i) (fun y hy a h0 h1 => pszCmd y a (hw.2 y hy) h0 h1) (by decide)

theorem pszBlock (x : DLBlock) (a : Int) (hw : WfD tLBlock x) (h0 : 0 ≤ a) (h1 : a ≤ 1048576) : SzR (Q_l_szBlock big x a) a (Bd tLBlock x) := by
  rw [Q_l_szBlock_eq]
  exact (szR_bind (pszCmdS _ _ (hw.2.2.1) h0 h1) h0 h1 fun v0 k0 l0 => szR_end).imp fun h => ⟨(Bd_flat rfl _), (Bd_flat rfl _), h.1, (Bd_flat rfl _), trivial⟩

theorem pszBlockS (x : DSlLBlock) (a : Int) (hw : WfD tSlLBlock x) (h0 : 0 ≤ a) (h1 : a ≤ 1048576) : SzR (Q_l_szBlockS big x a) a (Bd tSlLBlock x) := 
  szR_list (qe := fun y a => Q_l_szBlock big y a) (r := fun n a i => R_l_szBlockS_5 n x a i) (n := big) hw.1 h0 h1 (Q_l_szBlockS_eq big x a) (fun n a i => R_l_szBlockS_5_eq n x a i) (fun y hy a h0 h1 => pszBlock y a (hw.2 y hy) h0 h1) (by decide)

theorem pszIntS (x : DSlInt) (a : Int) (hw : WfD tSlInt x) (h0 : 0 ≤ a) (h1 : a ≤ 1048576) : SzR (Q_l_szIntS big x a) a (Bd tSlInt x) := by
  rw [Q_l_szIntS_eq]
  exact (szR_len (K := some) hw.1 h0 h1 fun v _ _ _ => szR_end).imp fun h => ⟨h.1, fun y _ => Bd_flat rfl y⟩

theorem pszCell (x : DLCell) (a : Int) (hw : WfD tLCell x) (h0 : 0 ≤ a) (h1 : a ≤ 1048576) : SzR (Q_l_szCell big x a) a (Bd tLCell x) := by
  rw [Q_l_szCell_eq]
  exact (szR_len (K := some) (hw.1) h0 h1 fun v0 k0 l0 _ => szR_end).imp fun h => (Bd_flat rfl _)

theorem pszCellS (x : DSlLCell) (a : Int) (hw : WfD tSlLCell x) (h0 : 0 ≤ a) (h1 : a ≤ 1048576) : SzR (Q_l_szCellS big x a) a (Bd tSlLCell x) := 
  szR_list (qe := fun y a => Q_l_szCell big y a) (r := fun n a i => R_l_szCellS_5 n x a i) (n := big) hw.1 h0 h1 (Q_l_szCellS_eq big x a) (fun n a i => R_l_szCellS_5_eq n x a i) (fun y hy a h0 h1 => pszCell y a (hw.2 y hy) h0 h1) (by decide)

theorem pszUndo (x : DLUndo) (a : Int) (hw : WfD tLUndo x) (h0 : 0 ≤ a) (h1 : a ≤ 1048576) : SzR (Q_l_szUndo big x a) a (Bd tLUndo x) := by
  rw [Q_l_szUndo_eq]
  exact (szR_len (K := some) (hw.1) h0 h1 fun v0 k0 l0 _ => szR_end).imp fun h => (Bd_flat rfl _)

theorem pszUndoS (x : DSlLUndo) (a : Int) (hw : WfD tSlLUndo x) (h0 : 0 ≤ a) (h1 : a ≤ 1048576) : SzR (Q_l_szUndoS big x a) a (Bd tSlLUndo x) := 
  szR_list (qe := fun y a => Q_l_szUndo big y a) (r := fun n a i => R_l_szUndoS_5 n x a i) (n := big) hw.1 h0 h1 (Q_l_szUndoS_eq big x a) (fun n a i => R_l_szUndoS_5_eq n x a i) (fun y hy a h0 h1 => pszUndo y a (hw.2 y hy) h0 h1) (by decide)

theorem pszVoteS (x : DSlLVote) (a : Int) (hw : WfD tSlLVote x) (h0 : 0 ≤ a) (h1 : a ≤ 1048576) : SzR (Q_l_szVoteS big x a) a (Bd tSlLVote x) := by
  rw [Q_l_szVoteS_eq]
  exact (szR_len (K := some) hw.1 h0 h1 fun v _ _ _ => szR_end).imp fun h => ⟨h.1, fun y _ => Bd_flat rfl y⟩

theorem pszLetterS (x : DSlLLetter) (a : Int) (hw : WfD tSlLLetter x) (h0 : 0 ≤ a) (h1 : a ≤ 1048576) : SzR (Q_l_szLetterS big x a) a (Bd tSlLLetter x) := by
  rw [Q_l_szLetterS_eq]
  exact (szR_len (K := some) hw.1 h0 h1 fun v _ _ _ => szR_end).imp fun h => ⟨h.1, fun y _ => Bd_flat rfl y⟩

theorem pszPeer (x : DLPeer) (a : Int) (hw : WfD tLPeer x) (h0 : 0 ≤ a) (h1 : a ≤ 1048576) : SzR (Q_l_szPeer big x a) a (Bd tLPeer x) := by
  rw [Q_l_szPeer_eq]
  exact (szR_bind (pszIntS _ _ (hw.2.2.2.2.2.1) h0 h1) h0 h1 fun v0 k0 l0 => szR_bind (pszCellS _ _ (hw.2.2.2.2.2.2.1) k0 l0) k0 l0 fun v1 k1 l1 => szR_bind (pszIntS _ _ (hw.2.2.2.2.2.2.2.1) k1 l1) k1 l1 fun v2 k2 l2 => szR_bind (pszUndoS _ _ (hw.2.2.2.2.2.2.2.2.1) k2 l2) k2 l2 fun v3 k3 l3 => szR_bind (pszVoteS _ _ (hw.2.2.2.2.2.2.2.2.2.1) k3 l3) k3 l3 fun v4 k4 l4 => szR_bind (pszLetterS _ _ (hw.2.2.2.2.2.2.2.2.2.2.1) k4 l4) k4 l4 fun v5 k5 l5 => szR_end).imp fun h => ⟨(Bd_flat rfl _), (Bd_flat rfl _), (Bd_flat rfl _), (Bd_flat rfl _), (Bd_flat rfl _), h.1, h.2.1, h.2.2.1, h.2.2.2.1, h.2.2.2.2.1, h.2.2.2.2.2.1, (Bd_flat rfl _), trivial⟩

theorem ptoCmd (x : DLCmd) (h : Bd tLCmd x) : Q_l_toCmd big x = some x := by
  rw [Q_l_toCmd_eq]

theorem ptoCmdS (x : DSlLCmd) (h : Bd tSlLCmd x) : Q_l_toCmdS big x = some x := by
  have := copy_ok (g := fun y => some y) (f := fun y => y) (r := fun n i b => R_l_toCmdS_3 n x i b) (n := big) (Q_l_toCmdS_eq big x) (fun n i b => R_l_toCmdS_3_eq n x i b) (fun _ _ => rfl) (Nat.le_trans h.1 (by decide)) (by decide)
  simpa using this

theorem ptoQc (x : DLQc) (h : Bd tLQc x) : Q_l_toQc big x = some x := by
  rw [Q_l_toQc_eq]

theorem ptoBlock (x : DLBlock) (h : Bd tLBlock x) : Q_l_toBlock big x = some x := by
  rw [Q_l_toBlock_eq, ptoCmdS _ (h.2.2.1)]
  rfl

theorem ptoBlockS (x : DSlLBlock) (h : Bd tSlLBlock x) : Q_l_toBlockS big x = some x := by
  have := copy_ok (g := fun y => Q_l_toBlock big y) (f := fun y => y) (r := fun n i b => R_l_toBlockS_3 n x i b) (n := big) (Q_l_toBlockS_eq big x) (fun n i b => R_l_toBlockS_3_eq n x i b) (fun y hy => ptoBlock y (h.2 y hy)) (Nat.le_trans h.1 (by decide)) (by decide)
  simpa using this

theorem ptoVote (x : DLVote) (h : Bd tLVote x) : Q_l_toVote big x = some x := by
  rw [Q_l_toVote_eq]

theorem ptoIntS (x : DSlInt) (h : Bd tSlInt x) : Q_l_toIntS big x = some x := by
  have := copy_ok (g := fun y => some y) (f := fun y => y) (r := fun n i b => R_l_toIntS_3 n x i b) (n := big) (Q_l_toIntS_eq big x) (fun n i b => R_l_toIntS_3_eq n x i b) (fun _ _ => rfl) (Nat.le_trans h.1 (by decide)) (by decide)
  simpa using this

theorem ptoCell (x : DLCell) (h : Bd tLCell x) : Q_l_toCell big x = some x := by
  rw [Q_l_toCell_eq]

theorem ptoCellS (x : DSlLCell) (h : Bd tSlLCell x) : Q_l_toCellS big x = some x := by
  have := copy_ok (g := fun y => some y) (f := fun y => y) (r := fun n i b => R_l_toCellS_3 n x i b) (n := big) (Q_l_toCellS_eq big x) (fun n i b => R_l_toCellS_3_eq n x i b) (fun _ _ => rfl) (Nat.le_trans h.1 (by decide)) (by decide)
  simpa using this

theorem ptoUndo (x : DLUndo) (h : Bd tLUndo x) : Q_l_toUndo big x = some x := by
  rw [Q_l_toUndo_eq]

theorem ptoUndoS (x : DSlLUndo) (h : Bd tSlLUndo x) : Q_l_toUndoS big x = some x := by
  have := copy_ok (g := fun y => some y) (f := fun y => y) (r := fun n i b => R_l_toUndoS_3 n x i b) (n := big) (Q_l_toUndoS_eq big x) (fun n i b => R_l_toUndoS_3_eq n x i b) (fun _ _ => rfl) (Nat.le_trans h.1 (by decide)) (by decide)
  simpa using this

theorem ptoVoteS (x : DSlLVote) (h : Bd tSlLVote x) : Q_l_toVoteS big x = some x := by
  have := copy_ok (g := fun y => some y) (f := fun y => y) (r := fun n i b => R_l_toVoteS_3 n x i b) (n := big) (Q_l_toVoteS_eq big x) (fun n i b => R_l_toVoteS_3_eq n x i b) (fun _ _ => rfl) (Nat.le_trans h.1 (by decide)) (by decide)
  simpa using this

theorem ptoLetter (x : DLLetter) (h : Bd tLLetter x) : Q_l_toLetter big x = some x := by
  rw [Q_l_toLetter_eq]

theorem ptoLetterS (x : DSlLLetter) (h : Bd tSlLLetter x) : Q_l_toLetterS big x = some x := by
  have := copy_ok (g := fun y => some y) (f := fun y => y) (r := fun n i b => R_l_toLetterS_3 n x i b) (n := big) (Q_l_toLetterS_eq big x) (fun n i b => R_l_toLetterS_3_eq n x i b) (fun _ _ => rfl) (Nat.le_trans h.1 (by decide)) (by decide)
  simpa using this

theorem ptoPeer (x : DLPeer) (h : Bd tLPeer x) : Q_l_toPeer big x = some x := by
  rw [Q_l_toPeer_eq, ptoIntS _ (h.2.2.2.2.2.1), ptoCellS _ (h.2.2.2.2.2.2.1), ptoIntS _ (h.2.2.2.2.2.2.2.1), ptoUndoS _ (h.2.2.2.2.2.2.2.2.1), ptoVoteS _ (h.2.2.2.2.2.2.2.2.2.1), ptoLetterS _ (h.2.2.2.2.2.2.2.2.2.2.1)]
  rfl

theorem peqQc (x : DIQc) (h : Bg tIQc x) : Q_l_eqQc big x x = some true := by
  rw [Q_l_eqQc_eq]
  simp only [decide_true, Bool.not_true, cond_false]

theorem peqVote (x : DIVote) (h : Bg tIVote x) : Q_l_eqVote big x x = some true := by
  rw [Q_l_eqVote_eq]
  simp only [decide_true, Bool.not_true, cond_false]

theorem peqIntS (x : DSlInt) (h : Bg tSlInt x) : Q_l_eqIntS big x x = some true := 
  eq_ok (e := fun y y1 => some (decide (y = y1))) (r := fun n i => R_l_eqIntS_4 n x x i) (n := big) (Q_l_eqIntS_eq big x x) (fun n i => R_l_eqIntS_4_eq n x x i) (fun y _ => by simp) h.1 (by decide)

theorem peqCell (x : DICell) (h : Bg tICell x) : Q_l_eqCell big x x = some true := by
  rw [Q_l_eqCell_eq]
  simp only [decide_true, Bool.not_true, cond_false]

theorem peqCellS (x : DSlICell) (h : Bg tSlICell x) : Q_l_eqCellS big x x = some true := 
  eq_ok (e := fun y y1 => Q_l_eqCell big y y1) (r := fun n i => R_l_eqCellS_4 n x x i) (n := big) (Q_l_eqCellS_eq big x x) (fun n i => R_l_eqCellS_4_eq n x x i) (fun y hy => peqCell y (h.2 y hy)) h.1 (by decide)

theorem peqUndo (x : DIUndo) (h : Bg tIUndo x) : Q_l_eqUndo big x x = some true := by
  rw [Q_l_eqUndo_eq]
  simp only [decide_true, beq_self_eq_true, Bool.not_true, cond_false]

theorem peqUndoS (x : DSlIUndo) (h : Bg tSlIUndo x) : Q_l_eqUndoS big x x = some true := 
  eq_ok (e := fun y y1 => Q_l_eqUndo big y y1) (r := fun n i => R_l_eqUndoS_4 n x x i) (n := big) (Q_l_eqUndoS_eq big x x) (fun n i => R_l_eqUndoS_4_eq n x x i) (fun y hy => peqUndo y (h.2 y hy)) h.1 (by decide)

theorem peqVoteS (x : DSlIVote) (h : Bg tSlIVote x) : Q_l_eqVoteS big x x = some true := 
  eq_ok (e := fun y y1 => Q_l_eqVote big y y1) (r := fun n i => R_l_eqVoteS_4 n x x i) (n := big) (Q_l_eqVoteS_eq big x x) (fun n i => R_l_eqVoteS_4_eq n x x i) (fun y hy => peqVote y (h.2 y hy)) h.1 (by decide)

theorem peqLetter (x : DILetter) (h : Bg tILetter x) : Q_l_eqLetter big x x = some true := by
  rw [Q_l_eqLetter_eq]
  simp only [decide_true, Bool.not_true, cond_false, Option.bind_some, peqQc _ (h.2.2.2.2.2.1), peqVote _ (h.2.2.2.2.2.2.1)]

theorem peqLetterS (x : DSlILetter) (h : Bg tSlILetter x) : Q_l_eqLetterS big x x = some true := 
  eq_ok (e := fun y y1 => Q_l_eqLetter big y y1) (r := fun n i => R_l_eqLetterS_4 n x x i) (n := big) (Q_l_eqLetterS_eq big x x) (fun n i => R_l_eqLetterS_4_eq n x x i) (fun y hy => peqLetter y (h.2 y hy)) h.1 (by decide)

theorem peqPeer (x : DIPeer) (h : Bg tIPeer x) : Q_l_eqPeer big x x = some true := by
  rw [Q_l_eqPeer_eq]
  simp only [decide_true, Bool.not_true, cond_false, Option.bind_some, peqQc _ (h.2.2.1), peqQc _ (h.2.2.2.1), peqVote _ (h.2.2.2.2.1), peqIntS _ (h.2.2.2.2.2.1), peqCellS _ (h.2.2.2.2.2.2.1), peqIntS _ (h.2.2.2.2.2.2.2.1), peqUndoS _ (h.2.2.2.2.2.2.2.2.1), peqVoteS _ (h.2.2.2.2.2.2.2.2.2.1), peqLetterS _ (h.2.2.2.2.2.2.2.2.2.2.1)]

theorem peqCmd (x : DICmd) (h : Bg tICmd x) : Q_l_eqCmd big x x = some true := by
  rw [Q_l_eqCmd_eq]
  simp only [decide_true, Bool.not_true, cond_false]

theorem peqCmdS (x : DSlICmd) (h : Bg tSlICmd x) : Q_l_eqCmdS big x x = some true := 
  eq_ok (e := fun y y1 => Q_l_eqCmd big y y1) (r := fun n i => R_l_eqCmdS_4 n x x i) (n := big) (Q_l_eqCmdS_eq big x x) (fun n i => R_l_eqCmdS_4_eq n x x i) (fun y hy => peqCmd y (h.2 y hy)) h.1 (by decide)

theorem peqBlock (x : DIBlock) (h : Bg tIBlock x) : Q_l_eqBlock big x x = some true := by
  rw [Q_l_eqBlock_eq]
  simp only [decide_true, Bool.not_true, cond_false, Option.bind_some, peqCmdS _ (h.2.2.1), peqQc _ (h.2.2.2.1)]

theorem peqBlockS (x : DSlIBlock) (h : Bg tSlIBlock x) : Q_l_eqBlockS big x x = some true := 
  eq_ok (e := fun y y1 => Q_l_eqBlock big y y1) (r := fun n i => R_l_eqBlockS_4 n x x i) (n := big) (Q_l_eqBlockS_eq big x x) (fun n i => R_l_eqBlockS_4_eq n x x i) (fun y hy => peqBlock y (h.2 y hy)) h.1 (by decide)

end Go.Sx.Tryz

set_option maxRecDepth 100000
namespace Go.Sx.Tryz
open Go Go.Sx Go.Proofs

theorem text_ex : ∀ (n : Nat) (f : Nat) (k : Int) (s : ByteArray), n < f → 0 ≤ k → k ≤ 4611686018427387904 → k < 2 ^ n → s.size + n ≤ 100 → ∃ t, R_l_markText_4 f k s = some t
  | n, 0, k, s, h, _, _, _, _ => by omega
  | n, f + 1, k, s, h1, h2, h2', h3, h4 => by
    rw [R_l_markText_4_eq]
    by_cases hk : (0 : Int) < k
    · rw [decide_eq_true hk]
      simp only [cond_true]
      cases n with
      | zero => simp at h3; omega
      | succ n =>
        have hsz : ∀ x : Int, (ByteArray.mk (List.map (fun n => UInt8.ofNat (Int.toNat n)) [x]).toArray).size = 1 := fun _ => rfl
        rw [if_pos (by rw [hsz]; simp only [lim]; omega)]
        have h5 : Int.tdiv k 10 = k / 10 := by rw [Int.tdiv_eq_ediv_of_nonneg h2]
        rw [h5, wrap64 (n := k / 10) (by omega) (by omega)]
        exact text_ex n f (k / 10) _ (by omega) (by omega) (by omega) (by
          have : (2 : Int) ^ (n + 1) = 2 * 2 ^ n := by rw [Int.pow_succ]; omega
          omega) (by rw [ByteArray.size_append, hsz]; omega)
    · rw [decide_eq_false hk]
      simp only [cond_false]
      have hsz : (ByteArray.mk #[(109 : UInt8)]).size = 1 := rfl
      rw [if_pos (by rw [hsz]; simp only [lim]; omega)]
      exact ⟨_, rfl⟩
/-- the text of a mark -/
noncomputable def mt (k : Int) : ByteArray := (Q_l_markText big k).getD ByteArray.empty
theorem pmt {k : Int} (h1 : 0 < k) (h2 : k ≤ 4611686018427387904) : Q_l_markText big k = some (mt k) := by
  have : ∃ t, Q_l_markText big k = some t := by
    rw [Q_l_markText_eq, decide_eq_false (show ¬ k ≤ 0 by omega)]
    simp only [cond_false]
    exact text_ex 63 big k _ (by decide) (by omega) (by omega) (by omega) (by decide)
  obtain ⟨t, ht⟩ := this
  unfold mt
  rw [ht]; rfl

theorem mh_IntS {xs : List Int} (hl : xs.length ≤ 16777216) {k : Int} (hk : 0 < k) (hM : k + 16777216 * 1 ≤ 4611686018427387904) :
    ∃ (k' : Int) (b' : List Int), Q_l_markIntS big xs k = some (k', b', ()) ∧ Q_l_heldIntS big b' k = some k' ∧ k ≤ k' ∧ k' ≤ k + 16777216 * 1 := by
  simp only [Q_l_markIntS_eq, Q_l_heldIntS_eq]
  refine mh_list (xs := xs) (W := 1) (B := fun _ => True) (r := fun n k i b => R_l_markIntS_2 n k i b) (s := fun n b k i => R_l_heldIntS_2 n b k i) (n := big) (by decide) (fun k i b hi _ h1 h2 h3 => ?_) (fun n k b => ?_) (fun n k b => ?_) (by decide) hl (fun _ _ => trivial) hk (by omega)
  · have h4 : (i : Int) < (b.length : Int) := by omega
    refine ⟨(k : Int), k + 1, by omega, by omega, fun n => ?_, fun m b' hb' => ?_⟩
    · rw [R_l_markIntS_2_eq, decide_eq_true h4]
      simp only [cond_true, mk1 hi, mk2 hi]
      simp (disch := omega) only [wrap64, pmt, Option.bind_some, mk1 hi, mk2 hi]
    · have h5 : (i : Int) < (b'.length : Int) := by have := nth_lt hb'; omega
      simp (disch := omega) only [R_l_heldIntS_2_eq, h5, decide_true, cond_true, Int.natCast_nonneg, if_true, Int.toNat_natCast, hb', Option.bind_some, wrap64, Bool.not_true, cond_false, pmt, beq_self_eq_true]
  · simp only [R_l_markIntS_2_eq, Int.lt_irrefl, decide_false, cond_false]
  · simp only [R_l_heldIntS_2_eq, Int.lt_irrefl, decide_false, cond_false]
theorem mh_CellS {xs : List DICell} (hl : xs.length ≤ 16777216) {k : Int} (hk : 0 < k) (hM : k + 16777216 * 2 ≤ 4611686018427387904) :
    ∃ (k' : Int) (b' : List DICell), Q_l_markCellS big xs k = some (k', b', ()) ∧ Q_l_heldCellS big b' k = some k' ∧ k ≤ k' ∧ k' ≤ k + 16777216 * 2 := by
  simp only [Q_l_markCellS_eq, Q_l_heldCellS_eq]
  refine mh_list (xs := xs) (W := 2) (B := fun _ => True) (r := fun n k i b => R_l_markCellS_2 n k i b) (s := fun n b k i => R_l_heldCellS_2 n b k i) (n := big) (by decide) (fun k i b hi _ h1 h2 h3 => ?_) (fun n k b => ?_) (fun n k b => ?_) (by decide) hl (fun _ _ => trivial) hk (by omega)
  · have h4 : (i : Int) < (b.length : Int) := by omega
    refine ⟨((mt k, k + 1, ()) : DICell), k + 1 + 1, by omega, by omega, fun n => ?_, fun m b' hb' => ?_⟩
    · rw [R_l_markCellS_2_eq, decide_eq_true h4]
      simp only [cond_true, mk1 hi, mk2 hi]
      simp (disch := omega) only [wrap64, pmt, Option.bind_some, mk1 hi, mk2 hi]
    · have h5 : (i : Int) < (b'.length : Int) := by have := nth_lt hb'; omega
      simp (disch := omega) only [R_l_heldCellS_2_eq, h5, decide_true, cond_true, Int.natCast_nonneg, if_true, Int.toNat_natCast, hb', Option.bind_some, wrap64, Bool.not_true, cond_false, pmt, beq_self_eq_true]
  · simp only [R_l_markCellS_2_eq, Int.lt_irrefl, decide_false, cond_false]
  · simp only [R_l_heldCellS_2_eq, Int.lt_irrefl, decide_false, cond_false]
theorem mh_UndoS {xs : List DIUndo} (hl : xs.length ≤ 16777216) {k : Int} (hk : 0 < k) (hM : k + 16777216 * 3 ≤ 4611686018427387904) :
    ∃ (k' : Int) (b' : List DIUndo), Q_l_markUndoS big xs k = some (k', b', ()) ∧ Q_l_heldUndoS big b' k = some k' ∧ k ≤ k' ∧ k' ≤ k + 16777216 * 3 := by
  simp only [Q_l_markUndoS_eq, Q_l_heldUndoS_eq]
  refine mh_list (xs := xs) (W := 3) (B := fun _ => True) (r := fun n k i b => R_l_markUndoS_2 n k i b) (s := fun n b k i => R_l_heldUndoS_2 n b k i) (n := big) (by decide) (fun k i b hi _ h1 h2 h3 => ?_) (fun n k b => ?_) (fun n k b => ?_) (by decide) hl (fun _ _ => trivial) hk (by omega)
  · have h4 : (i : Int) < (b.length : Int) := by omega
    refine ⟨((mt k, decide ((k + 1).tmod 3 = 0), k + 1 + 1, ()) : DIUndo), k + 1 + 1 + 1, by omega, by omega, fun n => ?_, fun m b' hb' => ?_⟩
    · rw [R_l_markUndoS_2_eq, decide_eq_true h4]
      simp only [cond_true, mk1 hi, mk2 hi]
      simp (disch := omega) only [wrap64, pmt, Option.bind_some, mk1 hi, mk2 hi]
    · have h5 : (i : Int) < (b'.length : Int) := by have := nth_lt hb'; omega
      simp (disch := omega) only [R_l_heldUndoS_2_eq, h5, decide_true, cond_true, Int.natCast_nonneg, if_true, Int.toNat_natCast, hb', Option.bind_some, wrap64, Bool.not_true, cond_false, pmt, beq_self_eq_true]
  · simp only [R_l_markUndoS_2_eq, Int.lt_irrefl, decide_false, cond_false]
  · simp only [R_l_heldUndoS_2_eq, Int.lt_irrefl, decide_false, cond_false]
theorem mh_VoteS {xs : List DIVote} (hl : xs.length ≤ 16777216) {k : Int} (hk : 0 < k) (hM : k + 16777216 * 4 ≤ 4611686018427387904) :
    ∃ (k' : Int) (b' : List DIVote), Q_l_markVoteS big xs k = some (k', b', ()) ∧ Q_l_heldVoteS big b' k = some k' ∧ k ≤ k' ∧ k' ≤ k + 16777216 * 4 := by
  simp only [Q_l_markVoteS_eq, Q_l_heldVoteS_eq]
  refine mh_list (xs := xs) (W := 4) (B := fun _ => True) (r := fun n k i b => R_l_markVoteS_2 n k i b) (s := fun n b k i => R_l_heldVoteS_2 n b k i) (n := big) (by decide) (fun k i b hi _ h1 h2 h3 => ?_) (fun n k b => ?_) (fun n k b => ?_) (by decide) hl (fun _ _ => trivial) hk (by omega)
  · have h4 : (i : Int) < (b.length : Int) := by omega
    refine ⟨((k, k + 1, k + 1 + 1, k + 1 + 1 + 1, ()) : DIVote), k + 1 + 1 + 1 + 1, by omega, by omega, fun n => ?_, fun m b' hb' => ?_⟩
    · rw [R_l_markVoteS_2_eq, decide_eq_true h4]
      simp only [cond_true, mk1 hi, mk2 hi]
      simp (disch := omega) only [wrap64, pmt, Option.bind_some, mk1 hi, mk2 hi]
    · have h5 : (i : Int) < (b'.length : Int) := by have := nth_lt hb'; omega
      simp (disch := omega) only [R_l_heldVoteS_2_eq, h5, decide_true, cond_true, Int.natCast_nonneg, if_true, Int.toNat_natCast, hb', Option.bind_some, wrap64, Bool.not_true, cond_false, pmt, beq_self_eq_true]
  · simp only [R_l_markVoteS_2_eq, Int.lt_irrefl, decide_false, cond_false]
  · simp only [R_l_heldVoteS_2_eq, Int.lt_irrefl, decide_false, cond_false]
theorem mh_LetterS {xs : List DILetter} (hl : xs.length ≤ 16777216) {k : Int} (hk : 0 < k) (hM : k + 16777216 * 13 ≤ 4611686018427387904) :
    ∃ (k' : Int) (b' : List DILetter), Q_l_markLetterS big xs k = some (k', b', ()) ∧ Q_l_heldLetterS big b' k = some k' ∧ k ≤ k' ∧ k' ≤ k + 16777216 * 13 := by
  simp only [Q_l_markLetterS_eq, Q_l_heldLetterS_eq]
  refine mh_list (xs := xs) (W := 13) (B := fun _ => True) (r := fun n k i b => R_l_markLetterS_2 n k i b) (s := fun n b k i => R_l_heldLetterS_2 n b k i) (n := big) (by decide) (fun k i b hi _ h1 h2 h3 => ?_) (fun n k b => ?_) (fun n k b => ?_) (by decide) hl (fun _ _ => trivial) hk (by omega)
  · have h4 : (i : Int) < (b.length : Int) := by omega
    refine ⟨((k, k + 1, k + 1 + 1, k + 1 + 1 + 1, k + 1 + 1 + 1 + 1, (k + 1 + 1 + 1 + 1 + 1, k + 1 + 1 + 1 + 1 + 1 + 1, k + 1 + 1 + 1 + 1 + 1 + 1 + 1, k + 1 + 1 + 1 + 1 + 1 + 1 + 1 + 1, ()), (k + 1 + 1 + 1 + 1 + 1 + 1 + 1 + 1 + 1, k + 1 + 1 + 1 + 1 + 1 + 1 + 1 + 1 + 1 + 1, k + 1 + 1 + 1 + 1 + 1 + 1 + 1 + 1 + 1 + 1 + 1, k + 1 + 1 + 1 + 1 + 1 + 1 + 1 + 1 + 1 + 1 + 1 + 1, ()), ()) : DILetter), k + 1 + 1 + 1 + 1 + 1 + 1 + 1 + 1 + 1 + 1 + 1 + 1 + 1, by omega, by omega, fun n => ?_, fun m b' hb' => ?_⟩
    · rw [R_l_markLetterS_2_eq, decide_eq_true h4]
      simp only [cond_true, mk1 hi, mk2 hi]
      simp (disch := omega) only [wrap64, pmt, Option.bind_some, mk1 hi, mk2 hi]
    · have h5 : (i : Int) < (b'.length : Int) := by have := nth_lt hb'; omega
      simp (disch := omega) only [R_l_heldLetterS_2_eq, h5, decide_true, cond_true, Int.natCast_nonneg, if_true, Int.toNat_natCast, hb', Option.bind_some, wrap64, Bool.not_true, cond_false, pmt, beq_self_eq_true]
  · simp only [R_l_markLetterS_2_eq, Int.lt_irrefl, decide_false, cond_false]
  · simp only [R_l_heldLetterS_2_eq, Int.lt_irrefl, decide_false, cond_false]

end Go.Sx.Tryz

set_option maxRecDepth 100000
namespace Go.Sx.Tryz
open Go Go.Sx Go.Proofs

theorem clone_ok {α : Type} (xs : List α) (h : xs.length ≤ 16777216) : (nilC xs fun b => bif b then some [] else if (0 : Nat) + List.length xs ≤ lim then some xs else none) = some xs := by
  cases xs with
  | nil => exact both_self _
  | cons x l =>
    simp only [nilC, cond_false]
    rw [if_pos (by unfold lim; omega)]
theorem pClone_Int (x : DSlInt) (h : x.length ≤ 16777216) : Q_g_Clone_Int big x = some x := by rw [Q_g_Clone_Int_eq]; exact clone_ok x h
theorem pClone_ICell (x : DSlICell) (h : x.length ≤ 16777216) : Q_g_Clone_ICell big x = some x := by rw [Q_g_Clone_ICell_eq]; exact clone_ok x h
theorem pClone_IUndo (x : DSlIUndo) (h : x.length ≤ 16777216) : Q_g_Clone_IUndo big x = some x := by rw [Q_g_Clone_IUndo_eq]; exact clone_ok x h
theorem pClone_IVote (x : DSlIVote) (h : x.length ≤ 16777216) : Q_g_Clone_IVote big x = some x := by rw [Q_g_Clone_IVote_eq]; exact clone_ok x h
theorem pClone_ILetter (x : DSlILetter) (h : x.length ≤ 16777216) : Q_g_Clone_ILetter big x = some x := by rw [Q_g_Clone_ILetter_eq]; exact clone_ok x h

/-- a peer whose lists are rather short -/
structure PeerB (x : DIPeer) : Prop where
  row : List.length x.2.2.2.2.2.1 ≤ 16777216
  cells : List.length x.2.2.2.2.2.2.1 ≤ 16777216
  early : List.length x.2.2.2.2.2.2.2.1 ≤ 16777216
  undos : List.length x.2.2.2.2.2.2.2.2.1 ≤ 16777216
  votes : List.length x.2.2.2.2.2.2.2.2.2.1 ≤ 16777216
  news : List.length x.2.2.2.2.2.2.2.2.2.2.1 ≤ 16777216
theorem PeerB.of {x : DIPeer} (h : Bg tIPeer x) : PeerB x :=
  ⟨h.2.2.2.2.2.1.1, h.2.2.2.2.2.2.1.1, h.2.2.2.2.2.2.2.1.1, h.2.2.2.2.2.2.2.2.1.1, h.2.2.2.2.2.2.2.2.2.1.1, h.2.2.2.2.2.2.2.2.2.2.1.1⟩
theorem PeerB.bg {x : DIPeer} (h : PeerB x) : Bg tIPeer x :=
  ⟨trivial, trivial, Bg_flat rfl _, Bg_flat rfl _, Bg_flat rfl _, ⟨h.row, fun _ _ => trivial⟩, ⟨h.cells, fun _ _ => Bg_flat rfl _⟩, ⟨h.early, fun _ _ => trivial⟩, ⟨h.undos, fun _ _ => Bg_flat rfl _⟩,
    ⟨h.votes, fun _ _ => Bg_flat rfl _⟩, ⟨h.news, fun _ _ => Bg_flat rfl _⟩, trivial, trivial⟩

theorem p_clonePeer (x : DIPeer) (h : PeerB x) : Q_i_clonePeer big x = some x := by
  rw [Q_i_clonePeer_eq]
  simp only [pClone_Int _ h.row, pClone_ICell _ h.cells, pClone_Int _ h.early, pClone_IUndo _ h.undos, pClone_IVote _ h.votes, pClone_ILetter _ h.news, Option.bind_some]
theorem p_l09Copy (x : DIPeer) (h : PeerB x) : Q_s_l09Copy big x = some x := by
  rw [Q_s_l09Copy_eq]
  have := h.row; have := h.cells; have := h.early; have := h.undos; have := h.votes; have := h.news
  unfold lim
  repeat rw [if_pos (by omega)]

end Go.Sx.Tryz

set_option maxRecDepth 100000
namespace Go.Sx.Tryz
open Go Go.Sx Go.Proofs

theorem not_neg {k : Int} (h : 0 < k) : decide (k < 0) = false := decide_eq_false (by omega)

/-- what of a peer is its lists, put back -/
abbrev peerWith (x : DIPeer) (a : List Int) (b : List DICell) (c : List Int) (d : List DIUndo) (e : List DIVote) (f : List DILetter) : DIPeer :=
  (x.1, x.2.1, x.2.2.1, x.2.2.2.1, x.2.2.2.2.1, a, b, c, d, e, f, x.2.2.2.2.2.2.2.2.2.2.2)

theorem mh_Peer {x : DIPeer} (h : PeerB x) {k : Int} (hk : 0 < k) (hM : k + 16777216 * 24 ≤ 4611686018427387904) :
    ∃ (k' : Int), ∃ y, Q_l_markPeer big x k = some (k', y, ()) ∧ k ≤ k' ∧ k' ≤ k + 16777216 * 24 ∧
      Q_l_heldPeer big (x.1, x.2.1, x.2.2.1, x.2.2.2.1, x.2.2.2.2.1, y.2.2.2.2.2.1, y.2.2.2.2.2.2.1, y.2.2.2.2.2.2.2.1, y.2.2.2.2.2.2.2.2.1, y.2.2.2.2.2.2.2.2.2.1, y.2.2.2.2.2.2.2.2.2.2.1, x.2.2.2.2.2.2.2.2.2.2.2) k = some k' := by
  obtain ⟨k1, b1, m1, h1, l1, u1⟩ := mh_IntS h.row hk (by omega)
  obtain ⟨k2, b2, m2, h2, l2, u2⟩ := mh_CellS h.cells (k := k1) (by omega) (by omega)
  obtain ⟨k3, b3, m3, h3, l3, u3⟩ := mh_IntS h.early (k := k2) (by omega) (by omega)
  obtain ⟨k4, b4, m4, h4, l4, u4⟩ := mh_UndoS h.undos (k := k3) (by omega) (by omega)
  obtain ⟨k5, b5, m5, h5, l5, u5⟩ := mh_VoteS h.votes (k := k4) (by omega) (by omega)
  obtain ⟨k6, b6, m6, h6, l6, u6⟩ := mh_LetterS h.news (k := k5) (by omega) (by omega)
  refine ⟨k6, ((), (), ((), (), (), (), ()), ((), (), (), (), ()), ((), (), (), (), ()), b1, b2, b3, b4, b5, b6, (), ()), ?_, by omega, by omega, ?_⟩
  · rw [Q_l_markPeer_eq]
    simp only [m1, m2, m3, m4, m5, m6, Option.bind_some]
  · rw [Q_l_heldPeer_eq]
    simp (disch := omega) only [h1, h2, h3, h4, h5, h6, Option.bind_some, not_neg, cond_false]

end Go.Sx.Tryz

set_option maxRecDepth 100000
namespace Go.Sx.Tryz
open Go Go.Sx Go.Proofs
theorem mk5 {α β : Type} {b : List α} {i : Nat} (h : i < b.length) (x z : α) (K : List α → Option β) :
    (updO (upd b i x) (Int.toNat (i : Int)) z).bind K = K (upd b i z) := by
  rw [Int.toNat_natCast, updO_upd h]
  rfl
theorem mo_loop {α : Type} {B : α → Prop} {W : Int} {r : Nat → Int → Int → List α → Option (Int × List α × Unit)} (hW : 0 ≤ W)
    (step : ∀ (k : Int) (i : Nat) (b : List α) (hi : i < b.length), B b[i] → 0 < k → k + W ≤ 4611686018427387904 → i < 16777216 → ∃ y k', k ≤ k' ∧ k' ≤ k + W ∧ ∀ n, r (n + 1) k i b = r n k' ((i : Int) + 1) (upd b i y))
    (rd : ∀ n k (b : List α), r (n + 1) k (b.length : Nat) b = some (k, b, ())) : ∀ (n i : Nat) (k : Int) (b : List α), b.length < n + i → i ≤ b.length → (∀ x ∈ b.drop i, B x) → 0 < k → k + ((b.length - i : Nat) : Int) * W ≤ 4611686018427387904 → b.length ≤ 16777216 →
      ∃ k' b', r n k i b = some (k', b', ()) ∧ k ≤ k' ∧ k' ≤ k + ((b.length - i : Nat) : Int) * W
  | 0, i, k, b, h1, h2, _, _, _, _ => by omega
  | n + 1, i, k, b, h1, h2, h3, h4, h5, h6 => by
    rcases Nat.lt_or_ge i b.length with hi | hi
    · have e : ((b.length - i : Nat) : Int) * W = ((b.length - (i + 1) : Nat) : Int) * W + W := by
        rw [show ((b.length - i : Nat) : Int) = ((b.length - (i + 1) : Nat) : Int) + 1 by omega, Int.add_mul, Int.one_mul]
      have h0 : 0 ≤ ((b.length - (i + 1) : Nat) : Int) * W := Int.mul_nonneg (by omega) hW
      rw [e] at h5 ⊢
      rw [List.drop_eq_getElem_cons hi] at h3
      obtain ⟨y, k', s1, s2, s3⟩ := step k i b hi (h3 _ (List.mem_cons_self ..)) h4 (by omega) (by omega)
      have ih := mo_loop hW step rd n (i + 1) k' (upd b i y) (by rw [upd_length]; omega) (by rw [upd_length]; omega) (fun x hx => h3 x (by rw [upd_drop] at hx; exact List.mem_cons_of_mem _ hx)) (by omega) (by rw [upd_length]; omega) (by rw [upd_length]; exact h6)
      obtain ⟨k2, b2, c1, c2, c3⟩ := ih
      rw [upd_length] at c3
      exact ⟨k2, b2, by rw [s3 n]; exact c1, by omega, by omega⟩
    · have e : i = b.length := by omega
      subst e
      exact ⟨k, b, rd n k b, Int.le_refl _, by simp⟩
theorem mo_list {α : Type} {B : α → Prop} {W : Int} {r : Nat → Int → Int → List α → Option (Int × List α × Unit)} (hW : 0 ≤ W)
    (step : ∀ (k : Int) (i : Nat) (b : List α) (hi : i < b.length), B b[i] → 0 < k → k + W ≤ 4611686018427387904 → i < 16777216 → ∃ y k', k ≤ k' ∧ k' ≤ k + W ∧ ∀ n, r (n + 1) k i b = r n k' ((i : Int) + 1) (upd b i y))
    (rd : ∀ n k (b : List α), r (n + 1) k (b.length : Nat) b = some (k, b, ())) {n : Nat} (hn : 16777216 < n) {xs : List α} (hl : xs.length ≤ 16777216) (hB : ∀ x ∈ xs, B x) {k : Int} (hk : 0 < k) (hM : k + 16777216 * W ≤ 4611686018427387904) :
    ∃ k' b', r n k 0 xs = some (k', b', ()) ∧ k ≤ k' ∧ k' ≤ k + 16777216 * W := by
  have hle : ((xs.length - 0 : Nat) : Int) * W ≤ 16777216 * W := Int.mul_le_mul_of_nonneg_right (by omega) hW
  obtain ⟨k', b', c1, c2, c3⟩ := mo_loop hW step rd n 0 k xs (by omega) (Nat.zero_le _) (by simpa using hB) hk (by omega) hl
  exact ⟨k', b', c1, c2, by omega⟩

theorem mo_CmdS {xs : List DICmd} (hl : xs.length ≤ 16777216) {k : Int} (hk : 0 < k) (hM : k + 16777216 * 3 ≤ 4611686018427387904) :
    ∃ (k' : Int) (b' : List DICmd), Q_l_markCmdS big xs k = some (k', b', ()) ∧ k ≤ k' ∧ k' ≤ k + 16777216 * 3 := by
  simp only [Q_l_markCmdS_eq]
  refine mo_list (xs := xs) (W := 3) (B := fun _ => True) (r := fun n k i b => R_l_markCmdS_2 n k i b) (n := big) (by decide) (fun k i b hi _ h1 h2 h3 => ?_) (fun n k b => ?_) (by decide) hl (fun _ _ => trivial) hk (by omega)
  · have h4 : (i : Int) < (b.length : Int) := by omega
    refine ⟨((k, mt (k + 1), k + 1 + 1, ()) : DICmd), k + 1 + 1 + 1, by omega, by omega, fun n => ?_⟩
    rw [R_l_markCmdS_2_eq, decide_eq_true h4]
    simp only [cond_true, mk1 hi, mk2 hi]
    simp (disch := omega) only [wrap64, pmt, Option.bind_some, mk1 hi, mk2 hi]
  · simp only [R_l_markCmdS_2_eq, Int.lt_irrefl, decide_false, cond_false]
theorem mo_BlockS {xs : List DIBlock} (hl : xs.length ≤ 16777216) (hB : ∀ x ∈ xs, (fun x => List.length x.2.2.1 ≤ 16777216 : DIBlock → Prop) x) {k : Int} (hk : 0 < k) (hM : k + 16777216 * 50331654 ≤ 4611686018427387904) :
    ∃ (k' : Int) (b' : List DIBlock), Q_l_markBlockS big xs k = some (k', b', ()) ∧ k ≤ k' ∧ k' ≤ k + 16777216 * 50331654 := by
  simp only [Q_l_markBlockS_eq]
  refine mo_list (xs := xs) (W := 50331654) (B := fun x => List.length x.2.2.1 ≤ 16777216) (r := fun n k i b => R_l_markBlockS_2 n k i b) (n := big) (by decide) (fun k i b hi hx h1 h2 h3 => ?_) (fun n k b => ?_) (by decide) hl hB hk (by omega)
  · have h4 : (i : Int) < (b.length : Int) := by omega
    obtain ⟨k1, b1, m1, l1, u1⟩ := mo_CmdS hx (k := k + 1 + 1) (by omega) (by omega)
    refine ⟨((k, k + 1, b1, (k1, k1 + 1, k1 + 1 + 1, k1 + 1 + 1 + 1, ()), ()) : DIBlock), k1 + 1 + 1 + 1 + 1, by omega, by omega, fun n => ?_⟩
    rw [R_l_markBlockS_2_eq, decide_eq_true h4, cond_true]
    rw [mk1 hi]
    rw [mk2 hi]
    dsimp only
    rw [wrap64 (n := k + 1) (by omega) (by omega), wrap64 (n := k + 1 + 1) (by omega) (by omega)]
    rw [mk3 hi, show Q_l_markCmdS big _ (k + 1 + 1) = _ from m1, Option.bind_some, mk5 hi]
    dsimp only
    rw [mk2 hi]
    dsimp only
    rw [mk2 hi]
    dsimp only
    rw [mk2 hi]
    dsimp only
    rw [mk2 hi]
    dsimp only
    rw [wrap64 (n := k1 + 1) (by omega) (by omega), wrap64 (n := k1 + 1 + 1) (by omega) (by omega), wrap64 (n := k1 + 1 + 1 + 1) (by omega) (by omega), wrap64 (n := k1 + 1 + 1 + 1 + 1) (by omega) (by omega)]
    rw [wrap64 (n := (i : Int) + 1) (by omega) (by omega)]
  · simp only [R_l_markBlockS_2_eq, Int.lt_irrefl, decide_false, cond_false]

end Go.Sx.Tryz

set_option maxRecDepth 100000
namespace Go.Sx.Tryz
open Go Go.Sx Go.Proofs

theorem c_in (x a b : Int) : Q_i_in big x a b = some (bif decide (a ≤ x) then decide (x ≤ b) else false) := by
  rw [Q_i_in_eq]
  cases decide (a ≤ x) <;> rfl
theorem c_l01In (x a b : Int) : Q_s_l01In big x a b = some (bif decide (a ≤ x) then decide (x ≤ b) else false) := by
  rw [Q_s_l01In_eq]
  cases decide (a ≤ x) <;> rfl
theorem c_isNum (n : Int) : Q_i_isNum big n = some (numB n) := by rw [Q_i_isNum_eq, c_in]; rfl

theorem p_i_KeyOk (k : ByteArray) (h : k.size ≤ 1048576) : Q_i_KeyOk big k = some (keyB k) := by
  have hl : k.data.toList.length = k.size := by rw [Array.length_toList]; rfl
  have hk := any_ok (xs := k.data.toList) (p := fun y => decide ((y.toNat : Int) < 97) || decide (122 < (y.toNat : Int))) (b := false) (e := some (bif decide ((1 : Int) ≤ (k.size : Int)) then decide ((k.size : Int) ≤ 3) else false))
    (r := fun n i => R_i_KeyOk_2 n k (k.size : Int) i) (n := big) (fun n i hi => by
      rw [R_i_KeyOk_2_eq, decide_eq_true (by omega), cond_true, mk4 (nth_at hi), mk4 (nth_at hi), wrap_succ (by omega)]
      cases decide (((k.data.toList[i]).toNat : Int) < 97) <;> cases decide (122 < ((k.data.toList[i]).toNat : Int)) <;> rfl) (fun n => by
      rw [R_i_KeyOk_2_eq, decide_eq_false (by omega), cond_false, c_in]; rfl) (by rw [hl]; exact Nat.lt_of_le_of_lt h (by decide))
  rw [Q_i_KeyOk_eq]
  refine hk.trans ?_
  unfold keyB
  cases k.data.toList.any _ <;> rfl
theorem p_s_KeyOk (k : ByteArray) (h : k.size ≤ 1048576) : Q_s_KeyOk big k = some (keyB k) := by
  have hl : k.data.toList.length = k.size := by rw [Array.length_toList]; rfl
  have hk := any_ok (xs := k.data.toList) (p := fun y => decide ((y.toNat : Int) < 97) || decide (122 < (y.toNat : Int))) (b := false) (e := some (bif decide ((1 : Int) ≤ (k.size : Int)) then decide ((k.size : Int) ≤ 3) else false))
    (r := fun n i => R_s_KeyOk_2 n k i) (n := big) (fun n i hi => by
      rw [R_s_KeyOk_2_eq, decide_eq_true (by omega), cond_true, mk4 (nth_at hi), mk4 (nth_at hi), wrap_succ (by omega)]
      cases decide (((k.data.toList[i]).toNat : Int) < 97) <;> cases decide (122 < ((k.data.toList[i]).toNat : Int)) <;> rfl) (fun n => by
      rw [R_s_KeyOk_2_eq, decide_eq_false (by omega), cond_false, c_l01In]; rfl) (by rw [hl]; exact Nat.lt_of_le_of_lt h (by decide))
  rw [Q_s_KeyOk_eq]
  refine hk.trans ?_
  unfold keyB
  cases k.data.toList.any _ <;> rfl

theorem p_i_CmdOk (c : DICmd) (h : ByteArray.size c.2.1 ≤ 1048576) : Q_i_CmdOk big c = some (cmdB c) := by
  rw [Q_i_CmdOk_eq, c_in, p_i_KeyOk _ h, c_isNum]
  unfold cmdB
  simp only [Option.bind_some]
  generalize (bif decide ((1 : Int) ≤ c.1) then decide (c.1 ≤ 3) else false) = b
  cases b <;> cases keyB c.2.1 <;> rfl
theorem p_s_CmdOk (c : DICmd) (h : ByteArray.size c.2.1 ≤ 1048576) : Q_s_CmdOk big c = some (cmdB c) := by
  rw [Q_s_CmdOk_eq, c_l01In, p_s_KeyOk _ h, c_l01In]
  unfold cmdB numB
  simp only [Option.bind_some]
  generalize (bif decide ((1 : Int) ≤ c.1) then decide (c.1 ≤ 3) else false) = b
  cases b <;> cases keyB c.2.1 <;> rfl

/-! ### Rows of cells -/
structure CellsB (xs : List DICell) : Prop where
  len : xs.length ≤ 16777216
  key : ∀ y ∈ xs, ByteArray.size y.1 ≤ 1048576

/-- the key ahead of a place -/
def prevO (xs : List DICell) : Nat → Option ByteArray
  | 0 => none
  | j + 1 => (nth xs j).map (·.1)

theorem form_loop (xs : List DICell) (h : CellsB xs) : ∀ (n i : Nat), xs.length < n + i → i ≤ xs.length → R_i_cellsForm_2 n xs xs (xs.length : Int) (i : Int) = some (frm (prevO xs i) (xs.drop i))
  | 0, i, h1, h2 => by omega
  | n + 1, i, h1, h2 => by
    have hl := h.len
    rcases Nat.lt_or_ge i xs.length with hi | hi
    · have ih := form_loop xs h n (i + 1) (by omega) (by omega)
      rw [R_i_cellsForm_2_eq, decide_eq_true (by omega), cond_true, mk4 (nth_at hi), p_i_KeyOk _ (h.key _ (List.getElem_mem hi)), Option.bind_some, c_isNum, Option.bind_some]
      rw [List.drop_eq_getElem_cons hi]
      have hp : prevO xs (i + 1) = some xs[i].1 := by simp only [prevO, nth_at hi, Option.map_some]
      rw [hp] at ih
      simp only [frm]
      cases keyB xs[i].1 with
      | false => rfl
      | true =>
        cases numB xs[i].2.1 with
        | false => rfl
        | true =>
          simp only [Bool.not_true, cond_false, Bool.true_and]
          cases i with
          | zero =>
            rw [decide_eq_false (by omega), cond_false, wrap_succ (by omega), ih]
            rfl
          | succ j =>
            have hj : j < xs.length := by omega
            rw [decide_eq_true (show (0 : Int) < ((j + 1 : Nat) : Int) by omega), cond_true, wrap64 (n := ((j + 1 : Nat) : Int) - 1) (by omega) (by omega), show ((j + 1 : Nat) : Int) - 1 = (j : Int) by omega, mk4 (nth_at hj), wrap_succ (by omega), ih]
            have hq : prevO xs (j + 1) = some xs[j].1 := by simp only [prevO, nth_at hj, Option.map_some]
            rw [hq]
            show (bif !kl xs[j].1 xs[j + 1].1 then some false else _) = some (kl xs[j].1 xs[j + 1].1 && _)
            cases kl xs[j].1 xs[j + 1].1 <;> rfl
    · have e : i = xs.length := by omega
      subst e
      rw [R_i_cellsForm_2_eq, decide_eq_false (by omega), cond_false, List.drop_length]
      rfl
theorem sform_loop (xs : List DICell) (h : CellsB xs) : ∀ (n i : Nat), xs.length < n + i → i ≤ xs.length → R_s_CellsOk_2 n xs (i : Int) = some (bif frm (prevO xs i) (xs.drop i) then decide ((xs.length : Int) ≤ 12) else false)
  | 0, i, h1, h2 => by omega
  | n + 1, i, h1, h2 => by
    have hl := h.len
    rcases Nat.lt_or_ge i xs.length with hi | hi
    · have ih := sform_loop xs h n (i + 1) (by omega) (by omega)
      rw [R_s_CellsOk_2_eq, decide_eq_true (by omega), cond_true, mk4 (nth_at hi), p_s_KeyOk _ (h.key _ (List.getElem_mem hi)), Option.bind_some, mk4 (nth_at hi), c_l01In, Option.bind_some]
      rw [List.drop_eq_getElem_cons hi]
      have hp : prevO xs (i + 1) = some xs[i].1 := by simp only [prevO, nth_at hi, Option.map_some]
      rw [hp] at ih
      simp only [frm]
      rw [show (bif decide ((0 : Int) ≤ xs[i].2.1) then decide (xs[i].2.1 ≤ 1000000000) else false) = numB xs[i].2.1 from rfl]
      cases keyB xs[i].1 with
      | false => rfl
      | true =>
        cases numB xs[i].2.1 with
        | false => rfl
        | true =>
          simp only [Bool.not_true, cond_false, Bool.true_and]
          cases i with
          | zero =>
            rw [decide_eq_false (by omega), cond_false, wrap_succ (by omega), ih]
            rfl
          | succ j =>
            have hj : j < xs.length := by omega
            rw [decide_eq_true (show (0 : Int) < ((j + 1 : Nat) : Int) by omega), cond_true, wrap64 (n := ((j + 1 : Nat) : Int) - 1) (by omega) (by omega), show ((j + 1 : Nat) : Int) - 1 = (j : Int) by omega, mk4 (nth_at hj), mk4 (nth_at hi), wrap_succ (by omega), ih]
            have hq : prevO xs (j + 1) = some xs[j].1 := by simp only [prevO, nth_at hj, Option.map_some]
            rw [hq]
            show (bif !kl xs[j].1 xs[j + 1].1 then some false else _) = some (bif (kl xs[j].1 xs[j + 1].1 && _) then _ else _)
            cases kl xs[j].1 xs[j + 1].1 <;> rfl
    · have e : i = xs.length := by omega
      subst e
      rw [R_s_CellsOk_2_eq, decide_eq_false (by omega), cond_false, List.drop_length]
      rfl
theorem p_i_CellsOk (xs : List DICell) (h : CellsB xs) : Q_i_CellsOk big xs = some (okB xs) := by
  have := form_loop xs h big 0 (by have := h.len; unfold big; omega) (by omega)
  rw [Int.natCast_zero, List.drop_zero] at this
  rw [Q_i_CellsOk_eq, Q_i_cellsForm_eq, this]
  unfold okB prevO
  cases decide ((xs.length : Int) ≤ 12) <;> rfl
theorem p_s_CellsOk (xs : List DICell) (h : CellsB xs) : Q_s_CellsOk big xs = some (okB xs) := by
  have := sform_loop xs h big 0 (by have := h.len; unfold big; omega) (by omega)
  rw [Int.natCast_zero, List.drop_zero] at this
  rw [Q_s_CellsOk_eq, this]
  unfold okB prevO
  cases decide ((xs.length : Int) ≤ 12) <;> cases frm none xs <;> rfl

/-! ### Where a key stands -/
theorem idx1_loop {α : Type} {p : α → Bool} {xs : List α} {r : Nat → Int → Option Int}
    (hr : ∀ (n k : Nat) (hk : k < xs.length), r (n + 1) (k : Int) = bif p xs[k] then some (k : Int) else r n ((k + 1 : Nat) : Int)) (h0 : ∀ n, r (n + 1) ((xs.length : Nat) : Int) = some (-1)) :
    ∀ (n k : Nat), xs.length < n + k → k ≤ xs.length → r n (k : Int) = some (fIdx p (xs.drop k) k)
  | 0, k, h, h2 => by omega
  | n + 1, k, h, h2 => by
    rcases Nat.lt_or_ge k xs.length with hk | hk
    · rw [hr n k hk, List.drop_eq_getElem_cons hk]
      simp only [fIdx]
      cases p xs[k] with
      | true => rfl
      | false =>
        simp only [cond_false]
        rw [idx1_loop hr h0 n (k + 1) (by omega) (by omega)]
        rfl
    · have e1 : k = xs.length := by omega
      subst e1
      rw [h0, List.drop_length]; rfl
def isK (k : ByteArray) (y : DICell) : Bool := decide (y.1 = k)
theorem p_i_CellAt (xs : List DICell) (k : ByteArray) (hl : xs.length ≤ 16777216) : Q_i_CellAt big xs k = some (fIdx (isK k) xs 0) := by
  rw [Q_i_CellAt_eq, Q_g_IndexFunc_ICell__i_CellAt_1_eq]
  rw [idx_ok (xs := xs) (p := isK k) (c := ((k, ()), ())) (r := fun n i => R_g_IndexFunc_ICell__i_CellAt_1_2 n xs (xs.length : Int) i k) (n := big) (fun n i hi => ?_) (fun n => ?_) (Nat.lt_of_le_of_lt hl (by decide))]
  · rfl
  · rw [R_g_IndexFunc_ICell__i_CellAt_1_2_eq, decide_eq_true (by omega), cond_true, mk4 (nth_at hi), wrap_succ (by omega)]
    rfl
  · rw [R_g_IndexFunc_ICell__i_CellAt_1_2_eq, decide_eq_false (Int.lt_irrefl _)]
    rfl
theorem p_s_CellAt (xs : List DICell) (k : ByteArray) (hl : xs.length ≤ 16777216) : Q_s_CellAt big xs k = some (fIdx (isK k) xs 0) := by
  rw [Q_s_CellAt_eq]
  have := idx1_loop (xs := xs) (p := isK k) (r := fun n i => R_s_CellAt_2 n xs k i) (fun n i hi => by
    rw [R_s_CellAt_2_eq, decide_eq_true (by omega), cond_true, mk4 (nth_at hi), wrap_succ (by omega)]
    rfl) (fun n => by
    rw [R_s_CellAt_2_eq, decide_eq_false (Int.lt_irrefl _)]
    rfl) big 0 (by unfold big; omega) (by omega)
  rw [Int.natCast_zero, List.drop_zero] at this
  exact this
theorem at_spec (k : ByteArray) : ∀ (l : List DICell) (j : Int), (fIdx (isK k) l j = -1 ∧ hasK k l = false ∧ numAt k l = none ∧ ∀ y ∈ l, y.1 ≠ k) ∨ ∃ (i : Nat) (y : DICell), fIdx (isK k) l j = j + i ∧ nth l i = some y ∧ y.1 = k ∧ hasK k l = true ∧ numAt k l = some y.2.1
  | [], j => .inl ⟨rfl, rfl, rfl, by simp⟩
  | z :: l, j => by
    by_cases e : z.1 = k
    · exact .inr ⟨0, z, by simp only [fIdx, isK, decide_eq_true e, cond_true]; omega, rfl, e, by simp only [hasK, List.any_cons, decide_eq_true e, Bool.true_or], by simp only [numAt, decide_eq_true e, cond_true]⟩
    · rcases at_spec k l (j + 1) with ⟨h1, h2, h3, h4⟩ | ⟨i, y, h1, h2, h3, h4, h5⟩
      · refine .inl ⟨by simp only [fIdx, isK, decide_eq_false e, cond_false]; exact h1, by simp only [hasK, List.any_cons, decide_eq_false e, Bool.false_or]; exact h2, by simp only [numAt, decide_eq_false e, cond_false]; exact h3, fun y hy => ?_⟩
        rcases List.mem_cons.1 hy with q | q
        · subst q; exact e
        · exact h4 y q
      · exact .inr ⟨i + 1, y, by simp only [fIdx, isK, decide_eq_false e, cond_false]; rw [h1]; omega, h2, h3, by simp only [hasK, List.any_cons, decide_eq_false e, Bool.false_or]; exact h4, by simp only [numAt, decide_eq_false e, cond_false]; exact h5⟩

/-! ### A cell put in its place -/
theorem with_loop (xs : List DICell) (hl : xs.length ≤ 16777216) (k : ByteArray) (m : Int) (hn : ∀ y ∈ xs, y.1 ≠ k) : ∀ (n i : Nat), xs.length < n + i → i ≤ xs.length → R_i_withCell_7 n xs k m (i : Int) xs = some (xs.take i ++ putC k m (xs.drop i))
  | 0, i, h1, h2 => by omega
  | n + 1, i, h1, h2 => by
    have hins : ∀ (i : Nat), i ≤ xs.length → (Q_g_Insert_ICell big xs (i : Int) [(k, m, ())]).bind (fun y => some y) = some (xs.take i ++ ((k, m, ()) :: xs.drop i)) := fun i hi => by
      rw [Q_g_Insert_ICell_eq, if_pos (by omega), if_pos (by omega), if_pos (show List.length [(k, m, ())] = 1 from rfl), if_pos (by unfold lim; omega), Int.toNat_natCast]
      rfl
    rcases Nat.lt_or_ge i xs.length with hi | hi
    · rw [R_i_withCell_7_eq, decide_eq_true (by omega), cond_true, mk4 (nth_at hi), wrap_succ (by omega), with_loop xs hl k m hn n (i + 1) (by omega) (by omega), hins i (by omega)]
      rw [List.drop_eq_getElem_cons hi]
      simp only [putC]
      rw [decide_eq_false (hn _ (List.getElem_mem hi)), cond_false, List.take_succ_eq_append_getElem hi, List.append_assoc]
      show (bif kl xs[i].1 k then _ else _) = _
      cases kl xs[i].1 k <;> rfl
    · have e : i = xs.length := by omega
      subst e
      rw [R_i_withCell_7_eq, decide_eq_false (by omega), cond_false, hins xs.length (Nat.le_refl _), List.drop_length]
      rfl
theorem p_withCell (xs : List DICell) (h : CellsB xs) (hf : frm none xs = true) (k : ByteArray) (m : Int) : Q_i_withCell big xs k m = some (putC k m xs) := by
  rw [Q_i_withCell_eq, pClone_ICell _ h.len, Option.bind_some, p_i_CellAt xs k h.len, Option.bind_some]
  rcases at_spec k xs 0 with ⟨h1, _, _, h4⟩ | ⟨i, y, h1, h2, h3, _⟩
  · rw [h1, decide_eq_false (by omega), cond_false]
    have := with_loop xs h.len k m h4 big 0 (by have := h.len; unfold big; omega) (by omega)
    rw [Int.natCast_zero, List.take_zero, List.drop_zero] at this
    exact this
  · have hi : i < xs.length := nth_lt h2
    rw [h1, Int.zero_add, decide_eq_true (by omega), cond_true, if_pos (by omega), if_pos (by omega), Int.toNat_natCast, h2, Option.bind_some, updO_at hi, put_upd hf h2 h3]
    rfl

/-! ### .. as the reference puts it -/
theorem put9_loop (xs : List DICell) (hl : xs.length ≤ 16777216) (k : ByteArray) (m : Int) : ∀ (n i : Nat) (acc : List DICell), xs.length < n + i → i ≤ xs.length → acc.length ≤ 16777217 + i →
    R_s_l03Put_9 n xs acc (i : Int) k m = some (acc ++ (xs.drop i).filter (fun y => !(kl y.1 k || decide (y.1 = k))))
  | 0, i, acc, h1, h2, h3 => by omega
  | n + 1, i, acc, h1, h2, h3 => by
    rcases Nat.lt_or_ge i xs.length with hi | hi
    · rw [R_s_l03Put_9_eq, decide_eq_true (by omega), cond_true, mk4 (nth_at hi), mk4 (nth_at hi), if_pos (by unfold lim; simp only [List.length_singleton]; omega), wrap_succ (by omega), List.drop_eq_getElem_cons hi, List.filter_cons]
      show (bif !(kl xs[i].1 k || decide (xs[i].1 = k)) then _ else _) = _
      cases (!(kl xs[i].1 k || decide (xs[i].1 = k))) with
      | true =>
        rw [cond_true, put9_loop xs hl k m n (i + 1) _ (by omega) (by omega) (by simp; omega)]
        simp
      | false =>
        rw [cond_false, put9_loop xs hl k m n (i + 1) _ (by omega) (by omega) (by omega)]
        simp
    · have e : i = xs.length := by omega
      subst e
      rw [R_s_l03Put_9_eq, decide_eq_false (by omega), cond_false, List.drop_length]
      simp
theorem put3_loop (xs : List DICell) (hl : xs.length ≤ 16777216) (k : ByteArray) (m : Int) : ∀ (n i : Nat) (acc : List DICell), xs.length + xs.length + 1 < n + i → i ≤ xs.length → acc.length ≤ i →
    R_s_l03Put_3 n xs acc (i : Int) k m = some (acc ++ ((xs.drop i).filter (fun y => kl y.1 k) ++ (k, m, ()) :: xs.filter (fun y => !(kl y.1 k || decide (y.1 = k)))))
  | 0, i, acc, h1, h2, h3 => by omega
  | n + 1, i, acc, h1, h2, h3 => by
    rcases Nat.lt_or_ge i xs.length with hi | hi
    · rw [R_s_l03Put_3_eq, decide_eq_true (by omega), cond_true, mk4 (nth_at hi), mk4 (nth_at hi), if_pos (by unfold lim; simp only [List.length_singleton]; omega), wrap_succ (by omega), List.drop_eq_getElem_cons hi, List.filter_cons]
      show (bif kl xs[i].1 k then _ else _) = _
      cases kl xs[i].1 k with
      | true =>
        rw [cond_true, put3_loop xs hl k m n (i + 1) _ (by omega) (by omega) (by simp; omega)]
        simp
      | false =>
        rw [cond_false, put3_loop xs hl k m n (i + 1) _ (by omega) (by omega) (by omega)]
        simp
    · have e : i = xs.length := by omega
      subst e
      rw [R_s_l03Put_3_eq, decide_eq_false (by omega), cond_false, if_pos (by unfold lim; simp only [List.length_singleton]; omega)]
      have := put9_loop xs hl k m n 0 (acc ++ [(k, m, ())]) (by omega) (by omega) (by simp; omega)
      rw [Int.natCast_zero, List.drop_zero] at this
      rw [List.drop_length]
      refine this.trans ?_
      simp
theorem p_l03Put (xs : List DICell) (hl : xs.length ≤ 16777216) (hf : frm none xs = true) (k : ByteArray) (m : Int) : Q_s_l03Put big xs (k, m, ()) = some (putC k m xs) := by
  have := put3_loop xs hl k m big 0 [] (by unfold big; omega) (by omega) (by simp)
  rw [Int.natCast_zero, List.drop_zero, List.nil_append, put_filter hf] at this
  rw [Q_s_l03Put_eq]
  exact this

/-! ### One command -/
theorem okB_form {xs : List DICell} (h : okB xs = true) : frm none xs = true ∧ xs.length ≤ 12 := by
  unfold okB at h
  by_cases hl : (xs.length : Int) ≤ 12
  · rw [decide_eq_true hl] at h; exact ⟨h, by omega⟩
  · rw [decide_eq_false hl] at h; cases h
theorem cmdB_key {c : DICmd} (h : cmdB c = true) : keyB c.2.1 = true ∧ numB c.2.2.1 = true := by
  unfold cmdB at h
  revert h
  generalize (bif decide ((1 : Int) ≤ c.1) then decide (c.1 ≤ 3) else false) = b
  cases b <;> cases keyB c.2.1 <;> cases numB c.2.2.1 <;> simp
theorem nth_key {xs : List DICell} {i : Nat} {y : DICell} (hf : frm none xs = true) (hn : nth xs i = some y) : keyB y.1 = true ∧ numB y.2.1 = true := by
  rw [nth_eq] at hn
  exact frm_key hf y (List.mem_of_getElem? hn)
theorem mem_put {k : ByteArray} {m : Int} : ∀ {l : List DICell} {y : DICell}, y ∈ putC k m l → y ∈ l ∨ y.1 = k
  | [], y, h => by simp only [putC, List.mem_singleton] at h; subst h; exact .inr rfl
  | z :: l, y, h => by
    simp only [putC] at h
    cases hz : kl z.1 k with
    | true =>
      rw [hz, cond_true] at h
      rcases List.mem_cons.1 h with e | h
      · exact .inl (by simp [e])
      · exact (mem_put h).imp (fun q => by simp [q]) id
    | false =>
      rw [hz, cond_false] at h
      by_cases e : z.1 = k
      · rw [decide_eq_true e, cond_true] at h
        rcases List.mem_cons.1 h with e2 | h
        · subst e2; exact .inr rfl
        · exact .inl (by simp [h])
      · rw [decide_eq_false e, cond_false] at h
        rcases List.mem_cons.1 h with e2 | h
        · subst e2; exact .inr rfl
        · exact .inl h
theorem put_B {xs : List DICell} (h : CellsB xs) (h12 : xs.length ≤ 12) (hf : frm none xs = true) {k : ByteArray} (hk : k.size ≤ 1048576) (m : Int) : CellsB (putC k m xs) := by
  refine ⟨?_, fun y hy => ?_⟩
  · rw [put_length hf]
    cases hasK k xs <;> simp <;> omega
  · rcases mem_put hy with q | q
    · exact h.key y q
    · rw [q]; exact hk
theorem done_B {xs : List DICell} (h : CellsB xs) {c : DICmd} (hc : ByteArray.size c.2.1 ≤ 1048576) : CellsB (doneC xs c).1 := by
  unfold doneC
  cases ho : okB xs with
  | false => exact h
  | true =>
    cases cmdB c with
    | false => exact h
    | true =>
      simp only [cond_true]
      split
      · exact h
      · rename_i m _
        cases okB (putC c.2.1 m xs) with
        | true => exact put_B h (okB_form ho).2 (okB_form ho).1 hc m
        | false => exact h

theorem p_i_Done (xs : List DICell) (h : CellsB xs) (c : DICmd) (hc : ByteArray.size c.2.1 ≤ 1048576) : Q_i_Done big xs c = some (doneC xs c) := by
  rw [Q_i_Done_eq, pClone_ICell _ h.len, Option.bind_some, p_i_CellsOk xs h, Option.bind_some]
  unfold doneC
  cases ho : okB xs with
  | false => rfl
  | true =>
    obtain ⟨hf, h12⟩ := okB_form ho
    simp only [Bool.not_true, cond_false, cond_true]
    rw [p_i_CmdOk c hc, Option.bind_some]
    cases hk : cmdB c with
    | false => rfl
    | true =>
      obtain ⟨hk1, hk2⟩ := cmdB_key hk
      have hn := numB_iff.1 hk2
      simp only [Bool.not_true, cond_false, cond_true]
      have fin : ∀ m : Int, ((Q_i_withCell big xs c.2.1 m).bind fun y => (Q_i_CellsOk big y).bind fun y_1 => bif !y_1 then some (xs, (2 : Int), PUnit.unit) else some (y, (0 : Int), PUnit.unit)) =
          some (bif okB (putC c.2.1 m xs) then (putC c.2.1 m xs, (0 : Int), ()) else (xs, (2 : Int), ())) := fun m => by
        rw [p_withCell xs h hf, Option.bind_some, p_i_CellsOk _ (put_B h h12 hf hc m), Option.bind_some]
        cases okB (putC c.2.1 m xs) <;> rfl
      unfold newN
      cases hq : decide (c.1 = 1) with
      | true =>
        simp only [Bool.not_true, cond_false, cond_true]
        exact fin _
      | false =>
        simp only [Bool.not_false, cond_true, cond_false]
        rw [p_i_CellAt xs c.2.1 h.len, Option.bind_some]
        rcases at_spec c.2.1 xs 0 with ⟨h1, _, h3, _⟩ | ⟨i, y, h1, h2, h3, _, h5⟩
        · rw [h1, h3, decide_eq_true (by omega), cond_true]
        · obtain ⟨_, hy2⟩ := nth_key hf h2
          have hy := numB_iff.1 hy2
          rw [h1, h5, Int.zero_add, decide_eq_false (by omega), cond_false, if_pos (by omega), Int.toNat_natCast, h2, Option.bind_some]
          cases hr : decide (c.1 = 3) with
          | true =>
            simp only [cond_true]
            rw [wrap64 (n := 0 - c.2.2.1) (by omega) (by omega), wrap64 (n := 0 - c.2.2.1 + y.2.1) (by omega) (by omega), show 0 - c.2.2.1 + y.2.1 = y.2.1 - c.2.2.1 by omega]
            exact fin _
          | false =>
            simp only [cond_false]
            rw [if_pos (by omega), Option.bind_some, wrap64 (n := c.2.2.1 + y.2.1) (by omega) (by omega), Int.add_comm c.2.2.1]
            exact fin _

theorem p_s_Done (xs : List DICell) (h : CellsB xs) (c : DICmd) (hc : ByteArray.size c.2.1 ≤ 1048576) : Q_s_Done big xs c = some (doneC xs c) := by
  have hl := h.len
  rw [Q_s_Done_eq, if_pos (by unfold lim; omega), p_s_CellsOk xs h, Option.bind_some]
  unfold doneC
  cases ho : okB xs with
  | false => rfl
  | true =>
    obtain ⟨hf, h12⟩ := okB_form ho
    simp only [Bool.not_true, cond_false, cond_true]
    rw [p_s_CmdOk c hc, Option.bind_some]
    cases hk : cmdB c with
    | false => rfl
    | true =>
      obtain ⟨hk1, hk2⟩ := cmdB_key hk
      have hn := numB_iff.1 hk2
      simp only [Bool.not_true, cond_false, cond_true]
      rw [p_s_CellAt xs c.2.1 hl, Option.bind_some]
      have fin : ∀ (m q : Int), (decide (q < 0) = !hasK c.2.1 xs) → ((Q_s_l01In big m (0 : Int) (1000000000 : Int)).bind fun y_1 => bif !y_1 then some (xs, (2 : Int), PUnit.unit) else
          bif decide (q < (0 : Int)) then bif decide ((12 : Int) ≤ (List.length xs : Int)) then some (xs, (2 : Int), PUnit.unit) else (Q_s_l03Put big xs (c.2.1, m, ())).bind fun y => some (y, (0 : Int), PUnit.unit)
          else (Q_s_l03Put big xs (c.2.1, m, ())).bind fun y => some (y, (0 : Int), PUnit.unit)) =
          some (bif okB (putC c.2.1 m xs) then (putC c.2.1 m xs, (0 : Int), ()) else (xs, (2 : Int), ())) := fun m q hq => by
        rw [c_l01In, Option.bind_some, p_l03Put xs hl hf, Option.bind_some, hq, ok_put ho hk1]
        show (bif !numB m then _ else _) = _
        cases numB m with
        | false => rfl
        | true =>
          cases hasK c.2.1 xs with
          | true => rfl
          | false =>
            by_cases h2 : (xs.length : Int) < 12
            · rw [decide_eq_true h2, decide_eq_false (show ¬ (12 : Int) ≤ (xs.length : Int) by omega)]; rfl
            · rw [decide_eq_false h2, decide_eq_true (show (12 : Int) ≤ (xs.length : Int) by omega)]; rfl
      unfold newN
      cases hq : decide (c.1 = 1) with
      | true =>
        simp only [Bool.not_true, cond_false, cond_true]
        refine fin _ _ ?_
        rcases at_spec c.2.1 xs 0 with ⟨h1, h2, _, _⟩ | ⟨i, y, h1, _, _, h4, _⟩
        · rw [h1, h2]; rfl
        · rw [h1, h4, decide_eq_false (by omega)]; rfl
      | false =>
        simp only [Bool.not_false, cond_true, cond_false]
        rcases at_spec c.2.1 xs 0 with ⟨h1, _, h3, _⟩ | ⟨i, y, h1, h2, h3, h4, h5⟩
        · rw [h1, h3, decide_eq_true (by omega), cond_true]
        · obtain ⟨_, hy2⟩ := nth_key hf h2
          have hy := numB_iff.1 hy2
          have hneg : decide ((i : Int) < 0) = !hasK c.2.1 xs := by rw [h4, decide_eq_false (by omega)]; rfl
          rw [h1, h5, Int.zero_add, decide_eq_false (by omega), cond_false, if_pos (by omega), Int.toNat_natCast, h2, Option.bind_some]
          have hneg' : (false : Bool) = !hasK c.2.1 xs := by rw [h4]; rfl
          cases hr : decide (c.1 = 3) with
          | true =>
            simp only [cond_true]
            rw [if_pos (by omega), Option.bind_some, wrap64 (n := y.2.1 - c.2.2.1) (by omega) (by omega)]
            have := fin (y.2.1 - c.2.2.1) (i : Int) hneg
            rw [decide_eq_false (show ¬ (i : Int) < 0 by omega)] at this
            exact this
          | false =>
            simp only [cond_false]
            rw [wrap64 (n := y.2.1 + c.2.2.1) (by omega) (by omega)]
            have := fin (y.2.1 + c.2.2.1) (i : Int) hneg
            rw [decide_eq_false (show ¬ (i : Int) < 0 by omega)] at this
            exact this

/-! ### All commands -/
theorem doneL_B : ∀ (cs : List DICmd) {xs : List DICell}, CellsB xs → (∀ c ∈ cs, ByteArray.size c.2.1 ≤ 1048576) → CellsB (doneL xs cs)
  | [], _, h, _ => h
  | c :: cs, xs, h, hc => doneL_B cs (xs := (doneC xs c).1) (done_B h (hc c (by simp))) (fun d hd => hc d (by simp [hd]))
theorem i_all_loop (cs : List DICmd) (hl : cs.length ≤ 1099511627776) (hc : ∀ c ∈ cs, ByteArray.size c.2.1 ≤ 1048576) : ∀ (n i : Nat) (xs : List DICell) (codes : List Int), cs.length < n + i → i ≤ cs.length → codes.length ≤ i → CellsB xs →
    R_i_DoneAll_4 n xs codes cs (cs.length : Int) (i : Int) = some (doneL xs (cs.drop i), codes ++ doneK xs (cs.drop i), ())
  | 0, i, xs, codes, h1, h2, h3, _ => by omega
  | n + 1, i, xs, codes, h1, h2, h3, h => by
    rcases Nat.lt_or_ge i cs.length with hi | hi
    · have hm := hc _ (List.getElem_mem hi)
      rw [R_i_DoneAll_4_eq, decide_eq_true (by omega), cond_true, mk4 (nth_at hi), p_i_Done xs h _ hm, Option.bind_some, if_pos (by unfold lim2; omega), wrap_succ (by omega), i_all_loop cs hl hc n (i + 1) _ _ (by omega) (by omega) (by simp; omega) (done_B h hm)]
      rw [List.drop_eq_getElem_cons hi, show ∀ (a b : List Int), List.append a b = a ++ b from fun _ _ => rfl, List.append_assoc]
      rfl
    · have e : i = cs.length := by omega
      subst e
      rw [R_i_DoneAll_4_eq, decide_eq_false (by omega), cond_false, List.drop_length]
      simp [doneL, doneK]
theorem s_all_loop (cs : List DICmd) (hl : cs.length ≤ 16777216) (hc : ∀ c ∈ cs, ByteArray.size c.2.1 ≤ 1048576) : ∀ (n i : Nat) (xs : List DICell) (codes : List Int), cs.length < n + i → i ≤ cs.length → codes.length ≤ i → CellsB xs →
    R_s_DoneAll_4 n cs xs codes (i : Int) = some (doneL xs (cs.drop i), codes ++ doneK xs (cs.drop i), ())
  | 0, i, xs, codes, h1, h2, h3, _ => by omega
  | n + 1, i, xs, codes, h1, h2, h3, h => by
    rcases Nat.lt_or_ge i cs.length with hi | hi
    · have hm := hc _ (List.getElem_mem hi)
      rw [R_s_DoneAll_4_eq, decide_eq_true (by omega), cond_true, mk4 (nth_at hi), p_s_Done xs h _ hm, Option.bind_some, if_pos (by unfold lim; omega), wrap_succ (by omega), s_all_loop cs hl hc n (i + 1) _ _ (by omega) (by omega) (by simp; omega) (done_B h hm)]
      rw [List.drop_eq_getElem_cons hi, show ∀ (a b : List Int), List.append a b = a ++ b from fun _ _ => rfl, List.append_assoc]
      rfl
    · have e : i = cs.length := by omega
      subst e
      rw [R_s_DoneAll_4_eq, decide_eq_false (by omega), cond_false, List.drop_length]
      simp [doneL, doneK]
theorem p_i_DoneAll (xs : List DICell) (h : CellsB xs) (cs : List DICmd) (hl : cs.length ≤ 1099511627776) (hc : ∀ c ∈ cs, ByteArray.size c.2.1 ≤ 1048576) : Q_i_DoneAll big xs cs = some (doneL xs cs, doneK xs cs, ()) := by
  have := i_all_loop cs hl hc big 0 xs [] (by unfold big; omega) (by omega) (by simp) h
  rw [Int.natCast_zero, List.drop_zero, List.nil_append] at this
  rw [Q_i_DoneAll_eq, pClone_ICell _ h.len, Option.bind_some]
  exact this
theorem p_s_DoneAll (xs : List DICell) (h : CellsB xs) (cs : List DICmd) (hl : cs.length ≤ 16777216) (hc : ∀ c ∈ cs, ByteArray.size c.2.1 ≤ 1048576) : Q_s_DoneAll big xs cs = some (doneL xs cs, doneK xs cs, ()) := by
  have hl2 := h.len
  have := s_all_loop cs hl hc big 0 xs [] (by unfold big; omega) (by omega) (by simp) h
  rw [Int.natCast_zero, List.drop_zero, List.nil_append] at this
  rw [Q_s_DoneAll_eq, if_pos (by unfold lim; omega)]
  exact this

end Go.Sx.Tryz

set_option maxRecDepth 100000
namespace Go.Sx.Tryz
open Go Go.Sx Go.Proofs

/-- the commands of a block; none of what is no block -/
def blkC (t : List DIBlock) (k : Int) : List DICmd :=
  bif (bif decide ((0 : Int) ≤ k) then decide (k ≤ (t.length : Int) - 1) else false) then (match nth t (Int.toNat k) with | some b => b.2.2.1 | none => []) else []
def rowC (t : List DIBlock) (row : List Int) : List DICmd := row.flatMap (blkC t)
structure TreeB (t : List DIBlock) : Prop where
  len : t.length ≤ 16777216
  cmds : ∀ y ∈ t, List.length y.2.2.1 ≤ 1048576
  key : ∀ y ∈ t, ∀ c ∈ y.2.2.1, ByteArray.size c.2.1 ≤ 1048576

theorem blk_in {t : List DIBlock} {k : Int} (h : (bif decide ((0 : Int) ≤ k) then decide (k ≤ (t.length : Int) - 1) else false) = true) : 0 ≤ k ∧ ∃ b, nth t (Int.toNat k) = some b ∧ b ∈ t ∧ blkC t k = b.2.2.1 := by
  by_cases h0 : 0 ≤ k
  · rw [decide_eq_true h0, cond_true, decide_eq_true_eq] at h
    have hi : Int.toNat k < t.length := by omega
    refine ⟨h0, t[Int.toNat k], nth_at hi, List.getElem_mem hi, ?_⟩
    unfold blkC
    rw [decide_eq_true h0, decide_eq_true h, nth_at hi]; rfl
  · rw [decide_eq_false h0] at h; cases h
theorem blk_out {t : List DIBlock} {k : Int} (h : (bif decide ((0 : Int) ≤ k) then decide (k ≤ (t.length : Int) - 1) else false) = false) : blkC t k = [] := by
  unfold blkC
  rw [h]; rfl
theorem blkC_B {t : List DIBlock} (h : TreeB t) (k : Int) : (blkC t k).length ≤ 1048576 ∧ ∀ c ∈ blkC t k, ByteArray.size c.2.1 ≤ 1048576 := by
  cases hb : (bif decide ((0 : Int) ≤ k) then decide (k ≤ (t.length : Int) - 1) else false) with
  | true =>
    obtain ⟨_, b, _, h2, h3⟩ := blk_in hb
    rw [h3]
    exact ⟨h.cmds b h2, h.key b h2⟩
  | false => rw [blk_out hb]; exact ⟨by simp, by simp⟩
theorem rowC_B {t : List DIBlock} (h : TreeB t) : ∀ row : List Int, (rowC t row).length ≤ row.length * 1048576 ∧ ∀ c ∈ rowC t row, ByteArray.size c.2.1 ≤ 1048576
  | [] => ⟨by simp [rowC], by simp [rowC]⟩
  | k :: row => by
    obtain ⟨h1, h2⟩ := rowC_B h row
    obtain ⟨h3, h4⟩ := blkC_B h k
    have e : rowC t (k :: row) = blkC t k ++ rowC t row := rfl
    rw [e]
    refine ⟨by rw [List.length_append, List.length_cons, Nat.succ_mul, Nat.add_comm]; exact Nat.add_le_add h1 h3, fun c hc => ?_⟩
    rcases List.mem_append.1 hc with q | q
    · exact h4 c q
    · exact h2 c q

theorem cmds_of_loop (t : List DIBlock) (h : TreeB t) (row : List Int) (hr : row.length ≤ 1048576) : ∀ (n i : Nat) (acc : List DICmd), row.length < n + i → i ≤ row.length → acc.length ≤ i * 1048576 →
    R_i_cmdsOf_3 n t acc row (row.length : Int) (i : Int) = some (acc ++ rowC t (row.drop i))
  | 0, i, acc, h1, h2, h3 => by omega
  | n + 1, i, acc, h1, h2, h3 => by
    have ht := h.len
    rcases Nat.lt_or_ge i row.length with hi | hi
    · rw [R_i_cmdsOf_3_eq, decide_eq_true (by omega), cond_true, mk4 (nth_at hi), c_in, wrap64 (n := (List.length t : Int) - 1) (by omega) (by omega), Option.bind_some, wrap_succ (by omega)]
      have e : rowC t (row.drop i) = blkC t row[i] ++ rowC t (row.drop (i + 1)) := by rw [List.drop_eq_getElem_cons hi]; rfl
      rw [e]
      cases hb : (bif decide ((0 : Int) ≤ row[i]) then decide (row[i] ≤ (t.length : Int) - 1) else false) with
      | true =>
        obtain ⟨q0, b, q1, q2, q3⟩ := blk_in hb
        have hl := h.cmds b q2
        have hm : acc.length + List.length b.2.2.1 ≤ (i + 1) * 1048576 := by rw [Nat.succ_mul]; exact Nat.add_le_add h3 hl
        have hm2 : (i + 1) * 1048576 ≤ lim2 := Nat.le_trans (Nat.mul_le_mul_right _ (show i + 1 ≤ 1048576 by omega)) (by decide)
        rw [cond_true, if_pos q0, q1, Option.bind_some, if_pos (Nat.le_trans hm hm2)]
        have := cmds_of_loop t h row hr n (i + 1) (acc ++ b.2.2.1) (by omega) (by omega) (by rw [List.length_append]; exact hm)
        refine Eq.trans this ?_
        rw [q3, List.append_assoc]
      | false =>
        rw [cond_false, cmds_of_loop t h row hr n (i + 1) acc (by omega) (by omega) (Nat.le_trans h3 (Nat.mul_le_mul_right _ (Nat.le_succ i))), blk_out hb]
        rfl
    · have e : i = row.length := by omega
      subst e
      rw [R_i_cmdsOf_3_eq, decide_eq_false (by omega), cond_false, List.drop_length]
      simp [rowC]
theorem p_cmdsOf (t : List DIBlock) (h : TreeB t) (row : List Int) (hr : row.length ≤ 1048576) : Q_i_cmdsOf big t row = some (rowC t row) := by
  have := cmds_of_loop t h row hr big 0 [] (by unfold big; omega) (by omega) (by simp)
  rw [Int.natCast_zero, List.drop_zero, List.nil_append] at this
  rw [Q_i_cmdsOf_eq]
  exact this

theorem doneL_append (xs : List DICell) (a b : List DICmd) : doneL xs (a ++ b) = doneL (doneL xs a) b := List.foldl_append ..
theorem nil_B : CellsB [] := ⟨by simp, by simp⟩

/-! ### How much comes in -/
theorem SzR.both {q : Option Int} {a : Int} {P Q : Prop} (h : SzR q a P) (h' : SzR q a Q) : SzR q a (P ∧ Q) := by
  obtain ⟨v, h1, h2, h3⟩ := h
  obtain ⟨v', k1, k2, k3⟩ := h'
  rw [h1] at k1
  cases k1
  exact ⟨v, h1, h2, fun h => ⟨h3 h, k3 h⟩⟩
theorem szCmdR (x : DLCmd) (a : Int) (hw : WfD tLCmd x) (h0 : 0 ≤ a) (h1 : a ≤ 1048576) : SzR (Q_l_szCmd big x a) a (ByteArray.size x.2.1 ≤ 1048576) := by
  have hm : ByteArray.size x.2.1 ≤ 9223372036854775807 := hw.2.1
  rw [Q_l_szCmd_eq, wrap64 (by omega) (by omega)]
  by_cases c : a - (ByteArray.size x.2.1 : Int) < 0
  · rw [decide_eq_true c]; exact ⟨-1, rfl, by omega, fun h => by omega⟩
  · rw [decide_eq_false c]; exact ⟨_, rfl, by omega, fun h => by omega⟩
theorem szCmdSR (x : DSlLCmd) (a : Int) (hw : WfD tSlLCmd x) (h0 : 0 ≤ a) (h1 : a ≤ 1048576) : SzR (Q_l_szCmdS big x a) a (List.length x ≤ 1048576 ∧ ∀ y ∈ x, ByteArray.size y.2.1 ≤ 1048576) :=
  szR_list (qe := fun y a => Q_l_szCmd big y a) (r := fun n a i => R_l_szCmdS_5 n x a i) (n := big) hw.1 h0 h1 (Q_l_szCmdS_eq big x a) (fun n a i => R_l_szCmdS_5_eq n x a i) (fun y hy a h0 h1 => szCmdR y a (hw.2 y hy) h0 h1) (by decide)
theorem szBlockR (x : DLBlock) (a : Int) (hw : WfD tLBlock x) (h0 : 0 ≤ a) (h1 : a ≤ 1048576) : SzR (Q_l_szBlock big x a) a (List.length x.2.2.1 ≤ 1048576 ∧ ∀ y ∈ x.2.2.1, ByteArray.size y.2.1 ≤ 1048576) := by
  rw [Q_l_szBlock_eq]
  exact (szR_bind (Q := True) (szCmdSR x.2.2.1 a hw.2.2.1 h0 h1) h0 h1 (fun v _ _ => szR_end)).imp fun h => h.1
theorem szBlockSR (x : DSlLBlock) (a : Int) (hw : WfD tSlLBlock x) (h0 : 0 ≤ a) (h1 : a ≤ 1048576) : SzR (Q_l_szBlockS big x a) a (List.length x ≤ 1048576 ∧ ∀ y ∈ x, List.length y.2.2.1 ≤ 1048576 ∧ ∀ c ∈ y.2.2.1, ByteArray.size c.2.1 ≤ 1048576) :=
  szR_list (qe := fun y a => Q_l_szBlock big y a) (r := fun n a i => R_l_szBlockS_5 n x a i) (n := big) hw.1 h0 h1 (Q_l_szBlockS_eq big x a) (fun n a i => R_l_szBlockS_5_eq n x a i) (fun y hy a h0 h1 => szBlockR y a (hw.2 y hy) h0 h1) (by decide)

end Go.Sx.Tryz

set_option maxRecDepth 100000
namespace Go.Sx.Tryz
open Go Go.Sx Go.Proofs

def inB (x a b : Int) : Bool := bif decide (a ≤ x) then decide (x ≤ b) else false
theorem inB_iff {x a b : Int} : inB x a b = true ↔ a ≤ x ∧ x ≤ b := by
  unfold inB
  by_cases h : a ≤ x
  · rw [decide_eq_true h]; simp [h]
  · rw [decide_eq_false h]; simp [h]
/-- the blocks below one, down to the first one -/
def wayT (t : List DIBlock) : Nat → Int → Option (List Int)
  | 0, k => bif decide (0 < k) then none else some []
  | f + 1, k => bif decide (0 < k) then (match nth t (Int.toNat k) with
    | none => none
    | some b => bif inB b.1 0 (k - 1) then (match wayT t f b.1 with | none => none | some l => some (b.1 :: l)) else none) else some []
def wayO (t : List DIBlock) (k : Int) : Option (List Int) := bif inB k 0 ((t.length : Int) - 1) then wayT t t.length k else none

theorem down_loop (t : List DIBlock) (ht : t.length ≤ 1048576) : ∀ (f n : Nat) (k : Int) (acc : List Int), 0 ≤ k → k ≤ f → k < t.length → f < n → acc.length + f ≤ 16777216 →
    R_i_wayDown_4 n t k acc = some (match wayT t f k with | none => ([], false, ()) | some l => (acc ++ l, true, ()))
  | f, 0, k, acc, _, _, _, h4, _ => by omega
  | 0, n + 1, k, acc, h1, h2, h3, h4, h5 => by
    have e : k = 0 := by omega
    subst e
    rw [R_i_wayDown_4_eq]
    simp [wayT]
  | f + 1, n + 1, k, acc, h1, h2, h3, h4, h5 => by
    rw [R_i_wayDown_4_eq]
    simp only [wayT]
    by_cases hk : 0 < k
    · have hi : Int.toNat k < t.length := by omega
      rw [decide_eq_true hk, cond_true, cond_true, if_pos h1, nth_at hi, Option.bind_some, c_in, wrap64 (n := k - 1) (by omega) (by omega), Option.bind_some]
      rw [show (bif decide ((0 : Int) ≤ t[Int.toNat k].1) then decide (t[Int.toNat k].1 ≤ k - 1) else false) = inB t[Int.toNat k].1 0 (k - 1) from rfl]
      dsimp only
      cases hb : inB t[Int.toNat k].1 0 (k - 1) with
      | false => rfl
      | true =>
        obtain ⟨q1, q2⟩ := inB_iff.1 hb
        simp only [Bool.not_true, cond_false, cond_true]
        rw [if_pos h1, Option.bind_some, if_pos (by unfold lim; simp only [List.length_singleton]; omega)]
        refine (down_loop t ht f n _ _ q1 (by omega) (by omega) (by omega) (by rw [show ∀ a b : List Int, List.append a b = a ++ b from fun _ _ => rfl, List.length_append, List.length_singleton]; omega)).trans ?_
        cases wayT t f t[Int.toNat k].1 with
        | none => rfl
        | some l =>
          simp only [show ∀ a b : List Int, List.append a b = a ++ b from fun _ _ => rfl, List.append_assoc]
          rfl
    · rw [decide_eq_false hk]
      simp
theorem p_wayDown (t : List DIBlock) (ht : t.length ≤ 1048576) (k : Int) : Q_i_wayDown big t k = some (match wayO t k with | none => ([], false, ()) | some l => (k :: l, true, ())) := by
  rw [Q_i_wayDown_eq, c_in, wrap64 (n := (List.length t : Int) - 1) (by omega) (by omega), Option.bind_some]
  unfold wayO
  show (bif !inB k 0 ((t.length : Int) - 1) then _ else _) = _
  cases hb : inB k 0 ((t.length : Int) - 1) with
  | false => rfl
  | true =>
    obtain ⟨q1, q2⟩ := inB_iff.1 hb
    simp only [Bool.not_true, cond_false, cond_true]
    exact down_loop t ht t.length big k [k] q1 (by omega) (by omega) (by unfold big; omega) (by simp; omega)

theorem height_loop (t : List DIBlock) (ht : t.length ≤ 1048576) : ∀ (f n : Nat) (k h : Int), 0 ≤ k → k ≤ f → k < t.length → f < n → 0 ≤ h → h + f ≤ 16777216 →
    R_s_HeightOf_2 n t k h = some (match wayT t f k with | none => -1 | some l => h + l.length)
  | f, 0, k, h, _, _, _, h4, _, _ => by omega
  | 0, n + 1, k, h, h1, h2, h3, h4, h5, h6 => by
    have e : k = 0 := by omega
    subst e
    rw [R_s_HeightOf_2_eq]
    simp only [wayT, decide_true, Bool.not_true, cond_false, Int.lt_irrefl, decide_false]
    rw [decide_eq_false (by omega)]
    simp
  | f + 1, n + 1, k, h, h1, h2, h3, h4, h5, h6 => by
    rw [R_s_HeightOf_2_eq]
    simp only [wayT]
    by_cases hk : 0 < k
    · have hi : Int.toNat k < t.length := by omega
      rw [decide_eq_false (show ¬ k = 0 by omega), decide_eq_true hk, Bool.not_false, cond_true, cond_true, c_l01In, wrap64 (n := (List.length t : Int) - 1) (by omega) (by omega), Option.bind_some,
        decide_eq_true h1, cond_true, decide_eq_true (show k ≤ (t.length : Int) - 1 by omega), Bool.not_true, cond_false, if_pos h1, nth_at hi, Option.bind_some, c_l01In, wrap64 (n := k - 1) (by omega) (by omega), Option.bind_some]
      rw [show (bif decide ((0 : Int) ≤ t[Int.toNat k].1) then decide (t[Int.toNat k].1 ≤ k - 1) else false) = inB t[Int.toNat k].1 0 (k - 1) from rfl]
      dsimp only
      cases hb : inB t[Int.toNat k].1 0 (k - 1) with
      | false => rfl
      | true =>
        obtain ⟨q1, q2⟩ := inB_iff.1 hb
        simp only [Bool.not_true, cond_false, cond_true]
        rw [if_pos h1, Option.bind_some, wrap64 (n := h + 1) (by omega) (by omega)]
        refine (height_loop t ht f n _ _ q1 (by omega) (by omega) (by omega) (by omega) (by omega)).trans ?_
        cases wayT t f t[Int.toNat k].1 with
        | none => rfl
        | some l => simp only [List.length_cons]; congr 1; omega
    · have e : k = 0 := by omega
      subst e
      simp only [decide_true, Bool.not_true, cond_false, Int.lt_irrefl, decide_false]
      rw [decide_eq_false (by omega)]
      simp
theorem p_HeightOf (t : List DIBlock) (ht : t.length ≤ 1048576) (k : Int) : Q_s_HeightOf big t k = some (match wayO t k with | none => -1 | some l => (l.length : Int)) := by
  rw [Q_s_HeightOf_eq]
  unfold wayO
  cases hb : inB k 0 ((t.length : Int) - 1) with
  | true =>
    obtain ⟨q1, q2⟩ := inB_iff.1 hb
    rw [cond_true, height_loop t ht t.length big k 0 q1 (by omega) (by omega) (by unfold big; omega) (by omega) (by omega)]
    cases wayT t t.length k <;> simp
  | false =>
    rw [cond_false, show big = (big - 1) + 1 from by decide, R_s_HeightOf_2_eq]
    by_cases e : k = 0
    · subst e
      have hl : t.length = 0 := by
        cases ht0 : t.length with
        | zero => rfl
        | succ m => rw [inB_iff.2 ⟨by omega, by rw [ht0]; omega⟩] at hb; cases hb
      rw [decide_eq_true rfl, decide_eq_true (show (List.length t : Int) = 0 by omega)]
      rfl
    · rw [decide_eq_false e, Bool.not_false, cond_true, c_l01In, wrap64 (n := (List.length t : Int) - 1) (by omega) (by omega), Option.bind_some]
      show (bif !inB k 0 ((t.length : Int) - 1) then _ else _) = _
      rw [hb]
      rfl

/-- a way goes down, to the first block -/
theorem way_down {t : List DIBlock} : ∀ {f : Nat} {k : Int} {l : List Int}, wayT t f k = some l → 0 ≤ k → (k :: l).Pairwise (fun a b => b < a) ∧ (∀ y ∈ l, 0 ≤ y ∧ y < k) ∧ ∃ m, k :: l = m ++ [0] ∧ ∀ y ∈ m, 0 < y ∧ y ≤ k
  | 0, k, l, h, h0 => by
    simp only [wayT] at h
    by_cases hk : 0 < k
    · rw [decide_eq_true hk] at h; cases h
    · rw [decide_eq_false hk] at h; cases h
      have e : k = 0 := by omega
      subst e
      exact ⟨by simp, by simp, [], rfl, by simp⟩
  | f + 1, k, l, h, h0 => by
    simp only [wayT] at h
    by_cases hk : 0 < k
    · rw [decide_eq_true hk, cond_true] at h
      split at h
      · cases h
      · rename_i b _
        cases hb : inB b.1 0 (k - 1) with
        | false => rw [hb] at h; cases h
        | true =>
          rw [hb, cond_true] at h
          obtain ⟨q1, q2⟩ := inB_iff.1 hb
          split at h
          · cases h
          · rename_i l' hl
            cases h
            obtain ⟨i1, i2, m, i3, i4⟩ := way_down hl q1
            refine ⟨List.pairwise_cons.2 ⟨fun y hy => ?_, i1⟩, fun y hy => ?_, k :: m, by rw [i3]; rfl, fun y hy => ?_⟩
            · rcases List.mem_cons.1 hy with e | hy
              · subst e; omega
              · have := i2 y hy; omega
            · rcases List.mem_cons.1 hy with e | hy
              · subst e; omega
              · have := i2 y hy; omega
            · rcases List.mem_cons.1 hy with e | hy
              · subst e; omega
              · have := i4 y hy; omega
    · rw [decide_eq_false hk] at h; cases h
      have e : k = 0 := by omega
      subst e
      exact ⟨by simp, by simp, [], rfl, by simp⟩

/-! ### Is one on the way? -/
theorem p_Index (xs : List Int) (u : Int) (hl : xs.length ≤ 16777216) : Q_g_Index_Int big xs u = some (fIdx (fun y => decide (u = y)) xs 0) := by
  rw [Q_g_Index_Int_eq]
  have := idx1_loop (xs := xs) (p := fun y => decide (u = y)) (r := fun n i => R_g_Index_Int_2 n xs u (xs.length : Int) i) (fun n i hi => by
    rw [R_g_Index_Int_2_eq, decide_eq_true (by omega), cond_true, mk4 (nth_at hi), wrap_succ (by omega)]) (fun n => by
    rw [R_g_Index_Int_2_eq, decide_eq_false (Int.lt_irrefl _)]
    rfl) big 0 (by unfold big; omega) (by omega)
  rw [Int.natCast_zero, List.drop_zero] at this
  exact this
theorem way_len {t : List DIBlock} : ∀ {f : Nat} {k : Int} {l : List Int}, wayT t f k = some l → l.length ≤ f
  | 0, k, l, h => by
    simp only [wayT] at h
    cases hk : decide (0 < k) <;> rw [hk] at h <;> cases h
    simp
  | f + 1, k, l, h => by
    simp only [wayT] at h
    cases hk : decide (0 < k) with
    | false => rw [hk] at h; cases h; simp
    | true =>
      rw [hk, cond_true] at h
      split at h
      · cases h
      · rename_i b _
        cases hb : inB b.1 0 (k - 1) with
        | false => rw [hb] at h; cases h
        | true =>
          rw [hb, cond_true] at h
          split at h
          · cases h
          · rename_i l' hl
            cases h
            have := way_len hl
            simp only [List.length_cons]; omega
theorem wayO_some {t : List DIBlock} {k : Int} {l : List Int} (h : wayO t k = some l) : 0 ≤ k ∧ k < t.length ∧ wayT t t.length k = some l ∧ l.length ≤ t.length := by
  unfold wayO at h
  cases hb : inB k 0 ((t.length : Int) - 1) with
  | false => rw [hb] at h; cases h
  | true =>
    rw [hb, cond_true] at h
    obtain ⟨q1, q2⟩ := inB_iff.1 hb
    exact ⟨q1, by omega, h, way_len h⟩
/-- does one extend another? -/
def extB (t : List DIBlock) (k u : Int) : Bool := match wayO t k with | none => false | some l => (k :: l).any fun y => decide (u = y)
theorem p_i_Extends (t : List DIBlock) (ht : t.length ≤ 1048576) (k u : Int) : Q_i_Extends big t k u = some (extB t k u) := by
  rw [Q_i_Extends_eq, p_wayDown t ht k]
  unfold extB
  cases hw : wayO t k with
  | none => rfl
  | some l =>
    have := (wayO_some hw).2.2.2
    simp only [Option.bind_some, cond_true]
    rw [Q_g_Contains_Int_eq, p_Index _ _ (by simp only [List.length_cons]; omega)]
    simp only [Option.bind_some]
    rw [fIdx_any (by decide)]
theorem ext_loop (t : List DIBlock) (u : Int) : ∀ (f n : Nat) (k : Int) (l : List Int), wayT t f k = some l → 0 ≤ k → k ≤ f → k < t.length → f < n → R_s_Extends_3 n t k u = some ((k :: l).any fun y => decide (u = y))
  | f, 0, k, l, _, _, _, _, h => by omega
  | f, n + 1, k, l, hw, h1, h2, h3, h4 => by
    rw [R_s_Extends_3_eq]
    by_cases hk : 0 < k
    · rw [decide_eq_true hk, cond_true]
      by_cases e : k = u
      · subst e
        simp
      · rw [decide_eq_false e, Bool.not_false, cond_true, if_pos h1]
        cases f with
        | zero => omega
        | succ f =>
          simp only [wayT] at hw
          rw [decide_eq_true hk, cond_true] at hw
          split at hw
          · cases hw
          · rename_i b hb0
            rw [hb0, Option.bind_some]
            cases hb : inB b.1 0 (k - 1) with
            | false => rw [hb] at hw; cases hw
            | true =>
              rw [hb, cond_true] at hw
              obtain ⟨q1, q2⟩ := inB_iff.1 hb
              split at hw
              · cases hw
              · rename_i l' hl
                cases hw
                rw [ext_loop t u f n b.1 l' hl q1 (by omega) (by omega) (by omega), List.any_cons (a := k), decide_eq_false (Ne.symm e), Bool.false_or]
    · have e : k = 0 := by omega
      subst e
      have hl : l = [] := by
        cases f with
        | zero => simpa [wayT] using hw
        | succ f => simpa [wayT] using hw
      subst hl
      simp [eq_comm]
theorem p_s_Extends (t : List DIBlock) (ht : t.length ≤ 1048576) (k u : Int) : Q_s_Extends big t k u = some (extB t k u) := by
  rw [Q_s_Extends_eq, p_HeightOf t ht k]
  unfold extB
  cases hw : wayO t k with
  | none => rfl
  | some l =>
    obtain ⟨w1, w2, w3, w4⟩ := wayO_some hw
    simp only [Option.bind_some]
    rw [decide_eq_false (by omega), cond_false]
    exact ext_loop t u t.length big k l w3 w1 (by omega) w2 (by unfold big; omega)

end Go.Sx.Tryz

set_option maxRecDepth 100000
namespace Go.Sx.Tryz
open Go Go.Sx Go.Proofs

theorem rev_loop (xs : List Int) (hl : xs.length ≤ 16777216) : ∀ (n i : Nat) (b : List Int), b.length = xs.length →
    (∀ m, m < xs.length → nth b m = nth xs (if m < i ∨ xs.length ≤ m + i then xs.length - 1 - m else m)) → i + i ≤ xs.length + 1 → xs.length < n + i →
    R_g_Reverse_Int_1 n (i : Int) ((xs.length : Int) - 1 - i) b = some ((), xs.reverse, ())
  | 0, i, b, _, _, h3, h4 => by omega
  | n + 1, i, b, h1, h2, h3, h4 => by
    by_cases hij : i + i + 1 < xs.length
    · obtain ⟨j, hj⟩ : ∃ j : Nat, j = xs.length - 1 - i := ⟨_, rfl⟩
      have e : (xs.length : Int) - 1 - i = (j : Int) := by omega
      have hib : i < b.length := by omega
      have hjb : j < b.length := by omega
      have hjb2 : j < (upd b i b[j]).length := by rw [upd_length]; exact hjb
      have ih := rev_loop xs hl n (i + 1) (upd (upd b i b[j]) j b[i]) (by rw [upd_length, upd_length, h1]) (fun m hm => ?_) (by omega) (by omega)
      · rw [e, R_g_Reverse_Int_1_eq, decide_eq_true (show (i : Int) < (j : Int) by omega), cond_true]
        simp only [if_pos (show (0 : Int) ≤ (j : Int) by omega), if_pos (show (j : Int) < (b.length : Int) by omega), if_pos (show (0 : Int) ≤ (i : Int) by omega), if_pos (show (i : Int) < (b.length : Int) by omega), Int.toNat_natCast, nth_at hjb, nth_at hib, Option.bind_some, updO_at hib,
          if_pos (show (j : Int) < ((upd b i b[j]).length : Int) by omega), nth_at hjb2, updO_at hjb2]
        rw [wrap_succ (by omega), wrap64 (n := (j : Int) - 1) (by omega) (by omega), show (j : Int) - 1 = (xs.length : Int) - 1 - ((i + 1 : Nat) : Int) by omega]
        exact ih
      · by_cases ej : m = j
        · subst ej
          rw [nth_upd_eq (nth_at hjb2), if_pos (by omega), ← nth_at hib, h2 i (by omega), if_neg (by omega)]
          congr 1; omega
        · rw [nth_upd_ne (Ne.symm ej)]
          by_cases ei : m = i
          · subst ei
            rw [nth_upd_eq (nth_at hib), if_pos (by omega), ← nth_at hjb, h2 j (by omega), if_neg (by omega), hj]
          · rw [nth_upd_ne (Ne.symm ei), h2 m hm]
            by_cases hc : m < i ∨ xs.length ≤ m + i
            · rw [if_pos hc, if_pos (by omega)]
            · rw [if_neg hc, if_neg (by omega)]
    · rw [R_g_Reverse_Int_1_eq, decide_eq_false (by omega), cond_false]
      have hb : b = xs.reverse := by
        apply List.ext_getElem?
        intro m
        rw [← nth_eq]
        by_cases hm : m < xs.length
        · rw [h2 m hm, List.getElem?_reverse hm, ← nth_eq]
          split
          · rfl
          · congr 1; omega
        · rw [nth_none.2 (by omega), List.getElem?_eq_none (by rw [List.length_reverse]; omega)]
      rw [hb]
theorem p_Reverse (xs : List Int) (hl : xs.length ≤ 16777216) : Q_g_Reverse_Int big xs = some ((), xs.reverse, ()) := by
  have := rev_loop xs hl big 0 xs rfl (fun m hm => by rw [if_neg (by omega)]) (by omega) (by unfold big; omega)
  rw [Int.natCast_zero, Int.sub_zero] at this
  rw [Q_g_Reverse_Int_eq, wrap64 (by omega) (by omega)]
  exact this

/-- the row up to a block -/
def rowTo (t : List DIBlock) (k : Int) : List Int := match wayO t k with | none => [] | some l => (k :: l).dropLast.reverse
theorem p_i_RowTo (t : List DIBlock) (ht : t.length ≤ 1048576) (k : Int) : Q_i_RowTo big t k = some (rowTo t k) := by
  rw [Q_i_RowTo_eq, p_wayDown t ht k]
  unfold rowTo
  cases hw : wayO t k with
  | none => rfl
  | some l =>
    have := (wayO_some hw).2.2.2
    simp only [Option.bind_some, Bool.not_true, cond_false]
    rw [p_Reverse _ (by simp only [List.length_cons]; omega)]
    simp only [Option.bind_some]
    rw [if_pos (by simp only [List.length_reverse, List.length_cons]; omega), List.take_of_length_le (by simp [List.length_drop])]
    rw [show Int.toNat 1 = 1 from rfl, List.drop_one, List.tail_reverse]
theorem to_loop (t : List DIBlock) : ∀ (f n : Nat) (k : Int) (l acc : List Int), wayT t f k = some l → 0 ≤ k → k ≤ f → k < t.length → f < n → acc.length + f ≤ 16777216 → R_s_RowTo_4 n t k acc = some ((k :: l).dropLast.reverse ++ acc)
  | f, 0, k, l, acc, _, _, _, _, h, _ => by omega
  | f, n + 1, k, l, acc, hw, h1, h2, h3, h4, h5 => by
    rw [R_s_RowTo_4_eq]
    by_cases hk : 0 < k
    · rw [decide_eq_true hk, cond_true]
      cases f with
      | zero => omega
      | succ f =>
        rw [if_pos (by unfold lim; simp only [List.length_singleton]; omega), if_pos h1]
        simp only [wayT] at hw
        rw [decide_eq_true hk, cond_true] at hw
        split at hw
        · cases hw
        · rename_i b hb0
          rw [hb0, Option.bind_some]
          cases hb : inB b.1 0 (k - 1) with
          | false => rw [hb] at hw; cases hw
          | true =>
            rw [hb, cond_true] at hw
            obtain ⟨q1, q2⟩ := inB_iff.1 hb
            split at hw
            · cases hw
            · rename_i l' hl
              cases hw
              rw [to_loop t f n b.1 l' (k :: acc) hl q1 (by omega) (by omega) (by omega) (by simp only [List.length_cons]; omega)]
              simp [List.dropLast]
    · have e : k = 0 := by omega
      subst e
      have hl : l = [] := by
        cases f with
        | zero => simpa [wayT] using hw
        | succ f => simpa [wayT] using hw
      subst hl
      simp
theorem p_s_RowTo (t : List DIBlock) (ht : t.length ≤ 1048576) (k : Int) : Q_s_RowTo big t k = some (rowTo t k) := by
  rw [Q_s_RowTo_eq, p_HeightOf t ht k]
  unfold rowTo
  cases hw : wayO t k with
  | none => rfl
  | some l =>
    obtain ⟨w1, w2, w3, w4⟩ := wayO_some hw
    simp only [Option.bind_some]
    rw [decide_eq_false (by omega), cond_false, to_loop t t.length big k l [] w3 w1 (by omega) w2 (by unfold big; omega) (by simp; omega), List.append_nil]
theorem rowTo_facts (t : List DIBlock) (k : Int) : (rowTo t k).Pairwise (· < ·) ∧ (∀ y ∈ rowTo t k, 0 < y ∧ y < t.length) ∧ (rowTo t k).length ≤ t.length ∧ ∀ u, extB t k u = true → u = 0 ∨ u ∈ rowTo t k := by
  unfold rowTo extB
  cases hw : wayO t k with
  | none => exact ⟨by simp, by simp, by simp, by simp⟩
  | some l =>
    obtain ⟨w1, w2, w3, w4⟩ := wayO_some hw
    obtain ⟨d1, _, m, d3, d4⟩ := way_down w3 w1
    dsimp only
    have hm : (k :: l).dropLast = m := by rw [d3, List.dropLast_concat]
    rw [hm]
    refine ⟨?_, fun y hy => ?_, ?_, fun u hu => ?_⟩
    · rw [List.pairwise_reverse]
      rw [d3] at d1
      exact (List.pairwise_append.1 d1).1
    · have := d4 y (List.mem_reverse.1 hy); omega
    · have : (k :: l).length = m.length + 1 := by rw [d3]; simp
      simp only [List.length_cons] at this
      rw [List.length_reverse]; omega
    · obtain ⟨y, h1, h2⟩ := List.any_eq_true.1 hu
      rw [decide_eq_true_eq] at h2
      subst h2
      rw [d3] at h1
      rcases List.mem_append.1 h1 with q | q
      · exact .inr (List.mem_reverse.2 q)
      · exact .inl (by simpa using q)

/-- the row behind a block -/
def rowAf (t : List DIBlock) (k u : Int) : List Int := bif extB t k u then (rowTo t k).filter (fun y => decide (u < y)) else []
theorem drop_idx (u : Int) : ∀ {row : List Int} (j : Int), 0 ≤ j → row.Pairwise (· < ·) → u ∈ row → ∃ i : Nat, fIdx (fun y => decide (u = y)) row j = j + i ∧ i < row.length ∧ row.drop (i + 1) = row.filter (fun y => decide (u < y))
  | [], j, _, _, h => by cases h
  | y :: row, j, h0, hp, h => by
    obtain ⟨p1, p2⟩ := List.pairwise_cons.1 hp
    by_cases e : u = y
    · subst e
      refine ⟨0, by simp only [fIdx, decide_true, cond_true]; omega, by simp, ?_⟩
      rw [List.filter_cons, decide_eq_false (Int.lt_irrefl u)]
      simp only [Nat.zero_add, List.drop_succ_cons, List.drop_zero, Bool.false_eq_true, if_false]
      rw [List.filter_eq_self.2 (fun z hz => by rw [decide_eq_true (p1 z hz)])]
    · have hm : u ∈ row := by
        rcases List.mem_cons.1 h with q | q
        · exact absurd q e
        · exact q
      obtain ⟨i, i1, i2, i3⟩ := drop_idx u (row := row) (j + 1) (by omega) p2 hm
      have hlt := p1 u hm
      refine ⟨i + 1, by simp only [fIdx, decide_eq_false e, cond_false]; omega, by simp only [List.length_cons]; omega, ?_⟩
      rw [List.filter_cons, decide_eq_false (by omega), List.drop_succ_cons, i3]
      simp
theorem no_idx (u : Int) : ∀ {row : List Int} (j : Int), (∀ y ∈ row, u < y) → fIdx (fun y => decide (u = y)) row j = -1
  | [], _, _ => rfl
  | y :: row, j, h => by
    have := h y (by simp)
    simp only [fIdx, decide_eq_false (show ¬ u = y by omega), cond_false]
    exact no_idx u (j + 1) (fun z hz => h z (by simp [hz]))
theorem p_i_RowAfter (t : List DIBlock) (ht : t.length ≤ 1048576) (k u : Int) : Q_i_RowAfter big t k u = some (rowAf t k u) := by
  obtain ⟨f1, f2, f3, f4⟩ := rowTo_facts t k
  rw [Q_i_RowAfter_eq, p_i_Extends t ht, Option.bind_some]
  unfold rowAf
  cases he : extB t k u with
  | false => rfl
  | true =>
    simp only [Bool.not_true, cond_false, cond_true]
    rw [p_i_RowTo t ht, Option.bind_some, p_Index _ _ (by omega), Option.bind_some]
    rcases f4 u he with e | hm
    · subst e
      rw [no_idx 0 0 (fun y hy => (f2 y hy).1), List.filter_eq_self.2 (fun z hz => by rw [decide_eq_true (f2 z hz).1])]
      rw [show IntKind.i64.wrap (-1 + 1) = 0 from rfl, if_pos (by omega), if_pos (by omega)]
      simp
    · obtain ⟨i, i1, i2, i3⟩ := drop_idx u 0 (by omega) f1 hm
      rw [i1, Int.zero_add, wrap_succ (by omega), if_pos (by omega), if_pos (by omega), Int.toNat_natCast, i3, List.take_of_length_le (by rw [← i3, List.length_drop]; omega)]
theorem after_loop (u : Int) (row : List Int) (hl : row.length ≤ 16777216) : ∀ (n i : Nat) (acc : List Int), row.length < n + i → i ≤ row.length → acc.length ≤ i → R_s_RowAfter_6 n u acc (i : Int) row = some (acc ++ (row.drop i).filter (fun y => decide (u < y)))
  | 0, i, acc, h1, h2, h3 => by omega
  | n + 1, i, acc, h1, h2, h3 => by
    rcases Nat.lt_or_ge i row.length with hi | hi
    · rw [R_s_RowAfter_6_eq, decide_eq_true (by omega), cond_true]
      simp only [if_pos (show (0 : Int) ≤ (i : Int) by omega), if_pos (show (i : Int) < (row.length : Int) by omega), Int.toNat_natCast, nth_at hi, Option.bind_some]
      rw [if_pos (by unfold lim; simp only [List.length_singleton]; omega), wrap_succ (by omega), List.drop_eq_getElem_cons hi, List.filter_cons]
      cases decide (u < row[i]) with
      | true =>
        rw [cond_true, after_loop u row hl n (i + 1) _ (by omega) (by omega) (by simp; omega)]
        simp
      | false =>
        rw [cond_false, after_loop u row hl n (i + 1) _ (by omega) (by omega) (by omega)]
        simp
    · have e : i = row.length := by omega
      subst e
      rw [R_s_RowAfter_6_eq, decide_eq_false (by omega), cond_false, List.drop_length]
      simp
theorem p_s_RowAfter (t : List DIBlock) (ht : t.length ≤ 1048576) (k u : Int) : Q_s_RowAfter big t k u = some (rowAf t k u) := by
  obtain ⟨f1, f2, f3, f4⟩ := rowTo_facts t k
  rw [Q_s_RowAfter_eq, p_s_Extends t ht, Option.bind_some]
  unfold rowAf
  cases he : extB t k u with
  | false => rfl
  | true =>
    simp only [Bool.not_true, cond_false, cond_true]
    have := after_loop u (rowTo t k) (by omega) big 0 [] (by unfold big; omega) (by omega) (by simp)
    rw [Int.natCast_zero, List.drop_zero, List.nil_append] at this
    rw [p_s_RowTo t ht, Option.bind_some]
    exact this
theorem rowAf_facts (t : List DIBlock) (k u : Int) : (rowAf t k u).Pairwise (· < ·) ∧ (∀ y ∈ rowAf t k u, 0 < y ∧ y < t.length) ∧ (rowAf t k u).length ≤ t.length := by
  obtain ⟨f1, f2, f3, _⟩ := rowTo_facts t k
  unfold rowAf
  cases extB t k u with
  | false => exact ⟨by simp, by simp, by simp⟩
  | true =>
    refine ⟨f1.sublist List.filter_sublist, fun y hy => f2 y (List.mem_filter.1 hy).1, Nat.le_trans (List.length_filter_le ..) f3⟩

/-- the commands of a row are no more than those of all blocks -/
def restC (t : List DIBlock) (i : Nat) : Nat := ((t.drop i).map fun b => List.length b.2.2.1).sum
theorem restC_at {t : List DIBlock} {i : Nat} (hi : i < t.length) : restC t i = List.length t[i].2.2.1 + restC t (i + 1) := by
  unfold restC
  rw [List.drop_eq_getElem_cons hi, List.map_cons, List.sum_cons]
theorem restC_mono (t : List DIBlock) : ∀ (d i : Nat), restC t (i + d) ≤ restC t i
  | 0, i => Nat.le_refl _
  | d + 1, i => by
    refine Nat.le_trans ?_ (restC_mono t d i)
    rcases Nat.lt_or_ge (i + d) t.length with h | h
    · rw [restC_at h]; exact Nat.le_add_left _ _
    · unfold restC
      rw [List.drop_eq_nil_of_le (show t.length ≤ i + (d + 1) by omega)]
      simp
theorem row_total (t : List DIBlock) : ∀ (row : List Int) (i : Nat), row.Pairwise (· < ·) → (∀ y ∈ row, (i : Int) ≤ y ∧ y < t.length) → (rowC t row).length ≤ restC t i
  | [], i, _, _ => by simp [rowC]
  | r :: row, i, hp, hm => by
    obtain ⟨p1, p2⟩ := List.pairwise_cons.1 hp
    obtain ⟨m1, m2⟩ := hm r (by simp)
    have hr : Int.toNat r < t.length := by omega
    have ih := row_total t row (Int.toNat r + 1) p2 (fun y hy => ⟨by have := p1 y hy; omega, (hm y (by simp [hy])).2⟩)
    have hc : blkC t r = t[Int.toNat r].2.2.1 := by
      unfold blkC
      rw [decide_eq_true (show (0 : Int) ≤ r by omega), cond_true, decide_eq_true (show r ≤ (t.length : Int) - 1 by omega), nth_at hr]; rfl
    have e : rowC t (r :: row) = blkC t r ++ rowC t row := rfl
    rw [e, List.length_append, hc]
    have h1 := restC_at hr
    have h2 := restC_mono t (Int.toNat r - i) i
    rw [show i + (Int.toNat r - i) = Int.toNat r by omega] at h2
    omega

end Go.Sx.Tryz

set_option maxRecDepth 100000
namespace Go.Sx.Tryz
open Go Go.Sx Go.Proofs

def undoOf (xs : List DICell) (k : ByteArray) : DIUndo := match numAt k xs with
  | none => (k, false, 0, ())
  | some m => (k, true, m, ())
theorem p_i_UndoOf (xs : List DICell) (hl : xs.length ≤ 16777216) (k : ByteArray) : Q_i_UndoOf big xs k = some (undoOf xs k) := by
  rw [Q_i_UndoOf_eq, p_i_CellAt xs k hl, Option.bind_some]
  unfold undoOf
  rcases at_spec k xs 0 with ⟨h1, _, h3, _⟩ | ⟨i, y, h1, h2, h3, _, h5⟩
  · rw [h1, h3, decide_eq_true (by omega)]; rfl
  · rw [h1, h5, Int.zero_add, decide_eq_false (by omega), cond_false, if_pos (by omega), Int.toNat_natCast, h2]; rfl
theorem p_s_UndoOf (xs : List DICell) (hl : xs.length ≤ 16777216) (k : ByteArray) : Q_s_UndoOf big xs k = some (undoOf xs k) := by
  rw [Q_s_UndoOf_eq, p_s_CellAt xs k hl, Option.bind_some]
  unfold undoOf
  rcases at_spec k xs 0 with ⟨h1, _, h3, _⟩ | ⟨i, y, h1, h2, h3, _, h5⟩
  · rw [h1, h3, decide_eq_true (by omega)]; rfl
  · rw [h1, h5, Int.zero_add, decide_eq_false (by omega), cond_false, if_pos (by omega), Int.toNat_natCast, h2]; rfl

/-- what takes commands back -/
def undoU : List DICell → List DICmd → List DIUndo
  | _, [] => []
  | xs, c :: cs => undoOf xs c.2.1 :: undoU (doneC xs c).1 cs
theorem undoU_length : ∀ (cs : List DICmd) (xs : List DICell), (undoU xs cs).length = cs.length
  | [], _ => rfl
  | _ :: cs, _ => by simp only [undoU, List.length_cons, undoU_length cs]
theorem undoU_append : ∀ (a b : List DICmd) (xs : List DICell), undoU xs (a ++ b) = undoU xs a ++ undoU (doneL xs a) b
  | [], _, _ => rfl
  | c :: a, b, xs => by
    simp only [List.cons_append, undoU]
    rw [undoU_append a b]
    rfl
theorem i_back_loop (cs : List DICmd) (hl : cs.length ≤ 16777216) (hc : ∀ c ∈ cs, ByteArray.size c.2.1 ≤ 1048576) : ∀ (n i : Nat) (xs : List DICell) (us : List DIUndo), cs.length < n + i → i ≤ cs.length → us.length ≤ i → CellsB xs →
    R_i_DoneBack_4 n xs us cs (cs.length : Int) (i : Int) = some (doneL xs (cs.drop i), us ++ undoU xs (cs.drop i), ())
  | 0, i, xs, us, h1, h2, h3, _ => by omega
  | n + 1, i, xs, us, h1, h2, h3, h => by
    rcases Nat.lt_or_ge i cs.length with hi | hi
    · have hm := hc _ (List.getElem_mem hi)
      rw [R_i_DoneBack_4_eq, decide_eq_true (by omega), cond_true, mk4 (nth_at hi), p_i_UndoOf xs h.len, Option.bind_some, if_pos (by unfold lim2; simp only [List.length_singleton]; omega), p_i_Done xs h _ hm, Option.bind_some, wrap_succ (by omega),
        i_back_loop cs hl hc n (i + 1) _ _ (by omega) (by omega) (by simp; omega) (done_B h hm)]
      rw [List.drop_eq_getElem_cons hi, show ∀ (a b : List DIUndo), List.append a b = a ++ b from fun _ _ => rfl, List.append_assoc]
      rfl
    · have e : i = cs.length := by omega
      subst e
      rw [R_i_DoneBack_4_eq, decide_eq_false (by omega), cond_false, List.drop_length]
      simp [doneL, undoU]
theorem s_back_loop (cs : List DICmd) (hl : cs.length ≤ 16777216) (hc : ∀ c ∈ cs, ByteArray.size c.2.1 ≤ 1048576) : ∀ (n i : Nat) (xs : List DICell) (us : List DIUndo), cs.length < n + i → i ≤ cs.length → us.length ≤ i → CellsB xs →
    R_s_DoneBack_4 n cs xs us (i : Int) = some (doneL xs (cs.drop i), us ++ undoU xs (cs.drop i), ())
  | 0, i, xs, us, h1, h2, h3, _ => by omega
  | n + 1, i, xs, us, h1, h2, h3, h => by
    rcases Nat.lt_or_ge i cs.length with hi | hi
    · have hm := hc _ (List.getElem_mem hi)
      rw [R_s_DoneBack_4_eq, decide_eq_true (by omega), cond_true, mk4 (nth_at hi), p_s_UndoOf xs h.len, Option.bind_some, if_pos (by unfold lim; simp only [List.length_singleton]; omega), mk4 (nth_at hi), p_s_Done xs h _ hm, Option.bind_some, wrap_succ (by omega),
        s_back_loop cs hl hc n (i + 1) _ _ (by omega) (by omega) (by simp; omega) (done_B h hm)]
      rw [List.drop_eq_getElem_cons hi, show ∀ (a b : List DIUndo), List.append a b = a ++ b from fun _ _ => rfl, List.append_assoc]
      rfl
    · have e : i = cs.length := by omega
      subst e
      rw [R_s_DoneBack_4_eq, decide_eq_false (by omega), cond_false, List.drop_length]
      simp [doneL, undoU]
theorem p_i_DoneBack (xs : List DICell) (h : CellsB xs) (cs : List DICmd) (hl : cs.length ≤ 16777216) (hc : ∀ c ∈ cs, ByteArray.size c.2.1 ≤ 1048576) : Q_i_DoneBack big xs cs = some (doneL xs cs, undoU xs cs, ()) := by
  have := i_back_loop cs hl hc big 0 xs [] (by unfold big; omega) (by omega) (by simp) h
  rw [Int.natCast_zero, List.drop_zero, List.nil_append] at this
  rw [Q_i_DoneBack_eq, pClone_ICell _ h.len, Option.bind_some]
  exact this
theorem p_s_DoneBack (xs : List DICell) (h : CellsB xs) (cs : List DICmd) (hl : cs.length ≤ 16777216) (hc : ∀ c ∈ cs, ByteArray.size c.2.1 ≤ 1048576) : Q_s_DoneBack big xs cs = some (doneL xs cs, undoU xs cs, ()) := by
  have hl2 := h.len
  have := s_back_loop cs hl hc big 0 xs [] (by unfold big; omega) (by omega) (by simp) h
  rw [Int.natCast_zero, List.drop_zero, List.nil_append] at this
  rw [Q_s_DoneBack_eq, if_pos (by unfold lim; omega)]
  exact this

/-! ### One command taken back -/
theorem take_upd {α : Type} : ∀ {b : List α} {i : Nat} (y : α), i < b.length → (upd b i y).take (i + 1) = b.take i ++ [y]
  | _ :: _, 0, _, _ => by simp [upd]
  | x :: b, i + 1, y, h => by
    have := take_upd (b := b) (i := i) y (by simpa using h)
    simp only [upd, List.take_succ_cons, List.cons_append, this]
theorem drop_upd {α : Type} : ∀ {b : List α} {i j : Nat} (y : α), i < j → (upd b i y).drop j = b.drop j
  | [], _, _, _, _ => rfl
  | _ :: _, 0, j + 1, _, _ => rfl
  | x :: b, i + 1, j + 1, y, h => by
    simp only [upd, List.drop_succ_cons]
    exact drop_upd y (by omega)
def keepK (k : ByteArray) (y : DICell) : Bool := !decide (y.1 = k)
theorem del_loop (k : ByteArray) (hd : Bool) (m : Int) : ∀ (n i j : Nat) (b : List DICell), b.length ≤ 16777216 → b.length < n + j → i < j → j ≤ b.length →
    R_g_DeleteFunc_ICell__i_Undone_1_5 n (i : Int) (j : Int) b k hd m = some (b.take i ++ (b.drop j).filter (keepK k), ((k, hd, m, ()), ()), ())
  | 0, i, j, b, _, h1, _, h3 => by omega
  | n + 1, i, j, b, hl, h1, h2, h3 => by
    rcases Nat.lt_or_ge j b.length with hj | hj
    · have hi : i < b.length := by omega
      rw [R_g_DeleteFunc_ICell__i_Undone_1_5_eq, decide_eq_true (by omega), cond_true, if_pos (by omega), if_pos (by omega), Int.toNat_natCast, nth_at hj, Option.bind_some, List.drop_eq_getElem_cons hj, List.filter_cons]
      show (bif keepK k b[j] then _ else _) = _
      cases keepK k b[j] with
      | true =>
        simp only [cond_true, if_true]
        rw [if_pos (by omega), if_pos (by omega), Int.toNat_natCast, nth_at hi, Option.bind_some, updO_at hi, Option.bind_some, wrap_succ (by omega), wrap_succ (by omega),
          del_loop k hd m n (i + 1) (j + 1) _ (by rw [upd_length]; exact hl) (by rw [upd_length]; omega) (by omega) (by rw [upd_length]; omega), take_upd _ hi, drop_upd _ (by omega), List.append_assoc]
        rfl
      | false =>
        simp only [cond_false, Bool.false_eq_true, if_false]
        rw [wrap_succ (by omega), del_loop k hd m n i (j + 1) b hl (by omega) (by omega) (by omega)]
    · have e : j = b.length := by omega
      subst e
      have hlen : (List.append (b.take i) (List.append (List.replicate (b.length - i) (zeroD tICell)) (b.drop (i + (b.length - i))))).length = b.length := by
        simp only [show ∀ a c : List DICell, List.append a c = a ++ c from fun _ _ => rfl, List.length_append, List.length_take, List.length_replicate, List.length_drop]; omega
      rw [R_g_DeleteFunc_ICell__i_Undone_1_5_eq, decide_eq_false (by omega), cond_false]
      simp only [Int.toNat_natCast]
      rw [if_pos (by omega), if_pos (by omega), if_pos (by omega), if_pos (by omega), if_pos (by rw [show (List.append (b.take i) (List.append (List.replicate (b.length - i) (zeroD tXstruct_Key_string_Num_int_)) (b.drop (i + (b.length - i))))).length = b.length from hlen]; omega)]
      rw [List.drop_length, Nat.sub_zero, List.drop_zero]
      have ht : List.take i (List.append (b.take i) (List.append (List.replicate (b.length - i) (zeroD tXstruct_Key_string_Num_int_)) (b.drop (i + (b.length - i))))) = b.take i :=
        List.take_left' (by rw [List.length_take]; omega)
      rw [ht]
      simp
theorem first_keep {p : DICell → Bool} : ∀ {l : List DICell} (j : Int), 0 ≤ j → (fIdx p l j = -1 ∧ l.filter (fun y => !p y) = l) ∨ ∃ i : Nat, fIdx p l j = j + i ∧ i < l.length ∧ l.filter (fun y => !p y) = l.take i ++ (l.drop (i + 1)).filter (fun y => !p y)
  | [], _, _ => .inl ⟨rfl, rfl⟩
  | y :: l, j, h => by
    cases hp : p y with
    | true =>
      refine .inr ⟨0, by simp only [fIdx, hp, cond_true]; omega, by simp, ?_⟩
      rw [List.filter_cons, hp]; rfl
    | false =>
      rcases first_keep (p := p) (l := l) (j + 1) (by omega) with ⟨h1, h2⟩ | ⟨i, h1, h2, h3⟩
      · refine .inl ⟨by simp only [fIdx, hp, cond_false]; exact h1, ?_⟩
        rw [List.filter_cons, hp, h2]; rfl
      · refine .inr ⟨i + 1, by simp only [fIdx, hp, cond_false]; omega, by simp only [List.length_cons]; omega, ?_⟩
        rw [List.filter_cons, hp, h3]; rfl
theorem p_Delete (xs : List DICell) (hl : xs.length ≤ 16777216) (u : DIUndo) : Q_g_DeleteFunc_ICell__i_Undone_1 big xs (u, ()) = some (xs.filter (keepK u.1), (u, ()), ()) := by
  have hi : Q_g_IndexFunc_ICell__i_Undone_1 big xs (u, ()) = some (fIdx (isK u.1) xs 0, (u, ()), ()) := by
    rw [Q_g_IndexFunc_ICell__i_Undone_1_eq]
    exact idx_ok (xs := xs) (p := isK u.1) (c := ((u, ()), ())) (r := fun n i => R_g_IndexFunc_ICell__i_Undone_1_2 n xs (xs.length : Int) i u.1 u.2.1 u.2.2.1) (n := big) (fun n i hi => by
      rw [R_g_IndexFunc_ICell__i_Undone_1_2_eq, decide_eq_true (by omega), cond_true, mk4 (nth_at hi), wrap_succ (by omega)]
      rfl) (fun n => by
      rw [R_g_IndexFunc_ICell__i_Undone_1_2_eq, decide_eq_false (Int.lt_irrefl _)]
      rfl) (Nat.lt_of_le_of_lt hl (by decide))
  rw [Q_g_DeleteFunc_ICell__i_Undone_1_eq, hi, Option.bind_some]
  rcases first_keep (p := isK u.1) (l := xs) 0 (by omega) with ⟨h1, h2⟩ | ⟨i, h1, h2, h3⟩
  · rw [h1, decide_eq_true rfl, cond_true]
    rw [show xs.filter (keepK u.1) = xs from h2]
  · rw [h1, Int.zero_add, decide_eq_false (by omega), cond_false, wrap_succ (by omega), del_loop _ _ _ big i (i + 1) xs hl (by unfold big; omega) (by omega) (by omega)]
    rw [show xs.filter (keepK u.1) = _ from h3]
    rfl

def undoC (xs : List DICell) (u : DIUndo) : List DICell :=
  bif okB xs then (bif keyB u.1 then (bif numB u.2.2.1 then (bif u.2.1 then putC u.1 u.2.2.1 xs else xs.filter (keepK u.1)) else xs) else xs) else xs
theorem undoC_B {xs : List DICell} (h : CellsB xs) {u : DIUndo} (hu : ByteArray.size u.1 ≤ 1048576) : CellsB (undoC xs u) := by
  unfold undoC
  cases ho : okB xs with
  | false => exact h
  | true =>
    cases keyB u.1 with
    | false => exact h
    | true =>
      cases numB u.2.2.1 with
      | false => exact h
      | true =>
        cases u.2.1 with
        | true => exact put_B h (okB_form ho).2 (okB_form ho).1 hu _
        | false =>
          refine ⟨Nat.le_trans (List.length_filter_le ..) h.len, fun y hy => ?_⟩
          exact h.key y (List.mem_filter.1 hy).1
theorem p_i_Undone (xs : List DICell) (h : CellsB xs) (u : DIUndo) (hu : ByteArray.size u.1 ≤ 1048576) : Q_i_Undone big xs u = some (undoC xs u) := by
  rw [Q_i_Undone_eq, pClone_ICell _ h.len, Option.bind_some, p_i_CellsOk xs h, Option.bind_some]
  unfold undoC
  cases ho : okB xs with
  | false => rfl
  | true =>
    simp only [Bool.not_true, cond_false, cond_true]
    rw [p_i_KeyOk _ hu, Option.bind_some]
    cases keyB u.1 with
    | false => rfl
    | true =>
      simp only [Bool.not_true, cond_false, cond_true]
      rw [c_isNum, Option.bind_some]
      cases numB u.2.2.1 with
      | false => rfl
      | true =>
        simp only [Bool.not_true, cond_false, cond_true]
        rw [p_withCell xs h (okB_form ho).1, p_Delete xs h.len]
        cases u.2.1 <;> rfl
theorem s_del_loop (xs : List DICell) (hl : xs.length ≤ 16777216) (k : ByteArray) (hd : Bool) (m : Int) : ∀ (n i : Nat) (acc : List DICell), xs.length < n + i → i ≤ xs.length → acc.length ≤ i → R_s_Undone_7 n xs acc (i : Int) k hd m = some (acc ++ (xs.drop i).filter (keepK k))
  | 0, i, acc, h1, h2, h3 => by omega
  | n + 1, i, acc, h1, h2, h3 => by
    rcases Nat.lt_or_ge i xs.length with hi | hi
    · rw [R_s_Undone_7_eq, decide_eq_true (by omega), cond_true, mk4 (nth_at hi), mk4 (nth_at hi), if_pos (by unfold lim; simp only [List.length_singleton]; omega), wrap_succ (by omega), List.drop_eq_getElem_cons hi, List.filter_cons]
      show (bif keepK k xs[i] then _ else _) = _
      cases keepK k xs[i] with
      | true =>
        rw [cond_true, s_del_loop xs hl k hd m n (i + 1) _ (by omega) (by omega) (by simp; omega)]
        simp
      | false =>
        rw [cond_false, s_del_loop xs hl k hd m n (i + 1) _ (by omega) (by omega) (by omega)]
        simp
    · have e : i = xs.length := by omega
      subst e
      rw [R_s_Undone_7_eq, decide_eq_false (by omega), cond_false, List.drop_length]
      simp
theorem p_s_Undone (xs : List DICell) (h : CellsB xs) (u : DIUndo) (hu : ByteArray.size u.1 ≤ 1048576) : Q_s_Undone big xs u = some (undoC xs u) := by
  have hl := h.len
  rw [Q_s_Undone_eq, p_s_CellsOk xs h, Option.bind_some, if_pos (by unfold lim; omega)]
  unfold undoC
  cases ho : okB xs with
  | false => rfl
  | true =>
    simp only [Bool.not_true, cond_false, cond_true]
    rw [p_s_KeyOk _ hu, Option.bind_some]
    cases keyB u.1 with
    | false => rfl
    | true =>
      simp only [Bool.not_true, cond_false, cond_true]
      rw [c_l01In, Option.bind_some]
      show (bif !numB u.2.2.1 then _ else _) = _
      cases numB u.2.2.1 with
      | false => rfl
      | true =>
        simp only [Bool.not_true, cond_false, cond_true]
        have e1 : Q_s_l03Put big xs (u.1, u.2.2) = some (putC u.1 u.2.2.1 xs) := p_l03Put xs hl (okB_form ho).1 u.1 u.2.2.1
        have e2 := s_del_loop xs hl u.1 u.2.1 u.2.2.1 big 0 [] (by unfold big; omega) (by omega) (by simp)
        rw [Int.natCast_zero, List.drop_zero, List.nil_append] at e2
        rw [e1, e2]
        cases u.2.1 <;> rfl

/-! ### All taken back -/
def undoL (xs : List DICell) (us : List DIUndo) : List DICell := us.foldr (fun u x => undoC x u) xs
theorem undoL_B {us : List DIUndo} (hu : ∀ u ∈ us, ByteArray.size u.1 ≤ 1048576) {xs : List DICell} (h : CellsB xs) : CellsB (undoL xs us) := by
  induction us with
  | nil => exact h
  | cons u us ih => exact undoC_B (ih (fun v hv => hu v (by simp [hv]))) (hu u (by simp))
theorem i_un_loop (us : List DIUndo) (hl : us.length ≤ 16777216) (hu : ∀ u ∈ us, ByteArray.size u.1 ≤ 1048576) : ∀ (n i : Nat) (xs : List DICell), i < n → i ≤ us.length → CellsB xs → R_i_UndoneAll_3 n us xs ((i : Int) - 1) = some (undoL xs (us.take i))
  | 0, i, xs, h1, _, _ => by omega
  | n + 1, 0, xs, h1, h2, h => by
    rw [R_i_UndoneAll_3_eq, decide_eq_false (by omega), cond_false]
    rfl
  | n + 1, i + 1, xs, h1, h2, h => by
    have hi : i < us.length := by omega
    have hm := hu _ (List.getElem_mem hi)
    rw [show ((i + 1 : Nat) : Int) - 1 = (i : Int) by omega, R_i_UndoneAll_3_eq, decide_eq_true (by omega), cond_true, mk4 (nth_at hi), p_i_Undone xs h _ hm, Option.bind_some, wrap64 (n := (i : Int) - 1) (by omega) (by omega),
      i_un_loop us hl hu n i _ (by omega) (by omega) (undoC_B h hm), List.take_succ_eq_append_getElem hi]
    unfold undoL
    rw [List.foldr_append]
    rfl
theorem s_un_loop (us : List DIUndo) (hl : us.length ≤ 16777216) (hu : ∀ u ∈ us, ByteArray.size u.1 ≤ 1048576) : ∀ (n i : Nat) (xs : List DICell), i < n → i ≤ us.length → CellsB xs → R_s_UndoneAll_3 n us xs ((i : Int) - 1) = some (undoL xs (us.take i))
  | 0, i, xs, h1, _, _ => by omega
  | n + 1, 0, xs, h1, h2, h => by
    rw [R_s_UndoneAll_3_eq, decide_eq_false (by omega), cond_false]
    rfl
  | n + 1, i + 1, xs, h1, h2, h => by
    have hi : i < us.length := by omega
    have hm := hu _ (List.getElem_mem hi)
    rw [show ((i + 1 : Nat) : Int) - 1 = (i : Int) by omega, R_s_UndoneAll_3_eq, decide_eq_true (by omega), cond_true, mk4 (nth_at hi), p_s_Undone xs h _ hm, Option.bind_some, wrap64 (n := (i : Int) - 1) (by omega) (by omega),
      s_un_loop us hl hu n i _ (by omega) (by omega) (undoC_B h hm), List.take_succ_eq_append_getElem hi]
    unfold undoL
    rw [List.foldr_append]
    rfl
theorem p_i_UndoneAll (xs : List DICell) (h : CellsB xs) (us : List DIUndo) (hl : us.length ≤ 16777216) (hu : ∀ u ∈ us, ByteArray.size u.1 ≤ 1048576) : Q_i_UndoneAll big xs us = some (undoL xs us) := by
  have := i_un_loop us hl hu big us.length xs (by unfold big; omega) (Nat.le_refl _) h
  rw [List.take_length] at this
  rw [Q_i_UndoneAll_eq, pClone_ICell _ h.len, Option.bind_some, wrap64 (by omega) (by omega)]
  exact this
theorem p_s_UndoneAll (xs : List DICell) (h : CellsB xs) (us : List DIUndo) (hl : us.length ≤ 16777216) (hu : ∀ u ∈ us, ByteArray.size u.1 ≤ 1048576) : Q_s_UndoneAll big xs us = some (undoL xs us) := by
  have hl2 := h.len
  have := s_un_loop us hl hu big us.length xs (by unfold big; omega) (Nat.le_refl _) h
  rw [List.take_length] at this
  rw [Q_s_UndoneAll_eq, if_pos (by unfold lim; omega), wrap64 (by omega) (by omega)]
  exact this

end Go.Sx.Tryz

set_option maxRecDepth 100000
namespace Go.Sx.Tryz
open Go Go.Sx Go.Proofs

/-- a replica whose keys are not too long -/
structure PeerK (p : DIPeer) : Prop where
  b : PeerB p
  row : List.length p.2.2.2.2.2.1 ≤ 1048576
  cells : ∀ y ∈ p.2.2.2.2.2.2.1, ByteArray.size y.1 ≤ 1048576
  undos : ∀ y ∈ p.2.2.2.2.2.2.2.2.1, ByteArray.size y.1 ≤ 1048576
theorem PeerK.cB {p : DIPeer} (h : PeerK p) : CellsB p.2.2.2.2.2.2.1 := ⟨h.b.cells, h.cells⟩
/-- what is left when it is taken back -/
def backC (p : DIPeer) : List DICell := undoL p.2.2.2.2.2.2.1 p.2.2.2.2.2.2.2.2.1
theorem backC_B {p : DIPeer} (h : PeerK p) : CellsB (backC p) := undoL_B h.undos h.cB
def backP (p : DIPeer) : DIPeer := (p.1, p.2.1, p.2.2.1, p.2.2.2.1, p.2.2.2.2.1, p.2.2.2.2.2.1, backC p, [], [], p.2.2.2.2.2.2.2.2.2)
def lastR (p : DIPeer) : Int := match p.2.2.2.2.2.1.getLast? with | none => 0 | some k => k
theorem last_at {xs : List Int} (h : 0 < xs.length) : xs.getLast? = some xs[xs.length - 1] := by
  rw [List.getLast?_eq_getElem?, List.getElem?_eq_getElem (by omega)]
theorem p_lastRow (p : DIPeer) (h : List.length p.2.2.2.2.2.1 ≤ 16777216) : Q_i_lastRow big p = some (lastR p) := by
  rw [Q_i_lastRow_eq]
  unfold lastR
  by_cases h0 : p.2.2.2.2.2.1.length = 0
  · rw [decide_eq_true (by omega), cond_true, List.length_eq_zero_iff.1 h0]; rfl
  · have hi : p.2.2.2.2.2.1.length - 1 < p.2.2.2.2.2.1.length := by omega
    rw [decide_eq_false (by omega), cond_false, wrap64 (by omega) (by omega), if_pos (by omega), show ((List.length p.2.2.2.2.2.1 : Int) - 1).toNat = p.2.2.2.2.2.1.length - 1 by omega, nth_at hi, last_at (by omega)]
    rfl
theorem p_l10Last (p : DIPeer) (h : List.length p.2.2.2.2.2.1 ≤ 16777216) : Q_s_l10Last big p = some (lastR p) := by
  rw [Q_s_l10Last_eq]
  unfold lastR
  by_cases h0 : p.2.2.2.2.2.1.length = 0
  · rw [decide_eq_true (by omega), cond_true, List.length_eq_zero_iff.1 h0]; rfl
  · have hi : p.2.2.2.2.2.1.length - 1 < p.2.2.2.2.2.1.length := by omega
    rw [decide_eq_false (by omega), cond_false, wrap64 (by omega) (by omega), if_pos (by omega), show ((List.length p.2.2.2.2.2.1 : Int) - 1).toNat = p.2.2.2.2.2.1.length - 1 by omega, nth_at hi, last_at (by omega)]
    rfl
theorem p_takenBack (p : DIPeer) (h : PeerK p) : Q_i_takenBack big p = some (backP p) := by
  rw [Q_i_takenBack_eq, p_clonePeer p h.b, Option.bind_some, p_i_UndoneAll _ h.cB _ h.b.undos h.undos, Option.bind_some]
  rfl
theorem p_l10Back (p : DIPeer) (h : PeerK p) : Q_s_l10Back big p = some ((), backP p, ()) := by
  rw [Q_s_l10Back_eq, p_s_UndoneAll _ h.cB _ h.b.undos h.undos, Option.bind_some]
  rfl

/-! ### What is let through -/
/-- the row goes on, the cells with it -/
def thrP (t : List DIBlock) (p : DIPeer) (row : List Int) : DIPeer := (p.1, p.2.1, p.2.2.1, p.2.2.2.1, p.2.2.2.2.1, p.2.2.2.2.2.1 ++ row, doneL p.2.2.2.2.2.2.1 (rowC t row), p.2.2.2.2.2.2.2)
theorem thr_loop (t : List DIBlock) (h : TreeB t) (row : List Int) (hr : row.length ≤ 1048576) (hm : ∀ y ∈ row, 0 < y ∧ y < t.length) : ∀ (n i : Nat) (p : DIPeer), row.length < n + i → i ≤ row.length → List.length p.2.2.2.2.2.1 ≤ 1048576 + i → CellsB p.2.2.2.2.2.2.1 →
    R_s_Through_7 n t (i : Int) 0 0 0 0 0 0 0 0 0 0 0 0 0 0 [] [] [] [] [] [] 0 p.1 p.2.1 p.2.2.1.1 p.2.2.1.2.1 p.2.2.1.2.2.1 p.2.2.1.2.2.2.1 p.2.2.2.1.1 p.2.2.2.1.2.1 p.2.2.2.1.2.2.1 p.2.2.2.1.2.2.2.1 p.2.2.2.2.1.1 p.2.2.2.2.1.2.1 p.2.2.2.2.1.2.2.1 p.2.2.2.2.1.2.2.2.1
      p.2.2.2.2.2.1 p.2.2.2.2.2.2.1 p.2.2.2.2.2.2.2.1 p.2.2.2.2.2.2.2.2.1 p.2.2.2.2.2.2.2.2.2.1 p.2.2.2.2.2.2.2.2.2.2.1 p.2.2.2.2.2.2.2.2.2.2.2.1 row = some (thrP t p (row.drop i))
  | 0, i, p, h1, h2, _, _ => by omega
  | n + 1, i, p, h1, h2, h3, hc => by
    rcases Nat.lt_or_ge i row.length with hi | hi
    · obtain ⟨m1, m2⟩ := hm _ (List.getElem_mem hi)
      have hk : Int.toNat row[i] < t.length := by omega
      have hb := List.getElem_mem hk
      have e : rowC t (row.drop i) = t[Int.toNat row[i]].2.2.1 ++ rowC t (row.drop (i + 1)) := by
        rw [List.drop_eq_getElem_cons hi]
        have hbk : blkC t row[i] = t[Int.toNat row[i]].2.2.1 := by
          unfold blkC
          rw [decide_eq_true (show (0 : Int) ≤ row[i] by omega), cond_true, decide_eq_true (show row[i] ≤ (t.length : Int) - 1 by omega), nth_at hk]; rfl
        rw [← hbk]; rfl
      rw [R_s_Through_7_eq, decide_eq_true (by omega), cond_true]
      simp only [if_pos (show (0 : Int) ≤ (i : Int) by omega), if_pos (show (i : Int) < (row.length : Int) by omega), Int.toNat_natCast, nth_at hi, Option.bind_some, if_pos (show (0 : Int) ≤ row[i] by omega), nth_at hk]
      rw [if_pos (by unfold lim; simp only [List.length_singleton]; omega), p_s_DoneAll _ hc _ (Nat.le_trans (h.cmds _ hb) (by decide)) (h.key _ hb), Option.bind_some, wrap_succ (by omega)]
      have ih := thr_loop t h row hr hm n (i + 1) (p.1, p.2.1, p.2.2.1, p.2.2.2.1, p.2.2.2.2.1, p.2.2.2.2.2.1 ++ [row[i]], doneL p.2.2.2.2.2.2.1 t[Int.toNat row[i]].2.2.1, p.2.2.2.2.2.2.2) (by omega) (by omega)
        (by simp only [List.length_append, List.length_singleton]; omega) (doneL_B _ hc (h.key _ hb))
      refine Eq.trans ih ?_
      unfold thrP
      rw [e, doneL_append]
      dsimp only
      rw [List.append_assoc, List.drop_eq_getElem_cons hi]
      rfl
    · have e : i = row.length := by omega
      subst e
      rw [R_s_Through_7_eq, decide_eq_false (by omega), cond_false, List.drop_length]
      unfold thrP
      rw [List.append_nil]
      rfl
def throughF (t : List DIBlock) (p : DIPeer) (k : Int) : DIPeer := bif extB t k (lastR p) then thrP t (backP p) (rowAf t k (lastR p)) else p
theorem p_i_Through (t : List DIBlock) (h : TreeB t) (ht : t.length ≤ 1048576) (p : DIPeer) (hp : PeerK p) (k : Int) : Q_i_Through big t p k = some (throughF t p k) := by
  have hrl := hp.row
  rw [Q_i_Through_eq, p_lastRow p hp.b.row, Option.bind_some, p_i_Extends t ht, Option.bind_some]
  unfold throughF
  cases he : extB t k (lastR p) with
  | false =>
    simp only [Bool.not_false, cond_true, cond_false]
    rw [p_clonePeer p hp.b]; rfl
  | true =>
    obtain ⟨f1, f2, f3⟩ := rowAf_facts t k (lastR p)
    obtain ⟨g1, g2⟩ := rowC_B h (rowAf t k (lastR p))
    have hll : List.length p.2.2.2.2.2.1 + (rowAf t k (lastR p)).length ≤ lim := by unfold lim; omega
    simp only [Bool.not_true, cond_true, cond_false]
    rw [p_takenBack p hp, Option.bind_some, Option.bind_some, p_i_RowAfter t ht, Option.bind_some, if_pos (show List.length (backP p).2.2.2.2.2.1 + (rowAf t k (lastR p)).length ≤ lim from hll), p_cmdsOf t h _ (by omega), Option.bind_some,
      show (backP p).2.2.2.2.2.2.1 = backC p from rfl, p_i_DoneAll _ (backC_B hp) _ (Nat.le_trans g1 (Nat.le_trans (Nat.mul_le_mul_right _ (Nat.le_trans f3 ht)) (by decide))) g2]
    rfl
theorem p_s_Through (t : List DIBlock) (h : TreeB t) (ht : t.length ≤ 1048576) (p : DIPeer) (hp : PeerK p) (k : Int) : Q_s_Through big t p k = some (throughF t p k) := by
  rw [Q_s_Through_eq, p_l09Copy p hp.b, Option.bind_some, p_l10Last p hp.b.row, Option.bind_some, p_s_Extends t ht, Option.bind_some]
  unfold throughF
  cases he : extB t k (lastR p) with
  | false => rfl
  | true =>
    obtain ⟨f1, f2, f3⟩ := rowAf_facts t k (lastR p)
    simp only [Bool.not_true, cond_true, cond_false]
    rw [p_l10Back p hp, Option.bind_some, Option.bind_some, p_s_RowAfter t ht, Option.bind_some]
    have := thr_loop t h (rowAf t k (lastR p)) (by omega) f2 big 0 (backP p) (by unfold big; omega) (by omega) (by have := hp.row; show List.length p.2.2.2.2.2.1 ≤ _; omega) (backC_B hp)
    rw [Int.natCast_zero, List.drop_zero] at this
    exact this
theorem throughF_B {t : List DIBlock} (h : TreeB t) (ht : t.length ≤ 1048576) {p : DIPeer} (hp : PeerK p) (k : Int) : PeerB (throughF t p k) := by
  unfold throughF
  cases extB t k (lastR p) with
  | false => exact hp.b
  | true =>
    obtain ⟨f1, f2, f3⟩ := rowAf_facts t k (lastR p)
    obtain ⟨g1, g2⟩ := rowC_B h (rowAf t k (lastR p))
    have hr := hp.row
    refine ⟨?_, (doneL_B _ (backC_B hp) g2).len, by simp [thrP, backP], by simp [thrP, backP], hp.b.votes, hp.b.news⟩
    show (p.2.2.2.2.2.1 ++ rowAf t k (lastR p)).length ≤ 16777216
    rw [List.length_append]; omega

/-! ### What is done too early -/
def earP (t : List DIBlock) (p : DIPeer) (row : List Int) : DIPeer := (p.1, p.2.1, p.2.2.1, p.2.2.2.1, p.2.2.2.2.1, p.2.2.2.2.2.1, doneL p.2.2.2.2.2.2.1 (rowC t row), p.2.2.2.2.2.2.2.1 ++ row, p.2.2.2.2.2.2.2.2.1 ++ undoU p.2.2.2.2.2.2.1 (rowC t row), p.2.2.2.2.2.2.2.2.2)
theorem ear_loop (t : List DIBlock) (h : TreeB t) (row : List Int) (hr : row.length ≤ 1048576) (hm : ∀ y ∈ row, 0 < y ∧ y < t.length) : ∀ (n i : Nat) (p : DIPeer), row.length < n + i → i ≤ row.length → List.length p.2.2.2.2.2.2.2.1 ≤ i → List.length p.2.2.2.2.2.2.2.2.1 + (rowC t (row.drop i)).length ≤ 16777216 → CellsB p.2.2.2.2.2.2.1 →
    R_s_TooEarly_5 n t (i : Int) 0 0 0 0 0 0 0 0 0 0 0 0 0 0 [] [] [] [] [] [] 0 p.1 p.2.1 p.2.2.1.1 p.2.2.1.2.1 p.2.2.1.2.2.1 p.2.2.1.2.2.2.1 p.2.2.2.1.1 p.2.2.2.1.2.1 p.2.2.2.1.2.2.1 p.2.2.2.1.2.2.2.1 p.2.2.2.2.1.1 p.2.2.2.2.1.2.1 p.2.2.2.2.1.2.2.1 p.2.2.2.2.1.2.2.2.1
      p.2.2.2.2.2.1 p.2.2.2.2.2.2.1 p.2.2.2.2.2.2.2.1 p.2.2.2.2.2.2.2.2.1 p.2.2.2.2.2.2.2.2.2.1 p.2.2.2.2.2.2.2.2.2.2.1 p.2.2.2.2.2.2.2.2.2.2.2.1 row = some (earP t p (row.drop i))
  | 0, i, p, h1, h2, _, _, _ => by omega
  | n + 1, i, p, h1, h2, h3, h4, hc => by
    rcases Nat.lt_or_ge i row.length with hi | hi
    · obtain ⟨m1, m2⟩ := hm _ (List.getElem_mem hi)
      have hk : Int.toNat row[i] < t.length := by omega
      have hb := List.getElem_mem hk
      have e : rowC t (row.drop i) = t[Int.toNat row[i]].2.2.1 ++ rowC t (row.drop (i + 1)) := by
        rw [List.drop_eq_getElem_cons hi]
        have hbk : blkC t row[i] = t[Int.toNat row[i]].2.2.1 := by
          unfold blkC
          rw [decide_eq_true (show (0 : Int) ≤ row[i] by omega), cond_true, decide_eq_true (show row[i] ≤ (t.length : Int) - 1 by omega), nth_at hk]; rfl
        rw [← hbk]; rfl
      rw [e, List.length_append] at h4
      have hul : (undoU p.2.2.2.2.2.2.1 t[Int.toNat row[i]].2.2.1).length = List.length t[Int.toNat row[i]].2.2.1 := undoU_length _ _
      rw [R_s_TooEarly_5_eq, decide_eq_true (by omega), cond_true]
      simp only [if_pos (show (0 : Int) ≤ (i : Int) by omega), if_pos (show (i : Int) < (row.length : Int) by omega), Int.toNat_natCast, nth_at hi, Option.bind_some, if_pos (show (0 : Int) ≤ row[i] by omega), nth_at hk]
      rw [p_s_DoneBack _ hc _ (Nat.le_trans (h.cmds _ hb) (by decide)) (h.key _ hb), Option.bind_some, if_pos (by unfold lim; simp only [List.length_singleton]; omega),
        if_pos (show List.length p.2.2.2.2.2.2.2.2.1 + (undoU p.2.2.2.2.2.2.1 t[Int.toNat row[i]].2.2.1).length ≤ lim by unfold lim; omega), wrap_succ (by omega)]
      have ih := ear_loop t h row hr hm n (i + 1) (p.1, p.2.1, p.2.2.1, p.2.2.2.1, p.2.2.2.2.1, p.2.2.2.2.2.1, doneL p.2.2.2.2.2.2.1 t[Int.toNat row[i]].2.2.1, p.2.2.2.2.2.2.2.1 ++ [row[i]], p.2.2.2.2.2.2.2.2.1 ++ undoU p.2.2.2.2.2.2.1 t[Int.toNat row[i]].2.2.1, p.2.2.2.2.2.2.2.2.2) (by omega) (by omega)
        (by simp only [List.length_append, List.length_singleton]; omega) (by rw [List.length_append]; omega) (doneL_B _ hc (h.key _ hb))
      refine Eq.trans ih ?_
      unfold earP
      rw [e, doneL_append, undoU_append]
      dsimp only
      rw [List.append_assoc, List.append_assoc, List.drop_eq_getElem_cons hi]
      rfl
    · have e : i = row.length := by omega
      subst e
      rw [R_s_TooEarly_5_eq, decide_eq_false (by omega), cond_false, List.drop_length]
      unfold earP
      rw [List.append_nil]
      show _ = some (p.1, p.2.1, p.2.2.1, p.2.2.2.1, p.2.2.2.2.1, p.2.2.2.2.2.1, p.2.2.2.2.2.2.1, p.2.2.2.2.2.2.2.1, p.2.2.2.2.2.2.2.2.1 ++ [], p.2.2.2.2.2.2.2.2.2)
      rw [List.append_nil]
def earlyF (t : List DIBlock) (p : DIPeer) (k : Int) : DIPeer := earP t (backP p) (rowAf t k (lastR p))
theorem early_total {t : List DIBlock} (ht : restC t 0 ≤ 1048576) (k u : Int) : (rowC t (rowAf t k u)).length ≤ 1048576 := by
  obtain ⟨f1, f2, f3⟩ := rowAf_facts t k u
  exact Nat.le_trans (row_total t (rowAf t k u) 0 f1 (fun y hy => ⟨by have := f2 y hy; omega, (f2 y hy).2⟩)) ht
theorem p_i_TooEarly (t : List DIBlock) (h : TreeB t) (ht : t.length ≤ 1048576) (hs : restC t 0 ≤ 1048576) (p : DIPeer) (hp : PeerK p) (k : Int) : Q_i_TooEarly big t p k = some (earlyF t p k) := by
  obtain ⟨f1, f2, f3⟩ := rowAf_facts t k (lastR p)
  obtain ⟨g1, g2⟩ := rowC_B h (rowAf t k (lastR p))
  have hl := early_total hs k (lastR p)
  rw [Q_i_TooEarly_eq, p_takenBack p hp, Option.bind_some, p_lastRow p hp.b.row, Option.bind_some, p_i_RowAfter t ht, Option.bind_some, p_cmdsOf t h _ (by omega), Option.bind_some,
    show (backP p).2.2.2.2.2.2.1 = backC p from rfl, p_i_DoneBack _ (backC_B hp) _ (by omega) g2]
  rfl
theorem p_s_TooEarly (t : List DIBlock) (h : TreeB t) (ht : t.length ≤ 1048576) (hs : restC t 0 ≤ 1048576) (p : DIPeer) (hp : PeerK p) (k : Int) : Q_s_TooEarly big t p k = some (earlyF t p k) := by
  obtain ⟨f1, f2, f3⟩ := rowAf_facts t k (lastR p)
  have hl := early_total hs k (lastR p)
  rw [Q_s_TooEarly_eq, p_l09Copy p hp.b, Option.bind_some, p_l10Back p hp, Option.bind_some, p_l10Last p hp.b.row, Option.bind_some, p_s_RowAfter t ht, Option.bind_some]
  have := ear_loop t h (rowAf t k (lastR p)) (by omega) f2 big 0 (backP p) (by unfold big; omega) (by omega) (by simp [backP]) (by rw [List.drop_zero]; show 0 + _ ≤ _; omega) (backC_B hp)
  rw [Int.natCast_zero, List.drop_zero] at this
  exact this
theorem earlyF_B {t : List DIBlock} (h : TreeB t) (ht : t.length ≤ 1048576) (hs : restC t 0 ≤ 1048576) {p : DIPeer} (hp : PeerK p) (k : Int) : PeerB (earlyF t p k) := by
  obtain ⟨f1, f2, f3⟩ := rowAf_facts t k (lastR p)
  obtain ⟨g1, g2⟩ := rowC_B h (rowAf t k (lastR p))
  have hl := early_total hs k (lastR p)
  refine ⟨hp.b.row, (doneL_B _ (backC_B hp) g2).len, ?_, ?_, hp.b.votes, hp.b.news⟩
  · show (([] : List Int) ++ rowAf t k (lastR p)).length ≤ 16777216
    rw [List.nil_append]; omega
  · show (([] : List DIUndo) ++ undoU (backC p) (rowC t (rowAf t k (lastR p)))).length ≤ 16777216
    rw [List.nil_append, undoU_length]; omega

end Go.Sx.Tryz

set_option maxRecDepth 100000
namespace Go.Sx.Tryz
open Go Go.Sx Go.Proofs

/-- a reckoning that takes off so much at least -/
def SzT (q : Option Int) (a : Int) (T : Nat) : Prop := ∃ v, q = some v ∧ v ≤ a ∧ (0 ≤ v → (T : Int) ≤ a - v)
theorem szT_bind {A : Option Int} {K : Int → Option Int} {a : Int} {P Q : Nat} (h : SzT A a P) (h0 : 0 ≤ a) (ha : a ≤ 1048576) (hk : ∀ v, 0 ≤ v → v ≤ 1048576 → SzT (K v) v Q) :
    SzT (A.bind fun y => bif decide (y < (0 : Int)) then some (-1 : Int) else K y) a (P + Q) := by
  obtain ⟨v, h1, h2, h3⟩ := h
  rw [h1]
  simp only [Option.bind_some]
  by_cases hv : v < 0
  · rw [decide_eq_true hv]
    exact ⟨-1, rfl, by omega, fun h => by omega⟩
  · rw [decide_eq_false hv]
    obtain ⟨w, k1, k2, k3⟩ := hk v (by omega) (by omega)
    exact ⟨w, k1, by omega, fun h => by have := h3 (by omega); have := k3 h; omega⟩
theorem szT_end {v : Int} : SzT (some v) v 0 := ⟨v, rfl, Int.le_refl _, fun _ => by omega⟩
theorem szR_t {q : Option Int} {a : Int} {P : Prop} (h : SzR q a P) : SzT q a 0 := by
  obtain ⟨v, h1, h2, _⟩ := h
  exact ⟨v, h1, h2, fun _ => by omega⟩
theorem SzT.le {q : Option Int} {a : Int} {T T' : Nat} (h : SzT q a T) (hl : T' ≤ T) : SzT q a T' := by
  obtain ⟨v, h1, h2, h3⟩ := h
  exact ⟨v, h1, h2, fun h => by have := h3 h; omega⟩
theorem szT_loop {α : Type} {T : α → Nat} {qe : α → Int → Option Int} {xs : List α} {r : Nat → Int → Int → Option Int}
    (hr : ∀ n a i, r (n + 1) a i = bif decide (i < (xs.length : Int)) then (if (0 : Int) ≤ i then (nth xs i.toNat).bind fun y => (qe y a).bind fun v => bif decide (v < (0 : Int)) then some (-1 : Int) else
      r n v (IntKind.wrap .i64 (i + 1)) else none) else some a)
    (he : ∀ y ∈ xs, ∀ a, 0 ≤ a → a ≤ 1048576 → SzT (qe y a) a (T y)) (hl : xs.length ≤ 1048576) : ∀ (n k : Nat) (a : Int), 0 ≤ a → a ≤ 1048576 → xs.length < n + k → k ≤ xs.length → SzT (r n a k) a ((xs.drop k).map T).sum
  | 0, k, a, _, _, h, h2 => by omega
  | n + 1, k, a, h0, h1, h, h2 => by
    rw [hr]
    rcases Nat.lt_or_ge k xs.length with hk | hk
    · rw [show decide ((k : Int) < (xs.length : Int)) = true by simpa using hk]
      simp only [cond_true, if_pos (Int.natCast_nonneg k), Int.toNat_natCast]
      rw [nth_at hk]
      simp only [Option.bind_some]
      rw [wrap_succ (by omega), List.drop_eq_getElem_cons hk, List.map_cons, List.sum_cons]
      exact szT_bind (he _ (List.getElem_mem hk) a h0 h1) h0 h1 fun v k1 k2 => szT_loop hr he hl n (k + 1) v k1 k2 (by omega) (by omega)
    · rw [show decide ((k : Int) < (xs.length : Int)) = false by simp; omega, List.drop_eq_nil_of_le hk]
      exact szT_end
theorem szT_list {α : Type} {T : α → Nat} {qe : α → Int → Option Int} {xs : List α} {r : Nat → Int → Int → Option Int} {n : Nat} {a : Int} {q : Option Int} (hw : xs.length ≤ maxLen) (h0 : 0 ≤ a) (h1 : a ≤ 1048576)
    (hq : q = bif decide (IntKind.wrap .i64 (a - (xs.length : Int)) < (0 : Int)) then some (-1 : Int) else r n (IntKind.wrap .i64 (a - (xs.length : Int))) 0)
    (hr : ∀ n a i, r (n + 1) a i = bif decide (i < (xs.length : Int)) then (if (0 : Int) ≤ i then (nth xs i.toNat).bind fun y => (qe y a).bind fun v => bif decide (v < (0 : Int)) then some (-1 : Int) else
      r n v (IntKind.wrap .i64 (i + 1)) else none) else some a)
    (he : ∀ y ∈ xs, ∀ a, 0 ≤ a → a ≤ 1048576 → SzT (qe y a) a (T y)) (hn : 1048576 < n) : SzT q a (xs.length + (xs.map T).sum) := by
  unfold maxLen at hw
  have e : IntKind.wrap .i64 (a - (xs.length : Int)) = a - xs.length := wrap64 (by omega) (by omega)
  rw [hq, e]
  by_cases hv : a - (xs.length : Int) < 0
  · rw [decide_eq_true hv]
    exact ⟨-1, rfl, by omega, fun h => by omega⟩
  · rw [decide_eq_false hv]
    have := szT_loop hr he (by omega) n 0 (a - xs.length) (by omega) (by omega) (by omega) (by omega)
    rw [Int.natCast_zero, List.drop_zero] at this
    obtain ⟨w, k1, k2, k3⟩ := this
    exact ⟨w, k1, by omega, fun h => by have := k3 h; omega⟩
theorem szCmdST (x : DSlLCmd) (a : Int) (hw : WfD tSlLCmd x) (h0 : 0 ≤ a) (h1 : a ≤ 1048576) : SzT (Q_l_szCmdS big x a) a (List.length x) :=
  (szT_list (T := fun _ => 0) (qe := fun y a => Q_l_szCmd big y a) (r := fun n a i => R_l_szCmdS_5 n x a i) (n := big) hw.1 h0 h1 (Q_l_szCmdS_eq big x a) (fun n a i => R_l_szCmdS_5_eq n x a i) (fun y hy a h0 h1 => szR_t (szCmdR y a (hw.2 y hy) h0 h1)) (by decide)).le (Nat.le_add_right _ _)
theorem szBlockT (x : DLBlock) (a : Int) (hw : WfD tLBlock x) (h0 : 0 ≤ a) (h1 : a ≤ 1048576) : SzT (Q_l_szBlock big x a) a (List.length x.2.2.1) := by
  rw [Q_l_szBlock_eq]
  exact (szT_bind (Q := 0) (szCmdST x.2.2.1 a hw.2.2.1 h0 h1) h0 h1 (fun v _ _ => szT_end)).le (Nat.le_add_right _ _)
theorem szTreeR (x : DSlLBlock) (hw : WfD tSlLBlock x) : SzR (Q_l_szBlockS big x 1048576) 1048576 (restC x 0 ≤ 1048576) := by
  obtain ⟨v, h1, h2, h3⟩ := szT_list (T := fun y : DLBlock => List.length y.2.2.1) (qe := fun y a => Q_l_szBlock big y a) (r := fun n a i => R_l_szBlockS_5 n x a i) (n := big) hw.1 (show (0 : Int) ≤ 1048576 by decide) (by decide) (Q_l_szBlockS_eq big x 1048576) (fun n a i => R_l_szBlockS_5_eq n x a i) (fun y hy a h0 h1 => szBlockT y a (hw.2 y hy) h0 h1) (by decide)
  refine ⟨v, h1, h2, fun h => ?_⟩
  have := h3 h
  unfold restC
  rw [List.drop_zero]
  have e : (List.map (fun b : DIBlock => List.length b.2.2.1) x).sum = (List.map (fun y : DLBlock => List.length y.2.2.1) x).sum := rfl
  rw [e]
  omega

theorem szCellR (x : DLCell) (a : Int) (hw : WfD tLCell x) (h0 : 0 ≤ a) (h1 : a ≤ 1048576) : SzR (Q_l_szCell big x a) a (ByteArray.size x.1 ≤ 1048576) := by
  have hm : ByteArray.size x.1 ≤ 9223372036854775807 := hw.1
  rw [Q_l_szCell_eq, wrap64 (by omega) (by omega)]
  by_cases c : a - (ByteArray.size x.1 : Int) < 0
  · rw [decide_eq_true c]; exact ⟨-1, rfl, by omega, fun h => by omega⟩
  · rw [decide_eq_false c]; exact ⟨_, rfl, by omega, fun h => by omega⟩
theorem szCellSR (x : DSlLCell) (a : Int) (hw : WfD tSlLCell x) (h0 : 0 ≤ a) (h1 : a ≤ 1048576) : SzR (Q_l_szCellS big x a) a (List.length x ≤ 1048576 ∧ ∀ y ∈ x, ByteArray.size y.1 ≤ 1048576) :=
  szR_list (qe := fun y a => Q_l_szCell big y a) (r := fun n a i => R_l_szCellS_5 n x a i) (n := big) hw.1 h0 h1 (Q_l_szCellS_eq big x a) (fun n a i => R_l_szCellS_5_eq n x a i) (fun y hy a h0 h1 => szCellR y a (hw.2 y hy) h0 h1) (by decide)
theorem szUndoR (x : DLUndo) (a : Int) (hw : WfD tLUndo x) (h0 : 0 ≤ a) (h1 : a ≤ 1048576) : SzR (Q_l_szUndo big x a) a (ByteArray.size x.1 ≤ 1048576) := by
  have hm : ByteArray.size x.1 ≤ 9223372036854775807 := hw.1
  rw [Q_l_szUndo_eq, wrap64 (by omega) (by omega)]
  by_cases c : a - (ByteArray.size x.1 : Int) < 0
  · rw [decide_eq_true c]; exact ⟨-1, rfl, by omega, fun h => by omega⟩
  · rw [decide_eq_false c]; exact ⟨_, rfl, by omega, fun h => by omega⟩
theorem szUndoSR (x : DSlLUndo) (a : Int) (hw : WfD tSlLUndo x) (h0 : 0 ≤ a) (h1 : a ≤ 1048576) : SzR (Q_l_szUndoS big x a) a (List.length x ≤ 1048576 ∧ ∀ y ∈ x, ByteArray.size y.1 ≤ 1048576) :=
  szR_list (qe := fun y a => Q_l_szUndo big y a) (r := fun n a i => R_l_szUndoS_5 n x a i) (n := big) hw.1 h0 h1 (Q_l_szUndoS_eq big x a) (fun n a i => R_l_szUndoS_5_eq n x a i) (fun y hy a h0 h1 => szUndoR y a (hw.2 y hy) h0 h1) (by decide)
theorem szPeerR (x : DLPeer) (a : Int) (hw : WfD tLPeer x) (h0 : 0 ≤ a) (h1 : a ≤ 1048576) : SzR (Q_l_szPeer big x a) a ((∀ y ∈ x.2.2.2.2.2.2.1, ByteArray.size y.1 ≤ 1048576) ∧ ∀ y ∈ x.2.2.2.2.2.2.2.2.1, ByteArray.size y.1 ≤ 1048576) := by
  rw [Q_l_szPeer_eq]
  exact (szR_bind (pszIntS _ a hw.2.2.2.2.2.1 h0 h1) h0 h1 fun v1 p1 q1 => szR_bind (szCellSR _ v1 hw.2.2.2.2.2.2.1 p1 q1) p1 q1 fun v2 p2 q2 => szR_bind (pszIntS _ v2 hw.2.2.2.2.2.2.2.1 p2 q2) p2 q2 fun v3 p3 q3 =>
    szR_bind (szUndoSR _ v3 hw.2.2.2.2.2.2.2.2.1 p3 q3) p3 q3 fun v4 p4 q4 => szR_bind (pszVoteS _ v4 hw.2.2.2.2.2.2.2.2.2.1 p4 q4) p4 q4 fun v5 p5 q5 => szR_bind (pszLetterS _ v5 hw.2.2.2.2.2.2.2.2.2.2.1 p5 q5) p5 q5 fun v6 _ _ => szR_end).imp
    fun h => ⟨h.2.1.2, h.2.2.2.1.2⟩
theorem law_sz3 {q : Option Int} {a : Int} {P : Prop} {K : Int → Option Bool} (h : SzR q a P) (hk : P → ∀ v, 0 ≤ v → v ≤ a → K v = some true) : (q.bind fun y => bif decide (y < (0 : Int)) then some true else K y) = some true := by
  obtain ⟨v, h1, h2, h3⟩ := h
  rw [h1]
  simp only [Option.bind_some]
  by_cases hv : v < 0
  · rw [decide_eq_true hv]; rfl
  · rw [decide_eq_false hv]
    exact hk (h3 (by omega)) v (by omega) h2

end Go.Sx.Tryz

set_option maxRecDepth 100000
namespace Go.Sx.Tryz
open Go Go.Sx Go.Proofs

set_option maxHeartbeats 4000000 in
theorem law_TooEarly (t : DSlLBlock) (p : DLPeer) (k : Int) (hw : WfD tSlLBlock t) (hp : WfD tLPeer p) : Q_l_FnExactTooEarly big t p k = some true := by
  rw [Q_l_FnExactTooEarly_eq]
  refine law_sz3 (SzR.both (SzR.both (pszBlockS t 1048576 hw (by decide) (by decide)) (szBlockSR t 1048576 hw (by decide) (by decide))) (szTreeR t hw)) fun hb2 v v0 v1 => ?_
  obtain ⟨⟨hb, hs1, hs2⟩, hs3⟩ := hb2
  refine law_sz3 (SzR.both (pszPeer p v hp v0 v1) (szPeerR p v hp v0 v1)) fun hb3 _ _ _ => ?_
  obtain ⟨hbp, hk1, hk2⟩ := hb3
  have hbt : Bg tSlIBlock t := Bg_of (t := tSlIBlock) hb
  have h1 : List.length t ≤ 16777216 := hbt.1
  have h2 : ∀ y ∈ (t : List DIBlock), List.length y.2.2.1 ≤ 16777216 := fun y hy => (hbt.2 y hy).2.2.1.1
  have hT : TreeB t := ⟨h1, fun y hy => (hs2 y hy).1, fun y hy => (hs2 y hy).2⟩
  have h3 : PeerB p := PeerB.of (Bg_of (t := tIPeer) hbp)
  have hrow : List.length p.2.2.2.2.2.1 ≤ 1048576 := hbp.2.2.2.2.2.1.1
  have hK : PeerK p := ⟨h3, hrow, hk1, hk2⟩
  have e1 := p_i_TooEarly t hT hs1 hs3 p hK k
  have e2 := p_s_TooEarly t hT hs1 hs3 p hK k
  have hr := earlyF_B hT hs1 hs3 hK k
  generalize earlyF t p k = r at e1 e2 hr
  obtain ⟨k1, b1, m1, l1, u1⟩ := mo_BlockS h1 h2 (k := 1) (by decide) (by decide)
  obtain ⟨k2, y2, m2, l2, u2, _⟩ := mh_Peer h3 (k := k1) (by omega) (by omega)
  obtain ⟨k5, y5, m5, l5, u5, g5⟩ := mh_Peer hr (k := 1) (by decide) (by decide)
  simp (maxSteps := 20000000) (disch := omega) only [ptoBlockS t hb, ptoPeer p hbp, e1, e2, Option.bind_some, peqPeer _ hr.bg, peqBlockS _ hbt, peqPeer _ h3.bg, m1, m2, m5, g5, not_neg, Bool.not_true, cond_false, decide_true]

end Go.Sx.Tryz
