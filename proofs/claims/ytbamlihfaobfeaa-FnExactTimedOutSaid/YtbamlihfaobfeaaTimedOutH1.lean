/- The helpers of the laws. -/
import Derived.Test.YtbamlihfaobfeaaM9
import Derived.Test.YtbamlihfaobfeaaTimedOutF1
import Derived.Test.YtbamlihfaobfeaaTypes
set_option linter.unusedVariables false
set_option linter.unusedSimpArgs false
set_option maxRecDepth 100000
namespace Go.Sx.Try
open Go Go.Sx Go.Proofs

theorem pszIntS (x : DSlInt) (a : Int) (hw : WfD tSlInt x) (h0 : 0 ≤ a) (h1 : a ≤ 1048576) : SzR (Q_l_szIntS big x a) a (Bd tSlInt x) := by
  rw [Q_l_szIntS_eq]
  exact (szR_len (K := some) hw.1 h0 h1 fun v _ _ _ => szR_end).imp fun h => ⟨h.1, fun y _ => Bd_flat rfl y⟩

theorem pszCell (x : DLCell) (a : Int) (hw : WfD tLCell x) (h0 : 0 ≤ a) (h1 : a ≤ 1048576) : SzR (Q_l_szCell big x a) a (Bd tLCell x) := by
  rw [Q_l_szCell_eq]
  exact (szR_len (K := some) (hw.1) h0 h1 fun v0 k0 l0 _ => szR_end).imp fun h => (Bd_flat rfl _)

theorem pszCellS (x : DSlLCell) (a : Int) (hw : WfD tSlLCell x) (h0 : 0 ≤ a) (h1 : a ≤ 1048576) : SzR (Q_l_szCellS big x a) a (Bd tSlLCell x) := 
  szR_list (qe := fun y a => Q_l_szCell big y a) (r := fun n a i => R_l_szCellS_5 n x a i) (n := big) hw.1 h0 h1 (Q_l_szCellS_eq big x a) (fun n a i => R_l_szCellS_5_eq n x a i) (fun y hy a h0 h1 => pszCell y a (hw.2 y hy) h0 h1) (by decide)

theorem pszUndo (x : DLUndo) (a : Int) (hw : WfD tLUndo x) (h0 : 0 ≤ a) (h1 : a ≤ 1048576) : SzR (Q_l_szUndo big x a) a (Bd tLUndo x) := by
  rw [Q_l_szUndo_eq]
  exact (szR_len (K := some) (hw.1) h0 h1 fun v0 k0 l0 _ => szR_end).imp fun h => (Bd_flat rfl _)

theorem pszUndoS (x : DSlLUndo) (a : Int) (hw : WfD tSlLUndo x) (h0 : 0 ≤ a) (h1 : a ≤ 1048576) : SzR (Q_l_szUndoS big x a) a (Bd tSlLUndo x) := 
  szR_list (qe := fun y a => Q_l_szUndo big y a) (r := fun n a i => R_l_szUndoS_5 n x a i) (n := big) hw.1 h0 h1 (Q_l_szUndoS_eq big x a) (fun n a i => R_l_szUndoS_5_eq n x a i) (fun y hy a h0 h1 => pszUndo y a (hw.2 y hy) h0 h1) (by decide)

theorem pszVoteS (x : DSlLVote) (a : Int) (hw : WfD tSlLVote x) (h0 : 0 ≤ a) (h1 : a ≤ 1048576) : SzR (Q_l_szVoteS big x a) a (Bd tSlLVote x) := by
  rw [Q_l_szVoteS_eq]
  exact (szR_len (K := some) hw.1 h0 h1 fun v _ _ _ => szR_end).imp fun h => ⟨h.1, fun y _ => Bd_flat rfl y⟩

theorem pszLetterS (x : DSlLLetter) (a : Int) (hw : WfD tSlLLetter x) (h0 : 0 ≤ a) (h1 : a ≤ 1048576) : SzR (Q_l_szLetterS big x a) a (Bd tSlLLetter x) := by
  rw [Q_l_szLetterS_eq]
  exact (szR_len (K := some) hw.1 h0 h1 fun v _ _ _ => szR_end).imp fun h => ⟨h.1, fun y _ => Bd_flat rfl y⟩

theorem pszPeer (x : DLPeer) (a : Int) (hw : WfD tLPeer x) (h0 : 0 ≤ a) (h1 : a ≤ 1048576) : SzR (Q_l_szPeer big x a) a (Bd tLPeer x) := by
  rw [Q_l_szPeer_eq]
  exact (szR_bind (pszIntS _ _ (hw.2.2.2.2.2.1) h0 h1) h0 h1 fun v0 k0 l0 => szR_bind (pszCellS _ _ (hw.2.2.2.2.2.2.1) k0 l0) k0 l0 fun v1 k1 l1 => szR_bind (pszIntS _ _ (hw.2.2.2.2.2.2.2.1) k1 l1) k1 l1 fun v2 k2 l2 => szR_bind (pszUndoS _ _ (hw.2.2.2.2.2.2.2.2.1) k2 l2) k2 l2 fun v3 k3 l3 => szR_bind (pszVoteS _ _ (hw.2.2.2.2.2.2.2.2.2.1) k3 l3) k3 l3 fun v4 k4 l4 => szR_bind (pszLetterS _ _ (hw.2.2.2.2.2.2.2.2.2.2.1) k4 l4) k4 l4 fun v5 k5 l5 => szR_end).imp fun h => ⟨(Bd_flat rfl _), (Bd_flat rfl _), (Bd_flat rfl _), (Bd_flat rfl _), (Bd_flat rfl _), h.1, h.2.1, h.2.2.1, h.2.2.2.1, h.2.2.2.2.1, h.2.2.2.2.2.1, (Bd_flat rfl _), trivial⟩

theorem ptoQc (x : DLQc) (h : Bd tLQc x) : Q_l_toQc big x = some x := by
  rw [Q_l_toQc_eq]

theorem ptoVote (x : DLVote) (h : Bd tLVote x) : Q_l_toVote big x = some x := by
  rw [Q_l_toVote_eq]

theorem ptoIntS (x : DSlInt) (h : Bd tSlInt x) : Q_l_toIntS big x = some x := by
  have := copy_ok (g := fun y => some y) (f := fun y => y) (r := fun n i b => R_l_toIntS_3 n x i b) (n := big) (Q_l_toIntS_eq big x) (fun n i b => R_l_toIntS_3_eq n x i b) (fun _ _ => rfl) (Nat.le_trans h.1 (by decide)) (by decide)
  simpa using this

theorem ptoCell (x : DLCell) (h : Bd tLCell x) : Q_l_toCell big x = some x := by
  rw [Q_l_toCell_eq]

theorem ptoCellS (x : DSlLCell) (h : Bd tSlLCell x) : Q_l_toCellS big x = some x := by
  have := copy_ok (g := fun y => some y) (f := fun y => y) (r := fun n i b => R_l_toCellS_3 n x i b) (n := big) (Q_l_toCellS_eq big x) (fun n i b => R_l_toCellS_3_eq n x i b) (fun _ _ => rfl) (Nat.le_trans h.1 (by decide)) (by decide)
  simpa using this

theorem ptoUndo (x : DLUndo) (h : Bd tLUndo x) : Q_l_toUndo big x = some x := by
  rw [Q_l_toUndo_eq]

theorem ptoUndoS (x : DSlLUndo) (h : Bd tSlLUndo x) : Q_l_toUndoS big x = some x := by
  have := copy_ok (g := fun y => some y) (f := fun y => y) (r := fun n i b => R_l_toUndoS_3 n x i b) (n := big) (Q_l_toUndoS_eq big x) (fun n i b => R_l_toUndoS_3_eq n x i b) (fun _ _ => rfl) (Nat.le_trans h.1 (by decide)) (by decide)
  simpa using this

theorem ptoVoteS (x : DSlLVote) (h : Bd tSlLVote x) : Q_l_toVoteS big x = some x := by
  have := copy_ok (g := fun y => some y) (f := fun y => y) (r := fun n i b => R_l_toVoteS_3 n x i b) (n := big) (Q_l_toVoteS_eq big x) (fun n i b => R_l_toVoteS_3_eq n x i b) (fun _ _ => rfl) (Nat.le_trans h.1 (by decide)) (by decide)
  simpa using this

theorem ptoLetter (x : DLLetter) (h : Bd tLLetter x) : Q_l_toLetter big x = some x := by
  rw [Q_l_toLetter_eq]

theorem ptoLetterS (x : DSlLLetter) (h : Bd tSlLLetter x) : Q_l_toLetterS big x = some x := by
  have := copy_ok (g := fun y => some y) (f := fun y => y) (r := fun n i b => R_l_toLetterS_3 n x i b) (n := big) (Q_l_toLetterS_eq big x) (fun n i b => R_l_toLetterS_3_eq n x i b) (fun _ _ => rfl) (Nat.le_trans h.1 (by decide)) (by decide)
  simpa using this

theorem ptoPeer (x : DLPeer) (h : Bd tLPeer x) : Q_l_toPeer big x = some x := by
  rw [Q_l_toPeer_eq, ptoIntS _ (h.2.2.2.2.2.1), ptoCellS _ (h.2.2.2.2.2.2.1), ptoIntS _ (h.2.2.2.2.2.2.2.1), ptoUndoS _ (h.2.2.2.2.2.2.2.2.1), ptoVoteS _ (h.2.2.2.2.2.2.2.2.2.1), ptoLetterS _ (h.2.2.2.2.2.2.2.2.2.2.1)]
  rfl

theorem peqQc (x : DIQc) (h : Bg tIQc x) : Q_l_eqQc big x x = some true := by
  rw [Q_l_eqQc_eq]
  simp only [decide_true, Bool.not_true, cond_false]

theorem peqVote (x : DIVote) (h : Bg tIVote x) : Q_l_eqVote big x x = some true := by
  rw [Q_l_eqVote_eq]
  simp only [decide_true, Bool.not_true, cond_false]

theorem peqIntS (x : DSlInt) (h : Bg tSlInt x) : Q_l_eqIntS big x x = some true := 
  eq_ok (e := fun y y1 => some (decide (y = y1))) (r := fun n i => R_l_eqIntS_4 n x x i) (n := big) (Q_l_eqIntS_eq big x x) (fun n i => R_l_eqIntS_4_eq n x x i) (fun y _ => by simp) h.1 (by decide)

theorem peqCell (x : DICell) (h : Bg tICell x) : Q_l_eqCell big x x = some true := by
  rw [Q_l_eqCell_eq]
  simp only [decide_true, Bool.not_true, cond_false]

theorem peqCellS (x : DSlICell) (h : Bg tSlICell x) : Q_l_eqCellS big x x = some true := 
  eq_ok (e := fun y y1 => Q_l_eqCell big y y1) (r := fun n i => R_l_eqCellS_4 n x x i) (n := big) (Q_l_eqCellS_eq big x x) (fun n i => R_l_eqCellS_4_eq n x x i) (fun y hy => peqCell y (h.2 y hy)) h.1 (by decide)

theorem peqUndo (x : DIUndo) (h : Bg tIUndo x) : Q_l_eqUndo big x x = some true := by
  rw [Q_l_eqUndo_eq]
  simp only [decide_true, beq_self_eq_true, Bool.not_true, cond_false]

theorem peqUndoS (x : DSlIUndo) (h : Bg tSlIUndo x) : Q_l_eqUndoS big x x = some true := 
  eq_ok (e := fun y y1 => Q_l_eqUndo big y y1) (r := fun n i => R_l_eqUndoS_4 n x x i) (n := big) (Q_l_eqUndoS_eq big x x) (fun n i => R_l_eqUndoS_4_eq n x x i) (fun y hy => peqUndo y (h.2 y hy)) h.1 (by decide)

theorem peqVoteS (x : DSlIVote) (h : Bg tSlIVote x) : Q_l_eqVoteS big x x = some true := 
  eq_ok (e := fun y y1 => Q_l_eqVote big y y1) (r := fun n i => R_l_eqVoteS_4 n x x i) (n := big) (Q_l_eqVoteS_eq big x x) (fun n i => R_l_eqVoteS_4_eq n x x i) (fun y hy => peqVote y (h.2 y hy)) h.1 (by decide)

theorem peqLetter (x : DILetter) (h : Bg tILetter x) : Q_l_eqLetter big x x = some true := by
  rw [Q_l_eqLetter_eq]
  simp only [decide_true, Bool.not_true, cond_false, Option.bind_some, peqQc _ (h.2.2.2.2.2.1), peqVote _ (h.2.2.2.2.2.2.1)]

theorem peqLetterS (x : DSlILetter) (h : Bg tSlILetter x) : Q_l_eqLetterS big x x = some true := 
  eq_ok (e := fun y y1 => Q_l_eqLetter big y y1) (r := fun n i => R_l_eqLetterS_4 n x x i) (n := big) (Q_l_eqLetterS_eq big x x) (fun n i => R_l_eqLetterS_4_eq n x x i) (fun y hy => peqLetter y (h.2 y hy)) h.1 (by decide)

theorem peqPeer (x : DIPeer) (h : Bg tIPeer x) : Q_l_eqPeer big x x = some true := by
  rw [Q_l_eqPeer_eq]
  simp only [decide_true, Bool.not_true, cond_false, Option.bind_some, peqQc _ (h.2.2.1), peqQc _ (h.2.2.2.1), peqVote _ (h.2.2.2.2.1), peqIntS _ (h.2.2.2.2.2.1), peqCellS _ (h.2.2.2.2.2.2.1), peqIntS _ (h.2.2.2.2.2.2.2.1), peqUndoS _ (h.2.2.2.2.2.2.2.2.1), peqVoteS _ (h.2.2.2.2.2.2.2.2.2.1), peqLetterS _ (h.2.2.2.2.2.2.2.2.2.2.1)]

end Go.Sx.Try

set_option maxRecDepth 100000
namespace Go.Sx.Try
open Go Go.Sx Go.Proofs

theorem text_ex : ∀ (n : Nat) (f : Nat) (k : Int) (s : ByteArray), n < f → 0 ≤ k → k ≤ 4611686018427387904 → k < 2 ^ n → s.size + n ≤ 100 → ∃ t, R_l_markText_4 f k s = some t
  | n, 0, k, s, h, _, _, _, _ => by omega
  | n, f + 1, k, s, h1, h2, h2', h3, h4 => by
    rw [R_l_markText_4_eq]
    by_cases hk : (0 : Int) < k
    · rw [decide_eq_true hk]
      simp only [cond_true]
      cases n with
      | zero => simp at h3; omega
      | succ n =>
        have hsz : ∀ x : Int, (ByteArray.mk (List.map (fun n => UInt8.ofNat (Int.toNat n)) [x]).toArray).size = 1 := fun _ => rfl
        rw [if_pos (by rw [hsz]; simp only [lim]; omega)]
        have h5 : Int.tdiv k 10 = k / 10 := by rw [Int.tdiv_eq_ediv_of_nonneg h2]
        rw [h5, wrap64 (n := k / 10) (by omega) (by omega)]
        exact text_ex n f (k / 10) _ (by omega) (by omega) (by omega) (by
          have : (2 : Int) ^ (n + 1) = 2 * 2 ^ n := by rw [Int.pow_succ]; omega
          omega) (by rw [ByteArray.size_append, hsz]; omega)
    · rw [decide_eq_false hk]
      simp only [cond_false]
      have hsz : (ByteArray.mk #[(109 : UInt8)]).size = 1 := rfl
      rw [if_pos (by rw [hsz]; simp only [lim]; omega)]
      exact ⟨_, rfl⟩
/-- the text of a mark -/
noncomputable def mt (k : Int) : ByteArray := (Q_l_markText big k).getD ByteArray.empty
theorem pmt {k : Int} (h1 : 0 < k) (h2 : k ≤ 4611686018427387904) : Q_l_markText big k = some (mt k) := by
  have : ∃ t, Q_l_markText big k = some t := by
    rw [Q_l_markText_eq, decide_eq_false (show ¬ k ≤ 0 by omega)]
    simp only [cond_false]
    exact text_ex 63 big k _ (by decide) (by omega) (by omega) (by omega) (by decide)
  obtain ⟨t, ht⟩ := this
  unfold mt
  rw [ht]; rfl

theorem mh_IntS {xs : List Int} (hl : xs.length ≤ 16777216) {k : Int} (hk : 0 < k) (hM : k + 16777216 * 1 ≤ 4611686018427387904) :
    ∃ (k' : Int) (b' : List Int), Q_l_markIntS big xs k = some (k', b', ()) ∧ Q_l_heldIntS big b' k = some k' ∧ k ≤ k' ∧ k' ≤ k + 16777216 * 1 := by
  simp only [Q_l_markIntS_eq, Q_l_heldIntS_eq]
  refine mh_list (xs := xs) (W := 1) (B := fun _ => True) (r := fun n k i b => R_l_markIntS_2 n k i b) (s := fun n b k i => R_l_heldIntS_2 n b k i) (n := big) (by decide) (fun k i b hi _ h1 h2 h3 => ?_) (fun n k b => ?_) (fun n k b => ?_) (by decide) hl (fun _ _ => trivial) hk (by omega)
  · have h4 : (i : Int) < (b.length : Int) := by omega
    refine ⟨(k : Int), k + 1, by omega, by omega, fun n => ?_, fun m b' hb' => ?_⟩
    · rw [R_l_markIntS_2_eq, decide_eq_true h4]
      simp only [cond_true, mk1 hi, mk2 hi]
      simp (disch := omega) only [wrap64, pmt, Option.bind_some, mk1 hi, mk2 hi]
    · have h5 : (i : Int) < (b'.length : Int) := by have := nth_lt hb'; omega
      simp (disch := omega) only [R_l_heldIntS_2_eq, h5, decide_true, cond_true, Int.natCast_nonneg, if_true, Int.toNat_natCast, hb', Option.bind_some, wrap64, Bool.not_true, cond_false, pmt, beq_self_eq_true]
  · simp only [R_l_markIntS_2_eq, Int.lt_irrefl, decide_false, cond_false]
  · simp only [R_l_heldIntS_2_eq, Int.lt_irrefl, decide_false, cond_false]
theorem mh_CellS {xs : List DICell} (hl : xs.length ≤ 16777216) {k : Int} (hk : 0 < k) (hM : k + 16777216 * 2 ≤ 4611686018427387904) :
    ∃ (k' : Int) (b' : List DICell), Q_l_markCellS big xs k = some (k', b', ()) ∧ Q_l_heldCellS big b' k = some k' ∧ k ≤ k' ∧ k' ≤ k + 16777216 * 2 := by
  simp only [Q_l_markCellS_eq, Q_l_heldCellS_eq]
  refine mh_list (xs := xs) (W := 2) (B := fun _ => True) (r := fun n k i b => R_l_markCellS_2 n k i b) (s := fun n b k i => R_l_heldCellS_2 n b k i) (n := big) (by decide) (fun k i b hi _ h1 h2 h3 => ?_) (fun n k b => ?_) (fun n k b => ?_) (by decide) hl (fun _ _ => trivial) hk (by omega)
  · have h4 : (i : Int) < (b.length : Int) := by omega
    refine ⟨((mt k, k + 1, ()) : DICell), k + 1 + 1, by omega, by omega, fun n => ?_, fun m b' hb' => ?_⟩
    · rw [R_l_markCellS_2_eq, decide_eq_true h4]
      simp only [cond_true, mk1 hi, mk2 hi]
      simp (disch := omega) only [wrap64, pmt, Option.bind_some, mk1 hi, mk2 hi]
    · have h5 : (i : Int) < (b'.length : Int) := by have := nth_lt hb'; omega
      simp (disch := omega) only [R_l_heldCellS_2_eq, h5, decide_true, cond_true, Int.natCast_nonneg, if_true, Int.toNat_natCast, hb', Option.bind_some, wrap64, Bool.not_true, cond_false, pmt, beq_self_eq_true]
  · simp only [R_l_markCellS_2_eq, Int.lt_irrefl, decide_false, cond_false]
  · simp only [R_l_heldCellS_2_eq, Int.lt_irrefl, decide_false, cond_false]
theorem mh_UndoS {xs : List DIUndo} (hl : xs.length ≤ 16777216) {k : Int} (hk : 0 < k) (hM : k + 16777216 * 3 ≤ 4611686018427387904) :
    ∃ (k' : Int) (b' : List DIUndo), Q_l_markUndoS big xs k = some (k', b', ()) ∧ Q_l_heldUndoS big b' k = some k' ∧ k ≤ k' ∧ k' ≤ k + 16777216 * 3 := by
  simp only [Q_l_markUndoS_eq, Q_l_heldUndoS_eq]
  refine mh_list (xs := xs) (W := 3) (B := fun _ => True) (r := fun n k i b => R_l_markUndoS_2 n k i b) (s := fun n b k i => R_l_heldUndoS_2 n b k i) (n := big) (by decide) (fun k i b hi _ h1 h2 h3 => ?_) (fun n k b => ?_) (fun n k b => ?_) (by decide) hl (fun _ _ => trivial) hk (by omega)
  · have h4 : (i : Int) < (b.length : Int) := by omega
    refine ⟨((mt k, decide ((k + 1).tmod 3 = 0), k + 1 + 1, ()) : DIUndo), k + 1 + 1 + 1, by omega, by omega, fun n => ?_, fun m b' hb' => ?_⟩
    · rw [R_l_markUndoS_2_eq, decide_eq_true h4]
      simp only [cond_true, mk1 hi, mk2 hi]
      simp (disch := omega) only [wrap64, pmt, Option.bind_some, mk1 hi, mk2 hi]
    · have h5 : (i : Int) < (b'.length : Int) := by have := nth_lt hb'; omega
      simp (disch := omega) only [R_l_heldUndoS_2_eq, h5, decide_true, cond_true, Int.natCast_nonneg, if_true, Int.toNat_natCast, hb', Option.bind_some, wrap64, Bool.not_true, cond_false, pmt, beq_self_eq_true]
  · simp only [R_l_markUndoS_2_eq, Int.lt_irrefl, decide_false, cond_false]
  · simp only [R_l_heldUndoS_2_eq, Int.lt_irrefl, decide_false, cond_false]
theorem mh_VoteS {xs : List DIVote} (hl : xs.length ≤ 16777216) {k : Int} (hk : 0 < k) (hM : k + 16777216 * 4 ≤ 4611686018427387904) :
    ∃ (k' : Int) (b' : List DIVote), Q_l_markVoteS big xs k = some (k', b', ()) ∧ Q_l_heldVoteS big b' k = some k' ∧ k ≤ k' ∧ k' ≤ k + 16777216 * 4 := by
  simp only [Q_l_markVoteS_eq, Q_l_heldVoteS_eq]
  refine mh_list (xs := xs) (W := 4) (B := fun _ => True) (r := fun n k i b => R_l_markVoteS_2 n k i b) (s := fun n b k i => R_l_heldVoteS_2 n b k i) (n := big) (by decide) (fun k i b hi _ h1 h2 h3 => ?_) (fun n k b => ?_) (fun n k b => ?_) (by decide) hl (fun _ _ => trivial) hk (by omega)
  · have h4 : (i : Int) < (b.length : Int) := by omega
    refine ⟨((k, k + 1, k + 1 + 1, k + 1 + 1 + 1, ()) : DIVote), k + 1 + 1 + 1 + 1, by omega, by omega, fun n => ?_, fun m b' hb' => ?_⟩
    · rw [R_l_markVoteS_2_eq, decide_eq_true h4]
      simp only [cond_true, mk1 hi, mk2 hi]
      simp (disch := omega) only [wrap64, pmt, Option.bind_some, mk1 hi, mk2 hi]
    · have h5 : (i : Int) < (b'.length : Int) := by have := nth_lt hb'; omega
      simp (disch := omega) only [R_l_heldVoteS_2_eq, h5, decide_true, cond_true, Int.natCast_nonneg, if_true, Int.toNat_natCast, hb', Option.bind_some, wrap64, Bool.not_true, cond_false, pmt, beq_self_eq_true]
  · simp only [R_l_markVoteS_2_eq, Int.lt_irrefl, decide_false, cond_false]
  · simp only [R_l_heldVoteS_2_eq, Int.lt_irrefl, decide_false, cond_false]
theorem mh_LetterS {xs : List DILetter} (hl : xs.length ≤ 16777216) {k : Int} (hk : 0 < k) (hM : k + 16777216 * 13 ≤ 4611686018427387904) :
    ∃ (k' : Int) (b' : List DILetter), Q_l_markLetterS big xs k = some (k', b', ()) ∧ Q_l_heldLetterS big b' k = some k' ∧ k ≤ k' ∧ k' ≤ k + 16777216 * 13 := by
  simp only [Q_l_markLetterS_eq, Q_l_heldLetterS_eq]
  refine mh_list (xs := xs) (W := 13) (B := fun _ => True) (r := fun n k i b => R_l_markLetterS_2 n k i b) (s := fun n b k i => R_l_heldLetterS_2 n b k i) (n := big) (by decide) (fun k i b hi _ h1 h2 h3 => ?_) (fun n k b => ?_) (fun n k b => ?_) (by decide) hl (fun _ _ => trivial) hk (by omega)
  · have h4 : (i : Int) < (b.length : Int) := by omega
    refine ⟨((k, k + 1, k + 1 + 1, k + 1 + 1 + 1, k + 1 + 1 + 1 + 1, (k + 1 + 1 + 1 + 1 + 1, k + 1 + 1 + 1 + 1 + 1 + 1, k + 1 + 1 + 1 + 1 + 1 + 1 + 1, k + 1 + 1 + 1 + 1 + 1 + 1 + 1 + 1, ()), (k + 1 + 1 + 1 + 1 + 1 + 1 + 1 + 1 + 1, k + 1 + 1 + 1 + 1 + 1 + 1 + 1 + 1 + 1 + 1, k + 1 + 1 + 1 + 1 + 1 + 1 + 1 + 1 + 1 + 1 + 1, k + 1 + 1 + 1 + 1 + 1 + 1 + 1 + 1 + 1 + 1 + 1 + 1, ()), ()) : DILetter), k + 1 + 1 + 1 + 1 + 1 + 1 + 1 + 1 + 1 + 1 + 1 + 1 + 1, by omega, by omega, fun n => ?_, fun m b' hb' => ?_⟩
    · rw [R_l_markLetterS_2_eq, decide_eq_true h4]
      simp only [cond_true, mk1 hi, mk2 hi]
      simp (disch := omega) only [wrap64, pmt, Option.bind_some, mk1 hi, mk2 hi]
    · have h5 : (i : Int) < (b'.length : Int) := by have := nth_lt hb'; omega
      simp (disch := omega) only [R_l_heldLetterS_2_eq, h5, decide_true, cond_true, Int.natCast_nonneg, if_true, Int.toNat_natCast, hb', Option.bind_some, wrap64, Bool.not_true, cond_false, pmt, beq_self_eq_true]
  · simp only [R_l_markLetterS_2_eq, Int.lt_irrefl, decide_false, cond_false]
  · simp only [R_l_heldLetterS_2_eq, Int.lt_irrefl, decide_false, cond_false]

end Go.Sx.Try

set_option maxRecDepth 100000
namespace Go.Sx.Try
open Go Go.Sx Go.Proofs

theorem clone_ok {α : Type} (xs : List α) (h : xs.length ≤ 16777216) : (nilC xs fun b => bif b then some [] else if (0 : Nat) + List.length xs ≤ lim then some xs else none) = some xs := by
  cases xs with
  | nil => exact both_self _
  | cons x l =>
    simp only [nilC, cond_false]
    rw [if_pos (by unfold lim; omega)]
theorem pClone_Int (x : DSlInt) (h : x.length ≤ 16777216) : Q_g_Clone_Int big x = some x := by rw [Q_g_Clone_Int_eq]; exact clone_ok x h
theorem pClone_ICell (x : DSlICell) (h : x.length ≤ 16777216) : Q_g_Clone_ICell big x = some x := by rw [Q_g_Clone_ICell_eq]; exact clone_ok x h
theorem pClone_IUndo (x : DSlIUndo) (h : x.length ≤ 16777216) : Q_g_Clone_IUndo big x = some x := by rw [Q_g_Clone_IUndo_eq]; exact clone_ok x h
theorem pClone_IVote (x : DSlIVote) (h : x.length ≤ 16777216) : Q_g_Clone_IVote big x = some x := by rw [Q_g_Clone_IVote_eq]; exact clone_ok x h
theorem pClone_ILetter (x : DSlILetter) (h : x.length ≤ 16777216) : Q_g_Clone_ILetter big x = some x := by rw [Q_g_Clone_ILetter_eq]; exact clone_ok x h

/-- a peer whose lists are rather short -/
structure PeerB (x : DIPeer) : Prop where
  row : List.length x.2.2.2.2.2.1 ≤ 16777216
  cells : List.length x.2.2.2.2.2.2.1 ≤ 16777216
  early : List.length x.2.2.2.2.2.2.2.1 ≤ 16777216
  undos : List.length x.2.2.2.2.2.2.2.2.1 ≤ 16777216
  votes : List.length x.2.2.2.2.2.2.2.2.2.1 ≤ 16777216
  news : List.length x.2.2.2.2.2.2.2.2.2.2.1 ≤ 16777216
theorem PeerB.of {x : DIPeer} (h : Bg tIPeer x) : PeerB x :=
  ⟨h.2.2.2.2.2.1.1, h.2.2.2.2.2.2.1.1, h.2.2.2.2.2.2.2.1.1, h.2.2.2.2.2.2.2.2.1.1, h.2.2.2.2.2.2.2.2.2.1.1, h.2.2.2.2.2.2.2.2.2.2.1.1⟩
theorem PeerB.bg {x : DIPeer} (h : PeerB x) : Bg tIPeer x :=
  ⟨trivial, trivial, Bg_flat rfl _, Bg_flat rfl _, Bg_flat rfl _, ⟨h.row, fun _ _ => trivial⟩, ⟨h.cells, fun _ _ => Bg_flat rfl _⟩, ⟨h.early, fun _ _ => trivial⟩, ⟨h.undos, fun _ _ => Bg_flat rfl _⟩,
    ⟨h.votes, fun _ _ => Bg_flat rfl _⟩, ⟨h.news, fun _ _ => Bg_flat rfl _⟩, trivial, trivial⟩

theorem p_clonePeer (x : DIPeer) (h : PeerB x) : Q_i_clonePeer big x = some x := by
  rw [Q_i_clonePeer_eq]
  simp only [pClone_Int _ h.row, pClone_ICell _ h.cells, pClone_Int _ h.early, pClone_IUndo _ h.undos, pClone_IVote _ h.votes, pClone_ILetter _ h.news, Option.bind_some]
theorem p_l09Copy (x : DIPeer) (h : PeerB x) : Q_s_l09Copy big x = some x := by
  rw [Q_s_l09Copy_eq]
  have := h.row; have := h.cells; have := h.early; have := h.undos; have := h.votes; have := h.news
  unfold lim
  repeat rw [if_pos (by omega)]

end Go.Sx.Try

set_option maxRecDepth 100000
namespace Go.Sx.Try
open Go Go.Sx Go.Proofs

theorem not_neg {k : Int} (h : 0 < k) : decide (k < 0) = false := decide_eq_false (by omega)

/-- what of a peer is its lists, put back -/
abbrev peerWith (x : DIPeer) (a : List Int) (b : List DICell) (c : List Int) (d : List DIUndo) (e : List DIVote) (f : List DILetter) : DIPeer :=
  (x.1, x.2.1, x.2.2.1, x.2.2.2.1, x.2.2.2.2.1, a, b, c, d, e, f, x.2.2.2.2.2.2.2.2.2.2.2)

theorem mh_Peer {x : DIPeer} (h : PeerB x) {k : Int} (hk : 0 < k) (hM : k + 16777216 * 24 ≤ 4611686018427387904) :
    ∃ (k' : Int), ∃ y, Q_l_markPeer big x k = some (k', y, ()) ∧ k ≤ k' ∧ k' ≤ k + 16777216 * 24 ∧
      Q_l_heldPeer big (x.1, x.2.1, x.2.2.1, x.2.2.2.1, x.2.2.2.2.1, y.2.2.2.2.2.1, y.2.2.2.2.2.2.1, y.2.2.2.2.2.2.2.1, y.2.2.2.2.2.2.2.2.1, y.2.2.2.2.2.2.2.2.2.1, y.2.2.2.2.2.2.2.2.2.2.1, x.2.2.2.2.2.2.2.2.2.2.2) k = some k' := by
  obtain ⟨k1, b1, m1, h1, l1, u1⟩ := mh_IntS h.row hk (by omega)
  obtain ⟨k2, b2, m2, h2, l2, u2⟩ := mh_CellS h.cells (k := k1) (by omega) (by omega)
  obtain ⟨k3, b3, m3, h3, l3, u3⟩ := mh_IntS h.early (k := k2) (by omega) (by omega)
  obtain ⟨k4, b4, m4, h4, l4, u4⟩ := mh_UndoS h.undos (k := k3) (by omega) (by omega)
  obtain ⟨k5, b5, m5, h5, l5, u5⟩ := mh_VoteS h.votes (k := k4) (by omega) (by omega)
  obtain ⟨k6, b6, m6, h6, l6, u6⟩ := mh_LetterS h.news (k := k5) (by omega) (by omega)
  refine ⟨k6, ((), (), ((), (), (), (), ()), ((), (), (), (), ()), ((), (), (), (), ()), b1, b2, b3, b4, b5, b6, (), ()), ?_, by omega, by omega, ?_⟩
  · rw [Q_l_markPeer_eq]
    simp only [m1, m2, m3, m4, m5, m6, Option.bind_some]
  · rw [Q_l_heldPeer_eq]
    simp (disch := omega) only [h1, h2, h3, h4, h5, h6, Option.bind_some, not_neg, cond_false]

end Go.Sx.Try

set_option maxRecDepth 100000
namespace Go.Sx.Try
open Go Go.Sx Go.Proofs

/-- a peer in a view -/
def enteredF (x : DIPeer) (v : Int) : DIPeer :=
  bif decide (x.2.1 < v) then (bif decide (v ≤ 900) then (x.1, v, x.2.2.1, x.2.2.2.1, x.2.2.2.2.1, x.2.2.2.2.2.1, x.2.2.2.2.2.2.1, x.2.2.2.2.2.2.2.1, x.2.2.2.2.2.2.2.2.1, [], [], x.2.2.2.2.2.2.2.2.2.2.2) else x) else x
theorem enteredB {x : DIPeer} (h : PeerB x) (v : Int) : PeerB (enteredF x v) := by
  unfold enteredF
  cases decide (x.2.1 < v) with
  | false => exact h
  | true =>
    cases decide (v ≤ 900) with
    | false => exact h
    | true => exact ⟨h.row, h.cells, h.early, h.undos, Nat.zero_le _, Nat.zero_le _⟩
theorem p_i_Entered (x : DIPeer) (h : PeerB x) (v : Int) : Q_i_Entered big x v = some (enteredF x v) := by
  rw [Q_i_Entered_eq, p_clonePeer x h]
  simp only [Option.bind_some, cond_some]
  rfl
theorem p_s_Entered (x : DIPeer) (h : PeerB x) (v : Int) : Q_s_Entered big x v = some (enteredF x v) := by
  rw [Q_s_Entered_eq, p_l09Copy x h]
  simp only [Option.bind_some, cond_some]
  rfl

end Go.Sx.Try

set_option maxRecDepth 100000
namespace Go.Sx.Try
open Go Go.Sx Go.Proofs

theorem p_LeaderOf (v n : Int) : ∃ l, Q_i_LeaderOf big v n = some l ∧ Q_s_LeaderOf big v n = some l := by
  rw [Q_i_LeaderOf_eq, Q_s_LeaderOf_eq]
  by_cases h1 : n < 1
  · rw [decide_eq_true h1]; exact ⟨_, rfl, rfl⟩
  · rw [decide_eq_false h1, if_neg (show ¬ n = 0 by omega)]
    simp only [cond_false, cond_some]
    exact ⟨_, rfl, rfl⟩
theorem p_in (x a b : Int) : Q_i_in big x a b = some (decide (a ≤ x) && decide (x ≤ b)) := by
  rw [Q_i_in_eq]
  cases decide (a ≤ x) <;> rfl
theorem p_l01In (x a b : Int) : Q_s_l01In big x a b = some (decide (a ≤ x) && decide (x ≤ b)) := by
  rw [Q_s_l01In_eq]
  cases decide (a ≤ x) <;> rfl

theorem p_TimedOut (x : DIPeer) (hx : PeerB x) (n : Int) : ∃ r, Q_i_TimedOut big x n = some r ∧ Q_s_TimedOut big x n = some r ∧ PeerB r.1 := by
  rw [Q_i_TimedOut_eq, Q_s_TimedOut_eq, p_in, p_l01In, p_clonePeer x hx, p_l09Copy x hx]
  simp only [Option.bind_some]
  cases decide (900 ≤ x.2.1) with
  | true => exact ⟨_, rfl, rfl, hx⟩
  | false =>
    simp only [cond_false]
    cases (decide ((1 : Int) ≤ n) && decide (n ≤ 7)) with
    | false => exact ⟨_, rfl, rfl, hx⟩
    | true =>
      simp only [Bool.not_true, cond_false]
      rw [p_i_Entered x hx, p_s_Entered x hx]
      simp only [Option.bind_some]
      obtain ⟨l, h1, h2⟩ := p_LeaderOf (enteredF x (IntKind.wrap .i64 (x.2.1 + 1))).2.1 n
      rw [h1, h2]
      exact ⟨_, rfl, rfl, enteredB hx _⟩

end Go.Sx.Try

set_option maxRecDepth 100000
namespace Go.Sx.Try
open Go Go.Sx Go.Proofs

theorem law_TimedOut (x : DLPeer) (a1 : Int) (hw : WfD tLPeer x) : Q_l_FnExactTimedOut big x a1 = some true := by
  rw [Q_l_FnExactTimedOut_eq]
  refine law_sz (pszPeer x 1048576 hw (by decide) (by decide)) fun hb _ => ?_
  have hx : PeerB x := PeerB.of (Bg_of (t := tIPeer) hb)
  obtain ⟨r, e1, e2, hr⟩ := p_TimedOut x hx a1
  obtain ⟨k1, y1, m1, l1, u1, _⟩ := mh_Peer hx (k := 1) (by decide) (by decide)
  obtain ⟨k2, y2, m2, l2, u2, h2⟩ := mh_Peer hr (k := 1) (by decide) (by decide)
  simp (disch := omega) only [ptoPeer x hb, e1, e2, Option.bind_some, peqPeer _ hr.bg, peqPeer _ hx.bg, peqLetter _ (Bg_flat rfl _), beq_self_eq_true, m1, m2, h2, not_neg, Bool.not_true, cond_false, decide_true]

end Go.Sx.Try
