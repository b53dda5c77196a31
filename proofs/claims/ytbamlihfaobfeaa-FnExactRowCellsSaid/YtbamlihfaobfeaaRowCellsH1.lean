/- The helpers of the laws. -/
import Derived.Test.YtbamlihfaobfeaaM9
import Derived.Test.YtbamlihfaobfeaaRowCellsF1
import Derived.Test.YtbamlihfaobfeaaTypes
set_option linter.unusedVariables false
set_option linter.unusedSimpArgs false
set_option maxRecDepth 100000
namespace Go.Sx.Try
open Go Go.Sx Go.Proofs

theorem pszCmd (x : DLCmd) (a : Int) (hw : WfD tLCmd x) (h0 : 0 ≤ a) (h1 : a ≤ 1048576) : SzR (Q_l_szCmd big x a) a (Bd tLCmd x) := by
  rw [Q_l_szCmd_eq]
  exact (szR_len (K := some) (hw.2.1) h0 h1 fun v0 k0 l0 _ => szR_end).imp fun h => (Bd_flat rfl _)

theorem pszCmdS (x : DSlLCmd) (a : Int) (hw : WfD tSlLCmd x) (h0 : 0 ≤ a) (h1 : a ≤ 1048576) : SzR (Q_l_szCmdS big x a) a (Bd tSlLCmd x) := 
  szR_list (qe := fun y a => Q_l_szCmd big y a) (r := fun n a i => R_l_szCmdS_5 n x a i) (n := big) hw.1 h0 h1 (Q_l_szCmdS_eq big x a) (fun n a i => R_l_szCmdS_5_eq n x a i) (fun y hy a h0 h1 => pszCmd y a (hw.2 y hy) h0 h1) (by decide)

theorem pszBlock (x : DLBlock) (a : Int) (hw : WfD tLBlock x) (h0 : 0 ≤ a) (h1 : a ≤ 1048576) : SzR (Q_l_szBlock big x a) a (Bd tLBlock x) := by
  rw [Q_l_szBlock_eq]
  exact (szR_bind (pszCmdS _ _ (hw.2.2.1) h0 h1) h0 h1 fun v0 k0 l0 => szR_end).imp fun h => ⟨(Bd_flat rfl _), (Bd_flat rfl _), h.1, (Bd_flat rfl _), trivial⟩

theorem pszBlockS (x : DSlLBlock) (a : Int) (hw : WfD tSlLBlock x) (h0 : 0 ≤ a) (h1 : a ≤ 1048576) : SzR (Q_l_szBlockS big x a) a (Bd tSlLBlock x) := 
  szR_list (qe := fun y a => Q_l_szBlock big y a) (r := fun n a i => R_l_szBlockS_5 n x a i) (n := big) hw.1 h0 h1 (Q_l_szBlockS_eq big x a) (fun n a i => R_l_szBlockS_5_eq n x a i) (fun y hy a h0 h1 => pszBlock y a (hw.2 y hy) h0 h1) (by decide)

theorem ptoCmd (x : DLCmd) (h : Bd tLCmd x) : Q_l_toCmd big x = some x := by
  rw [Q_l_toCmd_eq]

theorem ptoCmdS (x : DSlLCmd) (h : Bd tSlLCmd x) : Q_l_toCmdS big x = some x := by
  have := copy_ok (g := fun y => some y) (f := fun y => y) (r := fun n i b => R_l_toCmdS_3 n x i b) (n := big) (Q_l_toCmdS_eq big x) (fun n i b => R_l_toCmdS_3_eq n x i b) (fun _ _ => rfl) (Nat.le_trans h.1 (by decide)) (by decide)
  simpa using this

theorem ptoQc (x : DLQc) (h : Bd tLQc x) : Q_l_toQc big x = some x := by
  rw [Q_l_toQc_eq]

theorem ptoBlock (x : DLBlock) (h : Bd tLBlock x) : Q_l_toBlock big x = some x := by
  rw [Q_l_toBlock_eq, ptoCmdS _ (h.2.2.1)]
  rfl

theorem ptoBlockS (x : DSlLBlock) (h : Bd tSlLBlock x) : Q_l_toBlockS big x = some x := by
  have := copy_ok (g := fun y => Q_l_toBlock big y) (f := fun y => y) (r := fun n i b => R_l_toBlockS_3 n x i b) (n := big) (Q_l_toBlockS_eq big x) (fun n i b => R_l_toBlockS_3_eq n x i b) (fun y hy => ptoBlock y (h.2 y hy)) (Nat.le_trans h.1 (by decide)) (by decide)
  simpa using this

theorem ptoIntS (x : DSlInt) (h : Bd tSlInt x) : Q_l_toIntS big x = some x := by
  have := copy_ok (g := fun y => some y) (f := fun y => y) (r := fun n i b => R_l_toIntS_3 n x i b) (n := big) (Q_l_toIntS_eq big x) (fun n i b => R_l_toIntS_3_eq n x i b) (fun _ _ => rfl) (Nat.le_trans h.1 (by decide)) (by decide)
  simpa using this

theorem peqCell (x : DICell) (h : Bg tICell x) : Q_l_eqCell big x x = some true := by
  rw [Q_l_eqCell_eq]
  simp only [decide_true, Bool.not_true, cond_false]

theorem peqCellS (x : DSlICell) (h : Bg tSlICell x) : Q_l_eqCellS big x x = some true := 
  eq_ok (e := fun y y1 => Q_l_eqCell big y y1) (r := fun n i => R_l_eqCellS_4 n x x i) (n := big) (Q_l_eqCellS_eq big x x) (fun n i => R_l_eqCellS_4_eq n x x i) (fun y hy => peqCell y (h.2 y hy)) h.1 (by decide)

theorem peqCmd (x : DICmd) (h : Bg tICmd x) : Q_l_eqCmd big x x = some true := by
  rw [Q_l_eqCmd_eq]
  simp only [decide_true, Bool.not_true, cond_false]

theorem peqCmdS (x : DSlICmd) (h : Bg tSlICmd x) : Q_l_eqCmdS big x x = some true := 
  eq_ok (e := fun y y1 => Q_l_eqCmd big y y1) (r := fun n i => R_l_eqCmdS_4 n x x i) (n := big) (Q_l_eqCmdS_eq big x x) (fun n i => R_l_eqCmdS_4_eq n x x i) (fun y hy => peqCmd y (h.2 y hy)) h.1 (by decide)

theorem peqQc (x : DIQc) (h : Bg tIQc x) : Q_l_eqQc big x x = some true := by
  rw [Q_l_eqQc_eq]
  simp only [decide_true, Bool.not_true, cond_false]

theorem peqBlock (x : DIBlock) (h : Bg tIBlock x) : Q_l_eqBlock big x x = some true := by
  rw [Q_l_eqBlock_eq]
  simp only [decide_true, Bool.not_true, cond_false, Option.bind_some, peqCmdS _ (h.2.2.1), peqQc _ (h.2.2.2.1)]

theorem peqBlockS (x : DSlIBlock) (h : Bg tSlIBlock x) : Q_l_eqBlockS big x x = some true := 
  eq_ok (e := fun y y1 => Q_l_eqBlock big y y1) (r := fun n i => R_l_eqBlockS_4 n x x i) (n := big) (Q_l_eqBlockS_eq big x x) (fun n i => R_l_eqBlockS_4_eq n x x i) (fun y hy => peqBlock y (h.2 y hy)) h.1 (by decide)

theorem peqIntS (x : DSlInt) (h : Bg tSlInt x) : Q_l_eqIntS big x x = some true := 
  eq_ok (e := fun y y1 => some (decide (y = y1))) (r := fun n i => R_l_eqIntS_4 n x x i) (n := big) (Q_l_eqIntS_eq big x x) (fun n i => R_l_eqIntS_4_eq n x x i) (fun y _ => by simp) h.1 (by decide)

end Go.Sx.Try

set_option maxRecDepth 100000
namespace Go.Sx.Try
open Go Go.Sx Go.Proofs

theorem text_ex : ∀ (n : Nat) (f : Nat) (k : Int) (s : ByteArray), n < f → 0 ≤ k → k ≤ 4611686018427387904 → k < 2 ^ n → s.size + n ≤ 100 → ∃ t, R_l_markText_4 f k s = some t
  | n, 0, k, s, h, _, _, _, _ => by omega
  | n, f + 1, k, s, h1, h2, h2', h3, h4 => by
    rw [R_l_markText_4_eq]
    by_cases hk : (0 : Int) < k
    · rw [decide_eq_true hk]
      simp only [cond_true]
      cases n with
      | zero => simp at h3; omega
      | succ n =>
        have hsz : ∀ x : Int, (ByteArray.mk (List.map (fun n => UInt8.ofNat (Int.toNat n)) [x]).toArray).size = 1 := fun _ => rfl
        rw [if_pos (by rw [hsz]; simp only [lim]; omega)]
        have h5 : Int.tdiv k 10 = k / 10 := by rw [Int.tdiv_eq_ediv_of_nonneg h2]
        rw [h5, wrap64 (n := k / 10) (by omega) (by omega)]
        exact text_ex n f (k / 10) _ (by omega) (by omega) (by omega) (by
          have : (2 : Int) ^ (n + 1) = 2 * 2 ^ n := by rw [Int.pow_succ]; omega
          omega) (by rw [ByteArray.size_append, hsz]; omega)
    · rw [decide_eq_false hk]
      simp only [cond_false]
      have hsz : (ByteArray.mk #[(109 : UInt8)]).size = 1 := rfl
      rw [if_pos (by rw [hsz]; simp only [lim]; omega)]
      exact ⟨_, rfl⟩
/-- the text of a mark -/
noncomputable def mt (k : Int) : ByteArray := (Q_l_markText big k).getD ByteArray.empty
theorem pmt {k : Int} (h1 : 0 < k) (h2 : k ≤ 4611686018427387904) : Q_l_markText big k = some (mt k) := by
  have : ∃ t, Q_l_markText big k = some t := by
    rw [Q_l_markText_eq, decide_eq_false (show ¬ k ≤ 0 by omega)]
    simp only [cond_false]
    exact text_ex 63 big k _ (by decide) (by omega) (by omega) (by omega) (by decide)
  obtain ⟨t, ht⟩ := this
  unfold mt
  rw [ht]; rfl

theorem mh_IntS {xs : List Int} (hl : xs.length ≤ 16777216) {k : Int} (hk : 0 < k) (hM : k + 16777216 * 1 ≤ 4611686018427387904) :
    ∃ (k' : Int) (b' : List Int), Q_l_markIntS big xs k = some (k', b', ()) ∧ Q_l_heldIntS big b' k = some k' ∧ k ≤ k' ∧ k' ≤ k + 16777216 * 1 := by
  simp only [Q_l_markIntS_eq, Q_l_heldIntS_eq]
  refine mh_list (xs := xs) (W := 1) (B := fun _ => True) (r := fun n k i b => R_l_markIntS_2 n k i b) (s := fun n b k i => R_l_heldIntS_2 n b k i) (n := big) (by decide) (fun k i b hi _ h1 h2 h3 => ?_) (fun n k b => ?_) (fun n k b => ?_) (by decide) hl (fun _ _ => trivial) hk (by omega)
  · have h4 : (i : Int) < (b.length : Int) := by omega
    refine ⟨(k : Int), k + 1, by omega, by omega, fun n => ?_, fun m b' hb' => ?_⟩
    · rw [R_l_markIntS_2_eq, decide_eq_true h4]
      simp only [cond_true, mk1 hi, mk2 hi]
      simp (disch := omega) only [wrap64, pmt, Option.bind_some, mk1 hi, mk2 hi]
    · have h5 : (i : Int) < (b'.length : Int) := by have := nth_lt hb'; omega
      simp (disch := omega) only [R_l_heldIntS_2_eq, h5, decide_true, cond_true, Int.natCast_nonneg, if_true, Int.toNat_natCast, hb', Option.bind_some, wrap64, Bool.not_true, cond_false, pmt, beq_self_eq_true]
  · simp only [R_l_markIntS_2_eq, Int.lt_irrefl, decide_false, cond_false]
  · simp only [R_l_heldIntS_2_eq, Int.lt_irrefl, decide_false, cond_false]
theorem mh_CellS {xs : List DICell} (hl : xs.length ≤ 16777216) {k : Int} (hk : 0 < k) (hM : k + 16777216 * 2 ≤ 4611686018427387904) :
    ∃ (k' : Int) (b' : List DICell), Q_l_markCellS big xs k = some (k', b', ()) ∧ Q_l_heldCellS big b' k = some k' ∧ k ≤ k' ∧ k' ≤ k + 16777216 * 2 := by
  simp only [Q_l_markCellS_eq, Q_l_heldCellS_eq]
  refine mh_list (xs := xs) (W := 2) (B := fun _ => True) (r := fun n k i b => R_l_markCellS_2 n k i b) (s := fun n b k i => R_l_heldCellS_2 n b k i) (n := big) (by decide) (fun k i b hi _ h1 h2 h3 => ?_) (fun n k b => ?_) (fun n k b => ?_) (by decide) hl (fun _ _ => trivial) hk (by omega)
  · have h4 : (i : Int) < (b.length : Int) := by omega
    refine ⟨((mt k, k + 1, ()) : DICell), k + 1 + 1, by omega, by omega, fun n => ?_, fun m b' hb' => ?_⟩
    · rw [R_l_markCellS_2_eq, decide_eq_true h4]
      simp only [cond_true, mk1 hi, mk2 hi]
      simp (disch := omega) only [wrap64, pmt, Option.bind_some, mk1 hi, mk2 hi]
    · have h5 : (i : Int) < (b'.length : Int) := by have := nth_lt hb'; omega
      simp (disch := omega) only [R_l_heldCellS_2_eq, h5, decide_true, cond_true, Int.natCast_nonneg, if_true, Int.toNat_natCast, hb', Option.bind_some, wrap64, Bool.not_true, cond_false, pmt, beq_self_eq_true]
  · simp only [R_l_markCellS_2_eq, Int.lt_irrefl, decide_false, cond_false]
  · simp only [R_l_heldCellS_2_eq, Int.lt_irrefl, decide_false, cond_false]
theorem mh_UndoS {xs : List DIUndo} (hl : xs.length ≤ 16777216) {k : Int} (hk : 0 < k) (hM : k + 16777216 * 3 ≤ 4611686018427387904) :
    ∃ (k' : Int) (b' : List DIUndo), Q_l_markUndoS big xs k = some (k', b', ()) ∧ Q_l_heldUndoS big b' k = some k' ∧ k ≤ k' ∧ k' ≤ k + 16777216 * 3 := by
  simp only [Q_l_markUndoS_eq, Q_l_heldUndoS_eq]
  refine mh_list (xs := xs) (W := 3) (B := fun _ => True) (r := fun n k i b => R_l_markUndoS_2 n k i b) (s := fun n b k i => R_l_heldUndoS_2 n b k i) (n := big) (by decide) (fun k i b hi _ h1 h2 h3 => ?_) (fun n k b => ?_) (fun n k b => ?_) (by decide) hl (fun _ _ => trivial) hk (by omega)
  · have h4 : (i : Int) < (b.length : Int) := by omega
    refine ⟨((mt k, decide ((k + 1).tmod 3 = 0), k + 1 + 1, ()) : DIUndo), k + 1 + 1 + 1, by omega, by omega, fun n => ?_, fun m b' hb' => ?_⟩
    · rw [R_l_markUndoS_2_eq, decide_eq_true h4]
      simp only [cond_true, mk1 hi, mk2 hi]
      simp (disch := omega) only [wrap64, pmt, Option.bind_some, mk1 hi, mk2 hi]
    · have h5 : (i : Int) < (b'.length : Int) := by have := nth_lt hb'; omega
      simp (disch := omega) only [R_l_heldUndoS_2_eq, h5, decide_true, cond_true, Int.natCast_nonneg, if_true, Int.toNat_natCast, hb', Option.bind_some, wrap64, Bool.not_true, cond_false, pmt, beq_self_eq_true]
  · simp only [R_l_markUndoS_2_eq, Int.lt_irrefl, decide_false, cond_false]
  · simp only [R_l_heldUndoS_2_eq, Int.lt_irrefl, decide_false, cond_false]
theorem mh_VoteS {xs : List DIVote} (hl : xs.length ≤ 16777216) {k : Int} (hk : 0 < k) (hM : k + 16777216 * 4 ≤ 4611686018427387904) :
    ∃ (k' : Int) (b' : List DIVote), Q_l_markVoteS big xs k = some (k', b', ()) ∧ Q_l_heldVoteS big b' k = some k' ∧ k ≤ k' ∧ k' ≤ k + 16777216 * 4 := by
  simp only [Q_l_markVoteS_eq, Q_l_heldVoteS_eq]
  refine mh_list (xs := xs) (W := 4) (B := fun _ => True) (r := fun n k i b => R_l_markVoteS_2 n k i b) (s := fun n b k i => R_l_heldVoteS_2 n b k i) (n := big) (by decide) (fun k i b hi _ h1 h2 h3 => ?_) (fun n k b => ?_) (fun n k b => ?_) (by decide) hl (fun _ _ => trivial) hk (by omega)
  · have h4 : (i : Int) < (b.length : Int) := by omega
    refine ⟨((k, k + 1, k + 1 + 1, k + 1 + 1 + 1, ()) : DIVote), k + 1 + 1 + 1 + 1, by omega, by omega, fun n => ?_, fun m b' hb' => ?_⟩
    · rw [R_l_markVoteS_2_eq, decide_eq_true h4]
      simp only [cond_true, mk1 hi, mk2 hi]
      simp (disch := omega) only [wrap64, pmt, Option.bind_some, mk1 hi, mk2 hi]
    · have h5 : (i : Int) < (b'.length : Int) := by have := nth_lt hb'; omega
      simp (disch := omega) only [R_l_heldVoteS_2_eq, h5, decide_true, cond_true, Int.natCast_nonneg, if_true, Int.toNat_natCast, hb', Option.bind_some, wrap64, Bool.not_true, cond_false, pmt, beq_self_eq_true]
  · simp only [R_l_markVoteS_2_eq, Int.lt_irrefl, decide_false, cond_false]
  · simp only [R_l_heldVoteS_2_eq, Int.lt_irrefl, decide_false, cond_false]
theorem mh_LetterS {xs : List DILetter} (hl : xs.length ≤ 16777216) {k : Int} (hk : 0 < k) (hM : k + 16777216 * 13 ≤ 4611686018427387904) :
    ∃ (k' : Int) (b' : List DILetter), Q_l_markLetterS big xs k = some (k', b', ()) ∧ Q_l_heldLetterS big b' k = some k' ∧ k ≤ k' ∧ k' ≤ k + 16777216 * 13 := by
  simp only [Q_l_markLetterS_eq, Q_l_heldLetterS_eq]
  refine mh_list (xs := xs) (W := 13) (B := fun _ => True) (r := fun n k i b => R_l_markLetterS_2 n k i b) (s := fun n b k i => R_l_heldLetterS_2 n b k i) (n := big) (by decide) (fun k i b hi _ h1 h2 h3 => ?_) (fun n k b => ?_) (fun n k b => ?_) (by decide) hl (fun _ _ => trivial) hk (by omega)
  · have h4 : (i : Int) < (b.length : Int) := by omega
    refine ⟨((k, k + 1, k + 1 + 1, k + 1 + 1 + 1, k + 1 + 1 + 1 + 1, (k + 1 + 1 + 1 + 1 + 1, k + 1 + 1 + 1 + 1 + 1 + 1, k + 1 + 1 + 1 + 1 + 1 + 1 + 1, k + 1 + 1 + 1 + 1 + 1 + 1 + 1 + 1, ()), (k + 1 + 1 + 1 + 1 + 1 + 1 + 1 + 1 + 1, k + 1 + 1 + 1 + 1 + 1 + 1 + 1 + 1 + 1 + 1, k + 1 + 1 + 1 + 1 + 1 + 1 + 1 + 1 + 1 + 1 + 1, k + 1 + 1 + 1 + 1 + 1 + 1 + 1 + 1 + 1 + 1 + 1 + 1, ()), ()) : DILetter), k + 1 + 1 + 1 + 1 + 1 + 1 + 1 + 1 + 1 + 1 + 1 + 1 + 1, by omega, by omega, fun n => ?_, fun m b' hb' => ?_⟩
    · rw [R_l_markLetterS_2_eq, decide_eq_true h4]
      simp only [cond_true, mk1 hi, mk2 hi]
      simp (disch := omega) only [wrap64, pmt, Option.bind_some, mk1 hi, mk2 hi]
    · have h5 : (i : Int) < (b'.length : Int) := by have := nth_lt hb'; omega
      simp (disch := omega) only [R_l_heldLetterS_2_eq, h5, decide_true, cond_true, Int.natCast_nonneg, if_true, Int.toNat_natCast, hb', Option.bind_some, wrap64, Bool.not_true, cond_false, pmt, beq_self_eq_true]
  · simp only [R_l_markLetterS_2_eq, Int.lt_irrefl, decide_false, cond_false]
  · simp only [R_l_heldLetterS_2_eq, Int.lt_irrefl, decide_false, cond_false]

end Go.Sx.Try

set_option maxRecDepth 100000
namespace Go.Sx.Try
open Go Go.Sx Go.Proofs

theorem clone_ok {α : Type} (xs : List α) (h : xs.length ≤ 16777216) : (nilC xs fun b => bif b then some [] else if (0 : Nat) + List.length xs ≤ lim then some xs else none) = some xs := by
  cases xs with
  | nil => exact both_self _
  | cons x l =>
    simp only [nilC, cond_false]
    rw [if_pos (by unfold lim; omega)]
theorem pClone_Int (x : DSlInt) (h : x.length ≤ 16777216) : Q_g_Clone_Int big x = some x := by rw [Q_g_Clone_Int_eq]; exact clone_ok x h
theorem pClone_ICell (x : DSlICell) (h : x.length ≤ 16777216) : Q_g_Clone_ICell big x = some x := by rw [Q_g_Clone_ICell_eq]; exact clone_ok x h
theorem pClone_IUndo (x : DSlIUndo) (h : x.length ≤ 16777216) : Q_g_Clone_IUndo big x = some x := by rw [Q_g_Clone_IUndo_eq]; exact clone_ok x h
theorem pClone_IVote (x : DSlIVote) (h : x.length ≤ 16777216) : Q_g_Clone_IVote big x = some x := by rw [Q_g_Clone_IVote_eq]; exact clone_ok x h
theorem pClone_ILetter (x : DSlILetter) (h : x.length ≤ 16777216) : Q_g_Clone_ILetter big x = some x := by rw [Q_g_Clone_ILetter_eq]; exact clone_ok x h

/-- a peer whose lists are rather short -/
structure PeerB (x : DIPeer) : Prop where
  row : List.length x.2.2.2.2.2.1 ≤ 16777216
  cells : List.length x.2.2.2.2.2.2.1 ≤ 16777216
  early : List.length x.2.2.2.2.2.2.2.1 ≤ 16777216
  undos : List.length x.2.2.2.2.2.2.2.2.1 ≤ 16777216
  votes : List.length x.2.2.2.2.2.2.2.2.2.1 ≤ 16777216
  news : List.length x.2.2.2.2.2.2.2.2.2.2.1 ≤ 16777216
theorem PeerB.of {x : DIPeer} (h : Bg tIPeer x) : PeerB x :=
  ⟨h.2.2.2.2.2.1.1, h.2.2.2.2.2.2.1.1, h.2.2.2.2.2.2.2.1.1, h.2.2.2.2.2.2.2.2.1.1, h.2.2.2.2.2.2.2.2.2.1.1, h.2.2.2.2.2.2.2.2.2.2.1.1⟩
theorem PeerB.bg {x : DIPeer} (h : PeerB x) : Bg tIPeer x :=
  ⟨trivial, trivial, Bg_flat rfl _, Bg_flat rfl _, Bg_flat rfl _, ⟨h.row, fun _ _ => trivial⟩, ⟨h.cells, fun _ _ => Bg_flat rfl _⟩, ⟨h.early, fun _ _ => trivial⟩, ⟨h.undos, fun _ _ => Bg_flat rfl _⟩,
    ⟨h.votes, fun _ _ => Bg_flat rfl _⟩, ⟨h.news, fun _ _ => Bg_flat rfl _⟩, trivial, trivial⟩

theorem p_clonePeer (x : DIPeer) (h : PeerB x) : Q_i_clonePeer big x = some x := by
  rw [Q_i_clonePeer_eq]
  simp only [pClone_Int _ h.row, pClone_ICell _ h.cells, pClone_Int _ h.early, pClone_IUndo _ h.undos, pClone_IVote _ h.votes, pClone_ILetter _ h.news, Option.bind_some]
theorem p_l09Copy (x : DIPeer) (h : PeerB x) : Q_s_l09Copy big x = some x := by
  rw [Q_s_l09Copy_eq]
  have := h.row; have := h.cells; have := h.early; have := h.undos; have := h.votes; have := h.news
  unfold lim
  repeat rw [if_pos (by omega)]

end Go.Sx.Try

set_option maxRecDepth 100000
namespace Go.Sx.Try
open Go Go.Sx Go.Proofs

theorem not_neg {k : Int} (h : 0 < k) : decide (k < 0) = false := decide_eq_false (by omega)

/-- what of a peer is its lists, put back -/
abbrev peerWith (x : DIPeer) (a : List Int) (b : List DICell) (c : List Int) (d : List DIUndo) (e : List DIVote) (f : List DILetter) : DIPeer :=
  (x.1, x.2.1, x.2.2.1, x.2.2.2.1, x.2.2.2.2.1, a, b, c, d, e, f, x.2.2.2.2.2.2.2.2.2.2.2)

theorem mh_Peer {x : DIPeer} (h : PeerB x) {k : Int} (hk : 0 < k) (hM : k + 16777216 * 24 ≤ 4611686018427387904) :
    ∃ (k' : Int), ∃ y, Q_l_markPeer big x k = some (k', y, ()) ∧ k ≤ k' ∧ k' ≤ k + 16777216 * 24 ∧
      Q_l_heldPeer big (x.1, x.2.1, x.2.2.1, x.2.2.2.1, x.2.2.2.2.1, y.2.2.2.2.2.1, y.2.2.2.2.2.2.1, y.2.2.2.2.2.2.2.1, y.2.2.2.2.2.2.2.2.1, y.2.2.2.2.2.2.2.2.2.1, y.2.2.2.2.2.2.2.2.2.2.1, x.2.2.2.2.2.2.2.2.2.2.2) k = some k' := by
  obtain ⟨k1, b1, m1, h1, l1, u1⟩ := mh_IntS h.row hk (by omega)
  obtain ⟨k2, b2, m2, h2, l2, u2⟩ := mh_CellS h.cells (k := k1) (by omega) (by omega)
  obtain ⟨k3, b3, m3, h3, l3, u3⟩ := mh_IntS h.early (k := k2) (by omega) (by omega)
  obtain ⟨k4, b4, m4, h4, l4, u4⟩ := mh_UndoS h.undos (k := k3) (by omega) (by omega)
  obtain ⟨k5, b5, m5, h5, l5, u5⟩ := mh_VoteS h.votes (k := k4) (by omega) (by omega)
  obtain ⟨k6, b6, m6, h6, l6, u6⟩ := mh_LetterS h.news (k := k5) (by omega) (by omega)
  refine ⟨k6, ((), (), ((), (), (), (), ()), ((), (), (), (), ()), ((), (), (), (), ()), b1, b2, b3, b4, b5, b6, (), ()), ?_, by omega, by omega, ?_⟩
  · rw [Q_l_markPeer_eq]
    simp only [m1, m2, m3, m4, m5, m6, Option.bind_some]
  · rw [Q_l_heldPeer_eq]
    simp (disch := omega) only [h1, h2, h3, h4, h5, h6, Option.bind_some, not_neg, cond_false]

end Go.Sx.Try

set_option maxRecDepth 100000
namespace Go.Sx.Try
open Go Go.Sx Go.Proofs
theorem mk5 {α β : Type} {b : List α} {i : Nat} (h : i < b.length) (x z : α) (K : List α → Option β) :
    (updO (upd b i x) (Int.toNat (i : Int)) z).bind K = K (upd b i z) := by
  rw [Int.toNat_natCast, updO_upd h]
  rfl
theorem ck {α β : Type} {a b : α} [Decidable (a = b)] (h : a = b) (x y : β) : (bif !decide (a = b) then x else y) = y := by
  rw [decide_eq_true h]; rfl

theorem mh_CmdS {xs : List DICmd} (hl : xs.length ≤ 16777216) {k : Int} (hk : 0 < k) (hM : k + 16777216 * 3 ≤ 4611686018427387904) :
    ∃ (k' : Int) (b' : List DICmd), Q_l_markCmdS big xs k = some (k', b', ()) ∧ Q_l_heldCmdS big b' k = some k' ∧ k ≤ k' ∧ k' ≤ k + 16777216 * 3 := by
  simp only [Q_l_markCmdS_eq, Q_l_heldCmdS_eq]
  refine mh_list (xs := xs) (W := 3) (B := fun _ => True) (r := fun n k i b => R_l_markCmdS_2 n k i b) (s := fun n b k i => R_l_heldCmdS_2 n b k i) (n := big) (by decide) (fun k i b hi _ h1 h2 h3 => ?_) (fun n k b => ?_) (fun n k b => ?_) (by decide) hl (fun _ _ => trivial) hk (by omega)
  · have h4 : (i : Int) < (b.length : Int) := by omega
    refine ⟨((k, mt (k + 1), k + 1 + 1, ()) : DICmd), k + 1 + 1 + 1, by omega, by omega, fun n => ?_, fun m b' hb' => ?_⟩
    · rw [R_l_markCmdS_2_eq, decide_eq_true h4]
      simp only [cond_true, mk1 hi, mk2 hi]
      simp (disch := omega) only [wrap64, pmt, Option.bind_some, mk1 hi, mk2 hi]
    · have h5 : (i : Int) < (b'.length : Int) := by have := nth_lt hb'; omega
      simp (disch := omega) only [R_l_heldCmdS_2_eq, h5, decide_true, cond_true, Int.natCast_nonneg, if_true, Int.toNat_natCast, hb', Option.bind_some, wrap64, Bool.not_true, cond_false, pmt, beq_self_eq_true]
  · simp only [R_l_markCmdS_2_eq, Int.lt_irrefl, decide_false, cond_false]
  · simp only [R_l_heldCmdS_2_eq, Int.lt_irrefl, decide_false, cond_false]

theorem mh_BlockS {xs : List DIBlock} (hl : xs.length ≤ 16777216) (hB : ∀ x ∈ xs, (fun x => List.length x.2.2.1 ≤ 16777216 : DIBlock → Prop) x) {k : Int} (hk : 0 < k) (hM : k + 16777216 * 50331654 ≤ 4611686018427387904) :
    ∃ (k' : Int) (b' : List DIBlock), Q_l_markBlockS big xs k = some (k', b', ()) ∧ Q_l_heldBlockS big b' k = some k' ∧ k ≤ k' ∧ k' ≤ k + 16777216 * 50331654 := by
  simp only [Q_l_markBlockS_eq, Q_l_heldBlockS_eq]
  refine mh_list (xs := xs) (W := 50331654) (B := fun x => List.length x.2.2.1 ≤ 16777216) (r := fun n k i b => R_l_markBlockS_2 n k i b) (s := fun n b k i => R_l_heldBlockS_2 n b k i) (n := big) (by decide) (fun k i b hi hx h1 h2 h3 => ?_) (fun n k b => ?_) (fun n k b => ?_) (by decide) hl hB hk (by omega)
  · have h4 : (i : Int) < (b.length : Int) := by omega
    obtain ⟨k1, b1, m1, g1, l1, u1⟩ := mh_CmdS hx (k := k + 1 + 1) (by omega) (by omega)
    refine ⟨((k, k + 1, b1, (k1, k1 + 1, k1 + 1 + 1, k1 + 1 + 1 + 1, ()), ()) : DIBlock), k1 + 1 + 1 + 1 + 1, by omega, by omega, fun n => ?_, fun m b' hb' => ?_⟩
    · rw [R_l_markBlockS_2_eq, decide_eq_true h4, cond_true]
      rw [mk1 hi]
      rw [mk2 hi]
      dsimp only
      rw [wrap64 (n := k + 1) (by omega) (by omega), wrap64 (n := k + 1 + 1) (by omega) (by omega)]
      rw [mk3 hi, show Q_l_markCmdS big _ (k + 1 + 1) = _ from m1, Option.bind_some, mk5 hi]
      dsimp only
      rw [mk2 hi]
      dsimp only
      rw [mk2 hi]
      dsimp only
      rw [mk2 hi]
      dsimp only
      rw [mk2 hi]
      dsimp only
      rw [wrap64 (n := k1 + 1) (by omega) (by omega), wrap64 (n := k1 + 1 + 1) (by omega) (by omega), wrap64 (n := k1 + 1 + 1 + 1) (by omega) (by omega), wrap64 (n := k1 + 1 + 1 + 1 + 1) (by omega) (by omega)]
      rw [wrap64 (n := (i : Int) + 1) (by omega) (by omega)]
    · have h5 : (i : Int) < (b'.length : Int) := by have := nth_lt hb'; omega
      rw [R_l_heldBlockS_2_eq, decide_eq_true h5, cond_true]
      rw [wrap64 (n := k + 1) (by omega) (by omega), wrap64 (n := k + 1 + 1) (by omega) (by omega)]
      rw [mk4 hb']
      dsimp only
      rw [ck rfl]
      rw [mk4 hb']
      dsimp only
      rw [ck rfl]
      rw [mk4 hb']
      dsimp only
      rw [show Q_l_heldCmdS big _ (k + 1 + 1) = _ from g1, Option.bind_some, not_neg (by omega), cond_false]
      rw [wrap64 (n := k1 + 1) (by omega) (by omega), wrap64 (n := k1 + 1 + 1) (by omega) (by omega), wrap64 (n := k1 + 1 + 1 + 1) (by omega) (by omega), wrap64 (n := k1 + 1 + 1 + 1 + 1) (by omega) (by omega)]
      rw [mk4 hb']
      dsimp only
      rw [ck rfl]
      rw [mk4 hb']
      dsimp only
      rw [ck rfl]
      rw [mk4 hb']
      dsimp only
      rw [ck rfl]
      rw [mk4 hb']
      dsimp only
      rw [ck rfl]
      rw [wrap64 (n := (i : Int) + 1) (by omega) (by omega)]
  · simp only [R_l_markBlockS_2_eq, Int.lt_irrefl, decide_false, cond_false]
  · simp only [R_l_heldBlockS_2_eq, Int.lt_irrefl, decide_false, cond_false]

theorem mh_PeerS {xs : List DIPeer} (hl : xs.length ≤ 16777216) (hB : ∀ x ∈ xs, (PeerB : DIPeer → Prop) x) {k : Int} (hk : 0 < k) (hM : k + 16777216 * 402653199 ≤ 4611686018427387904) :
    ∃ (k' : Int) (b' : List DIPeer), Q_l_markPeerS big xs k = some (k', b', ()) ∧ Q_l_heldPeerS big b' k = some k' ∧ k ≤ k' ∧ k' ≤ k + 16777216 * 402653199 := by
  simp only [Q_l_markPeerS_eq, Q_l_heldPeerS_eq]
  refine mh_list (xs := xs) (W := 402653199) (B := PeerB) (r := fun n k i b => R_l_markPeerS_2 n k i b) (s := fun n b k i => R_l_heldPeerS_2 n b k i) (n := big) (by decide) (fun k i b hi hx h1 h2 h3 => ?_) (fun n k b => ?_) (fun n k b => ?_) (by decide) hl hB hk (by omega)
  · have h4 : (i : Int) < (b.length : Int) := by omega
    obtain ⟨k1, b1, m1, g1, l1, u1⟩ := mh_IntS hx.row (k := k + 1 + 1 + 1 + 1 + 1 + 1 + 1 + 1 + 1 + 1 + 1 + 1 + 1 + 1) (by omega) (by omega)
    obtain ⟨k2, b2, m2, g2, l2, u2⟩ := mh_CellS hx.cells (k := k1) (by omega) (by omega)
    obtain ⟨k3, b3, m3, g3, l3, u3⟩ := mh_IntS hx.early (k := k2) (by omega) (by omega)
    obtain ⟨k4, b4, m4, g4, l4, u4⟩ := mh_UndoS hx.undos (k := k3) (by omega) (by omega)
    obtain ⟨k5, b5, m5, g5, l5, u5⟩ := mh_VoteS hx.votes (k := k4) (by omega) (by omega)
    obtain ⟨k6, b6, m6, g6, l6, u6⟩ := mh_LetterS hx.news (k := k5) (by omega) (by omega)
    refine ⟨((k, k + 1, (k + 1 + 1, k + 1 + 1 + 1, k + 1 + 1 + 1 + 1, k + 1 + 1 + 1 + 1 + 1, ()), (k + 1 + 1 + 1 + 1 + 1 + 1, k + 1 + 1 + 1 + 1 + 1 + 1 + 1, k + 1 + 1 + 1 + 1 + 1 + 1 + 1 + 1, k + 1 + 1 + 1 + 1 + 1 + 1 + 1 + 1 + 1, ()), (k + 1 + 1 + 1 + 1 + 1 + 1 + 1 + 1 + 1 + 1, k + 1 + 1 + 1 + 1 + 1 + 1 + 1 + 1 + 1 + 1 + 1, k + 1 + 1 + 1 + 1 + 1 + 1 + 1 + 1 + 1 + 1 + 1 + 1, k + 1 + 1 + 1 + 1 + 1 + 1 + 1 + 1 + 1 + 1 + 1 + 1 + 1, ()), b1, b2, b3, b4, b5, b6, k6, ()) : DIPeer), k6 + 1, by omega, by omega, fun n => ?_, fun m b' hb' => ?_⟩
    · rw [R_l_markPeerS_2_eq, decide_eq_true h4, cond_true]
      rw [mk1 hi]
      rw [mk2 hi]
      dsimp only
      rw [mk2 hi]
      dsimp only
      rw [mk2 hi]
      dsimp only
      rw [mk2 hi]
      dsimp only
      rw [mk2 hi]
      dsimp only
      rw [mk2 hi]
      dsimp only
      rw [mk2 hi]
      dsimp only
      rw [mk2 hi]
      dsimp only
      rw [mk2 hi]
      dsimp only
      rw [mk2 hi]
      dsimp only
      rw [mk2 hi]
      dsimp only
      rw [mk2 hi]
      dsimp only
      rw [mk2 hi]
      dsimp only
      rw [wrap64 (n := k + 1) (by omega) (by omega), wrap64 (n := k + 1 + 1) (by omega) (by omega), wrap64 (n := k + 1 + 1 + 1) (by omega) (by omega), wrap64 (n := k + 1 + 1 + 1 + 1) (by omega) (by omega), wrap64 (n := k + 1 + 1 + 1 + 1 + 1) (by omega) (by omega), wrap64 (n := k + 1 + 1 + 1 + 1 + 1 + 1) (by omega) (by omega), wrap64 (n := k + 1 + 1 + 1 + 1 + 1 + 1 + 1) (by omega) (by omega), wrap64 (n := k + 1 + 1 + 1 + 1 + 1 + 1 + 1 + 1) (by omega) (by omega), wrap64 (n := k + 1 + 1 + 1 + 1 + 1 + 1 + 1 + 1 + 1) (by omega) (by omega), wrap64 (n := k + 1 + 1 + 1 + 1 + 1 + 1 + 1 + 1 + 1 + 1) (by omega) (by omega), wrap64 (n := k + 1 + 1 + 1 + 1 + 1 + 1 + 1 + 1 + 1 + 1 + 1) (by omega) (by omega), wrap64 (n := k + 1 + 1 + 1 + 1 + 1 + 1 + 1 + 1 + 1 + 1 + 1 + 1) (by omega) (by omega), wrap64 (n := k + 1 + 1 + 1 + 1 + 1 + 1 + 1 + 1 + 1 + 1 + 1 + 1 + 1) (by omega) (by omega), wrap64 (n := k + 1 + 1 + 1 + 1 + 1 + 1 + 1 + 1 + 1 + 1 + 1 + 1 + 1 + 1) (by omega) (by omega)]
      rw [mk3 hi, show Q_l_markIntS big _ (k + 1 + 1 + 1 + 1 + 1 + 1 + 1 + 1 + 1 + 1 + 1 + 1 + 1 + 1) = _ from m1, Option.bind_some, mk5 hi]
      dsimp only
      rw [mk3 hi, show Q_l_markCellS big _ (k1) = _ from m2, Option.bind_some, mk5 hi]
      dsimp only
      rw [mk3 hi, show Q_l_markIntS big _ (k2) = _ from m3, Option.bind_some, mk5 hi]
      dsimp only
      rw [mk3 hi, show Q_l_markUndoS big _ (k3) = _ from m4, Option.bind_some, mk5 hi]
      dsimp only
      rw [mk3 hi, show Q_l_markVoteS big _ (k4) = _ from m5, Option.bind_some, mk5 hi]
      dsimp only
      rw [mk3 hi, show Q_l_markLetterS big _ (k5) = _ from m6, Option.bind_some, mk5 hi]
      dsimp only
      rw [mk2 hi]
      dsimp only
      rw [wrap64 (n := k6 + 1) (by omega) (by omega)]
      rw [wrap64 (n := (i : Int) + 1) (by omega) (by omega)]
    · have h5 : (i : Int) < (b'.length : Int) := by have := nth_lt hb'; omega
      rw [R_l_heldPeerS_2_eq, decide_eq_true h5, cond_true]
      rw [wrap64 (n := k + 1) (by omega) (by omega), wrap64 (n := k + 1 + 1) (by omega) (by omega), wrap64 (n := k + 1 + 1 + 1) (by omega) (by omega), wrap64 (n := k + 1 + 1 + 1 + 1) (by omega) (by omega), wrap64 (n := k + 1 + 1 + 1 + 1 + 1) (by omega) (by omega), wrap64 (n := k + 1 + 1 + 1 + 1 + 1 + 1) (by omega) (by omega), wrap64 (n := k + 1 + 1 + 1 + 1 + 1 + 1 + 1) (by omega) (by omega), wrap64 (n := k + 1 + 1 + 1 + 1 + 1 + 1 + 1 + 1) (by omega) (by omega), wrap64 (n := k + 1 + 1 + 1 + 1 + 1 + 1 + 1 + 1 + 1) (by omega) (by omega), wrap64 (n := k + 1 + 1 + 1 + 1 + 1 + 1 + 1 + 1 + 1 + 1) (by omega) (by omega), wrap64 (n := k + 1 + 1 + 1 + 1 + 1 + 1 + 1 + 1 + 1 + 1 + 1) (by omega) (by omega), wrap64 (n := k + 1 + 1 + 1 + 1 + 1 + 1 + 1 + 1 + 1 + 1 + 1 + 1) (by omega) (by omega), wrap64 (n := k + 1 + 1 + 1 + 1 + 1 + 1 + 1 + 1 + 1 + 1 + 1 + 1 + 1) (by omega) (by omega), wrap64 (n := k + 1 + 1 + 1 + 1 + 1 + 1 + 1 + 1 + 1 + 1 + 1 + 1 + 1 + 1) (by omega) (by omega)]
      rw [mk4 hb']
      dsimp only
      rw [ck rfl]
      rw [mk4 hb']
      dsimp only
      rw [ck rfl]
      rw [mk4 hb']
      dsimp only
      rw [ck rfl]
      rw [mk4 hb']
      dsimp only
      rw [ck rfl]
      rw [mk4 hb']
      dsimp only
      rw [ck rfl]
      rw [mk4 hb']
      dsimp only
      rw [ck rfl]
      rw [mk4 hb']
      dsimp only
      rw [ck rfl]
      rw [mk4 hb']
      dsimp only
      rw [ck rfl]
      rw [mk4 hb']
      dsimp only
      rw [ck rfl]
      rw [mk4 hb']
      dsimp only
      rw [ck rfl]
      rw [mk4 hb']
      dsimp only
      rw [ck rfl]
      rw [mk4 hb']
      dsimp only
      rw [ck rfl]
      rw [mk4 hb']
      dsimp only
      rw [ck rfl]
      rw [mk4 hb']
      dsimp only
      rw [ck rfl]
      rw [mk4 hb']
      dsimp only
      rw [show Q_l_heldIntS big _ (k + 1 + 1 + 1 + 1 + 1 + 1 + 1 + 1 + 1 + 1 + 1 + 1 + 1 + 1) = _ from g1, Option.bind_some, not_neg (by omega), cond_false]
      rw [mk4 hb']
      dsimp only
      rw [show Q_l_heldCellS big _ (k1) = _ from g2, Option.bind_some, not_neg (by omega), cond_false]
      rw [mk4 hb']
      dsimp only
      rw [show Q_l_heldIntS big _ (k2) = _ from g3, Option.bind_some, not_neg (by omega), cond_false]
      rw [mk4 hb']
      dsimp only
      rw [show Q_l_heldUndoS big _ (k3) = _ from g4, Option.bind_some, not_neg (by omega), cond_false]
      rw [mk4 hb']
      dsimp only
      rw [show Q_l_heldVoteS big _ (k4) = _ from g5, Option.bind_some, not_neg (by omega), cond_false]
      rw [mk4 hb']
      dsimp only
      rw [show Q_l_heldLetterS big _ (k5) = _ from g6, Option.bind_some, not_neg (by omega), cond_false]
      rw [wrap64 (n := k6 + 1) (by omega) (by omega)]
      rw [mk4 hb']
      dsimp only
      rw [ck rfl]
      rw [wrap64 (n := (i : Int) + 1) (by omega) (by omega)]
  · simp only [R_l_markPeerS_2_eq, Int.lt_irrefl, decide_false, cond_false]
  · simp only [R_l_heldPeerS_2_eq, Int.lt_irrefl, decide_false, cond_false]

structure ClB (x : DICluster) : Prop where
  bg : Bg tICluster x
  trees : List.length x.2.2.2.1 ≤ 16777216
  tree : ∀ y ∈ x.2.2.2.1, List.length y.2.2.1 ≤ 16777216
  peers : List.length x.2.2.2.2.1 ≤ 16777216
  peer : ∀ y ∈ x.2.2.2.2.1, PeerB y
  way : List.length x.2.2.2.2.2.1 ≤ 16777216
  votes : List.length x.2.2.2.2.2.2.1 ≤ 16777216
  cmds : List.length x.2.2.2.2.2.2.2.1 ≤ 16777216
theorem ClB.of {x : DICluster} (h : Bg tICluster x) : ClB x :=
  ⟨h, h.2.2.2.1.1, fun y hy => (h.2.2.2.1.2 y hy).2.2.1.1, h.2.2.2.2.1.1, fun y hy => PeerB.of (h.2.2.2.2.1.2 y hy), h.2.2.2.2.2.1.1, h.2.2.2.2.2.2.1.1, h.2.2.2.2.2.2.2.1.1⟩

theorem mh_Cluster {x : DICluster} (h : ClB x) {k : Int} (hk : 0 < k) (hM : k + 16777216 * 452984893 ≤ 4611686018427387904) :
    ∃ (k' : Int), ∃ y, Q_l_markCluster big x k = some (k', y, ()) ∧ k ≤ k' ∧ k' ≤ k + 16777216 * 452984893 ∧
      Q_l_heldCluster big (x.1, x.2.1, x.2.2.1, y.2.2.2.1, y.2.2.2.2.1, y.2.2.2.2.2.1, y.2.2.2.2.2.2.1, y.2.2.2.2.2.2.2.1, x.2.2.2.2.2.2.2.2) k = some k' := by
  obtain ⟨k1, b1, m1, h1, l1, u1⟩ := mh_BlockS h.trees h.tree hk (by omega)
  obtain ⟨k2, b2, m2, h2, l2, u2⟩ := mh_PeerS h.peers h.peer (k := k1) (by omega) (by omega)
  obtain ⟨k3, b3, m3, h3, l3, u3⟩ := mh_LetterS h.way (k := k2) (by omega) (by omega)
  obtain ⟨k4, b4, m4, h4, l4, u4⟩ := mh_VoteS h.votes (k := k3) (by omega) (by omega)
  obtain ⟨k5, b5, m5, h5, l5, u5⟩ := mh_CmdS h.cmds (k := k4) (by omega) (by omega)
  refine ⟨k5, ((), (), (), b1, b2, b3, b4, b5, ()), ?_, by omega, by omega, ?_⟩
  · rw [Q_l_markCluster_eq]
    simp only [m1, m2, m3, m4, m5, Option.bind_some]
  · rw [Q_l_heldCluster_eq]
    simp (disch := omega) only [h1, h2, h3, h4, h5, Option.bind_some, not_neg, cond_false]

end Go.Sx.Try

set_option maxRecDepth 100000
namespace Go.Sx.Try
open Go Go.Sx Go.Proofs

theorem c_in (x a b : Int) : Q_i_in big x a b = some (bif decide (a ≤ x) then decide (x ≤ b) else false) := by
  rw [Q_i_in_eq]
  cases decide (a ≤ x) <;> rfl
theorem c_l01In (x a b : Int) : Q_s_l01In big x a b = some (bif decide (a ≤ x) then decide (x ≤ b) else false) := by
  rw [Q_s_l01In_eq]
  cases decide (a ≤ x) <;> rfl
theorem c_isNum (n : Int) : Q_i_isNum big n = some (numB n) := by rw [Q_i_isNum_eq, c_in]; rfl

theorem p_i_KeyOk (k : ByteArray) (h : k.size ≤ 1048576) : Q_i_KeyOk big k = some (keyB k) := by
  have hl : k.data.toList.length = k.size := by rw [Array.length_toList]; rfl
  have hk := any_ok (xs := k.data.toList) (p := fun y => decide ((y.toNat : Int) < 97) || decide (122 < (y.toNat : Int))) (b := false) (e := some (bif decide ((1 : Int) ≤ (k.size : Int)) then decide ((k.size : Int) ≤ 3) else false))
    (r := fun n i => R_i_KeyOk_2 n k (k.size : Int) i) (n := big) (fun n i hi => by
      rw [R_i_KeyOk_2_eq, decide_eq_true (by omega), cond_true, mk4 (nth_at hi), mk4 (nth_at hi), wrap_succ (by omega)]
      cases decide (((k.data.toList[i]).toNat : Int) < 97) <;> cases decide (122 < ((k.data.toList[i]).toNat : Int)) <;> rfl) (fun n => by
      rw [R_i_KeyOk_2_eq, decide_eq_false (by omega), cond_false, c_in]; rfl) (by rw [hl]; exact Nat.lt_of_le_of_lt h (by decide))
  rw [Q_i_KeyOk_eq]
  refine hk.trans ?_
  unfold keyB
  cases k.data.toList.any _ <;> rfl
theorem p_s_KeyOk (k : ByteArray) (h : k.size ≤ 1048576) : Q_s_KeyOk big k = some (keyB k) := by
  have hl : k.data.toList.length = k.size := by rw [Array.length_toList]; rfl
  have hk := any_ok (xs := k.data.toList) (p := fun y => decide ((y.toNat : Int) < 97) || decide (122 < (y.toNat : Int))) (b := false) (e := some (bif decide ((1 : Int) ≤ (k.size : Int)) then decide ((k.size : Int) ≤ 3) else false))
    (r := fun n i => R_s_KeyOk_2 n k i) (n := big) (fun n i hi => by
      rw [R_s_KeyOk_2_eq, decide_eq_true (by omega), cond_true, mk4 (nth_at hi), mk4 (nth_at hi), wrap_succ (by omega)]
      cases decide (((k.data.toList[i]).toNat : Int) < 97) <;> cases decide (122 < ((k.data.toList[i]).toNat : Int)) <;> rfl) (fun n => by
      rw [R_s_KeyOk_2_eq, decide_eq_false (by omega), cond_false, c_l01In]; rfl) (by rw [hl]; exact Nat.lt_of_le_of_lt h (by decide))
  rw [Q_s_KeyOk_eq]
  refine hk.trans ?_
  unfold keyB
  cases k.data.toList.any _ <;> rfl

theorem p_i_CmdOk (c : DICmd) (h : ByteArray.size c.2.1 ≤ 1048576) : Q_i_CmdOk big c = some (cmdB c) := by
  rw [Q_i_CmdOk_eq, c_in, p_i_KeyOk _ h, c_isNum]
  unfold cmdB
  simp only [Option.bind_some]
  generalize (bif decide ((1 : Int) ≤ c.1) then decide (c.1 ≤ 3) else false) = b
  cases b <;> cases keyB c.2.1 <;> rfl
theorem p_s_CmdOk (c : DICmd) (h : ByteArray.size c.2.1 ≤ 1048576) : Q_s_CmdOk big c = some (cmdB c) := by
  rw [Q_s_CmdOk_eq, c_l01In, p_s_KeyOk _ h, c_l01In]
  unfold cmdB numB
  simp only [Option.bind_some]
  generalize (bif decide ((1 : Int) ≤ c.1) then decide (c.1 ≤ 3) else false) = b
  cases b <;> cases keyB c.2.1 <;> rfl

/-! ### Rows of cells -/
structure CellsB (xs : List DICell) : Prop where
  len : xs.length ≤ 16777216
  key : ∀ y ∈ xs, ByteArray.size y.1 ≤ 1048576

/-- the key ahead of a place -/
def prevO (xs : List DICell) : Nat → Option ByteArray
  | 0 => none
  | j + 1 => (nth xs j).map (·.1)

theorem form_loop (xs : List DICell) (h : CellsB xs) : ∀ (n i : Nat), xs.length < n + i → i ≤ xs.length → R_i_cellsForm_2 n xs xs (xs.length : Int) (i : Int) = some (frm (prevO xs i) (xs.drop i))
  | 0, i, h1, h2 => by omega
  | n + 1, i, h1, h2 => by
    have hl := h.len
    rcases Nat.lt_or_ge i xs.length with hi | hi
    · have ih := form_loop xs h n (i + 1) (by omega) (by omega)
      rw [R_i_cellsForm_2_eq, decide_eq_true (by omega), cond_true, mk4 (nth_at hi), p_i_KeyOk _ (h.key _ (List.getElem_mem hi)), Option.bind_some, c_isNum, Option.bind_some]
      rw [List.drop_eq_getElem_cons hi]
      have hp : prevO xs (i + 1) = some xs[i].1 := by simp only [prevO, nth_at hi, Option.map_some]
      rw [hp] at ih
      simp only [frm]
      cases keyB xs[i].1 with
      | false => rfl
      | true =>
        cases numB xs[i].2.1 with
        | false => rfl
        | true =>
          simp only [Bool.not_true, cond_false, Bool.true_and]
          cases i with
          | zero =>
            rw [decide_eq_false (by omega), cond_false, wrap_succ (by omega), ih]
            rfl
          | succ j =>
            have hj : j < xs.length := by omega
            rw [decide_eq_true (show (0 : Int) < ((j + 1 : Nat) : Int) by omega), cond_true, wrap64 (n := ((j + 1 : Nat) : Int) - 1) (by omega) (by omega), show ((j + 1 : Nat) : Int) - 1 = (j : Int) by omega, mk4 (nth_at hj), wrap_succ (by omega), ih]
            have hq : prevO xs (j + 1) = some xs[j].1 := by simp only [prevO, nth_at hj, Option.map_some]
            rw [hq]
            show (bif !kl xs[j].1 xs[j + 1].1 then some false else _) = some (kl xs[j].1 xs[j + 1].1 && _)
            cases kl xs[j].1 xs[j + 1].1 <;> rfl
    · have e : i = xs.length := by omega
      subst e
      rw [R_i_cellsForm_2_eq, decide_eq_false (by omega), cond_false, List.drop_length]
      rfl
theorem sform_loop (xs : List DICell) (h : CellsB xs) : ∀ (n i : Nat), xs.length < n + i → i ≤ xs.length → R_s_CellsOk_2 n xs (i : Int) = some (bif frm (prevO xs i) (xs.drop i) then decide ((xs.length : Int) ≤ 12) else false)
  | 0, i, h1, h2 => by omega
  | n + 1, i, h1, h2 => by
    have hl := h.len
    rcases Nat.lt_or_ge i xs.length with hi | hi
    · have ih := sform_loop xs h n (i + 1) (by omega) (by omega)
      rw [R_s_CellsOk_2_eq, decide_eq_true (by omega), cond_true, mk4 (nth_at hi), p_s_KeyOk _ (h.key _ (List.getElem_mem hi)), Option.bind_some, mk4 (nth_at hi), c_l01In, Option.bind_some]
      rw [List.drop_eq_getElem_cons hi]
      have hp : prevO xs (i + 1) = some xs[i].1 := by simp only [prevO, nth_at hi, Option.map_some]
      rw [hp] at ih
      simp only [frm]
      rw [show (bif decide ((0 : Int) ≤ xs[i].2.1) then decide (xs[i].2.1 ≤ 1000000000) else false) = numB xs[i].2.1 from rfl]
      cases keyB xs[i].1 with
      | false => rfl
      | true =>
        cases numB xs[i].2.1 with
        | false => rfl
        | true =>
          simp only [Bool.not_true, cond_false, Bool.true_and]
          cases i with
          | zero =>
            rw [decide_eq_false (by omega), cond_false, wrap_succ (by omega), ih]
            rfl
          | succ j =>
            have hj : j < xs.length := by omega
            rw [decide_eq_true (show (0 : Int) < ((j + 1 : Nat) : Int) by omega), cond_true, wrap64 (n := ((j + 1 : Nat) : Int) - 1) (by omega) (by omega), show ((j + 1 : Nat) : Int) - 1 = (j : Int) by omega, mk4 (nth_at hj), mk4 (nth_at hi), wrap_succ (by omega), ih]
            have hq : prevO xs (j + 1) = some xs[j].1 := by simp only [prevO, nth_at hj, Option.map_some]
            rw [hq]
            show (bif !kl xs[j].1 xs[j + 1].1 then some false else _) = some (bif (kl xs[j].1 xs[j + 1].1 && _) then _ else _)
            cases kl xs[j].1 xs[j + 1].1 <;> rfl
    · have e : i = xs.length := by omega
      subst e
      rw [R_s_CellsOk_2_eq, decide_eq_false (by omega), cond_false, List.drop_length]
      rfl
theorem p_i_CellsOk (xs : List DICell) (h : CellsB xs) : Q_i_CellsOk big xs = some (okB xs) := by
  have := form_loop xs h big 0 (by have := h.len; unfold big; omega) (by omega)
  rw [Int.natCast_zero, List.drop_zero] at this
  rw [Q_i_CellsOk_eq, Q_i_cellsForm_eq, this]
  unfold okB prevO
  cases decide ((xs.length : Int) ≤ 12) <;> rfl
theorem p_s_CellsOk (xs : List DICell) (h : CellsB xs) : Q_s_CellsOk big xs = some (okB xs) := by
  have := sform_loop xs h big 0 (by have := h.len; unfold big; omega) (by omega)
  rw [Int.natCast_zero, List.drop_zero] at this
  rw [Q_s_CellsOk_eq, this]
  unfold okB prevO
  cases decide ((xs.length : Int) ≤ 12) <;> cases frm none xs <;> rfl

/-! ### Where a key stands -/
theorem idx1_loop {α : Type} {p : α → Bool} {xs : List α} {r : Nat → Int → Option Int}
    (hr : ∀ (n k : Nat) (hk : k < xs.length), r (n + 1) (k : Int) = bif p xs[k] then some (k : Int) else r n ((k + 1 : Nat) : Int)) (h0 : ∀ n, r (n + 1) ((xs.length : Nat) : Int) = some (-1)) :
    ∀ (n k : Nat), xs.length < n + k → k ≤ xs.length → r n (k : Int) = some (fIdx p (xs.drop k) k)
  | 0, k, h, h2 => by omega
  | n + 1, k, h, h2 => by
    rcases Nat.lt_or_ge k xs.length with hk | hk
    · rw [hr n k hk, List.drop_eq_getElem_cons hk]
      simp only [fIdx]
      cases p xs[k] with
      | true => rfl
      | false =>
        simp only [cond_false]
        rw [idx1_loop hr h0 n (k + 1) (by omega) (by omega)]
        rfl
    · have e1 : k = xs.length := by omega
      subst e1
      rw [h0, List.drop_length]; rfl
def isK (k : ByteArray) (y : DICell) : Bool := decide (y.1 = k)
theorem p_i_CellAt (xs : List DICell) (k : ByteArray) (hl : xs.length ≤ 16777216) : Q_i_CellAt big xs k = some (fIdx (isK k) xs 0) := by
  rw [Q_i_CellAt_eq, Q_g_IndexFunc_ICell__i_CellAt_1_eq]
  rw [idx_ok (xs := xs) (p := isK k) (c := ((k, ()), ())) (r := fun n i => R_g_IndexFunc_ICell__i_CellAt_1_2 n xs (xs.length : Int) i k) (n := big) (fun n i hi => ?_) (fun n => ?_) (Nat.lt_of_le_of_lt hl (by decide))]
  · rfl
  · rw [R_g_IndexFunc_ICell__i_CellAt_1_2_eq, decide_eq_true (by omega), cond_true, mk4 (nth_at hi), wrap_succ (by omega)]
    rfl
  · rw [R_g_IndexFunc_ICell__i_CellAt_1_2_eq, decide_eq_false (Int.lt_irrefl _)]
    rfl
theorem p_s_CellAt (xs : List DICell) (k : ByteArray) (hl : xs.length ≤ 16777216) : Q_s_CellAt big xs k = some (fIdx (isK k) xs 0) := by
  rw [Q_s_CellAt_eq]
  have := idx1_loop (xs := xs) (p := isK k) (r := fun n i => R_s_CellAt_2 n xs k i) (fun n i hi => by
    rw [R_s_CellAt_2_eq, decide_eq_true (by omega), cond_true, mk4 (nth_at hi), wrap_succ (by omega)]
    rfl) (fun n => by
    rw [R_s_CellAt_2_eq, decide_eq_false (Int.lt_irrefl _)]
    rfl) big 0 (by unfold big; omega) (by omega)
  rw [Int.natCast_zero, List.drop_zero] at this
  exact this
theorem at_spec (k : ByteArray) : ∀ (l : List DICell) (j : Int), (fIdx (isK k) l j = -1 ∧ hasK k l = false ∧ numAt k l = none ∧ ∀ y ∈ l, y.1 ≠ k) ∨ ∃ (i : Nat) (y : DICell), fIdx (isK k) l j = j + i ∧ nth l i = some y ∧ y.1 = k ∧ hasK k l = true ∧ numAt k l = some y.2.1
  | [], j => .inl ⟨rfl, rfl, rfl, by simp⟩
  | z :: l, j => by
    by_cases e : z.1 = k
    · exact .inr ⟨0, z, by simp only [fIdx, isK, decide_eq_true e, cond_true]; omega, rfl, e, by simp only [hasK, List.any_cons, decide_eq_true e, Bool.true_or], by simp only [numAt, decide_eq_true e, cond_true]⟩
    · rcases at_spec k l (j + 1) with ⟨h1, h2, h3, h4⟩ | ⟨i, y, h1, h2, h3, h4, h5⟩
      · refine .inl ⟨by simp only [fIdx, isK, decide_eq_false e, cond_false]; exact h1, by simp only [hasK, List.any_cons, decide_eq_false e, Bool.false_or]; exact h2, by simp only [numAt, decide_eq_false e, cond_false]; exact h3, fun y hy => ?_⟩
        rcases List.mem_cons.1 hy with q | q
        · subst q; exact e
        · exact h4 y q
      · exact .inr ⟨i + 1, y, by simp only [fIdx, isK, decide_eq_false e, cond_false]; rw [h1]; omega, h2, h3, by simp only [hasK, List.any_cons, decide_eq_false e, Bool.false_or]; exact h4, by simp only [numAt, decide_eq_false e, cond_false]; exact h5⟩

/-! ### A cell put in its place -/
theorem with_loop (xs : List DICell) (hl : xs.length ≤ 16777216) (k : ByteArray) (m : Int) (hn : ∀ y ∈ xs, y.1 ≠ k) : ∀ (n i : Nat), xs.length < n + i → i ≤ xs.length → R_i_withCell_7 n xs k m (i : Int) xs = some (xs.take i ++ putC k m (xs.drop i))
  | 0, i, h1, h2 => by omega
  | n + 1, i, h1, h2 => by
    have hins : ∀ (i : Nat), i ≤ xs.length → (Q_g_Insert_ICell big xs (i : Int) [(k, m, ())]).bind (fun y => some y) = some (xs.take i ++ ((k, m, ()) :: xs.drop i)) := fun i hi => by
      rw [Q_g_Insert_ICell_eq, if_pos (by omega), if_pos (by omega), if_pos (show List.length [(k, m, ())] = 1 from rfl), if_pos (by unfold lim; omega), Int.toNat_natCast]
      rfl
    rcases Nat.lt_or_ge i xs.length with hi | hi
    · rw [R_i_withCell_7_eq, decide_eq_true (by omega), cond_true, mk4 (nth_at hi), wrap_succ (by omega), with_loop xs hl k m hn n (i + 1) (by omega) (by omega), hins i (by omega)]
      rw [List.drop_eq_getElem_cons hi]
      simp only [putC]
      rw [decide_eq_false (hn _ (List.getElem_mem hi)), cond_false, List.take_succ_eq_append_getElem hi, List.append_assoc]
      show (bif kl xs[i].1 k then _ else _) = _
      cases kl xs[i].1 k <;> rfl
    · have e : i = xs.length := by omega
      subst e
      rw [R_i_withCell_7_eq, decide_eq_false (by omega), cond_false, hins xs.length (Nat.le_refl _), List.drop_length]
      rfl
theorem p_withCell (xs : List DICell) (h : CellsB xs) (hf : frm none xs = true) (k : ByteArray) (m : Int) : Q_i_withCell big xs k m = some (putC k m xs) := by
  rw [Q_i_withCell_eq, pClone_ICell _ h.len, Option.bind_some, p_i_CellAt xs k h.len, Option.bind_some]
  rcases at_spec k xs 0 with ⟨h1, _, _, h4⟩ | ⟨i, y, h1, h2, h3, _⟩
  · rw [h1, decide_eq_false (by omega), cond_false]
    have := with_loop xs h.len k m h4 big 0 (by have := h.len; unfold big; omega) (by omega)
    rw [Int.natCast_zero, List.take_zero, List.drop_zero] at this
    exact this
  · have hi : i < xs.length := nth_lt h2
    rw [h1, Int.zero_add, decide_eq_true (by omega), cond_true, if_pos (by omega), if_pos (by omega), Int.toNat_natCast, h2, Option.bind_some, updO_at hi, put_upd hf h2 h3]
    rfl

/-! ### .. as the reference puts it -/
theorem put9_loop (xs : List DICell) (hl : xs.length ≤ 16777216) (k : ByteArray) (m : Int) : ∀ (n i : Nat) (acc : List DICell), xs.length < n + i → i ≤ xs.length → acc.length ≤ 16777217 + i →
    R_s_l03Put_9 n xs acc (i : Int) k m = some (acc ++ (xs.drop i).filter (fun y => !(kl y.1 k || decide (y.1 = k))))
  | 0, i, acc, h1, h2, h3 => by omega
  | n + 1, i, acc, h1, h2, h3 => by
    rcases Nat.lt_or_ge i xs.length with hi | hi
    · rw [R_s_l03Put_9_eq, decide_eq_true (by omega), cond_true, mk4 (nth_at hi), mk4 (nth_at hi), if_pos (by unfold lim; simp only [List.length_singleton]; omega), wrap_succ (by omega), List.drop_eq_getElem_cons hi, List.filter_cons]
      show (bif !(kl xs[i].1 k || decide (xs[i].1 = k)) then _ else _) = _
      cases (!(kl xs[i].1 k || decide (xs[i].1 = k))) with
      | true =>
        rw [cond_true, put9_loop xs hl k m n (i + 1) _ (by omega) (by omega) (by simp; omega)]
        simp
      | false =>
        rw [cond_false, put9_loop xs hl k m n (i + 1) _ (by omega) (by omega) (by omega)]
        simp
    · have e : i = xs.length := by omega
      subst e
      rw [R_s_l03Put_9_eq, decide_eq_false (by omega), cond_false, List.drop_length]
      simp
theorem put3_loop (xs : List DICell) (hl : xs.length ≤ 16777216) (k : ByteArray) (m : Int) : ∀ (n i : Nat) (acc : List DICell), xs.length + xs.length + 1 < n + i → i ≤ xs.length → acc.length ≤ i →
    R_s_l03Put_3 n xs acc (i : Int) k m = some (acc ++ ((xs.drop i).filter (fun y => kl y.1 k) ++ (k, m, ()) :: xs.filter (fun y => !(kl y.1 k || decide (y.1 = k)))))
  | 0, i, acc, h1, h2, h3 => by omega
  | n + 1, i, acc, h1, h2, h3 => by
    rcases Nat.lt_or_ge i xs.length with hi | hi
    · rw [R_s_l03Put_3_eq, decide_eq_true (by omega), cond_true, mk4 (nth_at hi), mk4 (nth_at hi), if_pos (by unfold lim; simp only [List.length_singleton]; omega), wrap_succ (by omega), List.drop_eq_getElem_cons hi, List.filter_cons]
      show (bif kl xs[i].1 k then _ else _) = _
      cases kl xs[i].1 k with
      | true =>
        rw [cond_true, put3_loop xs hl k m n (i + 1) _ (by omega) (by omega) (by simp; omega)]
        simp
      | false =>
        rw [cond_false, put3_loop xs hl k m n (i + 1) _ (by omega) (by omega) (by omega)]
        simp
    · have e : i = xs.length := by omega
      subst e
      rw [R_s_l03Put_3_eq, decide_eq_false (by omega), cond_false, if_pos (by unfold lim; simp only [List.length_singleton]; omega)]
      have := put9_loop xs hl k m n 0 (acc ++ [(k, m, ())]) (by omega) (by omega) (by simp; omega)
      rw [Int.natCast_zero, List.drop_zero] at this
      rw [List.drop_length]
      refine this.trans ?_
      simp
theorem p_l03Put (xs : List DICell) (hl : xs.length ≤ 16777216) (hf : frm none xs = true) (k : ByteArray) (m : Int) : Q_s_l03Put big xs (k, m, ()) = some (putC k m xs) := by
  have := put3_loop xs hl k m big 0 [] (by unfold big; omega) (by omega) (by simp)
  rw [Int.natCast_zero, List.drop_zero, List.nil_append, put_filter hf] at this
  rw [Q_s_l03Put_eq]
  exact this

/-! ### One command -/
theorem okB_form {xs : List DICell} (h : okB xs = true) : frm none xs = true ∧ xs.length ≤ 12 := by
  unfold okB at h
  by_cases hl : (xs.length : Int) ≤ 12
  · rw [decide_eq_true hl] at h; exact ⟨h, by omega⟩
  · rw [decide_eq_false hl] at h; cases h
theorem cmdB_key {c : DICmd} (h : cmdB c = true) : keyB c.2.1 = true ∧ numB c.2.2.1 = true := by
  unfold cmdB at h
  revert h
  generalize (bif decide ((1 : Int) ≤ c.1) then decide (c.1 ≤ 3) else false) = b
  cases b <;> cases keyB c.2.1 <;> cases numB c.2.2.1 <;> simp
theorem nth_key {xs : List DICell} {i : Nat} {y : DICell} (hf : frm none xs = true) (hn : nth xs i = some y) : keyB y.1 = true ∧ numB y.2.1 = true := by
  rw [nth_eq] at hn
  exact frm_key hf y (List.mem_of_getElem? hn)
theorem mem_put {k : ByteArray} {m : Int} : ∀ {l : List DICell} {y : DICell}, y ∈ putC k m l → y ∈ l ∨ y.1 = k
  | [], y, h => by simp only [putC, List.mem_singleton] at h; subst h; exact .inr rfl
  | z :: l, y, h => by
    simp only [putC] at h
    cases hz : kl z.1 k with
    | true =>
      rw [hz, cond_true] at h
      rcases List.mem_cons.1 h with e | h
      · exact .inl (by simp [e])
      · exact (mem_put h).imp (fun q => by simp [q]) id
    | false =>
      rw [hz, cond_false] at h
      by_cases e : z.1 = k
      · rw [decide_eq_true e, cond_true] at h
        rcases List.mem_cons.1 h with e2 | h
        · subst e2; exact .inr rfl
        · exact .inl (by simp [h])
      · rw [decide_eq_false e, cond_false] at h
        rcases List.mem_cons.1 h with e2 | h
        · subst e2; exact .inr rfl
        · exact .inl h
theorem put_B {xs : List DICell} (h : CellsB xs) (h12 : xs.length ≤ 12) (hf : frm none xs = true) {k : ByteArray} (hk : k.size ≤ 1048576) (m : Int) : CellsB (putC k m xs) := by
  refine ⟨?_, fun y hy => ?_⟩
  · rw [put_length hf]
    cases hasK k xs <;> simp <;> omega
  · rcases mem_put hy with q | q
    · exact h.key y q
    · rw [q]; exact hk
theorem done_B {xs : List DICell} (h : CellsB xs) {c : DICmd} (hc : ByteArray.size c.2.1 ≤ 1048576) : CellsB (doneC xs c).1 := by
  unfold doneC
  cases ho : okB xs with
  | false => exact h
  | true =>
    cases cmdB c with
    | false => exact h
    | true =>
      simp only [cond_true]
      split
      · exact h
      · rename_i m _
        cases okB (putC c.2.1 m xs) with
        | true => exact put_B h (okB_form ho).2 (okB_form ho).1 hc m
        | false => exact h

theorem p_i_Done (xs : List DICell) (h : CellsB xs) (c : DICmd) (hc : ByteArray.size c.2.1 ≤ 1048576) : Q_i_Done big xs c = some (doneC xs c) := by
  rw [Q_i_Done_eq, pClone_ICell _ h.len, Option.bind_some, p_i_CellsOk xs h, Option.bind_some]
  unfold doneC
  cases ho : okB xs with
  | false => rfl
  | true =>
    obtain ⟨hf, h12⟩ := okB_form ho
    simp only [Bool.not_true, cond_false, cond_true]
    rw [p_i_CmdOk c hc, Option.bind_some]
    cases hk : cmdB c with
    | false => rfl
    | true =>
      obtain ⟨hk1, hk2⟩ := cmdB_key hk
      have hn := numB_iff.1 hk2
      simp only [Bool.not_true, cond_false, cond_true]
      have fin : ∀ m : Int, ((Q_i_withCell big xs c.2.1 m).bind fun y => (Q_i_CellsOk big y).bind fun y_1 => bif !y_1 then some (xs, (2 : Int), PUnit.unit) else some (y, (0 : Int), PUnit.unit)) =
          some (bif okB (putC c.2.1 m xs) then (putC c.2.1 m xs, (0 : Int), ()) else (xs, (2 : Int), ())) := fun m => by
        rw [p_withCell xs h hf, Option.bind_some, p_i_CellsOk _ (put_B h h12 hf hc m), Option.bind_some]
        cases okB (putC c.2.1 m xs) <;> rfl
      unfold newN
      cases hq : decide (c.1 = 1) with
      | true =>
        simp only [Bool.not_true, cond_false, cond_true]
        exact fin _
      | false =>
        simp only [Bool.not_false, cond_true, cond_false]
        rw [p_i_CellAt xs c.2.1 h.len, Option.bind_some]
        rcases at_spec c.2.1 xs 0 with ⟨h1, _, h3, _⟩ | ⟨i, y, h1, h2, h3, _, h5⟩
        · rw [h1, h3, decide_eq_true (by omega), cond_true]
        · obtain ⟨_, hy2⟩ := nth_key hf h2
          have hy := numB_iff.1 hy2
          rw [h1, h5, Int.zero_add, decide_eq_false (by omega), cond_false, if_pos (by omega), Int.toNat_natCast, h2, Option.bind_some]
          cases hr : decide (c.1 = 3) with
          | true =>
            simp only [cond_true]
            rw [wrap64 (n := 0 - c.2.2.1) (by omega) (by omega), wrap64 (n := 0 - c.2.2.1 + y.2.1) (by omega) (by omega), show 0 - c.2.2.1 + y.2.1 = y.2.1 - c.2.2.1 by omega]
            exact fin _
          | false =>
            simp only [cond_false]
            rw [if_pos (by omega), Option.bind_some, wrap64 (n := c.2.2.1 + y.2.1) (by omega) (by omega), Int.add_comm c.2.2.1]
            exact fin _

theorem p_s_Done (xs : List DICell) (h : CellsB xs) (c : DICmd) (hc : ByteArray.size c.2.1 ≤ 1048576) : Q_s_Done big xs c = some (doneC xs c) := by
  have hl := h.len
  rw [Q_s_Done_eq, if_pos (by unfold lim; omega), p_s_CellsOk xs h, Option.bind_some]
  unfold doneC
  cases ho : okB xs with
  | false => rfl
  | true =>
    obtain ⟨hf, h12⟩ := okB_form ho
    simp only [Bool.not_true, cond_false, cond_true]
    rw [p_s_CmdOk c hc, Option.bind_some]
    cases hk : cmdB c with
    | false => rfl
    | true =>
      obtain ⟨hk1, hk2⟩ := cmdB_key hk
      have hn := numB_iff.1 hk2
      simp only [Bool.not_true, cond_false, cond_true]
      rw [p_s_CellAt xs c.2.1 hl, Option.bind_some]
      have fin : ∀ (m q : Int), (decide (q < 0) = !hasK c.2.1 xs) → ((Q_s_l01In big m (0 : Int) (1000000000 : Int)).bind fun y_1 => bif !y_1 then some (xs, (2 : Int), PUnit.unit) else
          bif decide (q < (0 : Int)) then bif decide ((12 : Int) ≤ (List.length xs : Int)) then some (xs, (2 : Int), PUnit.unit) else (Q_s_l03Put big xs (c.2.1, m, ())).bind fun y => some (y, (0 : Int), PUnit.unit)
          else (Q_s_l03Put big xs (c.2.1, m, ())).bind fun y => some (y, (0 : Int), PUnit.unit)) =
          some (bif okB (putC c.2.1 m xs) then (putC c.2.1 m xs, (0 : Int), ()) else (xs, (2 : Int), ())) := fun m q hq => by
        rw [c_l01In, Option.bind_some, p_l03Put xs hl hf, Option.bind_some, hq, ok_put ho hk1]
        show (bif !numB m then _ else _) = _
        cases numB m with
        | false => rfl
        | true =>
          cases hasK c.2.1 xs with
          | true => rfl
          | false =>
            by_cases h2 : (xs.length : Int) < 12
            · rw [decide_eq_true h2, decide_eq_false (show ¬ (12 : Int) ≤ (xs.length : Int) by omega)]; rfl
            · rw [decide_eq_false h2, decide_eq_true (show (12 : Int) ≤ (xs.length : Int) by omega)]; rfl
      unfold newN
      cases hq : decide (c.1 = 1) with
      | true =>
        simp only [Bool.not_true, cond_false, cond_true]
        refine fin _ _ ?_
        rcases at_spec c.2.1 xs 0 with ⟨h1, h2, _, _⟩ | ⟨i, y, h1, _, _, h4, _⟩
        · rw [h1, h2]; rfl
        · rw [h1, h4, decide_eq_false (by omega)]; rfl
      | false =>
        simp only [Bool.not_false, cond_true, cond_false]
        rcases at_spec c.2.1 xs 0 with ⟨h1, _, h3, _⟩ | ⟨i, y, h1, h2, h3, h4, h5⟩
        · rw [h1, h3, decide_eq_true (by omega), cond_true]
        · obtain ⟨_, hy2⟩ := nth_key hf h2
          have hy := numB_iff.1 hy2
          have hneg : decide ((i : Int) < 0) = !hasK c.2.1 xs := by rw [h4, decide_eq_false (by omega)]; rfl
          rw [h1, h5, Int.zero_add, decide_eq_false (by omega), cond_false, if_pos (by omega), Int.toNat_natCast, h2, Option.bind_some]
          have hneg' : (false : Bool) = !hasK c.2.1 xs := by rw [h4]; rfl
          cases hr : decide (c.1 = 3) with
          | true =>
            simp only [cond_true]
            rw [if_pos (by omega), Option.bind_some, wrap64 (n := y.2.1 - c.2.2.1) (by omega) (by omega)]
            have := fin (y.2.1 - c.2.2.1) (i : Int) hneg
            rw [decide_eq_false (show ¬ (i : Int) < 0 by omega)] at this
            exact this
          | false =>
            simp only [cond_false]
            rw [wrap64 (n := y.2.1 + c.2.2.1) (by omega) (by omega)]
            have := fin (y.2.1 + c.2.2.1) (i : Int) hneg
            rw [decide_eq_false (show ¬ (i : Int) < 0 by omega)] at this
            exact this

/-! ### All commands -/
theorem doneL_B : ∀ (cs : List DICmd) {xs : List DICell}, CellsB xs → (∀ c ∈ cs, ByteArray.size c.2.1 ≤ 1048576) → CellsB (doneL xs cs)
  | [], _, h, _ => h
  | c :: cs, xs, h, hc => doneL_B cs (xs := (doneC xs c).1) (done_B h (hc c (by simp))) (fun d hd => hc d (by simp [hd]))
theorem i_all_loop (cs : List DICmd) (hl : cs.length ≤ 1099511627776) (hc : ∀ c ∈ cs, ByteArray.size c.2.1 ≤ 1048576) : ∀ (n i : Nat) (xs : List DICell) (codes : List Int), cs.length < n + i → i ≤ cs.length → codes.length ≤ i → CellsB xs →
    R_i_DoneAll_4 n xs codes cs (cs.length : Int) (i : Int) = some (doneL xs (cs.drop i), codes ++ doneK xs (cs.drop i), ())
  | 0, i, xs, codes, h1, h2, h3, _ => by omega
  | n + 1, i, xs, codes, h1, h2, h3, h => by
    rcases Nat.lt_or_ge i cs.length with hi | hi
    · have hm := hc _ (List.getElem_mem hi)
      rw [R_i_DoneAll_4_eq, decide_eq_true (by omega), cond_true, mk4 (nth_at hi), p_i_Done xs h _ hm, Option.bind_some, if_pos (by unfold lim2; omega), wrap_succ (by omega), i_all_loop cs hl hc n (i + 1) _ _ (by omega) (by omega) (by simp; omega) (done_B h hm)]
      rw [List.drop_eq_getElem_cons hi, show ∀ (a b : List Int), List.append a b = a ++ b from fun _ _ => rfl, List.append_assoc]
      rfl
    · have e : i = cs.length := by omega
      subst e
      rw [R_i_DoneAll_4_eq, decide_eq_false (by omega), cond_false, List.drop_length]
      simp [doneL, doneK]
theorem s_all_loop (cs : List DICmd) (hl : cs.length ≤ 16777216) (hc : ∀ c ∈ cs, ByteArray.size c.2.1 ≤ 1048576) : ∀ (n i : Nat) (xs : List DICell) (codes : List Int), cs.length < n + i → i ≤ cs.length → codes.length ≤ i → CellsB xs →
    R_s_DoneAll_4 n cs xs codes (i : Int) = some (doneL xs (cs.drop i), codes ++ doneK xs (cs.drop i), ())
  | 0, i, xs, codes, h1, h2, h3, _ => by omega
  | n + 1, i, xs, codes, h1, h2, h3, h => by
    rcases Nat.lt_or_ge i cs.length with hi | hi
    · have hm := hc _ (List.getElem_mem hi)
      rw [R_s_DoneAll_4_eq, decide_eq_true (by omega), cond_true, mk4 (nth_at hi), p_s_Done xs h _ hm, Option.bind_some, if_pos (by unfold lim; omega), wrap_succ (by omega), s_all_loop cs hl hc n (i + 1) _ _ (by omega) (by omega) (by simp; omega) (done_B h hm)]
      rw [List.drop_eq_getElem_cons hi, show ∀ (a b : List Int), List.append a b = a ++ b from fun _ _ => rfl, List.append_assoc]
      rfl
    · have e : i = cs.length := by omega
      subst e
      rw [R_s_DoneAll_4_eq, decide_eq_false (by omega), cond_false, List.drop_length]
      simp [doneL, doneK]
theorem p_i_DoneAll (xs : List DICell) (h : CellsB xs) (cs : List DICmd) (hl : cs.length ≤ 1099511627776) (hc : ∀ c ∈ cs, ByteArray.size c.2.1 ≤ 1048576) : Q_i_DoneAll big xs cs = some (doneL xs cs, doneK xs cs, ()) := by
  have := i_all_loop cs hl hc big 0 xs [] (by unfold big; omega) (by omega) (by simp) h
  rw [Int.natCast_zero, List.drop_zero, List.nil_append] at this
  rw [Q_i_DoneAll_eq, pClone_ICell _ h.len, Option.bind_some]
  exact this
theorem p_s_DoneAll (xs : List DICell) (h : CellsB xs) (cs : List DICmd) (hl : cs.length ≤ 16777216) (hc : ∀ c ∈ cs, ByteArray.size c.2.1 ≤ 1048576) : Q_s_DoneAll big xs cs = some (doneL xs cs, doneK xs cs, ()) := by
  have hl2 := h.len
  have := s_all_loop cs hl hc big 0 xs [] (by unfold big; omega) (by omega) (by simp) h
  rw [Int.natCast_zero, List.drop_zero, List.nil_append] at this
  rw [Q_s_DoneAll_eq, if_pos (by unfold lim; omega)]
  exact this

end Go.Sx.Try

set_option maxRecDepth 100000
namespace Go.Sx.Try
open Go Go.Sx Go.Proofs

/-- the commands of a block; none of what is no block -/
def blkC (t : List DIBlock) (k : Int) : List DICmd :=
  bif (bif decide ((0 : Int) ≤ k) then decide (k ≤ (t.length : Int) - 1) else false) then (match nth t (Int.toNat k) with | some b => b.2.2.1 | none => []) else []
def rowC (t : List DIBlock) (row : List Int) : List DICmd := row.flatMap (blkC t)
structure TreeB (t : List DIBlock) : Prop where
  len : t.length ≤ 16777216
  cmds : ∀ y ∈ t, List.length y.2.2.1 ≤ 1048576
  key : ∀ y ∈ t, ∀ c ∈ y.2.2.1, ByteArray.size c.2.1 ≤ 1048576

theorem blk_in {t : List DIBlock} {k : Int} (h : (bif decide ((0 : Int) ≤ k) then decide (k ≤ (t.length : Int) - 1) else false) = true) : 0 ≤ k ∧ ∃ b, nth t (Int.toNat k) = some b ∧ b ∈ t ∧ blkC t k = b.2.2.1 := by
  by_cases h0 : 0 ≤ k
  · rw [decide_eq_true h0, cond_true, decide_eq_true_eq] at h
    have hi : Int.toNat k < t.length := by omega
    refine ⟨h0, t[Int.toNat k], nth_at hi, List.getElem_mem hi, ?_⟩
    unfold blkC
    rw [decide_eq_true h0, decide_eq_true h, nth_at hi]; rfl
  · rw [decide_eq_false h0] at h; cases h
theorem blk_out {t : List DIBlock} {k : Int} (h : (bif decide ((0 : Int) ≤ k) then decide (k ≤ (t.length : Int) - 1) else false) = false) : blkC t k = [] := by
  unfold blkC
  rw [h]; rfl
theorem blkC_B {t : List DIBlock} (h : TreeB t) (k : Int) : (blkC t k).length ≤ 1048576 ∧ ∀ c ∈ blkC t k, ByteArray.size c.2.1 ≤ 1048576 := by
  cases hb : (bif decide ((0 : Int) ≤ k) then decide (k ≤ (t.length : Int) - 1) else false) with
  | true =>
    obtain ⟨_, b, _, h2, h3⟩ := blk_in hb
    rw [h3]
    exact ⟨h.cmds b h2, h.key b h2⟩
  | false => rw [blk_out hb]; exact ⟨by simp, by simp⟩
theorem rowC_B {t : List DIBlock} (h : TreeB t) : ∀ row : List Int, (rowC t row).length ≤ row.length * 1048576 ∧ ∀ c ∈ rowC t row, ByteArray.size c.2.1 ≤ 1048576
  | [] => ⟨by simp [rowC], by simp [rowC]⟩
  | k :: row => by
    obtain ⟨h1, h2⟩ := rowC_B h row
    obtain ⟨h3, h4⟩ := blkC_B h k
    have e : rowC t (k :: row) = blkC t k ++ rowC t row := rfl
    rw [e]
    refine ⟨by rw [List.length_append, List.length_cons, Nat.succ_mul, Nat.add_comm]; exact Nat.add_le_add h1 h3, fun c hc => ?_⟩
    rcases List.mem_append.1 hc with q | q
    · exact h4 c q
    · exact h2 c q

theorem cmds_of_loop (t : List DIBlock) (h : TreeB t) (row : List Int) (hr : row.length ≤ 1048576) : ∀ (n i : Nat) (acc : List DICmd), row.length < n + i → i ≤ row.length → acc.length ≤ i * 1048576 →
    R_i_cmdsOf_3 n t acc row (row.length : Int) (i : Int) = some (acc ++ rowC t (row.drop i))
  | 0, i, acc, h1, h2, h3 => by omega
  | n + 1, i, acc, h1, h2, h3 => by
    have ht := h.len
    rcases Nat.lt_or_ge i row.length with hi | hi
    · rw [R_i_cmdsOf_3_eq, decide_eq_true (by omega), cond_true, mk4 (nth_at hi), c_in, wrap64 (n := (List.length t : Int) - 1) (by omega) (by omega), Option.bind_some, wrap_succ (by omega)]
      have e : rowC t (row.drop i) = blkC t row[i] ++ rowC t (row.drop (i + 1)) := by rw [List.drop_eq_getElem_cons hi]; rfl
      rw [e]
      cases hb : (bif decide ((0 : Int) ≤ row[i]) then decide (row[i] ≤ (t.length : Int) - 1) else false) with
      | true =>
        obtain ⟨q0, b, q1, q2, q3⟩ := blk_in hb
        have hl := h.cmds b q2
        have hm : acc.length + List.length b.2.2.1 ≤ (i + 1) * 1048576 := by rw [Nat.succ_mul]; exact Nat.add_le_add h3 hl
        have hm2 : (i + 1) * 1048576 ≤ lim2 := Nat.le_trans (Nat.mul_le_mul_right _ (show i + 1 ≤ 1048576 by omega)) (by decide)
        rw [cond_true, if_pos q0, q1, Option.bind_some, if_pos (Nat.le_trans hm hm2)]
        have := cmds_of_loop t h row hr n (i + 1) (acc ++ b.2.2.1) (by omega) (by omega) (by rw [List.length_append]; exact hm)
        refine Eq.trans this ?_
        rw [q3, List.append_assoc]
      | false =>
        rw [cond_false, cmds_of_loop t h row hr n (i + 1) acc (by omega) (by omega) (Nat.le_trans h3 (Nat.mul_le_mul_right _ (Nat.le_succ i))), blk_out hb]
        rfl
    · have e : i = row.length := by omega
      subst e
      rw [R_i_cmdsOf_3_eq, decide_eq_false (by omega), cond_false, List.drop_length]
      simp [rowC]
theorem p_cmdsOf (t : List DIBlock) (h : TreeB t) (row : List Int) (hr : row.length ≤ 1048576) : Q_i_cmdsOf big t row = some (rowC t row) := by
  have := cmds_of_loop t h row hr big 0 [] (by unfold big; omega) (by omega) (by simp)
  rw [Int.natCast_zero, List.drop_zero, List.nil_append] at this
  rw [Q_i_cmdsOf_eq]
  exact this

theorem doneL_append (xs : List DICell) (a b : List DICmd) : doneL xs (a ++ b) = doneL (doneL xs a) b := List.foldl_append ..
theorem row_loop (t : List DIBlock) (h : TreeB t) (row : List Int) (hr : row.length ≤ 1048576) : ∀ (n i : Nat) (xs : List DICell), row.length < n + i → i ≤ row.length → CellsB xs →
    R_s_RowCells_3 n t row xs (i : Int) = some (doneL xs (rowC t (row.drop i)))
  | 0, i, xs, h1, h2, _ => by omega
  | n + 1, i, xs, h1, h2, hx => by
    have ht := h.len
    rcases Nat.lt_or_ge i row.length with hi | hi
    · rw [R_s_RowCells_3_eq, decide_eq_true (by omega), cond_true, mk4 (nth_at hi), c_l01In, wrap64 (n := (List.length t : Int) - 1) (by omega) (by omega), Option.bind_some, wrap_succ (by omega)]
      have e : rowC t (row.drop i) = blkC t row[i] ++ rowC t (row.drop (i + 1)) := by rw [List.drop_eq_getElem_cons hi]; rfl
      rw [e, doneL_append]
      cases hb : (bif decide ((0 : Int) ≤ row[i]) then decide (row[i] ≤ (t.length : Int) - 1) else false) with
      | true =>
        obtain ⟨q0, b, q1, q2, q3⟩ := blk_in hb
        have hl := h.cmds b q2
        rw [cond_true, mk4 (nth_at hi), if_pos q0, q1, Option.bind_some, p_s_DoneAll xs hx b.2.2.1 (by omega) (h.key b q2), Option.bind_some, q3]
        exact row_loop t h row hr n (i + 1) _ (by omega) (by omega) (doneL_B _ hx (h.key b q2))
      | false =>
        rw [cond_false, row_loop t h row hr n (i + 1) xs (by omega) (by omega) hx, blk_out hb]
        rfl
    · have e : i = row.length := by omega
      subst e
      rw [R_s_RowCells_3_eq, decide_eq_false (by omega), cond_false, List.drop_length]
      rfl

theorem nil_B : CellsB [] := ⟨by simp, by simp⟩
theorem p_RowCells (t : List DIBlock) (h : TreeB t) (row : List Int) (hr : row.length ≤ 1048576) : Q_i_RowCells big t row = some (doneL [] (rowC t row)) ∧ Q_s_RowCells big t row = some (doneL [] (rowC t row)) ∧ CellsB (doneL [] (rowC t row)) := by
  obtain ⟨h1, h2⟩ := rowC_B h row
  refine ⟨?_, ?_, doneL_B _ nil_B h2⟩
  · rw [Q_i_RowCells_eq, p_cmdsOf t h row hr, Option.bind_some, p_i_DoneAll [] nil_B _ (Nat.le_trans h1 (Nat.le_trans (Nat.mul_le_mul_right _ hr) (by decide))) h2]
    rfl
  · have := row_loop t h row hr big 0 [] (by unfold big; omega) (by omega) nil_B
    rw [Int.natCast_zero, List.drop_zero] at this
    rw [Q_s_RowCells_eq]
    exact this

/-! ### How much comes in -/
theorem SzR.both {q : Option Int} {a : Int} {P Q : Prop} (h : SzR q a P) (h' : SzR q a Q) : SzR q a (P ∧ Q) := by
  obtain ⟨v, h1, h2, h3⟩ := h
  obtain ⟨v', k1, k2, k3⟩ := h'
  rw [h1] at k1
  cases k1
  exact ⟨v, h1, h2, fun h => ⟨h3 h, k3 h⟩⟩
theorem szCmdR (x : DLCmd) (a : Int) (hw : WfD tLCmd x) (h0 : 0 ≤ a) (h1 : a ≤ 1048576) : SzR (Q_l_szCmd big x a) a (ByteArray.size x.2.1 ≤ 1048576) := by
  have hm : ByteArray.size x.2.1 ≤ 9223372036854775807 := hw.2.1
  rw [Q_l_szCmd_eq, wrap64 (by omega) (by omega)]
  by_cases c : a - (ByteArray.size x.2.1 : Int) < 0
  · rw [decide_eq_true c]; exact ⟨-1, rfl, by omega, fun h => by omega⟩
  · rw [decide_eq_false c]; exact ⟨_, rfl, by omega, fun h => by omega⟩
theorem szCmdSR (x : DSlLCmd) (a : Int) (hw : WfD tSlLCmd x) (h0 : 0 ≤ a) (h1 : a ≤ 1048576) : SzR (Q_l_szCmdS big x a) a (List.length x ≤ 1048576 ∧ ∀ y ∈ x, ByteArray.size y.2.1 ≤ 1048576) :=
  szR_list (qe := fun y a => Q_l_szCmd big y a) (r := fun n a i => R_l_szCmdS_5 n x a i) (n := big) hw.1 h0 h1 (Q_l_szCmdS_eq big x a) (fun n a i => R_l_szCmdS_5_eq n x a i) (fun y hy a h0 h1 => szCmdR y a (hw.2 y hy) h0 h1) (by decide)
theorem szBlockR (x : DLBlock) (a : Int) (hw : WfD tLBlock x) (h0 : 0 ≤ a) (h1 : a ≤ 1048576) : SzR (Q_l_szBlock big x a) a (List.length x.2.2.1 ≤ 1048576 ∧ ∀ y ∈ x.2.2.1, ByteArray.size y.2.1 ≤ 1048576) := by
  rw [Q_l_szBlock_eq]
  exact (szR_bind (Q := True) (szCmdSR x.2.2.1 a hw.2.2.1 h0 h1) h0 h1 (fun v _ _ => szR_end)).imp fun h => h.1
theorem szBlockSR (x : DSlLBlock) (a : Int) (hw : WfD tSlLBlock x) (h0 : 0 ≤ a) (h1 : a ≤ 1048576) : SzR (Q_l_szBlockS big x a) a (List.length x ≤ 1048576 ∧ ∀ y ∈ x, List.length y.2.2.1 ≤ 1048576 ∧ ∀ c ∈ y.2.2.1, ByteArray.size c.2.1 ≤ 1048576) :=
  szR_list (qe := fun y a => Q_l_szBlock big y a) (r := fun n a i => R_l_szBlockS_5 n x a i) (n := big) hw.1 h0 h1 (Q_l_szBlockS_eq big x a) (fun n a i => R_l_szBlockS_5_eq n x a i) (fun y hy a h0 h1 => szBlockR y a (hw.2 y hy) h0 h1) (by decide)

end Go.Sx.Try

set_option maxRecDepth 100000
namespace Go.Sx.Try
open Go Go.Sx Go.Proofs

set_option maxHeartbeats 4000000 in
theorem law_RowCells (t : DSlLBlock) (row : DSlInt) (hw : WfD tSlLBlock t) : Q_l_FnExactRowCells big t row = some true := by
  rw [Q_l_FnExactRowCells_eq]
  by_cases hr : (1048576 : Int) < (List.length row : Int)
  · rw [decide_eq_true hr]; rfl
  rw [decide_eq_false hr, cond_false]
  refine law_sz (SzR.both (pszBlockS t 1048576 hw (by decide) (by decide)) (szBlockSR t 1048576 hw (by decide) (by decide))) fun hb2 _ => ?_
  obtain ⟨hb, hs1, hs2⟩ := hb2
  have hr' : List.length row ≤ 1048576 := by omega
  have hbt : Bg tSlIBlock t := Bg_of (t := tSlIBlock) hb
  have h1 : List.length t ≤ 16777216 := hbt.1
  have h2 : ∀ y ∈ (t : List DIBlock), List.length y.2.2.1 ≤ 16777216 := fun y hy => (hbt.2 y hy).2.2.1.1
  have hT : TreeB t := ⟨h1, fun y hy => (hs2 y hy).1, fun y hy => (hs2 y hy).2⟩
  have hi : Bd tSlInt row := ⟨hr', fun _ _ => Bd_flat rfl _⟩
  have hi2 : Bg tSlInt row := Bg_of (t := tSlInt) hi
  obtain ⟨e1, e2, hc⟩ := p_RowCells t hT row hr'
  generalize doneL [] (rowC t row) = r at e1 e2 hc
  have hrb : Bg tSlICell r := ⟨hc.len, fun _ _ => Bg_flat rfl _⟩
  obtain ⟨k1, b1, m1, g1, l1, u1⟩ := mh_BlockS h1 h2 (k := 1) (by decide) (by decide)
  obtain ⟨k2, b2, m2, g2, l2, u2⟩ := mh_IntS (xs := row) (Nat.le_trans hr' (by decide)) (k := k1) (by omega) (by omega)
  obtain ⟨k3, b3, m3, g3, l3, u3⟩ := mh_CellS hc.len (k := 1) (by decide) (by decide)
  simp (maxSteps := 20000000) (disch := omega) only [ptoBlockS t hb, ptoIntS row hi, e1, e2, Option.bind_some, peqCellS _ hrb, peqBlockS _ hbt, peqIntS _ hi2, m1, m2, m3, g3, not_neg, Bool.not_true, cond_false, decide_true]

end Go.Sx.Try
