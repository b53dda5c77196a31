/- The helpers of the laws. -/
import Derived.Test.YtbamlihfaobfeaaDoorM9
import Derived.Test.YtbamlihfaobfeaaDoorShowRowF1
import Derived.Test.YtbamlihfaobfeaaDoorTypes
set_option linter.unusedVariables false
set_option linter.unusedSimpArgs false
set_option maxRecDepth 100000
namespace Go.Sx.Tryd
open Go Go.Sx Go.Proofs

theorem pszCmd (x : DLCmd) (a : Int) (hw : WfD tLCmd x) (h0 : 0 ≤ a) (h1 : a ≤ 1048576) : SzR (Q_l_szCmd big x a) a (Bd tLCmd x) := by
  rw [Q_l_szCmd_eq]
  exact (szR_len (K := some) (hw.2.1) h0 h1 fun v0 k0 l0 _ => szR_end).imp fun h => (Bd_flat rfl _)

theorem pszCmdS (x : DSlLCmd) (a : Int) (hw : WfD tSlLCmd x) (h0 : 0 ≤ a) (h1 : a ≤ 1048576) : SzR (Q_l_szCmdS big x a) a (Bd tSlLCmd x) := 
  szR_list (qe := fun y a => Q_l_szCmd big y a) (r := fun n a i => R_l_szCmdS_5 n x a i) (n := big) hw.1 h0 h1 (Q_l_szCmdS_eq big x a) (fun n a i => R_l_szCmdS_5_eq n x a i) (fun y hy a h0 h1 => pszCmd y a (hw.2 y hy) h0 h1) (by decide)

theorem pszBlock (x : DLBlock) (a : Int) (hw : WfD tLBlock x) (h0 : 0 ≤ a) (h1 : a ≤ 1048576) : SzR (Q_l_szBlock big x a) a (Bd tLBlock x) := by
  rw [Q_l_szBlock_eq]
  exact (szR_bind (pszCmdS _ _ (hw.2.2.1) h0 h1) h0 h1 fun v0 k0 l0 => szR_end).imp fun h => ⟨(Bd_flat rfl _), (Bd_flat rfl _), h.1, (Bd_flat rfl _), trivial⟩

theorem pszBlockS (x : DSlLBlock) (a : Int) (hw : WfD tSlLBlock x) (h0 : 0 ≤ a) (h1 : a ≤ 1048576) : SzR (Q_l_szBlockS big x a) a (Bd tSlLBlock x) := 
  szR_list (qe := fun y a => Q_l_szBlock big y a) (r := fun n a i => R_l_szBlockS_5 n x a i) (n := big) hw.1 h0 h1 (Q_l_szBlockS_eq big x a) (fun n a i => R_l_szBlockS_5_eq n x a i) (fun y hy a h0 h1 => pszBlock y a (hw.2 y hy) h0 h1) (by decide)

theorem ptoCmd (x : DLCmd) (h : Bd tLCmd x) : Q_l_toCmd big x = some x := by
  rw [Q_l_toCmd_eq]

theorem ptoCmdS (x : DSlLCmd) (h : Bd tSlLCmd x) : Q_l_toCmdS big x = some x := by
  have := copy_ok (g := fun y => some y) (f := fun y => y) (r := fun n i b => R_l_toCmdS_3 n x i b) (n := big) (Q_l_toCmdS_eq big x) (fun n i b => R_l_toCmdS_3_eq n x i b) (fun _ _ => rfl) (Nat.le_trans h.1 (by decide)) (by decide)
  simpa using this

theorem ptoQc (x : DLQc) (h : Bd tLQc x) : Q_l_toQc big x = some x := by
  rw [Q_l_toQc_eq]

theorem ptoBlock (x : DLBlock) (h : Bd tLBlock x) : Q_l_toBlock big x = some x := by
  rw [Q_l_toBlock_eq, ptoCmdS _ (h.2.2.1)]
  rfl

theorem ptoBlockS (x : DSlLBlock) (h : Bd tSlLBlock x) : Q_l_toBlockS big x = some x := by
  have := copy_ok (g := fun y => Q_l_toBlock big y) (f := fun y => y) (r := fun n i b => R_l_toBlockS_3 n x i b) (n := big) (Q_l_toBlockS_eq big x) (fun n i b => R_l_toBlockS_3_eq n x i b) (fun y hy => ptoBlock y (h.2 y hy)) (Nat.le_trans h.1 (by decide)) (by decide)
  simpa using this

theorem ptoIntS (x : DSlInt) (h : Bd tSlInt x) : Q_l_toIntS big x = some x := by
  have := copy_ok (g := fun y => some y) (f := fun y => y) (r := fun n i b => R_l_toIntS_3 n x i b) (n := big) (Q_l_toIntS_eq big x) (fun n i b => R_l_toIntS_3_eq n x i b) (fun _ _ => rfl) (Nat.le_trans h.1 (by decide)) (by decide)
  simpa using this

theorem peqCmd (x : DICmd) (h : Bg tICmd x) : Q_l_eqCmd big x x = some true := by
  rw [Q_l_eqCmd_eq]
  simp only [decide_true, Bool.not_true, cond_false]

theorem peqCmdS (x : DSlICmd) (h : Bg tSlICmd x) : Q_l_eqCmdS big x x = some true := 
  eq_ok (e := fun y y1 => Q_l_eqCmd big y y1) (r := fun n i => R_l_eqCmdS_4 n x x i) (n := big) (Q_l_eqCmdS_eq big x x) (fun n i => R_l_eqCmdS_4_eq n x x i) (fun y hy => peqCmd y (h.2 y hy)) h.1 (by decide)

theorem peqQc (x : DIQc) (h : Bg tIQc x) : Q_l_eqQc big x x = some true := by
  rw [Q_l_eqQc_eq]
  simp only [decide_true, Bool.not_true, cond_false]

theorem peqBlock (x : DIBlock) (h : Bg tIBlock x) : Q_l_eqBlock big x x = some true := by
  rw [Q_l_eqBlock_eq]
  simp only [decide_true, Bool.not_true, cond_false, Option.bind_some, peqCmdS _ (h.2.2.1), peqQc _ (h.2.2.2.1)]

theorem peqBlockS (x : DSlIBlock) (h : Bg tSlIBlock x) : Q_l_eqBlockS big x x = some true := 
  eq_ok (e := fun y y1 => Q_l_eqBlock big y y1) (r := fun n i => R_l_eqBlockS_4 n x x i) (n := big) (Q_l_eqBlockS_eq big x x) (fun n i => R_l_eqBlockS_4_eq n x x i) (fun y hy => peqBlock y (h.2 y hy)) h.1 (by decide)

theorem peqIntS (x : DSlInt) (h : Bg tSlInt x) : Q_l_eqIntS big x x = some true := 
  eq_ok (e := fun y y1 => some (decide (y = y1))) (r := fun n i => R_l_eqIntS_4 n x x i) (n := big) (Q_l_eqIntS_eq big x x) (fun n i => R_l_eqIntS_4_eq n x x i) (fun y _ => by simp) h.1 (by decide)

end Go.Sx.Tryd

set_option maxRecDepth 100000
namespace Go.Sx.Tryd
open Go Go.Sx Go.Proofs

/-- the figures, none of nothing -/
def dz (m : Nat) : List UInt8 := if m = 0 then [] else Lib.decDigits m

def bL (l : List UInt8) : ByteArray := ByteArray.mk l.toArray
theorem bL_append (l r : List UInt8) : bL (l ++ r) = bL l ++ bL r := by
  apply ByteArray.ext
  simp [bL]
theorem bL_size (l : List UInt8) : (bL l).size = l.length := by simp [bL, ByteArray.size]

theorem dz_step {m : Nat} (h : m ≠ 0) : dz m = dz (m / 10) ++ [UInt8.ofNat (48 + m % 10)] := by
  unfold dz
  rw [if_neg h]
  by_cases h1 : m < 10
  · rw [if_pos (by omega), Lib.decDigits_one h1, Nat.mod_eq_of_lt h1]; rfl
  · rw [if_neg (by omega)]
    rw [Lib.decDigits, dif_neg h1]

theorem fig {d : Nat} (h : d < 10) : Q_s_l01Figure big (d : Int) = some ((48 + d : Nat) : Int) := by
  rw [Q_s_l01Figure_eq, decide_eq_true (by omega), cond_true, wrap64 (by omega) (by omega), IntKind.wrap_u8]
  congr 1
  omega

theorem dec_loop : ∀ (k n m : Nat) (s : ByteArray), m < 10 ^ k → m < 9223372036854775808 → k < n → s.size + k ≤ 1000 → R_s_Decimal_5 n (m : Int) false s = some (bL (dz m) ++ s)
  | k, 0, m, s, _, _, h, _ => by omega
  | k, n + 1, m, s, h1, h2, h3, h4 => by
    rw [R_s_Decimal_5_eq]
    by_cases h0 : m = 0
    · subst h0
      rw [decide_eq_true (by rfl), Bool.not_true, cond_false, cond_false]
      congr 1
    · rw [decide_eq_false (by omega), Bool.not_false, cond_true]
      have e1 : ((m : Int)).tmod 10 = ((m % 10 : Nat) : Int) := (Int.ofNat_tmod m 10).symm
      have e2 : ((m : Int)).tdiv 10 = ((m / 10 : Nat) : Int) := (Int.ofNat_tdiv m 10).symm
      cases k with
      | zero => omega
      | succ k =>
        have hq : m / 10 < 10 ^ k := by rw [Nat.pow_succ] at h1; omega
        rw [e1, e2, decide_eq_false (by omega), cond_false, fig (Nat.mod_lt _ (by decide)), Option.bind_some, wrap64 (by omega) (by omega)]
        have e3 : (ByteArray.mk (List.map (fun n : Int => UInt8.ofNat n.toNat) [((48 + m % 10 : Nat) : Int)]).toArray) = bL [UInt8.ofNat (48 + m % 10)] := rfl
        have hs : (bL [UInt8.ofNat (48 + m % 10)]).size = 1 := rfl
        rw [e3, if_pos (by rw [hs]; unfold lim; omega), dec_loop k n (m / 10) _ hq (by omega) (by omega) (by rw [ByteArray.size_append, hs]; omega), dz_step h0, bL_append, ByteArray.append_assoc]

theorem p_s_Decimal (m : Nat) (h : m < 9223372036854775808) : Q_s_Decimal big (m : Int) = some (itoaB (m : Int)) := by
  rw [Q_s_Decimal_eq]
  have hi : itoaB (m : Int) = bL (Lib.decDigits m) := by
    unfold itoaB Lib.itoa
    rw [if_neg (by omega), Int.toNat_natCast]
    rfl
  by_cases h0 : m = 0
  · subst h0
    rw [decide_eq_true (by rfl), cond_true, hi, Lib.decDigits_one (by decide)]
    rfl
  · rw [decide_eq_false (by omega), cond_false, decide_eq_false (by omega)]
    rw [dec_loop 19 big m _ (Nat.lt_trans h (by decide)) h (by unfold big; decide) (by decide), hi]
    unfold dz
    rw [if_neg h0]
    congr 1
    apply ByteArray.ext
    simp [bL]

theorem p_i_Decimal (m : Nat) (h : m < 9223372036854775808) : Q_i_Decimal big (m : Int) = some (itoaB (m : Int)) := by
  rw [Q_i_Decimal_eq, Q_x_strconv_Itoa_eq, if_pos (by omega), if_pos (by omega)]
  rfl

theorem pow_le (m : Nat) (h : m < 9223372036854775808) : Lib.nDigits m ≤ 20 := by
  by_cases h0 : m = 0
  · subst h0; rw [Lib.nDigits_small (by decide)]; decide
  · have := Lib.numDigits_eq m (by omega) (by omega)
    split at this <;> omega
theorem itoaB_size (m : Nat) (h : m < 9223372036854775808) : (itoaB (m : Int)).size ≤ 20 := by
  have hi : itoaB (m : Int) = bL (Lib.decDigits m) := by
    unfold itoaB Lib.itoa
    rw [if_neg (by omega), Int.toNat_natCast]
    rfl
  rw [hi, bL_size, Lib.decDigits_length]
  exact pow_le m h

theorem c_in (x a b : Int) : Q_i_in big x a b = some (bif decide (a ≤ x) then decide (x ≤ b) else false) := by
  rw [Q_i_in_eq]
  cases decide (a ≤ x) <;> rfl
theorem c_l01In (x a b : Int) : Q_s_l01In big x a b = some (bif decide (a ≤ x) then decide (x ≤ b) else false) := by
  rw [Q_s_l01In_eq]
  cases decide (a ≤ x) <;> rfl

end Go.Sx.Tryd

set_option maxRecDepth 100000
namespace Go.Sx.Tryd
open Go Go.Sx Go.Proofs

/-- a number, one below nothing as nothing -/
noncomputable def numB (x : Int) : ByteArray := itoaB (max 0 x)
theorem max_nat (x : Int) (h : x ≤ 9223372036854775807) : ∃ m : Nat, max 0 x = (m : Int) ∧ m < 9223372036854775808 := ⟨(max 0 x).toNat, by omega, by omega⟩
theorem numB_size {x : Int} (h : x ≤ 9223372036854775807) : (numB x).size ≤ 20 := by
  obtain ⟨m, e, hm⟩ := max_nat x h
  unfold numB
  rw [e]
  exact itoaB_size m hm
theorem p_i_max {x : Int} (h : x ≤ 9223372036854775807) : Q_i_Decimal big (max 0 x) = some (numB x) := by
  obtain ⟨m, e, hm⟩ := max_nat x h
  unfold numB
  rw [e]
  exact p_i_Decimal m hm
theorem itoa_zero : itoaB 0 = ByteArray.mk #[(48 : UInt8)] := by
  unfold itoaB Lib.itoa
  rw [if_neg (by decide), show (0 : Int).toNat = 0 from rfl, Lib.decDigits_one (by decide)]
  rfl
theorem numB_zero : numB 0 = ByteArray.mk #[(48 : UInt8)] := itoa_zero
theorem p_l21Num {x : Int} (h : x ≤ 9223372036854775807) : Q_s_l21Num big x = some (numB x) := by
  rw [Q_s_l21Num_eq]
  by_cases h0 : x < 0
  · rw [decide_eq_true h0, cond_true]
    unfold numB
    rw [Int.max_eq_left (Int.le_of_lt h0), itoa_zero]
  · rw [decide_eq_false h0, cond_false]
    obtain ⟨m, rfl⟩ : ∃ m : Nat, x = m := ⟨x.toNat, by omega⟩
    rw [p_s_Decimal m (by omega)]
    unfold numB
    rw [Int.max_eq_right (by omega)]
    rfl

/-- the line of a block -/
noncomputable def ln (k view : Int) (cnt : Nat) : ByteArray := ByteArray.mk #[(98 : UInt8)] ++ numB k ++ ByteArray.mk #[(118 : UInt8)] ++ numB view ++ ByteArray.mk #[(32 : UInt8)] ++ itoaB (cnt : Int) ++ ByteArray.mk #[(10 : UInt8)]
noncomputable def lnOf (t : List DIBlock) (k : Int) : ByteArray :=
  bif (bif decide ((0 : Int) ≤ k) then decide (k ≤ (t.length : Int) - 1) else false) then (match nth t (Int.toNat k) with | some b => ln k b.2.1 (List.length b.2.2.1) | none => ByteArray.empty) else ln k 0 0
noncomputable def lns (t : List DIBlock) : List Int → ByteArray
  | [] => ByteArray.empty
  | k :: r => lnOf t k ++ lns t r

theorem sz1 (x : UInt8) : (ByteArray.mk #[x]).size = 1 := rfl
theorem ln_size {k view : Int} {cnt : Nat} (h1 : k ≤ 9223372036854775807) (h2 : view ≤ 9223372036854775807) (h3 : cnt < 9223372036854775808) : (ln k view cnt).size ≤ 64 := by
  have a := numB_size h1
  have b := numB_size h2
  have c := itoaB_size cnt h3
  unfold ln
  simp only [ByteArray.size_append, sz1]
  omega
theorem s_ln (s : ByteArray) (k view : Int) (cnt : Nat) : s ++ ByteArray.mk #[(98 : UInt8)] ++ numB k ++ ByteArray.mk #[(118 : UInt8)] ++ numB view ++ ByteArray.mk #[(32 : UInt8)] ++ itoaB (cnt : Int) ++ ByteArray.mk #[(10 : UInt8)] = s ++ ln k view cnt := by
  unfold ln
  simp only [ByteArray.append_assoc]

structure TreeV (t : List DIBlock) : Prop where
  len : t.length ≤ 16777216
  view : ∀ y ∈ t, y.2.1 ≤ 9223372036854775807
  cmds : ∀ y ∈ t, List.length y.2.2.1 ≤ 16777216

theorem blk_in {t : List DIBlock} {k : Int} (h : (bif decide ((0 : Int) ≤ k) then decide (k ≤ (t.length : Int) - 1) else false) = true) : 0 ≤ k ∧ ∃ b, nth t (Int.toNat k) = some b ∧ b ∈ t ∧ lnOf t k = ln k b.2.1 (List.length b.2.2.1) := by
  by_cases h0 : 0 ≤ k
  · have h' := h
    rw [decide_eq_true h0, cond_true, decide_eq_true_eq] at h'
    have hi : Int.toNat k < t.length := by omega
    refine ⟨h0, t[Int.toNat k], nth_at hi, List.getElem_mem hi, ?_⟩
    unfold lnOf
    rw [h, nth_at hi]; rfl
  · rw [decide_eq_false h0] at h; cases h
theorem blk_out {t : List DIBlock} {k : Int} (h : (bif decide ((0 : Int) ≤ k) then decide (k ≤ (t.length : Int) - 1) else false) = false) : lnOf t k = ln k 0 0 := by
  unfold lnOf
  rw [h]; rfl

set_option maxHeartbeats 4000000 in
theorem i_loop (t : List DIBlock) (h : TreeV t) (row : List Int) (hr : row.length ≤ 1048576) (hk : ∀ k ∈ row, k ≤ 9223372036854775807) : ∀ (n i : Nat) (s : ByteArray), row.length < n + i → i ≤ row.length → s.size ≤ i * 64 →
    R_i_ShowRow_3 n t s row (row.length : Int) (i : Int) = some (s ++ lns t (row.drop i))
  | 0, i, s, h1, h2, _ => by omega
  | n + 1, i, s, h1, h2, hs => by
    have ht := h.len
    rw [R_i_ShowRow_3_eq]
    rcases Nat.lt_or_ge i row.length with hi | hi
    · have hkk := hk _ (List.getElem_mem hi)
      have e : lns t (row.drop i) = lnOf t row[i] ++ lns t (row.drop (i + 1)) := by rw [List.drop_eq_getElem_cons hi]; rfl
      have a := numB_size hkk
      rw [decide_eq_true (by omega), cond_true, mk4 (nth_at hi), c_in, wrap64 (n := (List.length t : Int) - 1) (by omega) (by omega), Option.bind_some, wrap_succ (by omega), e, ← ByteArray.append_assoc]
      cases hb : (bif decide ((0 : Int) ≤ row[i]) then decide (row[i] ≤ (t.length : Int) - 1) else false) with
      | true =>
        obtain ⟨q0, b, q1, q2, q3⟩ := blk_in hb
        have hv := h.view b q2
        have hc := h.cmds b q2
        have a2 := numB_size hv
        have a3 := itoaB_size (List.length b.2.2.1) (by omega)
        have hl := ln_size hkk hv (cnt := List.length b.2.2.1) (by omega)
        rw [cond_true, if_pos q0, q1, Option.bind_some, p_i_max hkk, Option.bind_some, if_pos (by simp only [sz1]; unfold lim; omega), if_pos (by simp only [ByteArray.size_append, sz1]; unfold lim; omega), p_i_max hv, Option.bind_some,
          if_pos (by simp only [ByteArray.size_append, sz1]; unfold lim; omega), if_pos (by simp only [ByteArray.size_append, sz1]; unfold lim; omega), p_i_Decimal _ (by omega), Option.bind_some,
          if_pos (by simp only [ByteArray.size_append, sz1]; unfold lim; omega), if_pos (by simp only [ByteArray.size_append, sz1]; unfold lim; omega), if_pos (by simp only [ByteArray.size_append, sz1]; unfold lim; omega), q3]
        exact i_loop t h row hr hk n (i + 1) _ (by omega) (by omega) (by rw [ByteArray.size_append]; unfold ln at hl; omega)
      | false =>
        have a2 : (itoaB (max (0 : Int) (0 : Int))).size ≤ 20 := numB_size (x := 0) (by decide)
        have a3 := itoaB_size 0 (by decide)
        have hl := ln_size hkk (view := 0) (by decide) (cnt := 0) (by decide)
        rw [Int.natCast_zero] at a3
        rw [cond_false, p_i_max hkk, Option.bind_some, if_pos (by simp only [sz1]; unfold lim; omega), if_pos (by simp only [ByteArray.size_append, sz1]; unfold lim; omega),
          if_pos (by simp only [ByteArray.size_append, sz1]; unfold lim; omega), if_pos (by simp only [ByteArray.size_append, sz1]; unfold lim; omega),
          if_pos (by simp only [ByteArray.size_append, sz1]; unfold lim; omega), if_pos (by simp only [ByteArray.size_append, sz1]; unfold lim; omega), if_pos (by simp only [ByteArray.size_append, sz1]; unfold lim; omega), blk_out hb]
        exact i_loop t h row hr hk n (i + 1) _ (by omega) (by omega) (by rw [ByteArray.size_append]; unfold ln at hl; unfold numB at hl ⊢; rw [Int.natCast_zero] at hl; omega)
    · have e : i = row.length := by omega
      subst e
      rw [decide_eq_false (by omega), cond_false, List.drop_length]
      simp [lns]

set_option maxHeartbeats 4000000 in
theorem s_loop (t : List DIBlock) (h : TreeV t) (row : List Int) (hr : row.length ≤ 1048576) (hk : ∀ k ∈ row, k ≤ 9223372036854775807) : ∀ (n i : Nat) (s : ByteArray), row.length < n + i → i ≤ row.length → s.size ≤ i * 64 →
    R_s_ShowRow_3 n t row s (i : Int) = some (s ++ lns t (row.drop i))
  | 0, i, s, h1, h2, _ => by omega
  | n + 1, i, s, h1, h2, hs => by
    have ht := h.len
    rw [R_s_ShowRow_3_eq]
    rcases Nat.lt_or_ge i row.length with hi | hi
    · have hkk := hk _ (List.getElem_mem hi)
      have e : lns t (row.drop i) = lnOf t row[i] ++ lns t (row.drop (i + 1)) := by rw [List.drop_eq_getElem_cons hi]; rfl
      have a := numB_size hkk
      rw [decide_eq_true (by omega), cond_true, mk4 (nth_at hi), c_l01In, wrap64 (n := (List.length t : Int) - 1) (by omega) (by omega), Option.bind_some, wrap_succ (by omega), e, ← ByteArray.append_assoc]
      cases hb : (bif decide ((0 : Int) ≤ row[i]) then decide (row[i] ≤ (t.length : Int) - 1) else false) with
      | true =>
        obtain ⟨q0, b, q1, q2, q3⟩ := blk_in hb
        have hv := h.view b q2
        have hc := h.cmds b q2
        have a2 := numB_size hv
        have a3 := itoaB_size (List.length b.2.2.1) (by omega)
        have hl := ln_size hkk hv (cnt := List.length b.2.2.1) (by omega)
        rw [cond_true, mk4 (nth_at hi), if_pos q0, q1, Option.bind_some, mk4 (nth_at hi), if_pos q0, q1, Option.bind_some, if_pos (by simp only [sz1]; unfold lim; omega), mk4 (nth_at hi), p_l21Num hkk, Option.bind_some,
          if_pos (by simp only [ByteArray.size_append, sz1]; unfold lim; omega), if_pos (by simp only [ByteArray.size_append, sz1]; unfold lim; omega), p_l21Num hv, Option.bind_some,
          if_pos (by simp only [ByteArray.size_append, sz1]; unfold lim; omega), if_pos (by simp only [ByteArray.size_append, sz1]; unfold lim; omega), p_s_Decimal _ (by omega), Option.bind_some,
          if_pos (by simp only [ByteArray.size_append, sz1]; unfold lim; omega), if_pos (by simp only [ByteArray.size_append, sz1]; unfold lim; omega), q3, s_ln]
        exact s_loop t h row hr hk n (i + 1) _ (by omega) (by omega) (by rw [ByteArray.size_append]; omega)
      | false =>
        have hl := ln_size hkk (view := 0) (by decide) (cnt := 0) (by decide)
        rw [cond_false, if_pos (by simp only [sz1]; unfold lim; omega), mk4 (nth_at hi), p_l21Num hkk, Option.bind_some,
          if_pos (by simp only [ByteArray.size_append, sz1]; unfold lim; omega), if_pos (by simp only [ByteArray.size_append, sz1]; unfold lim; omega),
          if_pos (by simp only [ByteArray.size_append, sz1]; unfold lim; omega), if_pos (by simp only [ByteArray.size_append, sz1]; unfold lim; omega),
          if_pos (by simp only [ByteArray.size_append, sz1]; unfold lim; omega), if_pos (by simp only [ByteArray.size_append, sz1]; unfold lim; omega), blk_out hb]
        have hln : s ++ ByteArray.mk #[(98 : UInt8)] ++ numB row[i] ++ ByteArray.mk #[(118 : UInt8)] ++ ByteArray.mk #[(48 : UInt8)] ++ ByteArray.mk #[(32 : UInt8)] ++ ByteArray.mk #[(48 : UInt8)] ++ ByteArray.mk #[(10 : UInt8)] = s ++ ln row[i] 0 0 := by
          have := s_ln s row[i] 0 0
          rw [numB_zero, Int.natCast_zero, itoa_zero] at this
          exact this
        rw [hln]
        exact s_loop t h row hr hk n (i + 1) _ (by omega) (by omega) (by rw [ByteArray.size_append]; omega)
    · have e : i = row.length := by omega
      subst e
      rw [decide_eq_false (by omega), cond_false, List.drop_length]
      simp [lns]

theorem p_ShowRow (t : List DIBlock) (h : TreeV t) (row : List Int) (hr : row.length ≤ 1048576) (hk : ∀ k ∈ row, k ≤ 9223372036854775807) : Q_i_ShowRow big t row = some (lns t row) ∧ Q_s_ShowRow big t row = some (lns t row) := by
  have e : ByteArray.mk #[] ++ lns t row = lns t row := by apply ByteArray.ext; simp
  constructor
  · have := i_loop t h row hr hk big 0 (ByteArray.mk #[]) (by unfold big; omega) (by omega) (by decide)
    rw [Int.natCast_zero, List.drop_zero, e] at this
    rw [Q_i_ShowRow_eq]
    exact this
  · have := s_loop t h row hr hk big 0 (ByteArray.mk #[]) (by unfold big; omega) (by omega) (by decide)
    rw [Int.natCast_zero, List.drop_zero, e] at this
    rw [Q_s_ShowRow_eq]
    exact this

end Go.Sx.Tryd

set_option maxRecDepth 100000
namespace Go.Sx.Tryd
open Go Go.Sx Go.Proofs

set_option maxHeartbeats 4000000 in
theorem law_ShowRow (t : DSlLBlock) (row : DSlInt) (hw : WfD tSlLBlock t) (hv : WfD tSlInt row) : Q_l_FnExactShowRow big t row = some true := by
  rw [Q_l_FnExactShowRow_eq]
  by_cases hr : (1048576 : Int) < (List.length row : Int)
  · rw [decide_eq_true hr]; rfl
  rw [decide_eq_false hr, cond_false]
  refine law_sz (pszBlockS t 1048576 hw (by decide) (by decide)) fun hb _ => ?_
  have hr' : List.length row ≤ 1048576 := by omega
  have hbt : Bg tSlIBlock t := Bg_of (t := tSlIBlock) hb
  have h1 : List.length t ≤ 16777216 := hbt.1
  have h2 : ∀ y ∈ (t : List DIBlock), List.length y.2.2.1 ≤ 16777216 := fun y hy => (hbt.2 y hy).2.2.1.1
  have hT : TreeV t := ⟨h1, fun y hy => (hw.2 y hy).2.1.2, h2⟩
  have hi : Bd tSlInt row := ⟨hr', fun _ _ => Bd_flat rfl _⟩
  have hi2 : Bg tSlInt row := Bg_of (t := tSlInt) hi
  obtain ⟨e1, e2⟩ := p_ShowRow t hT row hr' (fun k hk => (hv.2 k hk).2)
  simp (maxSteps := 20000000) (disch := omega) only [ptoBlockS t hb, ptoIntS row hi, e1, e2, Option.bind_some, peqBlockS _ hbt, peqIntS _ hi2, Bool.not_true, cond_false, decide_true]

end Go.Sx.Tryd
