/- The helpers of the laws. -/
import Derived.Test.YtjefikelmfdffaaGreatDoorM9
import Derived.Test.YtjefikelmfdffaaGreatDoorReadScriptF1
import Derived.Test.YtjefikelmfdffaaGreatDoorTypes
set_option linter.unusedVariables false
set_option linter.unusedSimpArgs false
set_option maxRecDepth 100000
namespace Go.Sx.Tryz
open Go Go.Sx Go.Proofs

theorem peqCmd (x : DICmd) (h : Bg tICmd x) : Q_l_eqCmd big x x = some true := by
  rw [Q_l_eqCmd_eq]
  simp only [decide_true, Bool.not_true, cond_false]

theorem peqEvent (x : DIEvent) (h : Bg tIEvent x) : Q_l_eqEvent big x x = some true := by
  rw [Q_l_eqEvent_eq]
  simp only [decide_true, Bool.not_true, cond_false, Option.bind_some, peqCmd _ (h.2.2.2.2.1)]

theorem peqEventS (x : DSlIEvent) (h : Bg tSlIEvent x) : Q_l_eqEventS big x x = some true := 
  eq_ok (e := fun y y1 => Q_l_eqEvent big y y1) (r := fun n i => R_l_eqEventS_4 n x x i) (n := big) (Q_l_eqEventS_eq big x x) (fun n i => R_l_eqEventS_4_eq n x x i) (fun y hy => peqEvent y (h.2 y hy)) h.1 (by decide)

theorem peqScript (x : DIScript) (h : Bg tIScript x) : Q_l_eqScript big x x = some true := by
  rw [Q_l_eqScript_eq]
  simp only [decide_true, beq_self_eq_true, Bool.not_true, cond_false, Option.bind_some, peqEventS _ (h.2.2.2.1)]

end Go.Sx.Tryz

set_option maxRecDepth 100000
namespace Go.Sx.Tryz
open Go Go.Sx Go.Proofs

theorem text_ex : ∀ (n : Nat) (f : Nat) (k : Int) (s : ByteArray), n < f → 0 ≤ k → k ≤ 4611686018427387904 → k < 2 ^ n → s.size + n ≤ 100 → ∃ t, R_l_markText_4 f k s = some t
  | n, 0, k, s, h, _, _, _, _ => by omega
  | n, f + 1, k, s, h1, h2, h2', h3, h4 => by
    rw [R_l_markText_4_eq]
    by_cases hk : (0 : Int) < k
    · rw [decide_eq_true hk]
      simp only [cond_true]
      cases n with
      | zero => simp at h3; omega
      | succ n =>
        have hsz : ∀ x : Int, (ByteArray.mk (List.map (fun n => UInt8.ofNat (Int.toNat n)) [x]).toArray).size = 1 := fun _ => rfl
        rw [if_pos (by rw [hsz]; simp only [lim]; omega)]
        have h5 : Int.tdiv k 10 = k / 10 := by rw [Int.tdiv_eq_ediv_of_nonneg h2]
        rw [h5, wrap64 (n := k / 10) (by omega) (by omega)]
        exact text_ex n f (k / 10) _ (by omega) (by omega) (by omega) (by
          have : (2 : Int) ^ (n + 1) = 2 * 2 ^ n := by rw [Int.pow_succ]; omega
          omega) (by rw [ByteArray.size_append, hsz]; omega)
    · rw [decide_eq_false hk]
      simp only [cond_false]
      have hsz : (ByteArray.mk #[(109 : UInt8)]).size = 1 := rfl
      rw [if_pos (by rw [hsz]; simp only [lim]; omega)]
      exact ⟨_, rfl⟩
/-- the text of a mark -/
noncomputable def mt (k : Int) : ByteArray := (Q_l_markText big k).getD ByteArray.empty
theorem pmt {k : Int} (h1 : 0 < k) (h2 : k ≤ 4611686018427387904) : Q_l_markText big k = some (mt k) := by
  have : ∃ t, Q_l_markText big k = some t := by
    rw [Q_l_markText_eq, decide_eq_false (show ¬ k ≤ 0 by omega)]
    simp only [cond_false]
    exact text_ex 63 big k _ (by decide) (by omega) (by omega) (by omega) (by decide)
  obtain ⟨t, ht⟩ := this
  unfold mt
  rw [ht]; rfl

theorem mh_EventS {xs : List DIEvent} (hl : xs.length ≤ 16777216) {k : Int} (hk : 0 < k) (hM : k + 16777216 * 7 ≤ 4611686018427387904) :
    ∃ (k' : Int) (b' : List DIEvent), Q_l_markEventS big xs k = some (k', b', ()) ∧ Q_l_heldEventS big b' k = some k' ∧ k ≤ k' ∧ k' ≤ k + 16777216 * 7 := by
  simp only [Q_l_markEventS_eq, Q_l_heldEventS_eq]
  refine mh_list (xs := xs) (W := 7) (B := fun _ => True) (r := fun n k i b => R_l_markEventS_2 n k i b) (s := fun n b k i => R_l_heldEventS_2 n b k i) (n := big) (by decide) (fun k i b hi _ h1 h2 h3 => ?_) (fun n k b => ?_) (fun n k b => ?_) (by decide) hl (fun _ _ => trivial) hk (by omega)
  · have h4 : (i : Int) < (b.length : Int) := by omega
    refine ⟨((k, k + 1, k + 1 + 1, k + 1 + 1 + 1, (k + 1 + 1 + 1 + 1, mt (k + 1 + 1 + 1 + 1 + 1), k + 1 + 1 + 1 + 1 + 1 + 1, ()), ()) : DIEvent), k + 1 + 1 + 1 + 1 + 1 + 1 + 1, by omega, by omega, fun n => ?_, fun m b' hb' => ?_⟩
    · rw [R_l_markEventS_2_eq, decide_eq_true h4]
      simp only [cond_true, mk1 hi, mk2 hi]
      simp (disch := omega) only [wrap64, pmt, Option.bind_some, mk1 hi, mk2 hi]
    · have h5 : (i : Int) < (b'.length : Int) := by have := nth_lt hb'; omega
      simp (disch := omega) only [R_l_heldEventS_2_eq, h5, decide_true, cond_true, Int.natCast_nonneg, if_true, Int.toNat_natCast, hb', Option.bind_some, wrap64, Bool.not_true, cond_false, pmt, beq_self_eq_true]
  · simp only [R_l_markEventS_2_eq, Int.lt_irrefl, decide_false, cond_false]
  · simp only [R_l_heldEventS_2_eq, Int.lt_irrefl, decide_false, cond_false]

end Go.Sx.Tryz

set_option maxRecDepth 100000
namespace Go.Sx.Tryz
open Go Go.Sx Go.Proofs

/-! ### The numeral of a number -/
/-- the figures, none of nothing -/
def dz (m : Nat) : List UInt8 := if m = 0 then [] else Lib.decDigits m
def bL (l : List UInt8) : ByteArray := ByteArray.mk l.toArray
theorem bL_append (l r : List UInt8) : bL (l ++ r) = bL l ++ bL r := by
  apply ByteArray.ext
  simp [bL]
theorem bL_data (s : ByteArray) : bL s.data.toList = s := by apply ByteArray.ext; simp [bL]
theorem bL_list (l : List UInt8) : (bL l).data.toList = l := by simp [bL]
theorem bL_size (l : List UInt8) : (bL l).size = l.length := by simp [bL, ByteArray.size]

theorem dz_step {m : Nat} (h : m ≠ 0) : dz m = dz (m / 10) ++ [UInt8.ofNat (48 + m % 10)] := by
  unfold dz
  rw [if_neg h]
  by_cases h1 : m < 10
  · rw [if_pos (by omega), Lib.decDigits_one h1, Nat.mod_eq_of_lt h1]; rfl
  · rw [if_neg (by omega)]
    rw [Lib.decDigits, dif_neg h1]
theorem fig {d : Nat} (h : d < 10) : Q_s_l01Figure big (d : Int) = some ((48 + d : Nat) : Int) := by
  rw [Q_s_l01Figure_eq, decide_eq_true (by omega), cond_true, wrap64 (by omega) (by omega), IntKind.wrap_u8]
  congr 1
  omega

theorem dec_loop : ∀ (k n m : Nat) (s : ByteArray), m < 10 ^ k → m < 9223372036854775808 → k < n → s.size + k ≤ 1000 → R_s_Decimal_5 n (m : Int) false s = some (bL (dz m) ++ s)
  | k, 0, m, s, _, _, h, _ => by omega
  | k, n + 1, m, s, h1, h2, h3, h4 => by
    rw [R_s_Decimal_5_eq]
    by_cases h0 : m = 0
    · subst h0
      rw [decide_eq_true (by rfl), Bool.not_true, cond_false, cond_false]
      congr 1
    · rw [decide_eq_false (by omega), Bool.not_false, cond_true]
      have e1 : ((m : Int)).tmod 10 = ((m % 10 : Nat) : Int) := (Int.ofNat_tmod m 10).symm
      have e2 : ((m : Int)).tdiv 10 = ((m / 10 : Nat) : Int) := (Int.ofNat_tdiv m 10).symm
      cases k with
      | zero => omega
      | succ k =>
        have hq : m / 10 < 10 ^ k := by rw [Nat.pow_succ] at h1; omega
        rw [e1, e2, decide_eq_false (by omega), cond_false, fig (Nat.mod_lt _ (by decide)), Option.bind_some, wrap64 (by omega) (by omega)]
        have e3 : (ByteArray.mk (List.map (fun n : Int => UInt8.ofNat n.toNat) [((48 + m % 10 : Nat) : Int)]).toArray) = bL [UInt8.ofNat (48 + m % 10)] := rfl
        have hs : (bL [UInt8.ofNat (48 + m % 10)]).size = 1 := rfl
        rw [e3, if_pos (by rw [hs]; unfold lim; omega), dec_loop k n (m / 10) _ hq (by omega) (by omega) (by rw [ByteArray.size_append, hs]; omega), dz_step h0, bL_append, ByteArray.append_assoc]

theorem itoaB_nat (m : Nat) : itoaB (m : Int) = bL (Lib.decDigits m) := by
  unfold itoaB Lib.itoa
  rw [if_neg (by omega), Int.toNat_natCast]
  rfl
theorem p_s_Decimal (m : Nat) (h : m < 9223372036854775808) : Q_s_Decimal big (m : Int) = some (itoaB (m : Int)) := by
  rw [Q_s_Decimal_eq, itoaB_nat]
  by_cases h0 : m = 0
  · subst h0
    rw [decide_eq_true (by rfl), cond_true, Lib.decDigits_one (by decide)]
    rfl
  · rw [decide_eq_false (by omega), cond_false, decide_eq_false (by omega)]
    rw [dec_loop 19 big m _ (Nat.lt_trans h (by decide)) h (by unfold big; decide) (by decide)]
    unfold dz
    rw [if_neg h0]
    congr 1
    apply ByteArray.ext
    simp [bL]

/-! ### The number of a numeral -/
def dgt (b : UInt8) : Bool := decide (48 ≤ b.toNat) && decide (b.toNat ≤ 57)
def valN (a : Nat) (l : List UInt8) : Nat := l.foldl (fun a b => a * 10 + (b.toNat - 48)) a

theorem valN_lt : ∀ (l : List UInt8) (a i : Nat), a < 10 ^ i → (∀ b ∈ l, dgt b = true) → valN a l < 10 ^ (i + l.length)
  | [], a, i, h, _ => by simpa [valN] using h
  | b :: l, a, i, h, hd => by
    have hb := hd b (by simp)
    simp only [dgt, Bool.and_eq_true, decide_eq_true_eq] at hb
    have := valN_lt l (a * 10 + (b.toNat - 48)) (i + 1) (by rw [Nat.pow_succ]; omega) (fun x hx => hd x (by simp [hx]))
    have e : i + (b :: l).length = i + 1 + l.length := by simp; omega
    rw [e]
    exact this

theorem parse_digits : ∀ (l : List UInt8) (a i : Nat), a < 10 ^ i → i + l.length ≤ 11 → (∀ b ∈ l, dgt b = true) → Lib.parseUint10 a l = .ok (valN a l)
  | [], a, i, _, _, _ => rfl
  | b :: l, a, i, h, hl, hd => by
    have hb := hd b (by simp)
    simp only [dgt, Bool.and_eq_true, decide_eq_true_eq] at hb
    simp only [List.length_cons] at hl
    have h10 : 10 ^ i ≤ 10 ^ 10 := Nat.pow_le_pow_right (by decide) (by omega)
    have h10' : (10 : Nat) ^ 10 = 10000000000 := by decide
    simp only [Lib.parseUint10]
    rw [if_pos hb, if_neg (by omega), if_neg (by omega)]
    exact parse_digits l (a * 10 + (b.toNat - 48)) (i + 1) (by rw [Nat.pow_succ]; omega) (by omega) (fun x hx => hd x (by simp [hx]))

theorem dec_digits (m : Nat) : ∀ b ∈ Lib.decDigits m, dgt b = true := by
  induction m using Nat.strongRecOn with
  | _ m ih =>
    intro b hb
    by_cases h : m < 10
    · rw [Lib.decDigits_one h] at hb
      simp only [List.mem_singleton] at hb
      subst hb
      have : (UInt8.ofNat (48 + m)).toNat = 48 + m := by simp; omega
      simp only [dgt, this, Bool.and_eq_true, decide_eq_true_eq]; omega
    · rw [Lib.decDigits, dif_neg h] at hb
      rcases List.mem_append.1 hb with hb | hb
      · exact ih (m / 10) (by omega) b hb
      · simp only [List.mem_singleton] at hb
        subst hb
        have : (UInt8.ofNat (48 + m % 10)).toNat = 48 + m % 10 := by simp; omega
        simp only [dgt, this, Bool.and_eq_true, decide_eq_true_eq]; omega
theorem val_dec (m : Nat) : valN 0 (Lib.decDigits m) = m := by
  induction m using Nat.strongRecOn with
  | _ m ih =>
    by_cases h : m < 10
    · rw [Lib.decDigits_one h]
      have : (UInt8.ofNat (48 + m)).toNat = 48 + m := by simp; omega
      simp only [valN, List.foldl_cons, List.foldl_nil, this]
      omega
    · rw [Lib.decDigits, dif_neg h]
      have : (UInt8.ofNat (48 + m % 10)).toNat = 48 + m % 10 := by simp; omega
      have h2 := ih (m / 10) (by omega)
      unfold valN at h2 ⊢
      rw [List.foldl_append, h2]
      simp only [List.foldl_cons, List.foldl_nil, this]
      omega
theorem dec_len (m : Nat) (h : m ≤ 1000000000) : (Lib.decDigits m).length ≤ 10 ∧ Lib.decDigits m ≠ [] := by
  have hp := Lib.nDigits_pos m
  rw [← Lib.decDigits_length] at hp
  refine ⟨?_, fun e => by rw [e] at hp; simp at hp⟩
  rw [Lib.decDigits_length]
  by_cases h0 : m = 0
  · subst h0; rw [Lib.nDigits_small (by decide)]; decide
  · have h1 := Lib.lt_pow_nDigits m
    rcases Nat.lt_or_ge 10 (Lib.nDigits m) with hl | hl
    · obtain ⟨k, hk⟩ : ∃ k, Lib.nDigits m = k + 1 := ⟨Lib.nDigits m - 1, by omega⟩
      have h2 := Lib.numDigits_eq m (by omega) (by omega)
      have h3 : 10 ^ (Lib.nDigits m - 1) ≤ m := by
        rcases Nat.lt_or_ge m (10 ^ (Lib.nDigits m - 1)) with h | h
        · exfalso
          have hle : ∀ (k u : Nat), u < 10 ^ k → 0 < k → Lib.nDigits u ≤ k := by
            intro k
            induction k with
            | zero => intro u _ h; omega
            | succ k ih =>
              intro u hu _
              by_cases hs : u < 10
              · rw [Lib.nDigits_small hs]; omega
              · rw [Lib.nDigits_big hs]
                have hk0 : 0 < k := by
                  rcases Nat.eq_zero_or_pos k with e | e
                  · subst e; simp at hu; omega
                  · exact e
                have := ih (u / 10) (by rw [Nat.pow_succ] at hu; omega) hk0
                omega
          have := hle (Lib.nDigits m - 1) m h (by omega)
          omega
        · exact h
      have h4 : (10 : Nat) ^ 10 ≤ 10 ^ (Lib.nDigits m - 1) := Nat.pow_le_pow_right (by decide) (by omega)
      have h5 : (10 : Nat) ^ 10 = 10000000000 := by decide
      omega
    · exact hl

/-- is a text the numeral of a number that may be? -/
def isNumeral (s : ByteArray) (v : Nat) : Prop := v ≤ 1000000000 ∧ bL (Lib.decDigits v) = s

theorem rdV_yes {s : ByteArray} {v : Nat} (h : isNumeral s v) : rdV s = ((v : Int), true, ()) := by
  obtain ⟨h1, rfl⟩ := h
  obtain ⟨hl, hn⟩ := dec_len v h1
  have hd := dec_digits v
  have hp : Lib.parseMag (Lib.decDigits v) = .ok v := by
    unfold Lib.parseMag
    rw [if_neg hn, parse_digits _ 0 0 (by decide) (by omega) hd, val_dec]
  have ha : Lib.atoiAll (bL (Lib.decDigits v)).data.toList = .ok (v : Int) := by
    rw [bL_list]
    cases hc : Lib.decDigits v with
    | nil => exact absurd hc hn
    | cons c r =>
      have hb := hd c (by rw [hc]; simp)
      simp only [dgt, Bool.and_eq_true, decide_eq_true_eq] at hb
      rw [hc] at hp
      unfold Lib.atoiAll
      dsimp only
      rw [if_neg (by omega), hp]
      dsimp only
      rw [if_neg (by omega), if_neg (by omega), if_neg (by omega)]
  unfold rdV
  rw [ha]
  dsimp only
  have hv : (decide ((0 : Int) ≤ (v : Int)) && decide ((v : Int) ≤ 1000000000)) = true := by
    simp only [Bool.and_eq_true, decide_eq_true_eq]; omega
  rw [hv, cond_true, itoaB_nat, if_pos rfl, decide_eq_true rfl]
theorem rdV_no {s : ByteArray} (h : ∀ v, ¬ isNumeral s v) : rdV s = (0, false, ()) := by
  unfold rdV
  cases ha : Lib.atoiAll s.data.toList with
  | «syntax» => rfl
  | range => rfl
  | ok v =>
    dsimp only
    cases hv : (decide (0 ≤ v) && decide (v ≤ 1000000000)) with
    | false => rfl
    | true =>
      simp only [Bool.and_eq_true, decide_eq_true_eq] at hv
      rw [cond_true]
      have hne : itoaB v ≠ s := fun e => by
        obtain ⟨m, rfl⟩ : ∃ m : Nat, v = m := ⟨v.toNat, by omega⟩
        rw [itoaB_nat] at e
        exact h m ⟨by omega, e⟩
      rw [if_neg hne, decide_eq_false hne]

/-! ### The reference's -/
noncomputable def finD (s : ByteArray) (m : Nat) : Int × Bool × Unit := bif decide (m ≤ 1000000000) && decide (bL (Lib.decDigits m) = s) then ((m : Int), true, ()) else (0, false, ())

theorem sd_loop (s : ByteArray) (hs : s.size ≤ 10) : ∀ (n i a : Nat), s.size < n + i → i ≤ s.size → a < 10 ^ i → R_s_ReadDecimal_5 n s (a : Int) (i : Int) = some (bif (s.data.toList.drop i).all dgt then finD s (valN a (s.data.toList.drop i)) else (0, false, ()))
  | 0, i, a, h1, h2, _ => by omega
  | n + 1, i, a, h1, h2, h3 => by
    have hl : s.data.toList.length = s.size := by rw [Array.length_toList]; rfl
    have h10 : 10 ^ i ≤ 10 ^ 10 := Nat.pow_le_pow_right (by decide) (by omega)
    have h10' : (10 : Nat) ^ 10 = 10000000000 := by decide
    rw [R_s_ReadDecimal_5_eq]
    rcases Nat.lt_or_ge i s.size with hi | hi
    · have hi' : i < s.data.toList.length := by omega
      rw [decide_eq_true (by omega), cond_true, mk4 (nth_at hi'), mk4 (nth_at hi'), mk4 (nth_at hi'), List.drop_eq_getElem_cons hi', List.all_cons]
      have hb : (s.data.toList[i]).toNat < 256 := UInt8.toNat_lt _
      by_cases c1 : ((s.data.toList[i].toNat : Nat) : Int) < 48
      · have hd : dgt (s.data.toList[i]) = false := by simp only [dgt, Bool.and_eq_false_iff, decide_eq_false_iff_not]; omega
        rw [decide_eq_true c1, cond_true, hd, Bool.false_and, cond_false]
      · rw [decide_eq_false c1, cond_false]
        by_cases c2 : (57 : Int) < ((s.data.toList[i].toNat : Nat) : Int)
        · have hd : dgt (s.data.toList[i]) = false := by simp only [dgt, Bool.and_eq_false_iff, decide_eq_false_iff_not]; omega
          rw [decide_eq_true c2, cond_true, hd, Bool.false_and, cond_false]
        · have hd : dgt (s.data.toList[i]) = true := by simp only [dgt, Bool.and_eq_true, decide_eq_true_eq]; omega
          rw [decide_eq_false c2, cond_false, hd, Bool.true_and, wrap64 (n := ((s.data.toList[i].toNat : Nat) : Int)) (by omega) (by omega), wrap64 (n := (10 : Int) * (a : Int)) (by omega) (by omega),
            wrap64 (n := (10 : Int) * (a : Int) + ((s.data.toList[i].toNat : Nat) : Int)) (by omega) (by omega), wrap64 (n := (10 : Int) * (a : Int) + ((s.data.toList[i].toNat : Nat) : Int) - 48) (by omega) (by omega), wrap_succ (by omega)]
          have e : (10 : Int) * (a : Int) + ((s.data.toList[i].toNat : Nat) : Int) - 48 = ((a * 10 + (s.data.toList[i].toNat - 48) : Nat) : Int) := by omega
          rw [e]
          exact sd_loop s hs n (i + 1) _ (by omega) (by omega) (by rw [Nat.pow_succ]; omega)
    · have e : i = s.size := by omega
      rw [decide_eq_false (by omega), cond_false, List.drop_eq_nil_of_le (by omega)]
      simp only [List.all_nil, cond_true, valN, List.foldl_nil]
      unfold finD
      by_cases c : (1000000000 : Int) < (a : Int)
      · rw [decide_eq_true c, cond_true, decide_eq_false (by omega), Bool.false_and, cond_false]
      · rw [decide_eq_false c, cond_false, p_s_Decimal a (by omega), Option.bind_some, itoaB_nat, decide_eq_true (show a ≤ 1000000000 by omega), Bool.true_and]
        cases decide (bL (Lib.decDigits a) = s) <;> rfl

theorem p_s_ReadDecimal (s : ByteArray) : Q_s_ReadDecimal big s = some (rdV s) := by
  rw [Q_s_ReadDecimal_eq]
  by_cases hs : (10 : Int) < (s.size : Int)
  · rw [decide_eq_true hs, cond_true, rdV_no]
    rintro v ⟨h1, rfl⟩
    have := (dec_len v h1).1
    rw [bL_size] at hs
    omega
  · rw [decide_eq_false hs, cond_false]
    have hl : s.data.toList.length = s.size := by rw [Array.length_toList]; rfl
    have := sd_loop s (by omega) big 0 0 (by unfold big; omega) (by omega) (by decide)
    rw [Int.natCast_zero, List.drop_zero] at this
    rw [this]
    congr 1
    by_cases hex : ∃ v, isNumeral s v
    · obtain ⟨v, hv⟩ := hex
      rw [rdV_yes hv]
      obtain ⟨h1, rfl⟩ := hv
      rw [bL_list, List.all_eq_true.2 (dec_digits v), cond_true, val_dec]
      unfold finD
      rw [decide_eq_true h1, decide_eq_true rfl]
      rfl
    · have hn : ∀ v, ¬ isNumeral s v := fun v hv => hex ⟨v, hv⟩
      rw [rdV_no hn]
      cases (s.data.toList.all dgt) with
      | false => rfl
      | true =>
        rw [cond_true]
        unfold finD
        generalize valN 0 s.data.toList = m
        by_cases c1 : m ≤ 1000000000
        · have c2 : bL (Lib.decDigits m) ≠ s := fun e => hn m ⟨c1, e⟩
          rw [decide_eq_true c1, decide_eq_false c2]; rfl
        · rw [decide_eq_false c1]; rfl
theorem p_i_ReadDecimal (s : ByteArray) (h : s.size ≤ 281474976710656) : Q_i_ReadDecimal big s = some (rdV s) := by
  rw [Q_i_ReadDecimal_eq, if_pos h]

end Go.Sx.Tryz

set_option maxRecDepth 100000
namespace Go.Sx.Tryz
open Go Go.Sx Go.Proofs

/-- may a byte stand in a line? -/
def prb (b : UInt8) : Bool := decide (32 ≤ b.toNat) && decide (b.toNat ≤ 126)
/-- the words, if they are not too many -/
def finP (l : List ByteArray) : List ByteArray × Bool × Unit := bif decide (10 < l.length) then ([], false, ()) else (l, true, ())
def partsV (s : ByteArray) : List ByteArray × Bool × Unit := bif decide (600 < s.size) then ([], false, ()) else (bif s.data.toList.all prb then finP (wordsB s) else ([], false, ()))

theorem len_data (s : ByteArray) : s.data.toList.length = s.size := by rw [Array.length_toList]; rfl
theorem ext_bL (s : ByteArray) (b i : Nat) : s.extract b i = bL ((s.data.toList.drop b).take (i - b)) := by
  apply ByteArray.ext
  apply Array.toList_inj.1
  simp [bL, ByteArray.data_extract, List.extract_eq_take_drop]

theorem i_parts_loop (s : ByteArray) (hs : s.size ≤ 600) : ∀ (n i : Nat), s.size < n + i → i ≤ s.size → (∀ b ∈ s.data.toList.take i, prb b = true) → R_i_PartsOf_4 n s (s.size : Int) (i : Int) = some (bif (s.data.toList.drop i).all prb then finP (wordsB s) else ([], false, ()))
  | 0, i, h1, h2, _ => by omega
  | n + 1, i, h1, h2, h3 => by
    have hl := len_data s
    rw [R_i_PartsOf_4_eq]
    rcases Nat.lt_or_ge i s.size with hi | hi
    · have hi' : i < s.data.toList.length := by omega
      have hb : (s.data.toList[i]).toNat < 256 := UInt8.toNat_lt _
      rw [decide_eq_true (by omega), cond_true, mk4 (nth_at hi'), mk4 (nth_at hi'), List.drop_eq_getElem_cons hi', List.all_cons, wrap_succ (by omega)]
      by_cases c1 : ((s.data.toList[i].toNat : Nat) : Int) < 32
      · have hd : prb (s.data.toList[i]) = false := by simp only [prb, Bool.and_eq_false_iff, decide_eq_false_iff_not]; omega
        rw [decide_eq_true c1, cond_true, hd, Bool.false_and, cond_false]
      · rw [decide_eq_false c1, cond_false]
        by_cases c2 : (126 : Int) < ((s.data.toList[i].toNat : Nat) : Int)
        · have hd : prb (s.data.toList[i]) = false := by simp only [prb, Bool.and_eq_false_iff, decide_eq_false_iff_not]; omega
          rw [decide_eq_true c2, cond_true, hd, Bool.false_and, cond_false]
        · have hd : prb (s.data.toList[i]) = true := by simp only [prb, Bool.and_eq_true, decide_eq_true_eq]; omega
          rw [decide_eq_false c2, cond_false, hd, Bool.true_and]
          refine i_parts_loop s hs n (i + 1) (by omega) (by omega) (fun b hb => ?_)
          rw [List.take_succ_eq_append_getElem hi'] at hb
          rcases List.mem_append.1 hb with hb | hb
          · exact h3 b hb
          · simp only [List.mem_singleton] at hb; subst hb; exact hd
    · have e : i = s.size := by omega
      have hall : (s.data.toList.all fun b => decide (b.toNat < 128)) = true := by
        refine List.all_eq_true.2 fun b hb => ?_
        have := h3 b (by rw [List.take_of_length_le (by omega)]; exact hb)
        simp only [prb, Bool.and_eq_true, decide_eq_true_eq] at this
        simp only [decide_eq_true_eq]; omega
      rw [decide_eq_false (by omega), cond_false, List.drop_eq_nil_of_le (by omega), Q_x_strings_Fields_eq, if_pos (by omega), if_pos hall, Option.bind_some]
      simp only [List.all_nil, cond_true]
      unfold finP
      by_cases c : (10 : Int) < (List.length (wordsB s) : Int)
      · rw [decide_eq_true c, decide_eq_true (show 10 < (wordsB s).length by omega)]; rfl
      · rw [decide_eq_false c, decide_eq_false (show ¬ 10 < (wordsB s).length by omega)]; rfl

theorem p_i_PartsOf (s : ByteArray) : Q_i_PartsOf big s = some (partsV s) := by
  rw [Q_i_PartsOf_eq]
  unfold partsV
  by_cases hs : (600 : Int) < (s.size : Int)
  · rw [decide_eq_true hs, decide_eq_true (show 600 < s.size by omega)]; rfl
  · rw [decide_eq_false hs, decide_eq_false (show ¬ 600 < s.size by omega), cond_false, cond_false]
    have := i_parts_loop s (by omega) big 0 (by unfold big; omega) (by omega) (by simp)
    rw [Int.natCast_zero, List.drop_zero] at this
    exact this

theorem isSp_pr {b : UInt8} (h : prb b = true) : Lib.isSp b = decide (b.toNat = 32) := by
  simp only [prb, Bool.and_eq_true, decide_eq_true_eq] at h
  have hne : ∀ c : UInt8, c.toNat < 32 → (b == c) = false := fun c hc => by
    cases hbc : (b == c) with
    | false => rfl
    | true => have := beq_iff_eq.1 hbc; subst this; omega
  unfold Lib.isSp
  rw [hne 9 (by decide), hne 10 (by decide), hne 11 (by decide), hne 12 (by decide), hne 13 (by decide)]
  simp only [Bool.false_or]
  by_cases h32 : b.toNat = 32
  · have : b = 32 := UInt8.toNat_inj.1 h32
    subst this; rfl
  · rw [decide_eq_false h32]
    cases hbc : (b == 32) with
    | false => rfl
    | true => have := beq_iff_eq.1 hbc; subst this; exact absurd rfl h32

set_option maxHeartbeats 4000000 in
theorem s_parts_end (s : ByteArray) (hs : s.size ≤ 600) (n : Nat) (l : List ByteArray) (b : Int) : R_s_PartsOf_6 (n + 1) s l b ((s.size + 1 : Nat) : Int) = some (finP l) := by
  rw [R_s_PartsOf_6_eq, decide_eq_false (by omega), cond_false]
  unfold finP
  by_cases c : (10 : Int) < (List.length l : Int)
  · rw [decide_eq_true c, decide_eq_true (show 10 < l.length by omega)]; rfl
  · rw [decide_eq_false c, decide_eq_false (show ¬ 10 < l.length by omega)]; rfl

set_option maxHeartbeats 8000000 in
theorem s_parts_loop (s : ByteArray) (hs : s.size ≤ 600) : ∀ (n i b : Nat) (l : List ByteArray), s.size + 1 < n + i → i ≤ s.size → b ≤ i → l.length ≤ i →
    R_s_PartsOf_6 n s l (b : Int) (i : Int) = some (bif (s.data.toList.drop i).all prb then finP (l ++ (Lib.fieldsGo ((s.data.toList.drop b).take (i - b)) (s.data.toList.drop i)).map bL) else ([], false, ()))
  | 0, i, b, l, h1, h2, _, _ => by omega
  | n + 1, i, b, l, h1, h2, h3, h4 => by
    have hl := len_data s
    have hcur : ((s.data.toList.drop b).take (i - b)).length = i - b := by rw [List.length_take, List.length_drop]; omega
    rcases Nat.lt_or_ge i s.size with hi | hi
    · have hi' : i < s.data.toList.length := by omega
      have hb : (s.data.toList[i]).toNat < 256 := UInt8.toNat_lt _
      rw [R_s_PartsOf_6_eq, decide_eq_true (by omega), cond_true, decide_eq_true (by omega), cond_true, mk4 (nth_at hi'), List.drop_eq_getElem_cons hi', List.all_cons]
      by_cases c1 : ((s.data.toList[i].toNat : Nat) : Int) < 32
      · have hd : prb (s.data.toList[i]) = false := by simp only [prb, Bool.and_eq_false_iff, decide_eq_false_iff_not]; omega
        rw [decide_eq_true c1, cond_true, hd, Bool.false_and, cond_false]
      · rw [decide_eq_false c1, cond_false, mk4 (nth_at hi')]
        by_cases c2 : (126 : Int) < ((s.data.toList[i].toNat : Nat) : Int)
        · have hd : prb (s.data.toList[i]) = false := by simp only [prb, Bool.and_eq_false_iff, decide_eq_false_iff_not]; omega
          rw [decide_eq_true c2, cond_true, hd, Bool.false_and, cond_false]
        · have hd : prb (s.data.toList[i]) = true := by simp only [prb, Bool.and_eq_true, decide_eq_true_eq]; omega
          have hsp := isSp_pr hd
          rw [decide_eq_false c2, cond_false, hd, Bool.true_and, cond_true, mk4 (nth_at hi')]
          have hw : IntKind.wrap .i64 ((i : Int) + 1) = ((i + 1 : Nat) : Int) := wrap_succ (by omega)
          by_cases c3 : ((s.data.toList[i].toNat : Nat) : Int) = 32
          · rw [decide_eq_true (show s.data.toList[i].toNat = 32 by omega)] at hsp
            rw [decide_eq_true c3, Bool.not_true, cond_false, hw]
            by_cases c4 : (b : Int) < (i : Int)
            · rw [decide_eq_true c4, cond_true, if_pos (by omega), if_pos (by omega), if_pos (by omega), if_pos (by omega), if_pos (by simp only [List.length_singleton]; unfold lim; omega), Int.toNat_natCast, Int.toNat_natCast, ext_bL,
                Lib.fieldsGo_end _ _ _ hsp (by intro e; rw [e] at hcur; simp at hcur; omega), s_parts_loop s hs n (i + 1) (i + 1) _ (by omega) (by omega) (by omega) (by rw [List.append_eq, List.length_append]; simp; omega)]
              simp
            · have e : b = i := by omega
              subst e
              rw [decide_eq_false c4, cond_false, s_parts_loop s hs n (b + 1) (b + 1) l (by omega) (by omega) (by omega) (by omega)]
              simp only [Nat.sub_self, List.take_zero]
              rw [Lib.fieldsGo_sp _ _ hsp]
          · rw [decide_eq_false (show ¬ s.data.toList[i].toNat = 32 by omega)] at hsp
            rw [decide_eq_false c3, Bool.not_false, cond_true, hw, s_parts_loop s hs n (i + 1) b l (by omega) (by omega) (by omega) (by omega), Lib.fieldsGo_more _ _ _ hsp]
            have e : (s.data.toList.drop b).take (i + 1 - b) = (s.data.toList.drop b).take (i - b) ++ [s.data.toList[i]] := by
              have hlt : i - b < (s.data.toList.drop b).length := by rw [List.length_drop]; omega
              rw [show i + 1 - b = (i - b) + 1 by omega, List.take_succ_eq_append_getElem hlt]
              congr 2
              rw [List.getElem_drop]
              congr 1
              omega
            rw [e]
    · have e : i = s.size := by omega
      subst e
      have hd0 : s.data.toList.drop s.size = [] := List.drop_eq_nil_of_le (by omega)
      obtain ⟨n, rfl⟩ : ∃ m, n = m + 1 := ⟨n - 1, by omega⟩
      rw [R_s_PartsOf_6_eq, decide_eq_true (by omega), cond_true, decide_eq_false (by omega), cond_false, cond_false, hd0, wrap_succ (by omega)]
      simp only [List.all_nil, cond_true]
      by_cases c4 : (b : Int) < (s.size : Int)
      · have hne : (s.data.toList.drop b).take (s.size - b) ≠ [] := by intro e; rw [e] at hcur; simp at hcur; omega
        have hf : Lib.fieldsGo ((s.data.toList.drop b).take (s.size - b)) [] = [(s.data.toList.drop b).take (s.size - b)] := by
          unfold Lib.fieldsGo
          rw [if_neg (by simpa using hne)]
        rw [decide_eq_true c4, cond_true, if_pos (by omega), if_pos (by omega), if_pos (by omega), if_pos (by omega), if_pos (by simp only [List.length_singleton]; unfold lim; omega), Int.toNat_natCast, Int.toNat_natCast, ext_bL, s_parts_end s hs, hf]
        rfl
      · have e : b = s.size := by omega
        subst e
        rw [decide_eq_false c4, cond_false, s_parts_end s hs]
        simp [Lib.fieldsGo]

theorem p_s_PartsOf (s : ByteArray) : Q_s_PartsOf big s = some (partsV s) := by
  rw [Q_s_PartsOf_eq]
  unfold partsV
  by_cases hs : (600 : Int) < (s.size : Int)
  · rw [decide_eq_true hs, decide_eq_true (show 600 < s.size by omega)]; rfl
  · rw [decide_eq_false hs, decide_eq_false (show ¬ 600 < s.size by omega), cond_false, cond_false]
    have := s_parts_loop s (by omega) big 0 0 [] (by unfold big; omega) (by omega) (by omega) (by simp)
    rw [Int.natCast_zero, List.drop_zero] at this
    rw [this]
    rfl

end Go.Sx.Tryz

set_option maxRecDepth 100000
namespace Go.Sx.Tryz
open Go Go.Sx Go.Proofs

theorem c_in (x a b : Int) : Q_i_in big x a b = some (bif decide (a ≤ x) then decide (x ≤ b) else false) := by
  rw [Q_i_in_eq]
  cases decide (a ≤ x) <;> rfl
theorem c_l01In (x a b : Int) : Q_s_l01In big x a b = some (bif decide (a ≤ x) then decide (x ≤ b) else false) := by
  rw [Q_s_l01In_eq]
  cases decide (a ≤ x) <;> rfl
theorem c_isNum (n : Int) : Q_i_isNum big n = some (numB n) := by rw [Q_i_isNum_eq, c_in]; rfl

theorem p_i_KeyOk (k : ByteArray) (h : k.size ≤ 1048576) : Q_i_KeyOk big k = some (keyB k) := by
  have hl : k.data.toList.length = k.size := by rw [Array.length_toList]; rfl
  have hk := any_ok (xs := k.data.toList) (p := fun y => decide ((y.toNat : Int) < 97) || decide (122 < (y.toNat : Int))) (b := false) (e := some (bif decide ((1 : Int) ≤ (k.size : Int)) then decide ((k.size : Int) ≤ 3) else false))
    (r := fun n i => R_i_KeyOk_2 n k (k.size : Int) i) (n := big) (fun n i hi => by
      rw [R_i_KeyOk_2_eq, decide_eq_true (by omega), cond_true, mk4 (nth_at hi), mk4 (nth_at hi), wrap_succ (by omega)]
      cases decide (((k.data.toList[i]).toNat : Int) < 97) <;> cases decide (122 < ((k.data.toList[i]).toNat : Int)) <;> rfl) (fun n => by
      rw [R_i_KeyOk_2_eq, decide_eq_false (by omega), cond_false, c_in]; rfl) (by rw [hl]; exact Nat.lt_of_le_of_lt h (by decide))
  rw [Q_i_KeyOk_eq]
  refine hk.trans ?_
  unfold keyB
  cases k.data.toList.any _ <;> rfl
theorem p_s_KeyOk (k : ByteArray) (h : k.size ≤ 1048576) : Q_s_KeyOk big k = some (keyB k) := by
  have hl : k.data.toList.length = k.size := by rw [Array.length_toList]; rfl
  have hk := any_ok (xs := k.data.toList) (p := fun y => decide ((y.toNat : Int) < 97) || decide (122 < (y.toNat : Int))) (b := false) (e := some (bif decide ((1 : Int) ≤ (k.size : Int)) then decide ((k.size : Int) ≤ 3) else false))
    (r := fun n i => R_s_KeyOk_2 n k i) (n := big) (fun n i hi => by
      rw [R_s_KeyOk_2_eq, decide_eq_true (by omega), cond_true, mk4 (nth_at hi), mk4 (nth_at hi), wrap_succ (by omega)]
      cases decide (((k.data.toList[i]).toNat : Int) < 97) <;> cases decide (122 < ((k.data.toList[i]).toNat : Int)) <;> rfl) (fun n => by
      rw [R_s_KeyOk_2_eq, decide_eq_false (by omega), cond_false, c_l01In]; rfl) (by rw [hl]; exact Nat.lt_of_le_of_lt h (by decide))
  rw [Q_s_KeyOk_eq]
  refine hk.trans ?_
  unfold keyB
  cases k.data.toList.any _ <;> rfl
theorem p_i_CmdOk (c : DICmd) (h : ByteArray.size c.2.1 ≤ 1048576) : Q_i_CmdOk big c = some (cmdB c) := by
  rw [Q_i_CmdOk_eq, c_in, p_i_KeyOk _ h, c_isNum]
  unfold cmdB
  simp only [Option.bind_some]
  generalize (bif decide ((1 : Int) ≤ c.1) then decide (c.1 ≤ 3) else false) = b
  cases b <;> cases keyB c.2.1 <;> rfl
theorem p_s_CmdOk (c : DICmd) (h : ByteArray.size c.2.1 ≤ 1048576) : Q_s_CmdOk big c = some (cmdB c) := by
  rw [Q_s_CmdOk_eq, c_l01In, p_s_KeyOk _ h, c_l01In]
  unfold cmdB numB
  simp only [Option.bind_some]
  generalize (bif decide ((1 : Int) ≤ c.1) then decide (c.1 ≤ 3) else false) = b
  cases b <;> cases keyB c.2.1 <;> rfl

theorem p_EventOk (e : DIEvent) (h : ByteArray.size e.2.2.2.2.1.2.1 ≤ 1048576) : ∃ b, Q_i_EventOk big e = some b ∧ Q_s_EventOk big e = some b := by
  rw [Q_i_EventOk_eq, Q_s_EventOk_eq, c_in, c_l01In, p_i_CmdOk _ h, p_s_CmdOk _ h]
  simp only [Option.bind_some]
  generalize (!bif decide ((1 : Int) ≤ e.1) then decide (e.1 ≤ 11) else false) = b1
  cases b1
  · cases decide (e.2.1 < 0)
    · cases decide (e.2.2.1 < 0)
      · cases decide (e.2.2.2.1 < 0)
        · cases decide (e.1 = 1)
          · cases decide (e.1 = 10)
            · exact ⟨_, rfl, rfl⟩
            · exact ⟨_, rfl, rfl⟩
          · exact ⟨_, rfl, rfl⟩
        · exact ⟨_, rfl, rfl⟩
      · exact ⟨_, rfl, rfl⟩
    · exact ⟨_, rfl, rfl⟩
  · exact ⟨_, rfl, rfl⟩

/-! ### A new cluster -/
theorem wrapu {i : Int} (h0 : 0 ≤ i) (h1 : i < 18446744073709551616) : IntKind.wrap .u64 i = i := by
  unfold IntKind.wrap
  simp [IntKind.bits, IntKind.signed]
  omega
theorem count_loop (m : Int) (hm : 0 ≤ m) : ∀ (n i : Nat) (c : Int), 7 < n + i → i ≤ 7 → 0 ≤ c → c ≤ i → ∃ v, R_i_CountOf_3 n m c (i : Int) = some v ∧ R_s_CountOf_3 n m c (i : Int) = some v
  | 0, i, c, h1, h2, _, _ => by omega
  | n + 1, i, c, h1, h2, h3, h4 => by
    rw [R_i_CountOf_3_eq, R_s_CountOf_3_eq]
    by_cases hi : (i : Int) < 7
    · rw [decide_eq_true hi, decide_eq_true hm, wrapu (by omega) (by omega), if_neg (show ¬ (i : Int) < 0 by omega), if_neg (show ¬ (i : Int) < 0 by omega), bit_one, wrap64 (n := (i : Int) + 1) (by omega) (by omega)]
      simp only [cond_true]
      have hp : (0 : Int) < (2 : Int) ^ min (i : Int).toNat IntKind.i64.bits := Int.pow_pos (by decide)
      have hf : 0 ≤ m.fdiv ((2 : Int) ^ min (i : Int).toNat IntKind.i64.bits) := Int.fdiv_nonneg hm (Int.le_of_lt hp)
      rw [Int.tmod_eq_emod_of_nonneg hf]
      generalize hq : m.fdiv ((2 : Int) ^ min (i : Int).toNat IntKind.i64.bits) = q at hf
      rw [wrap64 (n := c + q % 2) (by omega) (by omega)]
      by_cases h0 : 0 < m
      · rw [decide_eq_true h0]
        exact count_loop m hm n (i + 1) (c + q % 2) (by omega) (by omega) (by omega) (by omega)
      · rw [decide_eq_false h0]
        have e : m = 0 := by omega
        subst e
        rw [Int.zero_fdiv] at hq
        subst hq
        rw [show c + 0 % 2 = c by omega]
        exact count_loop 0 hm n (i + 1) c (by omega) (by omega) (by omega) (by omega)
    · rw [decide_eq_false hi]; exact ⟨_, rfl, rfl⟩
theorem p_CountOf (m : Int) (hm : 0 ≤ m) : ∃ v, Q_i_CountOf big m = some v ∧ Q_s_CountOf big m = some v := by
  rw [Q_i_CountOf_eq, Q_s_CountOf_eq]
  exact count_loop m hm big 0 0 (by decide) (by decide) (by decide) (by decide)
theorem p_Faults (n : Int) : ∃ v, Q_i_Faults big n = some v ∧ Q_s_Faults big n = some v := by
  rw [Q_i_Faults_eq, Q_s_Faults_eq]
  cases decide (n < 1) <;> exact ⟨_, rfl, rfl⟩
theorem new_loop (a0 : Int) (a1 : Bool) (a2 : Int) (h7 : a0 ≤ 7) : ∀ (n i : Nat) (ps : List DIPeer), 7 < n + i → (i : Int) ≤ a0 → ps.length = i →
    ∃ r, R_i_ClusterNew_5 n a0 (i : Int) 0 false 0 [] [] [] [] [] a0 a1 a2 [(-1, 0, [], (0, 0, 0, 0, ()), ())] ps [] [] [] = some r ∧
      R_s_ClusterNew_5 n a0 (i : Int) 0 false 0 [] [] [] [] [] a0 a1 a2 [(-1, 0, [], (0, 0, 0, 0, ()), ())] ps [] [] [] = some r
  | 0, i, ps, h1, h2, _ => by omega
  | n + 1, i, ps, h1, h2, h3 => by
    rw [R_i_ClusterNew_5_eq, R_s_ClusterNew_5_eq]
    by_cases hi : (i : Int) < a0
    · rw [decide_eq_true hi, wrap64 (n := (i : Int) + 1) (by omega) (by omega), if_pos (by unfold lim; omega)]
      simp only [cond_true]
      rw [if_pos (by unfold lim; omega)]
      have := new_loop a0 a1 a2 h7 n (i + 1) (ps.append [((i : Int), 1, (0, 0, 0, 0, ()), (0, 0, 0, 0, ()), (0, 0, 0, 0, ()), [], [], [], [], [], [], 0, ())]) (by omega) (by omega)
        (by rw [List.append_eq, List.length_append, h3]; rfl)
      rw [show ((i + 1 : Nat) : Int) = (i : Int) + 1 by omega] at this
      exact this
    · rw [decide_eq_false hi]
      exact ⟨_, rfl, rfl⟩
theorem p_ClusterNew (a0 : Int) (a1 : Bool) (a2 : Int) : ∃ r, Q_i_ClusterNew big a0 a1 a2 = some r ∧ Q_s_ClusterNew big a0 a1 a2 = some r := by
  rw [Q_i_ClusterNew_eq, Q_s_ClusterNew_eq, c_in, c_l01In]
  simp only [Option.bind_some]
  by_cases c1 : 1 ≤ a0
  · by_cases c7 : a0 ≤ 7
    · rw [decide_eq_true c1, decide_eq_true c7, wrapu (by omega) (by omega), if_neg (show ¬ a0 < 0 by omega), if_neg (show ¬ a0 < 0 by omega), c_in, c_l01In]
      simp only [Option.bind_some, cond_true, Bool.not_true, cond_false]
      generalize IntKind.wrap .i64 (IntKind.wrap .i64 (1 * (2 : Int) ^ min a0.toNat IntKind.i64.bits) - 1) = top
      by_cases d0 : 0 ≤ a2
      · rw [decide_eq_true d0]
        obtain ⟨v, v1, v2⟩ := p_CountOf a2 d0
        obtain ⟨w, w1, w2⟩ := p_Faults a0
        rw [v1, v2, w1, w2]
        simp only [Option.bind_some, cond_true]
        cases decide (a2 ≤ top) with
        | false => exact ⟨_, rfl, rfl⟩
        | true =>
          simp only [Bool.not_true, cond_false]
          cases decide (w < v) with
          | true => exact ⟨_, rfl, rfl⟩
          | false => exact new_loop a0 a1 a2 c7 big 0 [] (by decide) (by omega) rfl
      · rw [decide_eq_false d0]; exact ⟨_, rfl, rfl⟩
    · rw [decide_eq_true c1, decide_eq_false c7]; exact ⟨_, rfl, rfl⟩
  · rw [decide_eq_false c1]; exact ⟨_, rfl, rfl⟩

end Go.Sx.Tryz

set_option maxRecDepth 100000
namespace Go.Sx.Tryz
open Go Go.Sx Go.Proofs

/-! ### Words -/
def idxG : List ByteArray → ByteArray → Nat → Int
  | [], _, _ => -1
  | x :: l, w, i => bif decide (w = x) then (i : Int) else idxG l w (i + 1)
theorem index_loop (l : List ByteArray) (w : ByteArray) (hl : l.length ≤ 1000) : ∀ (n i : Nat), l.length < n + i → i ≤ l.length → R_g_Index_String_2 n l w (l.length : Int) (i : Int) = some (idxG (l.drop i) w i)
  | 0, i, h1, h2 => by omega
  | n + 1, i, h1, h2 => by
    rw [R_g_Index_String_2_eq]
    rcases Nat.lt_or_ge i l.length with hi | hi
    · rw [decide_eq_true (by omega), cond_true, mk4 (nth_at hi), wrap_succ (by omega), index_loop l w hl n (i + 1) (by omega) (by omega), List.drop_eq_getElem_cons hi]
      show _ = some (bif decide (w = l[i]) then (i : Int) else idxG (l.drop (i + 1)) w (i + 1))
      cases decide (w = l[i]) <;> rfl
    · have e : i = l.length := by omega
      subst e
      rw [decide_eq_false (by omega), cond_false, List.drop_length]
      rfl
theorem p_Index (l : List ByteArray) (w : ByteArray) (hl : l.length ≤ 1000) : Q_g_Index_String big l w = some (idxG l w 0) := by
  rw [Q_g_Index_String_eq]
  have := index_loop l w hl big 0 (by unfold big; omega) (by omega)
  rw [Int.natCast_zero, List.drop_zero] at this
  exact this

abbrev wShow : ByteArray := ByteArray.mk #[(115 : UInt8), (104 : UInt8), (111 : UInt8), (119 : UInt8)]
abbrev wCarry : ByteArray := ByteArray.mk #[(99 : UInt8), (97 : UInt8), (114 : UInt8), (114 : UInt8), (121 : UInt8)]
abbrev wLose : ByteArray := ByteArray.mk #[(108 : UInt8), (111 : UInt8), (115 : UInt8), (101 : UInt8)]
abbrev wTwice : ByteArray := ByteArray.mk #[(116 : UInt8), (119 : UInt8), (105 : UInt8), (99 : UInt8), (101 : UInt8)]
abbrev wWait : ByteArray := ByteArray.mk #[(119 : UInt8), (97 : UInt8), (105 : UInt8), (116 : UInt8)]
abbrev wFall : ByteArray := ByteArray.mk #[(102 : UInt8), (97 : UInt8), (108 : UInt8), (108 : UInt8)]
abbrev wVote : ByteArray := ByteArray.mk #[(118 : UInt8), (111 : UInt8), (116 : UInt8), (101 : UInt8)]
abbrev wQc : ByteArray := ByteArray.mk #[(113 : UInt8), (99 : UInt8)]
abbrev wBlock : ByteArray := ByteArray.mk #[(98 : UInt8), (108 : UInt8), (111 : UInt8), (99 : UInt8), (107 : UInt8)]
abbrev wView : ByteArray := ByteArray.mk #[(118 : UInt8), (105 : UInt8), (101 : UInt8), (119 : UInt8)]

theorem p_Kind (w : ByteArray) : ∃ k m : Int, Q_i_eventForm big w = some (k, m, ()) ∧ Q_s_l22Kind big w = some (k, m, ()) ∧ ((k = 0 ∧ m = 0) ∨ (2 ≤ k ∧ k ≤ 7 ∧ m = 1) ∨ (k = 10 ∧ m = 3) ∨ (8 ≤ k ∧ k ≤ 11 ∧ k ≠ 10 ∧ m = 3)) := by
  rw [Q_i_eventForm_eq, p_Index _ _ (by decide), p_Index _ _ (by decide), Q_s_l22Kind_eq]
  simp only [Option.bind_some]
  by_cases h1 : w = wShow
  · subst h1; exact ⟨2, 1, rfl, rfl, by decide⟩
  by_cases h2 : w = wCarry
  · subst h2; exact ⟨3, 1, rfl, rfl, by decide⟩
  by_cases h3 : w = wLose
  · subst h3; exact ⟨4, 1, rfl, rfl, by decide⟩
  by_cases h4 : w = wTwice
  · subst h4; exact ⟨5, 1, rfl, rfl, by decide⟩
  by_cases h5 : w = wWait
  · subst h5; exact ⟨6, 1, rfl, rfl, by decide⟩
  by_cases h6 : w = wFall
  · subst h6; exact ⟨7, 1, rfl, rfl, by decide⟩
  by_cases h7 : w = wVote
  · subst h7; exact ⟨8, 3, rfl, rfl, by decide⟩
  by_cases h8 : w = wQc
  · subst h8; exact ⟨9, 3, rfl, rfl, by decide⟩
  by_cases h9 : w = wBlock
  · subst h9; exact ⟨10, 3, rfl, rfl, by decide⟩
  by_cases h10 : w = wView
  · subst h10; exact ⟨11, 3, rfl, rfl, by decide⟩
  refine ⟨0, 0, ?_, ?_, .inl ⟨rfl, rfl⟩⟩
  · simp only [idxG, decide_eq_false h1, decide_eq_false h2, decide_eq_false h3, decide_eq_false h4, decide_eq_false h5, decide_eq_false h6, decide_eq_false h7, decide_eq_false h8, decide_eq_false h9, decide_eq_false h10, cond_false]
    rfl
  · simp only [decide_eq_false h1, decide_eq_false h2, decide_eq_false h3, decide_eq_false h4, decide_eq_false h5, decide_eq_false h6, decide_eq_false h7, decide_eq_false h8, decide_eq_false h9, decide_eq_false h10, cond_false]

abbrev wSet : ByteArray := ByteArray.mk #[(115 : UInt8), (101 : UInt8), (116 : UInt8)]
abbrev wAdd : ByteArray := ByteArray.mk #[(97 : UInt8), (100 : UInt8), (100 : UInt8)]
abbrev wTake : ByteArray := ByteArray.mk #[(116 : UInt8), (97 : UInt8), (107 : UInt8), (101 : UInt8)]

theorem cmd1 (n : Nat) (w : ByteArray) : R_s_l22Cmd_3 (n + 1) w 1 [ByteArray.mk #[], wSet, wAdd, wTake] = bif decide (wSet = w) then some 1 else R_s_l22Cmd_3 n w 2 [ByteArray.mk #[], wSet, wAdd, wTake] := by
  rw [R_s_l22Cmd_3_eq]; rfl
theorem cmd2 (n : Nat) (w : ByteArray) : R_s_l22Cmd_3 (n + 1) w 2 [ByteArray.mk #[], wSet, wAdd, wTake] = bif decide (wAdd = w) then some 2 else R_s_l22Cmd_3 n w 3 [ByteArray.mk #[], wSet, wAdd, wTake] := by
  rw [R_s_l22Cmd_3_eq]; rfl
theorem cmd3 (n : Nat) (w : ByteArray) : R_s_l22Cmd_3 (n + 1) w 3 [ByteArray.mk #[], wSet, wAdd, wTake] = bif decide (wTake = w) then some 3 else R_s_l22Cmd_3 n w 4 [ByteArray.mk #[], wSet, wAdd, wTake] := by
  rw [R_s_l22Cmd_3_eq]; rfl
theorem cmd4 (n : Nat) (w : ByteArray) : R_s_l22Cmd_3 (n + 1) w 4 [ByteArray.mk #[], wSet, wAdd, wTake] = some 0 := by
  rw [R_s_l22Cmd_3_eq]; rfl
theorem p_Cmd (w : ByteArray) : ∃ y c : Int, idxG [ByteArray.mk #[], wSet, wAdd, wTake] w 0 = y ∧ Q_s_l22Cmd big w = some c ∧ ((y < 1 ∧ c = 0) ∨ (1 ≤ y ∧ c = y)) := by
  have hs : Q_s_l22Cmd big w = some (bif decide (wSet = w) then 1 else bif decide (wAdd = w) then 2 else bif decide (wTake = w) then 3 else 0) := by
    rw [Q_s_l22Cmd_eq]
    have b4 : big = ((big - 4) + 3) + 1 := rfl
    rw [b4, cmd1, cmd2, cmd3, cmd4]
    cases decide (wSet = w) <;> cases decide (wAdd = w) <;> cases decide (wTake = w) <;> rfl
  rw [hs]
  by_cases h0 : w = ByteArray.mk #[]
  · subst h0; exact ⟨0, 0, rfl, rfl, .inl ⟨by decide, rfl⟩⟩
  by_cases h1 : w = wSet
  · subst h1; exact ⟨1, 1, rfl, rfl, .inr ⟨by decide, rfl⟩⟩
  by_cases h2 : w = wAdd
  · subst h2; exact ⟨2, 2, rfl, rfl, .inr ⟨by decide, rfl⟩⟩
  by_cases h3 : w = wTake
  · subst h3; exact ⟨3, 3, rfl, rfl, .inr ⟨by decide, rfl⟩⟩
  refine ⟨-1, 0, ?_, ?_, .inl ⟨by decide, rfl⟩⟩
  · simp only [idxG, decide_eq_false h0, decide_eq_false h1, decide_eq_false h2, decide_eq_false h3, cond_false]
  · rw [decide_eq_false (fun e => h1 e.symm), decide_eq_false (fun e => h2 e.symm), decide_eq_false (fun e => h3 e.symm)]
    rfl

/-! ### Numbers -/
noncomputable def numsV : List ByteArray → List Int → List Int × Bool × Unit
  | [], a => (a, true, ())
  | w :: l, a => bif !(rdV w).2.1 then ([], false, ()) else numsV l (a ++ [(rdV w).1])
theorem nums_loop (l : List ByteArray) (hl : l.length ≤ 1000) (hw : ∀ w ∈ l, ByteArray.size w ≤ 1000) : ∀ (n i : Nat) (a : List Int), l.length < n + i → i ≤ l.length → a.length ≤ i →
    R_i_numbersOf_3 n a l (l.length : Int) (i : Int) = some (numsV (l.drop i) a)
  | 0, i, a, h1, h2, _ => by omega
  | n + 1, i, a, h1, h2, h3 => by
    rw [R_i_numbersOf_3_eq]
    rcases Nat.lt_or_ge i l.length with hi | hi
    · rw [decide_eq_true (by omega), cond_true, mk4 (nth_at hi), p_i_ReadDecimal _ (by have := hw _ (List.getElem_mem hi); omega), Option.bind_some, List.drop_eq_getElem_cons hi]
      unfold numsV
      cases hb : (rdV l[i]).2.1 with
      | false => rfl
      | true =>
        simp only [Bool.not_true, cond_false]
        rw [if_pos (by unfold lim; omega), wrap_succ (by omega)]
        exact nums_loop l hl hw n (i + 1) _ (by omega) (by omega) (by rw [List.append_eq, List.length_append]; simp; omega)
    · have e : i = l.length := by omega
      subst e
      rw [decide_eq_false (by omega), cond_false, List.drop_length]
      rfl
theorem p_numbers (l : List ByteArray) (hl : l.length ≤ 1000) (hw : ∀ w ∈ l, ByteArray.size w ≤ 1000) : Q_i_numbersOf big l = some (numsV l []) := by
  rw [Q_i_numbersOf_eq]
  have := nums_loop l hl hw big 0 [] (by unfold big; omega) (by omega) (by simp)
  rw [Int.natCast_zero, List.drop_zero] at this
  exact this

/-! ### Events -/
def evNone : DIEvent := (0, 0, 0, 0, (0, ByteArray.empty, 0, ()), ())
/-- both say the same of an event -/
def Alike (x y : Option (DIEvent × Bool × Unit)) : Prop := ∃ (e e' : DIEvent) (ok : Bool), x = some (e, ok, ()) ∧ y = some (e', ok, ()) ∧ (ok = true → e = e' ∧ ByteArray.size e.2.2.2.2.1.2.1 ≤ 1048576)

set_option maxHeartbeats 16000000 in
theorem p_Event (p : List ByteArray) (h0 : 0 < p.length) (hl : p.length ≤ 10) (hw : ∀ w ∈ p, ByteArray.size w ≤ 600) : Alike (Q_i_eventLine big p) (Q_s_l22Event big p) := by
  cases p with
  | nil => simp at h0
  | cons a r =>
  have hw' : ∀ w ∈ a :: r, ByteArray.size w ≤ 1000 := fun w h => Nat.le_trans (hw w h) (by decide)
  have rd : ∀ w ∈ a :: r, Q_i_ReadDecimal big w = some (rdV w) := fun w h => p_i_ReadDecimal w (by have := hw w h; omega)
  rw [Q_i_eventLine_eq, Q_s_l22Event_eq]
  have n0 : nth (a :: r) (Int.toNat (0 : Int)) = some a := rfl
  simp only [n0, Option.bind_some]
  by_cases ho : a = ByteArray.mk #[(111 : UInt8), (102 : UInt8), (102 : UInt8), (101 : UInt8), (114 : UInt8)]
  · rw [decide_eq_true ho, cond_true, cond_true, if_pos (by simp only [List.length_cons]; omega)]
    have hdrop : List.take (List.length (a :: r) - Int.toNat (1 : Int)) (List.drop (Int.toNat (1 : Int)) (a :: r)) = r := by
      show List.take ((a :: r).length - 1) r = r
      rw [List.take_of_length_le (by simp)]
    rw [hdrop, Q_i_offerLine_eq]
    by_cases h3 : r.length = 3
    · match r, h3 with
      | [b, c, d], _ =>
        obtain ⟨y, k, e1, e2, e3⟩ := p_Cmd b
        have q1 : nth [a, b, c, d] (Int.toNat (1 : Int)) = some b := rfl
        have q2 : nth [a, b, c, d] (Int.toNat (2 : Int)) = some c := rfl
        have q3 : nth [a, b, c, d] (Int.toNat (3 : Int)) = some d := rfl
        have r0 : nth [b, c, d] (Int.toNat (0 : Int)) = some b := rfl
        have r1 : nth [b, c, d] (Int.toNat (1 : Int)) = some c := rfl
        have r2 : nth [b, c, d] (Int.toNat (2 : Int)) = some d := rfl
        have l3 : decide (((List.length [b, c, d] : Nat) : Int) = 3) = true := rfl
        have l4 : decide (((List.length [a, b, c, d] : Nat) : Int) = 4) = true := rfl
        simp only [q1, q2, q3, r0, r1, r2, l3, l4, Option.bind_some, Bool.not_true, cond_false, p_Index _ _ (show List.length [ByteArray.mk #[], wSet, wAdd, wTake] ≤ 1000 by decide), e1, e2, rd d (by simp), p_s_ReadDecimal]
        have hc : ByteArray.size c ≤ 1048576 := Nat.le_trans (hw c (by simp)) (by decide)
        obtain ⟨vd, od, ud⟩ := rdV d
        cases od with
        | false =>
          simp only [Bool.not_false, cond_true]
          cases decide (k = 0) <;> exact ⟨_, _, false, rfl, rfl, fun h => by cases h⟩
        | true =>
          simp only [Bool.not_true, cond_false]
          rcases e3 with ⟨hy, hk⟩ | ⟨hy, hk⟩
          · rw [decide_eq_true hy, decide_eq_true hk]
            exact ⟨_, _, false, rfl, rfl, fun h => by cases h⟩
          · rw [decide_eq_false (show ¬ y < 1 by omega), decide_eq_false (show ¬ k = 0 by omega), hk]
            exact ⟨_, _, true, rfl, rfl, fun _ => ⟨rfl, hc⟩⟩
    · have l3 : decide (((List.length r : Nat) : Int) = 3) = false := decide_eq_false (by omega)
      have l4 : decide (((List.length (a :: r) : Nat) : Int) = 4) = false := decide_eq_false (by simp only [List.length_cons]; omega)
      rw [l3, l4]
      exact ⟨_, _, false, rfl, rfl, fun h => by cases h⟩
  · rw [decide_eq_false ho, cond_false, cond_false]
    obtain ⟨k, m, e1, e2, e3⟩ := p_Kind a
    rw [e1, e2]
    simp only [Option.bind_some]
    rcases e3 with ⟨rfl, rfl⟩ | ⟨k1, k2, rfl⟩ | ⟨rfl, rfl⟩ | ⟨k1, k2, k3, rfl⟩
    · exact ⟨_, _, false, rfl, rfl, fun h => by cases h⟩
    · rw [decide_eq_false (show ¬ k = 10 by omega), decide_eq_false (show ¬ k = 0 by omega)]
      simp only [cond_false]
      have hwr : IntKind.i64.wrap ((1 : Int) + 1) = 2 := rfl
      rw [hwr]
      by_cases hlen : (a :: r).length = 2
      · match r, hlen with
        | [b], _ =>
          have l2 : decide (((List.length [a, b] : Nat) : Int) = 2) = true := rfl
          have q1 : nth [a, b] (Int.toNat (1 : Int)) = some b := rfl
          have ht : List.take ((2 : Int).toNat - Int.toNat (1 : Int)) (List.drop (Int.toNat (1 : Int)) [a, b]) = [b] := rfl
          have d13 : decide ((1 : Int) = 3) = false := rfl
          simp only [l2, Bool.not_true, cond_false, if_pos (show (0 : Int) ≤ 2 by decide), if_pos (show (2 : Int) ≤ ((List.length [a, b] : Nat) : Int) by simp), if_pos (show (1 : Int) ≤ 2 by decide), ht, q1, Option.bind_some, p_s_ReadDecimal, d13]
          rw [p_numbers [b] (by simp) (fun w h => hw' w (by simp at h; simp [h]))]
          simp only [numsV, Option.bind_some]
          obtain ⟨vb, ob, ub⟩ := rdV b
          cases ob <;> first | exact ⟨_, _, false, rfl, rfl, fun h => by cases h⟩ | exact ⟨_, _, true, rfl, rfl, fun _ => ⟨rfl, by show (0 : Nat) ≤ _; decide⟩⟩
      · have l2 : decide (((List.length (a :: r) : Nat) : Int) = 2) = false := decide_eq_false (by omega)
        rw [l2]
        exact ⟨_, _, false, rfl, rfl, fun h => by cases h⟩
    · have hk10 : decide ((10 : Int) = 10) = true := rfl
      have hk0 : decide ((10 : Int) = 0) = false := rfl
      have hwr : IntKind.i64.wrap ((3 : Int) + 1) = 4 := rfl
      have hwr2 : IntKind.i64.wrap ((4 : Int) + 1) = 5 := rfl
      simp only [hk10, hk0, cond_true, cond_false, hwr, hwr2]
      by_cases hlen : (a :: r).length = 5
      · match r, hlen with
        | [b, c, d, e], _ =>
          have l5 : decide (((List.length [a, b, c, d, e] : Nat) : Int) = 5) = true := rfl
          have q1 : nth [a, b, c, d, e] (Int.toNat (1 : Int)) = some b := rfl
          have q2 : nth [a, b, c, d, e] (Int.toNat (2 : Int)) = some c := rfl
          have q3 : nth [a, b, c, d, e] (Int.toNat (3 : Int)) = some d := rfl
          have q4 : nth [a, b, c, d, e] (Int.toNat (4 : Int)) = some e := rfl
          have ht : List.take ((4 : Int).toNat - Int.toNat (1 : Int)) (List.drop (Int.toNat (1 : Int)) [a, b, c, d, e]) = [b, c, d] := rfl
          have d33 : decide ((3 : Int) = 3) = true := rfl
          simp only [l5, Bool.not_true, cond_false, if_pos (show (0 : Int) ≤ 4 by decide), if_pos (show (4 : Int) ≤ ((List.length [a, b, c, d, e] : Nat) : Int) by simp), if_pos (show (1 : Int) ≤ 4 by decide), ht, q1, q2, q3, q4, Option.bind_some, p_s_ReadDecimal, d33, cond_true]
          rw [p_numbers [b, c, d] (by simp) (fun w h => hw' w (by simp at h; rcases h with h | h | h <;> simp [h]))]
          simp only [numsV, Option.bind_some, both_self]
          have he : ByteArray.size e ≤ 1048576 := Nat.le_trans (hw e (by simp)) (by decide)
          obtain ⟨vb, ob, ub⟩ := rdV b
          obtain ⟨vc, oc, uc⟩ := rdV c
          obtain ⟨vd, od, ud⟩ := rdV d
          cases ob <;> cases oc <;> cases od <;> first | exact ⟨_, _, false, rfl, rfl, fun h => by cases h⟩ | exact ⟨_, _, true, rfl, rfl, fun _ => ⟨rfl, he⟩⟩
      · have l5 : decide (((List.length (a :: r) : Nat) : Int) = 5) = false := decide_eq_false (by omega)
        rw [l5]
        exact ⟨_, _, false, rfl, rfl, fun h => by cases h⟩
    · rw [decide_eq_false (show ¬ k = 10 by omega), decide_eq_false (show ¬ k = 0 by omega)]
      have hwr : IntKind.i64.wrap ((3 : Int) + 1) = 4 := rfl
      simp only [cond_false, hwr]
      by_cases hlen : (a :: r).length = 4
      · match r, hlen with
        | [b, c, d], _ =>
          have l4 : decide (((List.length [a, b, c, d] : Nat) : Int) = 4) = true := rfl
          have q1 : nth [a, b, c, d] (Int.toNat (1 : Int)) = some b := rfl
          have q2 : nth [a, b, c, d] (Int.toNat (2 : Int)) = some c := rfl
          have q3 : nth [a, b, c, d] (Int.toNat (3 : Int)) = some d := rfl
          have ht : List.take ((4 : Int).toNat - Int.toNat (1 : Int)) (List.drop (Int.toNat (1 : Int)) [a, b, c, d]) = [b, c, d] := rfl
          have d33 : decide ((3 : Int) = 3) = true := rfl
          simp only [l4, Bool.not_true, cond_false, if_pos (show (0 : Int) ≤ 4 by decide), if_pos (show (4 : Int) ≤ ((List.length [a, b, c, d] : Nat) : Int) by simp), if_pos (show (1 : Int) ≤ 4 by decide), ht, q1, q2, q3, Option.bind_some, p_s_ReadDecimal, d33, cond_true]
          rw [p_numbers [b, c, d] (by simp) (fun w h => hw' w (by simp at h; rcases h with h | h | h <;> simp [h]))]
          simp only [numsV, Option.bind_some, both_self]
          obtain ⟨vb, ob, ub⟩ := rdV b
          obtain ⟨vc, oc, uc⟩ := rdV c
          obtain ⟨vd, od, ud⟩ := rdV d
          cases ob <;> cases oc <;> cases od <;> first | exact ⟨_, _, false, rfl, rfl, fun h => by cases h⟩ | exact ⟨_, _, true, rfl, rfl, fun _ => ⟨rfl, by show (0 : Nat) ≤ _; decide⟩⟩
      · have l4 : decide (((List.length (a :: r) : Nat) : Int) = 4) = false := decide_eq_false (by omega)
        rw [l4]
        exact ⟨_, _, false, rfl, rfl, fun h => by cases h⟩

end Go.Sx.Tryz

set_option maxRecDepth 100000
namespace Go.Sx.Tryz
open Go Go.Sx Go.Proofs

/-- cut at each end of a line -/
def cutGo : List UInt8 → List UInt8 → List (List UInt8)
  | cur, [] => [cur]
  | cur, b :: l => if b = 10 then cur :: cutGo [] l else cutGo (cur ++ [b]) l
/-- the lines: no empty one behind the last end -/
def lnGo : List UInt8 → List UInt8 → List (List UInt8)
  | cur, [] => if cur = [] then [] else [cur]
  | cur, b :: l => if b = 10 then cur :: lnGo [] l else lnGo (cur ++ [b]) l

theorem cutGo_ne : ∀ (l cur : List UInt8), cutGo cur l ≠ []
  | [], cur => by simp [cutGo]
  | b :: l, cur => by
    unfold cutGo
    split
    · simp
    · exact cutGo_ne l _

theorem index_nl (b : UInt8) (l : List UInt8) : Lib.index (b :: l) [10] = if b = 10 then 0 else if Lib.index l [10] = -1 then -1 else Lib.index l [10] + 1 := by
  rw [Lib.index_one, Lib.index_one, Lib.indexByte]
  by_cases h : b = 10
  · subst h; rfl
  · have : (b == 10) = false := by simpa using h
    rw [this, if_neg h]
    simp

theorem split_cut : ∀ (l : List UInt8), ∃ p r, Lib.splitK [10] 0 (l.count 10) l = p :: r ∧ ∀ cur, cutGo cur l = (cur ++ p) :: r
  | [] => ⟨[], [], rfl, fun cur => by simp [cutGo]⟩
  | b :: l => by
    obtain ⟨p, r, h1, h2⟩ := split_cut l
    by_cases hb : b = 10
    · subst hb
      refine ⟨[], p :: r, ?_, fun cur => by simp only [cutGo, if_true, List.append_nil]; rw [h2 []]; rfl⟩
      rw [List.count_cons_self, Lib.splitK, index_nl, if_pos rfl, if_neg (by decide)]
      rw [← h1]
      rfl
    · have hc : (b :: l).count 10 = l.count 10 := List.count_cons_of_ne hb
      refine ⟨b :: p, r, ?_, fun cur => by simp only [cutGo, if_neg hb]; rw [h2]; simp⟩
      rw [hc]
      cases hk : l.count 10 with
      | zero =>
        rw [hk] at h1
        simp only [Lib.splitK, List.cons.injEq] at h1 ⊢
        obtain ⟨rfl, rfl⟩ := h1
        simp
      | succ k =>
        rw [hk] at h1
        have hi : Lib.index l [10] ≠ -1 := by
          intro e
          have := Lib.count_miss (sub := [10]) e
          rw [Lib.count_one] at this
          omega
        have hge := Lib.index_ge l [10]
        simp only [Lib.splitK] at h1 ⊢
        rw [if_neg (by simpa using hi)] at h1
        rw [index_nl, if_neg hb, if_neg hi, if_neg (by simp; omega)]
        simp only [List.cons.injEq] at h1 ⊢
        obtain ⟨rfl, rfl⟩ := h1
        have e : (Lib.index l [10] + 1).toNat = (Lib.index l [10]).toNat + 1 := by omega
        rw [e]
        exact ⟨by simp, by simp [Nat.add_right_comm]⟩

theorem pieces_cut (s : ByteArray) : piecesB s (ByteArray.mk #[(10 : UInt8)]) = (cutGo [] s.data.toList).map bL := by
  have h := Lib.splitB_data (ByteArray.mk #[(10 : UInt8)]) 0 (Lib.countB s (ByteArray.mk #[(10 : UInt8)])) s
  have hc : Lib.countB s (ByteArray.mk #[(10 : UInt8)]) = s.data.toList.count 10 := Lib.count_one 10 s.data.toList
  obtain ⟨p, r, h1, h2⟩ := split_cut s.data.toList
  rw [hc] at h
  have h3 : (piecesB s (ByteArray.mk #[(10 : UInt8)])).map (fun x => x.data.toList) = cutGo [] s.data.toList := by
    unfold piecesB
    rw [hc, h, h2 []]
    exact h1
  rw [← h3, List.map_map]
  refine (List.map_id _).symm.trans (List.map_congr_left fun x _ => (bL_data x).symm)

theorem dropLast_ln : ∀ (l cur : List UInt8), (if (cutGo cur l).getLast? = some [] then (cutGo cur l).dropLast else cutGo cur l) = lnGo cur l
  | [], cur => by
    simp only [cutGo, lnGo, List.getLast?_singleton, Option.some.injEq, List.dropLast_singleton]
  | b :: l, cur => by
    by_cases hb : b = 10
    · have ih := dropLast_ln l []
      simp only [cutGo, lnGo, if_pos hb]
      obtain ⟨p, r, hp⟩ : ∃ p r, cutGo [] l = p :: r := by
        cases hc : cutGo [] l with
        | nil => exact absurd hc (cutGo_ne l [])
        | cons p r => exact ⟨p, r, rfl⟩
      rw [hp] at ih ⊢
      rw [List.getLast?_cons_cons, List.dropLast_cons_cons, ← ih]
      split <;> rfl
    · simp only [cutGo, lnGo, if_neg hb]
      exact dropLast_ln l _

/-- the lines of a text -/
def linesB (s : ByteArray) : List ByteArray := (lnGo [] s.data.toList).map bL
theorem lnGo_len : ∀ (l cur : List UInt8), (lnGo cur l).length ≤ l.length + 1
  | [], cur => by unfold lnGo; split <;> simp
  | b :: l, cur => by
    unfold lnGo
    split
    · have := lnGo_len l []; simp; omega
    · have := lnGo_len l (cur ++ [b]); simp; omega
theorem linesB_len (s : ByteArray) : (linesB s).length ≤ s.size + 1 := by
  unfold linesB
  rw [List.length_map, ← len_data]
  exact lnGo_len _ _

theorem lines_loop (s : ByteArray) (hs : s.size ≤ 3000) : ∀ (n i b : Nat) (l : List ByteArray), s.size < n + i → i ≤ s.size → b ≤ i → l.length ≤ i →
    R_s_l22Lines_4 n s l (b : Int) (i : Int) = some (l ++ (lnGo ((s.data.toList.drop b).take (i - b)) (s.data.toList.drop i)).map bL)
  | 0, i, b, l, h1, h2, _, _ => by omega
  | n + 1, i, b, l, h1, h2, h3, h4 => by
    have hl := len_data s
    have hcur : ((s.data.toList.drop b).take (i - b)).length = i - b := by rw [List.length_take, List.length_drop]; omega
    rw [R_s_l22Lines_4_eq]
    rcases Nat.lt_or_ge i s.size with hi | hi
    · have hi' : i < s.data.toList.length := by omega
      rw [decide_eq_true (by omega), cond_true, mk4 (nth_at hi'), List.drop_eq_getElem_cons hi', wrap_succ (by omega)]
      by_cases c : ((s.data.toList[i].toNat : Nat) : Int) = 10
      · have c' : s.data.toList[i] = 10 := UInt8.toNat_inj.1 (show s.data.toList[i].toNat = 10 by omega)
        rw [decide_eq_true c, cond_true, if_pos (by omega), if_pos (by omega), if_pos (by omega), if_pos (by omega), if_pos (by simp only [List.length_singleton]; unfold lim; omega), Int.toNat_natCast, Int.toNat_natCast, ext_bL,
          lines_loop s hs n (i + 1) (i + 1) _ (by omega) (by omega) (by omega) (by rw [List.append_eq, List.length_append]; simp; omega)]
        simp only [lnGo, if_pos c', Nat.sub_self, List.take_zero]
        simp
      · have c' : s.data.toList[i] ≠ 10 := fun e => c (by rw [e]; rfl)
        rw [decide_eq_false c, cond_false, lines_loop s hs n (i + 1) b l (by omega) (by omega) (by omega) (by omega)]
        have e : (s.data.toList.drop b).take (i + 1 - b) = (s.data.toList.drop b).take (i - b) ++ [s.data.toList[i]] := by
          have hlt : i - b < (s.data.toList.drop b).length := by rw [List.length_drop]; omega
          rw [show i + 1 - b = (i - b) + 1 by omega, List.take_succ_eq_append_getElem hlt]
          congr 2
          rw [List.getElem_drop]
          congr 1
          omega
        rw [e]
        simp only [lnGo, if_neg c']
    · have e : i = s.size := by omega
      subst e
      have hd0 : s.data.toList.drop s.size = [] := List.drop_eq_nil_of_le (by omega)
      rw [decide_eq_false (by omega), cond_false, hd0]
      by_cases c4 : (b : Int) < (s.size : Int)
      · have hne : (s.data.toList.drop b).take (s.size - b) ≠ [] := by intro e; rw [e] at hcur; simp at hcur; omega
        rw [decide_eq_true c4, cond_true, if_pos (by omega), if_pos (by omega), if_pos (by simp only [List.length_singleton]; unfold lim; omega), Int.toNat_natCast, ext_bL]
        unfold lnGo
        rw [if_neg hne]
        rfl
      · have e : b = s.size := by omega
        subst e
        rw [decide_eq_false c4, cond_false]
        simp [lnGo]

theorem p_s_Lines (s : ByteArray) (hs : s.size ≤ 3000) : Q_s_l22Lines big s = some (linesB s) := by
  rw [Q_s_l22Lines_eq]
  have := lines_loop s hs big 0 0 [] (by unfold big; omega) (by omega) (by omega) (by simp)
  rw [Int.natCast_zero, List.drop_zero] at this
  rw [this]
  rfl

end Go.Sx.Tryz

set_option maxRecDepth 100000
namespace Go.Sx.Tryz
open Go Go.Sx Go.Proofs

/-! ### What a line's words are -/
theorem fields_word : ∀ (l cur : List UInt8), ∀ w ∈ Lib.fieldsGo cur l, w ≠ [] ∧ w.length ≤ cur.length + l.length
  | [], cur, w, hw => by
    unfold Lib.fieldsGo at hw
    split at hw
    · cases hw
    · rename_i h
      simp only [List.mem_singleton] at hw
      subst hw
      exact ⟨by simpa using h, by simp⟩
  | b :: l, cur, w, hw => by
    unfold Lib.fieldsGo at hw
    split at hw
    · split at hw
      · have := fields_word l [] w hw
        exact ⟨this.1, by have := this.2; simp at this ⊢; omega⟩
      · rename_i h
        rcases List.mem_cons.1 hw with rfl | hw
        · exact ⟨by simpa using h, by simp⟩
        · have := fields_word l [] w hw
          exact ⟨this.1, by have := this.2; simp at this ⊢; omega⟩
    · have := fields_word l (cur ++ [b]) w hw
      exact ⟨this.1, by have := this.2; simp at this ⊢; omega⟩
theorem parts_word {s : ByteArray} {ws : List ByteArray} (h : partsV s = (ws, true, ())) : ws.length ≤ 10 ∧ ∀ w ∈ ws, ByteArray.size w ≤ 600 ∧ 0 < ByteArray.size w := by
  unfold partsV at h
  by_cases h6 : 600 < s.size
  · rw [decide_eq_true h6] at h; cases h
  · rw [decide_eq_false h6, cond_false] at h
    cases ha : s.data.toList.all prb with
    | false => rw [ha] at h; cases h
    | true =>
      rw [ha, cond_true] at h
      unfold finP at h
      by_cases h10 : 10 < (wordsB s).length
      · rw [decide_eq_true h10] at h; cases h
      · rw [decide_eq_false h10, cond_false] at h
        cases h
        refine ⟨by omega, fun w hw => ?_⟩
        unfold wordsB at hw
        obtain ⟨l, hl, rfl⟩ := List.mem_map.1 hw
        obtain ⟨k1, k2⟩ := fields_word _ _ l hl
        have e : ByteArray.size (ByteArray.mk l.toArray) = l.length := by simp [ByteArray.size]
        rw [e]
        rw [len_data] at k2
        exact ⟨by simp at k2; omega, List.length_pos_iff.2 k1⟩

/-! ### The first line -/
theorem p_Head (a0 : DIreading) (p : List ByteArray) (hw : ∀ w ∈ p, ByteArray.size w ≤ 600) :
    (∃ (n : Int) (c : Bool) (l : Int), Q_i_reading_cluster big a0 p = some (true, ((n, c, l, [], 0, ()), true, a0.2.2), ()) ∧ Q_s_l22Head big p = some ((n, c, l, [], 0, ()), true, ())) ∨
      (Q_i_reading_cluster big a0 p = some (false, a0, ()) ∧ ∃ x, Q_s_l22Head big p = some (x, false, ())) := by
  have rd : ∀ w ∈ p, Q_i_ReadDecimal big w = some (rdV w) := fun w h => p_i_ReadDecimal w (by have := hw w h; omega)
  rw [Q_i_reading_cluster_eq, Q_s_l22Head_eq]
  by_cases hl : p.length = 4
  · match p, hl with
    | [a, b, c, d], _ =>
      have l4 : decide (((List.length [a, b, c, d] : Nat) : Int) = 4) = true := rfl
      have q0 : nth [a, b, c, d] (Int.toNat (0 : Int)) = some a := rfl
      have q1 : nth [a, b, c, d] (Int.toNat (1 : Int)) = some b := rfl
      have q2 : nth [a, b, c, d] (Int.toNat (2 : Int)) = some c := rfl
      have q3 : nth [a, b, c, d] (Int.toNat (3 : Int)) = some d := rfl
      simp only [l4, q0, q1, q2, q3, Option.bind_some, Bool.not_true, cond_false, rd b (by simp), rd d (by simp), p_s_ReadDecimal]
      cases decide (a = ByteArray.mk #[(99 : UInt8), (108 : UInt8), (117 : UInt8), (115 : UInt8), (116 : UInt8), (101 : UInt8), (114 : UInt8)]) with
      | false => exact .inr ⟨rfl, _, rfl⟩
      | true =>
        simp only [Bool.not_true, cond_false]
        obtain ⟨vb, ob, ub⟩ := rdV b
        obtain ⟨vd, od, ud⟩ := rdV d
        generalize decide (c = ByteArray.mk #[(99 : UInt8), (104 : UInt8), (97 : UInt8), (105 : UInt8), (110 : UInt8)]) = ch
        obtain ⟨⟨rc, rb, ru⟩, h1, h2⟩ := p_ClusterNew vb ch vd
        simp only [h1, h2, Option.bind_some]
        cases decide (c = ByteArray.mk #[(97 : UInt8), (115 : UInt8), (107 : UInt8)]) <;> cases ch <;> cases ob <;> cases od <;> cases rb <;>
          first | exact .inr ⟨rfl, _, rfl⟩ | exact .inl ⟨_, _, _, rfl, rfl⟩
  · have l4 : decide (((List.length p : Nat) : Int) = 4) = false := decide_eq_false (by omega)
    rw [l4]
    exact .inr ⟨rfl, _, rfl⟩

/-! ### A line -/
abbrev St : Type := Int × Bool × Int × List DIEvent × Int
abbrev mkR (x : St) (bg cm : Bool) : DIreading := ((x.1, x.2.1, x.2.2.1, x.2.2.2.1, x.2.2.2.2, ()), bg, cm, ())
abbrev noScript : DIScript := (0, false, 0, [], 0, ())
structure StI (x : St) (bg cm : Bool) : Prop where
  calm : cm = true → bg = true
  len : x.2.2.2.1.length ≤ 120
  key : ∀ e ∈ x.2.2.2.1, ByteArray.size e.2.2.2.2.1.2.1 ≤ 1048576

noncomputable abbrev Rs (n : Nat) (bg cm : Bool) (i : Int) (x : St) (lines : List ByteArray) := R_s_ReadScript_8 n bg cm i 0 false 0 [] 0 x.1 x.2.1 x.2.2.1 x.2.2.2.1 x.2.2.2.2 lines

set_option maxHeartbeats 16000000 in
theorem p_line (lines : List ByteArray) (hlen : lines.length ≤ 100000) (i : Nat) (hi : i < lines.length) (x : St) (bg cm : Bool) (h : StI x bg cm) :
    ∃ (ok : Bool) (x' : St) (bg' cm' : Bool), Q_i_reading_line big (mkR x bg cm) lines[i] = some (ok, mkR x' bg' cm', ()) ∧ (ok = true → StI x' bg' cm') ∧
      ∀ n, Rs (n + 1) bg cm (i : Int) x lines = bif ok then Rs n bg' cm' ((i + 1 : Nat) : Int) x' lines else some (noScript, ((i + 1 : Nat) : Int), ()) := by
  obtain ⟨N, ch, li, ev, ca⟩ := x
  have hn : nth lines i = some lines[i] := nth_at hi
  have hw : IntKind.wrap .i64 ((i : Int) + 1) = ((i + 1 : Nat) : Int) := wrap_succ (by omega)
  have dlt : decide ((i : Int) < (lines.length : Int)) = true := decide_eq_true (by omega)
  have ilt : (i : Int) < (lines.length : Int) := by omega
  have i0 : (0 : Int) ≤ (i : Int) := by omega
  rw [Q_i_reading_line_eq, p_i_PartsOf]
  simp only [Rs, R_s_ReadScript_8_eq, dlt, cond_true, if_pos i0, if_pos ilt, Int.toNat_natCast, hn, Option.bind_some, p_s_PartsOf, hw]
  generalize hp : partsV lines[i] = pv
  obtain ⟨ws, pok, pu⟩ := pv
  cases pu
  cases pok with
  | false =>
    simp only [Bool.not_false, cond_true, cond_false]
    exact ⟨false, (N, ch, li, ev, ca), bg, cm, rfl, (fun h => by cases h), fun n => rfl⟩
  | true =>
    obtain ⟨w10, wsz⟩ := parts_word hp
    simp only [Bool.not_true, cond_true, cond_false]
    cases ws with
    | nil =>
      have d0 : decide (((List.length ([] : List ByteArray) : Nat) : Int) = 0) = true := rfl
      simp only [d0, cond_true]
      exact ⟨true, (N, ch, li, ev, ca), bg, cm, rfl, fun _ => h, fun n => rfl⟩
    | cons w r =>
      have d0 : decide (((List.length (w :: r) : Nat) : Int) = 0) = false := decide_eq_false (by simp only [List.length_cons]; omega)
      have dp : (0 : Int) < ((List.length (w :: r) : Nat) : Int) := by simp only [List.length_cons]; omega
      have n0 : nth (w :: r) (Int.toNat (0 : Int)) = some w := rfl
      have hw0 := (wsz w (by simp)).2
      obtain ⟨c, cl, hc⟩ : ∃ c cl, w.data.toList = c :: cl := by
        cases hcl : w.data.toList with
        | nil => rw [← len_data, hcl] at hw0; simp at hw0
        | cons c cl => exact ⟨c, cl, rfl⟩
      have nc : nth w.data.toList (Int.toNat (0 : Int)) = some c := by rw [hc]; rfl
      simp only [d0, cond_false, if_pos dp, n0, nc, Option.bind_some]
      cases decide ((c.toNat : Int) = 35) with
      | true =>
        simp only [cond_true]
        exact ⟨true, (N, ch, li, ev, ca), bg, cm, rfl, fun _ => h, fun n => rfl⟩
      | false =>
        simp only [cond_false]
        cases bg with
        | false =>
          have hcm : cm = false := by
            cases cm with
            | false => rfl
            | true => have := h.calm rfl; cases this
          subst hcm
          simp only [Bool.not_false, cond_true, cond_false]
          rcases p_Head (mkR (N, ch, li, ev, ca) false false) (w :: r) (fun w hw => (wsz w hw).1) with ⟨n', c', l', h1, h2⟩ | ⟨h1, y, h2⟩
          · rw [h1]
            simp only [h2, Option.bind_some, Bool.not_true, cond_false]
            exact ⟨true, (n', c', l', [], 0), true, false, rfl, fun _ => ⟨(fun e => by cases e), by simp, by simp⟩, fun n => rfl⟩
          · rw [h1]
            simp only [h2, Option.bind_some, Bool.not_false, cond_true]
            exact ⟨false, (N, ch, li, ev, ca), false, false, rfl, (fun e => by cases e), fun n => rfl⟩
        | true =>
          simp only [Bool.not_true, cond_false]
          cases cm with
          | true =>
            simp only [cond_true]
            exact ⟨false, (N, ch, li, ev, ca), true, true, rfl, (fun e => by cases e), fun n => rfl⟩
          | false =>
            simp only [cond_false]
            have l1 : (1 : Int) ≤ ((List.length (w :: r) : Nat) : Int) := by simp only [List.length_cons]; omega
            have hdrop : List.take (List.length (w :: r) - Int.toNat (1 : Int)) (List.drop (Int.toNat (1 : Int)) (w :: r)) = r := by
              show List.take ((w :: r).length - 1) r = r
              rw [List.take_of_length_le (by simp)]
            cases decide (w = ByteArray.mk #[(99 : UInt8), (97 : UInt8), (108 : UInt8), (109 : UInt8)]) with
            | true =>
              simp only [cond_true, if_pos l1, hdrop]
              rw [p_numbers r (by simp only [List.length_cons] at w10; omega) (fun w' hw' => Nat.le_trans (wsz w' (by simp [hw'])).1 (by decide))]
              simp only [Option.bind_some]
              match r with
              | [] =>
                have e2 : decide (((List.length [w] : Nat) : Int) = 2) = false := rfl
                simp only [numsV, Bool.not_true, cond_false, e2, Bool.not_false, cond_true]
                exact ⟨false, (N, ch, li, ev, ca), true, false, rfl, (fun e => by cases e), fun n => rfl⟩
              | [a] =>
                have e2 : decide (((List.length [w, a] : Nat) : Int) = 2) = true := rfl
                have e3 : (1 : Int) < ((List.length [w, a] : Nat) : Int) := by simp
                have n1 : nth [w, a] (Int.toNat (1 : Int)) = some a := rfl
                obtain ⟨va, oa, ha⟩ : ∃ va oa, rdV a = (va, oa, ()) := ⟨(rdV a).1, (rdV a).2.1, rfl⟩
                simp only [numsV, e2, cond_true, if_pos e3, n1, Option.bind_some, p_s_ReadDecimal, ha]
                cases oa with
                | false => exact ⟨false, (N, ch, li, ev, ca), true, false, rfl, (fun e => by cases e), fun n => rfl⟩
                | true => exact ⟨true, (N, ch, li, ev, va), true, true, rfl, fun _ => ⟨fun _ => rfl, h.len, h.key⟩, fun n => rfl⟩
              | a :: b :: r' =>
                have e2 : decide (((List.length (w :: a :: b :: r') : Nat) : Int) = 2) = false := decide_eq_false (by simp only [List.length_cons]; omega)
                simp only [e2, cond_false, Bool.not_false, cond_true]
                have hnum : ∀ (l : List ByteArray) (acc : List Int), (numsV l acc).2.1 = false ∨ (numsV l acc).1.length = acc.length + l.length := by
                  intro l
                  induction l with
                  | nil => intro acc; exact .inr rfl
                  | cons y l ih =>
                    intro acc
                    unfold numsV
                    cases (rdV y).2.1 with
                    | false => exact .inl rfl
                    | true =>
                      simp only [Bool.not_true, cond_false]
                      rcases ih (acc ++ [(rdV y).1]) with h | h
                      · exact .inl h
                      · right; rw [h]; simp; omega
                have hk := hnum (a :: b :: r') []
                obtain ⟨nl, nok, hnl⟩ : ∃ nl nok, numsV (a :: b :: r') [] = (nl, nok, ()) := ⟨(numsV (a :: b :: r') []).1, (numsV (a :: b :: r') []).2.1, rfl⟩
                rw [hnl] at hk
                simp only [hnl]
                cases nok with
                | false => exact ⟨false, (N, ch, li, ev, ca), true, false, rfl, (fun e => by cases e), fun n => rfl⟩
                | true =>
                  rcases hk with hk | hk
                  · cases hk
                  · have e4 : decide (((List.length nl : Nat) : Int) = 1) = false := decide_eq_false (by simp only [List.length_cons, List.length_nil] at hk; omega)
                    simp only [e4, Bool.not_true, Bool.not_false, cond_true, cond_false]
                    exact ⟨false, (N, ch, li, ev, ca), true, false, rfl, (fun e => by cases e), fun n => rfl⟩
            | false =>
              simp only [cond_false]
              obtain ⟨e, e', ok, h1, h2, h3⟩ := p_Event (w :: r) (by simp) w10 (fun w hw => (wsz w hw).1)
              simp only [h1, h2, Option.bind_some]
              cases ok with
              | false =>
                simp only [Bool.not_false, cond_true]
                exact ⟨false, (N, ch, li, ev, ca), true, false, rfl, (fun e => by cases e), fun n => rfl⟩
              | true =>
                obtain ⟨rfl, hk⟩ := h3 rfl
                obtain ⟨eb, k1, k2⟩ := p_EventOk e hk
                simp only [k1, k2, Option.bind_some, Bool.not_true, cond_false]
                cases eb with
                | false =>
                  simp only [Bool.not_false, cond_true]
                  exact ⟨false, (N, ch, li, ev, ca), true, false, rfl, (fun e => by cases e), fun n => rfl⟩
                | true =>
                  have hl := h.len
                  simp only [Bool.not_true, cond_false]
                  by_cases h120 : ev.length = 120
                  · have d1 : decide ((120 : Int) ≤ ((List.length ev : Nat) : Int)) = true := decide_eq_true (by omega)
                    have d2 : decide (((List.length ev : Nat) : Int) = 120) = true := decide_eq_true (by omega)
                    simp only [d1, d2, cond_true]
                    exact ⟨false, (N, ch, li, ev, ca), true, false, rfl, (fun e => by cases e), fun n => rfl⟩
                  · have hl' : ev.length ≤ 120 := hl
                    have d1 : decide ((120 : Int) ≤ ((List.length ev : Nat) : Int)) = false := decide_eq_false (by omega)
                    have d2 : decide (((List.length ev : Nat) : Int) = 120) = false := decide_eq_false (by omega)
                    have d3 : ev.length + 1 ≤ lim := by unfold lim; omega
                    simp only [d1, d2, cond_false, if_pos d3]
                    refine ⟨true, (N, ch, li, ev.append [e], ca), true, false, rfl, fun _ => ⟨(fun e => by cases e), ?_, ?_⟩, fun n => rfl⟩
                    · show (ev ++ [e]).length ≤ 120
                      rw [List.length_append]; simp; omega
                    · intro y hy
                      rcases List.mem_append.1 (show y ∈ ev ++ [e] from hy) with hy | hy
                      · exact h.key y hy
                      · simp only [List.mem_singleton] at hy; subst hy; exact hk

end Go.Sx.Tryz

set_option maxRecDepth 100000
namespace Go.Sx.Tryz
open Go Go.Sx Go.Proofs

/-- what a script that is read is like -/
def ScB (r : DIScript × Int × Unit) : Prop := r.1.2.2.2.1.length ≤ 120 ∧ ∀ e ∈ r.1.2.2.2.1, ByteArray.size e.2.2.2.2.1.2.1 ≤ 1048576
theorem no_B (k : Int) : ScB (noScript, k, ()) := ⟨by simp, by simp⟩

theorem rd_loop (lines : List ByteArray) (hlen : lines.length ≤ 100000) : ∀ (n i : Nat) (x : St) (bg cm : Bool), lines.length < n + i → i ≤ lines.length → StI x bg cm →
    ∃ r, R_i_ReadScript_8 n lines (lines.length : Int) (i : Int) 0 false 0 [] 0 x.1 x.2.1 x.2.2.1 x.2.2.2.1 x.2.2.2.2 bg cm = some r ∧ Rs n bg cm (i : Int) x lines = some r ∧ ScB r
  | 0, i, x, bg, cm, h, hi, _ => by omega
  | n + 1, i, x, bg, cm, h, hi, hx => by
    rcases Nat.lt_or_ge i lines.length with hl | hl
    · obtain ⟨ok, x', bg', cm', h1, h2, h3⟩ := p_line lines hlen i hl x bg cm hx
      have hn : nth lines i = some lines[i] := nth_at hl
      have hw : IntKind.wrap .i64 ((i : Int) + 1) = ((i + 1 : Nat) : Int) := wrap_succ (by omega)
      rw [h3 n, R_i_ReadScript_8_eq, decide_eq_true (show (i : Int) < (lines.length : Int) by omega), cond_true, if_pos (by omega), if_pos (by omega), Int.toNat_natCast, hn, Option.bind_some]
      have h1' : Q_i_reading_line big ((x.1, x.2.1, x.2.2.1, x.2.2.2.1, x.2.2.2.2, ()), bg, cm, ()) lines[i] = some (ok, mkR x' bg' cm', ()) := h1
      rw [h1', Option.bind_some]
      cases ok with
      | false =>
        refine ⟨(noScript, ((i + 1 : Nat) : Int), ()), ?_, rfl, no_B _⟩
        rw [hw]; rfl
      | true =>
        rw [hw]
        exact rd_loop lines hlen n (i + 1) x' bg' cm' (by omega) (by omega) (h2 rfl)
    · have e : i = lines.length := by omega
      subst e
      simp only [Rs, R_s_ReadScript_8_eq, R_i_ReadScript_8_eq, Int.lt_irrefl, decide_false, cond_false]
      cases bg with
      | false => exact ⟨_, rfl, rfl, no_B _⟩
      | true => exact ⟨_, rfl, rfl, hx.len, hx.key⟩

theorem cutGo_len : ∀ (l cur : List UInt8), (cutGo cur l).length ≤ l.length + 1
  | [], cur => by simp [cutGo]
  | b :: l, cur => by
    unfold cutGo
    split
    · have := cutGo_len l []; simp; omega
    · have := cutGo_len l (cur ++ [b]); simp; omega

theorem i_lines (s : ByteArray) (hs : s.size ≤ 3000) : Q_i_ReadScript big s = R_i_ReadScript_8 big (linesB s) ((linesB s).length : Int) 0 0 false 0 [] 0 0 false 0 [] 0 false false := by
  have hsp : ¬ (3000 : Int) < (s.size : Int) := by omega
  have hs1 : (1 : Nat) ≤ ByteArray.size (ByteArray.mk #[(10 : UInt8)]) := by decide
  rw [Q_i_ReadScript_eq, decide_eq_false hsp, cond_false, Q_x_strings_Split_eq, if_pos (by omega), if_pos hs1, Option.bind_some, pieces_cut]
  have hd := dropLast_ln s.data.toList []
  have hln : linesB s = (lnGo [] s.data.toList).map bL := rfl
  have hcl := cutGo_len s.data.toList []
  rw [len_data] at hcl
  have hne := cutGo_ne s.data.toList []
  rw [hln, ← hd]
  clear hd hln
  generalize cutGo [] s.data.toList = C at hcl hne
  have h1 : 0 < C.length := List.length_pos_iff.2 hne
  have hw : IntKind.i64.wrap (((List.map bL C).length : Int) - 1) = ((C.length - 1 : Nat) : Int) := by
    rw [List.length_map, wrap64 (by omega) (by omega)]; omega
  have hn : nth (List.map bL C) (C.length - 1) = some (bL (C.getLast hne)) := by
    have hlt : C.length - 1 < (List.map bL C).length := by rw [List.length_map]; omega
    rw [nth_at hlt, List.getElem_map, List.getLast_eq_getElem]
  have hb1 : ((C.length - 1 : Nat) : Int) < ((List.map bL C).length : Int) := by rw [List.length_map]; omega
  have hb2 : ((C.length - 1 : Nat) : Int) ≤ ((List.map bL C).length : Int) := by rw [List.length_map]; omega
  rw [hw, if_pos (by omega), if_pos hb1, Int.toNat_natCast, hn, Option.bind_some, if_pos (by omega), if_pos hb2, List.getLast?_eq_some_getLast hne]
  by_cases he : C.getLast hne = []
  · have hb0 : bL [] = ByteArray.mk #[] := rfl
    rw [he, decide_eq_true hb0, cond_true, if_pos rfl]
    have e : List.take (C.length - 1 - 0) (List.drop 0 (List.map bL C)) = List.map bL C.dropLast := by
      rw [List.drop_zero, Nat.sub_zero, List.dropLast_eq_take, List.map_take]
    rw [e, Nat.sub_zero, List.length_map, List.length_dropLast]
  · have hb : bL (C.getLast hne) ≠ ByteArray.mk #[] := fun e => he (by
      have := congrArg (fun b : ByteArray => b.data.toList) e
      simpa [bL] using this)
    have hs2 : ¬ (some (C.getLast hne) = some ([] : List UInt8)) := fun e => he (by simpa using e)
    rw [decide_eq_false hb, cond_false, if_neg hs2]

theorem p_ReadScript (s : ByteArray) : ∃ r, Q_i_ReadScript big s = some r ∧ Q_s_ReadScript big s = some r ∧ ScB r := by
  by_cases hs : (3000 : Int) < (s.size : Int)
  · refine ⟨(noScript, -1, ()), ?_, ?_, no_B _⟩
    · rw [Q_i_ReadScript_eq, decide_eq_true hs]; rfl
    · rw [Q_s_ReadScript_eq, decide_eq_true hs]; rfl
  · have hs' : s.size ≤ 3000 := by omega
    rw [i_lines s hs', Q_s_ReadScript_eq, decide_eq_false hs, cond_false, p_s_Lines s hs', Option.bind_some]
    have hl := linesB_len s
    have hx : StI (0, false, 0, [], 0) false false := ⟨(fun h => by cases h), by simp, by simp⟩
    exact rd_loop (linesB s) (by omega) big 0 (0, false, 0, [], 0) false false (by unfold big; omega) (by omega) hx

end Go.Sx.Tryz

set_option maxRecDepth 100000
namespace Go.Sx.Tryz
open Go Go.Sx Go.Proofs

theorem peqScr (x : DIScript) (h : Bg tSlIEvent x.2.2.2.1) : Q_l_eqScript big x x = some true := by
  rw [Q_l_eqScript_eq]
  simp only [decide_true, Bool.not_true, cond_false, Option.bind_some, peqEventS _ h, beq_self_eq_true]
  try (cases x.2.1 <;> rfl)

set_option maxHeartbeats 4000000 in
theorem law_ReadScript (s : ByteArray) : Q_l_FnExactReadScript big s = some true := by
  rw [Q_l_FnExactReadScript_eq]
  by_cases hr : (1048576 : Int) < (s.size : Int)
  · rw [decide_eq_true hr]; rfl
  rw [decide_eq_false hr, cond_false]
  obtain ⟨r, e1, e2, hb⟩ := p_ReadScript s
  have hbg : Bg tSlIEvent r.1.2.2.2.1 := ⟨Nat.le_trans hb.1 (by decide), fun y hy => ⟨trivial, trivial, trivial, trivial, ⟨trivial, trivial, trivial, trivial⟩, trivial⟩⟩
  have hl : (r.1.2.2.2.1 : List DIEvent).length ≤ 16777216 := hbg.1
  obtain ⟨k1, y1, m1, l1, u1, h2⟩ := mh_EventS hl (k := 1) (by decide) (by decide)
  have hm : Q_l_markScript big r.1 1 = some (k1, ((), (), (), y1, (), ()), ()) := by
    rw [Q_l_markScript_eq, m1]; rfl
  have hh : Q_l_heldScript big (r.1.1, r.1.2.1, r.1.2.2.1, y1, r.1.2.2.2.2) 1 = some k1 := by
    rw [Q_l_heldScript_eq]
    show (Q_l_heldEventS big y1 1).bind _ = _
    rw [l1, Option.bind_some, decide_eq_false (by omega)]; rfl
  simp (disch := omega) only [e1, e2, Option.bind_some, peqScr _ hbg, hm, hh, decide_eq_false (show ¬ k1 < 0 by omega), Bool.not_true, cond_false, decide_true]

end Go.Sx.Tryz
