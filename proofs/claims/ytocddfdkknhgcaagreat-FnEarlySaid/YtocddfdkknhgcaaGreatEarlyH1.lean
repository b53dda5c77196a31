/- Lists and peers copied. -/
import Derived.Test.YtocddfdkknhgcaaGreatM8
import Derived.Test.YtocddfdkknhgcaaGreatTypes
import Derived.Test.YtocddfdkknhgcaaGreatEarlyF1
import Derived.Test.YtocddfdkknhgcaaGreatEarlyF2
set_option linter.unusedVariables false
set_option linter.unusedSimpArgs false
set_option maxRecDepth 100000
namespace Go.Sx.Tryz
open Go Go.Sx Go.Proofs
open Go.IntKind renaming i64 → K6
theorem M0 {α : Type} (xs : List α) (h : xs.length ≤ 16777216) : (ZnO xs fun b => bif b then some [] else if (0 : Nat) + List.length xs ≤ lim then some xs else none) = some xs := by
 cases xs with
 | nil => exact XF _
 | cons x l =>
  simp only [ZnO, cond_false];rw [if_pos (by unfold lim; omega)]
theorem Zgy (x : Yq) (h : x.length ≤ 16777216) : K8 big x = some x := by rw [Rh]; exact M0 x h
theorem Vr (x : Zu) (h : x.length ≤ 16777216) : Xa big x = some x := by rw [Lq]; exact M0 x h
theorem ZlS (x : YG) (h : x.length ≤ 16777216) : J5 big x = some x := by rw [Lx]; exact M0 x h
theorem ZlT (x : Yt) (h : x.length ≤ 16777216) : J6 big x = some x := by rw [LA]; exact M0 x h
theorem ZeV (x : Z3) (h : x.length ≤ 16777216) : QQ big x = some x := by rw [GH]; exact M0 x h
structure Zp5 (x : Zj) : Prop where
 row : List.length x.2.2.2.2.2.1 ≤ 16777216
 cells : List.length x.2.2.2.2.2.2.1 ≤ 16777216
 early : List.length x.2.2.2.2.2.2.2.1 ≤ 16777216
 undos : List.length x.2.2.2.2.2.2.2.2.1 ≤ 16777216
 votes : List.length x.2.2.2.2.2.2.2.2.2.1 ≤ 16777216
 news : List.length x.2.2.2.2.2.2.2.2.2.2.1 ≤ 16777216
theorem Zp5.of {x : Zj} (h : Bg ZW x) : Zp5 x :=
 ⟨h.2.2.2.2.2.1.1, h.2.2.2.2.2.2.1.1, h.2.2.2.2.2.2.2.1.1, h.2.2.2.2.2.2.2.2.1.1, h.2.2.2.2.2.2.2.2.2.1.1, h.2.2.2.2.2.2.2.2.2.2.1.1⟩
theorem Zp5.bg {x : Zj} (h : Zp5 x) : Bg ZW x :=
 ⟨trivial, trivial, Zzn rfl _, Zzn rfl _, Zzn rfl _, ⟨h.row, fun _ _ => trivial⟩, ⟨h.cells, fun _ _ => Zzn rfl _⟩, ⟨h.early, fun _ _ => trivial⟩, ⟨h.undos, fun _ _ => Zzn rfl _⟩,
  ⟨h.votes, fun _ _ => Zzn rfl _⟩, ⟨h.news, fun _ _ => Zzn rfl _⟩, trivial, trivial⟩
theorem Zcy (x : Zj) (h : Zp5 x) : K9 big x = some x := by
 rw [Rm];simp only [Zgy _ h.row, Vr _ h.cells, Zgy _ h.early, ZlS _ h.undos, ZlT _ h.votes, ZeV _ h.news, Option.bind_some]
theorem ZlU (x : Zj) (h : Zp5 x) : YX big x = some x := by
 rw [BN];have := h.row; have := h.cells; have := h.early; have := h.undos; have := h.votes; have := h.news;unfold lim
 repeat rw [if_pos (by omega)]
theorem ZvX (x a b : Int) : Ov big x a b = some (bif decide (a ≤ x) then decide (x ≤ b) else false) := by
 rw [ZrI];cases decide (a ≤ x) <;> rfl
theorem BT (x a b : Int) : ZT big x a b = some (bif decide (a ≤ x) then decide (x ≤ b) else false) := by
 rw [Oz];cases decide (a ≤ x) <;> rfl
theorem Znz (n : Int) : ES big n = some (Nu n) := by rw [Zkb, ZvX]; rfl
theorem Zcz (k : ByteArray) (h : k.size ≤ 1048576) : EQ big k = some (Lh k) := by
 have hl : k.data.toList.length = k.size := by rw [Array.length_toList]; rfl
 have hk := Zui (xs := k.data.toList) (p := fun y => decide ((y.toNat : Int) < 97) || decide (122 < (y.toNat : Int))) (b := false) (e := some (bif decide ((1 : Int) ≤ (k.size : Int)) then decide ((k.size : Int) ≤ 3) else false))
  (r := fun n i => CX n k (k.size : Int) i) (n := big) (fun n i hi => by
   rw [GR, decide_eq_true (by omega), cond_true, mk4 (Z2 hi), mk4 (Z2 hi), Ym (by omega)];cases decide (((k.data.toList[i]).toNat : Int) < 97) <;> cases decide (122 < ((k.data.toList[i]).toNat : Int)) <;> rfl) (fun n => by
   rw [GR, decide_eq_false (by omega), cond_false, ZvX]; rfl) (by rw [hl]; exact Nat.lt_of_le_of_lt h (by decide))
 rw [Zj7];refine hk.trans ?_;unfold Lh;cases k.data.toList.any _ <;> rfl
theorem ZcA (k : ByteArray) (h : k.size ≤ 1048576) : Cn big k = some (Lh k) := by
 have hl : k.data.toList.length = k.size := by rw [Array.length_toList]; rfl
 have hk := Zui (xs := k.data.toList) (p := fun y => decide ((y.toNat : Int) < 97) || decide (122 < (y.toNat : Int))) (b := false) (e := some (bif decide ((1 : Int) ≤ (k.size : Int)) then decide ((k.size : Int) ≤ 3) else false))
  (r := fun n i => J8 n k i) (n := big) (fun n i hi => by
   rw [Q5, decide_eq_true (by omega), cond_true, mk4 (Z2 hi), mk4 (Z2 hi), Ym (by omega)];cases decide (((k.data.toList[i]).toNat : Int) < 97) <;> cases decide (122 < ((k.data.toList[i]).toNat : Int)) <;> rfl) (fun n => by
   rw [Q5, decide_eq_false (by omega), cond_false, BT]; rfl) (by rw [hl]; exact Nat.lt_of_le_of_lt h (by decide))
 rw [OA];refine hk.trans ?_;unfold Lh;cases k.data.toList.any _ <;> rfl
theorem ZrY (c : Y3) (h : ByteArray.size c.2.1 ≤ 1048576) : Tl big c = some (Zqs c) := by
 rw [Zki, ZvX, Zcz _ h, Znz];unfold Zqs;simp only [Option.bind_some];generalize (bif decide ((1 : Int) ≤ c.1) then decide (c.1 ≤ 3) else false) = b;cases b <;> cases Lh c.2.1 <;> rfl
theorem ZrZ (c : Y3) (h : ByteArray.size c.2.1 ≤ 1048576) : EX big c = some (Zqs c) := by
 rw [OD, BT, ZcA _ h, BT];unfold Zqs Nu;simp only [Option.bind_some];generalize (bif decide ((1 : Int) ≤ c.1) then decide (c.1 ≤ 3) else false) = b;cases b <;> cases Lh c.2.1 <;> rfl
structure Xm (xs : List ZB) : Prop where
 len : xs.length ≤ 16777216
 key : ∀ y ∈ xs, ByteArray.size y.1 ≤ 1048576
def RS (xs : List ZB) : Nat → Option ByteArray
 | 0 => none
 | j + 1 => (nth xs j).map (·.1)
theorem ZlV (xs : List ZB) (h : Xm xs) : ∀ (n i : Nat), xs.length < n + i → i ≤ xs.length → Vi n xs xs (xs.length : Int) (i : Int) = some (frm (RS xs i) (xs.drop i))
 | 0, i, h1, h2 => by omega
 | n + 1, i, h1, h2 => by
  have hl := h.len;rcases Nat.lt_or_ge i xs.length with hi | hi
  ·have ih := ZlV xs h n (i + 1) (by omega) (by omega)
   rw [AL, decide_eq_true (by omega), cond_true, mk4 (Z2 hi), Zcz _ (h.key _ (List.getElem_mem hi)), Option.bind_some, Znz, Option.bind_some];rw [List.drop_eq_getElem_cons hi];have hp : RS xs (i + 1) = some xs[i].1 := by simp only [RS, Z2 hi, Option.map_some]
   rw [hp] at ih;simp only [frm];cases Lh xs[i].1 with
   | false => rfl
   | true =>
    cases Nu xs[i].2.1 with
    | false => rfl
    | true =>
     simp only [Bool.not_true, cond_false, Bool.true_and];cases i with
     | zero =>
      rw [decide_eq_false (by omega), cond_false, Ym (by omega), ih];rfl
     | succ j =>
      have hj : j < xs.length := by omega
      rw [decide_eq_true (show (0 : Int) < ((j + 1 : Nat) : Int) by omega), cond_true, ZD (n := ((j + 1 : Nat) : Int) - 1) (by omega) (by omega), show ((j + 1 : Nat) : Int) - 1 = (j : Int) by omega, mk4 (Z2 hj), Ym (by omega), ih];have hq : RS xs (j + 1) = some xs[j].1 := by simp only [RS, Z2 hj, Option.map_some]
      rw [hq];show (bif !kl xs[j].1 xs[j + 1].1 then some false else _) = some (kl xs[j].1 xs[j + 1].1 && _);cases kl xs[j].1 xs[j + 1].1 <;> rfl
  ·have e : i = xs.length := by omega
   subst e;rw [AL, decide_eq_false (by omega), cond_false, List.drop_length];rfl
theorem Zgz (xs : List ZB) (h : Xm xs) : ∀ (n i : Nat), xs.length < n + i → i ≤ xs.length → Vw n xs (i : Int) = some (bif frm (RS xs i) (xs.drop i) then decide ((xs.length : Int) ≤ 12) else false)
 | 0, i, h1, h2 => by omega
 | n + 1, i, h1, h2 => by
  have hl := h.len;rcases Nat.lt_or_ge i xs.length with hi | hi
  ·have ih := Zgz xs h n (i + 1) (by omega) (by omega)
   rw [V4, decide_eq_true (by omega), cond_true, mk4 (Z2 hi), ZcA _ (h.key _ (List.getElem_mem hi)), Option.bind_some, mk4 (Z2 hi), BT, Option.bind_some];rw [List.drop_eq_getElem_cons hi];have hp : RS xs (i + 1) = some xs[i].1 := by simp only [RS, Z2 hi, Option.map_some]
   rw [hp] at ih;simp only [frm];rw [show (bif decide ((0 : Int) ≤ xs[i].2.1) then decide (xs[i].2.1 ≤ 1000000000) else false) = Nu xs[i].2.1 from rfl];cases Lh xs[i].1 with
   | false => rfl
   | true =>
    cases Nu xs[i].2.1 with
    | false => rfl
    | true =>
     simp only [Bool.not_true, cond_false, Bool.true_and];cases i with
     | zero =>
      rw [decide_eq_false (by omega), cond_false, Ym (by omega), ih];rfl
     | succ j =>
      have hj : j < xs.length := by omega
      rw [decide_eq_true (show (0 : Int) < ((j + 1 : Nat) : Int) by omega), cond_true, ZD (n := ((j + 1 : Nat) : Int) - 1) (by omega) (by omega), show ((j + 1 : Nat) : Int) - 1 = (j : Int) by omega, mk4 (Z2 hj), mk4 (Z2 hi), Ym (by omega), ih];have hq : RS xs (j + 1) = some xs[j].1 := by simp only [RS, Z2 hj, Option.map_some]
      rw [hq];show (bif !kl xs[j].1 xs[j + 1].1 then some false else _) = some (bif (kl xs[j].1 xs[j + 1].1 && _) then _ else _);cases kl xs[j].1 xs[j + 1].1 <;> rfl
  ·have e : i = xs.length := by omega
   subst e;rw [V4, decide_eq_false (by omega), cond_false, List.drop_length];rfl
theorem II (xs : List ZB) (h : Xm xs) : Vj big xs = some (okB xs) := by
 have := ZlV xs h big 0 (by have := h.len; unfold big; omega) (by omega);rw [Int.natCast_zero, List.drop_zero] at this;rw [Zdn, Rp, this];unfold okB RS;cases decide ((xs.length : Int) ≤ 12) <;> rfl
theorem ZcB (xs : List ZB) (h : Xm xs) : J9 big xs = some (okB xs) := by
 have := Zgz xs h big 0 (by have := h.len; unfold big; omega) (by omega);rw [Int.natCast_zero, List.drop_zero] at this;rw [GV, this];unfold okB RS;cases decide ((xs.length : Int) ≤ 12) <;> cases frm none xs <;> rfl
theorem ZcC {α : Type} {p : α → Bool} {xs : List α} {r : Nat → Int → Option Int}
  (hr : ∀ (n k : Nat) (hk : k < xs.length), r (n + 1) (k : Int) = bif p xs[k] then some (k : Int) else r n ((k + 1 : Nat) : Int)) (h0 : ∀ n, r (n + 1) ((xs.length : Nat) : Int) = some (-1)) :
  ∀ (n k : Nat), xs.length < n + k → k ≤ xs.length → r n (k : Int) = some (Nb p (xs.drop k) k)
 | 0, k, h, h2 => by omega
 | n + 1, k, h, h2 => by
  rcases Nat.lt_or_ge k xs.length with hk | hk
  ·rw [hr n k hk, List.drop_eq_getElem_cons hk]
   simp only [Nb];cases p xs[k] with
   | true => rfl
   | false =>
    simp only [cond_false];rw [ZcC hr h0 n (k + 1) (by omega) (by omega)];rfl
  ·have e1 : k = xs.length := by omega
   subst e1;rw [h0, List.drop_length]; rfl
def isK (k : ByteArray) (y : ZB) : Bool := decide (y.1 = k)
theorem NY (xs : List ZB) (k : ByteArray) (hl : xs.length ≤ 16777216) : Cl big xs k = some (Nb (isK k) xs 0) := by
 rw [Zho, UF];rw [Zuj (xs := xs) (p := isK k) (c := ((k, ()), ())) (r := fun n i => YI n xs (xs.length : Int) i k) (n := big) (fun n i hi => ?_) (fun n => ?_) (Nat.lt_of_le_of_lt hl (by decide))]
 ·rfl
 ·rw [XM, decide_eq_true (by omega), cond_true, mk4 (Z2 hi), Ym (by omega)]
  rfl
 ·rw [XM, decide_eq_false (Int.lt_irrefl _)]
  rfl
theorem ZgA (xs : List ZB) (k : ByteArray) (hl : xs.length ≤ 16777216) : Co big xs k = some (Nb (isK k) xs 0) := by
 rw [LS];have := ZcC (xs := xs) (p := isK k) (r := fun n i => Kw n xs k i) (fun n i hi => by
  rw [UQ, decide_eq_true (by omega), cond_true, mk4 (Z2 hi), Ym (by omega)]
  rfl) (fun n => by
  rw [UQ, decide_eq_false (Int.lt_irrefl _)]
  rfl) big 0 (by unfold big; omega) (by omega)
 rw [Int.natCast_zero, List.drop_zero] at this;exact this
theorem FQ (k : ByteArray) : ∀ (l : List ZB) (j : Int), (Nb (isK k) l j = -1 ∧ Zm2 k l = false ∧ Cg k l = none ∧ ∀ y ∈ l, y.1 ≠ k) ∨ ∃ (i : Nat) (y : ZB), Nb (isK k) l j = j + i ∧ nth l i = some y ∧ y.1 = k ∧ Zm2 k l = true ∧ Cg k l = some y.2.1
 | [], j => .inl ⟨rfl, rfl, rfl, by simp⟩
 | z :: l, j => by
  by_cases e : z.1 = k
  ·exact .inr ⟨0, z, by simp only [Nb, isK, decide_eq_true e, cond_true]; omega, rfl, e, by simp only [Zm2, List.any_cons, decide_eq_true e, Bool.true_or], by simp only [Cg, decide_eq_true e, cond_true]⟩
  ·rcases FQ k l (j + 1) with ⟨h1, h2, h3, h4⟩ | ⟨i, y, h1, h2, h3, h4, h5⟩
   ·refine .inl ⟨by simp only [Nb, isK, decide_eq_false e, cond_false]; exact h1, by simp only [Zm2, List.any_cons, decide_eq_false e, Bool.false_or]; exact h2, by simp only [Cg, decide_eq_false e, cond_false]; exact h3, fun y hy => ?_⟩
    rcases List.mem_cons.1 hy with q | q
    ·subst q; exact e
    ·exact h4 y q
   ·exact .inr ⟨i + 1, y, by simp only [Nb, isK, decide_eq_false e, cond_false]; rw [h1]; omega, h2, h3, by simp only [Zm2, List.any_cons, decide_eq_false e, Bool.false_or]; exact h4, by simp only [Cg, decide_eq_false e, cond_false]; exact h5⟩
theorem ZlW (xs : List ZB) (hl : xs.length ≤ 16777216) (k : ByteArray) (m : Int) (hn : ∀ y ∈ xs, y.1 ≠ k) : ∀ (n i : Nat), xs.length < n + i → i ≤ xs.length → Q4 n xs k m (i : Int) xs = some (xs.take i ++ J4 k m (xs.drop i))
 | 0, i, h1, h2 => by omega
 | n + 1, i, h1, h2 => by
  have hins : ∀ (i : Nat), i ≤ xs.length → (V3 big xs (i : Int) [(k, m, ())]).bind (fun y => some y) = some (xs.take i ++ ((k, m, ()) :: xs.drop i)) := fun i hi => by
   rw [H8, if_pos (by omega), if_pos (by omega), if_pos (show List.length [(k, m, ())] = 1 from rfl), if_pos (by unfold lim; omega), Int.toNat_natCast];rfl
  rcases Nat.lt_or_ge i xs.length with hi | hi
  ·rw [Cm, decide_eq_true (by omega), cond_true, mk4 (Z2 hi), Ym (by omega), ZlW xs hl k m hn n (i + 1) (by omega) (by omega), hins i (by omega)]
   rw [List.drop_eq_getElem_cons hi];simp only [J4];rw [decide_eq_false (hn _ (List.getElem_mem hi)), cond_false, List.take_succ_eq_append_getElem hi, List.append_assoc];show (bif kl xs[i].1 k then _ else _) = _;cases kl xs[i].1 k <;> rfl
  ·have e : i = xs.length := by omega
   subst e;rw [Cm, decide_eq_false (by omega), cond_false, hins xs.length (Nat.le_refl _), List.drop_length];rfl
theorem ZgB (xs : List ZB) (h : Xm xs) (hf : frm none xs = true) (k : ByteArray) (m : Int) : Vk big xs k m = some (J4 k m xs) := by
 rw [Tp, Vr _ h.len, Option.bind_some, NY xs k h.len, Option.bind_some];rcases FQ k xs 0 with ⟨h1, _, _, h4⟩ | ⟨i, y, h1, h2, h3, _⟩
 ·rw [h1, decide_eq_false (by omega), cond_false]
  have := ZlW xs h.len k m h4 big 0 (by have := h.len; unfold big; omega) (by omega);rw [Int.natCast_zero, List.take_zero, List.drop_zero] at this;exact this
 ·have hi : i < xs.length := AF h2
  rw [h1, Int.zero_add, decide_eq_true (by omega), cond_true, if_pos (by omega), if_pos (by omega), Int.toNat_natCast, h2, Option.bind_some, EC hi, ZrG hf h2 h3];rfl
theorem ZcD (xs : List ZB) (hl : xs.length ≤ 16777216) (k : ByteArray) (m : Int) : ∀ (n i : Nat) (acc : List ZB), xs.length < n + i → i ≤ xs.length → acc.length ≤ 16777217 + i →
  Ut n xs acc (i : Int) k m = some (acc ++ (xs.drop i).filter (fun y => !(kl y.1 k || decide (y.1 = k))))
 | 0, i, acc, h1, h2, h3 => by omega
 | n + 1, i, acc, h1, h2, h3 => by
  rcases Nat.lt_or_ge i xs.length with hi | hi
  ·rw [US, decide_eq_true (by omega), cond_true, mk4 (Z2 hi), mk4 (Z2 hi), if_pos (by unfold lim; simp only [List.length_singleton]; omega), Ym (by omega), List.drop_eq_getElem_cons hi, List.filter_cons]
   show (bif !(kl xs[i].1 k || decide (xs[i].1 = k)) then _ else _) = _;cases (!(kl xs[i].1 k || decide (xs[i].1 = k))) with
   | true =>
    rw [cond_true, ZcD xs hl k m n (i + 1) _ (by omega) (by omega) (by simp; omega)];simp
   | false =>
    rw [cond_false, ZcD xs hl k m n (i + 1) _ (by omega) (by omega) (by omega)];simp
  ·have e : i = xs.length := by omega
   subst e;rw [US, decide_eq_false (by omega), cond_false, List.drop_length];simp
theorem ZcE (xs : List ZB) (hl : xs.length ≤ 16777216) (k : ByteArray) (m : Int) : ∀ (n i : Nat) (acc : List ZB), xs.length + xs.length + 1 < n + i → i ≤ xs.length → acc.length ≤ i →
  Us n xs acc (i : Int) k m = some (acc ++ ((xs.drop i).filter (fun y => kl y.1 k) ++ (k, m, ()) :: xs.filter (fun y => !(kl y.1 k || decide (y.1 = k)))))
 | 0, i, acc, h1, h2, h3 => by omega
 | n + 1, i, acc, h1, h2, h3 => by
  rcases Nat.lt_or_ge i xs.length with hi | hi
  ·rw [UR, decide_eq_true (by omega), cond_true, mk4 (Z2 hi), mk4 (Z2 hi), if_pos (by unfold lim; simp only [List.length_singleton]; omega), Ym (by omega), List.drop_eq_getElem_cons hi, List.filter_cons]
   show (bif kl xs[i].1 k then _ else _) = _;cases kl xs[i].1 k with
   | true =>
    rw [cond_true, ZcE xs hl k m n (i + 1) _ (by omega) (by omega) (by simp; omega)];simp
   | false =>
    rw [cond_false, ZcE xs hl k m n (i + 1) _ (by omega) (by omega) (by omega)];simp
  ·have e : i = xs.length := by omega
   subst e;rw [UR, decide_eq_false (by omega), cond_false, if_pos (by unfold lim; simp only [List.length_singleton]; omega)];have := ZcD xs hl k m n 0 (acc ++ [(k, m, ())]) (by omega) (by omega) (by simp; omega);rw [Int.natCast_zero, List.drop_zero] at this;rw [List.drop_length];refine this.trans ?_;simp
theorem Zoy (xs : List ZB) (hl : xs.length ≤ 16777216) (hf : frm none xs = true) (k : ByteArray) (m : Int) : Xo big xs (k, m, ()) = some (J4 k m xs) := by
 have := ZcE xs hl k m big 0 [] (by unfold big; omega) (by omega) (by simp);rw [Int.natCast_zero, List.drop_zero, List.nil_append, Zfv hf] at this;rw [LU];exact this
theorem JJ {xs : List ZB} (h : okB xs = true) : frm none xs = true ∧ xs.length ≤ 12 := by
 unfold okB at h
 by_cases hl : (xs.length : Int) ≤ 12
 ·rw [decide_eq_true hl] at h; exact ⟨h, by omega⟩
 ·rw [decide_eq_false hl] at h; cases h
theorem Zoz {c : Y3} (h : Zqs c = true) : Lh c.2.1 = true ∧ Nu c.2.2.1 = true := by
 unfold Zqs at h;revert h;generalize (bif decide ((1 : Int) ≤ c.1) then decide (c.1 ≤ 3) else false) = b;cases b <;> cases Lh c.2.1 <;> cases Nu c.2.2.1 <;> simp
theorem Zr0 {xs : List ZB} {i : Nat} {y : ZB} (hf : frm none xs = true) (hn : nth xs i = some y) : Lh y.1 = true ∧ Nu y.2.1 = true := by
 rw [AE] at hn;exact ZrE hf y (List.mem_of_getElem? hn)
theorem Zr1 {k : ByteArray} {m : Int} : ∀ {l : List ZB} {y : ZB}, y ∈ J4 k m l → y ∈ l ∨ y.1 = k
 | [], y, h => by simp only [J4, List.mem_singleton] at h; subst h; exact .inr rfl
 | z :: l, y, h => by
  simp only [J4] at h;cases hz : kl z.1 k with
  | true =>
   rw [hz, cond_true] at h;rcases List.mem_cons.1 h with e | h
   ·exact .inl (by simp [e])
   ·exact (Zr1 h).imp (fun q => by simp [q]) id
  | false =>
   rw [hz, cond_false] at h
   by_cases e : z.1 = k
   ·rw [decide_eq_true e, cond_true] at h
    rcases List.mem_cons.1 h with e2 | h
    ·subst e2; exact .inr rfl
    ·exact .inl (by simp [h])
   ·rw [decide_eq_false e, cond_false] at h
    rcases List.mem_cons.1 h with e2 | h
    ·subst e2; exact .inr rfl
    ·exact .inl h
theorem Zve {xs : List ZB} (h : Xm xs) (h12 : xs.length ≤ 12) (hf : frm none xs = true) {k : ByteArray} (hk : k.size ≤ 1048576) (m : Int) : Xm (J4 k m xs) := by
 refine ⟨?_, fun y hy => ?_⟩
 ·rw [Nv hf]
  cases Zm2 k xs <;> simp <;> omega
 ·rcases Zr1 hy with q | q
  ·exact h.key y q
  ·rw [q]; exact hk
theorem ZlX {xs : List ZB} (h : Xm xs) {c : Y3} (hc : ByteArray.size c.2.1 ≤ 1048576) : Xm (Ek xs c).1 := by
 unfold Ek;cases ho : okB xs with
 | false => exact h
 | true =>
  cases Zqs c with
  | false => exact h
  | true =>
   simp only [cond_true]
   split
   ·exact h
   ·rename_i m _
    cases okB (J4 c.2.1 m xs) with
    | true => exact Zve h (JJ ho).2 (JJ ho).1 hc m
    | false => exact h
theorem ZoA (xs : List ZB) (h : Xm xs) (c : Y3) (hc : ByteArray.size c.2.1 ≤ 1048576) : R4 big xs c = some (Ek xs c) := by
 rw [Zm7, Vr _ h.len, Option.bind_some, II xs h, Option.bind_some];unfold Ek;cases ho : okB xs with
 | false => rfl
 | true =>
  obtain ⟨hf, h12⟩ := JJ ho;simp only [Bool.not_true, cond_false, cond_true];rw [ZrY c hc, Option.bind_some];cases hk : Zqs c with
  | false => rfl
  | true =>
   obtain ⟨hk1, hk2⟩ := Zoz hk;have hn := R2.1 hk2;simp only [Bool.not_true, cond_false, cond_true];have fin : ∀ m : Int, ((Vk big xs c.2.1 m).bind fun y => (Vj big y).bind fun y_1 => bif !y_1 then some (xs, (2 : Int), PUnit.unit) else some (y, (0 : Int), PUnit.unit)) =
     some (bif okB (J4 c.2.1 m xs) then (J4 c.2.1 m xs, (0 : Int), ()) else (xs, (2 : Int), ())) := fun m => by
    rw [ZgB xs h hf, Option.bind_some, II _ (Zve h h12 hf hc m), Option.bind_some];cases okB (J4 c.2.1 m xs) <;> rfl
   unfold Zxp;cases hq : decide (c.1 = 1) with
   | true =>
    simp only [Bool.not_true, cond_false, cond_true];exact fin _
   | false =>
    simp only [Bool.not_false, cond_true, cond_false];rw [NY xs c.2.1 h.len, Option.bind_some];rcases FQ c.2.1 xs 0 with ⟨h1, _, h3, _⟩ | ⟨i, y, h1, h2, h3, _, h5⟩
    ·rw [h1, h3, decide_eq_true (by omega), cond_true]
    ·obtain ⟨_, hy2⟩ := Zr0 hf h2
     have hy := R2.1 hy2;rw [h1, h5, Int.zero_add, decide_eq_false (by omega), cond_false, if_pos (by omega), Int.toNat_natCast, h2, Option.bind_some];cases hr : decide (c.1 = 3) with
     | true =>
      simp only [cond_true];rw [ZD (n := 0 - c.2.2.1) (by omega) (by omega), ZD (n := 0 - c.2.2.1 + y.2.1) (by omega) (by omega), show 0 - c.2.2.1 + y.2.1 = y.2.1 - c.2.2.1 by omega];exact fin _
     | false =>
      simp only [cond_false];rw [if_pos (by omega), Option.bind_some, ZD (n := c.2.2.1 + y.2.1) (by omega) (by omega), Int.add_comm c.2.2.1];exact fin _
theorem ZoB (xs : List ZB) (h : Xm xs) (c : Y3) (hc : ByteArray.size c.2.1 ≤ 1048576) : LV big xs c = some (Ek xs c) := by
 have hl := h.len;rw [Tv, if_pos (by unfold lim; omega), ZcB xs h, Option.bind_some];unfold Ek;cases ho : okB xs with
 | false => rfl
 | true =>
  obtain ⟨hf, h12⟩ := JJ ho;simp only [Bool.not_true, cond_false, cond_true];rw [ZrZ c hc, Option.bind_some];cases hk : Zqs c with
  | false => rfl
  | true =>
   obtain ⟨hk1, hk2⟩ := Zoz hk;have hn := R2.1 hk2;simp only [Bool.not_true, cond_false, cond_true];rw [ZgA xs c.2.1 hl, Option.bind_some];have fin : ∀ (m q : Int), (decide (q < 0) = !Zm2 c.2.1 xs) → ((ZT big m (0 : Int) (1000000000 : Int)).bind fun y_1 => bif !y_1 then some (xs, (2 : Int), PUnit.unit) else
     bif decide (q < (0 : Int)) then bif decide ((12 : Int) ≤ (List.length xs : Int)) then some (xs, (2 : Int), PUnit.unit) else (Xo big xs (c.2.1, m, ())).bind fun y => some (y, (0 : Int), PUnit.unit)
     else (Xo big xs (c.2.1, m, ())).bind fun y => some (y, (0 : Int), PUnit.unit)) =
     some (bif okB (J4 c.2.1 m xs) then (J4 c.2.1 m xs, (0 : Int), ()) else (xs, (2 : Int), ())) := fun m q hq => by
    rw [BT, Option.bind_some, Zoy xs hl hf, Option.bind_some, hq, Zwq ho hk1];show (bif !Nu m then _ else _) = _;cases Nu m with
    | false => rfl
    | true =>
     cases Zm2 c.2.1 xs with
     | true => rfl
     | false =>
      by_cases h2 : (xs.length : Int) < 12
      ·rw [decide_eq_true h2, decide_eq_false (show ¬ (12 : Int) ≤ (xs.length : Int) by omega)]; rfl
      ·rw [decide_eq_false h2, decide_eq_true (show (12 : Int) ≤ (xs.length : Int) by omega)]; rfl
   unfold Zxp;cases hq : decide (c.1 = 1) with
   | true =>
    simp only [Bool.not_true, cond_false, cond_true];refine fin _ _ ?_;rcases FQ c.2.1 xs 0 with ⟨h1, h2, _, _⟩ | ⟨i, y, h1, _, _, h4, _⟩
    ·rw [h1, h2]; rfl
    ·rw [h1, h4, decide_eq_false (by omega)]; rfl
   | false =>
    simp only [Bool.not_false, cond_true, cond_false];rcases FQ c.2.1 xs 0 with ⟨h1, _, h3, _⟩ | ⟨i, y, h1, h2, h3, h4, h5⟩
    ·rw [h1, h3, decide_eq_true (by omega), cond_true]
    ·obtain ⟨_, hy2⟩ := Zr0 hf h2
     have hy := R2.1 hy2;have hneg : decide ((i : Int) < 0) = !Zm2 c.2.1 xs := by rw [h4, decide_eq_false (by omega)]; rfl
     rw [h1, h5, Int.zero_add, decide_eq_false (by omega), cond_false, if_pos (by omega), Int.toNat_natCast, h2, Option.bind_some];have hneg' : (false : Bool) = !Zm2 c.2.1 xs := by rw [h4]; rfl
     cases hr : decide (c.1 = 3) with
     | true =>
      simp only [cond_true];rw [if_pos (by omega), Option.bind_some, ZD (n := y.2.1 - c.2.2.1) (by omega) (by omega)];have := fin (y.2.1 - c.2.2.1) (i : Int) hneg;rw [decide_eq_false (show ¬ (i : Int) < 0 by omega)] at this;exact this
     | false =>
      simp only [cond_false];rw [ZD (n := y.2.1 + c.2.2.1) (by omega) (by omega)];have := fin (y.2.1 + c.2.2.1) (i : Int) hneg;rw [decide_eq_false (show ¬ (i : Int) < 0 by omega)] at this;exact this
theorem ZiU : ∀ (cs : List Y3) {xs : List ZB}, Xm xs → (∀ c ∈ cs, ByteArray.size c.2.1 ≤ 1048576) → Xm (UC xs cs)
 | [], _, h, _ => h
 | c :: cs, xs, h, hc => ZiU cs (xs := (Ek xs c).1) (ZlX h (hc c (by simp))) (fun d hd => hc d (by simp [hd]))
theorem ZgC (cs : List Y3) (hl : cs.length ≤ 1099511627776) (hc : ∀ c ∈ cs, ByteArray.size c.2.1 ≤ 1048576) : ∀ (n i : Nat) (xs : List ZB) (codes : List Int), cs.length < n + i → i ≤ cs.length → codes.length ≤ i → Xm xs →
  Jd n xs codes cs (cs.length : Int) (i : Int) = some (UC xs (cs.drop i), codes ++ Zm3 xs (cs.drop i), ())
 | 0, i, xs, codes, h1, h2, h3, _ => by omega
 | n + 1, i, xs, codes, h1, h2, h3, h => by
  rcases Nat.lt_or_ge i cs.length with hi | hi
  ·have hm := hc _ (List.getElem_mem hi)
   rw [DP, decide_eq_true (by omega), cond_true, mk4 (Z2 hi), ZoA xs h _ hm, Option.bind_some, if_pos (by unfold ZsR; omega), Ym (by omega), ZgC cs hl hc n (i + 1) _ _ (by omega) (by omega) (by simp; omega) (ZlX h hm)];rw [List.drop_eq_getElem_cons hi, show ∀ (a b : List Int), List.append a b = a ++ b from fun _ _ => rfl, List.append_assoc];rfl
  ·have e : i = cs.length := by omega
   subst e;rw [DP, decide_eq_false (by omega), cond_false, List.drop_length];simp [UC, Zm3]
theorem ZgD (cs : List Y3) (hl : cs.length ≤ 16777216) (hc : ∀ c ∈ cs, ByteArray.size c.2.1 ≤ 1048576) : ∀ (n i : Nat) (xs : List ZB) (codes : List Int), cs.length < n + i → i ≤ cs.length → codes.length ≤ i → Xm xs →
  UT n cs xs codes (i : Int) = some (UC xs (cs.drop i), codes ++ Zm3 xs (cs.drop i), ())
 | 0, i, xs, codes, h1, h2, h3, _ => by omega
 | n + 1, i, xs, codes, h1, h2, h3, h => by
  rcases Nat.lt_or_ge i cs.length with hi | hi
  ·have hm := hc _ (List.getElem_mem hi)
   rw [V5, decide_eq_true (by omega), cond_true, mk4 (Z2 hi), ZoB xs h _ hm, Option.bind_some, if_pos (by unfold lim; omega), Ym (by omega), ZgD cs hl hc n (i + 1) _ _ (by omega) (by omega) (by simp; omega) (ZlX h hm)];rw [List.drop_eq_getElem_cons hi, show ∀ (a b : List Int), List.append a b = a ++ b from fun _ _ => rfl, List.append_assoc];rfl
  ·have e : i = cs.length := by omega
   subst e;rw [V5, decide_eq_false (by omega), cond_false, List.drop_length];simp [UC, Zm3]
theorem ZnA (xs : List ZB) (h : Xm xs) (cs : List Y3) (hl : cs.length ≤ 1099511627776) (hc : ∀ c ∈ cs, ByteArray.size c.2.1 ≤ 1048576) : Ib big xs cs = some (UC xs cs, Zm3 xs cs, ()) := by
 have := ZgC cs hl hc big 0 xs [] (by unfold big; omega) (by omega) (by simp) h;rw [Int.natCast_zero, List.drop_zero, List.nil_append] at this;rw [Zds, Vr _ h.len, Option.bind_some];exact this
theorem ZcF (xs : List ZB) (h : Xm xs) (cs : List Y3) (hl : cs.length ≤ 16777216) (hc : ∀ c ∈ cs, ByteArray.size c.2.1 ≤ 1048576) : Aa big xs cs = some (UC xs cs, Zm3 xs cs, ()) := by
 have hl2 := h.len;have := ZgD cs hl hc big 0 xs [] (by unfold big; omega) (by omega) (by simp) h;rw [Int.natCast_zero, List.drop_zero, List.nil_append] at this;rw [GX, if_pos (by unfold lim; omega)];exact this
def M1 (xs : List ZB) (k : ByteArray) : Ya := match Cg k xs with
 | none => (k, false, 0, ())
 | some m => (k, true, m, ())
theorem Zp6 (xs : List ZB) (hl : xs.length ≤ 16777216) (k : ByteArray) : NB big xs k = some (M1 xs k) := by
 rw [ZhE, NY xs k hl, Option.bind_some];unfold M1;rcases FQ k xs 0 with ⟨h1, _, h3, _⟩ | ⟨i, y, h1, h2, h3, _, h5⟩
 ·rw [h1, h3, decide_eq_true (by omega)]; rfl
 ·rw [h1, h5, Int.zero_add, decide_eq_false (by omega), cond_false, if_pos (by omega), Int.toNat_natCast, h2]; rfl
theorem Zp7 (xs : List ZB) (hl : xs.length ≤ 16777216) (k : ByteArray) : Ge big xs k = some (M1 xs k) := by
 rw [L3, ZgA xs k hl, Option.bind_some];unfold M1;rcases FQ k xs 0 with ⟨h1, _, h3, _⟩ | ⟨i, y, h1, h2, h3, _, h5⟩
 ·rw [h1, h3, decide_eq_true (by omega)]; rfl
 ·rw [h1, h5, Int.zero_add, decide_eq_false (by omega), cond_false, if_pos (by omega), Int.toNat_natCast, h2]; rfl
def CA : List ZB → List Y3 → List Ya
 | _, [] => []
 | xs, c :: cs => M1 xs c.2.1 :: CA (Ek xs c).1 cs
theorem P6 : ∀ (cs : List Y3) (xs : List ZB), (CA xs cs).length = cs.length
 | [], _ => rfl
 | _ :: cs, _ => by simp only [CA, List.length_cons, P6 cs]
theorem P7 : ∀ (a b : List Y3) (xs : List ZB), CA xs (a ++ b) = CA xs a ++ CA (UC xs a) b
 | [], _, _ => rfl
 | c :: a, b, xs => by
  simp only [List.cons_append, CA];rw [P7 a b];rfl
theorem ZcG (cs : List Y3) (hl : cs.length ≤ 16777216) (hc : ∀ c ∈ cs, ByteArray.size c.2.1 ≤ 1048576) : ∀ (n i : Nat) (xs : List ZB) (us : List Ya), cs.length < n + i → i ≤ cs.length → us.length ≤ i → Xm xs →
  Q7 n xs us cs (cs.length : Int) (i : Int) = some (UC xs (cs.drop i), us ++ CA xs (cs.drop i), ())
 | 0, i, xs, us, h1, h2, h3, _ => by omega
 | n + 1, i, xs, us, h1, h2, h3, h => by
  rcases Nat.lt_or_ge i cs.length with hi | hi
  ·have hm := hc _ (List.getElem_mem hi)
   rw [Cp, decide_eq_true (by omega), cond_true, mk4 (Z2 hi), Zp6 xs h.len, Option.bind_some, if_pos (by unfold ZsR; simp only [List.length_singleton]; omega), ZoA xs h _ hm, Option.bind_some, Ym (by omega),
    ZcG cs hl hc n (i + 1) _ _ (by omega) (by omega) (by simp; omega) (ZlX h hm)]
   rw [List.drop_eq_getElem_cons hi, show ∀ (a b : List Ya), List.append a b = a ++ b from fun _ _ => rfl, List.append_assoc];rfl
  ·have e : i = cs.length := by omega
   subst e;rw [Cp, decide_eq_false (by omega), cond_false, List.drop_length];simp [UC, CA]
theorem ZcH (cs : List Y3) (hl : cs.length ≤ 16777216) (hc : ∀ c ∈ cs, ByteArray.size c.2.1 ≤ 1048576) : ∀ (n i : Nat) (xs : List ZB) (us : List Ya), cs.length < n + i → i ≤ cs.length → us.length ≤ i → Xm xs →
  VT n cs xs us (i : Int) = some (UC xs (cs.drop i), us ++ CA xs (cs.drop i), ())
 | 0, i, xs, us, h1, h2, h3, _ => by omega
 | n + 1, i, xs, us, h1, h2, h3, h => by
  rcases Nat.lt_or_ge i cs.length with hi | hi
  ·have hm := hc _ (List.getElem_mem hi)
   rw [Vx, decide_eq_true (by omega), cond_true, mk4 (Z2 hi), Zp7 xs h.len, Option.bind_some, if_pos (by unfold lim; simp only [List.length_singleton]; omega), mk4 (Z2 hi), ZoB xs h _ hm, Option.bind_some, Ym (by omega),
    ZcH cs hl hc n (i + 1) _ _ (by omega) (by omega) (by simp; omega) (ZlX h hm)]
   rw [List.drop_eq_getElem_cons hi, show ∀ (a b : List Ya), List.append a b = a ++ b from fun _ _ => rfl, List.append_assoc];rfl
  ·have e : i = cs.length := by omega
   subst e;rw [Vx, decide_eq_false (by omega), cond_false, List.drop_length];simp [UC, CA]
theorem ZlY (xs : List ZB) (h : Xm xs) (cs : List Y3) (hl : cs.length ≤ 16777216) (hc : ∀ c ∈ cs, ByteArray.size c.2.1 ≤ 1048576) : E0 big xs cs = some (UC xs cs, CA xs cs, ()) := by
 have := ZcG cs hl hc big 0 xs [] (by unfold big; omega) (by omega) (by simp) h;rw [Int.natCast_zero, List.drop_zero, List.nil_append] at this;rw [TG, Vr _ h.len, Option.bind_some];exact this
theorem ZlZ (xs : List ZB) (h : Xm xs) (cs : List Y3) (hl : cs.length ≤ 16777216) (hc : ∀ c ∈ cs, ByteArray.size c.2.1 ≤ 1048576) : AV big xs cs = some (UC xs cs, CA xs cs, ()) := by
 have hl2 := h.len;have := ZcH cs hl hc big 0 xs [] (by unfold big; omega) (by omega) (by simp) h;rw [Int.natCast_zero, List.drop_zero, List.nil_append] at this;rw [E1, if_pos (by unfold lim; omega)];exact this
theorem ZoC {α : Type} : ∀ {b : List α} {i : Nat} (y : α), i < b.length → (upd b i y).take (i + 1) = b.take i ++ [y]
 | _ :: _, 0, _, _ => by simp [upd]
 | x :: b, i + 1, y, h => by
  have := ZoC (b := b) (i := i) y (by simpa using h);simp only [upd, List.take_succ_cons, List.cons_append, this]
theorem ZoD {α : Type} : ∀ {b : List α} {i j : Nat} (y : α), i < j → (upd b i y).drop j = b.drop j
 | [], _, _, _, _ => rfl
 | _ :: _, 0, j + 1, _, _ => rfl
 | x :: b, i + 1, j + 1, y, h => by
  simp only [upd, List.drop_succ_cons];exact ZoD y (by omega)
def CB (k : ByteArray) (y : ZB) : Bool := !decide (y.1 = k)
theorem ZiV (k : ByteArray) (hd : Bool) (m : Int) : ∀ (n i j : Nat) (b : List ZB), b.length ≤ 16777216 → b.length < n + j → i < j → j ≤ b.length →
  Yn n (i : Int) (j : Int) b k hd m = some (b.take i ++ (b.drop j).filter (CB k), ((k, hd, m, ()), ()), ())
 | 0, i, j, b, _, h1, _, h3 => by omega
 | n + 1, i, j, b, hl, h1, h2, h3 => by
  rcases Nat.lt_or_ge j b.length with hj | hj
  ·have hi : i < b.length := by omega
   rw [XH, decide_eq_true (by omega), cond_true, if_pos (by omega), if_pos (by omega), Int.toNat_natCast, Z2 hj, Option.bind_some, List.drop_eq_getElem_cons hj, List.filter_cons];show (bif CB k b[j] then _ else _) = _;cases CB k b[j] with
   | true =>
    simp only [cond_true, if_true];rw [if_pos (by omega), if_pos (by omega), Int.toNat_natCast, Z2 hi, Option.bind_some, EC hi, Option.bind_some, Ym (by omega), Ym (by omega),
     ZiV k hd m n (i + 1) (j + 1) _ (by rw [ZY]; exact hl) (by rw [ZY]; omega) (by omega) (by rw [ZY]; omega), ZoC _ hi, ZoD _ (by omega), List.append_assoc]
    rfl
   | false =>
    simp only [cond_false, Bool.false_eq_true, if_false];rw [Ym (by omega), ZiV k hd m n i (j + 1) b hl (by omega) (by omega) (by omega)]
  ·have e : j = b.length := by omega
   subst e;have hlen : (List.append (b.take i) (List.append (List.replicate (b.length - i) (ZS Yf)) (b.drop (i + (b.length - i))))).length = b.length := by
    simp only [show ∀ a c : List ZB, List.append a c = a ++ c from fun _ _ => rfl, List.length_append, List.length_take, List.length_replicate, List.length_drop]; omega
   rw [XH, decide_eq_false (by omega), cond_false];simp only [Int.toNat_natCast];rw [if_pos (by omega), if_pos (by omega), if_pos (by omega), if_pos (by omega), if_pos (by rw [show (List.append (b.take i) (List.append (List.replicate (b.length - i) (ZS Zq)) (b.drop (i + (b.length - i))))).length = b.length from hlen]; omega)];rw [List.drop_length, Nat.sub_zero, List.drop_zero];have ht : List.take i (List.append (b.take i) (List.append (List.replicate (b.length - i) (ZS Zq)) (b.drop (i + (b.length - i))))) = b.take i :=
    List.take_left' (by rw [List.length_take]; omega)
   rw [ht];simp
theorem ZgE {p : ZB → Bool} : ∀ {l : List ZB} (j : Int), 0 ≤ j → (Nb p l j = -1 ∧ l.filter (fun y => !p y) = l) ∨ ∃ i : Nat, Nb p l j = j + i ∧ i < l.length ∧ l.filter (fun y => !p y) = l.take i ++ (l.drop (i + 1)).filter (fun y => !p y)
 | [], _, _ => .inl ⟨rfl, rfl⟩
 | y :: l, j, h => by
  cases hp : p y with
  | true =>
   refine .inr ⟨0, by simp only [Nb, hp, cond_true]; omega, by simp, ?_⟩;rw [List.filter_cons, hp]; rfl
  | false =>
   rcases ZgE (p := p) (l := l) (j + 1) (by omega) with ⟨h1, h2⟩ | ⟨i, h1, h2, h3⟩
   ·refine .inl ⟨by simp only [Nb, hp, cond_false]; exact h1, ?_⟩
    rw [List.filter_cons, hp, h2]; rfl
   ·refine .inr ⟨i + 1, by simp only [Nb, hp, cond_false]; omega, by simp only [List.length_cons]; omega, ?_⟩
    rw [List.filter_cons, hp, h3]; rfl
theorem ZtG (xs : List ZB) (hl : xs.length ≤ 16777216) (u : Ya) : Xk big xs (u, ()) = some (xs.filter (CB u.1), (u, ()), ()) := by
 have hi : Xp big xs (u, ()) = some (Nb (isK u.1) xs 0, (u, ()), ()) := by
  rw [UI];exact Zuj (xs := xs) (p := isK u.1) (c := ((u, ()), ())) (r := fun n i => YK n xs (xs.length : Int) i u.1 u.2.1 u.2.2.1) (n := big) (fun n i hi => by
   rw [XN, decide_eq_true (by omega), cond_true, mk4 (Z2 hi), Ym (by omega)]
   rfl) (fun n => by
   rw [XN, decide_eq_false (Int.lt_irrefl _)]
   rfl) (Nat.lt_of_le_of_lt hl (by decide))
 rw [Uf, hi, Option.bind_some];rcases ZgE (p := isK u.1) (l := xs) 0 (by omega) with ⟨h1, h2⟩ | ⟨i, h1, h2, h3⟩
 ·rw [h1, decide_eq_true rfl, cond_true]
  rw [show xs.filter (CB u.1) = xs from h2]
 ·rw [h1, Int.zero_add, decide_eq_false (by omega), cond_false, Ym (by omega), ZiV _ _ _ big i (i + 1) xs hl (by unfold big; omega) (by omega) (by omega)]
  rw [show xs.filter (CB u.1) = _ from h3];rfl
def ZcI (xs : List ZB) (u : Ya) : List ZB :=
 bif okB xs then (bif Lh u.1 then (bif Nu u.2.2.1 then (bif u.2.1 then J4 u.1 u.2.2.1 xs else xs.filter (CB u.1)) else xs) else xs) else xs
theorem ZnB {xs : List ZB} (h : Xm xs) {u : Ya} (hu : ByteArray.size u.1 ≤ 1048576) : Xm (ZcI xs u) := by
 unfold ZcI;cases ho : okB xs with
 | false => exact h
 | true =>
  cases Lh u.1 with
  | false => exact h
  | true =>
   cases Nu u.2.2.1 with
   | false => exact h
   | true =>
    cases u.2.1 with
    | true => exact Zve h (JJ ho).2 (JJ ho).1 hu _
    | false =>
     refine ⟨Nat.le_trans (List.length_filter_le ..) h.len, fun y hy => ?_⟩;exact h.key y (List.mem_filter.1 hy).1
theorem Zp8 (xs : List ZB) (h : Xm xs) (u : Ya) (hu : ByteArray.size u.1 ≤ 1048576) : NA big xs u = some (ZcI xs u) := by
 rw [Zhz, Vr _ h.len, Option.bind_some, II xs h, Option.bind_some];unfold ZcI;cases ho : okB xs with
 | false => rfl
 | true =>
  simp only [Bool.not_true, cond_false, cond_true];rw [Zcz _ hu, Option.bind_some];cases Lh u.1 with
  | false => rfl
  | true =>
   simp only [Bool.not_true, cond_false, cond_true];rw [Znz, Option.bind_some];cases Nu u.2.2.1 with
   | false => rfl
   | true =>
    simp only [Bool.not_true, cond_false, cond_true];rw [ZgB xs h (JJ ho).1, ZtG xs h.len];cases u.2.1 <;> rfl
theorem NZ (xs : List ZB) (hl : xs.length ≤ 16777216) (k : ByteArray) (hd : Bool) (m : Int) : ∀ (n i : Nat) (acc : List ZB), xs.length < n + i → i ≤ xs.length → acc.length ≤ i → Uu n xs acc (i : Int) k hd m = some (acc ++ (xs.drop i).filter (CB k))
 | 0, i, acc, h1, h2, h3 => by omega
 | n + 1, i, acc, h1, h2, h3 => by
  rcases Nat.lt_or_ge i xs.length with hi | hi
  ·rw [UX, decide_eq_true (by omega), cond_true, mk4 (Z2 hi), mk4 (Z2 hi), if_pos (by unfold lim; simp only [List.length_singleton]; omega), Ym (by omega), List.drop_eq_getElem_cons hi, List.filter_cons]
   show (bif CB k xs[i] then _ else _) = _;cases CB k xs[i] with
   | true =>
    rw [cond_true, NZ xs hl k hd m n (i + 1) _ (by omega) (by omega) (by simp; omega)];simp
   | false =>
    rw [cond_false, NZ xs hl k hd m n (i + 1) _ (by omega) (by omega) (by omega)];simp
  ·have e : i = xs.length := by omega
   subst e;rw [UX, decide_eq_false (by omega), cond_false, List.drop_length];simp
theorem Zp9 (xs : List ZB) (h : Xm xs) (u : Ya) (hu : ByteArray.size u.1 ≤ 1048576) : Gd big xs u = some (ZcI xs u) := by
 have hl := h.len;rw [LY, ZcB xs h, Option.bind_some, if_pos (by unfold lim; omega)];unfold ZcI;cases ho : okB xs with
 | false => rfl
 | true =>
  simp only [Bool.not_true, cond_false, cond_true];rw [ZcA _ hu, Option.bind_some];cases Lh u.1 with
  | false => rfl
  | true =>
   simp only [Bool.not_true, cond_false, cond_true];rw [BT, Option.bind_some];show (bif !Nu u.2.2.1 then _ else _) = _;cases Nu u.2.2.1 with
   | false => rfl
   | true =>
    simp only [Bool.not_true, cond_false, cond_true];have e1 : Xo big xs (u.1, u.2.2) = some (J4 u.1 u.2.2.1 xs) := Zoy xs hl (JJ ho).1 u.1 u.2.2.1;have e2 := NZ xs hl u.1 u.2.1 u.2.2.1 big 0 [] (by unfold big; omega) (by omega) (by simp);rw [Int.natCast_zero, List.drop_zero, List.nil_append] at e2;rw [e1, e2];cases u.2.1 <;> rfl
def ZcJ (xs : List ZB) (us : List Ya) : List ZB := us.foldr (fun u x => ZcI x u) xs
theorem Zvf {us : List Ya} (hu : ∀ u ∈ us, ByteArray.size u.1 ≤ 1048576) {xs : List ZB} (h : Xm xs) : Xm (ZcJ xs us) := by
 induction us with
 | nil => exact h
 | cons u us ih => exact ZnB (ih (fun v hv => hu v (by simp [hv]))) (hu u (by simp))
theorem Zl0 (us : List Ya) (hl : us.length ≤ 16777216) (hu : ∀ u ∈ us, ByteArray.size u.1 ≤ 1048576) : ∀ (n i : Nat) (xs : List ZB), i < n → i ≤ us.length → Xm xs → UW n us xs ((i : Int) - 1) = some (ZcJ xs (us.take i))
 | 0, i, xs, h1, _, _ => by omega
 | n + 1, 0, xs, h1, h2, h => by
  rw [AR, decide_eq_false (by omega), cond_false];rfl
 | n + 1, i + 1, xs, h1, h2, h => by
  have hi : i < us.length := by omega
  have hm := hu _ (List.getElem_mem hi);rw [show ((i + 1 : Nat) : Int) - 1 = (i : Int) by omega, AR, decide_eq_true (by omega), cond_true, mk4 (Z2 hi), Zp8 xs h _ hm, Option.bind_some, ZD (n := (i : Int) - 1) (by omega) (by omega),
   Zl0 us hl hu n i _ (by omega) (by omega) (ZnB h hm), List.take_succ_eq_append_getElem hi]
  unfold ZcJ;rw [List.foldr_append];rfl
theorem Zl1 (us : List Ya) (hl : us.length ≤ 16777216) (hu : ∀ u ∈ us, ByteArray.size u.1 ≤ 1048576) : ∀ (n i : Nat) (xs : List ZB), i < n → i ≤ us.length → Xm xs → Vl n us xs ((i : Int) - 1) = some (ZcJ xs (us.take i))
 | 0, i, xs, h1, _, _ => by omega
 | n + 1, 0, xs, h1, h2, h => by
  rw [W6, decide_eq_false (by omega), cond_false];rfl
 | n + 1, i + 1, xs, h1, h2, h => by
  have hi : i < us.length := by omega
  have hm := hu _ (List.getElem_mem hi);rw [show ((i + 1 : Nat) : Int) - 1 = (i : Int) by omega, W6, decide_eq_true (by omega), cond_true, mk4 (Z2 hi), Zp9 xs h _ hm, Option.bind_some, ZD (n := (i : Int) - 1) (by omega) (by omega),
   Zl1 us hl hu n i _ (by omega) (by omega) (ZnB h hm), List.take_succ_eq_append_getElem hi]
  unfold ZcJ;rw [List.foldr_append];rfl
theorem ZiW (xs : List ZB) (h : Xm xs) (us : List Ya) (hl : us.length ≤ 16777216) (hu : ∀ u ∈ us, ByteArray.size u.1 ≤ 1048576) : C3 big xs us = some (ZcJ xs us) := by
 have := Zl0 us hl hu big us.length xs (by unfold big; omega) (Nat.le_refl _) h;rw [List.take_length] at this;rw [Rs, Vr _ h.len, Option.bind_some, ZD (by omega) (by omega)];exact this
theorem M2 (xs : List ZB) (h : Xm xs) (us : List Ya) (hl : us.length ≤ 16777216) (hu : ∀ u ∈ us, ByteArray.size u.1 ≤ 1048576) : X6 big xs us = some (ZcJ xs us) := by
 have hl2 := h.len;have := Zl1 us hl hu big us.length xs (by unfold big; omega) (Nat.le_refl _) h;rw [List.take_length] at this;rw [DR, if_pos (by unfold lim; omega), ZD (by omega) (by omega)];exact this
theorem M3 {k : ByteArray} {n : Int} : ∀ {l : List ZB} {p : Option ByteArray}, frm p l = true → (∀ m, Cg k l = some m → J4 k m (J4 k n l) = l ∧ J4 k m l = l) ∧ (Cg k l = none → (J4 k n l).filter (CB k) = l ∧ l.filter (CB k) = l)
 | [], p, _ => ⟨fun m h => (by cases h), fun _ => ⟨by simp [J4, CB], rfl⟩⟩
 | y :: l, p, h => by
  obtain ⟨_, _, _, h4⟩ := AK h;obtain ⟨i1, i2⟩ := M3 (k := k) (n := n) h4
  by_cases hy : y.1 = k
  ·have hk : kl y.1 k = false := by rw [hy]; exact ED k
   refine ⟨fun m hm => ?_, fun hm => ?_⟩
   ·simp only [Cg, decide_eq_true hy, cond_true, Option.some.injEq] at hm
    subst hm;have e : (k, y.2.1, ()) = y := by obtain ⟨a, b, ⟨⟩⟩ := y; exact congrArg (fun z => (z, b, ())) hy.symm
    simp only [J4, hk, cond_false, decide_eq_true hy, cond_true, ED, decide_true, e];exact ⟨trivial, trivial⟩
   ·simp only [Cg, decide_eq_true hy, cond_true] at hm
    cases hm
  ·have hn : Cg k (y :: l) = Cg k l := by simp only [Cg, decide_eq_false hy, cond_false]
   rw [hn];cases hlt : kl y.1 k with
   | true =>
    have e1 : ∀ m, ∀ l' : List ZB, J4 k m (y :: l') = y :: J4 k m l' := fun m l' => by simp only [J4, hlt, cond_true]
    have e2 : CB k y = true := by simp only [CB, decide_eq_false hy, Bool.not_false]
    refine ⟨fun m hm => ?_, fun hm => ?_⟩
    ·rw [e1, e1, e1, (i1 m hm).1, (i1 m hm).2]; exact ⟨rfl, rfl⟩
    ·rw [e1, List.filter_cons_of_pos e2, List.filter_cons_of_pos e2, (i2 hm).1, (i2 hm).2]; exact ⟨rfl, rfl⟩
   | false =>
    have hky : kl k y.1 = true := Zom hlt hy;have gt := Zfu h4;have no : ∀ z ∈ y :: l, z.1 ≠ k := fun z hz => by
     rcases List.mem_cons.1 hz with rfl | hz
     ·exact hy
     ·exact fun e => ZtC (Lg hky (gt z hz)) e.symm
    have nn : Cg k l = none := by
     rcases FQ k l 0 with ⟨_, _, h3, _⟩ | ⟨i, z, _, h2, h3, _⟩
     ·exact h3
     ·exact absurd h3 (no z (List.mem_cons_of_mem _ (by
       have := AF h2;rw [Z2 this] at h2;cases h2;exact List.getElem_mem this)))
    have keep : (y :: l).filter (CB k) = y :: l := List.filter_eq_self.2 fun z hz => by simp only [CB, decide_eq_false (no z hz), Bool.not_false]
    refine ⟨fun m hm => (by rw [nn] at hm; cases hm), fun _ => ⟨?_, keep⟩⟩;have : J4 k n (y :: l) = (k, n, ()) :: y :: l := by simp only [J4, hlt, cond_false, decide_eq_false hy]
    rw [this, List.filter_cons_of_neg (by simp [CB]), keep]
theorem Zl2 {k : ByteArray} : ∀ {l : List ZB} {p : Option ByteArray} {m : Int}, frm p l = true → Cg k l = some m → Nu m = true
 | [], _, _, _, h => by cases h
 | y :: l, p, m, h, hm => by
  obtain ⟨_, h2, _, h4⟩ := AK h
  by_cases hy : y.1 = k
  ·simp only [Cg, decide_eq_true hy, cond_true, Option.some.injEq] at hm
   rw [← hm]; exact h2
  ·simp only [Cg, decide_eq_false hy, cond_false] at hm
   exact Zl2 h4 hm
theorem ZwO {l : List ZB} (h : okB l = true) : frm none l = true := by
 unfold okB at h;cases hc : decide ((l.length : Int) ≤ 12) with
 | false => rw [hc] at h; cases h
 | true => rw [hc] at h; exact h
theorem ZtH {l : List ZB} (h : okB l = true) (c : Y3) : ZcI (Ek l c).1 (M1 l c.2.1) = l ∧ okB (Ek l c).1 = true := by
 have hf := ZwO h
 -- the cells afterwards: the same, or one put
 have cases2 : ((Ek l c).1 = l) ∨ (∃ n, (Ek l c).1 = J4 c.2.1 n l ∧ okB (J4 c.2.1 n l) = true ∧ Lh c.2.1 = true) := by
  unfold Ek;rw [h, cond_true];cases hcm : Zqs c with
  | false => exact .inl rfl
  | true =>
   have hkey : Lh c.2.1 = true := by
    unfold Zqs at hcm;cases h1 : (bif decide ((1 : Int) ≤ c.1) then decide (c.1 ≤ 3) else false) with
    | false => rw [h1] at hcm; cases hcm
    | true =>
     rw [h1, cond_true] at hcm;cases h2 : Lh c.2.1 with
     | false => rw [h2] at hcm; cases hcm
     | true => rfl
   rw [cond_true];cases Zxp l c with
   | none => exact .inl rfl
   | some n =>
    dsimp only;cases hp : okB (J4 c.2.1 n l) with
    | false => exact .inl rfl
    | true => exact .inr ⟨n, rfl, hp, hkey⟩
 have un : ∀ x : List ZB, okB x = true → (x = l ∨ ∃ n, x = J4 c.2.1 n l ∧ Lh c.2.1 = true) → ZcI x (M1 l c.2.1) = l := fun x hx hc => by
  unfold ZcI M1;rw [hx, cond_true];cases hm : Cg c.2.1 l with
  | none =>
   dsimp only;have fl : (bif Lh c.2.1 then (bif Nu 0 then (bif false then J4 c.2.1 0 x else x.filter (CB c.2.1)) else x) else x) = l := by
    cases hk : Lh c.2.1 with
    | true =>
     rw [cond_true, show Nu 0 = true from by decide, cond_true, cond_false];rcases hc with rfl | ⟨n, rfl, _⟩
     ·exact ((M3 (n := 0) hf).2 hm).2
     ·exact ((M3 (n := n) hf).2 hm).1
    | false =>
     rw [cond_false];rcases hc with rfl | ⟨n, rfl, hk2⟩
     ·rfl
     ·rw [hk] at hk2; cases hk2
   exact fl
  | some m =>
   dsimp only;have hn := Zl2 hf hm;have fl : (bif Lh c.2.1 then (bif Nu m then (bif true then J4 c.2.1 m x else x.filter (CB c.2.1)) else x) else x) = l := by
    cases hk : Lh c.2.1 with
    | true =>
     rw [cond_true, hn, cond_true, cond_true];rcases hc with rfl | ⟨n, rfl, _⟩
     ·exact ((M3 (n := 0) hf).1 m hm).2
     ·exact ((M3 (n := n) hf).1 m hm).1
    | false =>
     rw [cond_false];rcases hc with rfl | ⟨n, rfl, hk2⟩
     ·rfl
     ·rw [hk] at hk2; cases hk2
   exact fl
 rcases cases2 with e | ⟨n, e, ho, hk⟩
 ·rw [e]; exact ⟨un l h (.inl rfl), h⟩
 ·rw [e]; exact ⟨un _ ho (.inr ⟨n, rfl, hk⟩), ho⟩
theorem ZiX : ∀ (cs : List Y3) {l : List ZB}, okB l = true → ZcJ (UC l cs) (CA l cs) = l ∧ okB (UC l cs) = true
 | [], l, h => ⟨rfl, h⟩
 | c :: cs, l, h => by
  obtain ⟨h1, h2⟩ := ZtH h c;obtain ⟨i1, i2⟩ := ZiX cs h2;refine ⟨?_, i2⟩;show ZcI (ZcJ (UC (Ek l c).1 cs) (CA (Ek l c).1 cs)) (M1 l c.2.1) = l;rw [i1]; exact h1
def Zc4 (t : List Zm) (k : Int) : List Y3 :=
 bif (bif decide ((0 : Int) ≤ k) then decide (k ≤ (t.length : Int) - 1) else false) then (match nth t (Int.toNat k) with | some b => b.2.2.1 | none => []) else []
def CC (t : List Zm) (row : List Int) : List Y3 := row.flatMap (Zc4 t)
structure N0 (t : List Zm) : Prop where
 len : t.length ≤ 16777216
 cmds : ∀ y ∈ t, List.length y.2.2.1 ≤ 1048576
 key : ∀ y ∈ t, ∀ c ∈ y.2.2.1, ByteArray.size c.2.1 ≤ 1048576
theorem Zr2 {t : List Zm} {k : Int} (h : (bif decide ((0 : Int) ≤ k) then decide (k ≤ (t.length : Int) - 1) else false) = true) : 0 ≤ k ∧ ∃ b, nth t (Int.toNat k) = some b ∧ b ∈ t ∧ Zc4 t k = b.2.2.1 := by
 by_cases h0 : 0 ≤ k
 ·rw [decide_eq_true h0, cond_true, decide_eq_true_eq] at h
  have hi : Int.toNat k < t.length := by omega
  refine ⟨h0, t[Int.toNat k], Z2 hi, List.getElem_mem hi, ?_⟩;unfold Zc4;rw [decide_eq_true h0, decide_eq_true h, Z2 hi]; rfl
 ·rw [decide_eq_false h0] at h; cases h
theorem ZnC {t : List Zm} {k : Int} (h : (bif decide ((0 : Int) ≤ k) then decide (k ≤ (t.length : Int) - 1) else false) = false) : Zc4 t k = [] := by
 unfold Zc4;rw [h]; rfl
theorem ZwP {t : List Zm} (h : N0 t) (k : Int) : (Zc4 t k).length ≤ 1048576 ∧ ∀ c ∈ Zc4 t k, ByteArray.size c.2.1 ≤ 1048576 := by
 cases hb : (bif decide ((0 : Int) ≤ k) then decide (k ≤ (t.length : Int) - 1) else false) with
 | true =>
  obtain ⟨_, b, _, h2, h3⟩ := Zr2 hb;rw [h3];exact ⟨h.cmds b h2, h.key b h2⟩
 | false => rw [ZnC hb]; exact ⟨by simp, by simp⟩
theorem Zr3 {t : List Zm} (h : N0 t) : ∀ row : List Int, (CC t row).length ≤ row.length * 1048576 ∧ ∀ c ∈ CC t row, ByteArray.size c.2.1 ≤ 1048576
 | [] => ⟨by simp [CC], by simp [CC]⟩
 | k :: row => by
  obtain ⟨h1, h2⟩ := Zr3 h row;obtain ⟨h3, h4⟩ := ZwP h k;have e : CC t (k :: row) = Zc4 t k ++ CC t row := rfl;rw [e];refine ⟨by rw [List.length_append, List.length_cons, Nat.succ_mul, Nat.add_comm]; exact Nat.add_le_add h1 h3, fun c hc => ?_⟩;rcases List.mem_append.1 hc with q | q
  ·exact h4 c q
  ·exact h2 c q
theorem FR (t : List Zm) (h : N0 t) (row : List Int) (hr : row.length ≤ 1048576) : ∀ (n i : Nat) (acc : List Y3), row.length < n + i → i ≤ row.length → acc.length ≤ i * 1048576 →
  Kx n t acc row (row.length : Int) (i : Int) = some (acc ++ CC t (row.drop i))
 | 0, i, acc, h1, h2, h3 => by omega
 | n + 1, i, acc, h1, h2, h3 => by
  have ht := h.len;rcases Nat.lt_or_ge i row.length with hi | hi
  ·rw [E2, decide_eq_true (by omega), cond_true, mk4 (Z2 hi), ZvX, ZD (n := (List.length t : Int) - 1) (by omega) (by omega), Option.bind_some, Ym (by omega)]
   have e : CC t (row.drop i) = Zc4 t row[i] ++ CC t (row.drop (i + 1)) := by rw [List.drop_eq_getElem_cons hi]; rfl
   rw [e];cases hb : (bif decide ((0 : Int) ≤ row[i]) then decide (row[i] ≤ (t.length : Int) - 1) else false) with
   | true =>
    obtain ⟨q0, b, q1, q2, q3⟩ := Zr2 hb;have hl := h.cmds b q2;have hm : acc.length + List.length b.2.2.1 ≤ (i + 1) * 1048576 := by rw [Nat.succ_mul]; exact Nat.add_le_add h3 hl
    have hm2 : (i + 1) * 1048576 ≤ ZsR := Nat.le_trans (Nat.mul_le_mul_right _ (show i + 1 ≤ 1048576 by omega)) (by decide);rw [cond_true, if_pos q0, q1, Option.bind_some, if_pos (Nat.le_trans hm hm2)];have := FR t h row hr n (i + 1) (acc ++ b.2.2.1) (by omega) (by omega) (by rw [List.length_append]; exact hm);refine Eq.trans this ?_;rw [q3, List.append_assoc]
   | false =>
    rw [cond_false, FR t h row hr n (i + 1) acc (by omega) (by omega) (Nat.le_trans h3 (Nat.mul_le_mul_right _ (Nat.le_succ i))), ZnC hb];rfl
  ·have e : i = row.length := by omega
   subst e;rw [E2, decide_eq_false (by omega), cond_false, List.drop_length];simp [CC]
theorem ZoE (t : List Zm) (h : N0 t) (row : List Int) (hr : row.length ≤ 1048576) : Gg big t row = some (CC t row) := by
 have := FR t h row hr big 0 [] (by unfold big; omega) (by omega) (by simp);rw [Int.natCast_zero, List.drop_zero, List.nil_append] at this;rw [ZhI];exact this
theorem BH (xs : List ZB) (a b : List Y3) : UC xs (a ++ b) = UC (UC xs a) b := List.foldl_append ..
theorem Zyb : Xm [] := ⟨by simp, by simp⟩
def inB (x a b : Int) : Bool := bif decide (a ≤ x) then decide (x ≤ b) else false
theorem DG {x a b : Int} : inB x a b = true ↔ a ≤ x ∧ x ≤ b := by
 unfold inB
 by_cases h : a ≤ x
 ·rw [decide_eq_true h]; simp [h]
 ·rw [decide_eq_false h]; simp [h]
def P8 (t : List Zm) : Nat → Int → Option (List Int)
 | 0, k => bif decide (0 < k) then none else some []
 | f + 1, k => bif decide (0 < k) then (match nth t (Int.toNat k) with
  | none => none
  | some b => bif inB b.1 0 (k - 1) then (match P8 t f b.1 with | none => none | some l => some (b.1 :: l)) else none) else some []
def ZoF (t : List Zm) (k : Int) : Option (List Int) := bif inB k 0 ((t.length : Int) - 1) then P8 t t.length k else none
theorem Zl3 (t : List Zm) (ht : t.length ≤ 1048576) : ∀ (f n : Nat) (k : Int) (acc : List Int), 0 ≤ k → k ≤ f → k < t.length → f < n → acc.length + f ≤ 16777216 →
  Ji n t k acc = some (match P8 t f k with | none => ([], false, ()) | some l => (acc ++ l, true, ()))
 | f, 0, k, acc, _, _, _, h4, _ => by omega
 | 0, n + 1, k, acc, h1, h2, h3, h4, h5 => by
  have e : k = 0 := by omega
  subst e;rw [DS];simp [P8]
 | f + 1, n + 1, k, acc, h1, h2, h3, h4, h5 => by
  rw [DS];simp only [P8]
  by_cases hk : 0 < k
  ·have hi : Int.toNat k < t.length := by omega
   rw [decide_eq_true hk, cond_true, cond_true, if_pos h1, Z2 hi, Option.bind_some, ZvX, ZD (n := k - 1) (by omega) (by omega), Option.bind_some];rw [show (bif decide ((0 : Int) ≤ t[Int.toNat k].1) then decide (t[Int.toNat k].1 ≤ k - 1) else false) = inB t[Int.toNat k].1 0 (k - 1) from rfl];dsimp only;cases hb : inB t[Int.toNat k].1 0 (k - 1) with
   | false => rfl
   | true =>
    obtain ⟨q1, q2⟩ := DG.1 hb;simp only [Bool.not_true, cond_false, cond_true];rw [if_pos h1, Option.bind_some, if_pos (by unfold lim; simp only [List.length_singleton]; omega)];refine (Zl3 t ht f n _ _ q1 (by omega) (by omega) (by omega) (by rw [show ∀ a b : List Int, List.append a b = a ++ b from fun _ _ => rfl, List.length_append, List.length_singleton]; omega)).trans ?_;cases P8 t f t[Int.toNat k].1 with
    | none => rfl
    | some l =>
     simp only [show ∀ a b : List Int, List.append a b = a ++ b from fun _ _ => rfl, List.append_assoc];rfl
  ·rw [decide_eq_false hk]
   simp
theorem Zl4 (t : List Zm) (ht : t.length ≤ 1048576) (k : Int) : C6 big t k = some (match ZoF t k with | none => ([], false, ()) | some l => (k :: l, true, ())) := by
 rw [Zdx, ZvX, ZD (n := (List.length t : Int) - 1) (by omega) (by omega), Option.bind_some];unfold ZoF;show (bif !inB k 0 ((t.length : Int) - 1) then _ else _) = _;cases hb : inB k 0 ((t.length : Int) - 1) with
 | false => rfl
 | true =>
  obtain ⟨q1, q2⟩ := DG.1 hb;simp only [Bool.not_true, cond_false, cond_true];exact Zl3 t ht t.length big k [k] q1 (by omega) (by omega) (by unfold big; omega) (by simp; omega)
theorem ZcK (t : List Zm) (ht : t.length ≤ 1048576) : ∀ (f n : Nat) (k h : Int), 0 ≤ k → k ≤ f → k < t.length → f < n → 0 ≤ h → h + f ≤ 16777216 →
  VU n t k h = some (match P8 t f k with | none => -1 | some l => h + l.length)
 | f, 0, k, h, _, _, _, h4, _, _ => by omega
 | 0, n + 1, k, h, h1, h2, h3, h4, h5, h6 => by
  have e : k = 0 := by omega
  subst e;rw [XR];simp only [P8, decide_true, Bool.not_true, cond_false, Int.lt_irrefl, decide_false];rw [decide_eq_false (by omega)];simp
 | f + 1, n + 1, k, h, h1, h2, h3, h4, h5, h6 => by
  rw [XR];simp only [P8]
  by_cases hk : 0 < k
  ·have hi : Int.toNat k < t.length := by omega
   rw [decide_eq_false (show ¬ k = 0 by omega), decide_eq_true hk, Bool.not_false, cond_true, cond_true, BT, ZD (n := (List.length t : Int) - 1) (by omega) (by omega), Option.bind_some,
    decide_eq_true h1, cond_true, decide_eq_true (show k ≤ (t.length : Int) - 1 by omega), Bool.not_true, cond_false, if_pos h1, Z2 hi, Option.bind_some, BT, ZD (n := k - 1) (by omega) (by omega), Option.bind_some]
   rw [show (bif decide ((0 : Int) ≤ t[Int.toNat k].1) then decide (t[Int.toNat k].1 ≤ k - 1) else false) = inB t[Int.toNat k].1 0 (k - 1) from rfl];dsimp only;cases hb : inB t[Int.toNat k].1 0 (k - 1) with
   | false => rfl
   | true =>
    obtain ⟨q1, q2⟩ := DG.1 hb;simp only [Bool.not_true, cond_false, cond_true];rw [if_pos h1, Option.bind_some, ZD (n := h + 1) (by omega) (by omega)];refine (ZcK t ht f n _ _ q1 (by omega) (by omega) (by omega) (by omega) (by omega)).trans ?_;cases P8 t f t[Int.toNat k].1 with
    | none => rfl
    | some l => simp only [List.length_cons]; congr 1; omega
  ·have e : k = 0 := by omega
   subst e;simp only [decide_true, Bool.not_true, cond_false, Int.lt_irrefl, decide_false];rw [decide_eq_false (by omega)];simp
theorem ZgF (t : List Zm) (ht : t.length ≤ 1048576) (k : Int) : Uv big t k = some (match ZoF t k with | none => -1 | some l => (l.length : Int)) := by
 rw [E7];unfold ZoF;cases hb : inB k 0 ((t.length : Int) - 1) with
 | true =>
  obtain ⟨q1, q2⟩ := DG.1 hb;rw [cond_true, ZcK t ht t.length big k 0 q1 (by omega) (by omega) (by unfold big; omega) (by omega) (by omega)];cases P8 t t.length k <;> simp
 | false =>
  rw [cond_false, show big = (big - 1) + 1 from by decide, XR]
  by_cases e : k = 0
  ·subst e
   have hl : t.length = 0 := by
    cases ht0 : t.length with
    | zero => rfl
    | succ m => rw [DG.2 ⟨by omega, by rw [ht0]; omega⟩] at hb; cases hb
   rw [decide_eq_true rfl, decide_eq_true (show (List.length t : Int) = 0 by omega)];rfl
  ·rw [decide_eq_false e, Bool.not_false, cond_true, BT, ZD (n := (List.length t : Int) - 1) (by omega) (by omega), Option.bind_some]
   show (bif !inB k 0 ((t.length : Int) - 1) then _ else _) = _;rw [hb];rfl
theorem ZoG {t : List Zm} : ∀ {f : Nat} {k : Int} {l : List Int}, P8 t f k = some l → 0 ≤ k → (k :: l).Pairwise (fun a b => b < a) ∧ (∀ y ∈ l, 0 ≤ y ∧ y < k) ∧ ∃ m, k :: l = m ++ [0] ∧ ∀ y ∈ m, 0 < y ∧ y ≤ k
 | 0, k, l, h, h0 => by
  simp only [P8] at h
  by_cases hk : 0 < k
  ·rw [decide_eq_true hk] at h; cases h
  ·rw [decide_eq_false hk] at h; cases h
   have e : k = 0 := by omega
   subst e;exact ⟨by simp, by simp, [], rfl, by simp⟩
 | f + 1, k, l, h, h0 => by
  simp only [P8] at h
  by_cases hk : 0 < k
  ·rw [decide_eq_true hk, cond_true] at h
   split at h
   ·cases h
   ·rename_i b _
    cases hb : inB b.1 0 (k - 1) with
    | false => rw [hb] at h; cases h
    | true =>
     rw [hb, cond_true] at h;obtain ⟨q1, q2⟩ := DG.1 hb
     split at h
     ·cases h
     ·rename_i l' hl
      cases h;obtain ⟨i1, i2, m, i3, i4⟩ := ZoG hl q1;refine ⟨List.pairwise_cons.2 ⟨fun y hy => ?_, i1⟩, fun y hy => ?_, k :: m, by rw [i3]; rfl, fun y hy => ?_⟩
      ·rcases List.mem_cons.1 hy with e | hy
       ·subst e; omega
       ·have := i2 y hy; omega
      ·rcases List.mem_cons.1 hy with e | hy
       ·subst e; omega
       ·have := i2 y hy; omega
      ·rcases List.mem_cons.1 hy with e | hy
       ·subst e; omega
       ·have := i4 y hy; omega
  ·rw [decide_eq_false hk] at h; cases h
   have e : k = 0 := by omega
   subst e;exact ⟨by simp, by simp, [], rfl, by simp⟩
theorem Zr4 (xs : List Int) (u : Int) (hl : xs.length ≤ 16777216) : Jk big xs u = some (Nb (fun y => decide (u = y)) xs 0) := by
 rw [Rv];have := ZcC (xs := xs) (p := fun y => decide (u = y)) (r := fun n i => U8 n xs u (xs.length : Int) i) (fun n i hi => by
  rw [AX, decide_eq_true (by omega), cond_true, mk4 (Z2 hi), Ym (by omega)]) (fun n => by
  rw [AX, decide_eq_false (Int.lt_irrefl _)]
  rfl) big 0 (by unfold big; omega) (by omega)
 rw [Int.natCast_zero, List.drop_zero] at this;exact this
theorem Zr5 {t : List Zm} : ∀ {f : Nat} {k : Int} {l : List Int}, P8 t f k = some l → l.length ≤ f
 | 0, k, l, h => by
  simp only [P8] at h;cases hk : decide (0 < k) <;> rw [hk] at h <;> cases h;simp
 | f + 1, k, l, h => by
  simp only [P8] at h;cases hk : decide (0 < k) with
  | false => rw [hk] at h; cases h; simp
  | true =>
   rw [hk, cond_true] at h
   split at h
   ·cases h
   ·rename_i b _
    cases hb : inB b.1 0 (k - 1) with
    | false => rw [hb] at h; cases h
    | true =>
     rw [hb, cond_true] at h
     split at h
     ·cases h
     ·rename_i l' hl
      cases h;have := Zr5 hl;simp only [List.length_cons]; omega
theorem FS {t : List Zm} {k : Int} {l : List Int} (h : ZoF t k = some l) : 0 ≤ k ∧ k < t.length ∧ P8 t t.length k = some l ∧ l.length ≤ t.length := by
 unfold ZoF at h;cases hb : inB k 0 ((t.length : Int) - 1) with
 | false => rw [hb] at h; cases h
 | true =>
  rw [hb, cond_true] at h;obtain ⟨q1, q2⟩ := DG.1 hb;exact ⟨q1, by omega, h, Zr5 h⟩
def R5 (t : List Zm) (k u : Int) : Bool := match ZoF t k with | none => false | some l => (k :: l).any fun y => decide (u = y)
theorem ZcL (t : List Zm) (ht : t.length ≤ 1048576) (k u : Int) : C8 big t k u = some (R5 t k u) := by
 rw [Zdz, Zl4 t ht k];unfold R5;cases hw : ZoF t k with
 | none => rfl
 | some l =>
  have := (FS hw).2.2.2;simp only [Option.bind_some, cond_true];rw [Ig, Zr4 _ _ (by simp only [List.length_cons]; omega)];simp only [Option.bind_some];rw [Zoj (by decide)]
theorem ZoH (t : List Zm) (u : Int) : ∀ (f n : Nat) (k : Int) (l : List Int), P8 t f k = some l → 0 ≤ k → k ≤ f → k < t.length → f < n → Qa n t k u = some ((k :: l).any fun y => decide (u = y))
 | f, 0, k, l, _, _, _, _, h => by omega
 | f, n + 1, k, l, hw, h1, h2, h3, h4 => by
  rw [KL]
  by_cases hk : 0 < k
  ·rw [decide_eq_true hk, cond_true]
   by_cases e : k = u
   ·subst e
    simp
   ·rw [decide_eq_false e, Bool.not_false, cond_true, if_pos h1]
    cases f with
    | zero => omega
    | succ f =>
     simp only [P8] at hw;rw [decide_eq_true hk, cond_true] at hw
     split at hw
     ·cases hw
     ·rename_i b hb0
      rw [hb0, Option.bind_some];cases hb : inB b.1 0 (k - 1) with
      | false => rw [hb] at hw; cases hw
      | true =>
       rw [hb, cond_true] at hw;obtain ⟨q1, q2⟩ := DG.1 hb
       split at hw
       ·cases hw
       ·rename_i l' hl
        cases hw;rw [ZoH t u f n b.1 l' hl q1 (by omega) (by omega) (by omega), List.any_cons (a := k), decide_eq_false (Ne.symm e), Bool.false_or]
  ·have e : k = 0 := by omega
   subst e;have hl : l = [] := by
    cases f with
    | zero => simpa [P8] using hw
    | succ f => simpa [P8] using hw
   subst hl;simp [eq_comm]
theorem IJ (t : List Zm) (ht : t.length ≤ 1048576) (k u : Int) : WH big t k u = some (R5 t k u) := by
 rw [G3, ZgF t ht k];unfold R5;cases hw : ZoF t k with
 | none => rfl
 | some l =>
  obtain ⟨w1, w2, w3, w4⟩ := FS hw;simp only [Option.bind_some];rw [decide_eq_false (by omega), cond_false];exact ZoH t u t.length big k l w3 w1 (by omega) w2 (by unfold big; omega)
theorem ZoI (xs : List Int) (hl : xs.length ≤ 16777216) : ∀ (n i : Nat) (b : List Int), b.length = xs.length →
  (∀ m, m < xs.length → nth b m = nth xs (if m < i ∨ xs.length ≤ m + i then xs.length - 1 - m else m)) → i + i ≤ xs.length + 1 → xs.length < n + i →
  Vz n (i : Int) ((xs.length : Int) - 1 - i) b = some ((), xs.reverse, ())
 | 0, i, b, _, _, h3, h4 => by omega
 | n + 1, i, b, h1, h2, h3, h4 => by
  by_cases hij : i + i + 1 < xs.length
  ·obtain ⟨j, hj⟩ : ∃ j : Nat, j = xs.length - 1 - i := ⟨_, rfl⟩
   have e : (xs.length : Int) - 1 - i = (j : Int) := by omega
   have hib : i < b.length := by omega
   have hjb : j < b.length := by omega
   have hjb2 : j < (upd b i b[j]).length := by rw [ZY]; exact hjb
   have ih := ZoI xs hl n (i + 1) (upd (upd b i b[j]) j b[i]) (by rw [ZY, ZY, h1]) (fun m hm => ?_) (by omega) (by omega)
   ·rw [e, KU, decide_eq_true (show (i : Int) < (j : Int) by omega), cond_true]
    simp only [if_pos (show (0 : Int) ≤ (j : Int) by omega), if_pos (show (j : Int) < (b.length : Int) by omega), if_pos (show (0 : Int) ≤ (i : Int) by omega), if_pos (show (i : Int) < (b.length : Int) by omega), Int.toNat_natCast, Z2 hjb, Z2 hib, Option.bind_some, EC hib,
     if_pos (show (j : Int) < ((upd b i b[j]).length : Int) by omega), Z2 hjb2, EC hjb2]
    rw [Ym (by omega), ZD (n := (j : Int) - 1) (by omega) (by omega), show (j : Int) - 1 = (xs.length : Int) - 1 - ((i + 1 : Nat) : Int) by omega];exact ih
   ·by_cases ej : m = j
    ·subst ej
     rw [Yd (Z2 hjb2), if_pos (by omega), ← Z2 hib, h2 i (by omega), if_neg (by omega)];congr 1; omega
    ·rw [Z6 (Ne.symm ej)]
     by_cases ei : m = i
     ·subst ei
      rw [Yd (Z2 hib), if_pos (by omega), ← Z2 hjb, h2 j (by omega), if_neg (by omega), hj]
     ·rw [Z6 (Ne.symm ei), h2 m hm]
      by_cases hc : m < i ∨ xs.length ≤ m + i
      ·rw [if_pos hc, if_pos (by omega)]
      ·rw [if_neg hc, if_neg (by omega)]
  ·rw [KU, decide_eq_false (by omega), cond_false]
   have hb : b = xs.reverse := by
    apply List.ext_getElem?;intro m;rw [← AE]
    by_cases hm : m < xs.length
    ·rw [h2 m hm, List.getElem?_reverse hm, ← AE]
     split
     ·rfl
     ·congr 1; omega
    ·rw [Xy.2 (by omega), List.getElem?_eq_none (by rw [List.length_reverse]; omega)]
   rw [hb]
theorem Zr6 (xs : List Int) (hl : xs.length ≤ 16777216) : Ab big xs = some ((), xs.reverse, ()) := by
 have := ZoI xs hl big 0 xs rfl (fun m hm => by rw [if_neg (by omega)]) (by omega) (by unfold big; omega);rw [Int.natCast_zero, Int.sub_zero] at this;rw [L9, ZD (by omega) (by omega)];exact this
def ZcM (t : List Zm) (k : Int) : List Int := match ZoF t k with | none => [] | some l => (k :: l).dropLast.reverse
theorem Zr7 (t : List Zm) (ht : t.length ≤ 1048576) (k : Int) : TQ big t k = some (ZcM t k) := by
 rw [ZkE, Zl4 t ht k];unfold ZcM;cases hw : ZoF t k with
 | none => rfl
 | some l =>
  have := (FS hw).2.2.2;simp only [Option.bind_some, Bool.not_true, cond_false];rw [Zr6 _ (by simp only [List.length_cons]; omega)];simp only [Option.bind_some];rw [if_pos (by simp only [List.length_reverse, List.length_cons]; omega), List.take_of_length_le (by simp [List.length_drop])];rw [show Int.toNat 1 = 1 from rfl, List.drop_one, List.tail_reverse]
theorem Zr8 (t : List Zm) : ∀ (f n : Nat) (k : Int) (l acc : List Int), P8 t f k = some l → 0 ≤ k → k ≤ f → k < t.length → f < n → acc.length + f ≤ 16777216 → Ae n t k acc = some ((k :: l).dropLast.reverse ++ acc)
 | f, 0, k, l, acc, _, _, _, _, h, _ => by omega
 | f, n + 1, k, l, acc, hw, h1, h2, h3, h4, h5 => by
  rw [BO]
  by_cases hk : 0 < k
  ·rw [decide_eq_true hk, cond_true]
   cases f with
   | zero => omega
   | succ f =>
    rw [if_pos (by unfold lim; simp only [List.length_singleton]; omega), if_pos h1];simp only [P8] at hw;rw [decide_eq_true hk, cond_true] at hw
    split at hw
    ·cases hw
    ·rename_i b hb0
     rw [hb0, Option.bind_some];cases hb : inB b.1 0 (k - 1) with
     | false => rw [hb] at hw; cases hw
     | true =>
      rw [hb, cond_true] at hw;obtain ⟨q1, q2⟩ := DG.1 hb
      split at hw
      ·cases hw
      ·rename_i l' hl
       cases hw;rw [Zr8 t f n b.1 l' (k :: acc) hl q1 (by omega) (by omega) (by omega) (by simp only [List.length_cons]; omega)];simp [List.dropLast]
  ·have e : k = 0 := by omega
   subst e;have hl : l = [] := by
    cases f with
    | zero => simpa [P8] using hw
    | succ f => simpa [P8] using hw
   subst hl;simp
theorem Zr9 (t : List Zm) (ht : t.length ≤ 1048576) (k : Int) : Mc big t k = some (ZcM t k) := by
 rw [OQ, ZgF t ht k];unfold ZcM;cases hw : ZoF t k with
 | none => rfl
 | some l =>
  obtain ⟨w1, w2, w3, w4⟩ := FS hw;simp only [Option.bind_some];rw [decide_eq_false (by omega), cond_false, Zr8 t t.length big k l [] w3 w1 (by omega) w2 (by unfold big; omega) (by simp; omega), List.append_nil]
theorem DH (t : List Zm) (k : Int) : (ZcM t k).Pairwise (· < ·) ∧ (∀ y ∈ ZcM t k, 0 < y ∧ y < t.length) ∧ (ZcM t k).length ≤ t.length ∧ ∀ u, R5 t k u = true → u = 0 ∨ u ∈ ZcM t k := by
 unfold ZcM R5;cases hw : ZoF t k with
 | none => exact ⟨by simp, by simp, by simp, by simp⟩
 | some l =>
  obtain ⟨w1, w2, w3, w4⟩ := FS hw;obtain ⟨d1, _, m, d3, d4⟩ := ZoG w3 w1;dsimp only;have hm : (k :: l).dropLast = m := by rw [d3, List.dropLast_concat]
  rw [hm];refine ⟨?_, fun y hy => ?_, ?_, fun u hu => ?_⟩
  ·rw [List.pairwise_reverse]
   rw [d3] at d1;exact (List.pairwise_append.1 d1).1
  ·have := d4 y (List.mem_reverse.1 hy); omega
  ·have : (k :: l).length = m.length + 1 := by rw [d3]; simp
   simp only [List.length_cons] at this;rw [List.length_reverse]; omega
  ·obtain ⟨y, h1, h2⟩ := List.any_eq_true.1 hu
   rw [decide_eq_true_eq] at h2;subst h2;rw [d3] at h1;rcases List.mem_append.1 h1 with q | q
   ·exact .inr (List.mem_reverse.2 q)
   ·exact .inl (by simpa using q)
def WM (t : List Zm) (k u : Int) : List Int := bif R5 t k u then (ZcM t k).filter (fun y => decide (u < y)) else []
theorem ZoJ (u : Int) : ∀ {row : List Int} (j : Int), 0 ≤ j → row.Pairwise (· < ·) → u ∈ row → ∃ i : Nat, Nb (fun y => decide (u = y)) row j = j + i ∧ i < row.length ∧ row.drop (i + 1) = row.filter (fun y => decide (u < y))
 | [], j, _, _, h => by cases h
 | y :: row, j, h0, hp, h => by
  obtain ⟨p1, p2⟩ := List.pairwise_cons.1 hp
  by_cases e : u = y
  ·subst e
   refine ⟨0, by simp only [Nb, decide_true, cond_true]; omega, by simp, ?_⟩;rw [List.filter_cons, decide_eq_false (Int.lt_irrefl u)];simp only [Nat.zero_add, List.drop_succ_cons, List.drop_zero, Bool.false_eq_true, if_false];rw [List.filter_eq_self.2 (fun z hz => by rw [decide_eq_true (p1 z hz)])]
  ·have hm : u ∈ row := by
    rcases List.mem_cons.1 h with q | q
    ·exact absurd q e
    ·exact q
   obtain ⟨i, i1, i2, i3⟩ := ZoJ u (row := row) (j + 1) (by omega) p2 hm;have hlt := p1 u hm;refine ⟨i + 1, by simp only [Nb, decide_eq_false e, cond_false]; omega, by simp only [List.length_cons]; omega, ?_⟩;rw [List.filter_cons, decide_eq_false (by omega), List.drop_succ_cons, i3];simp
theorem Zup (u : Int) : ∀ {row : List Int} (j : Int), (∀ y ∈ row, u < y) → Nb (fun y => decide (u = y)) row j = -1
 | [], _, _ => rfl
 | y :: row, j, h => by
  have := h y (by simp);simp only [Nb, decide_eq_false (show ¬ u = y by omega), cond_false];exact Zup u (j + 1) (fun z hz => h z (by simp [hz]))
theorem P9 (t : List Zm) (ht : t.length ≤ 1048576) (k u : Int) : AY big t k u = some (WM t k u) := by
 obtain ⟨f1, f2, f3, f4⟩ := DH t k;rw [TT, ZcL t ht, Option.bind_some];unfold WM;cases he : R5 t k u with
 | false => rfl
 | true =>
  simp only [Bool.not_true, cond_false, cond_true];rw [Zr7 t ht, Option.bind_some, Zr4 _ _ (by omega), Option.bind_some];rcases f4 u he with e | hm
  ·subst e
   rw [Zup 0 0 (fun y hy => (f2 y hy).1), List.filter_eq_self.2 (fun z hz => by rw [decide_eq_true (f2 z hz).1])];rw [show K6.wrap (-1 + 1) = 0 from rfl, if_pos (by omega), if_pos (by omega)];simp
  ·obtain ⟨i, i1, i2, i3⟩ := ZoJ u 0 (by omega) f1 hm
   rw [i1, Int.zero_add, Ym (by omega), if_pos (by omega), if_pos (by omega), Int.toNat_natCast, i3, List.take_of_length_le (by rw [← i3, List.length_drop]; omega)]
theorem N1 (u : Int) (row : List Int) (hl : row.length ≤ 16777216) : ∀ (n i : Nat) (acc : List Int), row.length < n + i → i ≤ row.length → acc.length ≤ i → WT n u acc (i : Int) row = some (acc ++ (row.drop i).filter (fun y => decide (u < y)))
 | 0, i, acc, h1, h2, h3 => by omega
 | n + 1, i, acc, h1, h2, h3 => by
  rcases Nat.lt_or_ge i row.length with hi | hi
  ·rw [VA, decide_eq_true (by omega), cond_true]
   simp only [if_pos (show (0 : Int) ≤ (i : Int) by omega), if_pos (show (i : Int) < (row.length : Int) by omega), Int.toNat_natCast, Z2 hi, Option.bind_some];rw [if_pos (by unfold lim; simp only [List.length_singleton]; omega), Ym (by omega), List.drop_eq_getElem_cons hi, List.filter_cons];cases decide (u < row[i]) with
   | true =>
    rw [cond_true, N1 u row hl n (i + 1) _ (by omega) (by omega) (by simp; omega)];simp
   | false =>
    rw [cond_false, N1 u row hl n (i + 1) _ (by omega) (by omega) (by omega)];simp
  ·have e : i = row.length := by omega
   subst e;rw [VA, decide_eq_false (by omega), cond_false, List.drop_length];simp
theorem FT (t : List Zm) (ht : t.length ≤ 1048576) (k u : Int) : Wy big t k u = some (WM t k u) := by
 obtain ⟨f1, f2, f3, f4⟩ := DH t k;rw [E8, IJ t ht, Option.bind_some];unfold WM;cases he : R5 t k u with
 | false => rfl
 | true =>
  simp only [Bool.not_true, cond_false, cond_true];have := N1 u (ZcM t k) (by omega) big 0 [] (by unfold big; omega) (by omega) (by simp);rw [Int.natCast_zero, List.drop_zero, List.nil_append] at this;rw [Zr9 t ht, Option.bind_some];exact this
theorem Uj (t : List Zm) (k u : Int) : (WM t k u).Pairwise (· < ·) ∧ (∀ y ∈ WM t k u, 0 < y ∧ y < t.length) ∧ (WM t k u).length ≤ t.length := by
 obtain ⟨f1, f2, f3, _⟩ := DH t k;unfold WM;cases R5 t k u with
 | false => exact ⟨by simp, by simp, by simp⟩
 | true =>
  refine ⟨f1.sublist List.filter_sublist, fun y hy => f2 y (List.mem_filter.1 hy).1, Nat.le_trans (List.length_filter_le ..) f3⟩
def RT (t : List Zm) (i : Nat) : Nat := ((t.drop i).map fun b => List.length b.2.2.1).sum
theorem ZoK {t : List Zm} {i : Nat} (hi : i < t.length) : RT t i = List.length t[i].2.2.1 + RT t (i + 1) := by
 unfold RT;rw [List.drop_eq_getElem_cons hi, List.map_cons, List.sum_cons]
theorem ZgG (t : List Zm) : ∀ (d i : Nat), RT t (i + d) ≤ RT t i
 | 0, i => Nat.le_refl _
 | d + 1, i => by
  refine Nat.le_trans ?_ (ZgG t d i);rcases Nat.lt_or_ge (i + d) t.length with h | h
  ·rw [ZoK h]; exact Nat.le_add_left _ _
  ·unfold RT
   rw [List.drop_eq_nil_of_le (show t.length ≤ i + (d + 1) by omega)];simp
theorem Zl5 (t : List Zm) : ∀ (row : List Int) (i : Nat), row.Pairwise (· < ·) → (∀ y ∈ row, (i : Int) ≤ y ∧ y < t.length) → (CC t row).length ≤ RT t i
 | [], i, _, _ => by simp [CC]
 | r :: row, i, hp, hm => by
  obtain ⟨p1, p2⟩ := List.pairwise_cons.1 hp;obtain ⟨m1, m2⟩ := hm r (by simp);have hr : Int.toNat r < t.length := by omega
  have ih := Zl5 t row (Int.toNat r + 1) p2 (fun y hy => ⟨by have := p1 y hy; omega, (hm y (by simp [hy])).2⟩);have hc : Zc4 t r = t[Int.toNat r].2.2.1 := by
   unfold Zc4;rw [decide_eq_true (show (0 : Int) ≤ r by omega), cond_true, decide_eq_true (show r ≤ (t.length : Int) - 1 by omega), Z2 hr]; rfl
  have e : CC t (r :: row) = Zc4 t r ++ CC t row := rfl;rw [e, List.length_append, hc];have h1 := ZoK hr;have h2 := ZgG t (Int.toNat r - i) i;rw [show i + (Int.toNat r - i) = Int.toNat r by omega] at h2;omega
structure ZeW (p : Zj) : Prop where
 b : Zp5 p
 row : List.length p.2.2.2.2.2.1 ≤ 1048576
 cells : ∀ y ∈ p.2.2.2.2.2.2.1, ByteArray.size y.1 ≤ 1048576
 undos : ∀ y ∈ p.2.2.2.2.2.2.2.2.1, ByteArray.size y.1 ≤ 1048576
theorem ZeW.cB {p : Zj} (h : ZeW p) : Xm p.2.2.2.2.2.2.1 := ⟨h.b.cells, h.cells⟩
def ZeX (p : Zj) : List ZB := ZcJ p.2.2.2.2.2.2.1 p.2.2.2.2.2.2.2.2.1
theorem ZiY {p : Zj} (h : ZeW p) : Xm (ZeX p) := Zvf h.undos h.cB
def ZcN (p : Zj) : Zj := (p.1, p.2.1, p.2.2.1, p.2.2.2.1, p.2.2.2.2.1, p.2.2.2.2.2.1, ZeX p, [], [], p.2.2.2.2.2.2.2.2.2)
def Xn (p : Zj) : Int := match p.2.2.2.2.2.1.getLast? with | none => 0 | some k => k
theorem ZnD {xs : List Int} (h : 0 < xs.length) : xs.getLast? = some xs[xs.length - 1] := by
 rw [List.getLast?_eq_getElem?, List.getElem?_eq_getElem (by omega)]
theorem Zl6 (p : Zj) (h : List.length p.2.2.2.2.2.1 ≤ 16777216) : Ag big p = some (Xn p) := by
 rw [ZdE];unfold Xn
 by_cases h0 : p.2.2.2.2.2.1.length = 0
 ·rw [decide_eq_true (by omega), cond_true, List.length_eq_zero_iff.1 h0]; rfl
 ·have hi : p.2.2.2.2.2.1.length - 1 < p.2.2.2.2.2.1.length := by omega
  rw [decide_eq_false (by omega), cond_false, ZD (by omega) (by omega), if_pos (by omega), show ((List.length p.2.2.2.2.2.1 : Int) - 1).toNat = p.2.2.2.2.2.1.length - 1 by omega, Z2 hi, ZnD (by omega)];rfl
theorem Zl7 (p : Zj) (h : List.length p.2.2.2.2.2.1 ≤ 16777216) : QR big p = some (Xn p) := by
 rw [G6];unfold Xn
 by_cases h0 : p.2.2.2.2.2.1.length = 0
 ·rw [decide_eq_true (by omega), cond_true, List.length_eq_zero_iff.1 h0]; rfl
 ·have hi : p.2.2.2.2.2.1.length - 1 < p.2.2.2.2.2.1.length := by omega
  rw [decide_eq_false (by omega), cond_false, ZD (by omega) (by omega), if_pos (by omega), show ((List.length p.2.2.2.2.2.1 : Int) - 1).toNat = p.2.2.2.2.2.1.length - 1 by omega, Z2 hi, ZnD (by omega)];rfl
theorem ZcO (p : Zj) (h : ZeW p) : Jm big p = some (ZcN p) := by
 rw [Rx, Zcy p h.b, Option.bind_some, ZiW _ h.cB _ h.b.undos h.undos, Option.bind_some];rfl
theorem Zl8 (p : Zj) (h : ZeW p) : Ah big p = some ((), ZcN p, ()) := by
 rw [G8, M2 _ h.cB _ h.b.undos h.undos, Option.bind_some];rfl
def ZwQ (t : List Zm) (p : Zj) (row : List Int) : Zj := (p.1, p.2.1, p.2.2.1, p.2.2.2.1, p.2.2.2.2.1, p.2.2.2.2.2.1 ++ row, UC p.2.2.2.2.2.2.1 (CC t row), p.2.2.2.2.2.2.2)
theorem ZoL (t : List Zm) (h : N0 t) (row : List Int) (hr : row.length ≤ 1048576) (hm : ∀ y ∈ row, 0 < y ∧ y < t.length) : ∀ (n i : Nat) (p : Zj), row.length < n + i → i ≤ row.length → List.length p.2.2.2.2.2.1 ≤ 1048576 + i → Xm p.2.2.2.2.2.2.1 →
  Qb n t (i : Int) 0 0 0 0 0 0 0 0 0 0 0 0 0 0 [] [] [] [] [] [] 0 p.1 p.2.1 p.2.2.1.1 p.2.2.1.2.1 p.2.2.1.2.2.1 p.2.2.1.2.2.2.1 p.2.2.2.1.1 p.2.2.2.1.2.1 p.2.2.2.1.2.2.1 p.2.2.2.1.2.2.2.1 p.2.2.2.2.1.1 p.2.2.2.2.1.2.1 p.2.2.2.2.1.2.2.1 p.2.2.2.2.1.2.2.2.1
   p.2.2.2.2.2.1 p.2.2.2.2.2.2.1 p.2.2.2.2.2.2.2.1 p.2.2.2.2.2.2.2.2.1 p.2.2.2.2.2.2.2.2.2.1 p.2.2.2.2.2.2.2.2.2.2.1 p.2.2.2.2.2.2.2.2.2.2.2.1 row = some (ZwQ t p (row.drop i))
 | 0, i, p, h1, h2, _, _ => by omega
 | n + 1, i, p, h1, h2, h3, hc => by
  rcases Nat.lt_or_ge i row.length with hi | hi
  ·obtain ⟨m1, m2⟩ := hm _ (List.getElem_mem hi)
   have hk : Int.toNat row[i] < t.length := by omega
   have hb := List.getElem_mem hk;have e : CC t (row.drop i) = t[Int.toNat row[i]].2.2.1 ++ CC t (row.drop (i + 1)) := by
    rw [List.drop_eq_getElem_cons hi];have hbk : Zc4 t row[i] = t[Int.toNat row[i]].2.2.1 := by
     unfold Zc4;rw [decide_eq_true (show (0 : Int) ≤ row[i] by omega), cond_true, decide_eq_true (show row[i] ≤ (t.length : Int) - 1 by omega), Z2 hk]; rfl
    rw [← hbk]; rfl
   rw [V6, decide_eq_true (by omega), cond_true];simp only [if_pos (show (0 : Int) ≤ (i : Int) by omega), if_pos (show (i : Int) < (row.length : Int) by omega), Int.toNat_natCast, Z2 hi, Option.bind_some, if_pos (show (0 : Int) ≤ row[i] by omega), Z2 hk];rw [if_pos (by unfold lim; simp only [List.length_singleton]; omega), ZcF _ hc _ (Nat.le_trans (h.cmds _ hb) (by decide)) (h.key _ hb), Option.bind_some, Ym (by omega)];have ih := ZoL t h row hr hm n (i + 1) (p.1, p.2.1, p.2.2.1, p.2.2.2.1, p.2.2.2.2.1, p.2.2.2.2.2.1 ++ [row[i]], UC p.2.2.2.2.2.2.1 t[Int.toNat row[i]].2.2.1, p.2.2.2.2.2.2.2) (by omega) (by omega)
    (by simp only [List.length_append, List.length_singleton]; omega) (ZiU _ hc (h.key _ hb))
   refine Eq.trans ih ?_;unfold ZwQ;rw [e, BH];dsimp only;rw [List.append_assoc, List.drop_eq_getElem_cons hi];rfl
  ·have e : i = row.length := by omega
   subst e;rw [V6, decide_eq_false (by omega), cond_false, List.drop_length];unfold ZwQ;rw [List.append_nil];rfl
def YR (t : List Zm) (p : Zj) (k : Int) : Zj := bif R5 t k (Xn p) then ZwQ t (ZcN p) (WM t k (Xn p)) else p
theorem ZcP (t : List Zm) (h : N0 t) (ht : t.length ≤ 1048576) (p : Zj) (hp : ZeW p) (k : Int) : Dc big t p k = some (YR t p k) := by
 have hrl := hp.row;rw [ZdI, Zl6 p hp.b.row, Option.bind_some, ZcL t ht, Option.bind_some];unfold YR;cases he : R5 t k (Xn p) with
 | false =>
  simp only [Bool.not_false, cond_true, cond_false];rw [Zcy p hp.b]; rfl
 | true =>
  obtain ⟨f1, f2, f3⟩ := Uj t k (Xn p);obtain ⟨g1, g2⟩ := Zr3 h (WM t k (Xn p));have hll : List.length p.2.2.2.2.2.1 + (WM t k (Xn p)).length ≤ lim := by unfold lim; omega
  simp only [Bool.not_true, cond_true, cond_false];rw [ZcO p hp, Option.bind_some, Option.bind_some, P9 t ht, Option.bind_some, if_pos (show List.length (ZcN p).2.2.2.2.2.1 + (WM t k (Xn p)).length ≤ lim from hll), ZoE t h _ (by omega), Option.bind_some,
   show (ZcN p).2.2.2.2.2.2.1 = ZeX p from rfl, ZnA _ (ZiY hp) _ (Nat.le_trans g1 (Nat.le_trans (Nat.mul_le_mul_right _ (Nat.le_trans f3 ht)) (by decide))) g2]
  rfl
theorem ZnE (t : List Zm) (h : N0 t) (ht : t.length ≤ 1048576) (p : Zj) (hp : ZeW p) (k : Int) : QS big t p k = some (YR t p k) := by
 rw [Ha, ZlU p hp.b, Option.bind_some, Zl7 p hp.b.row, Option.bind_some, IJ t ht, Option.bind_some];unfold YR;cases he : R5 t k (Xn p) with
 | false => rfl
 | true =>
  obtain ⟨f1, f2, f3⟩ := Uj t k (Xn p);simp only [Bool.not_true, cond_true, cond_false];rw [Zl8 p hp, Option.bind_some, Option.bind_some, FT t ht, Option.bind_some];have := ZoL t h (WM t k (Xn p)) (by omega) f2 big 0 (ZcN p) (by unfold big; omega) (by omega) (by have := hp.row; show List.length p.2.2.2.2.2.1 ≤ _; omega) (ZiY hp);rw [Int.natCast_zero, List.drop_zero] at this;exact this
def Zxq (t : List Zm) (p : Zj) (row : List Int) : Zj := (p.1, p.2.1, p.2.2.1, p.2.2.2.1, p.2.2.2.2.1, p.2.2.2.2.2.1, UC p.2.2.2.2.2.2.1 (CC t row), p.2.2.2.2.2.2.2.1 ++ row, p.2.2.2.2.2.2.2.2.1 ++ CA p.2.2.2.2.2.2.1 (CC t row), p.2.2.2.2.2.2.2.2.2)
theorem ZoM (t : List Zm) (h : N0 t) (row : List Int) (hr : row.length ≤ 1048576) (hm : ∀ y ∈ row, 0 < y ∧ y < t.length) : ∀ (n i : Nat) (p : Zj), row.length < n + i → i ≤ row.length → List.length p.2.2.2.2.2.2.2.1 ≤ i → List.length p.2.2.2.2.2.2.2.2.1 + (CC t (row.drop i)).length ≤ 16777216 → Xm p.2.2.2.2.2.2.1 →
  VV n t (i : Int) 0 0 0 0 0 0 0 0 0 0 0 0 0 0 [] [] [] [] [] [] 0 p.1 p.2.1 p.2.2.1.1 p.2.2.1.2.1 p.2.2.1.2.2.1 p.2.2.1.2.2.2.1 p.2.2.2.1.1 p.2.2.2.1.2.1 p.2.2.2.1.2.2.1 p.2.2.2.1.2.2.2.1 p.2.2.2.2.1.1 p.2.2.2.2.1.2.1 p.2.2.2.2.1.2.2.1 p.2.2.2.2.1.2.2.2.1
   p.2.2.2.2.2.1 p.2.2.2.2.2.2.1 p.2.2.2.2.2.2.2.1 p.2.2.2.2.2.2.2.2.1 p.2.2.2.2.2.2.2.2.2.1 p.2.2.2.2.2.2.2.2.2.2.1 p.2.2.2.2.2.2.2.2.2.2.2.1 row = some (Zxq t p (row.drop i))
 | 0, i, p, h1, h2, _, _, _ => by omega
 | n + 1, i, p, h1, h2, h3, h4, hc => by
  rcases Nat.lt_or_ge i row.length with hi | hi
  ·obtain ⟨m1, m2⟩ := hm _ (List.getElem_mem hi)
   have hk : Int.toNat row[i] < t.length := by omega
   have hb := List.getElem_mem hk;have e : CC t (row.drop i) = t[Int.toNat row[i]].2.2.1 ++ CC t (row.drop (i + 1)) := by
    rw [List.drop_eq_getElem_cons hi];have hbk : Zc4 t row[i] = t[Int.toNat row[i]].2.2.1 := by
     unfold Zc4;rw [decide_eq_true (show (0 : Int) ≤ row[i] by omega), cond_true, decide_eq_true (show row[i] ≤ (t.length : Int) - 1 by omega), Z2 hk]; rfl
    rw [← hbk]; rfl
   rw [e, List.length_append] at h4;have hul : (CA p.2.2.2.2.2.2.1 t[Int.toNat row[i]].2.2.1).length = List.length t[Int.toNat row[i]].2.2.1 := P6 _ _;rw [VB, decide_eq_true (by omega), cond_true];simp only [if_pos (show (0 : Int) ≤ (i : Int) by omega), if_pos (show (i : Int) < (row.length : Int) by omega), Int.toNat_natCast, Z2 hi, Option.bind_some, if_pos (show (0 : Int) ≤ row[i] by omega), Z2 hk];rw [ZlZ _ hc _ (Nat.le_trans (h.cmds _ hb) (by decide)) (h.key _ hb), Option.bind_some, if_pos (by unfold lim; simp only [List.length_singleton]; omega),
    if_pos (show List.length p.2.2.2.2.2.2.2.2.1 + (CA p.2.2.2.2.2.2.1 t[Int.toNat row[i]].2.2.1).length ≤ lim by unfold lim; omega), Ym (by omega)]
   have ih := ZoM t h row hr hm n (i + 1) (p.1, p.2.1, p.2.2.1, p.2.2.2.1, p.2.2.2.2.1, p.2.2.2.2.2.1, UC p.2.2.2.2.2.2.1 t[Int.toNat row[i]].2.2.1, p.2.2.2.2.2.2.2.1 ++ [row[i]], p.2.2.2.2.2.2.2.2.1 ++ CA p.2.2.2.2.2.2.1 t[Int.toNat row[i]].2.2.1, p.2.2.2.2.2.2.2.2.2) (by omega) (by omega)
    (by simp only [List.length_append, List.length_singleton]; omega) (by rw [List.length_append]; omega) (ZiU _ hc (h.key _ hb))
   refine Eq.trans ih ?_;unfold Zxq;rw [e, BH, P7];dsimp only;rw [List.append_assoc, List.append_assoc, List.drop_eq_getElem_cons hi];rfl
  ·have e : i = row.length := by omega
   subst e;rw [VB, decide_eq_false (by omega), cond_false, List.drop_length];unfold Zxq;rw [List.append_nil];show _ = some (p.1, p.2.1, p.2.2.1, p.2.2.2.1, p.2.2.2.2.1, p.2.2.2.2.2.1, p.2.2.2.2.2.2.1, p.2.2.2.2.2.2.2.1, p.2.2.2.2.2.2.2.2.1 ++ [], p.2.2.2.2.2.2.2.2.2);rw [List.append_nil]
def WA (t : List Zm) (p : Zj) (k : Int) : Zj := Zxq t (ZcN p) (WM t k (Xn p))
theorem ZcQ {t : List Zm} (ht : RT t 0 ≤ 1048576) (k u : Int) : (CC t (WM t k u)).length ≤ 1048576 := by
 obtain ⟨f1, f2, f3⟩ := Uj t k u;exact Nat.le_trans (Zl5 t (WM t k u) 0 f1 (fun y hy => ⟨by have := f2 y hy; omega, (f2 y hy).2⟩)) ht
theorem Zl9 (t : List Zm) (h : N0 t) (ht : t.length ≤ 1048576) (hs : RT t 0 ≤ 1048576) (p : Zj) (hp : ZeW p) (k : Int) : E9 big t p k = some (WA t p k) := by
 obtain ⟨f1, f2, f3⟩ := Uj t k (Xn p);obtain ⟨g1, g2⟩ := Zr3 h (WM t k (Xn p));have hl := ZcQ hs k (Xn p);rw [Zah, ZcO p hp, Option.bind_some, Zl6 p hp.b.row, Option.bind_some, P9 t ht, Option.bind_some, ZoE t h _ (by omega), Option.bind_some,
  show (ZcN p).2.2.2.2.2.2.1 = ZeX p from rfl, ZlY _ (ZiY hp) _ (by omega) g2]
 rfl
theorem Ra (t : List Zm) (h : N0 t) (ht : t.length ≤ 1048576) (hs : RT t 0 ≤ 1048576) (p : Zj) (hp : ZeW p) (k : Int) : Uw big t p k = some (WA t p k) := by
 obtain ⟨f1, f2, f3⟩ := Uj t k (Xn p);have hl := ZcQ hs k (Xn p);rw [Fa, ZlU p hp.b, Option.bind_some, Zl8 p hp, Option.bind_some, Zl7 p hp.b.row, Option.bind_some, FT t ht, Option.bind_some];have := ZoM t h (WM t k (Xn p)) (by omega) f2 big 0 (ZcN p) (by unfold big; omega) (by omega) (by simp [ZcN]) (by rw [List.drop_zero]; show 0 + _ ≤ _; omega) (ZiY hp);rw [Int.natCast_zero, List.drop_zero] at this;exact this
def cellsOf (t : List Zm) (row : List Int) : List ZB := UC [] (CC t row)
structure Zqt (t : List Zm) (p : Zj) : Prop where
 cells : ZeX p = cellsOf t p.2.2.2.2.2.1
 inT : ∀ x ∈ p.2.2.2.2.2.1, 0 ≤ x ∧ x < t.length
theorem ZwR (t : List Zm) (row : List Int) : okB (cellsOf t row) = true := (ZiX (CC t row) (l := []) (by decide)).2
theorem Zsa (t : List Zm) (a b : List Int) : cellsOf t (a ++ b) = UC (cellsOf t a) (CC t b) := by
 unfold cellsOf;rw [show CC t (a ++ b) = CC t a ++ CC t b from List.flatMap_append, BH]
theorem Zvg {t : List Zm} {p : Zj} (h : Zqt t p) (k : Int) : Zqt t (WA t p k) := by
 refine ⟨?_, h.inT⟩;show ZcJ (UC (ZeX p) (CC t (WM t k (Xn p)))) ([] ++ CA (ZeX p) (CC t (WM t k (Xn p)))) = cellsOf t p.2.2.2.2.2.1;rw [List.nil_append, (ZiX _ (by rw [h.cells]; exact ZwR t _)).1, h.cells]
theorem Zsb {t : List Zm} {p : Zj} (h : Zqt t p) (k : Int) : Zqt t (YR t p k) := by
 obtain ⟨f1, f2, f3⟩ := Uj t k (Xn p);unfold YR;cases R5 t k (Xn p) with
 | false => exact h
 | true =>
  refine ⟨?_, fun x hx => ?_⟩
  ·show UC (ZeX p) (CC t (WM t k (Xn p))) = cellsOf t (p.2.2.2.2.2.1 ++ WM t k (Xn p))
   rw [Zsa, h.cells]
  ·rcases List.mem_append.1 (show x ∈ p.2.2.2.2.2.1 ++ WM t k (Xn p) from hx) with hx | hx
   ·exact h.inT x hx
   ·have := f2 x hx; omega
theorem Zqt.of {t : List Zm} {p q : Zj} (h : Zqt t p) (e1 : q.2.2.2.2.2.1 = p.2.2.2.2.2.1) (e2 : q.2.2.2.2.2.2.1 = p.2.2.2.2.2.2.1) (e3 : q.2.2.2.2.2.2.2.2.1 = p.2.2.2.2.2.2.2.2.1) : Zqt t q :=
 ⟨by unfold ZeX; rw [e2, e3, e1]; exact h.cells, by rw [e1]; exact h.inT⟩
theorem ZtI {t : List Zm} (b : Zm) {k : Int} (h0 : 0 ≤ k) (h1 : k < t.length) : Zc4 (List.append t [b]) k = Zc4 t k := by
 have hl : (List.append t [b]).length = t.length + 1 := by show (t ++ [b]).length = _; rw [List.length_append]; rfl
 have hi : k.toNat < t.length := by omega
 have e : nth (List.append t [b]) k.toNat = nth t k.toNat := by
  rw [Z2 hi, Z2 (show k.toNat < (List.append t [b]).length by omega)];exact congrArg some (List.getElem_append_left (bs := [b]) hi)
 unfold Zc4;rw [e, decide_eq_true h0, decide_eq_true (show k ≤ ((List.append t [b]).length : Int) - 1 by omega), decide_eq_true (show k ≤ (t.length : Int) - 1 by omega)]
theorem ZoN {t : List Zm} (b : Zm) : ∀ {row : List Int}, (∀ x ∈ row, 0 ≤ x ∧ x < t.length) → CC (List.append t [b]) row = CC t row
 | [], _ => rfl
 | x :: row, h => by
  have h1 := h x List.mem_cons_self;show Zc4 (List.append t [b]) x ++ CC (List.append t [b]) row = Zc4 t x ++ CC t row;rw [ZtI b h1.1 h1.2, ZoN b fun y hy => h y (List.mem_cons_of_mem _ hy)]
theorem Zqt.more {t : List Zm} {p : Zj} (h : Zqt t p) (b : Zm) : Zqt (List.append t [b]) p := by
 refine ⟨?_, fun x hx => ?_⟩
 ·rw [h.cells]; unfold cellsOf; rw [ZoN b h.inT]
 ·have := h.inT x hx
  have hl : (List.append t [b]).length = t.length + 1 := by show (t ++ [b]).length = _; rw [List.length_append]; rfl
  omega
def Ok {α : Type} (x : Option α) (P : α → Prop) : Prop := ∃ r, x = some r ∧ P r
theorem Zb {α : Type} {P : α → Prop} {r : α} (h : P r) : Ok (some r) P := ⟨r, rfl, h⟩
theorem Zd {α β : Type} {x : Option α} {f : α → Option β} {Q : α → Prop} {P : β → Prop} (h : Ok x Q) (k : ∀ r, Q r → Ok (f r) P) : Ok (x.bind f) P := by
 obtain ⟨r, rfl, hq⟩ := h;exact k r hq
theorem ZE {α : Type} {c : Prop} [Decidable c] {x : Option α} {P : α → Prop} (hc : c) (h : Ok x P) : Ok (if c then x else none) P := by rw [if_pos hc]; exact h
theorem Eg {α : Type} {c : Prop} [Decidable c] {x : Option α} {P : α → Prop} (hc : ¬ c) (h : Ok x P) : Ok (if c then none else x) P := by rw [if_neg hc]; exact h
theorem Yv {α : Type} {b : Bool} {x y : Option α} {P : α → Prop} (h1 : b = true → Ok x P) (h0 : b = false → Ok y P) : Ok (bif b then x else y) P := by
 cases b with
 | true => exact h1 rfl
 | false => exact h0 rfl
theorem Zs {α : Type} {p : Prop} [Decidable p] {x y : Option α} {P : α → Prop} (h1 : p → Ok x P) (h0 : ¬ p → Ok y P) : Ok (bif decide p then x else y) P :=
 Yv (fun h => h1 (of_decide_eq_true h)) (fun h => h0 (of_decide_eq_false h))
theorem YS {α : Type} {p : Prop} [Decidable p] {x y : Option α} {P : α → Prop} (h1 : ¬ p → Ok x P) (h0 : p → Ok y P) : Ok (bif !decide p then x else y) P :=
 Yv (fun h => h1 (of_decide_eq_false (by simpa using h))) (fun h => h0 (of_decide_eq_true (by simpa using h)))
theorem Yh {α : Type} {b : Bool} {x y : Option α} {P : α → Prop} (h1 : b = false → Ok x P) (h0 : b = true → Ok y P) : Ok (bif !b then x else y) P := by
 cases b with
 | true => exact h0 rfl
 | false => exact h1 rfl
theorem Z4 {α β : Type} {l : List α} {i : Nat} {f : α → Option β} {P : β → Prop} (hi : i < l.length) (k : ∀ y, y ∈ l → Ok (f y) P) : Ok ((nth l i).bind f) P := by
 rw [Z2 hi];exact k _ (List.getElem_mem hi)
theorem HK {α β : Type} {l : List α} {i : Nat} {y : α} {f : List α → Option β} {P : β → Prop} (hi : i < l.length) (k : Ok (f (upd l i y)) P) : Ok ((BU l i y).bind f) P := by
 rw [EC hi];exact k
theorem Uk {α : Type} {x : Option α} {P Q : α → Prop} (h : Ok x P) (k : ∀ r, P r → Q r) : Ok x Q := by
 obtain ⟨r, e, h⟩ := h; exact ⟨r, e, k r h⟩
structure M4 (c : Z0) : Prop where
 lo : 0 ≤ c.2.1
 hi : c.2.1 ≤ (List.length c.1 : Int)
 len : List.length c.1 ≤ 1099511627776
theorem ZoO (z : Int) : 0 ≤ K6.wrap ((BitVec.ofInt K6.bits z &&& BitVec.ofInt K6.bits 255).toNat : Int) ∧ K6.wrap ((BitVec.ofInt K6.bits z &&& BitVec.ofInt K6.bits 255).toNat : Int) ≤ 255 := by
 have h : (BitVec.ofInt K6.bits z &&& BitVec.ofInt K6.bits 255).toNat ≤ 255 := by
  rw [BitVec.toNat_and];exact Nat.le_trans Nat.and_le_right (by decide)
 rw [ZD (by omega) (by omega)];omega
theorem ZgH {c : Z0} (h : M4 c) : Ok (Vm big c) fun r => 0 ≤ r.1 ∧ r.1 ≤ 255 ∧ M4 r.2.1 := by
 rw [ZdO];have hlo := h.lo; have hhi := h.hi; have hlen := h.len;refine Zs (fun hc => ?_) (fun hc => ?_)
 ·refine ZE hlo (Z4 (by omega) fun y _ => Zb ?_)
  refine ⟨(ZoO _).1, (ZoO _).2, ?_, ?_, hlen⟩
  ·show 0 ≤ K6.wrap (c.2.1 + 1)
   rw [ZD (by omega) (by omega)]; omega
  ·show K6.wrap (c.2.1 + 1) ≤ (List.length c.1 : Int)
   rw [ZD (by omega) (by omega)]; omega
 ·exact Zb ⟨(ZoO _).1, (ZoO _).2, hlo, hhi, hlen⟩
theorem ZiZ {a n : Int} (ha : 0 ≤ a) (hn : 0 < n) : 0 ≤ Int.tmod a n ∧ Int.tmod a n < n := ⟨Int.tmod_nonneg _ ha, Int.tmod_lt_of_pos _ hn⟩
theorem Vs {c : Z0} (h : M4 c) (n : Int) : Ok (YD big c n) fun r => 0 ≤ r.1 ∧ (0 < n → r.1 < n) ∧ (n ≤ 0 → r.1 = 0) ∧ M4 r.2.1 := by
 rw [Zap];refine Zs (fun hc => Zb ⟨Int.le_refl _, fun h2 => by omega, fun _ => rfl, h⟩) (fun hc => ?_);refine Zs (fun hc2 => ?_) (fun hc2 => ?_)
 ·refine Zd (ZgH h) fun y hy => ?_
  refine Eg (by omega) (Zb ?_);have := ZiZ hy.1 (show 0 < n by omega);exact ⟨this.1, fun _ => this.2, fun h2 => by omega, hy.2.2⟩
 ·refine Zd (ZgH h) fun y hy => Zd (ZgH hy.2.2) fun y1 hy1 => Zd (ZgH hy1.2.2) fun y2 hy2 => Zd (ZgH hy2.2.2) fun y3 hy3 => ?_
  refine Eg (by omega) (Zb ?_);obtain ⟨a1, a2, _⟩ := hy; obtain ⟨b1, b2, _⟩ := hy1; obtain ⟨c1, c2, _⟩ := hy2; obtain ⟨d1, d2, hd⟩ := hy3;have e : 0 ≤ K6.wrap (K6.wrap (K6.wrap (K6.wrap (y.1 * 16777216) + K6.wrap (y1.1 * 65536)) + K6.wrap (y2.1 * 256)) + y3.1) := by
   rw [ZD (n := y.1 * 16777216) (by omega) (by omega), ZD (n := y1.1 * 65536) (by omega) (by omega), ZD (n := y2.1 * 256) (by omega) (by omega),
    ZD (n := y.1 * 16777216 + y1.1 * 65536) (by omega) (by omega), ZD (n := y.1 * 16777216 + y1.1 * 65536 + y2.1 * 256) (by omega) (by omega), ZD (by omega) (by omega)]
   omega
  have := ZiZ e (show 0 < n by omega);exact ⟨this.1, fun _ => this.2, fun h2 => by omega, hd⟩
theorem Zsc {c : Z0} (h : M4 c) (n : Int) : Ok (De big c n) fun r => M4 r.2.1 := by
 rw [ZdQ];exact Zd (Vs h n) fun y hy => Zb hy.2.2.2
theorem FU {c : Z0} (h : M4 c) (l : List Int) (hl : 0 < l.length) : Ok (WU big c l) fun r => r.1 ∈ l ∧ M4 r.2.1 := by
 rw [NH];refine Zd (Vs h _) fun y hy => ZE hy.1 ?_;have := hy.2.1 (by omega);exact Z4 (by omega) fun z hz => Zb ⟨hz, hy.2.2.2⟩
theorem ZwS {c : Z0} (h : M4 c) (l : List ByteArray) (hl : 0 < l.length) : Ok (Ip big c l) fun r => r.1 ∈ l ∧ M4 r.2.1 := by
 rw [ZdT];refine Zd (Vs h _) fun y hy => ZE hy.1 ?_;have := hy.2.1 (by omega);exact Z4 (by omega) fun z hz => Zb ⟨hz, hy.2.2.2⟩
theorem ZoP (code : List Int) (hl : code.length ≤ 1099511627776) : ∀ (k n : Nat) (a i : Int), 0 ≤ i → (code.length : Int) ≤ i + k → k < n → i ≤ code.length → Ok (A9 n code a i) fun c => c = (code, 0, c.2.2.1, ())
 | k, 0, a, i, _, _, h, _ => by omega
 | k, n + 1, a, i, h0, h1, h2, h3 => by
  rw [Zal];refine Zs (fun hc => ?_) (fun _ => Zb rfl);refine Zs (fun _ => ?_) (fun _ => Zb rfl);refine ZE h0 (Z4 (by omega) fun y _ => ?_);rw [ZD (n := i + 1) (by omega) (by omega)];cases k with
  | zero => omega
  | succ k => exact ZoP code hl k n _ _ (by omega) (by omega) (by omega) (by omega)
theorem Zvh (code : List Int) (hl : code.length ≤ 1099511627776) : Ok (Gi big code) fun c => M4 c := by
 rw [ZhP];refine Uk (ZoP code hl code.length big _ 0 (by omega) (by omega) (by unfold big; omega) (by omega)) fun c hc => ?_;rw [hc];exact ⟨Int.le_refl _, by show (0 : Int) ≤ _; omega, hl⟩
theorem M5 (a lo hi : Int) : ZT big a lo hi = some (decide (lo ≤ a) && decide (a ≤ hi)) := by
 rw [Oz];cases decide (lo ≤ a) <;> rfl
theorem Rb (x : Int) : ¬ IntKind.u64.wrap x < 0 := by
 unfold IntKind.wrap;simp only [IntKind.bits, IntKind.signed];have : (0 : Int) < 2 ^ 64 := by decide
 have := Int.emod_nonneg x (show (2 : Int) ^ 64 ≠ 0 by decide);simp;omega
theorem ZcR (s : Int) : Ok (XT big s) fun _ => True := by
 rw [VW];have loop : ∀ (k n : Nat) (a i : Int), 0 ≤ i → i ≤ 7 → 7 ≤ i + k → k < n → Ok (Jp n s a i) fun _ => True := by
  intro k
  induction k with
  | zero =>
   intro n a i h0 h1 h2 h3;obtain ⟨n, rfl⟩ : ∃ m, n = m + 1 := ⟨n - 1, by omega⟩
   rw [XX];exact Zs (fun hc => by omega) (fun _ => Zb trivial)
  | succ k ih =>
   intro n a i h0 h1 h2 h3;obtain ⟨n, rfl⟩ : ∃ m, n = m + 1 := ⟨n - 1, by omega⟩
   rw [XX];refine Zs (fun hc => Zs (fun _ => Eg (Rb _) ?_) (fun _ => Zb trivial)) (fun _ => Zb trivial);rw [ZD (n := i + 1) (by omega) (by omega)];exact ih n _ _ (by omega) (by omega) (by omega) (by omega)
 exact loop 7 big 0 0 (by omega) (by omega) (by omega) (by unfold big; omega)
theorem ZtJ (n : Int) : Ok (Cq big n) fun _ => True := by
 rw [Mj];exact Zs (fun _ => Zb trivial) (fun _ => Zb trivial)
theorem R6 (n : Int) : Ok (JQ big n) fun _ => True := by
 rw [Zh0];exact Zd (ZtJ n) fun _ _ => Zb trivial
theorem VI (v n : Int) : Ok (Xv big v n) fun _ => True := by
 rw [Zay];exact Zs (fun _ => Zb trivial) fun h => Zs (fun _ => Zb trivial) fun _ => Eg (by omega) (Zb trivial)
theorem ZcS (x : Zi) (i : Int) : Ok (W7 big x i) fun _ => True := by
 rw [Znj];refine Zs (fun _ => ?_) (fun _ => Zb trivial);rw [M5];refine Zd (Zb (P := fun _ => True) trivial) fun y _ => Yv (fun _ => Zs (fun _ => Eg (Rb _) (Zb trivial)) (fun _ => Zb trivial)) (fun _ => Zb trivial)
theorem M6 (x : Zi) (i : Int) (hl : List.length x.2.2.2.2.1 ≤ 1000) : Ok (WI big x i) fun b => b = true → 0 ≤ i ∧ i < (List.length x.2.2.2.2.1 : Int) := by
 rw [Rz, M5];rw [ZD (n := (List.length x.2.2.2.2.1 : Int) - 1) (by omega) (by omega)];simp only [Option.bind_some];refine Yv (fun h => ?_) (fun _ => Zb fun h => by cases h);simp only [Bool.and_eq_true, decide_eq_true_eq] at h;rw [M5];simp only [Option.bind_some];exact Yv (fun _ => Zd (ZcS x i) fun _ _ => Zb fun _ => ⟨h.1, by omega⟩) (fun _ => Zb fun h => by cases h)
theorem ZtK (a b : Ch) : Xw big a b = some (bif decide (a.2.1 < b.2.1) then b else a) := by
 rw [Fb];cases decide (a.2.1 < b.2.1) <;> rfl
theorem JK (a b : Ch) : Ok (Xw big a b) fun r => (r = a ∨ r = b) ∧ a.2.1 ≤ r.2.1 := by
 rw [ZtK]
 by_cases h : a.2.1 < b.2.1
 ·rw [decide_eq_true h]; exact Zb ⟨.inr rfl, Int.le_of_lt h⟩
 ·rw [decide_eq_false h]; exact Zb ⟨.inl rfl, Int.le_refl _⟩
theorem ZtL (p : Zj) (a b : Int) : Ok (QV big p a b) fun _ => True := by
 rw [Zd8];exact Zs (fun _ => Zb trivial) fun _ => Zs (fun _ => Zb trivial) (fun _ => Zb trivial)
theorem Zsd {α : Type} {P : α → Prop} {L : Nat} (hL : L ≤ 4294967296) {I : Int → Prop} {f : Nat → Int → Option α}
  (step : ∀ (n : Nat) (i : Int), 0 ≤ i → i < L → I i → (∀ i', i' = i + 1 → I i' → Ok (f n i') P) → Ok (f (n + 1) i) P)
  (done : ∀ n : Nat, I L → Ok (f (n + 1) L) P) : ∀ (k n : Nat) (i : Int), 0 ≤ i → i ≤ L → (L : Int) ≤ i + k → k < n → I i → Ok (f n i) P
 | k, 0, i, _, _, _, h, _ => by omega
 | 0, n + 1, i, h0, h1, h2, _, hi => by
  have : i = L := by omega
  subst this;exact done n hi
 | k + 1, n + 1, i, h0, h1, h2, h3, hi => by
  rcases Int.lt_or_le i L with hl | hl
  ·exact step n i h0 hl hi fun i' e hi' => Zsd hL step done k n i' (by omega) (by omega) (by omega) (by omega) hi'
  ·have : i = L := by omega
   subst this;exact done n hi
theorem up0 {α : Type} {P : α → Prop} {L : Nat} (hL : L ≤ 4294967296) {f : Nat → Int → Option α}
  (step : ∀ (n : Nat) (i : Int), 0 ≤ i → i < L → (∀ i', i' = i + 1 → Ok (f n i') P) → Ok (f (n + 1) i) P)
  (done : ∀ n : Nat, Ok (f (n + 1) L) P) : Ok (f big 0) P :=
 Zsd (I := fun _ => True) hL (fun n i h0 h1 _ k => step n i h0 h1 fun i' e => k i' e trivial) (fun n _ => done n) L big 0 (by omega) (by omega) (by omega) (by unfold big; omega) trivial
theorem Zyc (l : List ZX) (v : ZX) (hl : l.length ≤ 4294967296) : Ok (NK big l v) fun _ => True := by
 rw [Zid];refine up0 (L := l.length) hl (f := fun n i => Uy n l i v.1 v.2.1 v.2.2.1 v.2.2.2.1) (fun n i h0 h1 k => ?_) (fun n => ?_)
 ·rw [Fi, ZD (n := i + 1) (by omega) (by omega)]
  refine Zs (fun _ => ZE h0 (Z4 (by omega) fun y _ => Zs (fun _ => ZE h0 (Z4 (by omega) fun y _ => Zs (fun _ => ZE h0 (Z4 (by omega) fun y _ => Zs (fun _ => Zb trivial) (fun _ => k _ rfl))) (fun _ => k _ rfl))) (fun _ => k _ rfl))) (fun h => by omega)
 ·rw [Fi]
  exact Zs (fun h => by omega) (fun _ => Zb trivial)
theorem ZnF (s : ByteArray) (hs : s.size ≤ 4294967296) : Ok (Cn big s) fun _ => True := by
 rw [OA];have hl : s.data.toList.length = s.size := by rw [Array.length_toList]; rfl
 refine up0 (L := s.size) hs (f := fun n i => J8 n s i) (fun n i h0 h1 k => ?_) (fun n => ?_)
 ·rw [Q5, ZD (n := i + 1) (by omega) (by omega)]
  refine Zs (fun _ => ZE h0 (Z4 (by omega) fun y _ => Zs (fun _ => Zb trivial) fun _ => ZE h0 (Z4 (by omega) fun y _ => Zs (fun _ => Zb trivial) fun _ => k _ rfl))) (fun h => by omega)
 ·rw [Q5, M5]
  exact Zs (fun h => by omega) (fun _ => Zb trivial)
end Go.Sx.Tryz
