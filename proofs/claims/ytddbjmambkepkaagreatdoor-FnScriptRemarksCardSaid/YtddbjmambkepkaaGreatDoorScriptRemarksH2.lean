/- That a run goes through: what is read from the disk. -/
import Derived.Test.YtddbjmambkepkaaGreatDoorM8
import Derived.Test.YtddbjmambkepkaaGreatDoorTypes
import Derived.Test.YtddbjmambkepkaaGreatDoorScriptRemarksH1
import Derived.Test.YtddbjmambkepkaaGreatDoorScriptRemarksF1
import Derived.Test.YtddbjmambkepkaaGreatDoorScriptRemarksF3
import Derived.Test.YtddbjmambkepkaaGreatDoorScriptRemarksF4
import Derived.Test.YtddbjmambkepkaaGreatDoorScriptRemarksF5
set_option linter.unusedVariables false
set_option linter.unusedSimpArgs false
set_option maxRecDepth 100000
namespace Go.Sx.Tryz
open Go Go.Sx Go.Proofs
open Go.IntKind renaming i64 → K6
def RdP (s : ByteArray) (i v w : Nat) (r : Int × Int × Bool × Unit) : Prop :=
 r.2.2.1 = true → (i : Int) < r.2.1 ∧ r.2.1 ≤ s.size ∧ 0 ≤ r.1 ∧ r.1 ≤ 1000000000 ∧ ∀ m rest, s.data.toList.drop i = enc m ++ rest → r.1 = ((v + m * w : Nat) : Int) ∧ r.2.1 = ((i + (enc m).length : Nat) : Int)
theorem Pm {m : Nat} (h : m < 256) : (UInt8.ofNat m).toNat = m := by
 have : (UInt8.ofNat m).toNat = m % 256 := rfl;omega
theorem Zfc (s : ByteArray) (hs : s.size ≤ 1000000) (a : Nat) : ∀ (k n v w i : Nat), i + k = a + 5 → a ≤ i → i ≤ s.size → k < n → w * 128 ^ k ≤ 34359738368 → v ≤ w →
  Ok (Qo n s (a : Int) (v : Int) (w : Int) (i : Int)) (RdP s i v w) := by
 have no : ∀ i v w, RdP s i v w ((0 : Int), (0 : Int), false, ()) := fun i v w h => by cases h
 have hl := WD s;intro k
 induction k with
 | zero =>
  intro n v w i h1 h2 h3 h4 h5 h6;obtain ⟨n, rfl⟩ : ∃ m, n = m + 1 := ⟨n - 1, by omega⟩
  rw [Bm, Zx (n := (a : Int) + 5) (by omega) (by omega)];exact Ze (fun _ => Ze (fun h => by omega) fun _ => Za (no _ _ _)) fun _ => Za (no _ _ _)
 | succ k ih =>
  intro n v w i h1 h2 h3 h4 h5 h6;obtain ⟨n, rfl⟩ : ∃ m, n = m + 1 := ⟨n - 1, by omega⟩
  have hw : w * 128 ≤ 34359738368 := by
   have h128 : 1 ≤ 128 ^ k := Nat.pow_pos (by decide);rw [Nat.pow_succ, ← Nat.mul_assoc, Nat.mul_right_comm] at h5;exact Nat.le_trans (Nat.le_mul_of_pos_right _ h128) h5
  have h5' : w * 128 * 128 ^ k ≤ 34359738368 := by
   rw [Nat.pow_succ, ← Nat.mul_assoc, Nat.mul_right_comm] at h5;exact h5
  rw [Bm, Zx (n := (a : Int) + 5) (by omega) (by omega)];refine Ze (fun hi => Ze (fun hi5 => Zm (by omega) ?_) fun _ => Za (no _ _ _)) fun _ => Za (no _ _ _);have hi' : i < s.data.toList.length := by omega
  have hd := List.drop_eq_getElem_cons hi';rw [Int.toNat_natCast, YV hi', Option.bind_some];generalize s.data.toList[i] = b at hd;have hb : b.toNat < 256 := UInt8.toNat_lt _;refine Zm (by omega) ?_;rw [Option.bind_some];have hx : b.toNat % 128 * w ≤ 127 * w := Nat.mul_le_mul_right _ (by omega);have ev : K6.wrap ((v : Int) + K6.wrap ((K6.wrap (b.toNat : Int)).tmod 128 * (w : Int))) = ((v + b.toNat % 128 * w : Nat) : Int) := by
   have e1 : K6.wrap (b.toNat : Int) = (b.toNat : Int) := Zx (by omega) (by omega);have e2 : ((b.toNat : Int)).tmod 128 = ((b.toNat % 128 : Nat) : Int) := (Int.ofNat_tmod b.toNat 128).symm;have e3 : ((b.toNat % 128 : Nat) : Int) * (w : Int) = ((b.toNat % 128 * w : Nat) : Int) := (Int.natCast_mul _ _).symm;rw [e1, e2, e3, Zx (n := ((b.toNat % 128 * w : Nat) : Int)) (by omega) (by omega), ← Int.natCast_add, Zx (by omega) (by omega)]
  have ei : K6.wrap ((i : Int) + 1) = ((i + 1 : Nat) : Int) := by rw [Zx (by omega) (by omega)]; omega
  have ew : K6.wrap ((w : Int) * 128) = ((w * 128 : Nat) : Int) := by rw [Zx (by omega) (by omega)]; omega
  try dsimp only
  rw [ev, ei, ew];refine Ze (fun hc => Ze (fun _ => Za (no _ _ _)) fun hv => Zm (by omega) (Zm (by omega) (Zm (by omega) (Zm (by omega) (Zb (Zo8 _) fun y _ => Yq (fun _ => Za (no _ _ _)) fun _ => Za fun _ => ⟨?_, ?_, ?_, ?_, fun m rest hm => ?_⟩))))) fun hc => ?_
  ·show (i : Int) < ((i + 1 : Nat) : Int); omega
  ·show ((i + 1 : Nat) : Int) ≤ _; omega
  ·show (0 : Int) ≤ ((v + b.toNat % 128 * w : Nat) : Int); omega
  ·show ((v + b.toNat % 128 * w : Nat) : Int) ≤ _; omega
  ·rw [hd] at hm
   by_cases h7 : m ≤ 127
   ·rw [ZdB h7] at hm ⊢
    have hbm : b = UInt8.ofNat m := (List.cons.inj hm).1;have : b.toNat % 128 = m := by rw [hbm, Pm (by omega)]; omega
    rw [this];exact ⟨rfl, rfl⟩
   ·rw [Zhd h7] at hm
    have hbm : b = UInt8.ofNat (m % 128 + 128) := (List.cons.inj hm).1;rw [hbm, Pm (by omega)] at hc;omega
  ·refine X7 (ih n (v + b.toNat % 128 * w) (w * 128) (i + 1) (by omega) (by omega) (by omega) (by omega) h5' (by omega)) fun r hr h => ?_
   obtain ⟨g1, g2, g3, g4, g5⟩ := hr h;refine ⟨by omega, g2, g3, g4, fun m rest hm => ?_⟩;rw [hd] at hm
   by_cases h7 : m ≤ 127
   ·rw [ZdB h7] at hm
    have hbm : b = UInt8.ofNat m := (List.cons.inj hm).1;rw [hbm, Pm (by omega)] at hc;omega
   ·rw [Zhd h7] at hm ⊢
    have hbm : b = UInt8.ofNat (m % 128 + 128) := (List.cons.inj hm).1;obtain ⟨q1, q2⟩ := g5 (m / 128) rest (List.cons.inj hm).2;have hbx : b.toNat % 128 = m % 128 := by rw [hbm, Pm (by omega)]; omega
    refine ⟨?_, by rw [q2, List.length_cons]; congr 1; omega⟩;rw [q1, hbx];congr 1;have e1 : m / 128 * (w * 128) = m / 128 * 128 * w := by rw [Nat.mul_comm w 128, Nat.mul_assoc]
    have e2 : m * w = (m / 128 * 128 + m % 128) * w := by congr 1; omega
    rw [e1, e2, Nat.add_mul]; omega
theorem Zma (s : ByteArray) (hs : s.size ≤ 1000000) (a : Int) : Ok (GP big s a) fun r => r.2.2.1 = true → 0 ≤ a ∧ a < r.2.1 ∧ r.2.1 ≤ s.size ∧ 0 ≤ r.1 ∧ r.1 ≤ 1000000000 ∧
  ∀ m rest, s.data.toList.drop a.toNat = enc m ++ rest → r.1 = (m : Int) ∧ r.2.1 = a + ((enc m).length : Int) := by
 rw [ZbL, LB, Option.bind_some];refine ZT (fun _ => Za fun h => by cases h) fun h => ?_;simp only [Bool.and_eq_true, decide_eq_true_eq] at h;obtain ⟨m, rfl⟩ : ∃ m : Nat, a = m := ⟨a.toNat, by omega⟩
 have := Zfc s hs m 5 big 0 1 m (by omega) (by omega) (by omega) (by unfold big; omega) (by decide) (by omega);refine X7 this fun r hr h1 => ?_;obtain ⟨g1, g2, g3, g4, g5⟩ := hr h1;refine ⟨h.1, g1, g2, g3, g4, fun k rest hk => ?_⟩;obtain ⟨q1, q2⟩ := g5 k rest hk;exact ⟨by rw [q1]; congr 1; omega, by rw [q2]; omega⟩
def Adv (c c' : Wc) : Prop := c'.1 = c.1 ∧ (c'.2.2.1 = false → c.2.2.1 = false ∧ 0 ≤ c.2.1 ∧ c.2.1 < c'.2.1 ∧ c'.2.1 ≤ (ByteArray.size c.1 : Int))
theorem Adv.trans {a b c : Wc} (h : Adv a b) (k : Adv b c) : Adv a c := ⟨k.1.trans h.1, fun e => by
 obtain ⟨k1, k2, k3, k4⟩ := k.2 e;obtain ⟨h1, h2, h3, h4⟩ := h.2 k1;rw [h.1] at k4;exact ⟨h1, h2, by omega, k4⟩⟩
theorem BI (c : Wc) (hs : ByteArray.size c.1 ≤ 1000000) : Ok (Y1 big c) fun r => Adv c r.2.1 ∧ (r.2.1.2.2.1 = false → 0 ≤ r.1 ∧ r.1 ≤ 1000000000 ∧
  ∀ m rest, c.1.data.toList.drop (Int.toNat c.2.1) = enc m ++ rest → r.1 = (m : Int) ∧ r.2.1.2.1 = c.2.1 + ((enc m).length : Int)) := by
 rw [ZeZ];refine Zb (Zma c.1 hs c.2.1) fun y hy => Z1 (fun _ => Za ⟨⟨rfl, fun h => by cases h⟩, fun h => by cases h⟩) fun hb => ZT (fun _ => Za ⟨⟨rfl, fun h => by cases h⟩, fun h => by cases h⟩) fun ho => ?_;obtain ⟨g1, g2, g3, g4, g5, g6⟩ := hy ho;exact Za ⟨⟨rfl, fun h => ⟨hb, g1, g2, g3⟩⟩, fun h => ⟨g4, g5, g6⟩⟩
theorem ZqI (c : Wc) (hs : ByteArray.size c.1 ≤ 1000000) : Ok (IS big c) fun r => Adv c r.2.1 ∧ (r.2.1.2.2.1 = false → 0 ≤ r.1.2.1) := by
 rw [ZgJ];refine Zb (BI c hs) fun y hy => Zb (BI y.2.1 (by rw [hy.1.1]; exact hs)) fun y1 hy1 => ?_;have h1 := hy.1.trans hy1.1;refine Zb (BI y1.2.1 (by rw [h1.1]; exact hs)) fun y2 hy2 => ?_;have h2 := h1.trans hy2.1;exact Zb (BI y2.2.1 (by rw [h2.1]; exact hs)) fun y3 hy3 => Za ⟨h2.trans hy3.1, fun e => (hy1.2 (hy2.1.2 (hy3.1.2 e).1).1).1⟩
theorem Zo9 (c : Wc) (hs : ByteArray.size c.1 ≤ 1000000) : Ok (GR big c) fun r => Adv c r.2.1 := by
 rw [ZbN];refine Zb (BI c hs) fun y hy => Zb (BI y.2.1 (by rw [hy.1.1]; exact hs)) fun y1 hy1 => ?_;have h1 := hy.1.trans hy1.1;refine Zb (BI y1.2.1 (by rw [h1.1]; exact hs)) fun y2 hy2 => ?_;have h2 := h1.trans hy2.1;exact Zb (BI y2.2.1 (by rw [h2.1]; exact hs)) fun y3 hy3 => Za (h2.trans hy3.1)
theorem Zpa (t u : ByteArray) (hu : u.size ≤ 20000) (s8 : Int) (c0 : Int) (c1 : Int) (c2 : Int) (c3 : Int) (c4 : Int) (c5 : Int) (c6 : Int) (c7 : Int) (c8 : Int) (c9 : Int) (c10 : Int) (c11 : Int) (c12 : Int) (c13 : Int) (c14 : List Int) (c15 : List Ys) (c16 : List Int) (c17 : List Xv) (c18 : List Z3) (c19 : List Zo) (c20 : Int) (b0 : Int) (b1 : Int) (b2 : Int) (b3 : Int) (b4 : Int) (b5 : Int) (b6 : Int) (b7 : Int) (b8 : Int) (b9 : Int) (b10 : Int) (b11 : Int) (b12 : Int) (b13 : Int) (b14 : List Int) (b15 : List Ys) (b16 : List Int) (b17 : List Xv) (b18 : List Z3) (b19 : List Zo) (b20 : Int) : ∀ (m n : Nat) (i : Int) (q : Wc) (row : List Int), q.1 = u →
  (q.2.2.1 = false → 0 ≤ q.2.1 ∧ q.2.1 ≤ u.size ∧ (u.size : Int) + 1 ≤ q.2.1 + m ∧ (row.length : Int) ≤ q.2.1) → row.length ≤ 20001 → m < n →
  Ok (Vz n t s8 i c0 c1 c2 c3 c4 c5 c6 c7 c8 c9 c10 c11 c12 c13 c14 c15 c16 c17 c18 c19 c20 q.1 q.2.1 q.2.2.1 b0 b1 b2 b3 b4 b5 b6 b7 b8 b9 b10 b11 b12 b13 row b15 b16 b17 b18 b19 b20) fun r => r.2.1 = true → q.2.2.1 = false ∧
   ∃ row' : List Int, row'.length ≤ 20001 ∧ r.1 = (b0, b1, (b2, b3, b4, b5, ()), (b6, b7, b8, b9, ()), (b10, b11, b12, b13, ()), row', b15, b16, b17, b18, b19, b20, ()) := by
 have fin : ∀ (n : Nat) (i : Int) (q : Wc) (row : List Int), row.length ≤ 20001 → Ok (bif q.2.2.1 then some (((0 : Int), (0 : Int), ((0 : Int), (0 : Int), (0 : Int), (0 : Int), PUnit.unit), ((0 : Int), (0 : Int), (0 : Int), (0 : Int), PUnit.unit), ((0 : Int), (0 : Int), (0 : Int), (0 : Int), PUnit.unit), ([] : List Int), ([] : List Ys), ([] : List Int), ([] : List Xv), ([] : List Z3), ([] : List Zo), (0 : Int), PUnit.unit), false, PUnit.unit) else (Uw big (b0, b1, (b2, b3, b4, b5, ()), (b6, b7, b8, b9, ()), (b10, b11, b12, b13, ()), row, b15, b16, b17, b18, b19, b20, ())).bind fun y => bif !decide (y = t) then some (((0 : Int), (0 : Int), ((0 : Int), (0 : Int), (0 : Int), (0 : Int), PUnit.unit), ((0 : Int), (0 : Int), (0 : Int), (0 : Int), PUnit.unit), ((0 : Int), (0 : Int), (0 : Int), (0 : Int), PUnit.unit), ([] : List Int), ([] : List Ys), ([] : List Int), ([] : List Xv), ([] : List Z3), ([] : List Zo), (0 : Int), PUnit.unit), false, PUnit.unit) else some ((b0, b1, (b2, b3, b4, b5, PUnit.unit), (b6, b7, b8, b9, PUnit.unit), (b10, b11, b12, b13, PUnit.unit), row, b15, b16, b17, b18, b19, b20, PUnit.unit), true, PUnit.unit))
   (fun r : Zw × Bool × Unit => r.2.1 = true → q.2.2.1 = false ∧ ∃ row' : List Int, row'.length ≤ 20001 ∧ r.1 = (b0, b1, (b2, b3, b4, b5, ()), (b6, b7, b8, b9, ()), (b10, b11, b12, b13, ()), row', b15, b16, b17, b18, b19, b20, ())) := fun n i q row hr =>
  Z1 (fun _ => Za (fun h => by cases h)) fun hb => Zb (ZdC _ (by show row.length ≤ _; omega)) fun y _ => Yq (fun _ => Za (fun h => by cases h)) fun _ => Za fun _ => ⟨hb, row, hr, rfl⟩
 intro m
 induction m with
 | zero =>
  intro n i q row hq h1 h2 h3;obtain ⟨n, rfl⟩ : ∃ m, n = m + 1 := ⟨n - 1, by omega⟩
  rw [Kz];simp only [Xe];refine Ze (fun _ => ZT (fun hb => ?_) fun _ => fin n i q row h2) fun _ => fin n i q row h2;have := h1 hb;omega
 | succ m ih =>
  intro n i q row hq h1 h2 h3;obtain ⟨n, rfl⟩ : ∃ m, n = m + 1 := ⟨n - 1, by omega⟩
  rw [Kz];simp only [Xe];refine Ze (fun _ => ZT (fun hb => ?_) fun _ => fin n i q row h2) fun _ => fin n i q row h2;obtain ⟨g1, g2, g3, g4⟩ := h1 hb;refine Zb (BI (q.1, q.2.1, q.2.2.1, ()) (by show ByteArray.size q.1 ≤ _; rw [hq]; omega)) fun y hy => Zm (by unfold lim; omega) ?_;obtain ⟨⟨hy1, hy2⟩, _⟩ := hy;refine X7 (ih n _ y.2.1 (List.append row [y.1]) (hy1.trans hq) (fun e => ?_) (by rw [Y9]; omega) (by omega)) fun r hr h => ⟨hb, (hr h).2⟩
  obtain ⟨k1, k2, k3, k4⟩ := hy2 e;have k3 : q.2.1 < y.2.1.2.1 := k3;have k4 : y.2.1.2.1 ≤ (ByteArray.size q.1 : Int) := k4;rw [hq] at k4;rw [Y9];exact ⟨by omega, k4, by omega, by omega⟩
theorem Zkj (t : ByteArray) (ht : t.size ≤ 1000000) : Ok (Du big t) fun r => r.2.1 = true → 4 ≤ t.size ∧ (∀ a b e, t.extract 0 (t.size - 4) = bL (enc a) ++ bL (enc b) ++ e → r.1.1 = (a : Int) ∧ r.1.2.1 = (b : Int)) ∧
  List.length r.1.2.2.2.2.2.1 ≤ 20001 ∧ r.1.2.2.2.2.2.2 = ([], [], [], [], [], 0, ()) ∧ 0 ≤ r.1.2.2.1.2.1 ∧ 0 ≤ r.1.2.2.2.1.2.1 := by
 rw [Tq];refine Zb (Zki t ht) fun u hu => ?_;refine Zb (BI (u.1, 0, !u.2.1, ()) (by show ByteArray.size u.1 ≤ _; have := hu.1; omega)) fun y hy => ?_;have hs : ByteArray.size u.1 ≤ 1000000 := by have := hu.1; omega
 refine Zb (BI y.2.1 (by rw [hy.1.1]; exact hs)) fun y1 hy1 => ?_;have h1 := hy.1.trans hy1.1;refine Zb (ZqI y1.2.1 (by rw [h1.1]; exact hs)) fun y2 hy2 => ?_;have h2 := h1.trans hy2.1;refine Zb (ZqI y2.2.1 (by rw [h2.1]; exact hs)) fun y3 hy3 => ?_;have h3 := h2.trans hy3.1;refine Zb (Zo9 y3.2.1 (by rw [h3.1]; exact hs)) fun y4 hy4 => ?_;have h4 := h3.trans hy4;refine Zb (BI y4.2.1 (by rw [h4.1]; exact hs)) fun y5 hy5 => ?_;have h5 := h4.trans hy5.1;refine X7 (Zpa t u.1 hu.1 y5.1 _ _ _ _ _ _ _ _ _ _ _ _ _ _ _ _ _ _ _ _ _ y.1 y1.1 y2.1.1 y2.1.2.1 y2.1.2.2.1 y2.1.2.2.2.1 y3.1.1 y3.1.2.1 y3.1.2.2.1 y3.1.2.2.2.1 y4.1.1 y4.1.2.1 y4.1.2.2.1 y4.1.2.2.2.1 [] [] [] [] [] [] 0 (ByteArray.size u.1 + 1) big 0 y5.2.1 [] h5.1 (fun e => ?_) (by decide) (by unfold big; omega)) fun r hr h => ?_
 ·obtain ⟨k1, k2, k3, k4⟩ := h5.2 e
  have k3 : (0 : Int) < y5.2.1.2.1 := k3;exact ⟨by omega, k4, by omega, by show (0 : Int) ≤ _; omega⟩
 ·obtain ⟨hb, row, hrow, e⟩ := hr h
  have b4 := (hy5.1.2 hb).1;have b3 := (hy4.2 b4).1;have b2 := (hy3.1.2 b3).1;have b1 := (hy2.1.2 b2).1;have b0 := (hy1.1.2 b1).1;have bu := (hy.1.2 b0).1;have bu' : u.2.1 = true := by
   cases hc : u.2.1 with
   | true => rfl
   | false => rw [show ((u.1, (0 : Int), !u.2.1, ()) : Wc).2.2.1 = !u.2.1 from rfl, hc] at bu; cases bu
  obtain ⟨q1, q2⟩ := hu.2 bu';rw [e];refine ⟨q1, fun a b f hf => ?_, hrow, rfl, hy2.2 b2, hy3.2 b3⟩;have hd : u.1.data.toList = enc a ++ (enc b ++ f.data.toList) := by
   rw [q2, hf];simp only [ByteArray.data_append, Array.toList_append, bL, List.append_assoc]
  obtain ⟨_, _, z1⟩ := hy.2 b0;obtain ⟨z2, z3⟩ := z1 a (enc b ++ f.data.toList) hd;obtain ⟨_, _, w1⟩ := hy1.2 b1;have hy11 : y.2.1.1 = u.1 := hy.1.1;have z3 : y.2.1.2.1 = 0 + ((enc a).length : Int) := z3;obtain ⟨w2, _⟩ := w1 b f.data.toList (by
   rw [hy11, z3, hd, show (0 + ((enc a).length : Int)).toNat = (enc a).length by omega, List.drop_left])
  exact ⟨z2, w2⟩
theorem Znr {B : Nat} {V : Int} (h0 : 30000 ≤ B) (hB : B ≤ 100000000) {t : List ZL} (ht : WU t) {p : Zw} (h : Yu B V p) (hi : 0 ≤ p.1 ∧ p.1 ≤ 1000) : Ok (MC big t p) fun r => Yu B V r ∧ r.1 = p.1 := by
 have hv := h.view;have hto := h.top;rw [Ze1];refine Zb (ZdC p (Nat.le_trans h.row hB)) fun y hy => Zb (Zkj y (by have := hy.1; omega)) fun z hz => ZT (fun _ => Za ⟨⟨Nat.zero_le _, ⟨Nat.zero_le _, fun c hc => by cases hc⟩, Nat.zero_le _, ⟨Nat.zero_le _, fun c hc => by cases hc⟩, Nat.zero_le _, Nat.zero_le _, by have := h.top; show (1 : Int) ≤ 1 ∧ (1 : Int) ≤ V; omega, h.top, ⟨Int.le_refl 0, Int.le_refl 0⟩⟩, rfl⟩) fun ho => ?_;obtain ⟨g1, g2, g3, g4, g5⟩ := hz ho;obtain ⟨e, he⟩ := hy.2 g1 hi (by omega);obtain ⟨k1, k2⟩ := g2 _ _ _ he;refine Zb (Zke ht (by omega)) fun cs hcs => Za ⟨⟨?_, hcs, ?_, ⟨?_, ?_⟩, ?_, ?_, ?_, h.top, g5⟩, ?_⟩
 ·show List.length z.1.2.2.2.2.2.1 ≤ B; omega
 ·show List.length z.1.2.2.2.2.2.2.2.1 ≤ 60; rw [g4]; exact Nat.zero_le _
 ·show List.length z.1.2.2.2.2.2.2.2.2.1 ≤ 240; rw [g4]; exact Nat.zero_le _
 ·show ∀ c ∈ z.1.2.2.2.2.2.2.2.2.1, _; rw [g4]; exact fun c hc => by cases hc
 ·show List.length z.1.2.2.2.2.2.2.2.2.2.1 ≤ B; rw [g4]; exact Nat.zero_le _
 ·show List.length z.1.2.2.2.2.2.2.2.2.2.2.1 ≤ B; rw [g4]; exact Nat.zero_le _
 ·show 1 ≤ z.1.2.1 ∧ z.1.2.1 ≤ V; rw [k2]; omega
 ·show z.1.1 = p.1; rw [k1]; omega
theorem Zmb {x : Zi} (ht : WU x.2.2.2.1) {V : Int} (hv : 0 ≤ V) (hx : ∀ b ∈ x.2.2.2.1, b.2.1 ≤ V) (a b c k : Int) : Ok (Gv big x a b c k) fun r => 0 ≤ r.2.2.2.1 ∧ r.2.2.2.1 ≤ V := by
 have hlo := ht.lo; have hhi := ht.hi;rw [Zbn, LB, Option.bind_some, Zx (n := (↑(List.length x.2.2.2.1) : Int) - 1) (by omega) (by omega)];refine Z1 (fun h => ?_) fun _ => Za ⟨Int.le_refl 0, hv⟩;simp only [Bool.and_eq_true, decide_eq_true_eq] at h;exact Zm h.1 (ZD (by omega) fun y hy => Za ⟨(ht.view y hy).1, hx y hy⟩)
theorem Zkk {S : Nat} (hS : S ≤ 1000000000) (n0 : Int) (ch : Bool) (li : Int) (tr : List ZL) (ps : List Zw) (ne : List Zo) (sa : List Z3) (pe : List VX) (s1 s2 s8 z0 z1 z2 z3 : Int) :
  ∀ (m n : Nat) (i : Int) (l : List Z3), 0 ≤ i → i ≤ 7 → (7 : Int) ≤ i + m → m < n → (l.length : Int) ≤ S + i → Ok (QQ n s1 s2 s8 l i n0 ch li tr ps ne sa pe z0 z1 z2 z3) fun r => r.1.2.1 = 0 ∨ r.1.2.1 = s8 := by
 intro m
 induction m with
 | zero =>
  intro n i l h0 h1 h2 h3 h4;obtain ⟨n, rfl⟩ : ∃ m, n = m + 1 := ⟨n - 1, by omega⟩
  rw [Fk];exact Ze (fun _ => Ze (fun h => by omega) fun _ => Zb (Zg6 l (by omega) _ _ _ _) fun _ hq => Za hq) fun _ => Zb (Zg6 l (by omega) _ _ _ _) fun _ hq => Za hq
 | succ m ih =>
  intro n i l h0 h1 h2 h3 h4;obtain ⟨n, rfl⟩ : ∃ m, n = m + 1 := ⟨n - 1, by omega⟩
  rw [Fk];refine Ze (fun _ => Ze (fun h => ?_) fun _ => Zb (Zg6 l (by omega) _ _ _ _) fun _ hq => Za hq) fun _ => Zb (Zg6 l (by omega) _ _ _ _) fun _ hq => Za hq;rw [Zx (n := i + 1) (by omega) (by omega)];exact Zb (Zaq _ _) fun _ _ => Z1 (fun _ => Zm (by simp only [List.length_singleton]; unfold lim; omega) (ih n (i + 1) _ (by omega) (by omega) (by omega) (by omega) (by rw [Y9]; omega))) fun _ => ih n (i + 1) _ (by omega) (by omega) (by omega) (by omega) (by omega)
theorem Zav {B S : Nat} {V : Int} (hS : S ≤ 1000000000) {x : Zi} (h : ClI B S V x) (hv : 0 ≤ V) (a k : Int) : Ok (QP big x a k) fun r => 0 ≤ r.1.2.1 ∧ r.1.2.1 ≤ V := by
 have ht := h.tree;have hlo := ht.lo; have hhi := ht.hi;have hsa := h.said;rw [ZgM, LB, Option.bind_some, Zx (n := (↑(List.length x.2.2.2.1) : Int) - 1) (by omega) (by omega)];refine ZT (fun _ => Za ⟨Int.le_refl 0, hv⟩) fun hk => ?_;simp only [Bool.and_eq_true, decide_eq_true_eq] at hk;refine Zm (by omega) (ZD (by omega) fun y hy => Zm (by unfold lim; omega) (X7 (Zkk hS _ _ _ _ _ _ _ _ _ _ _ _ _ _ _ 7 big 0 _ (by omega) (by omega) (by omega) (by unfold big; omega) (by omega)) fun r hr => ?_));have h1 := (ht.view y hy).1;have h2 := h.tv y hy;omega
theorem Zmc {B S : Nat} {V : Int} (hS : S ≤ 1000000000) {x : Zi} (h : ClI B S V x) (l : Zo) : Ok (GT big x l) fun _ => True := by
 have hsa := h.said;rw [ZbP];exact Zb (Eh h.tree _ _) fun _ _ => ZT (fun _ => Za trivial) fun _ => Zb (Zaq _ _) fun _ _ => ZT (fun _ => Za trivial) fun _ => Zb (Zi8 _ (by omega) _ _) fun _ _ => ZT (fun _ => Za trivial) fun _ => Yq (fun _ => Za trivial) fun _ => Zb (Zaq _ _) fun _ _ => Za trivial
theorem Zjf {B S : Nat} {V : Int} (hS : S ≤ 1000000000) {x : Zi} (h : ClI B S V x) (l : Zo) (hl : 0 ≤ l.2.2.2.1 ∧ l.2.2.2.1 ≤ V) : Ok (Xs big x l) fun r => ClI B S V r.2.1 := by
 rw [ZbR];exact Zb (Zmc hS h l) fun _ _ => ZT (fun _ => Za h) fun _ => Zb (Zhb h _ (by simp only [List.length_singleton]; omega) (Zha hl)) fun y hy => Za hy
theorem Zmd (x : Zi) (k : Int) : Ok (KA big x k) fun _ => True := by
 rw [TA];exact Z1 (fun _ => Za trivial) fun _ => Za trivial
theorem Zfd (l : List Zw) (hl : l.length ≤ 1000) {V : Int} (hv : ∀ p ∈ l, 0 ≤ p.2.1 ∧ p.2.1 ≤ V) : ∀ (m n : Nat) (a i : Int), 0 ≤ i → i ≤ l.length → (l.length : Int) ≤ i + m → m < n → (0 ≤ a ∧ a ≤ V) → Ok (Xq n l a i) fun r => 0 ≤ r ∧ r ≤ V
 | m, 0, a, i, _, _, _, h, _ => by omega
 | 0, n + 1, a, i, h0, h1, h2, h3, h4 => by
  rw [Ux];exact Ze (fun h => by omega) fun _ => Za h4
 | m + 1, n + 1, a, i, h0, h1, h2, h3, h4 => by
  rw [Ux, Zx (n := i + 1) (by omega) (by omega)];exact Ze (fun hi => Zm h0 (ZD (by omega) fun y _ => Ze (fun _ => Zm h0 (ZD (by omega) fun z hz => Zfd l hl hv m n _ (i + 1) (by omega) (by omega) (by omega) (by omega) (hv z hz))) fun _ => Zfd l hl hv m n _ (i + 1) (by omega) (by omega) (by omega) (by omega) h4)) fun _ => Za h4
theorem Zkl (l : List Zw) (hl : l.length ≤ 1000) {V : Int} (h0 : 0 ≤ V) (hv : ∀ p ∈ l, 0 ≤ p.2.1 ∧ p.2.1 ≤ V) : Ok (UF big l) fun r => 0 ≤ r ∧ r ≤ V := by
 rw [GX];exact Zfd l hl hv l.length big 0 0 (by omega) (by omega) (by omega) (by unfold big; omega) ⟨Int.le_refl 0, h0⟩
structure EvI (e : Yl) : Prop where
 num : 0 ≤ e.2.2.2.1
 less : e.2.2.2.1 ≤ 29
 key : ByteArray.size e.2.2.2.2.1.2.1 ≤ 1000
 kind : 1 ≤ e.1 ∧ e.1 ≤ 11
 ck : 0 ≤ e.2.2.2.2.1.1 ∧ e.2.2.2.2.1.1 ≤ 3
 att : 0 ≤ e.2.1 ∧ e.2.1 ≤ 1000
 too : 0 ≤ e.2.2.1 ∧ e.2.2.1 ≤ 1000
 cnu : 0 ≤ e.2.2.2.2.1.2.2.1 ∧ e.2.2.2.2.1.2.2.1 ≤ 1000000000
theorem KR {B S : Nat} {V : Int} (hS : S ≤ 1000000000) {x : Zi} (h : ClI B S V x) {e : Yl} (he : EvI e) (k view : Int) (hvw : 0 ≤ view ∧ view ≤ V) (q : H5) : Ok
  ((WA big x e.2.1).bind fun y_2 => bif !y_2 then some (false, x, PUnit.unit) else (Xr big x.2.2.2.1 x.1 q).bind fun y_3 => bif !y_3 then some (false, x, PUnit.unit) else (Vf big x.2.2.2.2.2.2.1 q x.2.2.1).bind fun y_4 => bif !y_4 then some (false, x, PUnit.unit) else
   (XH big x.2.2.2.1 (k, view, [e.2.2.2.2.1], q, ())).bind fun y_5 => bif decide (y_5.2.1 < (0 : Int)) then some (false, x, PUnit.unit) else (Xs big (x.1, x.2.1, x.2.2.1, y_5.1, x.2.2.2.2) ((1 : Int), e.2.1, e.2.2.1, view, y_5.2.1, q, ((0 : Int), (0 : Int), (0 : Int), (0 : Int), ()), ())).bind fun y =>
   bif !y.1 then some (false, (y.2.1.1, y.2.1.2.1, y.2.1.2.2.1, x.2.2.2.1, y.2.1.2.2.2.2), PUnit.unit) else some (true, y.2))
  fun r : Bool × Zi × Unit => ClI B S V r.2.1 := by
 have hsa := h.said;refine Zb (Zaq _ _) fun _ _ => ZT (fun _ => Za h) fun _ => Zb (Zat h.tree _ _) fun _ _ => ZT (fun _ => Za h) fun _ => Zb (Zi8 _ (by omega) _ _) fun _ _ => ZT (fun _ => Za h) fun _ =>
  Zb (Zdy h.tree (k, view, [e.2.2.2.2.1], q, ()) (fun c hc => by rw [List.mem_singleton.1 hc]; exact he.key) (by show List.length [_] ≤ _; simp only [List.length_singleton]; omega)) fun y5 hy5 => Ze (fun _ => Za h) fun _ => ?_
 have h5 : ClI B S V (x.1, x.2.1, x.2.2.1, y5.1, x.2.2.2.2) := ⟨h.n, hy5.1, h.peers, h.peer, h.net, h.said, h.pend, h.key, h.lv, hy5.2.2.2.2 V h.tv hvw.2⟩
 refine Zb (Zjf hS h5 _ hvw) fun y hy => ZT (fun _ => Za ⟨hy.n, h.tree, hy.peers, hy.peer, hy.net, hy.said, hy.pend, hy.key, hy.lv, h.tv⟩) fun _ => Za hy
set_option maxHeartbeats 4000000 in
theorem Zpb {B S : Nat} {V : Int} (hS : S ≤ 1000000000) (h30 : 30 ≤ V) (hV : V + 1 ≤ 900) {x : Zi} (h0 : ClI B S V x) {e : Yl} (he : EvI e) : Ok (Dz big x e) fun r => ClI B S (V + 1) r.2.1 := by
 have h := h0.up (V' := V + 1) (by omega) hV;have ht := h.tree;have hlo := ht.lo; have hhi := ht.hi;have hp := h.peers;have hm := Hu he.num (show (0 : Int) < (↑(List.length x.2.2.2.1) : Int) by omega);rw [TC];refine BG (by omega) (Zb (Zkl _ (by omega) (V := V) (by omega) fun p hp => by have := (h0.peer p hp).1.view; omega) fun y hy => ?_);have wy : K6.wrap (y + 1) = y + 1 := Zx (by omega) (by omega);refine Ze (fun _ => Zm hm.1 (Zm hm.2 (ZD (by omega) fun z hz => ?_))) fun _ => Z1 (fun _ => ?_) fun _ => ?_
 ·have z1 := (ht.view z hz).1
  have z2 := h0.tv z hz;have wz : K6.wrap (z.2.1 + 1) = z.2.1 + 1 := Zx (by omega) (by omega);rw [wz];refine Z1 (fun _ => ?_) fun _ => ?_
  ·exact Zb (Zav hS h (by omega) _ _) fun q _ => ZT (fun _ => Yq (fun _ => Za h) fun _ => KR hS h he _ _ (by omega) q.1) fun _ => KR hS h he _ _ (by omega) q.1
  ·exact Zb (Zav hS h (by omega) _ _) fun q _ => ZT (fun _ => Yq (fun _ => Za h) fun _ => KR hS h he _ _ (by omega) q.1) fun _ => KR hS h he _ _ (by omega) q.1
 ·rw [wy]
  exact Zb (Zav hS h (by omega) _ _) fun q _ => ZT (fun _ => Yq (fun _ => Za h) fun _ => KR hS h he _ _ (by omega) q.1) fun _ => KR hS h he _ _ (by omega) q.1
 ·rw [wy]
  exact Zb (Zav hS h (by omega) _ _) fun q _ => ZT (fun _ => Yq (fun _ => Za h) fun _ => KR hS h he _ _ (by omega) q.1) fun _ => KR hS h he _ _ (by omega) q.1
theorem ZrZ {B S : Nat} {V : Int} (hS : S ≤ 1000000000) (h30 : 30 ≤ V) (hV : V + 1 ≤ 900) {x : Zi} (h0 : ClI B S V x) {e : Yl} (he : EvI e) : Ok (ME big x e) fun r => ClI B S (V + 1) r.2.1 := by
 have h := h0.up (V' := V + 1) (by omega) hV;have ht := h.tree;have hlo := ht.lo; have hhi := ht.hi;have hn := he.num; have hn2 := he.less;have e9 : Int.tmod e.2.2.2.1 900 = e.2.2.2.1 := Int.tmod_eq_of_lt hn (by omega);rw [Ze3, e9, Zx (n := e.2.2.2.1 + 1) (by omega) (by omega)];refine Ze (fun _ => Za h) fun _ => Zb (Zaq _ _) fun _ _ => ZT (fun _ => Za h) fun _ => BG (by omega) (Ze (fun _ => Zb (Zmd _ _) fun y _ => Zb (Zmb ht (by omega) h.tv _ _ _ _) fun z hz => Zb (Zjf hS h z hz) fun w hw => Za hw) fun _ =>
  Ze (fun _ => Zb (Zmd _ _) fun y _ => Zb (Zav hS h (by omega) _ _) fun z hz => ZT (fun _ => Za h) fun _ => Zb (Zjf hS h _ hz) fun w hw => Za hw) fun _ =>
  Ze (fun _ => Zb (Zpb hS h30 hV h0 he) fun w hw => Za hw) fun _ => Zb (Zjf hS h _ ⟨by show 0 ≤ e.2.2.2.1 + 1; omega, by show e.2.2.2.1 + 1 ≤ V + 1; omega⟩) fun w hw => Za hw)
theorem pk5 {a : Int} (h : a ∈ [(0 : Int), 1, 7, 500, 999999999]) : 0 ≤ a ∧ a ≤ 1000000000 := by
 simp only [List.mem_cons, List.not_mem_nil, or_false] at h; omega
theorem Zn7 {c : Ya} (h : Zdw c) : Ok (Eb big c) fun r => Zdw r.2.1 ∧ ByteArray.size r.1.2.1 ≤ 1000 ∧ (0 ≤ r.1.1 ∧ r.1.1 ≤ 3) ∧ 0 ≤ r.1.2.2.1 ∧ r.1.2.2.1 ≤ 1000000000 := by
 rw [Zen];refine Zb (V7 h 3) fun y hy => ?_;refine Zb (Q := fun r => Zdw r.2.1 ∧ ByteArray.size r.1 ≤ 1000) ?_ fun y1 hy1 => ?_
 ·rw [Zel]
  refine Zb (Zqy hy.2.2.2 _ (by decide)) fun z hz => Za ⟨hz.2, ?_⟩;have h1 := hz.1;simp only [List.mem_cons, List.not_mem_nil, or_false] at h1;rcases h1 with h1 | h1 | h1 | h1 <;> rw [h1] <;> decide
 ·have h3 := hy.2.1 (by decide)
  refine Zb (Lo hy1.1 _ (by decide)) fun z hz => Za ⟨hz.2, hy1.2, ?_, pk5 hz.1⟩;show 0 ≤ K6.wrap (1 + y.1) ∧ K6.wrap (1 + y.1) ≤ 3;rw [Zx (by omega) (by omega)]; omega
theorem Zsy (n : Nat) : YB (n + 8) 0 = some 0 := by
 rw [XZ];simp only [Y2]
 kernel_rfl
theorem Zsz (n : Nat) : YB (n + 8) 1 = some 1 := by
 rw [XZ];simp only [Y2]
 kernel_rfl
theorem ZsA (n : Nat) : YB (n + 8) 2 = some 1 := by
 rw [XZ];simp only [Y2]
 kernel_rfl
theorem ZsB (n : Nat) : YB (n + 8) 8 = some 1 := by
 rw [XZ];simp only [Y2]
 kernel_rfl
theorem Zr0 {l : Int} (h : l = 0 ∨ l = 8 ∨ l = 1 ∨ l = 2) : ∃ v, YB big l = some v ∧ ¬ (1 : Int) < v := by
 have hb : big = (big - 8) + 8 := by decide
 rw [hb];rcases h with rfl | rfl | rfl | rfl
 ·exact ⟨_, Zsy _, by decide⟩
 ·exact ⟨_, ZsB _, by decide⟩
 ·exact ⟨_, Zsz _, by decide⟩
 ·exact ⟨_, ZsA _, by decide⟩
theorem Zme : Qw big 4 = some 1 := by
 rw [Aj];rfl
theorem Zns {V : Int} (hV : 1 ≤ V ∧ V ≤ 900) (i : Int) (h : 0 ≤ i ∧ i ≤ 1000) : J0 0 V (i, (1 : Int), ((0 : Int), (0 : Int), (0 : Int), (0 : Int), ()), ((0 : Int), (0 : Int), (0 : Int), (0 : Int), ()), ((0 : Int), (0 : Int), (0 : Int), (0 : Int), ()), [], [], [], [], [], [], (0 : Int), ()) :=
 ⟨⟨Nat.le_refl _, ⟨Nat.zero_le _, fun c hc => by cases hc⟩, Nat.zero_le _, ⟨Nat.zero_le _, fun c hc => by cases hc⟩, Nat.le_refl _, Nat.le_refl _, by show (1 : Int) ≤ 1 ∧ (1 : Int) ≤ V; omega, hV.2, ⟨Int.le_refl 0, Int.le_refl 0⟩⟩, h⟩
theorem Znt : WU [((-1 : Int), (0 : Int), [], ((0 : Int), (0 : Int), (0 : Int), (0 : Int), ()), ())] :=
 ⟨Nat.le_refl _, by decide, fun b hb => by rw [List.mem_singleton.1 hb]; exact ⟨Nat.zero_le _, fun c hc => by cases hc⟩, fun b hb => by rw [List.mem_singleton.1 hb]; show (0 : Int) ≤ 0 ∧ (0 : Int) ≤ 900; decide, fun b hb => by cases hb; exact ⟨rfl, rfl⟩, fun k b hb hk => by have := BU hb; simp only [List.length_singleton] at this; omega⟩
theorem Zmf {V : Int} (hV : 1 ≤ V ∧ V ≤ 900) (ch : Bool) (li : Int) : ∀ (m n i : Nat) (ps : List Zw), i ≤ 4 → 4 ≤ i + m → m < n → ps.length = i → (∀ p ∈ ps, J0 0 V p) →
  Ok (XV n 4 (i : Int) 0 false 0 [] [] [] [] [] 4 ch li [((-1 : Int), (0 : Int), [], ((0 : Int), (0 : Int), (0 : Int), (0 : Int), PUnit.unit), PUnit.unit)] ps [] [] []) fun r => ClI 0 0 V r.1 := by
 intro m;have fin : ∀ ps : List Zw, ps.length = 4 → (∀ p ∈ ps, J0 0 V p) → ClI 0 0 V ((4 : Int), ch, li, [((-1 : Int), (0 : Int), [], ((0 : Int), (0 : Int), (0 : Int), (0 : Int), ()), ())], ps, [], [], [], ()) := fun ps h1 h2 =>
  ⟨rfl, Znt, h1, h2, Nat.zero_le _, Nat.le_refl _, Nat.zero_le _, fun c hc => (by cases hc), BH, fun b hb => by rw [List.mem_singleton.1 hb]; show (0 : Int) ≤ V; omega⟩
 induction m with
 | zero =>
  intro n i ps h0 h1 h2 h3 h4;obtain ⟨n, rfl⟩ : ∃ m, n = m + 1 := ⟨n - 1, by omega⟩
  rw [W3];exact Ze (fun h => by omega) fun _ => Za (fin ps (by omega) h4)
 | succ m ih =>
  intro n i ps h0 h1 h2 h3 h4;obtain ⟨n, rfl⟩ : ∃ m, n = m + 1 := ⟨n - 1, by omega⟩
  rw [W3, Zx (n := (i : Int) + 1) (by omega) (by omega)];refine Ze (fun h => Zm (by unfold lim; omega) ?_) fun _ => Za (fin ps (by omega) h4);have e : (i : Int) + 1 = ((i + 1 : Nat) : Int) := by omega
  rw [e];refine ih n (i + 1) _ (by omega) (by omega) (by omega) (by rw [Y9]; omega) fun p hp => ?_;rcases List.mem_append.1 hp with hp | hp
  ·exact h4 p hp
  ·rw [List.mem_singleton.1 hp]; exact Zns hV i (by omega)
theorem ZqJ {V : Int} (hV : 1 ≤ V ∧ V ≤ 900) (ch : Bool) {l : Int} (h : l = 0 ∨ l = 8 ∨ l = 1 ∨ l = 2) : Ok (Xa big 4 ch l) fun r => ClI 0 0 V r.1 := by
 rw [JE, LB, Option.bind_some, show (decide ((1 : Int) ≤ 4) && decide ((4 : Int) ≤ 7)) = true from by decide, Bool.not_true, cond_false];refine BG (Oy 4) ?_;have e : K6.wrap (K6.wrap ((1 : Int) * (2 : Int) ^ min (IntKind.u64.wrap 4).toNat K6.bits) - (1 : Int)) = 15 := by decide
 have e2 : (decide ((0 : Int) ≤ l) && decide (l ≤ 15)) = true := by rcases h with rfl | rfl | rfl | rfl <;> decide
 rw [LB, e, e2, Option.bind_some, Bool.not_true, cond_false];obtain ⟨v, hv, hv1⟩ := Zr0 h;rw [hv, Option.bind_some, Zme, Option.bind_some];refine Ze (fun hc => absurd hc hv1) fun _ => ?_;have := Zmf hV ch l 4 big 0 [] (by decide) (by decide) (by decide) rfl (fun p hp => by cases hp);exact this
def EvR (x : Zi) (r : Yl × Ya × (Unit × Unit × Unit × List ZL × List Zw × List Zo × List Z3 × List VX × Unit) × Unit) : Prop :=
 EvI r.1 ∧ Zdw r.2.1 ∧ r.2.2.1 = ((), (), (), x.2.2.2.1, x.2.2.2.2.1, x.2.2.2.2.2.1, x.2.2.2.2.2.2.1, x.2.2.2.2.2.2.2.1, ())
theorem Znu (a b c : Int) (n : Int) (hn : 0 ≤ n ∧ n ≤ 29) (ha : 1 ≤ a ∧ a ≤ 11) (hb : 0 ≤ b ∧ b ≤ 1000) (hc : 0 ≤ c ∧ c ≤ 1000) : EvI (a, b, c, n, ((0 : Int), ByteArray.empty, (0 : Int), ()), ()) := ⟨hn.1, hn.2, by show ByteArray.size ByteArray.empty ≤ 1000; decide, ha, by show (0 : Int) ≤ 0 ∧ (0 : Int) ≤ 3; decide, hb, hc, by show (0 : Int) ≤ 0 ∧ (0 : Int) ≤ 1000000000; decide⟩
theorem ZsC {a : Int} (h : a ∈ [(4 : Int), 5]) : 1 ≤ a ∧ a ≤ 11 := by
 simp only [List.mem_cons, List.not_mem_nil, or_false] at h; omega
theorem ZsD {a : Int} (h : a ∈ [(8 : Int), 9, 11, 8]) : 1 ≤ a ∧ a ≤ 11 := by
 simp only [List.mem_cons, List.not_mem_nil, or_false] at h; omega
theorem ZsE (x : Zi) (hx : List.length x.2.2.2.2.1 ≤ 1000) (c : Ya) (hc : Zdw c) (z0 z1 z2 z3 z4 : Int) (z5 : ByteArray) (z6 : Int) : ∀ (m n : Nat) (i : Int), 0 ≤ i → i ≤ List.length x.2.2.2.2.1 → (List.length x.2.2.2.2.1 : Int) ≤ i + m → m < n →
  Ok (Wt n i c.1 c.2.1 c.2.2.1 x.2.2.2.1 x.2.2.2.2.1 x.2.2.2.2.2.1 x.2.2.2.2.2.2.1 x.2.2.2.2.2.2.2.1 x.1 x.2.1 x.2.2.1 z0 z1 z2 z3 z4 z5 z6) (EvR x) := by
 have fin : EvR x (((3 : Int), (0 : Int), (0 : Int), (0 : Int), ((0 : Int), ByteArray.empty, (0 : Int), PUnit.unit), PUnit.unit), (c.1, c.2.1, c.2.2.1, PUnit.unit), (PUnit.unit, PUnit.unit, PUnit.unit, x.2.2.2.1, x.2.2.2.2.1, x.2.2.2.2.2.1, x.2.2.2.2.2.2.1, x.2.2.2.2.2.2.2.1, PUnit.unit), PUnit.unit) := ⟨Znu _ _ _ _ (by decide) (by decide) (by decide) (by decide), hc, rfl⟩
 intro m
 induction m with
 | zero =>
  intro n i h0 h1 h2 h3;obtain ⟨n, rfl⟩ : ∃ m, n = m + 1 := ⟨n - 1, by omega⟩
  rw [KE];exact Ze (fun h => by omega) fun _ => Za fin
 | succ m ih =>
  intro n i h0 h1 h2 h3;obtain ⟨n, rfl⟩ : ∃ m, n = m + 1 := ⟨n - 1, by omega⟩
  rw [KE, Zx (n := i + 1) (by omega) (by omega)];refine Ze (fun hi => ?_) fun _ => Za fin;refine Zb (Lu (x.1, x.2.1, x.2.2.1, x.2.2.2.1, x.2.2.2.2.1, x.2.2.2.2.2.1, x.2.2.2.2.2.2.1, x.2.2.2.2.2.2.2.1, ()) i hx) fun b _ => Z1 (fun _ => Zm h0 (Zm hi ?_)) fun _ => ih n (i + 1) (by omega) (by omega) (by omega) (by omega);have hin : i.toNat < List.length x.2.2.2.2.1 := by omega
  rw [YV hin, Option.bind_some];refine Zb (ZlS _ _ _) fun y _ => DU hin ?_;rw [HP (YV hin)];refine Z1 (fun _ => Za ⟨Znu _ _ _ _ (by decide) (by decide) ⟨h0, by omega⟩ (by decide), hc, rfl⟩) fun _ => ih n (i + 1) (by omega) (by omega) (by omega) (by omega)
theorem ev4 (x : Zi) (hx : List.length x.2.2.2.2.1 ≤ 1000) (hne : List.length x.2.2.2.2.2.1 ≤ 1000) (h4 : x.1 = 4) (c : Ya) (hc : Zdw c) (s5 : Int) (z0 z1 z2 z3 z4 : Int) (z5 : ByteArray) (z6 : Int) : ∀ (m n : Nat) (s6 i : Int), (0 ≤ s6 ∧ s6 ≤ 4) → 0 ≤ i → i ≤ 4 → (4 : Int) ≤ i + m → m + 1001 < n →
  Ok (WR n s5 s6 i c.1 c.2.1 c.2.2.1 x.2.2.2.1 x.2.2.2.2.1 x.2.2.2.2.2.1 x.2.2.2.2.2.2.1 x.2.2.2.2.2.2.2.1 x.1 x.2.1 x.2.2.1 z0 z1 z2 z3 z4 z5 z6) (EvR x) := by
 intro m;have hc' : Zdw (c.1, c.2.1, c.2.2.1, ()) := hc
 induction m with
 | zero =>
  intro n s6 i h6 h0 h1 h2 h3;obtain ⟨n, rfl⟩ : ∃ m, n = m + 1 := ⟨n - 1, by omega⟩
  rw [JO];refine Ze (fun h => by omega) fun _ => Ze (fun _ => Zb (Zn7 hc') fun y hy => Za ⟨⟨by show (0 : Int) ≤ 0; decide, by show (0 : Int) ≤ 29; decide, hy.2.1, by show (1 : Int) ≤ 1 ∧ (1 : Int) ≤ 11; decide, hy.2.2.1, by show (0 : Int) ≤ 0 ∧ (0 : Int) ≤ 1000; decide, by show (0 : Int) ≤ 0 ∧ (0 : Int) ≤ 1000; decide, hy.2.2.2⟩, hy.1, rfl⟩) fun _ =>
   Ze (fun _ => ZsE x hx c hc _ _ _ _ _ _ _ (List.length x.2.2.2.2.1) n 0 (by omega) (by omega) (by omega) (by omega)) fun _ =>
   Ze (fun _ => Ze (fun hb3 => Zb (Zn3 hc' 3) fun y hy => Z1 (fun _ => Zb (V7 hy _) fun z hz => Za ⟨Znu _ _ _ _ (by decide) (by decide) ⟨hz.1, by have := hz.2.1 hb3; omega⟩ (by decide), hz.2.2.2, rfl⟩) fun _ => Za ⟨Znu _ _ _ _ (by decide) (by decide) (by decide) (by decide), hy, rfl⟩) fun _ => Za ⟨Znu _ _ _ _ (by decide) (by decide) (by decide) (by decide), hc, rfl⟩) fun _ =>
   Ze (fun _ => Zb (Lo hc' _ (by decide)) fun y hy => Zb (V7 hy.2 _) fun z hz => Za ⟨Znu _ _ _ _ (by decide) (ZsC hy.1) ⟨hz.1, by have := hz.2.1 (by decide); omega⟩ (by decide), hz.2.2.2, rfl⟩) fun _ =>
   Ze (fun _ => Zb (V7 hc' _) fun z hz => Za ⟨Znu _ _ _ _ (by decide) (by decide) ⟨hz.1, by have := hz.2.1 (by decide); omega⟩ (by decide), hz.2.2.2, rfl⟩) fun _ =>
   Ze (fun _ => Zb (V7 hc' _) fun z hz => Za ⟨Znu _ _ _ _ (by decide) (by decide) ⟨hz.1, by have := hz.2.1 (by decide); omega⟩ (by decide), hz.2.2.2, rfl⟩) fun _ =>
   Zb (V7 hc' _) fun y hy => Zb (V7 hy.2.2.2 _) fun z hz => Ze (fun _ => Zb (Zn7 hz.2.2.2) fun w hw => Za ⟨⟨hy.1, by have := hy.2.1 (by decide); show y.1 ≤ 29; omega, hw.2.1, by show (1 : Int) ≤ 10 ∧ (10 : Int) ≤ 11; decide, hw.2.2.1, by show 0 ≤ s6 ∧ s6 ≤ 1000; omega, by have := hz.2.1 (by decide); show 0 ≤ z.1 ∧ z.1 ≤ 1000; omega, hw.2.2.2⟩, hw.1, rfl⟩) fun _ => Zb (Lo hz.2.2.2 _ (by decide)) fun w hw => Za ⟨Znu _ _ _ _ ⟨hy.1, by have := hy.2.1 (by decide); omega⟩ (ZsD hw.1) ⟨h6.1, by omega⟩ ⟨hz.1, by have := hz.2.1 (by decide); omega⟩, hw.2, rfl⟩
 | succ m ih =>
  intro n s6 i h6 h0 h1 h2 h3;rcases Int.lt_or_le i 4 with hi | hi
  ·obtain ⟨n, rfl⟩ : ∃ m, n = m + 1 := ⟨n - 1, by omega⟩
   rw [JO, Zx (n := i + 1) (by omega) (by omega)];refine Ze (fun h => Zb (Zaq _ _) fun _ _ => Z1 (fun _ => ih n _ (i + 1) (by omega) (by omega) (by omega) (by omega) (by omega)) fun _ => ih n _ (i + 1) h6 (by omega) (by omega) (by omega) (by omega)) fun h => by omega
  ·exact ih n s6 i h6 h0 h1 (by omega) (by omega)
theorem Zpc (x : Zi) (hx : List.length x.2.2.2.2.1 ≤ 1000) (hne : List.length x.2.2.2.2.2.1 ≤ 1000) (h4 : x.1 = 4) (c : Ya) (hc : Zdw c) : Ok (DD big c x) (EvR x) := by
 rw [TE];exact Zb (V7 hc 20) fun y hy => ev4 x hx hne h4 y.2.1 hy.2.2.2 _ _ _ _ _ _ _ _ 4 big 0 0 (by decide) (by omega) (by omega) (by omega) (by unfold big; omega)
theorem Zmg (b0 : Int) (b1 : Int) (b2 : Int) (b3 : Int) (b4 : Int) (b5 : Int) (b6 : Int) (b7 : Int) (b8 : Int) (b9 : Int) (b10 : Int) (b11 : Int) (b12 : Int) (b13 : Int) (b14 : List Int) (b15 : List Ys) (b16 : List Int) (b17 : List Xv) (b18 : List Z3) (b19 : List Zo) (b20 : Int) (hn : b19.length ≤ 1000000000) (z0 z1 z2 z3 : Int) : ∀ (m n : Nat) (i y0 y1 y2 y3 : Int), 0 ≤ i → i ≤ b19.length → (b19.length : Int) ≤ i + m → m < n →
  Ok (Kn n i b0 b1 b2 b3 b4 b5 b6 b7 b8 b9 b10 b11 b12 b13 b14 b15 b16 b17 b18 b19 b20 z0 z1 z2 z3 y0 y1 y2 y3) fun r => y1 ≤ r.2.1 := by
 intro m
 induction m with
 | zero =>
  intro n i y0 y1 y2 y3 h0 h1 h2 h3;obtain ⟨n, rfl⟩ : ∃ m, n = m + 1 := ⟨n - 1, by omega⟩
  rw [Cm];exact Ze (fun h => by omega) fun _ => Za (Int.le_refl _)
 | succ m ih =>
  intro n i y0 y1 y2 y3 h0 h1 h2 h3;obtain ⟨n, rfl⟩ : ∃ m, n = m + 1 := ⟨n - 1, by omega⟩
  rw [Cm, Zx (n := i + 1) (by omega) (by omega)];exact Ze (fun hi => Zm h0 (ZD (by omega) fun y _ => Zb (AU _ _) fun z hz => X7 (ih n (i + 1) _ _ _ _ (by omega) (by omega) (by omega) (by omega)) fun r hr => Int.le_trans hz.2 hr)) fun _ => Za (Int.le_refl _)
theorem ZqK {p : Zw} (h : List.length p.2.2.2.2.2.2.2.2.2.2.1 ≤ 1000000000) : Ok (L7 big p) fun r => p.2.2.1.2.1 ≤ r.2.1 := by
 rw [Zet];exact Zmg _ _ _ _ _ _ _ _ _ _ _ _ _ _ _ _ _ _ _ _ _ h _ _ _ _ (List.length p.2.2.2.2.2.2.2.2.2.2.1) big 0 _ _ _ _ (by omega) (by omega) (by omega) (by unfold big; omega)
theorem Zpd {B : Nat} {V : Int} (hB : B ≤ 1000000000) {t : List ZL} (ht : WU t) {p : Zw} (h : Yu B V p) (l : List VX) (hl : l.length ≤ 1000) (hk : ∀ c ∈ l, ByteArray.size c.2.1 ≤ 1000) :
  Ok (Wq big t p l) fun r => WU r.1 ∧ Yu B V r.2.1 ∧ r.2.1.1 = p.1 ∧ ((∀ x ∈ t, x.2.1 ≤ V) → ∀ x ∈ r.1, x.2.1 ≤ V) := by
 rw [Zgu];refine Zb (ZqK (Nat.le_trans h.news hB)) fun q hq => Zb (Zdy ht (q.2.2.1, p.2.1, l, q, ()) hk (by show l.length ≤ _; omega)) fun y hy => ?_;rw [FG hB h, Option.bind_some];have tv : (∀ x ∈ t, x.2.1 ≤ V) → ∀ x ∈ y.1, x.2.1 ≤ V := fun k => hy.2.2.2.2 V k h.view.2;exact Ze (fun _ => Za ⟨hy.1, h, rfl, tv⟩) fun _ => Za ⟨hy.1, ⟨h.row, h.cells, h.early, h.undos, h.votes, h.news, h.view, h.top, ⟨Int.le_trans h.hq.1 hq, h.hq.2⟩⟩, rfl, tv⟩
theorem ZdD {V : Int} (b0 : Int) (b1 : Int) (b2 : Int) (b3 : Int) (b4 : Int) (b5 : Int) (b6 : Int) (b7 : Int) (b8 : Int) (b9 : Int) (b10 : Int) (b11 : Int) (b12 : Int) (b13 : Int) (b14 : List Int) (b15 : List Ys) (b16 : List Int) (b17 : List Xv) (b18 : List Z3) (b19 : List Zo) (b20 : Int) (hb1 : 0 ≤ b1 ∧ b1 ≤ V) (s2 s3 z0 z1 z2 z3 : Int) : ∀ (m n : Nat) (i : Int) (l : List Zo), 0 ≤ i → i ≤ 7 → (7 : Int) ≤ i + m → m < n → (l.length : Int) ≤ i → Lv V l →
  Ok (Vu n s2 s3 l i b0 b1 b2 b3 b4 b5 b6 b7 b8 b9 b10 b11 b12 b13 b14 b15 b16 b17 b18 b19 b20 z0 z1 z2 z3) fun r => List.length r ≤ 7 ∧ Lv V r := by
 intro m
 induction m with
 | zero =>
  intro n i l h0 h1 h2 h3 h4 h5;obtain ⟨n, rfl⟩ : ∃ m, n = m + 1 := ⟨n - 1, by omega⟩
  rw [Bd];exact Ze (fun _ => Ze (fun h => by omega) fun _ => Za ⟨by omega, h5⟩) fun _ => Za ⟨by omega, h5⟩
 | succ m ih =>
  intro n i l h0 h1 h2 h3 h4 h5;obtain ⟨n, rfl⟩ : ∃ m, n = m + 1 := ⟨n - 1, by omega⟩
  rw [Bd, Zx (n := i + 1) (by omega) (by omega)];exact Ze (fun _ => Ze (fun h => Zm (by simp only [List.length_singleton]; unfold lim; omega) (ih n (i + 1) _ (by omega) (by omega) (by omega) (by omega) (by rw [Y9]; omega) (h5.snoc hb1))) fun _ => Za ⟨by omega, h5⟩) fun _ => Za ⟨by omega, h5⟩
theorem Zmh {V : Int} {t : List ZL} (ht : WU t) (p : Zw) (hp : 0 ≤ p.2.1 ∧ p.2.1 ≤ V) (k n : Int) : Ok (Gs big t p k n) fun r => List.length r ≤ 7 ∧ Lv V r := by
 have hlo := ht.lo; have hhi := ht.hi;rw [Zbl, LB, Option.bind_some, Zx (n := (↑(List.length t) : Int) - 1) (by omega) (by omega)];refine Z1 (fun h => ?_) fun _ => ZdD _ _ _ _ _ _ _ _ _ _ _ _ _ _ _ _ _ _ _ _ _ hp _ _ _ _ _ _ 7 big 0 [] (by omega) (by omega) (by omega) (by unfold big; omega) (by decide) BH;simp only [Bool.and_eq_true, decide_eq_true_eq] at h;exact Zm h.1 (ZD (by omega) fun y _ => ZdD _ _ _ _ _ _ _ _ _ _ _ _ _ _ _ _ _ _ _ _ _ hp _ _ _ _ _ _ 7 big 0 [] (by omega) (by omega) (by omega) (by unfold big; omega) (by decide) BH)
theorem Znv {B S : Nat} {V : Int} {x : Zi} (h : ClI B S V x) (i : Int) (hi : 0 ≤ i ∧ i < (List.length x.2.2.2.2.1 : Int)) (k : Int) (hk : 0 ≤ k ∧ k ≤ (List.length x.2.2.2.2.2.2.2.1 : Int)) {t : List ZL} (ht : WU t) (htv : ∀ b ∈ t, b.2.1 ≤ V) (at_ : Int) (b0 : Int) (b1 : Int) (b2 : Int) (b3 : Int) (b4 : Int) (b5 : Int) (b6 : Int) (b7 : Int) (b8 : Int) (b9 : Int) (b10 : Int) (b11 : Int) (b12 : Int) (b13 : Int) (b14 : List Int) (b15 : List Ys) (b16 : List Int) (b17 : List Xv) (b18 : List Z3) (b19 : List Zo) (b20 : Int) (hp : J0 B V (b0, b1, (b2, b3, b4, b5, ()), (b6, b7, b8, b9, ()), (b10, b11, b12, b13, ()), b14, b15, b16, b17, b18, b19, b20, ())) (n : Nat) (hn : 0 < n) :
  Ok (ZU n i k t at_ x.1 x.2.1 x.2.2.1 x.2.2.2.1 x.2.2.2.2.1 x.2.2.2.2.2.1 x.2.2.2.2.2.2.1 x.2.2.2.2.2.2.2.1 b0 b1 b2 b3 b4 b5 b6 b7 b8 b9 b10 b11 b12 b13 b14 b15 b16 b17 b18 b19 b20) fun r => ClI B S V r.2.1 := by
 obtain ⟨n, rfl⟩ : ∃ m, n = m + 1 := ⟨n - 1, by omega⟩
 have hpe := h.pend;rw [BM];refine Ze (fun _ => Za h) fun _ => Zm hi.1 (Zm hi.2 (ZD (by omega) fun _ _ => Zm hk.1 (Zm hk.2 (Zm (by simp only [List.length_take, List.length_drop]; unfold lim; omega) (Zb (Zmh (V := V) ht _ ⟨by have h9 : 1 ≤ b1 := hp.1.view.1; show 0 ≤ b1; omega, hp.1.view.2⟩ _ _) fun l hl => DU (by omega) ?_)))));have h2 : ClI B S V (x.1, x.2.1, x.2.2.1, t, upd x.2.2.2.2.1 i.toNat (b0, b1, (b2, b3, b4, b5, ()), (b6, b7, b8, b9, ()), (b10, b11, b12, b13, ()), b14, b15, b16, b17, b18, b19, b20, ()), x.2.2.2.2.2.1, x.2.2.2.2.2.2.1, List.take (List.length x.2.2.2.2.2.2.2.1 - k.toNat) (List.drop k.toNat x.2.2.2.2.2.2.2.1), ()) := by
  refine ⟨h.n, ht, ?_, Q6 hp h.peer, h.net, h.said, ?_, fun c hc => ?_, h.lv, htv⟩
  ·show List.length (upd x.2.2.2.2.1 i.toNat (b0, b1, (b2, b3, b4, b5, ()), (b6, b7, b8, b9, ()), (b10, b11, b12, b13, ()), b14, b15, b16, b17, b18, b19, b20, ())) = 4
   rw [ZG]; exact h.peers
  ·show List.length (List.take (List.length x.2.2.2.2.2.2.2.1 - k.toNat) (List.drop k.toNat x.2.2.2.2.2.2.2.1)) ≤ 8
   simp only [List.length_take, List.length_drop]; omega
  ·exact h.key c (List.mem_of_mem_drop (List.mem_of_mem_take hc))
 exact Zb (Zhb h2 l (by omega) hl.2) fun w hw => Za hw
set_option maxHeartbeats 16000000 in
theorem ZqL {B S : Nat} {V : Int} (hB : B ≤ 1000000000) {x : Zi} (h : ClI B S V x) (i : Int) : Ok (GZ big x i) fun r => ClI B S V r.2.1 := by
 have hp : List.length x.2.2.2.2.1 = 4 := h.peers;have hpe := h.pend;have hu : ∀ y, (upd x.2.2.2.2.1 i.toNat y).length = List.length x.2.2.2.2.1 := fun y => ZG _ _ _;rw [ZbT];refine Zb (Lu _ _ (by omega)) fun b hb => ZT (fun _ => Za h) fun hb1 => ?_;have hi := hb hb1;refine Zm hi.1 (Zm hi.2 ?_);have hin : i.toNat < List.length x.2.2.2.2.1 := by omega
 have hy := h.peer _ (List.getElem_mem hin);rw [YV hin, Option.bind_some];generalize x.2.2.2.2.1[i.toNat] = y0 at hy;refine Zb (ZlS _ _ _) fun y _ => DU hin ?_;have one : ∀ z, J0 B V z → ClI B S V (x.1, x.2.1, x.2.2.1, x.2.2.2.1, upd x.2.2.2.2.1 i.toNat z, x.2.2.2.2.2) := fun z hz =>
  ⟨h.n, h.tree, by show (upd _ _ _).length = 4; rw [hu]; exact hp, Q6 hz h.peer, h.net, h.said, h.pend, h.key, h.lv, h.tv⟩
 have h1 := one y0 hy;have hl : (upd x.2.2.2.2.1 i.toNat y0).length = 4 := by rw [hu]; exact hp
 refine ZT (fun _ => Za h1) fun _ => Ze (fun _ => Za h1) fun _ => ?_;generalize upd x.2.2.2.2.1 i.toNat y0 = ps at h1 hl;have hi2 : i < (ps.length : Int) := by omega
 have fin : ∀ (k : Int), 0 ≤ k → k ≤ (List.length x.2.2.2.2.2.2.2.1 : Int) → Ok ((nth ps i.toNat).bind fun y_2 => (Wq big x.2.2.2.1 y_2 (List.take (k.toNat - (0 : Nat)) (List.drop (0 : Nat) x.2.2.2.2.2.2.2.1))).bind fun y_3 => (Ei ps i.toNat y_2).bind fun y =>
   ZU big i k y_3.1 y_3.2.2.1 x.1 x.2.1 x.2.2.1 x.2.2.2.1 y x.2.2.2.2.2.1 x.2.2.2.2.2.2.1 x.2.2.2.2.2.2.2.1 y_3.2.1.1 y_3.2.1.2.1 y_3.2.1.2.2.1.1 y_3.2.1.2.2.1.2.1 y_3.2.1.2.2.1.2.2.1 y_3.2.1.2.2.1.2.2.2.1 y_3.2.1.2.2.2.1.1 y_3.2.1.2.2.2.1.2.1 y_3.2.1.2.2.2.1.2.2.1 y_3.2.1.2.2.2.1.2.2.2.1 y_3.2.1.2.2.2.2.1.1 y_3.2.1.2.2.2.2.1.2.1 y_3.2.1.2.2.2.2.1.2.2.1 y_3.2.1.2.2.2.2.1.2.2.2.1 y_3.2.1.2.2.2.2.2.1 y_3.2.1.2.2.2.2.2.2.1 y_3.2.1.2.2.2.2.2.2.2.1 y_3.2.1.2.2.2.2.2.2.2.2.1 y_3.2.1.2.2.2.2.2.2.2.2.2.1 y_3.2.1.2.2.2.2.2.2.2.2.2.2.1 y_3.2.1.2.2.2.2.2.2.2.2.2.2.2.1)
   fun r : Bool × Zi × Unit => ClI B S V r.2.1 := fun k h0 hk => by
  refine ZD (by omega) fun z hz => Zb (Zpd hB h.tree (h1.peer z hz).1 _ (by simp only [List.length_take, List.length_drop]; omega) fun c hc => h.key c (List.mem_of_mem_drop (List.mem_of_mem_take hc))) fun w hw => DU (by omega) ?_;have h2 : ClI B S V (x.1, x.2.1, x.2.2.1, x.2.2.2.1, upd ps i.toNat z, x.2.2.2.2.2) := ⟨h.n, h.tree, by show (upd _ _ _).length = 4; rw [ZG]; exact hl, Q6 (h1.peer z hz) h1.peer, h.net, h.said, h.pend, h.key, h.lv, h.tv⟩
  have := Znv h2 i ⟨hi.1, by show i < ((upd ps i.toNat z).length : Int); rw [ZG]; exact hi2⟩ k ⟨h0, hk⟩ hw.1 (hw.2.2.2 h.tv) w.2.2.1 w.2.1.1 w.2.1.2.1 w.2.1.2.2.1.1 w.2.1.2.2.1.2.1 w.2.1.2.2.1.2.2.1 w.2.1.2.2.1.2.2.2.1 w.2.1.2.2.2.1.1 w.2.1.2.2.2.1.2.1 w.2.1.2.2.2.1.2.2.1 w.2.1.2.2.2.1.2.2.2.1 w.2.1.2.2.2.2.1.1 w.2.1.2.2.2.2.1.2.1 w.2.1.2.2.2.2.1.2.2.1 w.2.1.2.2.2.2.1.2.2.2.1 w.2.1.2.2.2.2.2.1 w.2.1.2.2.2.2.2.2.1 w.2.1.2.2.2.2.2.2.2.1 w.2.1.2.2.2.2.2.2.2.2.1 w.2.1.2.2.2.2.2.2.2.2.2.1 w.2.1.2.2.2.2.2.2.2.2.2.2.1 w.2.1.2.2.2.2.2.2.2.2.2.2.2.1 ((h1.peer z hz).of hw.2.1 hw.2.2.1) big (by decide);exact this
 refine Ze (fun hc => ?_) fun hc => ?_
 ·have := fin 4 (by decide) (by omega)
  have g4 : 0 + (List.take (Int.toNat (4 : Int) - (0 : Nat)) (List.drop (0 : Nat) x.2.2.2.2.2.2.2.1)).length ≤ lim := by simp only [List.length_take, List.length_drop]; unfold lim; omega
  simp only [if_pos hi.1, if_pos hi2, if_pos (show (4 : Int) ≤ (↑(List.length x.2.2.2.2.2.2.2.1) : Int) by omega), if_pos g4, Xe];exact this
 ·have := fin (↑(List.length x.2.2.2.2.2.2.2.1) : Int) (by omega) (by omega)
  have g4 : 0 + (List.take (Int.toNat (↑(List.length x.2.2.2.2.2.2.2.1) : Int) - (0 : Nat)) (List.drop (0 : Nat) x.2.2.2.2.2.2.2.1)).length ≤ lim := by simp only [List.length_take, List.length_drop]; unfold lim; omega
  simp only [if_pos hi.1, if_pos hi2, if_pos g4, Xe, if_pos (show (0 : Int) ≤ (↑(List.length x.2.2.2.2.2.2.2.1) : Int) by omega), if_pos (Int.le_refl (↑(List.length x.2.2.2.2.2.2.2.1) : Int))];exact this
theorem ZsF {B S : Nat} {V : Int} (h0 : 30000 ≤ B) (hB : B ≤ 100000000) (hS : S ≤ 900000000) (h30 : 30 ≤ V) (hV : V + 1 ≤ 900) {x : Zi} (h : ClI B S V x) {e : Yl} (he : EvI e) : Ok (TG big x e) fun r => ClI (B + 60) (S + 7) (V + 1) r.2.1 := by
 have hpe := h.pend;have hp : List.length x.2.2.2.2.1 = 4 := h.peers;have up : ∀ {y : Zi}, ClI B S V y → ClI (B + 60) (S + 7) (V + 1) y := fun hy => (hy.up (by omega) hV).mono (by omega) (by omega);have up1 : ∀ {y : Zi}, ClI B S (V + 1) y → ClI (B + 60) (S + 7) (V + 1) y := fun hy => hy.mono (by omega) (by omega);rw [ZgQ];simp only [Xe];refine Ze (fun _ => Ze (fun _ => Za (up h)) fun hc => Zm (by unfold lim; omega) (Zm (by simp only [List.length_singleton]; unfold lim; omega) (Za ?_))) fun _ => ?_
 ·refine up ⟨h.n, h.tree, h.peers, h.peer, h.net, h.said, ?_, fun c hc => ?_, h.lv, h.tv⟩
  ·show (List.append _ [_]).length ≤ 8
   rw [Y9]; omega
  ·rcases List.mem_append.1 hc with hc | hc
   ·exact h.key c hc
   ·rw [List.mem_singleton.1 hc]; exact he.key
 refine Ze (fun _ => Zb (ZqL (by omega) h _) fun y hy => Za (up hy)) fun _ => Ze (fun _ => Zb (Zo5 (by omega) (by omega) hV h _) fun y hy => Za hy) fun _ => Ze (fun _ => Zb (ZqE h _) fun y hy => Za (up hy.1)) fun _ =>
  Ze (fun _ => Zb (Zo6 h _) fun y hy => Za (up hy)) fun _ => Ze (fun _ => Zb (ZqG (by omega) hV h _) fun y hy => Za (up1 hy)) fun _ => Ze (fun _ => ?_) fun _ => Zb (ZrZ (by omega) h30 hV h he) fun y hy => Za (up1 hy)
 refine Zb (Lu _ _ (by omega)) fun b hb => ZT (fun _ => Za (up h)) fun hb1 => ?_;have hi := hb hb1;have hu : ∀ y, (upd x.2.2.2.2.1 (Int.toNat e.2.1) y).length = List.length x.2.2.2.2.1 := fun y => ZG _ _ _;refine Zm hi.1 (Zm hi.2 (ZD (by omega) fun y hy => Zb (Znr h0 hB h.tree (h.peer y hy).1 (h.peer y hy).2) fun z hz => DU (by omega) (Zm hi.1 (Zm (by rw [hu]; exact hi.2) (ZD (by rw [hu]; omega) fun _ _ => DU (by rw [hu]; omega) (Za (up ?_)))))));exact ⟨h.n, h.tree, by show (upd (upd _ _ _) _ _).length = 4; rw [ZG, hu]; exact hp, Q6 ((h.peer y hy).of hz.1 hz.2) (Q6 (h.peer y hy) h.peer), h.net, h.said, h.pend, h.key, h.lv, h.tv⟩
def ZqM (l : List Yl) : Prop := l.length ≤ 110 ∧ ∀ e ∈ l, EvI e
theorem Znw {most : Int} (hm : most ≤ 110) (s6 : Bool) (s7 : Int) : ∀ (m n : Nat) (out : List Yl) (c : Ya) (x : Zi), 110 ≤ out.length + m → m < n → ZqM out → Zdw c → ClI (30000 + 60 * out.length) (7 * out.length) (40 + out.length) x →
  Ok (XB n s6 s7 most out c.1 c.2.1 c.2.2.1 x.1 x.2.1 x.2.2.1 x.2.2.2.1 x.2.2.2.2.1 x.2.2.2.2.2.1 x.2.2.2.2.2.2.1 x.2.2.2.2.2.2.2.1) fun r => r.2.1 = s7 ∧ ZqM r.2.2.1 := by
 intro m
 induction m with
 | zero =>
  intro n out c x h0 h1 h2 hc hx;obtain ⟨n, rfl⟩ : ∃ m, n = m + 1 := ⟨n - 1, by omega⟩
  rw [KF];exact Ze (fun h => by have := h2.1; omega) fun _ => Za ⟨rfl, h2⟩
 | succ m ih =>
  intro n out c x h0 h1 h2 hc hx;obtain ⟨n, rfl⟩ : ∃ m, n = m + 1 := ⟨n - 1, by omega⟩
  rw [KF];have hp : List.length x.2.2.2.2.1 = 4 := hx.peers;have hl := h2.1;refine Ze (fun h => ?_) fun _ => Za ⟨rfl, h2⟩;refine Zb (Zpc (x.1, x.2.1, x.2.2.1, x.2.2.2.1, x.2.2.2.2.1, x.2.2.2.2.2.1, x.2.2.2.2.2.2.1, x.2.2.2.2.2.2.2.1, ()) (by show List.length x.2.2.2.2.1 ≤ 1000; omega) (by have := hx.net; show List.length x.2.2.2.2.2.1 ≤ 1000; omega) hx.n (c.1, c.2.1, c.2.2.1, ()) hc) fun z hz => ?_;obtain ⟨e1, e2, e3⟩ := hz;rw [e3];refine Zb (ZsF (by omega) (by omega) (by omega) (by omega) (by omega) (x := x) hx e1) fun w hw => Zm (by unfold lim; omega) ?_;have e : (List.append out [z.1]).length = out.length + 1 := Y9;refine ih n _ z.2.1 w.2.1 (by omega) (by omega) ⟨by omega, fun y hy => ?_⟩ e2 (by rw [e]; exact (hw.up (by omega) (by omega)).mono (by omega) (by omega));rcases List.mem_append.1 hy with hy | hy
  ·exact h2.2 y hy
  ·rw [List.mem_singleton.1 hy]; exact e1
theorem Znx (code : List Int) (hl : code.length ≤ 1099511627776) : Ok (AG big code) fun r => (r.2.1 = 0 ∨ r.2.1 = 8 ∨ r.2.1 = 1 ∨ r.2.1 = 2) ∧ ZqM r.2.2.1 := by
 rw [OR];refine Zb (Zqz code hl) fun c hc => Zb (Zn3 hc 2) fun y hy => Zb (Lo hy _ (by decide)) fun z hz => ?_;have h1 : z.1 = 0 ∨ z.1 = 8 ∨ z.1 = 1 ∨ z.1 = 2 := by
  have h1 := hz.1;simp only [List.mem_cons, List.not_mem_nil, or_false] at h1;omega
 have go : ∀ most : Int, most ≤ 110 → Ok ((Xa big 4 y.1 z.1).bind fun y_2 => XB big y.1 z.1 most [] z.2.1.1 z.2.1.2.1 z.2.1.2.2.1 y_2.1.1 y_2.1.2.1 y_2.1.2.2.1 y_2.1.2.2.2.1 y_2.1.2.2.2.2.1 y_2.1.2.2.2.2.2.1 y_2.1.2.2.2.2.2.2.1 y_2.1.2.2.2.2.2.2.2.1) fun r => (r.2.1 = 0 ∨ r.2.1 = 8 ∨ r.2.1 = 1 ∨ r.2.1 = 2) ∧ ZqM r.2.2.1 := fun most hm =>
  Zb (ZqJ (V := 40) (by decide) y.1 h1) fun w hw => X7 (Znw hm y.1 z.1 110 big [] z.2.1 w.1 (by decide) (by decide) ⟨by decide, fun e he => by cases he⟩ hz.2 (hw.mono (by decide) (by decide))) fun r hr => ⟨by rw [hr.1]; exact h1, hr.2⟩
 exact Ze (fun _ => go _ (by decide)) fun h => go _ (by omega)
end Go.Sx.Tryz
set_option maxRecDepth 100000
namespace Go.Sx.Tryz.Rd
open Go Go.Sx Go.Proofs
open Go.IntKind renaming i64 → K6
def dz (m : Nat) : List UInt8 := if m = 0 then [] else Lib.decDigits m
def bL (l : List UInt8) : ByteArray := ByteArray.mk l.toArray
theorem Zhc (l r : List UInt8) : bL (l ++ r) = bL l ++ bL r := by
 apply ByteArray.ext;simp [bL]
theorem Zpe (s : ByteArray) : bL s.data.toList = s := by apply ByteArray.ext; simp [bL]
theorem Zmi (l : List UInt8) : (bL l).data.toList = l := by simp [bL]
theorem bL_size (l : List UInt8) : (bL l).size = l.length := by simp [bL, ByteArray.size]
theorem Zpf {m : Nat} (h : m ≠ 0) : dz m = dz (m / 10) ++ [UInt8.ofNat (48 + m % 10)] := by
 unfold dz;rw [if_neg h]
 by_cases h1 : m < 10
 ·rw [if_pos (by omega), Lib.decDigits_one h1, Nat.mod_eq_of_lt h1]; rfl
 ·rw [if_neg (by omega)]
  rw [Lib.decDigits, dif_neg h1]
theorem fig {d : Nat} (h : d < 10) : Qp big (d : Int) = some ((48 + d : Nat) : Int) := by
 rw [OU, decide_eq_true (by omega), cond_true, Zx (by omega) (by omega), IntKind.wrap_u8];congr 1;omega
theorem Zjg : ∀ (k n m : Nat) (s : ByteArray), m < 10 ^ k → m < 9223372036854775808 → k < n → s.size + k ≤ 1000 → VA n (m : Int) false s = some (bL (dz m) ++ s)
 | k, 0, m, s, _, _, h, _ => by omega
 | k, n + 1, m, s, h1, h2, h3, h4 => by
  rw [OV]
  by_cases h0 : m = 0
  ·subst h0
   rw [decide_eq_true (by rfl), Bool.not_true, cond_false, cond_false];congr 1
  ·rw [decide_eq_false (by omega), Bool.not_false, cond_true]
   have e1 : ((m : Int)).tmod 10 = ((m % 10 : Nat) : Int) := (Int.ofNat_tmod m 10).symm;have e2 : ((m : Int)).tdiv 10 = ((m / 10 : Nat) : Int) := (Int.ofNat_tdiv m 10).symm;cases k with
   | zero => omega
   | succ k =>
    have hq : m / 10 < 10 ^ k := by rw [Nat.pow_succ] at h1; omega
    rw [e1, e2, decide_eq_false (by omega), cond_false, fig (Nat.mod_lt _ (by decide)), Option.bind_some, Zx (by omega) (by omega)];have e3 : (ByteArray.mk (List.map (fun n : Int => UInt8.ofNat n.toNat) [((48 + m % 10 : Nat) : Int)]).toArray) = bL [UInt8.ofNat (48 + m % 10)] := rfl;have hs : (bL [UInt8.ofNat (48 + m % 10)]).size = 1 := rfl;rw [e3, if_pos (by rw [hs]; unfold lim; omega), Zjg k n (m / 10) _ hq (by omega) (by omega) (by rw [ByteArray.size_append, hs]; omega), Zpf h0, Zhc, ByteArray.append_assoc]
theorem itoaB_nat (m : Nat) : ZgS (m : Int) = bL (Lib.decDigits m) := by
 unfold ZgS Lib.itoa;rw [if_neg (by omega), Int.toNat_natCast];rfl
theorem p_s_Decimal (m : Nat) (h : m < 9223372036854775808) : Xh big (m : Int) = some (ZgS (m : Int)) := by
 rw [ZbV, itoaB_nat]
 by_cases h0 : m = 0
 ·subst h0
  rw [decide_eq_true (by rfl), cond_true, Lib.decDigits_one (by decide)];rfl
 ·rw [decide_eq_false (by omega), cond_false, decide_eq_false (by omega)]
  rw [Zjg 19 big m _ (Nat.lt_trans h (by decide)) h (by unfold big; decide) (by decide)];unfold dz;rw [if_neg h0];congr 1;apply ByteArray.ext;simp [bL]
def dgt (b : UInt8) : Bool := decide (48 ≤ b.toNat) && decide (b.toNat ≤ 57)
def Zpg (a : Nat) (l : List UInt8) : Nat := l.foldl (fun a b => a * 10 + (b.toNat - 48)) a
theorem Oz : ∀ (l : List UInt8) (a i : Nat), a < 10 ^ i → i + l.length ≤ 11 → (∀ b ∈ l, dgt b = true) → Lib.parseUint10 a l = .ok (Zpg a l)
 | [], a, i, _, _, _ => rfl
 | b :: l, a, i, h, hl, hd => by
  have hb := hd b (by simp);simp only [dgt, Bool.and_eq_true, decide_eq_true_eq] at hb;simp only [List.length_cons] at hl;have h10 : 10 ^ i ≤ 10 ^ 10 := Nat.pow_le_pow_right (by decide) (by omega);have h10' : (10 : Nat) ^ 10 = 10000000000 := by decide
  simp only [Lib.parseUint10];rw [if_pos hb, if_neg (by omega), if_neg (by omega)];exact Oz l (a * 10 + (b.toNat - 48)) (i + 1) (by rw [Nat.pow_succ]; omega) (by omega) (fun x hx => hd x (by simp [hx]))
theorem ZdE (m : Nat) : ∀ b ∈ Lib.decDigits m, dgt b = true := by
 induction m using Nat.strongRecOn with
 | _ m ih =>
  intro b hb
  by_cases h : m < 10
  ·rw [Lib.decDigits_one h] at hb
   simp only [List.mem_singleton] at hb;subst hb;have : (UInt8.ofNat (48 + m)).toNat = 48 + m := by simp; omega
   simp only [dgt, this, Bool.and_eq_true, decide_eq_true_eq]; omega
  ·rw [Lib.decDigits, dif_neg h] at hb
   rcases List.mem_append.1 hb with hb | hb
   ·exact ih (m / 10) (by omega) b hb
   ·simp only [List.mem_singleton] at hb
    subst hb;have : (UInt8.ofNat (48 + m % 10)).toNat = 48 + m % 10 := by simp; omega
    simp only [dgt, this, Bool.and_eq_true, decide_eq_true_eq]; omega
theorem Zmj (m : Nat) : Zpg 0 (Lib.decDigits m) = m := by
 induction m using Nat.strongRecOn with
 | _ m ih =>
  by_cases h : m < 10
  ·rw [Lib.decDigits_one h]
   have : (UInt8.ofNat (48 + m)).toNat = 48 + m := by simp; omega
   simp only [Zpg, List.foldl_cons, List.foldl_nil, this];omega
  ·rw [Lib.decDigits, dif_neg h]
   have : (UInt8.ofNat (48 + m % 10)).toNat = 48 + m % 10 := by simp; omega
   have h2 := ih (m / 10) (by omega);unfold Zpg at h2 ⊢;rw [List.foldl_append, h2];simp only [List.foldl_cons, List.foldl_nil, this];omega
theorem dec_len (m : Nat) (h : m ≤ 1000000000) : (Lib.decDigits m).length ≤ 10 ∧ Lib.decDigits m ≠ [] := by
 have hp := Lib.nDigits_pos m;rw [← Lib.decDigits_length] at hp;refine ⟨?_, fun e => by rw [e] at hp; simp at hp⟩;rw [Lib.decDigits_length]
 by_cases h0 : m = 0
 ·subst h0; rw [Lib.nDigits_small (by decide)]; decide
 ·have h1 := Lib.lt_pow_nDigits m
  rcases Nat.lt_or_ge 10 (Lib.nDigits m) with hl | hl
  ·obtain ⟨k, hk⟩ : ∃ k, Lib.nDigits m = k + 1 := ⟨Lib.nDigits m - 1, by omega⟩
   have h2 := Lib.numDigits_eq m (by omega) (by omega);have h3 : 10 ^ (Lib.nDigits m - 1) ≤ m := by
    rcases Nat.lt_or_ge m (10 ^ (Lib.nDigits m - 1)) with h | h
    ·exfalso
     have hle : ∀ (k u : Nat), u < 10 ^ k → 0 < k → Lib.nDigits u ≤ k := by
      intro k
      induction k with
      | zero => intro u _ h; omega
      | succ k ih =>
       intro u hu _
       by_cases hs : u < 10
       ·rw [Lib.nDigits_small hs]; omega
       ·rw [Lib.nDigits_big hs]
        have hk0 : 0 < k := by
         rcases Nat.eq_zero_or_pos k with e | e
         ·subst e; simp at hu; omega
         ·exact e
        have := ih (u / 10) (by rw [Nat.pow_succ] at hu; omega) hk0;omega
     have := hle (Lib.nDigits m - 1) m h (by omega);omega
    ·exact h
   have h4 : (10 : Nat) ^ 10 ≤ 10 ^ (Lib.nDigits m - 1) := Nat.pow_le_pow_right (by decide) (by omega);have h5 : (10 : Nat) ^ 10 = 10000000000 := by decide
   omega
  ·exact hl
def Lx (s : ByteArray) (v : Nat) : Prop := v ≤ 1000000000 ∧ bL (Lib.decDigits v) = s
theorem Zph {s : ByteArray} {v : Nat} (h : Lx s v) : rdV s = ((v : Int), true, ()) := by
 obtain ⟨h1, rfl⟩ := h;obtain ⟨hl, hn⟩ := dec_len v h1;have hd := ZdE v;have hp : Lib.parseMag (Lib.decDigits v) = .ok v := by
  unfold Lib.parseMag;rw [if_neg hn, Oz _ 0 0 (by decide) (by omega) hd, Zmj]
 have ha : Lib.atoiAll (bL (Lib.decDigits v)).data.toList = .ok (v : Int) := by
  rw [Zmi];cases hc : Lib.decDigits v with
  | nil => exact absurd hc hn
  | cons c r =>
   have hb := hd c (by rw [hc]; simp);simp only [dgt, Bool.and_eq_true, decide_eq_true_eq] at hb;rw [hc] at hp;unfold Lib.atoiAll;dsimp only;rw [if_neg (by omega), hp];dsimp only;rw [if_neg (by omega), if_neg (by omega), if_neg (by omega)]
 unfold rdV;rw [ha];dsimp only;have hv : (decide ((0 : Int) ≤ (v : Int)) && decide ((v : Int) ≤ 1000000000)) = true := by
  simp only [Bool.and_eq_true, decide_eq_true_eq]; omega
 rw [hv, cond_true, itoaB_nat, if_pos rfl, decide_eq_true rfl]
theorem Zn8 {s : ByteArray} (h : ∀ v, ¬ Lx s v) : rdV s = (0, false, ()) := by
 unfold rdV;cases ha : Lib.atoiAll s.data.toList with
 | «syntax» => rfl
 | range => rfl
 | ok v =>
  dsimp only;cases hv : (decide (0 ≤ v) && decide (v ≤ 1000000000)) with
  | false => rfl
  | true =>
   simp only [Bool.and_eq_true, decide_eq_true_eq] at hv;rw [cond_true];have hne : ZgS v ≠ s := fun e => by
    obtain ⟨m, rfl⟩ : ∃ m : Nat, v = m := ⟨v.toNat, by omega⟩
    rw [itoaB_nat] at e;exact h m ⟨by omega, e⟩
   rw [if_neg hne, decide_eq_false hne]
noncomputable def Zq4 (s : ByteArray) (m : Nat) : Int × Bool × Unit := bif decide (m ≤ 1000000000) && decide (bL (Lib.decDigits m) = s) then ((m : Int), true, ()) else (0, false, ())
theorem Zmk (s : ByteArray) (hs : s.size ≤ 10) : ∀ (n i a : Nat), s.size < n + i → i ≤ s.size → a < 10 ^ i → WB n s (a : Int) (i : Int) = some (bif (s.data.toList.drop i).all dgt then Zq4 s (Zpg a (s.data.toList.drop i)) else (0, false, ()))
 | 0, i, a, h1, h2, _ => by omega
 | n + 1, i, a, h1, h2, h3 => by
  have hl : s.data.toList.length = s.size := by rw [Array.length_toList]; rfl
  have h10 : 10 ^ i ≤ 10 ^ 10 := Nat.pow_le_pow_right (by decide) (by omega);have h10' : (10 : Nat) ^ 10 = 10000000000 := by decide
  rw [Em];rcases Nat.lt_or_ge i s.size with hi | hi
  ·have hi' : i < s.data.toList.length := by omega
   rw [decide_eq_true (by omega), cond_true, mk4 (YV hi'), mk4 (YV hi'), mk4 (YV hi'), List.drop_eq_getElem_cons hi', List.all_cons];have hb : (s.data.toList[i]).toNat < 256 := UInt8.toNat_lt _
   by_cases c1 : ((s.data.toList[i].toNat : Nat) : Int) < 48
   ·have hd : dgt (s.data.toList[i]) = false := by simp only [dgt, Bool.and_eq_false_iff, decide_eq_false_iff_not]; omega
    rw [decide_eq_true c1, cond_true, hd, Bool.false_and, cond_false]
   ·rw [decide_eq_false c1, cond_false]
    by_cases c2 : (57 : Int) < ((s.data.toList[i].toNat : Nat) : Int)
    ·have hd : dgt (s.data.toList[i]) = false := by simp only [dgt, Bool.and_eq_false_iff, decide_eq_false_iff_not]; omega
     rw [decide_eq_true c2, cond_true, hd, Bool.false_and, cond_false]
    ·have hd : dgt (s.data.toList[i]) = true := by simp only [dgt, Bool.and_eq_true, decide_eq_true_eq]; omega
     rw [decide_eq_false c2, cond_false, hd, Bool.true_and, Zx (n := ((s.data.toList[i].toNat : Nat) : Int)) (by omega) (by omega), Zx (n := (10 : Int) * (a : Int)) (by omega) (by omega),
      Zx (n := (10 : Int) * (a : Int) + ((s.data.toList[i].toNat : Nat) : Int)) (by omega) (by omega), Zx (n := (10 : Int) * (a : Int) + ((s.data.toList[i].toNat : Nat) : Int) - 48) (by omega) (by omega), Xo (by omega)]
     have e : (10 : Int) * (a : Int) + ((s.data.toList[i].toNat : Nat) : Int) - 48 = ((a * 10 + (s.data.toList[i].toNat - 48) : Nat) : Int) := by omega
     rw [e];exact Zmk s hs n (i + 1) _ (by omega) (by omega) (by rw [Nat.pow_succ]; omega)
  ·have e : i = s.size := by omega
   rw [decide_eq_false (by omega), cond_false, List.drop_eq_nil_of_le (by omega)];simp only [List.all_nil, cond_true, Zpg, List.foldl_nil];unfold Zq4
   by_cases c : (1000000000 : Int) < (a : Int)
   ·rw [decide_eq_true c, cond_true, decide_eq_false (by omega), Bool.false_and, cond_false]
   ·rw [decide_eq_false c, cond_false, p_s_Decimal a (by omega), Option.bind_some, itoaB_nat, decide_eq_true (show a ≤ 1000000000 by omega), Bool.true_and]
    cases decide (bL (Lib.decDigits a) = s) <;> rfl
theorem XC (s : ByteArray) : ZV big s = some (rdV s) := by
 rw [I4]
 by_cases hs : (10 : Int) < (s.size : Int)
 ·rw [decide_eq_true hs, cond_true, Zn8]
  rintro v ⟨h1, rfl⟩
  have := (dec_len v h1).1;rw [bL_size] at hs;omega
 ·rw [decide_eq_false hs, cond_false]
  have hl : s.data.toList.length = s.size := by rw [Array.length_toList]; rfl
  have := Zmk s (by omega) big 0 0 (by unfold big; omega) (by omega) (by decide);rw [Int.natCast_zero, List.drop_zero] at this;rw [this];congr 1
  by_cases hex : ∃ v, Lx s v
  ·obtain ⟨v, hv⟩ := hex
   rw [Zph hv];obtain ⟨h1, rfl⟩ := hv;rw [Zmi, List.all_eq_true.2 (ZdE v), cond_true, Zmj];unfold Zq4;rw [decide_eq_true h1, decide_eq_true rfl];rfl
  ·have hn : ∀ v, ¬ Lx s v := fun v hv => hex ⟨v, hv⟩
   rw [Zn8 hn];cases (s.data.toList.all dgt) with
   | false => rfl
   | true =>
    rw [cond_true];unfold Zq4;generalize Zpg 0 s.data.toList = m
    by_cases c1 : m ≤ 1000000000
    ·have c2 : bL (Lib.decDigits m) ≠ s := fun e => hn m ⟨c1, e⟩
     rw [decide_eq_true c1, decide_eq_false c2]; rfl
    ·rw [decide_eq_false c1]; rfl
theorem Q7 (s : ByteArray) (h : s.size ≤ 281474976710656) : Yv big s = some (rdV s) := by
 rw [IY, if_pos h]
end Go.Sx.Tryz.Rd
set_option maxRecDepth 100000
namespace Go.Sx.Tryz
open Go Go.Sx Go.Proofs
open Go.IntKind renaming i64 → K6
theorem WF {α : Type} {x y : ByteArray} {a b : Nat} {z : Option α} {P : α → Prop} (hx : x.size ≤ a) (hy : y.size ≤ b) (h : a + b ≤ 1000000) (k : (x ++ y).size ≤ a + b → Ok z P) : Ok (if x.size + y.size ≤ lim then z else none) P := by
 have : x.size + y.size ≤ lim := by unfold lim; omega
 rw [if_pos this];exact k (by rw [ByteArray.size_append]; omega)
theorem Zml {n : Int} (h0 : 0 ≤ n) (h1 : n ≤ 1000000000) : ∃ d, Xh big n = some d ∧ ByteArray.size d ≤ 10 := by
 obtain ⟨m, rfl⟩ : ∃ m : Nat, n = m := ⟨n.toNat, by omega⟩
 refine ⟨_, Rd.p_s_Decimal m (by omega), ?_⟩;rw [Rd.itoaB_nat, Rd.bL_size];exact (Rd.dec_len m (by omega)).1
theorem Zjh {e : Yl} (h : EvI e) : Ok (AI big e) fun t => ByteArray.size t ≤ 1200 := by
 obtain ⟨d1, e1, s1⟩ := Zml (n := e.2.1) h.att.1 (by have := h.att; omega);obtain ⟨d2, e2, s2⟩ := Zml (n := e.2.2.1) h.too.1 (by have := h.too; omega);obtain ⟨d3, e3, s3⟩ := Zml (n := e.2.2.2.1) h.num (by have := h.less; omega);obtain ⟨d4, e4, s4⟩ := Zml (n := e.2.2.2.2.1.2.2.1) h.cnu.1 h.cnu.2;have hkey := h.key; have hk := h.kind; have hck := h.ck;rw [ZbX];simp only [e1, e2, e3, e4, Option.bind_some, Xe];refine Ze (fun _ => ?_) fun _ => ?_
 ·refine Zm hck.1 (Zm (by show e.2.2.2.2.1.1 < (4 : Int); omega) (ZD (by show e.2.2.2.2.1.1.toNat < 4; omega) fun y hy => ?_))
  have hy := (by decide : ∀ x ∈ _, ByteArray.size x ≤ 20) y hy;refine WF (a := 20) (by decide) hy (by omega) fun _ => ?_
  repeat' first
   | exact Za (by omega)
   | refine WF (b := 20) ‹_› (by decide) (by omega) (fun _ => ?_)
   | refine WF ‹_› ‹_› (by omega) (fun _ => ?_)
 ·refine Zm (by omega) (Zm (by show e.1 < (12 : Int); omega) (ZD (by show e.1.toNat < 12; omega) fun y hy => ?_))
  have hy := (by decide : ∀ x ∈ _, ByteArray.size x ≤ 20) y hy
  repeat' first
   | exact Za (by omega)
   | refine Ze (fun _ => ?_) (fun _ => ?_)
   | refine WF (b := 20) ‹_› (by decide) (by omega) (fun _ => ?_)
   | refine WF ‹_› ‹_› (by omega) (fun _ => ?_)
theorem Zmm (s0 x : Int) (hs : s0 ≤ 5000) : ∀ (m n : Nat) (i : Int) (b : List Int), 0 ≤ i → (b.length : Int) = i + m → m < n → (b.length : Int) = s0 → Ok (VB n s0 x i b) fun t => ByteArray.size t = b.length := by
 intro m
 induction m with
 | zero =>
  intro n i b h0 h2 h3 h4;obtain ⟨n, rfl⟩ : ∃ m, n = m + 1 := ⟨n - 1, by omega⟩
  rw [Bp];exact Ze (fun h => by omega) fun _ => Za (by simp [ByteArray.size])
 | succ m ih =>
  intro n i b h0 h2 h3 h4;obtain ⟨n, rfl⟩ : ∃ m, n = m + 1 := ⟨n - 1, by omega⟩
  rw [Bp, Zx (n := i + 1) (by omega) (by omega)];refine Ze (fun h => Zm h0 (Zm (by omega) (ZD (by omega) fun y _ => DU (by omega) ?_))) fun h => by omega
  have e : (upd b i.toNat x).length = b.length := ZG _ _ _;exact X7 (ih n (i + 1) _ (by omega) (by omega) (by omega) (by omega)) fun t ht => by rw [ht, e]
theorem ZqN {n : Int} (h0 : 0 ≤ n) (h1 : n ≤ 5000) (x : Int) : Ok (G5 big n x) fun t => ByteArray.size t ≤ 5000 := by
 rw [ZbZ];have hL : ∀ L : List Int, L.length = n.toNat → Ok (VB big n x 0 L) fun t => ByteArray.size t ≤ 5000 := fun L hl =>
  X7 (Zmm n x h1 n.toNat big 0 L (by omega) (by omega) (by unfold big; omega) (by omega)) fun t ht => by rw [ht]; omega
 exact Zm h0 (Zm (Int.le_refl _) (Zm (by unfold lim; omega) (hL _ List.length_replicate)))
theorem Zji {k : Int} {s : ByteArray} (h1 : 1 ≤ s.size) (h2 : s.size ≤ 180000) : Ok (bif decide ((20 : Int) < k) then if (0 : Int) ≤ K6.wrap ((↑s.size : Int) - (1 : Int)) then (nth s.data.toList (K6.wrap ((↑s.size : Int) - (1 : Int))).toNat).bind fun y => bif decide ((↑y.toNat : Int) = (10 : Int)) then if s.size + (ByteArray.mk #[(99 : UInt8), (97 : UInt8), (108 : UInt8), (109 : UInt8), (32 : UInt8), (54 : UInt8), (10 : UInt8)]).size ≤ lim then some (s ++ ByteArray.mk #[(99 : UInt8), (97 : UInt8), (108 : UInt8), (109 : UInt8), (32 : UInt8), (54 : UInt8), (10 : UInt8)]) else none else some s else none else some s) fun t => ByteArray.size t ≤ 200000 := by
 have hl := WD s;rw [Zx (n := (↑s.size : Int) - 1) (by omega) (by omega)];exact Ze (fun _ => Zm (by omega) (ZD (by omega) fun y _ => Ze (fun _ => WF (b := 20) h2 (by decide) (by omega) fun h => Za (by omega)) fun _ => Za (by omega))) fun _ => Za (by omega)
theorem Zr1 (k : Int) : ∀ (m n : Nat) (i : Int) (s : ByteArray), 0 ≤ i → (121 : Int) = i + m → m < n → 1 ≤ s.size → s.size ≤ 150000 + 20 * i.toNat → Ok (WW n k s i) fun t => ByteArray.size t ≤ 200000 := by
 intro m
 induction m with
 | zero =>
  intro n i s h0 h2 h3 h4 h5;obtain ⟨n, rfl⟩ : ∃ m, n = m + 1 := ⟨n - 1, by omega⟩
  rw [QX];exact Ze (fun h => by omega) fun _ => Zji h4 (by omega)
 | succ m ih =>
  intro n i s h0 h2 h3 h4 h5;obtain ⟨n, rfl⟩ : ∃ m, n = m + 1 := ⟨n - 1, by omega⟩
  rw [QX, Zx (n := i + 1) (by omega) (by omega)];exact Ze (fun _ => WF (b := 20) h5 (by decide) (by omega) fun h => ih n (i + 1) _ (by omega) (by omega) (by omega) (by rw [ByteArray.size_append]; omega) (by omega)) fun h => by omega
set_option maxHeartbeats 4000000 in
theorem ZsG (l : List Yl) (hl : ZqM l) (k y : Int) (hy : 0 ≤ y ∧ y < 60) : ∀ (m n : Nat) (i : Int) (s : ByteArray), 0 ≤ i → (l.length : Int) = i + m → m + 200 < n → 1 ≤ s.size → s.size ≤ 100 + 1300 * i.toNat → Ok (Yw n k y s i l) fun t => ByteArray.size t ≤ 200000 := by
 have t4 := Hu hy.1 (show (0 : Int) < 4 by decide);have t9 := Hu hy.1 (show (0 : Int) < 9 by decide);have t8 := Hu hy.1 (show (0 : Int) < 8 by decide);have t2 := Hu hy.1 (show (0 : Int) < 2 by decide);have h110 := hl.1;intro m
 induction m with
 | zero =>
  intro n i s h0 h2 h3 h4 h5;obtain ⟨n, rfl⟩ : ∃ m, n = m + 1 := ⟨n - 1, by omega⟩
  have h6 : s.size ≤ 150000 := by omega
  rw [KI];refine Ze (fun h => by omega) fun _ => Ze (fun _ => Zm t8.1 (Zm (by show y.tmod 8 < (8 : Int); exact t8.2) (ZD (by show (y.tmod 8).toNat < 8; omega) fun z hz => ?_))) fun _ => Ze (fun _ => ?_) fun _ => Ze (fun h2k => ?_) fun _ => Ze (fun _ => ?_) fun _ => Zji h4 (by omega)
  ·have hz := (by decide : ∀ x ∈ _, ByteArray.size x ≤ 60) z hz
   exact Za (by omega)
  ·refine Ze (fun hs => ?_) fun _ => Zji h4 (by omega)
   have w : K6.wrap (K6.wrap (K6.wrap ((3000 : Int) - (↑s.size : Int)) - (1 : Int)) + y.tmod (2 : Int)) = 3000 - (↑s.size : Int) - 1 + y.tmod 2 := by
    rw [Zx (n := (3000 : Int) - (↑s.size : Int)) (by omega) (by omega), Zx (n := (3000 : Int) - (↑s.size : Int) - 1) (by omega) (by omega), Zx (by omega) (by omega)]
   rw [w];exact WF (b := 20) h6 (by decide) (by omega) fun ha => Zb (ZqN (by omega) (by omega) _) fun z hz => WF ha hz (by omega) fun hb => Zji (by simp only [ByteArray.size_append]; omega) (by omega)
  ·rw [Zx (n := (↑s.size : Int) - 1) (by omega) (by omega)]
   refine Zm (by omega) (Zm (by omega) (Ze (fun h => by omega) fun _ => Za ?_));rw [ByteArray.size_extract]; omega
  ·exact Zr1 k 121 n 0 s (by decide) (by decide) (by omega) h4 (by omega)
 | succ m ih =>
  intro n i s h0 h2 h3 h4 h5;obtain ⟨n, rfl⟩ : ∃ m, n = m + 1 := ⟨n - 1, by omega⟩
  rw [KI, Zx (n := i + 1) (by omega) (by omega)];have hi : i < (l.length : Int) := by omega
  have hin : i.toNat < l.length := by omega
  have nx : ∀ t : ByteArray, s.size ≤ t.size → t.size ≤ s.size + 1300 → Ok (Yw n k y t (i + 1) l) fun t => ByteArray.size t ≤ 200000 := fun t a b => ih n (i + 1) t (by omega) (by omega) (by omega) (by omega) (by omega);refine Ze (fun _ => ?_) fun h => by omega
  have one : ∀ u : ByteArray, s.size ≤ u.size → u.size ≤ s.size + 20 → ∀ (f : Yl → Option ByteArray), True := fun _ _ _ _ => trivial;refine Ze (fun _ => Zm t4.1 (Zm (by show y.tmod 4 < (4 : Int); exact t4.2) (ZD (by show (y.tmod 4).toNat < 4; omega) fun z hz => ?_))) fun _ => ?_
  ·have hz := (by decide : ∀ x ∈ _, ByteArray.size x ≤ 20) z hz
   refine WF h5 hz (by omega) fun ha => Zm h0 (Zm hi (ZD hin fun e he => Zb (Zjh (hl.2 e he)) fun w hw => Ze (fun _ => Zm t9.1 (Zm (by show y.tmod 9 < (9 : Int); exact t9.2) (ZD (by show (y.tmod 9).toNat < 9; omega) fun v hv => ?_))) fun _ => ?_))
   ·have hv := (by decide : ∀ x ∈ _, ByteArray.size x ≤ 60) v hv
    exact WF ha hv (by omega) fun hb => WF (b := 20) hb (by decide) (by omega) fun hc => nx _ (by simp only [ByteArray.size_append]; omega) (by have : (ByteArray.mk #[(10 : UInt8)]).size = 1 := rfl; simp only [ByteArray.size_append, this]; omega)
   ·exact WF ha hw (by omega) fun hb => WF (b := 20) hb (by decide) (by omega) fun hc => nx _ (by simp only [ByteArray.size_append]; omega) (by have : (ByteArray.mk #[(10 : UInt8)]).size = 1 := rfl; simp only [ByteArray.size_append, this]; omega)
  ·refine Zm h0 (Zm hi (ZD hin fun e he => Zb (Zjh (hl.2 e he)) fun w hw => Ze (fun _ => Zm t9.1 (Zm (by show y.tmod 9 < (9 : Int); exact t9.2) (ZD (by show (y.tmod 9).toNat < 9; omega) fun v hv => ?_))) fun _ => ?_))
   ·have hv := (by decide : ∀ x ∈ _, ByteArray.size x ≤ 60) v hv
    exact WF h5 hv (by omega) fun hb => WF (b := 20) hb (by decide) (by omega) fun hc => nx _ (by simp only [ByteArray.size_append]; omega) (by have : (ByteArray.mk #[(10 : UInt8)]).size = 1 := rfl; simp only [ByteArray.size_append, this]; omega)
   ·exact WF h5 hw (by omega) fun hb => WF (b := 20) hb (by decide) (by omega) fun hc => nx _ (by simp only [ByteArray.size_append]; omega) (by have : (ByteArray.mk #[(10 : UInt8)]).size = 1 := rfl; simp only [ByteArray.size_append, this]; omega)
theorem Zny (code : List Int) (hl : code.length ≤ 1099511627776) : Ok (VD big code) fun t => ByteArray.size t ≤ 200000 := by
 rw [DK, OX];refine Zb (Q := fun t => ByteArray.size t ≤ 200000) ?_ fun t ht => Za ht;refine Zb (Zqz code hl) fun c hc => Zb (V7 hc 30) fun k hk => Zb (V7 hk.2.2.2 60) fun y hy => Zb (Znx code hl) fun r hr => ?_;obtain ⟨hli, hev⟩ := hr;obtain ⟨d, ed, hd⟩ := Zml (n := r.2.1) (by omega) (by omega);have y60 := hy.2.1 (by decide);rw [ed];simp only [Option.bind_some];have go : ∀ s : ByteArray, 1 ≤ s.size → s.size ≤ 100 → Ok (Yw big k.1 y.1 s 0 r.2.2.1) fun t => ByteArray.size t ≤ 200000 := fun s a b =>
  ZsG r.2.2.1 hev k.1 y.1 ⟨hy.1, y60⟩ r.2.2.1.length big 0 s (by decide) (by omega) (by have := hev.1; unfold big; omega) a (by omega)
 refine WF (a := 20) (by decide) hd (by omega) fun ha => WF (b := 20) ha (by decide) (by omega) fun hb => Z1 (fun _ => WF (a := 20) (by decide) hd (by omega) fun hc => WF (b := 20) hc (by decide) (by omega) fun he => go _ ?_ (by omega)) fun _ => go _ ?_ (by omega)
 ·have : (ByteArray.mk #[(10 : UInt8)]).size = 1 := rfl
  simp only [ByteArray.size_append, this]; omega
 ·have : (ByteArray.mk #[(10 : UInt8)]).size = 1 := rfl
  simp only [ByteArray.size_append, this]; omega
end Go.Sx.Tryz
set_option maxRecDepth 100000
namespace Go.Sx.Tryz.Rd
open Go Go.Sx Go.Proofs
open Go.IntKind renaming i64 → K6
def prb (b : UInt8) : Bool := decide (32 ≤ b.toNat) && decide (b.toNat ≤ 126)
def Zpi (l : List ByteArray) : List ByteArray × Bool × Unit := bif decide (10 < l.length) then ([], false, ()) else (l, true, ())
def Ly (s : ByteArray) : List ByteArray × Bool × Unit := bif decide (600 < s.size) then ([], false, ()) else (bif s.data.toList.all prb then Zpi (KL s) else ([], false, ()))
theorem WD (s : ByteArray) : s.data.toList.length = s.size := by rw [Array.length_toList]; rfl
theorem ZdA (s : ByteArray) (b i : Nat) : s.extract b i = bL ((s.data.toList.drop b).take (i - b)) := by
 apply ByteArray.ext;apply Array.toList_inj.1;simp [bL, ByteArray.data_extract, List.extract_eq_take_drop]
theorem OA (s : ByteArray) (hs : s.size ≤ 600) : ∀ (n i : Nat), s.size < n + i → i ≤ s.size → (∀ b ∈ s.data.toList.take i, prb b = true) → Qr n s (s.size : Int) (i : Int) = some (bif (s.data.toList.drop i).all prb then Zpi (KL s) else ([], false, ()))
 | 0, i, h1, h2, _ => by omega
 | n + 1, i, h1, h2, h3 => by
  have hl := WD s;rw [OY];rcases Nat.lt_or_ge i s.size with hi | hi
  ·have hi' : i < s.data.toList.length := by omega
   have hb : (s.data.toList[i]).toNat < 256 := UInt8.toNat_lt _;rw [decide_eq_true (by omega), cond_true, mk4 (YV hi'), mk4 (YV hi'), List.drop_eq_getElem_cons hi', List.all_cons, Xo (by omega)]
   by_cases c1 : ((s.data.toList[i].toNat : Nat) : Int) < 32
   ·have hd : prb (s.data.toList[i]) = false := by simp only [prb, Bool.and_eq_false_iff, decide_eq_false_iff_not]; omega
    rw [decide_eq_true c1, cond_true, hd, Bool.false_and, cond_false]
   ·rw [decide_eq_false c1, cond_false]
    by_cases c2 : (126 : Int) < ((s.data.toList[i].toNat : Nat) : Int)
    ·have hd : prb (s.data.toList[i]) = false := by simp only [prb, Bool.and_eq_false_iff, decide_eq_false_iff_not]; omega
     rw [decide_eq_true c2, cond_true, hd, Bool.false_and, cond_false]
    ·have hd : prb (s.data.toList[i]) = true := by simp only [prb, Bool.and_eq_true, decide_eq_true_eq]; omega
     rw [decide_eq_false c2, cond_false, hd, Bool.true_and];refine OA s hs n (i + 1) (by omega) (by omega) (fun b hb => ?_);rw [List.take_succ_eq_append_getElem hi'] at hb;rcases List.mem_append.1 hb with hb | hb
     ·exact h3 b hb
     ·simp only [List.mem_singleton] at hb; subst hb; exact hd
  ·have e : i = s.size := by omega
   have hall : (s.data.toList.all fun b => decide (b.toNat < 128)) = true := by
    refine List.all_eq_true.2 fun b hb => ?_;have := h3 b (by rw [List.take_of_length_le (by omega)]; exact hb);simp only [prb, Bool.and_eq_true, decide_eq_true_eq] at this;simp only [decide_eq_true_eq]; omega
   rw [decide_eq_false (by omega), cond_false, List.drop_eq_nil_of_le (by omega), DN, if_pos (by omega), if_pos hall, Option.bind_some];simp only [List.all_nil, cond_true];unfold Zpi
   by_cases c : (10 : Int) < (List.length (KL s) : Int)
   ·rw [decide_eq_true c, decide_eq_true (show 10 < (KL s).length by omega)]; rfl
   ·rw [decide_eq_false c, decide_eq_false (show ¬ 10 < (KL s).length by omega)]; rfl
theorem Hv (s : ByteArray) : G8 big s = some (Ly s) := by
 rw [Zb1];unfold Ly
 by_cases hs : (600 : Int) < (s.size : Int)
 ·rw [decide_eq_true hs, decide_eq_true (show 600 < s.size by omega)]; rfl
 ·rw [decide_eq_false hs, decide_eq_false (show ¬ 600 < s.size by omega), cond_false, cond_false]
  have := OA s (by omega) big 0 (by unfold big; omega) (by omega) (by simp);rw [Int.natCast_zero, List.drop_zero] at this;exact this
theorem Zpj {b : UInt8} (h : prb b = true) : Lib.isSp b = decide (b.toNat = 32) := by
 simp only [prb, Bool.and_eq_true, decide_eq_true_eq] at h;have hne : ∀ c : UInt8, c.toNat < 32 → (b == c) = false := fun c hc => by
  cases hbc : (b == c) with
  | false => rfl
  | true => have := beq_iff_eq.1 hbc; subst this; omega
 unfold Lib.isSp;rw [hne 9 (by decide), hne 10 (by decide), hne 11 (by decide), hne 12 (by decide), hne 13 (by decide)];simp only [Bool.false_or]
 by_cases h32 : b.toNat = 32
 ·have : b = 32 := UInt8.toNat_inj.1 h32
  subst this; rfl
 ·rw [decide_eq_false h32]
  cases hbc : (b == 32) with
  | false => rfl
  | true => have := beq_iff_eq.1 hbc; subst this; exact absurd rfl h32
set_option maxHeartbeats 4000000 in
theorem Zaw (s : ByteArray) (hs : s.size ≤ 600) (n : Nat) (l : List ByteArray) (b : Int) : Yj (n + 1) s l b ((s.size + 1 : Nat) : Int) = some (Zpi l) := by
 rw [UH, decide_eq_false (by omega), cond_false];unfold Zpi
 by_cases c : (10 : Int) < (List.length l : Int)
 ·rw [decide_eq_true c, decide_eq_true (show 10 < l.length by omega)]; rfl
 ·rw [decide_eq_false c, decide_eq_false (show ¬ 10 < l.length by omega)]; rfl
set_option maxHeartbeats 8000000 in
theorem KS (s : ByteArray) (hs : s.size ≤ 600) : ∀ (n i b : Nat) (l : List ByteArray), s.size + 1 < n + i → i ≤ s.size → b ≤ i → l.length ≤ i →
  Yj n s l (b : Int) (i : Int) = some (bif (s.data.toList.drop i).all prb then Zpi (l ++ (Lib.fieldsGo ((s.data.toList.drop b).take (i - b)) (s.data.toList.drop i)).map bL) else ([], false, ()))
 | 0, i, b, l, h1, h2, _, _ => by omega
 | n + 1, i, b, l, h1, h2, h3, h4 => by
  have hl := WD s;have hcur : ((s.data.toList.drop b).take (i - b)).length = i - b := by rw [List.length_take, List.length_drop]; omega
  rcases Nat.lt_or_ge i s.size with hi | hi
  ·have hi' : i < s.data.toList.length := by omega
   have hb : (s.data.toList[i]).toNat < 256 := UInt8.toNat_lt _;rw [UH, decide_eq_true (by omega), cond_true, decide_eq_true (by omega), cond_true, mk4 (YV hi'), List.drop_eq_getElem_cons hi', List.all_cons]
   by_cases c1 : ((s.data.toList[i].toNat : Nat) : Int) < 32
   ·have hd : prb (s.data.toList[i]) = false := by simp only [prb, Bool.and_eq_false_iff, decide_eq_false_iff_not]; omega
    rw [decide_eq_true c1, cond_true, hd, Bool.false_and, cond_false]
   ·rw [decide_eq_false c1, cond_false, mk4 (YV hi')]
    by_cases c2 : (126 : Int) < ((s.data.toList[i].toNat : Nat) : Int)
    ·have hd : prb (s.data.toList[i]) = false := by simp only [prb, Bool.and_eq_false_iff, decide_eq_false_iff_not]; omega
     rw [decide_eq_true c2, cond_true, hd, Bool.false_and, cond_false]
    ·have hd : prb (s.data.toList[i]) = true := by simp only [prb, Bool.and_eq_true, decide_eq_true_eq]; omega
     have hsp := Zpj hd;rw [decide_eq_false c2, cond_false, hd, Bool.true_and, cond_true, mk4 (YV hi')];have hw : IntKind.wrap .i64 ((i : Int) + 1) = ((i + 1 : Nat) : Int) := Xo (by omega)
     by_cases c3 : ((s.data.toList[i].toNat : Nat) : Int) = 32
     ·rw [decide_eq_true (show s.data.toList[i].toNat = 32 by omega)] at hsp
      rw [decide_eq_true c3, Bool.not_true, cond_false, hw]
      by_cases c4 : (b : Int) < (i : Int)
      ·rw [decide_eq_true c4, cond_true, if_pos (by omega), if_pos (by omega), if_pos (by omega), if_pos (by omega), if_pos (by simp only [List.length_singleton]; unfold lim; omega), Int.toNat_natCast, Int.toNat_natCast, ZdA,
        Lib.fieldsGo_end _ _ _ hsp (by intro e; rw [e] at hcur; simp at hcur; omega), KS s hs n (i + 1) (i + 1) _ (by omega) (by omega) (by omega) (by rw [List.append_eq, List.length_append]; simp; omega)]
       simp
      ·have e : b = i := by omega
       subst e;rw [decide_eq_false c4, cond_false, KS s hs n (b + 1) (b + 1) l (by omega) (by omega) (by omega) (by omega)];simp only [Nat.sub_self, List.take_zero];rw [Lib.fieldsGo_sp _ _ hsp]
     ·rw [decide_eq_false (show ¬ s.data.toList[i].toNat = 32 by omega)] at hsp
      rw [decide_eq_false c3, Bool.not_false, cond_true, hw, KS s hs n (i + 1) b l (by omega) (by omega) (by omega) (by omega), Lib.fieldsGo_more _ _ _ hsp];have e : (s.data.toList.drop b).take (i + 1 - b) = (s.data.toList.drop b).take (i - b) ++ [s.data.toList[i]] := by
       have hlt : i - b < (s.data.toList.drop b).length := by rw [List.length_drop]; omega
       rw [show i + 1 - b = (i - b) + 1 by omega, List.take_succ_eq_append_getElem hlt];congr 2;rw [List.getElem_drop];congr 1;omega
      rw [e]
  ·have e : i = s.size := by omega
   subst e;have hd0 : s.data.toList.drop s.size = [] := List.drop_eq_nil_of_le (by omega);obtain ⟨n, rfl⟩ : ∃ m, n = m + 1 := ⟨n - 1, by omega⟩
   rw [UH, decide_eq_true (by omega), cond_true, decide_eq_false (by omega), cond_false, cond_false, hd0, Xo (by omega)];simp only [List.all_nil, cond_true]
   by_cases c4 : (b : Int) < (s.size : Int)
   ·have hne : (s.data.toList.drop b).take (s.size - b) ≠ [] := by intro e; rw [e] at hcur; simp at hcur; omega
    have hf : Lib.fieldsGo ((s.data.toList.drop b).take (s.size - b)) [] = [(s.data.toList.drop b).take (s.size - b)] := by
     unfold Lib.fieldsGo;rw [if_neg (by simpa using hne)]
    rw [decide_eq_true c4, cond_true, if_pos (by omega), if_pos (by omega), if_pos (by omega), if_pos (by omega), if_pos (by simp only [List.length_singleton]; unfold lim; omega), Int.toNat_natCast, Int.toNat_natCast, ZdA, Zaw s hs, hf];rfl
   ·have e : b = s.size := by omega
    subst e;rw [decide_eq_false c4, cond_false, Zaw s hs];simp [Lib.fieldsGo]
theorem Zip (s : ByteArray) : Hb big s = some (Ly s) := by
 rw [Zb3];unfold Ly
 by_cases hs : (600 : Int) < (s.size : Int)
 ·rw [decide_eq_true hs, decide_eq_true (show 600 < s.size by omega)]; rfl
 ·rw [decide_eq_false hs, decide_eq_false (show ¬ 600 < s.size by omega), cond_false, cond_false]
  have := KS s (by omega) big 0 0 [] (by unfold big; omega) (by omega) (by omega) (by simp);rw [Int.natCast_zero, List.drop_zero] at this;rw [this];rfl
end Go.Sx.Tryz.Rd
set_option maxRecDepth 100000
namespace Go.Sx.Tryz.Rd
open Go Go.Sx Go.Proofs
open Go.IntKind renaming i64 → K6
theorem Zpu (x a b : Int) : Om big x a b = some (bif decide (a ≤ x) then decide (x ≤ b) else false) := by
 rw [ZlN];cases decide (a ≤ x) <;> rfl
theorem MQ (x a b : Int) : ZB big x a b = some (bif decide (a ≤ x) then decide (x ≤ b) else false) := by
 rw [Nj];cases decide (a ≤ x) <;> rfl
theorem Zpk (n : Int) : TY big n = some (Zre n) := by rw [Zg0, Zpu]; rfl
theorem Zmn (k : ByteArray) (h : k.size ≤ 1048576) : TW big k = some (ZoN k) := by
 have hl : k.data.toList.length = k.size := by rw [Array.length_toList]; rfl
 have hk := ZnW (xs := k.data.toList) (p := fun y => decide ((y.toNat : Int) < 97) || decide (122 < (y.toNat : Int))) (b := false) (e := some (bif decide ((1 : Int) ≤ (k.size : Int)) then decide ((k.size : Int) ≤ 3) else false))
  (r := fun n i => AK n k (k.size : Int) i) (n := big) (fun n i hi => by
   rw [FA, decide_eq_true (by omega), cond_true, mk4 (YV hi), mk4 (YV hi), Xo (by omega)];cases decide (((k.data.toList[i]).toNat : Int) < 97) <;> cases decide (122 < ((k.data.toList[i]).toNat : Int)) <;> rfl) (fun n => by
   rw [FA, decide_eq_false (by omega), cond_false, Zpu]; rfl) (by rw [hl]; exact Nat.lt_of_le_of_lt h (by decide))
 rw [ZgW];refine hk.trans ?_;unfold ZoN;cases k.data.toList.any _ <;> rfl
theorem Zmo (k : ByteArray) (h : k.size ≤ 1048576) : JC big k = some (ZoN k) := by
 have hl : k.data.toList.length = k.size := by rw [Array.length_toList]; rfl
 have hk := ZnW (xs := k.data.toList) (p := fun y => decide ((y.toNat : Int) < 97) || decide (122 < (y.toNat : Int))) (b := false) (e := some (bif decide ((1 : Int) ≤ (k.size : Int)) then decide ((k.size : Int) ≤ 3) else false))
  (r := fun n i => QI n k i) (n := big) (fun n i hi => by
   rw [Ud, decide_eq_true (by omega), cond_true, mk4 (YV hi), mk4 (YV hi), Xo (by omega)];cases decide (((k.data.toList[i]).toNat : Int) < 97) <;> cases decide (122 < ((k.data.toList[i]).toNat : Int)) <;> rfl) (fun n => by
   rw [Ud, decide_eq_false (by omega), cond_false, MQ]; rfl) (by rw [hl]; exact Nat.lt_of_le_of_lt h (by decide))
 rw [Ns];refine hk.trans ?_;unfold ZoN;cases k.data.toList.any _ <;> rfl
theorem Zmp (c : VX) (h : ByteArray.size c.2.1 ≤ 1048576) : Lc big c = some (Zq2 c) := by
 rw [Zg4, Zpu, Zmn _ h, Zpk];unfold Zq2;simp only [Option.bind_some];generalize (bif decide ((1 : Int) ≤ c.1) then decide (c.1 ≤ 3) else false) = b;cases b <;> cases ZoN c.2.1 <;> rfl
theorem Zmq (c : VX) (h : ByteArray.size c.2.1 ≤ 1048576) : QJ big c = some (Zq2 c) := by
 rw [Nu, MQ, Zmo _ h, MQ];unfold Zq2 Zre;simp only [Option.bind_some];generalize (bif decide ((1 : Int) ≤ c.1) then decide (c.1 ≤ 3) else false) = b;cases b <;> cases ZoN c.2.1 <;> rfl
theorem Zmr (e : Yl) (h : ByteArray.size e.2.2.2.2.1.2.1 ≤ 1048576) : ∃ b, Hj big e = some b ∧ AL big e = some b := by
 rw [Zca, Zcc, Zpu, MQ, Zmp _ h, Zmq _ h];simp only [Option.bind_some];generalize (!bif decide ((1 : Int) ≤ e.1) then decide (e.1 ≤ 11) else false) = b1;cases b1
 ·cases decide (e.2.1 < 0)
  ·cases decide (e.2.2.1 < 0)
   ·cases decide (e.2.2.2.1 < 0)
    ·cases decide (e.1 = 1)
     ·cases decide (e.1 = 10)
      ·exact ⟨_, rfl, rfl⟩
      ·exact ⟨_, rfl, rfl⟩
     ·exact ⟨_, rfl, rfl⟩
    ·exact ⟨_, rfl, rfl⟩
   ·exact ⟨_, rfl, rfl⟩
  ·exact ⟨_, rfl, rfl⟩
 ·exact ⟨_, rfl, rfl⟩
theorem ZqO {i : Int} (h0 : 0 ≤ i) (h1 : i < 18446744073709551616) : IntKind.wrap .u64 i = i := by
 unfold IntKind.wrap;simp [IntKind.bits, IntKind.signed];omega
theorem MR (m : Int) (hm : 0 ≤ m) : ∀ (n i : Nat) (c : Int), 7 < n + i → i ≤ 7 → 0 ≤ c → c ≤ i → ∃ v, VG n m c (i : Int) = some v ∧ Vs n m c (i : Int) = some v
 | 0, i, c, h1, h2, _, _ => by omega
 | n + 1, i, c, h1, h2, h3, h4 => by
  rw [OZ, Y2]
  by_cases hi : (i : Int) < 7
  ·rw [decide_eq_true hi, decide_eq_true hm, ZqO (by omega) (by omega), if_neg (show ¬ (i : Int) < 0 by omega), if_neg (show ¬ (i : Int) < 0 by omega), ZoM, Zx (n := (i : Int) + 1) (by omega) (by omega)]
   simp only [cond_true];have hp : (0 : Int) < (2 : Int) ^ min (i : Int).toNat K6.bits := Int.pow_pos (by decide);have hf : 0 ≤ m.fdiv ((2 : Int) ^ min (i : Int).toNat K6.bits) := Int.fdiv_nonneg hm (Int.le_of_lt hp);rw [Int.tmod_eq_emod_of_nonneg hf];generalize hq : m.fdiv ((2 : Int) ^ min (i : Int).toNat K6.bits) = q at hf;rw [Zx (n := c + q % 2) (by omega) (by omega)]
   by_cases h0 : 0 < m
   ·rw [decide_eq_true h0]
    exact MR m hm n (i + 1) (c + q % 2) (by omega) (by omega) (by omega) (by omega)
   ·rw [decide_eq_false h0]
    have e : m = 0 := by omega
    subst e;rw [Int.zero_fdiv] at hq;subst hq;rw [show c + 0 % 2 = c by omega];exact MR 0 hm n (i + 1) c (by omega) (by omega) (by omega) (by omega)
  ·rw [decide_eq_false hi]; exact ⟨_, rfl, rfl⟩
theorem Zms (m : Int) (hm : 0 ≤ m) : ∃ v, He big m = some v ∧ YB big m = some v := by
 rw [Zb5, XZ];exact MR m hm big 0 0 (by decide) (by decide) (by decide) (by decide)
theorem Znz (n : Int) : ∃ v, MH big n = some v ∧ Qw big n = some v := by
 rw [Ze6, Aj];cases decide (n < 1) <;> exact ⟨_, rfl, rfl⟩
theorem Lq (a0 : Int) (a1 : Bool) (a2 : Int) (h7 : a0 ≤ 7) : ∀ (n i : Nat) (ps : List Zw), 7 < n + i → (i : Int) ≤ a0 → ps.length = i →
  ∃ r, WX n a0 (i : Int) 0 false 0 [] [] [] [] [] a0 a1 a2 [(-1, 0, [], (0, 0, 0, 0, ()), ())] ps [] [] [] = some r ∧
   XV n a0 (i : Int) 0 false 0 [] [] [] [] [] a0 a1 a2 [(-1, 0, [], (0, 0, 0, 0, ()), ())] ps [] [] [] = some r
 | 0, i, ps, h1, h2, _ => by omega
 | n + 1, i, ps, h1, h2, h3 => by
  rw [Hi, W3]
  by_cases hi : (i : Int) < a0
  ·rw [decide_eq_true hi, Zx (n := (i : Int) + 1) (by omega) (by omega), if_pos (by unfold lim; omega)]
   simp only [cond_true];rw [if_pos (by unfold lim; omega)];have := Lq a0 a1 a2 h7 n (i + 1) (ps.append [((i : Int), 1, (0, 0, 0, 0, ()), (0, 0, 0, 0, ()), (0, 0, 0, 0, ()), [], [], [], [], [], [], 0, ())]) (by omega) (by omega)
    (by rw [List.append_eq, List.length_append, h3]; rfl)
   rw [show ((i + 1 : Nat) : Int) = (i : Int) + 1 by omega] at this;exact this
  ·rw [decide_eq_false hi]
   exact ⟨_, rfl, rfl⟩
theorem Zhe (a0 : Int) (a1 : Bool) (a2 : Int) : ∃ r, Ui big a0 a1 a2 = some r ∧ Xa big a0 a1 a2 = some r := by
 rw [ML, JE, Zpu, MQ];simp only [Option.bind_some]
 by_cases c1 : 1 ≤ a0
 ·by_cases c7 : a0 ≤ 7
  ·rw [decide_eq_true c1, decide_eq_true c7, ZqO (by omega) (by omega), if_neg (show ¬ a0 < 0 by omega), if_neg (show ¬ a0 < 0 by omega), Zpu, MQ]
   simp only [Option.bind_some, cond_true, Bool.not_true, cond_false];generalize IntKind.wrap .i64 (IntKind.wrap .i64 (1 * (2 : Int) ^ min a0.toNat K6.bits) - 1) = top
   by_cases d0 : 0 ≤ a2
   ·rw [decide_eq_true d0]
    obtain ⟨v, v1, v2⟩ := Zms a2 d0;obtain ⟨w, w1, w2⟩ := Znz a0;rw [v1, v2, w1, w2];simp only [Option.bind_some, cond_true];cases decide (a2 ≤ top) with
    | false => exact ⟨_, rfl, rfl⟩
    | true =>
     simp only [Bool.not_true, cond_false];cases decide (w < v) with
     | true => exact ⟨_, rfl, rfl⟩
     | false => exact Lq a0 a1 a2 c7 big 0 [] (by decide) (by omega) rfl
   ·rw [decide_eq_false d0]; exact ⟨_, rfl, rfl⟩
  ·rw [decide_eq_true c1, decide_eq_false c7]; exact ⟨_, rfl, rfl⟩
 ·rw [decide_eq_false c1]; exact ⟨_, rfl, rfl⟩
end Go.Sx.Tryz.Rd
set_option maxRecDepth 100000
namespace Go.Sx.Tryz.Rd
open Go Go.Sx Go.Proofs
open Go.IntKind renaming i64 → K6
def Zpl : List ByteArray → ByteArray → Nat → Int
 | [], _, _ => -1
 | x :: l, w, i => bif decide (w = x) then (i : Int) else Zpl l w (i + 1)
theorem ZdF (l : List ByteArray) (w : ByteArray) (hl : l.length ≤ 1000) : ∀ (n i : Nat), l.length < n + i → i ≤ l.length → Wd n l w (l.length : Int) (i : Int) = some (Zpl (l.drop i) w i)
 | 0, i, h1, h2 => by omega
 | n + 1, i, h1, h2 => by
  rw [DO];rcases Nat.lt_or_ge i l.length with hi | hi
  ·rw [decide_eq_true (by omega), cond_true, mk4 (YV hi), Xo (by omega), ZdF l w hl n (i + 1) (by omega) (by omega), List.drop_eq_getElem_cons hi]
   show _ = some (bif decide (w = l[i]) then (i : Int) else Zpl (l.drop (i + 1)) w (i + 1));cases decide (w = l[i]) <;> rfl
  ·have e : i = l.length := by omega
   subst e;rw [decide_eq_false (by omega), cond_false, List.drop_length];rfl
theorem Ziq (l : List ByteArray) (w : ByteArray) (hl : l.length ≤ 1000) : XW big l w = some (Zpl l w 0) := by
 rw [Hn];have := ZdF l w hl big 0 (by unfold big; omega) (by omega);rw [Int.natCast_zero, List.drop_zero] at this;exact this
abbrev Zr2 : ByteArray := ByteArray.mk #[(115 : UInt8), (104 : UInt8), (111 : UInt8), (119 : UInt8)]
abbrev ZqP : ByteArray := ByteArray.mk #[(99 : UInt8), (97 : UInt8), (114 : UInt8), (114 : UInt8), (121 : UInt8)]
abbrev Zr3 : ByteArray := ByteArray.mk #[(108 : UInt8), (111 : UInt8), (115 : UInt8), (101 : UInt8)]
abbrev ZqQ : ByteArray := ByteArray.mk #[(116 : UInt8), (119 : UInt8), (105 : UInt8), (99 : UInt8), (101 : UInt8)]
abbrev Zr4 : ByteArray := ByteArray.mk #[(119 : UInt8), (97 : UInt8), (105 : UInt8), (116 : UInt8)]
abbrev Zr5 : ByteArray := ByteArray.mk #[(102 : UInt8), (97 : UInt8), (108 : UInt8), (108 : UInt8)]
abbrev Zr6 : ByteArray := ByteArray.mk #[(118 : UInt8), (111 : UInt8), (116 : UInt8), (101 : UInt8)]
abbrev wQc : ByteArray := ByteArray.mk #[(113 : UInt8), (99 : UInt8)]
abbrev ZqR : ByteArray := ByteArray.mk #[(98 : UInt8), (108 : UInt8), (111 : UInt8), (99 : UInt8), (107 : UInt8)]
abbrev Zr7 : ByteArray := ByteArray.mk #[(118 : UInt8), (105 : UInt8), (101 : UInt8), (119 : UInt8)]
theorem ZqS (w : ByteArray) : ∃ k m : Int, AN big w = some (k, m, ()) ∧ Ho big w = some (k, m, ()) ∧ ((k = 0 ∧ m = 0) ∨ (2 ≤ k ∧ k ≤ 7 ∧ m = 1) ∨ (k = 10 ∧ m = 3) ∨ (8 ≤ k ∧ k ≤ 11 ∧ k ≠ 10 ∧ m = 3)) := by
 rw [O3, Ziq _ _ (by decide), Ziq _ _ (by decide), Zce];simp only [Option.bind_some]
 by_cases h1 : w = Zr2
 ·subst h1; exact ⟨2, 1, rfl, rfl, by decide⟩
 by_cases h2 : w = ZqP
 ·subst h2; exact ⟨3, 1, rfl, rfl, by decide⟩
 by_cases h3 : w = Zr3
 ·subst h3; exact ⟨4, 1, rfl, rfl, by decide⟩
 by_cases h4 : w = ZqQ
 ·subst h4; exact ⟨5, 1, rfl, rfl, by decide⟩
 by_cases h5 : w = Zr4
 ·subst h5; exact ⟨6, 1, rfl, rfl, by decide⟩
 by_cases h6 : w = Zr5
 ·subst h6; exact ⟨7, 1, rfl, rfl, by decide⟩
 by_cases h7 : w = Zr6
 ·subst h7; exact ⟨8, 3, rfl, rfl, by decide⟩
 by_cases h8 : w = wQc
 ·subst h8; exact ⟨9, 3, rfl, rfl, by decide⟩
 by_cases h9 : w = ZqR
 ·subst h9; exact ⟨10, 3, rfl, rfl, by decide⟩
 by_cases h10 : w = Zr7
 ·subst h10; exact ⟨11, 3, rfl, rfl, by decide⟩
 refine ⟨0, 0, ?_, ?_, .inl ⟨rfl, rfl⟩⟩
 ·simp only [Zpl, decide_eq_false h1, decide_eq_false h2, decide_eq_false h3, decide_eq_false h4, decide_eq_false h5, decide_eq_false h6, decide_eq_false h7, decide_eq_false h8, decide_eq_false h9, decide_eq_false h10, cond_false]
  rfl
 ·simp only [decide_eq_false h1, decide_eq_false h2, decide_eq_false h3, decide_eq_false h4, decide_eq_false h5, decide_eq_false h6, decide_eq_false h7, decide_eq_false h8, decide_eq_false h9, decide_eq_false h10, cond_false]
abbrev Zkm : ByteArray := ByteArray.mk #[(115 : UInt8), (101 : UInt8), (116 : UInt8)]
abbrev Zkn : ByteArray := ByteArray.mk #[(97 : UInt8), (100 : UInt8), (100 : UInt8)]
abbrev MS : ByteArray := ByteArray.mk #[(116 : UInt8), (97 : UInt8), (107 : UInt8), (101 : UInt8)]
theorem ZsH (n : Nat) (w : ByteArray) : Xb (n + 1) w 1 [ByteArray.mk #[], Zkm, Zkn, MS] = bif decide (Zkm = w) then some 1 else Xb n w 2 [ByteArray.mk #[], Zkm, Zkn, MS] := by
 rw [VJ]; rfl
theorem ZsI (n : Nat) (w : ByteArray) : Xb (n + 1) w 2 [ByteArray.mk #[], Zkm, Zkn, MS] = bif decide (Zkn = w) then some 2 else Xb n w 3 [ByteArray.mk #[], Zkm, Zkn, MS] := by
 rw [VJ]; rfl
theorem ZsJ (n : Nat) (w : ByteArray) : Xb (n + 1) w 3 [ByteArray.mk #[], Zkm, Zkn, MS] = bif decide (MS = w) then some 3 else Xb n w 4 [ByteArray.mk #[], Zkm, Zkn, MS] := by
 rw [VJ]; rfl
theorem ZsK (n : Nat) (w : ByteArray) : Xb (n + 1) w 4 [ByteArray.mk #[], Zkm, Zkn, MS] = some 0 := by
 rw [VJ]; rfl
theorem Zr8 (w : ByteArray) : ∃ y c : Int, Zpl [ByteArray.mk #[], Zkm, Zkn, MS] w 0 = y ∧ JS big w = some c ∧ ((y < 1 ∧ c = 0) ∨ (1 ≤ y ∧ c = y)) := by
 have hs : JS big w = some (bif decide (Zkm = w) then 1 else bif decide (Zkn = w) then 2 else bif decide (MS = w) then 3 else 0) := by
  rw [Ze8];have b4 : big = ((big - 4) + 3) + 1 := rfl;rw [b4, ZsH, ZsI, ZsJ, ZsK];cases decide (Zkm = w) <;> cases decide (Zkn = w) <;> cases decide (MS = w) <;> rfl
 rw [hs]
 by_cases h0 : w = ByteArray.mk #[]
 ·subst h0; exact ⟨0, 0, rfl, rfl, .inl ⟨by decide, rfl⟩⟩
 by_cases h1 : w = Zkm
 ·subst h1; exact ⟨1, 1, rfl, rfl, .inr ⟨by decide, rfl⟩⟩
 by_cases h2 : w = Zkn
 ·subst h2; exact ⟨2, 2, rfl, rfl, .inr ⟨by decide, rfl⟩⟩
 by_cases h3 : w = MS
 ·subst h3; exact ⟨3, 3, rfl, rfl, .inr ⟨by decide, rfl⟩⟩
 refine ⟨-1, 0, ?_, ?_, .inl ⟨by decide, rfl⟩⟩
 ·simp only [Zpl, decide_eq_false h0, decide_eq_false h1, decide_eq_false h2, decide_eq_false h3, cond_false]
 ·rw [decide_eq_false (fun e => h1 e.symm), decide_eq_false (fun e => h2 e.symm), decide_eq_false (fun e => h3 e.symm)]
  rfl
noncomputable def Hw : List ByteArray → List Int → List Int × Bool × Unit
 | [], a => (a, true, ())
 | w :: l, a => bif !(rdV w).2.1 then ([], false, ()) else Hw l (a ++ [(rdV w).1])
theorem Zhf (l : List ByteArray) (hl : l.length ≤ 1000) (hw : ∀ w ∈ l, ByteArray.size w ≤ 1000) : ∀ (n i : Nat) (a : List Int), l.length < n + i → i ≤ l.length → a.length ≤ i →
  VI n a l (l.length : Int) (i : Int) = some (Hw (l.drop i) a)
 | 0, i, a, h1, h2, _ => by omega
 | n + 1, i, a, h1, h2, h3 => by
  rw [Lj];rcases Nat.lt_or_ge i l.length with hi | hi
  ·rw [decide_eq_true (by omega), cond_true, mk4 (YV hi), Q7 _ (by have := hw _ (List.getElem_mem hi); omega), Option.bind_some, List.drop_eq_getElem_cons hi]
   unfold Hw;cases hb : (rdV l[i]).2.1 with
   | false => rfl
   | true =>
    simp only [Bool.not_true, cond_false];rw [if_pos (by unfold lim; omega), Xo (by omega)];exact Zhf l hl hw n (i + 1) _ (by omega) (by omega) (by rw [List.append_eq, List.length_append]; simp; omega)
  ·have e : i = l.length := by omega
   subst e;rw [decide_eq_false (by omega), cond_false, List.drop_length];rfl
theorem Lz (l : List ByteArray) (hl : l.length ≤ 1000) (hw : ∀ w ∈ l, ByteArray.size w ≤ 1000) : VH big l = some (Hw l []) := by
 rw [O5];have := Zhf l hl hw big 0 [] (by unfold big; omega) (by omega) (by simp);rw [Int.natCast_zero, List.drop_zero] at this;exact this
def Zr9 (x y : Option (Yl × Bool × Unit)) : Prop := ∃ (e e' : Yl) (ok : Bool), x = some (e, ok, ()) ∧ y = some (e', ok, ()) ∧ (ok = true → e = e' ∧ ByteArray.size e.2.2.2.2.1.2.1 ≤ 1048576)
set_option maxHeartbeats 16000000 in
theorem Zpm (p : List ByteArray) (h0 : 0 < p.length) (hl : p.length ≤ 10) (hw : ∀ w ∈ p, ByteArray.size w ≤ 600) : Zr9 (AS big p) (KQ big p) := by
 cases p with
 | nil => simp at h0
 | cons a r =>
 have hw' : ∀ w ∈ a :: r, ByteArray.size w ≤ 1000 := fun w h => Nat.le_trans (hw w h) (by decide);have rd : ∀ w ∈ a :: r, Yv big w = some (rdV w) := fun w h => Q7 w (by have := hw w h; omega);rw [O7, Zag];have n0 : nth (a :: r) (Int.toNat (0 : Int)) = some a := rfl;simp only [n0, Option.bind_some]
 by_cases ho : a = ByteArray.mk #[(111 : UInt8), (102 : UInt8), (102 : UInt8), (101 : UInt8), (114 : UInt8)]
 ·rw [decide_eq_true ho, cond_true, cond_true, if_pos (by simp only [List.length_cons]; omega)]
  have hdrop : List.take (List.length (a :: r) - Int.toNat (1 : Int)) (List.drop (Int.toNat (1 : Int)) (a :: r)) = r := by
   show List.take ((a :: r).length - 1) r = r;rw [List.take_of_length_le (by simp)]
  rw [hdrop, O1]
  by_cases h3 : r.length = 3
  ·match r, h3 with
   | [b, c, d], _ =>
    obtain ⟨y, k, e1, e2, e3⟩ := Zr8 b;have q1 : nth [a, b, c, d] (Int.toNat (1 : Int)) = some b := rfl;have q2 : nth [a, b, c, d] (Int.toNat (2 : Int)) = some c := rfl;have q3 : nth [a, b, c, d] (Int.toNat (3 : Int)) = some d := rfl;have r0 : nth [b, c, d] (Int.toNat (0 : Int)) = some b := rfl;have r1 : nth [b, c, d] (Int.toNat (1 : Int)) = some c := rfl;have r2 : nth [b, c, d] (Int.toNat (2 : Int)) = some d := rfl;have l3 : decide (((List.length [b, c, d] : Nat) : Int) = 3) = true := rfl;have l4 : decide (((List.length [a, b, c, d] : Nat) : Int) = 4) = true := rfl;simp only [q1, q2, q3, r0, r1, r2, l3, l4, Option.bind_some, Bool.not_true, cond_false, Ziq _ _ (show List.length [ByteArray.mk #[], Zkm, Zkn, MS] ≤ 1000 by decide), e1, e2, rd d (by simp), XC];have hc : ByteArray.size c ≤ 1048576 := Nat.le_trans (hw c (by simp)) (by decide);obtain ⟨vd, od, ud⟩ := rdV d;cases od with
    | false =>
     simp only [Bool.not_false, cond_true];cases decide (k = 0) <;> exact ⟨_, _, false, rfl, rfl, fun h => by cases h⟩
    | true =>
     simp only [Bool.not_true, cond_false];rcases e3 with ⟨hy, hk⟩ | ⟨hy, hk⟩
     ·rw [decide_eq_true hy, decide_eq_true hk]
      exact ⟨_, _, false, rfl, rfl, fun h => by cases h⟩
     ·rw [decide_eq_false (show ¬ y < 1 by omega), decide_eq_false (show ¬ k = 0 by omega), hk]
      exact ⟨_, _, true, rfl, rfl, fun _ => ⟨rfl, hc⟩⟩
  ·have l3 : decide (((List.length r : Nat) : Int) = 3) = false := decide_eq_false (by omega)
   have l4 : decide (((List.length (a :: r) : Nat) : Int) = 4) = false := decide_eq_false (by simp only [List.length_cons]; omega);rw [l3, l4];exact ⟨_, _, false, rfl, rfl, fun h => by cases h⟩
 ·rw [decide_eq_false ho, cond_false, cond_false]
  obtain ⟨k, m, e1, e2, e3⟩ := ZqS a;rw [e1, e2];simp only [Option.bind_some];rcases e3 with ⟨rfl, rfl⟩ | ⟨k1, k2, rfl⟩ | ⟨rfl, rfl⟩ | ⟨k1, k2, k3, rfl⟩
  ·exact ⟨_, _, false, rfl, rfl, fun h => by cases h⟩
  ·rw [decide_eq_false (show ¬ k = 10 by omega), decide_eq_false (show ¬ k = 0 by omega)]
   simp only [cond_false];have hwr : K6.wrap ((1 : Int) + 1) = 2 := rfl;rw [hwr]
   by_cases hlen : (a :: r).length = 2
   ·match r, hlen with
    | [b], _ =>
     have l2 : decide (((List.length [a, b] : Nat) : Int) = 2) = true := rfl;have q1 : nth [a, b] (Int.toNat (1 : Int)) = some b := rfl;have ht : List.take ((2 : Int).toNat - Int.toNat (1 : Int)) (List.drop (Int.toNat (1 : Int)) [a, b]) = [b] := rfl;have d13 : decide ((1 : Int) = 3) = false := rfl;simp only [l2, Bool.not_true, cond_false, if_pos (show (0 : Int) ≤ 2 by decide), if_pos (show (2 : Int) ≤ ((List.length [a, b] : Nat) : Int) by simp), if_pos (show (1 : Int) ≤ 2 by decide), ht, q1, Option.bind_some, XC, d13];rw [Lz [b] (by simp) (fun w h => hw' w (by simp at h; simp [h]))];simp only [Hw, Option.bind_some];obtain ⟨vb, ob, ub⟩ := rdV b;cases ob <;> first | exact ⟨_, _, false, rfl, rfl, fun h => by cases h⟩ | exact ⟨_, _, true, rfl, rfl, fun _ => ⟨rfl, by show (0 : Nat) ≤ _; decide⟩⟩
   ·have l2 : decide (((List.length (a :: r) : Nat) : Int) = 2) = false := decide_eq_false (by omega)
    rw [l2];exact ⟨_, _, false, rfl, rfl, fun h => by cases h⟩
  ·have hk10 : decide ((10 : Int) = 10) = true := rfl
   have hk0 : decide ((10 : Int) = 0) = false := rfl;have hwr : K6.wrap ((3 : Int) + 1) = 4 := rfl;have hwr2 : K6.wrap ((4 : Int) + 1) = 5 := rfl;simp only [hk10, hk0, cond_true, cond_false, hwr, hwr2]
   by_cases hlen : (a :: r).length = 5
   ·match r, hlen with
    | [b, c, d, e], _ =>
     have l5 : decide (((List.length [a, b, c, d, e] : Nat) : Int) = 5) = true := rfl;have q1 : nth [a, b, c, d, e] (Int.toNat (1 : Int)) = some b := rfl;have q2 : nth [a, b, c, d, e] (Int.toNat (2 : Int)) = some c := rfl;have q3 : nth [a, b, c, d, e] (Int.toNat (3 : Int)) = some d := rfl;have q4 : nth [a, b, c, d, e] (Int.toNat (4 : Int)) = some e := rfl;have ht : List.take ((4 : Int).toNat - Int.toNat (1 : Int)) (List.drop (Int.toNat (1 : Int)) [a, b, c, d, e]) = [b, c, d] := rfl;have d33 : decide ((3 : Int) = 3) = true := rfl;simp only [l5, Bool.not_true, cond_false, if_pos (show (0 : Int) ≤ 4 by decide), if_pos (show (4 : Int) ≤ ((List.length [a, b, c, d, e] : Nat) : Int) by simp), if_pos (show (1 : Int) ≤ 4 by decide), ht, q1, q2, q3, q4, Option.bind_some, XC, d33, cond_true];rw [Lz [b, c, d] (by simp) (fun w h => hw' w (by simp at h; rcases h with h | h | h <;> simp [h]))];simp only [Hw, Option.bind_some, Xe];have he : ByteArray.size e ≤ 1048576 := Nat.le_trans (hw e (by simp)) (by decide);obtain ⟨vb, ob, ub⟩ := rdV b;obtain ⟨vc, oc, uc⟩ := rdV c;obtain ⟨vd, od, ud⟩ := rdV d;cases ob <;> cases oc <;> cases od <;> first | exact ⟨_, _, false, rfl, rfl, fun h => by cases h⟩ | exact ⟨_, _, true, rfl, rfl, fun _ => ⟨rfl, he⟩⟩
   ·have l5 : decide (((List.length (a :: r) : Nat) : Int) = 5) = false := decide_eq_false (by omega)
    rw [l5];exact ⟨_, _, false, rfl, rfl, fun h => by cases h⟩
  ·rw [decide_eq_false (show ¬ k = 10 by omega), decide_eq_false (show ¬ k = 0 by omega)]
   have hwr : K6.wrap ((3 : Int) + 1) = 4 := rfl;simp only [cond_false, hwr]
   by_cases hlen : (a :: r).length = 4
   ·match r, hlen with
    | [b, c, d], _ =>
     have l4 : decide (((List.length [a, b, c, d] : Nat) : Int) = 4) = true := rfl;have q1 : nth [a, b, c, d] (Int.toNat (1 : Int)) = some b := rfl;have q2 : nth [a, b, c, d] (Int.toNat (2 : Int)) = some c := rfl;have q3 : nth [a, b, c, d] (Int.toNat (3 : Int)) = some d := rfl;have ht : List.take ((4 : Int).toNat - Int.toNat (1 : Int)) (List.drop (Int.toNat (1 : Int)) [a, b, c, d]) = [b, c, d] := rfl;have d33 : decide ((3 : Int) = 3) = true := rfl;simp only [l4, Bool.not_true, cond_false, if_pos (show (0 : Int) ≤ 4 by decide), if_pos (show (4 : Int) ≤ ((List.length [a, b, c, d] : Nat) : Int) by simp), if_pos (show (1 : Int) ≤ 4 by decide), ht, q1, q2, q3, Option.bind_some, XC, d33, cond_true];rw [Lz [b, c, d] (by simp) (fun w h => hw' w (by simp at h; rcases h with h | h | h <;> simp [h]))];simp only [Hw, Option.bind_some, Xe];obtain ⟨vb, ob, ub⟩ := rdV b;obtain ⟨vc, oc, uc⟩ := rdV c;obtain ⟨vd, od, ud⟩ := rdV d;cases ob <;> cases oc <;> cases od <;> first | exact ⟨_, _, false, rfl, rfl, fun h => by cases h⟩ | exact ⟨_, _, true, rfl, rfl, fun _ => ⟨rfl, by show (0 : Nat) ≤ _; decide⟩⟩
   ·have l4 : decide (((List.length (a :: r) : Nat) : Int) = 4) = false := decide_eq_false (by omega)
    rw [l4];exact ⟨_, _, false, rfl, rfl, fun h => by cases h⟩
end Go.Sx.Tryz.Rd
