/- That a run goes through: what is read from the disk. -/
import Derived.Test.YtocddfdkknhgcaaGreatM8
import Derived.Test.YtocddfdkknhgcaaGreatTypes
import Derived.Test.YtocddfdkknhgcaaGreatLearnsH1
import Derived.Test.YtocddfdkknhgcaaGreatLearnsF1
import Derived.Test.YtocddfdkknhgcaaGreatLearnsF3
import Derived.Test.YtocddfdkknhgcaaGreatLearnsF4
set_option linter.unusedVariables false
set_option linter.unusedSimpArgs false
set_option maxRecDepth 100000
namespace Go.Sx.Tryz
open Go Go.Sx Go.Proofs
def RdP (s : ByteArray) (i v w : Nat) (r : Int × Int × Bool × Unit) : Prop :=
 r.2.2.1 = true → (i : Int) < r.2.1 ∧ r.2.1 ≤ s.size ∧ 0 ≤ r.1 ∧ r.1 ≤ 1000000000 ∧ ∀ m rest, s.data.toList.drop i = enc m ++ rest → r.1 = ((v + m * w : Nat) : Int) ∧ r.2.1 = ((i + (enc m).length : Nat) : Int)
theorem Rc {m : Nat} (h : m < 256) : (UInt8.ofNat m).toNat = m := by
 have : (UInt8.ofNat m).toNat = m % 256 := rfl;omega
theorem ZvO (s : ByteArray) (hs : s.size ≤ 1000000) (a : Nat) : ∀ (k n v w i : Nat), i + k = a + 5 → a ≤ i → i ≤ s.size → k < n → w * 128 ^ k ≤ 34359738368 → v ≤ w →
  Ok (KX n s (a : Int) (v : Int) (w : Int) (i : Int)) (RdP s i v w) := by
 have no : ∀ i v w, RdP s i v w ((0 : Int), (0 : Int), false, ()) := fun i v w h => by cases h
 have hl := Zi6 s;intro k
 induction k with
 | zero =>
  intro n v w i h1 h2 h3 h4 h5 h6;obtain ⟨n, rfl⟩ : ∃ m, n = m + 1 := ⟨n - 1, by omega⟩
  rw [C7, ZH (n := (a : Int) + 5) (by omega) (by omega)];exact Zl (fun _ => Zl (fun h => by omega) fun _ => Za (no _ _ _)) fun _ => Za (no _ _ _)
 | succ k ih =>
  intro n v w i h1 h2 h3 h4 h5 h6;obtain ⟨n, rfl⟩ : ∃ m, n = m + 1 := ⟨n - 1, by omega⟩
  have hw : w * 128 ≤ 34359738368 := by
   have h128 : 1 ≤ 128 ^ k := Nat.pow_pos (by decide);rw [Nat.pow_succ, ← Nat.mul_assoc, Nat.mul_right_comm] at h5;exact Nat.le_trans (Nat.le_mul_of_pos_right _ h128) h5
  have h5' : w * 128 * 128 ^ k ≤ 34359738368 := by
   rw [Nat.pow_succ, ← Nat.mul_assoc, Nat.mul_right_comm] at h5;exact h5
  rw [C7, ZH (n := (a : Int) + 5) (by omega) (by omega)];refine Zl (fun hi => Zl (fun hi5 => ZB (by omega) ?_) fun _ => Za (no _ _ _)) fun _ => Za (no _ _ _);have hi' : i < s.data.toList.length := by omega
  have hd := List.drop_eq_getElem_cons hi';rw [Int.toNat_natCast, ZY hi', Option.bind_some];generalize s.data.toList[i] = b at hd;have hb : b.toNat < 256 := UInt8.toNat_lt _;refine ZB (by omega) ?_;rw [Option.bind_some];have hx : b.toNat % 128 * w ≤ 127 * w := Nat.mul_le_mul_right _ (by omega);have ev : IntKind.i64.wrap ((v : Int) + IntKind.i64.wrap ((IntKind.i64.wrap (b.toNat : Int)).tmod 128 * (w : Int))) = ((v + b.toNat % 128 * w : Nat) : Int) := by
   have e1 : IntKind.i64.wrap (b.toNat : Int) = (b.toNat : Int) := ZH (by omega) (by omega);have e2 : ((b.toNat : Int)).tmod 128 = ((b.toNat % 128 : Nat) : Int) := (Int.ofNat_tmod b.toNat 128).symm;have e3 : ((b.toNat % 128 : Nat) : Int) * (w : Int) = ((b.toNat % 128 * w : Nat) : Int) := (Int.natCast_mul _ _).symm;rw [e1, e2, e3, ZH (n := ((b.toNat % 128 * w : Nat) : Int)) (by omega) (by omega), ← Int.natCast_add, ZH (by omega) (by omega)]
  have ei : IntKind.i64.wrap ((i : Int) + 1) = ((i + 1 : Nat) : Int) := by rw [ZH (by omega) (by omega)]; omega
  have ew : IntKind.i64.wrap ((w : Int) * 128) = ((w * 128 : Nat) : Int) := by rw [ZH (by omega) (by omega)]; omega
  try dsimp only
  rw [ev, ei, ew];refine Zl (fun hc => Zl (fun _ => Za (no _ _ _)) fun hv => ZB (by omega) (ZB (by omega) (ZB (by omega) (ZB (by omega) (Zd (ZvN _) fun y _ => YM (fun _ => Za (no _ _ _)) fun _ => Za fun _ => ⟨?_, ?_, ?_, ?_, fun m rest hm => ?_⟩))))) fun hc => ?_
  ·show (i : Int) < ((i + 1 : Nat) : Int); omega
  ·show ((i + 1 : Nat) : Int) ≤ _; omega
  ·show (0 : Int) ≤ ((v + b.toNat % 128 * w : Nat) : Int); omega
  ·show ((v + b.toNat % 128 * w : Nat) : Int) ≤ _; omega
  ·rw [hd] at hm
   by_cases h7 : m ≤ 127
   ·rw [Zgt h7] at hm ⊢
    have hbm : b = UInt8.ofNat m := (List.cons.inj hm).1;have : b.toNat % 128 = m := by rw [hbm, Rc (by omega)]; omega
    rw [this];exact ⟨rfl, rfl⟩
   ·rw [Zmp h7] at hm
    have hbm : b = UInt8.ofNat (m % 128 + 128) := (List.cons.inj hm).1;rw [hbm, Rc (by omega)] at hc;omega
  ·refine VT (ih n (v + b.toNat % 128 * w) (w * 128) (i + 1) (by omega) (by omega) (by omega) (by omega) h5' (by omega)) fun r hr h => ?_
   obtain ⟨g1, g2, g3, g4, g5⟩ := hr h;refine ⟨by omega, g2, g3, g4, fun m rest hm => ?_⟩;rw [hd] at hm
   by_cases h7 : m ≤ 127
   ·rw [Zgt h7] at hm
    have hbm : b = UInt8.ofNat m := (List.cons.inj hm).1;rw [hbm, Rc (by omega)] at hc;omega
   ·rw [Zmp h7] at hm ⊢
    have hbm : b = UInt8.ofNat (m % 128 + 128) := (List.cons.inj hm).1;obtain ⟨q1, q2⟩ := g5 (m / 128) rest (List.cons.inj hm).2;have hbx : b.toNat % 128 = m % 128 := by rw [hbm, Rc (by omega)]; omega
    refine ⟨?_, by rw [q2, List.length_cons]; congr 1; omega⟩;rw [q1, hbx];congr 1;have e1 : m / 128 * (w * 128) = m / 128 * 128 * w := by rw [Nat.mul_comm w 128, Nat.mul_assoc]
    have e2 : m * w = (m / 128 * 128 + m % 128) * w := by congr 1; omega
    rw [e1, e2, Nat.add_mul]; omega
theorem ZsO (s : ByteArray) (hs : s.size ≤ 1000000) (a : Int) : Ok (Hn big s a) fun r => r.2.2.1 = true → 0 ≤ a ∧ a < r.2.1 ∧ r.2.1 ≤ s.size ∧ 0 ≤ r.1 ∧ r.1 ≤ 1000000000 ∧
  ∀ m rest, s.data.toList.drop a.toNat = enc m ++ rest → r.1 = (m : Int) ∧ r.2.1 = a + ((enc m).length : Int) := by
 rw [ZdX, LZ, Option.bind_some];refine Yb (fun _ => Za fun h => by cases h) fun h => ?_;simp only [Bool.and_eq_true, decide_eq_true_eq] at h;obtain ⟨m, rfl⟩ : ∃ m : Nat, a = m := ⟨a.toNat, by omega⟩
 have := ZvO s hs m 5 big 0 1 m (by omega) (by omega) (by omega) (by unfold big; omega) (by decide) (by omega);refine VT this fun r hr h1 => ?_;obtain ⟨g1, g2, g3, g4, g5⟩ := hr h1;refine ⟨h.1, g1, g2, g3, g4, fun k rest hk => ?_⟩;obtain ⟨q1, q2⟩ := g5 k rest hk;exact ⟨by rw [q1]; congr 1; omega, by rw [q2]; omega⟩
def Adv (c c' : XQ) : Prop := c'.1 = c.1 ∧ (c'.2.2.1 = false → c.2.2.1 = false ∧ 0 ≤ c.2.1 ∧ c.2.1 < c'.2.1 ∧ c'.2.1 ≤ (ByteArray.size c.1 : Int))
theorem Adv.trans {a b c : XQ} (h : Adv a b) (k : Adv b c) : Adv a c := ⟨k.1.trans h.1, fun e => by
 obtain ⟨k1, k2, k3, k4⟩ := k.2 e;obtain ⟨h1, h2, h3, h4⟩ := h.2 k1;rw [h.1] at k4;exact ⟨h1, h2, by omega, k4⟩⟩
theorem Dq (c : XQ) (hs : ByteArray.size c.1 ≤ 1000000) : Ok (Xp big c) fun r => Adv c r.2.1 ∧ (r.2.1.2.2.1 = false → 0 ≤ r.1 ∧ r.1 ≤ 1000000000 ∧
  ∀ m rest, c.1.data.toList.drop (Int.toNat c.2.1) = enc m ++ rest → r.1 = (m : Int) ∧ r.2.1.2.1 = c.2.1 + ((enc m).length : Int)) := by
 rw [Zip];refine Zd (ZsO c.1 hs c.2.1) fun y hy => Ym (fun _ => Za ⟨⟨rfl, fun h => by cases h⟩, fun h => by cases h⟩) fun hb => Yb (fun _ => Za ⟨⟨rfl, fun h => by cases h⟩, fun h => by cases h⟩) fun ho => ?_;obtain ⟨g1, g2, g3, g4, g5, g6⟩ := hy ho;exact Za ⟨⟨rfl, fun h => ⟨hb, g1, g2, g3⟩⟩, fun h => ⟨g4, g5, g6⟩⟩
theorem Zw3 (c : XQ) (hs : ByteArray.size c.1 ≤ 1000000) : Ok (I2 big c) fun r => Adv c r.2.1 ∧ (r.2.1.2.2.1 = false → 0 ≤ r.1.2.1) := by
 rw [Zlq];refine Zd (Dq c hs) fun y hy => Zd (Dq y.2.1 (by rw [hy.1.1]; exact hs)) fun y1 hy1 => ?_;have h1 := hy.1.trans hy1.1;refine Zd (Dq y1.2.1 (by rw [h1.1]; exact hs)) fun y2 hy2 => ?_;have h2 := h1.trans hy2.1;exact Zd (Dq y2.2.1 (by rw [h2.1]; exact hs)) fun y3 hy3 => Za ⟨h2.trans hy3.1, fun e => (hy1.2 (hy2.1.2 (hy3.1.2 e).1).1).1⟩
theorem ZvP (c : XQ) (hs : ByteArray.size c.1 ≤ 1000000) : Ok (Ho big c) fun r => Adv c r.2.1 := by
 rw [Zd0];refine Zd (Dq c hs) fun y hy => Zd (Dq y.2.1 (by rw [hy.1.1]; exact hs)) fun y1 hy1 => ?_;have h1 := hy.1.trans hy1.1;refine Zd (Dq y1.2.1 (by rw [h1.1]; exact hs)) fun y2 hy2 => ?_;have h2 := h1.trans hy2.1;exact Zd (Dq y2.2.1 (by rw [h2.1]; exact hs)) fun y3 hy3 => Za (h2.trans hy3.1)
theorem ZvQ (t u : ByteArray) (hu : u.size ≤ 20000) (s8 : Int) (c0 : Int) (c1 : Int) (c2 : Int) (c3 : Int) (c4 : Int) (c5 : Int) (c6 : Int) (c7 : Int) (c8 : Int) (c9 : Int) (c10 : Int) (c11 : Int) (c12 : Int) (c13 : Int) (c14 : List Int) (c15 : List ZL) (c16 : List Int) (c17 : List Yd) (c18 : List Z3) (c19 : List Zy) (c20 : Int) (b0 : Int) (b1 : Int) (b2 : Int) (b3 : Int) (b4 : Int) (b5 : Int) (b6 : Int) (b7 : Int) (b8 : Int) (b9 : Int) (b10 : Int) (b11 : Int) (b12 : Int) (b13 : Int) (b14 : List Int) (b15 : List ZL) (b16 : List Int) (b17 : List Yd) (b18 : List Z3) (b19 : List Zy) (b20 : Int) : ∀ (m n : Nat) (i : Int) (q : XQ) (row : List Int), q.1 = u →
  (q.2.2.1 = false → 0 ≤ q.2.1 ∧ q.2.1 ≤ u.size ∧ (u.size : Int) + 1 ≤ q.2.1 + m ∧ (row.length : Int) ≤ q.2.1) → row.length ≤ 20001 → m < n →
  Ok (UJ n t s8 i c0 c1 c2 c3 c4 c5 c6 c7 c8 c9 c10 c11 c12 c13 c14 c15 c16 c17 c18 c19 c20 q.1 q.2.1 q.2.2.1 b0 b1 b2 b3 b4 b5 b6 b7 b8 b9 b10 b11 b12 b13 row b15 b16 b17 b18 b19 b20) fun r => r.2.1 = true → q.2.2.1 = false ∧
   ∃ row' : List Int, row'.length ≤ 20001 ∧ r.1 = (b0, b1, (b2, b3, b4, b5, ()), (b6, b7, b8, b9, ()), (b10, b11, b12, b13, ()), row', b15, b16, b17, b18, b19, b20, ()) := by
 have fin : ∀ (n : Nat) (i : Int) (q : XQ) (row : List Int), row.length ≤ 20001 → Ok (bif q.2.2.1 then some (((0 : Int), (0 : Int), ((0 : Int), (0 : Int), (0 : Int), (0 : Int), PUnit.unit), ((0 : Int), (0 : Int), (0 : Int), (0 : Int), PUnit.unit), ((0 : Int), (0 : Int), (0 : Int), (0 : Int), PUnit.unit), ([] : List Int), ([] : List ZL), ([] : List Int), ([] : List Yd), ([] : List Z3), ([] : List Zy), (0 : Int), PUnit.unit), false, PUnit.unit) else (Q2 big (b0, b1, (b2, b3, b4, b5, ()), (b6, b7, b8, b9, ()), (b10, b11, b12, b13, ()), row, b15, b16, b17, b18, b19, b20, ())).bind fun y => bif !decide (y = t) then some (((0 : Int), (0 : Int), ((0 : Int), (0 : Int), (0 : Int), (0 : Int), PUnit.unit), ((0 : Int), (0 : Int), (0 : Int), (0 : Int), PUnit.unit), ((0 : Int), (0 : Int), (0 : Int), (0 : Int), PUnit.unit), ([] : List Int), ([] : List ZL), ([] : List Int), ([] : List Yd), ([] : List Z3), ([] : List Zy), (0 : Int), PUnit.unit), false, PUnit.unit) else some ((b0, b1, (b2, b3, b4, b5, PUnit.unit), (b6, b7, b8, b9, PUnit.unit), (b10, b11, b12, b13, PUnit.unit), row, b15, b16, b17, b18, b19, b20, PUnit.unit), true, PUnit.unit))
   (fun r : Zn × Bool × Unit => r.2.1 = true → q.2.2.1 = false ∧ ∃ row' : List Int, row'.length ≤ 20001 ∧ r.1 = (b0, b1, (b2, b3, b4, b5, ()), (b6, b7, b8, b9, ()), (b10, b11, b12, b13, ()), row', b15, b16, b17, b18, b19, b20, ())) := fun n i q row hr =>
  Ym (fun _ => Za (fun h => by cases h)) fun hb => Zd (Zgu _ (by show row.length ≤ _; omega)) fun y _ => YM (fun _ => Za (fun h => by cases h)) fun _ => Za fun _ => ⟨hb, row, hr, rfl⟩
 intro m
 induction m with
 | zero =>
  intro n i q row hq h1 h2 h3;obtain ⟨n, rfl⟩ : ∃ m, n = m + 1 := ⟨n - 1, by omega⟩
  rw [Ay];simp only [XJ];refine Zl (fun _ => Yb (fun hb => ?_) fun _ => fin n i q row h2) fun _ => fin n i q row h2;have := h1 hb;omega
 | succ m ih =>
  intro n i q row hq h1 h2 h3;obtain ⟨n, rfl⟩ : ∃ m, n = m + 1 := ⟨n - 1, by omega⟩
  rw [Ay];simp only [XJ];refine Zl (fun _ => Yb (fun hb => ?_) fun _ => fin n i q row h2) fun _ => fin n i q row h2;obtain ⟨g1, g2, g3, g4⟩ := h1 hb;refine Zd (Dq (q.1, q.2.1, q.2.2.1, ()) (by show ByteArray.size q.1 ≤ _; rw [hq]; omega)) fun y hy => ZB (by unfold lim; omega) ?_;obtain ⟨⟨hy1, hy2⟩, _⟩ := hy;refine VT (ih n _ y.2.1 (List.append row [y.1]) (hy1.trans hq) (fun e => ?_) (by rw [Xq]; omega) (by omega)) fun r hr h => ⟨hb, (hr h).2⟩
  obtain ⟨k1, k2, k3, k4⟩ := hy2 e;have k3 : q.2.1 < y.2.1.2.1 := k3;have k4 : y.2.1.2.1 ≤ (ByteArray.size q.1 : Int) := k4;rw [hq] at k4;rw [Xq];exact ⟨by omega, k4, by omega, by omega⟩
theorem ZqM (t : ByteArray) (ht : t.size ≤ 1000000) : Ok (El big t) fun r => r.2.1 = true → 4 ≤ t.size ∧ (∀ a b e, t.extract 0 (t.size - 4) = bL (enc a) ++ bL (enc b) ++ e → r.1.1 = (a : Int) ∧ r.1.2.1 = (b : Int)) ∧
  List.length r.1.2.2.2.2.2.1 ≤ 20001 ∧ r.1.2.2.2.2.2.2 = ([], [], [], [], [], 0, ()) ∧ 0 ≤ r.1.2.2.1.2.1 ∧ 0 ≤ r.1.2.2.2.1.2.1 := by
 rw [ZaO];refine Zd (ZqL t ht) fun u hu => ?_;refine Zd (Dq (u.1, 0, !u.2.1, ()) (by show ByteArray.size u.1 ≤ _; have := hu.1; omega)) fun y hy => ?_;have hs : ByteArray.size u.1 ≤ 1000000 := by have := hu.1; omega
 refine Zd (Dq y.2.1 (by rw [hy.1.1]; exact hs)) fun y1 hy1 => ?_;have h1 := hy.1.trans hy1.1;refine Zd (Zw3 y1.2.1 (by rw [h1.1]; exact hs)) fun y2 hy2 => ?_;have h2 := h1.trans hy2.1;refine Zd (Zw3 y2.2.1 (by rw [h2.1]; exact hs)) fun y3 hy3 => ?_;have h3 := h2.trans hy3.1;refine Zd (ZvP y3.2.1 (by rw [h3.1]; exact hs)) fun y4 hy4 => ?_;have h4 := h3.trans hy4;refine Zd (Dq y4.2.1 (by rw [h4.1]; exact hs)) fun y5 hy5 => ?_;have h5 := h4.trans hy5.1;refine VT (ZvQ t u.1 hu.1 y5.1 _ _ _ _ _ _ _ _ _ _ _ _ _ _ _ _ _ _ _ _ _ y.1 y1.1 y2.1.1 y2.1.2.1 y2.1.2.2.1 y2.1.2.2.2.1 y3.1.1 y3.1.2.1 y3.1.2.2.1 y3.1.2.2.2.1 y4.1.1 y4.1.2.1 y4.1.2.2.1 y4.1.2.2.2.1 [] [] [] [] [] [] 0 (ByteArray.size u.1 + 1) big 0 y5.2.1 [] h5.1 (fun e => ?_) (by decide) (by unfold big; omega)) fun r hr h => ?_
 ·obtain ⟨k1, k2, k3, k4⟩ := h5.2 e
  have k3 : (0 : Int) < y5.2.1.2.1 := k3;exact ⟨by omega, k4, by omega, by show (0 : Int) ≤ _; omega⟩
 ·obtain ⟨hb, row, hrow, e⟩ := hr h
  have b4 := (hy5.1.2 hb).1;have b3 := (hy4.2 b4).1;have b2 := (hy3.1.2 b3).1;have b1 := (hy2.1.2 b2).1;have b0 := (hy1.1.2 b1).1;have bu := (hy.1.2 b0).1;have bu' : u.2.1 = true := by
   cases hc : u.2.1 with
   | true => rfl
   | false => rw [show ((u.1, (0 : Int), !u.2.1, ()) : XQ).2.2.1 = !u.2.1 from rfl, hc] at bu; cases bu
  obtain ⟨q1, q2⟩ := hu.2 bu';rw [e];refine ⟨q1, fun a b f hf => ?_, hrow, rfl, hy2.2 b2, hy3.2 b3⟩;have hd : u.1.data.toList = enc a ++ (enc b ++ f.data.toList) := by
   rw [q2, hf];simp only [ByteArray.data_append, Array.toList_append, bL, List.append_assoc]
  obtain ⟨_, _, z1⟩ := hy.2 b0;obtain ⟨z2, z3⟩ := z1 a (enc b ++ f.data.toList) hd;obtain ⟨_, _, w1⟩ := hy1.2 b1;have hy11 : y.2.1.1 = u.1 := hy.1.1;have z3 : y.2.1.2.1 = 0 + ((enc a).length : Int) := z3;obtain ⟨w2, _⟩ := w1 b f.data.toList (by
   rw [hy11, z3, hd, show (0 + ((enc a).length : Int)).toNat = (enc a).length by omega, List.drop_left])
  exact ⟨z2, w2⟩
theorem Zuc {B : Nat} {V : Int} (h0 : 30000 ≤ B) (hB : B ≤ 100000000) {t : List Zv} (ht : Xl t) {p : Zn} (h : YO B V p) (hi : 0 ≤ p.1 ∧ p.1 ≤ 1000) : Ok (MJ big t p) fun r => YO B V r ∧ r.1 = p.1 := by
 have hv := h.view;have hto := h.top;rw [Zis];refine Zd (Zgu p (Nat.le_trans h.row hB)) fun y hy => Zd (ZqM y (by have := hy.1; omega)) fun z hz => Yb (fun _ => Za ⟨⟨Nat.zero_le _, ⟨Nat.zero_le _, fun c hc => by cases hc⟩, Nat.zero_le _, ⟨Nat.zero_le _, fun c hc => by cases hc⟩, Nat.zero_le _, Nat.zero_le _, by have := h.top; show (1 : Int) ≤ 1 ∧ (1 : Int) ≤ V; omega, h.top, ⟨Int.le_refl 0, Int.le_refl 0⟩⟩, rfl⟩) fun ho => ?_;obtain ⟨g1, g2, g3, g4, g5⟩ := hz ho;obtain ⟨e, he⟩ := hy.2 g1 hi (by omega);obtain ⟨k1, k2⟩ := g2 _ _ _ he;refine Zd (ZqH ht (by omega)) fun cs hcs => Za ⟨⟨?_, hcs, ?_, ⟨?_, ?_⟩, ?_, ?_, ?_, h.top, g5⟩, ?_⟩
 ·show List.length z.1.2.2.2.2.2.1 ≤ B; omega
 ·show List.length z.1.2.2.2.2.2.2.2.1 ≤ 60; rw [g4]; exact Nat.zero_le _
 ·show List.length z.1.2.2.2.2.2.2.2.2.1 ≤ 240; rw [g4]; exact Nat.zero_le _
 ·show ∀ c ∈ z.1.2.2.2.2.2.2.2.2.1, _; rw [g4]; exact fun c hc => by cases hc
 ·show List.length z.1.2.2.2.2.2.2.2.2.2.1 ≤ B; rw [g4]; exact Nat.zero_le _
 ·show List.length z.1.2.2.2.2.2.2.2.2.2.2.1 ≤ B; rw [g4]; exact Nat.zero_le _
 ·show 1 ≤ z.1.2.1 ∧ z.1.2.1 ≤ V; rw [k2]; omega
 ·show z.1.1 = p.1; rw [k1]; omega
theorem ZsP {x : Zp} (ht : Xl x.2.2.2.1) {V : Int} (hv : 0 ≤ V) (hx : ∀ b ∈ x.2.2.2.1, b.2.1 ≤ V) (a b c k : Int) : Ok (Hc big x a b c k) fun r => 0 ≤ r.2.2.2.1 ∧ r.2.2.2.1 ≤ V := by
 have hlo := ht.lo; have hhi := ht.hi;rw [Zds, LZ, Option.bind_some, ZH (n := (↑(List.length x.2.2.2.1) : Int) - 1) (by omega) (by omega)];refine Ym (fun h => ?_) fun _ => Za ⟨Int.le_refl 0, hv⟩;simp only [Bool.and_eq_true, decide_eq_true_eq] at h;exact ZB h.1 (ZZ (by omega) fun y hy => Za ⟨(ht.view y hy).1, hx y hy⟩)
theorem ZqN {S : Nat} (hS : S ≤ 1000000000) (n0 : Int) (ch : Bool) (li : Int) (tr : List Zv) (ps : List Zn) (ne : List Zy) (sa : List Z3) (pe : List Xd) (s1 s2 s8 z0 z1 z2 z3 : Int) :
  ∀ (m n : Nat) (i : Int) (l : List Z3), 0 ≤ i → i ≤ 7 → (7 : Int) ≤ i + m → m < n → (l.length : Int) ≤ S + i → Ok (JJ n s1 s2 s8 l i n0 ch li tr ps ne sa pe z0 z1 z2 z3) fun r => r.1.2.1 = 0 ∨ r.1.2.1 = s8 := by
 intro m
 induction m with
 | zero =>
  intro n i l h0 h1 h2 h3 h4;obtain ⟨n, rfl⟩ : ∃ m, n = m + 1 := ⟨n - 1, by omega⟩
  rw [Gm];exact Zl (fun _ => Zl (fun h => by omega) fun _ => Zd (Zmj l (by omega) _ _ _ _) fun _ hq => Za hq) fun _ => Zd (Zmj l (by omega) _ _ _ _) fun _ hq => Za hq
 | succ m ih =>
  intro n i l h0 h1 h2 h3 h4;obtain ⟨n, rfl⟩ : ∃ m, n = m + 1 := ⟨n - 1, by omega⟩
  rw [Gm];refine Zl (fun _ => Zl (fun h => ?_) fun _ => Zd (Zmj l (by omega) _ _ _ _) fun _ hq => Za hq) fun _ => Zd (Zmj l (by omega) _ _ _ _) fun _ hq => Za hq;rw [ZH (n := i + 1) (by omega) (by omega)];exact Zd (Zb8 _ _) fun _ _ => Ym (fun _ => ZB (by simp only [List.length_singleton]; unfold lim; omega) (ih n (i + 1) _ (by omega) (by omega) (by omega) (by omega) (by rw [Xq]; omega))) fun _ => ih n (i + 1) _ (by omega) (by omega) (by omega) (by omega) (by omega)
theorem Zcd {B S : Nat} {V : Int} (hS : S ≤ 1000000000) {x : Zp} (h : ClI B S V x) (hv : 0 ≤ V) (a k : Int) : Ok (JI big x a k) fun r => 0 ≤ r.1.2.1 ∧ r.1.2.1 ≤ V := by
 have ht := h.tree;have hlo := ht.lo; have hhi := ht.hi;have hsa := h.said;rw [Zlu, LZ, Option.bind_some, ZH (n := (↑(List.length x.2.2.2.1) : Int) - 1) (by omega) (by omega)];refine Yb (fun _ => Za ⟨Int.le_refl 0, hv⟩) fun hk => ?_;simp only [Bool.and_eq_true, decide_eq_true_eq] at hk;refine ZB (by omega) (ZZ (by omega) fun y hy => ZB (by unfold lim; omega) (VT (ZqN hS _ _ _ _ _ _ _ _ _ _ _ _ _ _ _ 7 big 0 _ (by omega) (by omega) (by omega) (by unfold big; omega) (by omega)) fun r hr => ?_));have h1 := (ht.view y hy).1;have h2 := h.tv y hy;omega
theorem ZsQ {B S : Nat} {V : Int} (hS : S ≤ 1000000000) {x : Zp} (h : ClI B S V x) (l : Zy) : Ok (Hp big x l) fun _ => True := by
 have hsa := h.said;rw [Zd3];exact Zd (FD h.tree _ _) fun _ _ => Yb (fun _ => Za trivial) fun _ => Zd (Zb8 _ _) fun _ _ => Yb (fun _ => Za trivial) fun _ => Zd (Zo7 _ (by omega) _ _) fun _ _ => Yb (fun _ => Za trivial) fun _ => YM (fun _ => Za trivial) fun _ => Zd (Zb8 _ _) fun _ _ => Za trivial
theorem Zpf {B S : Nat} {V : Int} (hS : S ≤ 1000000000) {x : Zp} (h : ClI B S V x) (l : Zy) (hl : 0 ≤ l.2.2.2.1 ∧ l.2.2.2.1 ≤ V) : Ok (XV big x l) fun r => ClI B S V r.2.1 := by
 rw [Zd5];exact Zd (ZsQ hS h l) fun _ _ => Yb (fun _ => Za h) fun _ => Zd (Zmo h _ (by simp only [List.length_singleton]; omega) (Zmn hl)) fun y hy => Za hy
theorem ZsR (x : Zp) (k : Int) : Ok (Az big x k) fun _ => True := by
 rw [ZaX];exact Ym (fun _ => Za trivial) fun _ => Za trivial
theorem Zi8 (l : List Zn) (hl : l.length ≤ 1000) {V : Int} (hv : ∀ p ∈ l, 0 ≤ p.2.1 ∧ p.2.1 ≤ V) : ∀ (m n : Nat) (a i : Int), 0 ≤ i → i ≤ l.length → (l.length : Int) ≤ i + m → m < n → (0 ≤ a ∧ a ≤ V) → Ok (XR n l a i) fun r => 0 ≤ r ∧ r ≤ V
 | m, 0, a, i, _, _, _, h, _ => by omega
 | 0, n + 1, a, i, h0, h1, h2, h3, h4 => by
  rw [Q3];exact Zl (fun h => by omega) fun _ => Za h4
 | m + 1, n + 1, a, i, h0, h1, h2, h3, h4 => by
  rw [Q3, ZH (n := i + 1) (by omega) (by omega)];exact Zl (fun hi => ZB h0 (ZZ (by omega) fun y _ => Zl (fun _ => ZB h0 (ZZ (by omega) fun z hz => Zi8 l hl hv m n _ (i + 1) (by omega) (by omega) (by omega) (by omega) (hv z hz))) fun _ => Zi8 l hl hv m n _ (i + 1) (by omega) (by omega) (by omega) (by omega) h4)) fun _ => Za h4
theorem ZqO (l : List Zn) (hl : l.length ≤ 1000) {V : Int} (h0 : 0 ≤ V) (hv : ∀ p ∈ l, 0 ≤ p.2.1 ∧ p.2.1 ≤ V) : Ok (Kc big l) fun r => 0 ≤ r ∧ r ≤ V := by
 rw [Ht];exact Zi8 l hl hv l.length big 0 0 (by omega) (by omega) (by omega) (by unfold big; omega) ⟨Int.le_refl 0, h0⟩
structure EvI (e : VJ) : Prop where
 num : 0 ≤ e.2.2.2.1
 less : e.2.2.2.1 ≤ 29
 key : ByteArray.size e.2.2.2.2.1.2.1 ≤ 1000
theorem AU {B S : Nat} {V : Int} (hS : S ≤ 1000000000) {x : Zp} (h : ClI B S V x) {e : VJ} (he : EvI e) (k view : Int) (hvw : 0 ≤ view ∧ view ≤ V) (q : Bw) : Ok
  ((W8 big x e.2.1).bind fun y_2 => bif !y_2 then some (false, x, PUnit.unit) else (XU big x.2.2.2.1 x.1 q).bind fun y_3 => bif !y_3 then some (false, x, PUnit.unit) else (V5 big x.2.2.2.2.2.2.1 q x.2.2.1).bind fun y_4 => bif !y_4 then some (false, x, PUnit.unit) else
   (We big x.2.2.2.1 (k, view, [e.2.2.2.2.1], q, ())).bind fun y_5 => bif decide (y_5.2.1 < (0 : Int)) then some (false, x, PUnit.unit) else (XV big (x.1, x.2.1, x.2.2.1, y_5.1, x.2.2.2.2) ((1 : Int), e.2.1, e.2.2.1, view, y_5.2.1, q, ((0 : Int), (0 : Int), (0 : Int), (0 : Int), ()), ())).bind fun y =>
   bif !y.1 then some (false, (y.2.1.1, y.2.1.2.1, y.2.1.2.2.1, x.2.2.2.1, y.2.1.2.2.2.2), PUnit.unit) else some (true, y.2))
  fun r : Bool × Zp × Unit => ClI B S V r.2.1 := by
 have hsa := h.said;refine Zd (Zb8 _ _) fun _ _ => Yb (fun _ => Za h) fun _ => Zd (Zcb h.tree _ _) fun _ _ => Yb (fun _ => Za h) fun _ => Zd (Zo7 _ (by omega) _ _) fun _ _ => Yb (fun _ => Za h) fun _ =>
  Zd (Zgr h.tree (k, view, [e.2.2.2.2.1], q, ()) (fun c hc => by rw [List.mem_singleton.1 hc]; exact he.key) (by show List.length [_] ≤ _; simp only [List.length_singleton]; omega)) fun y5 hy5 => Zl (fun _ => Za h) fun _ => ?_
 have h5 : ClI B S V (x.1, x.2.1, x.2.2.1, y5.1, x.2.2.2.2) := ⟨h.n, hy5.1, h.peers, h.peer, h.net, h.said, h.pend, h.key, h.lv, hy5.2.2.2.2 V h.tv hvw.2⟩
 refine Zd (Zpf hS h5 _ hvw) fun y hy => Yb (fun _ => Za ⟨hy.n, h.tree, hy.peers, hy.peer, hy.net, hy.said, hy.pend, hy.key, hy.lv, h.tv⟩) fun _ => Za hy
set_option maxHeartbeats 4000000 in
theorem ZvR {B S : Nat} {V : Int} (hS : S ≤ 1000000000) (h30 : 30 ≤ V) (hV : V + 1 ≤ 900) {x : Zp} (h0 : ClI B S V x) {e : VJ} (he : EvI e) : Ok (Em big x e) fun r => ClI B S (V + 1) r.2.1 := by
 have h := h0.up (V' := V + 1) (by omega) hV;have ht := h.tree;have hlo := ht.lo; have hhi := ht.hi;have hp := h.peers;have hm := Zi3 he.num (show (0 : Int) < (↑(List.length x.2.2.2.1) : Int) by omega);rw [Za0];refine Do (by omega) (Zd (ZqO _ (by omega) (V := V) (by omega) fun p hp => by have := (h0.peer p hp).1.view; omega) fun y hy => ?_);have wy : IntKind.i64.wrap (y + 1) = y + 1 := ZH (by omega) (by omega);refine Zl (fun _ => ZB hm.1 (ZB hm.2 (ZZ (by omega) fun z hz => ?_))) fun _ => Ym (fun _ => ?_) fun _ => ?_
 ·have z1 := (ht.view z hz).1
  have z2 := h0.tv z hz;have wz : IntKind.i64.wrap (z.2.1 + 1) = z.2.1 + 1 := ZH (by omega) (by omega);rw [wz];refine Ym (fun _ => ?_) fun _ => ?_
  ·exact Zd (Zcd hS h (by omega) _ _) fun q _ => Yb (fun _ => YM (fun _ => Za h) fun _ => AU hS h he _ _ (by omega) q.1) fun _ => AU hS h he _ _ (by omega) q.1
  ·exact Zd (Zcd hS h (by omega) _ _) fun q _ => Yb (fun _ => YM (fun _ => Za h) fun _ => AU hS h he _ _ (by omega) q.1) fun _ => AU hS h he _ _ (by omega) q.1
 ·rw [wy]
  exact Zd (Zcd hS h (by omega) _ _) fun q _ => Yb (fun _ => YM (fun _ => Za h) fun _ => AU hS h he _ _ (by omega) q.1) fun _ => AU hS h he _ _ (by omega) q.1
 ·rw [wy]
  exact Zd (Zcd hS h (by omega) _ _) fun q _ => Yb (fun _ => YM (fun _ => Za h) fun _ => AU hS h he _ _ (by omega) q.1) fun _ => AU hS h he _ _ (by omega) q.1
theorem Zx8 {B S : Nat} {V : Int} (hS : S ≤ 1000000000) (h30 : 30 ≤ V) (hV : V + 1 ≤ 900) {x : Zp} (h0 : ClI B S V x) {e : VJ} (he : EvI e) : Ok (MK big x e) fun r => ClI B S (V + 1) r.2.1 := by
 have h := h0.up (V' := V + 1) (by omega) hV;have ht := h.tree;have hlo := ht.lo; have hhi := ht.hi;have hn := he.num; have hn2 := he.less;have e9 : Int.tmod e.2.2.2.1 900 = e.2.2.2.1 := Int.tmod_eq_of_lt hn (by omega);rw [Zix, e9, ZH (n := e.2.2.2.1 + 1) (by omega) (by omega)];refine Zl (fun _ => Za h) fun _ => Zd (Zb8 _ _) fun _ _ => Yb (fun _ => Za h) fun _ => Do (by omega) (Zl (fun _ => Zd (ZsR _ _) fun y _ => Zd (ZsP ht (by omega) h.tv _ _ _ _) fun z hz => Zd (Zpf hS h z hz) fun w hw => Za hw) fun _ =>
  Zl (fun _ => Zd (ZsR _ _) fun y _ => Zd (Zcd hS h (by omega) _ _) fun z hz => Yb (fun _ => Za h) fun _ => Zd (Zpf hS h _ hz) fun w hw => Za hw) fun _ =>
  Zl (fun _ => Zd (ZvR hS h30 hV h0 he) fun w hw => Za hw) fun _ => Zd (Zpf hS h _ ⟨by show 0 ≤ e.2.2.2.1 + 1; omega, by show e.2.2.2.1 + 1 ≤ V + 1; omega⟩) fun w hw => Za hw)
theorem ZuO {c : ZM} (h : FL c) : Ok (Fg big c) fun r => FL r.2.1 ∧ ByteArray.size r.1.2.1 ≤ 1000 := by
 rw [Zhl];refine Zd (Xw h 3) fun y hy => ?_;refine Zd (Q := fun r => FL r.2.1 ∧ ByteArray.size r.1 ≤ 1000) ?_ fun y1 hy1 => ?_
 ·rw [Zhi]
  refine Zd (ZwT hy.2.2.2 _ (by decide)) fun z hz => Za ⟨hz.2, ?_⟩;have h1 := hz.1;simp only [List.mem_cons, List.not_mem_nil, or_false] at h1;rcases h1 with h1 | h1 | h1 | h1 <;> rw [h1] <;> decide
 ·exact Zd (EV hy1.1 _ (by decide)) fun z hz => Za ⟨hz.2, hy1.2⟩
theorem ZyA (n : Nat) : XC (n + 8) 0 = some 0 := by
 rw [Vs];simp only [XI]
 kernel_rfl
theorem ZyB (n : Nat) : XC (n + 8) 1 = some 1 := by
 rw [Vs];simp only [XI]
 kernel_rfl
theorem ZyC (n : Nat) : XC (n + 8) 2 = some 1 := by
 rw [Vs];simp only [XI]
 kernel_rfl
theorem ZyD (n : Nat) : XC (n + 8) 8 = some 1 := by
 rw [Vs];simp only [XI]
 kernel_rfl
theorem Zx9 {l : Int} (h : l = 0 ∨ l = 8 ∨ l = 1 ∨ l = 2) : ∃ v, XC big l = some v ∧ ¬ (1 : Int) < v := by
 have hb : big = (big - 8) + 8 := by decide
 rw [hb];rcases h with rfl | rfl | rfl | rfl
 ·exact ⟨_, ZyA _, by decide⟩
 ·exact ⟨_, ZyD _, by decide⟩
 ·exact ⟨_, ZyB _, by decide⟩
 ·exact ⟨_, ZyC _, by decide⟩
theorem ZsS : By big 4 = some 1 := by
 rw [Ip];rfl
theorem Zud {V : Int} (hV : 1 ≤ V ∧ V ≤ 900) (i : Int) (h : 0 ≤ i ∧ i ≤ 1000) : Be 0 V (i, (1 : Int), ((0 : Int), (0 : Int), (0 : Int), (0 : Int), ()), ((0 : Int), (0 : Int), (0 : Int), (0 : Int), ()), ((0 : Int), (0 : Int), (0 : Int), (0 : Int), ()), [], [], [], [], [], [], (0 : Int), ()) :=
 ⟨⟨Nat.le_refl _, ⟨Nat.zero_le _, fun c hc => by cases hc⟩, Nat.zero_le _, ⟨Nat.zero_le _, fun c hc => by cases hc⟩, Nat.le_refl _, Nat.le_refl _, by show (1 : Int) ≤ 1 ∧ (1 : Int) ≤ V; omega, hV.2, ⟨Int.le_refl 0, Int.le_refl 0⟩⟩, h⟩
theorem Zue : Xl [((-1 : Int), (0 : Int), [], ((0 : Int), (0 : Int), (0 : Int), (0 : Int), ()), ())] :=
 ⟨Nat.le_refl _, by decide, fun b hb => by rw [List.mem_singleton.1 hb]; exact ⟨Nat.zero_le _, fun c hc => by cases hc⟩, fun b hb => by rw [List.mem_singleton.1 hb]; show (0 : Int) ≤ 0 ∧ (0 : Int) ≤ 900; decide, fun b hb => by cases hb; exact ⟨rfl, rfl⟩, fun k b hb hk => by have := CX hb; simp only [List.length_singleton] at this; omega⟩
theorem ZsT {V : Int} (hV : 1 ≤ V ∧ V ≤ 900) (ch : Bool) (li : Int) : ∀ (m n i : Nat) (ps : List Zn), i ≤ 4 → 4 ≤ i + m → m < n → ps.length = i → (∀ p ∈ ps, Be 0 V p) →
  Ok (VB n 4 (i : Int) 0 false 0 [] [] [] [] [] 4 ch li [((-1 : Int), (0 : Int), [], ((0 : Int), (0 : Int), (0 : Int), (0 : Int), PUnit.unit), PUnit.unit)] ps [] [] []) fun r => ClI 0 0 V r.1 := by
 intro m;have fin : ∀ ps : List Zn, ps.length = 4 → (∀ p ∈ ps, Be 0 V p) → ClI 0 0 V ((4 : Int), ch, li, [((-1 : Int), (0 : Int), [], ((0 : Int), (0 : Int), (0 : Int), (0 : Int), ()), ())], ps, [], [], [], ()) := fun ps h1 h2 =>
  ⟨rfl, Zue, h1, h2, Nat.zero_le _, Nat.le_refl _, Nat.zero_le _, fun c hc => (by cases hc), Dp, fun b hb => by rw [List.mem_singleton.1 hb]; show (0 : Int) ≤ V; omega⟩
 induction m with
 | zero =>
  intro n i ps h0 h1 h2 h3 h4;obtain ⟨n, rfl⟩ : ∃ m, n = m + 1 := ⟨n - 1, by omega⟩
  rw [JA];exact Zl (fun h => by omega) fun _ => Za (fin ps (by omega) h4)
 | succ m ih =>
  intro n i ps h0 h1 h2 h3 h4;obtain ⟨n, rfl⟩ : ∃ m, n = m + 1 := ⟨n - 1, by omega⟩
  rw [JA, ZH (n := (i : Int) + 1) (by omega) (by omega)];refine Zl (fun h => ZB (by unfold lim; omega) ?_) fun _ => Za (fin ps (by omega) h4);have e : (i : Int) + 1 = ((i + 1 : Nat) : Int) := by omega
  rw [e];refine ih n (i + 1) _ (by omega) (by omega) (by omega) (by rw [Xq]; omega) fun p hp => ?_;rcases List.mem_append.1 hp with hp | hp
  ·exact h4 p hp
  ·rw [List.mem_singleton.1 hp]; exact Zud hV i (by omega)
theorem Zw4 {V : Int} (hV : 1 ≤ V ∧ V ≤ 900) (ch : Bool) {l : Int} (h : l = 0 ∨ l = 8 ∨ l = 1 ∨ l = 2) : Ok (A8 big 4 ch l) fun r => ClI 0 0 V r.1 := by
 rw [MB, LZ, Option.bind_some, show (decide ((1 : Int) ≤ 4) && decide ((4 : Int) ≤ 7)) = true from by decide, Bool.not_true, cond_false];refine Do (O4 4) ?_;have e : IntKind.i64.wrap (IntKind.i64.wrap ((1 : Int) * (2 : Int) ^ min (IntKind.u64.wrap 4).toNat IntKind.i64.bits) - (1 : Int)) = 15 := by decide
 have e2 : (decide ((0 : Int) ≤ l) && decide (l ≤ 15)) = true := by rcases h with rfl | rfl | rfl | rfl <;> decide
 rw [LZ, e, e2, Option.bind_some, Bool.not_true, cond_false];obtain ⟨v, hv, hv1⟩ := Zx9 h;rw [hv, Option.bind_some, ZsS, Option.bind_some];refine Zl (fun hc => absurd hc hv1) fun _ => ?_;have := ZsT hV ch l 4 big 0 [] (by decide) (by decide) (by decide) rfl (fun p hp => by cases hp);exact this
def EvR (x : Zp) (r : VJ × ZM × (Unit × Unit × Unit × List Zv × List Zn × List Zy × List Z3 × List Xd × Unit) × Unit) : Prop :=
 EvI r.1 ∧ FL r.2.1 ∧ r.2.2.1 = ((), (), (), x.2.2.2.1, x.2.2.2.2.1, x.2.2.2.2.2.1, x.2.2.2.2.2.2.1, x.2.2.2.2.2.2.2.1, ())
theorem Zuf (a b c : Int) (n : Int) (hn : 0 ≤ n ∧ n ≤ 29) : EvI (a, b, c, n, ((0 : Int), ByteArray.empty, (0 : Int), ()), ()) := ⟨hn.1, hn.2, by show ByteArray.size ByteArray.empty ≤ 1000; decide⟩
theorem ZyE (x : Zp) (hx : List.length x.2.2.2.2.1 ≤ 1000) (c : ZM) (hc : FL c) (z0 z1 z2 z3 z4 : Int) (z5 : ByteArray) (z6 : Int) : ∀ (m n : Nat) (i : Int), 0 ≤ i → i ≤ List.length x.2.2.2.2.1 → (List.length x.2.2.2.2.1 : Int) ≤ i + m → m < n →
  Ok (WV n i c.1 c.2.1 c.2.2.1 x.2.2.2.1 x.2.2.2.2.1 x.2.2.2.2.2.1 x.2.2.2.2.2.2.1 x.2.2.2.2.2.2.2.1 x.1 x.2.1 x.2.2.1 z0 z1 z2 z3 z4 z5 z6) (EvR x) := by
 have fin : EvR x (((3 : Int), (0 : Int), (0 : Int), (0 : Int), ((0 : Int), ByteArray.empty, (0 : Int), PUnit.unit), PUnit.unit), (c.1, c.2.1, c.2.2.1, PUnit.unit), (PUnit.unit, PUnit.unit, PUnit.unit, x.2.2.2.1, x.2.2.2.2.1, x.2.2.2.2.2.1, x.2.2.2.2.2.2.1, x.2.2.2.2.2.2.2.1, PUnit.unit), PUnit.unit) := ⟨Zuf _ _ _ _ (by decide), hc, rfl⟩
 intro m
 induction m with
 | zero =>
  intro n i h0 h1 h2 h3;obtain ⟨n, rfl⟩ : ∃ m, n = m + 1 := ⟨n - 1, by omega⟩
  rw [AA];exact Zl (fun h => by omega) fun _ => Za fin
 | succ m ih =>
  intro n i h0 h1 h2 h3;obtain ⟨n, rfl⟩ : ∃ m, n = m + 1 := ⟨n - 1, by omega⟩
  rw [AA, ZH (n := i + 1) (by omega) (by omega)];refine Zl (fun hi => ?_) fun _ => Za fin;refine Zd (L0 (x.1, x.2.1, x.2.2.1, x.2.2.2.1, x.2.2.2.2.1, x.2.2.2.2.2.1, x.2.2.2.2.2.2.1, x.2.2.2.2.2.2.2.1, ()) i hx) fun b _ => Ym (fun _ => ZB h0 (ZB hi ?_)) fun _ => ih n (i + 1) (by omega) (by omega) (by omega) (by omega);have hin : i.toNat < List.length x.2.2.2.2.1 := by omega
  rw [ZY hin, Option.bind_some];refine Zd (Zsx _ _ _) fun y _ => GG hin ?_;rw [H8 (ZY hin)];refine Ym (fun _ => Za ⟨Zuf _ _ _ _ (by decide), hc, rfl⟩) fun _ => ih n (i + 1) (by omega) (by omega) (by omega) (by omega)
theorem ev4 (x : Zp) (hx : List.length x.2.2.2.2.1 ≤ 1000) (h4 : x.1 = 4) (c : ZM) (hc : FL c) (s5 : Int) (z0 z1 z2 z3 z4 : Int) (z5 : ByteArray) (z6 : Int) : ∀ (m n : Nat) (s6 i : Int), 0 ≤ i → i ≤ 4 → (4 : Int) ≤ i + m → m + 1001 < n →
  Ok (Vx n s5 s6 i c.1 c.2.1 c.2.2.1 x.2.2.2.1 x.2.2.2.2.1 x.2.2.2.2.2.1 x.2.2.2.2.2.2.1 x.2.2.2.2.2.2.2.1 x.1 x.2.1 x.2.2.1 z0 z1 z2 z3 z4 z5 z6) (EvR x) := by
 intro m;have hc' : FL (c.1, c.2.1, c.2.2.1, ()) := hc
 induction m with
 | zero =>
  intro n s6 i h0 h1 h2 h3;obtain ⟨n, rfl⟩ : ∃ m, n = m + 1 := ⟨n - 1, by omega⟩
  rw [BJ];refine Zl (fun h => by omega) fun _ => Zl (fun _ => Zd (ZuO hc') fun y hy => Za ⟨⟨by show (0 : Int) ≤ 0; decide, by show (0 : Int) ≤ 29; decide, hy.2⟩, hy.1, rfl⟩) fun _ =>
   Zl (fun _ => ZyE x hx c hc _ _ _ _ _ _ _ (List.length x.2.2.2.2.1) n 0 (by omega) (by omega) (by omega) (by omega)) fun _ =>
   Zl (fun _ => Zl (fun _ => Zd (Zsu hc' 3) fun y hy => Ym (fun _ => Zd (Xw hy _) fun z hz => Za ⟨Zuf _ _ _ _ (by decide), hz.2.2.2, rfl⟩) fun _ => Za ⟨Zuf _ _ _ _ (by decide), hy, rfl⟩) fun _ => Za ⟨Zuf _ _ _ _ (by decide), hc, rfl⟩) fun _ =>
   Zl (fun _ => Zd (EV hc' _ (by decide)) fun y hy => Zd (Xw hy.2 _) fun z hz => Za ⟨Zuf _ _ _ _ (by decide), hz.2.2.2, rfl⟩) fun _ =>
   Zl (fun _ => Zd (Xw hc' _) fun z hz => Za ⟨Zuf _ _ _ _ (by decide), hz.2.2.2, rfl⟩) fun _ =>
   Zl (fun _ => Zd (Xw hc' _) fun z hz => Za ⟨Zuf _ _ _ _ (by decide), hz.2.2.2, rfl⟩) fun _ =>
   Zd (Xw hc' _) fun y hy => Zd (Xw hy.2.2.2 _) fun z hz => Zl (fun _ => Zd (ZuO hz.2.2.2) fun w hw => Za ⟨⟨hy.1, by have := hy.2.1 (by decide); show y.1 ≤ 29; omega, hw.2⟩, hw.1, rfl⟩) fun _ => Zd (EV hz.2.2.2 _ (by decide)) fun w hw => Za ⟨Zuf _ _ _ _ ⟨hy.1, by have := hy.2.1 (by decide); omega⟩, hw.2, rfl⟩
 | succ m ih =>
  intro n s6 i h0 h1 h2 h3;rcases Int.lt_or_le i 4 with hi | hi
  ·obtain ⟨n, rfl⟩ : ∃ m, n = m + 1 := ⟨n - 1, by omega⟩
   rw [BJ, ZH (n := i + 1) (by omega) (by omega)];refine Zl (fun h => Zd (Zb8 _ _) fun _ _ => Ym (fun _ => ih n _ (i + 1) (by omega) (by omega) (by omega) (by omega)) fun _ => ih n _ (i + 1) (by omega) (by omega) (by omega) (by omega)) fun h => by omega
  ·exact ih n s6 i h0 h1 (by omega) (by omega)
theorem ZvS (x : Zp) (hx : List.length x.2.2.2.2.1 ≤ 1000) (h4 : x.1 = 4) (c : ZM) (hc : FL c) : Ok (En big c x) (EvR x) := by
 rw [Za4];exact Zd (Xw hc 20) fun y hy => ev4 x hx h4 y.2.1 hy.2.2.2 _ _ _ _ _ _ _ _ 4 big 0 0 (by omega) (by omega) (by omega) (by unfold big; omega)
theorem ZsU (b0 : Int) (b1 : Int) (b2 : Int) (b3 : Int) (b4 : Int) (b5 : Int) (b6 : Int) (b7 : Int) (b8 : Int) (b9 : Int) (b10 : Int) (b11 : Int) (b12 : Int) (b13 : Int) (b14 : List Int) (b15 : List ZL) (b16 : List Int) (b17 : List Yd) (b18 : List Z3) (b19 : List Zy) (b20 : Int) (hn : b19.length ≤ 1000000000) (z0 z1 z2 z3 : Int) : ∀ (m n : Nat) (i y0 y1 y2 y3 : Int), 0 ≤ i → i ≤ b19.length → (b19.length : Int) ≤ i + m → m < n →
  Ok (J6 n i b0 b1 b2 b3 b4 b5 b6 b7 b8 b9 b10 b11 b12 b13 b14 b15 b16 b17 b18 b19 b20 z0 z1 z2 z3 y0 y1 y2 y3) fun r => y1 ≤ r.2.1 := by
 intro m
 induction m with
 | zero =>
  intro n i y0 y1 y2 y3 h0 h1 h2 h3;obtain ⟨n, rfl⟩ : ∃ m, n = m + 1 := ⟨n - 1, by omega⟩
  rw [DM];exact Zl (fun h => by omega) fun _ => Za (Int.le_refl _)
 | succ m ih =>
  intro n i y0 y1 y2 y3 h0 h1 h2 h3;obtain ⟨n, rfl⟩ : ∃ m, n = m + 1 := ⟨n - 1, by omega⟩
  rw [DM, ZH (n := i + 1) (by omega) (by omega)];exact Zl (fun hi => ZB h0 (ZZ (by omega) fun y _ => Zd (CS _ _) fun z hz => VT (ih n (i + 1) _ _ _ _ (by omega) (by omega) (by omega) (by omega)) fun r hr => Int.le_trans hz.2 hr)) fun _ => Za (Int.le_refl _)
theorem Zw5 {p : Zn} (h : List.length p.2.2.2.2.2.2.2.2.2.2.1 ≤ 1000000000) : Ok (Mu big p) fun r => p.2.2.1.2.1 ≤ r.2.1 := by
 rw [Zhu];exact ZsU _ _ _ _ _ _ _ _ _ _ _ _ _ _ _ _ _ _ _ _ _ h _ _ _ _ (List.length p.2.2.2.2.2.2.2.2.2.2.1) big 0 _ _ _ _ (by omega) (by omega) (by omega) (by unfold big; omega)
theorem ZvT {B : Nat} {V : Int} (hB : B ≤ 1000000000) {t : List Zv} (ht : Xl t) {p : Zn} (h : YO B V p) (l : List Xd) (hl : l.length ≤ 1000) (hk : ∀ c ∈ l, ByteArray.size c.2.1 ≤ 1000) :
  Ok (WR big t p l) fun r => Xl r.1 ∧ YO B V r.2.1 ∧ r.2.1.1 = p.1 ∧ ((∀ x ∈ t, x.2.1 ≤ V) → ∀ x ∈ r.1, x.2.1 ≤ V) := by
 rw [ZkV];refine Zd (Zw5 (Nat.le_trans h.news hB)) fun q hq => Zd (Zgr ht (q.2.2.1, p.2.1, l, q, ()) hk (by show l.length ≤ _; omega)) fun y hy => ?_;rw [EW hB h, Option.bind_some];have tv : (∀ x ∈ t, x.2.1 ≤ V) → ∀ x ∈ y.1, x.2.1 ≤ V := fun k => hy.2.2.2.2 V k h.view.2;exact Zl (fun _ => Za ⟨hy.1, h, rfl, tv⟩) fun _ => Za ⟨hy.1, ⟨h.row, h.cells, h.early, h.undos, h.votes, h.news, h.view, h.top, ⟨Int.le_trans h.hq.1 hq, h.hq.2⟩⟩, rfl, tv⟩
theorem Zgv {V : Int} (b0 : Int) (b1 : Int) (b2 : Int) (b3 : Int) (b4 : Int) (b5 : Int) (b6 : Int) (b7 : Int) (b8 : Int) (b9 : Int) (b10 : Int) (b11 : Int) (b12 : Int) (b13 : Int) (b14 : List Int) (b15 : List ZL) (b16 : List Int) (b17 : List Yd) (b18 : List Z3) (b19 : List Zy) (b20 : Int) (hb1 : 0 ≤ b1 ∧ b1 ≤ V) (s2 s3 z0 z1 z2 z3 : Int) : ∀ (m n : Nat) (i : Int) (l : List Zy), 0 ≤ i → i ≤ 7 → (7 : Int) ≤ i + m → m < n → (l.length : Int) ≤ i → Lv V l →
  Ok (Uw n s2 s3 l i b0 b1 b2 b3 b4 b5 b6 b7 b8 b9 b10 b11 b12 b13 b14 b15 b16 b17 b18 b19 b20 z0 z1 z2 z3) fun r => List.length r ≤ 7 ∧ Lv V r := by
 intro m
 induction m with
 | zero =>
  intro n i l h0 h1 h2 h3 h4 h5;obtain ⟨n, rfl⟩ : ∃ m, n = m + 1 := ⟨n - 1, by omega⟩
  rw [C2];exact Zl (fun _ => Zl (fun h => by omega) fun _ => Za ⟨by omega, h5⟩) fun _ => Za ⟨by omega, h5⟩
 | succ m ih =>
  intro n i l h0 h1 h2 h3 h4 h5;obtain ⟨n, rfl⟩ : ∃ m, n = m + 1 := ⟨n - 1, by omega⟩
  rw [C2, ZH (n := i + 1) (by omega) (by omega)];exact Zl (fun _ => Zl (fun h => ZB (by simp only [List.length_singleton]; unfold lim; omega) (ih n (i + 1) _ (by omega) (by omega) (by omega) (by omega) (by rw [Xq]; omega) (h5.snoc hb1))) fun _ => Za ⟨by omega, h5⟩) fun _ => Za ⟨by omega, h5⟩
theorem ZsV {V : Int} {t : List Zv} (ht : Xl t) (p : Zn) (hp : 0 ≤ p.2.1 ∧ p.2.1 ≤ V) (k n : Int) : Ok (Hb big t p k n) fun r => List.length r ≤ 7 ∧ Lv V r := by
 have hlo := ht.lo; have hhi := ht.hi;rw [Zdp, LZ, Option.bind_some, ZH (n := (↑(List.length t) : Int) - 1) (by omega) (by omega)];refine Ym (fun h => ?_) fun _ => Zgv _ _ _ _ _ _ _ _ _ _ _ _ _ _ _ _ _ _ _ _ _ hp _ _ _ _ _ _ 7 big 0 [] (by omega) (by omega) (by omega) (by unfold big; omega) (by decide) Dp;simp only [Bool.and_eq_true, decide_eq_true_eq] at h;exact ZB h.1 (ZZ (by omega) fun y _ => Zgv _ _ _ _ _ _ _ _ _ _ _ _ _ _ _ _ _ _ _ _ _ hp _ _ _ _ _ _ 7 big 0 [] (by omega) (by omega) (by omega) (by unfold big; omega) (by decide) Dp)
theorem Zug {B S : Nat} {V : Int} {x : Zp} (h : ClI B S V x) (i : Int) (hi : 0 ≤ i ∧ i < (List.length x.2.2.2.2.1 : Int)) (k : Int) (hk : 0 ≤ k ∧ k ≤ (List.length x.2.2.2.2.2.2.2.1 : Int)) {t : List Zv} (ht : Xl t) (htv : ∀ b ∈ t, b.2.1 ≤ V) (at_ : Int) (b0 : Int) (b1 : Int) (b2 : Int) (b3 : Int) (b4 : Int) (b5 : Int) (b6 : Int) (b7 : Int) (b8 : Int) (b9 : Int) (b10 : Int) (b11 : Int) (b12 : Int) (b13 : Int) (b14 : List Int) (b15 : List ZL) (b16 : List Int) (b17 : List Yd) (b18 : List Z3) (b19 : List Zy) (b20 : Int) (hp : Be B V (b0, b1, (b2, b3, b4, b5, ()), (b6, b7, b8, b9, ()), (b10, b11, b12, b13, ()), b14, b15, b16, b17, b18, b19, b20, ())) (n : Nat) (hn : 0 < n) :
  Ok (Ye n i k t at_ x.1 x.2.1 x.2.2.1 x.2.2.2.1 x.2.2.2.2.1 x.2.2.2.2.2.1 x.2.2.2.2.2.2.1 x.2.2.2.2.2.2.2.1 b0 b1 b2 b3 b4 b5 b6 b7 b8 b9 b10 b11 b12 b13 b14 b15 b16 b17 b18 b19 b20) fun r => ClI B S V r.2.1 := by
 obtain ⟨n, rfl⟩ : ∃ m, n = m + 1 := ⟨n - 1, by omega⟩
 have hpe := h.pend;rw [Dt];refine Zl (fun _ => Za h) fun _ => ZB hi.1 (ZB hi.2 (ZZ (by omega) fun _ _ => ZB hk.1 (ZB hk.2 (ZB (by simp only [List.length_take, List.length_drop]; unfold lim; omega) (Zd (ZsV (V := V) ht _ ⟨by have h9 : 1 ≤ b1 := hp.1.view.1; show 0 ≤ b1; omega, hp.1.view.2⟩ _ _) fun l hl => GG (by omega) ?_)))));have h2 : ClI B S V (x.1, x.2.1, x.2.2.1, t, upd x.2.2.2.2.1 i.toNat (b0, b1, (b2, b3, b4, b5, ()), (b6, b7, b8, b9, ()), (b10, b11, b12, b13, ()), b14, b15, b16, b17, b18, b19, b20, ()), x.2.2.2.2.2.1, x.2.2.2.2.2.2.1, List.take (List.length x.2.2.2.2.2.2.2.1 - k.toNat) (List.drop k.toNat x.2.2.2.2.2.2.2.1), ()) := by
  refine ⟨h.n, ht, ?_, JR hp h.peer, h.net, h.said, ?_, fun c hc => ?_, h.lv, htv⟩
  ·show List.length (upd x.2.2.2.2.1 i.toNat (b0, b1, (b2, b3, b4, b5, ()), (b6, b7, b8, b9, ()), (b10, b11, b12, b13, ()), b14, b15, b16, b17, b18, b19, b20, ())) = 4
   rw [ZU]; exact h.peers
  ·show List.length (List.take (List.length x.2.2.2.2.2.2.2.1 - k.toNat) (List.drop k.toNat x.2.2.2.2.2.2.2.1)) ≤ 8
   simp only [List.length_take, List.length_drop]; omega
  ·exact h.key c (List.mem_of_mem_drop (List.mem_of_mem_take hc))
 exact Zd (Zmo h2 l (by omega) hl.2) fun w hw => Za hw
set_option maxHeartbeats 16000000 in
theorem Zw6 {B S : Nat} {V : Int} (hB : B ≤ 1000000000) {x : Zp} (h : ClI B S V x) (i : Int) : Ok (Hu big x i) fun r => ClI B S V r.2.1 := by
 have hp : List.length x.2.2.2.2.1 = 4 := h.peers;have hpe := h.pend;have hu : ∀ y, (upd x.2.2.2.2.1 i.toNat y).length = List.length x.2.2.2.2.1 := fun y => ZU _ _ _;rw [Zd9];refine Zd (L0 _ _ (by omega)) fun b hb => Yb (fun _ => Za h) fun hb1 => ?_;have hi := hb hb1;refine ZB hi.1 (ZB hi.2 ?_);have hin : i.toNat < List.length x.2.2.2.2.1 := by omega
 have hy := h.peer _ (List.getElem_mem hin);rw [ZY hin, Option.bind_some];generalize x.2.2.2.2.1[i.toNat] = y0 at hy;refine Zd (Zsx _ _ _) fun y _ => GG hin ?_;have one : ∀ z, Be B V z → ClI B S V (x.1, x.2.1, x.2.2.1, x.2.2.2.1, upd x.2.2.2.2.1 i.toNat z, x.2.2.2.2.2) := fun z hz =>
  ⟨h.n, h.tree, by show (upd _ _ _).length = 4; rw [hu]; exact hp, JR hz h.peer, h.net, h.said, h.pend, h.key, h.lv, h.tv⟩
 have h1 := one y0 hy;have hl : (upd x.2.2.2.2.1 i.toNat y0).length = 4 := by rw [hu]; exact hp
 refine Yb (fun _ => Za h1) fun _ => Zl (fun _ => Za h1) fun _ => ?_;generalize upd x.2.2.2.2.1 i.toNat y0 = ps at h1 hl;have hi2 : i < (ps.length : Int) := by omega
 have fin : ∀ (k : Int), 0 ≤ k → k ≤ (List.length x.2.2.2.2.2.2.2.1 : Int) → Ok ((nth ps i.toNat).bind fun y_2 => (WR big x.2.2.2.1 y_2 (List.take (k.toNat - (0 : Nat)) (List.drop (0 : Nat) x.2.2.2.2.2.2.2.1))).bind fun y_3 => (Dv ps i.toNat y_2).bind fun y =>
   Ye big i k y_3.1 y_3.2.2.1 x.1 x.2.1 x.2.2.1 x.2.2.2.1 y x.2.2.2.2.2.1 x.2.2.2.2.2.2.1 x.2.2.2.2.2.2.2.1 y_3.2.1.1 y_3.2.1.2.1 y_3.2.1.2.2.1.1 y_3.2.1.2.2.1.2.1 y_3.2.1.2.2.1.2.2.1 y_3.2.1.2.2.1.2.2.2.1 y_3.2.1.2.2.2.1.1 y_3.2.1.2.2.2.1.2.1 y_3.2.1.2.2.2.1.2.2.1 y_3.2.1.2.2.2.1.2.2.2.1 y_3.2.1.2.2.2.2.1.1 y_3.2.1.2.2.2.2.1.2.1 y_3.2.1.2.2.2.2.1.2.2.1 y_3.2.1.2.2.2.2.1.2.2.2.1 y_3.2.1.2.2.2.2.2.1 y_3.2.1.2.2.2.2.2.2.1 y_3.2.1.2.2.2.2.2.2.2.1 y_3.2.1.2.2.2.2.2.2.2.2.1 y_3.2.1.2.2.2.2.2.2.2.2.2.1 y_3.2.1.2.2.2.2.2.2.2.2.2.2.1 y_3.2.1.2.2.2.2.2.2.2.2.2.2.2.1)
   fun r : Bool × Zp × Unit => ClI B S V r.2.1 := fun k h0 hk => by
  refine ZZ (by omega) fun z hz => Zd (ZvT hB h.tree (h1.peer z hz).1 _ (by simp only [List.length_take, List.length_drop]; omega) fun c hc => h.key c (List.mem_of_mem_drop (List.mem_of_mem_take hc))) fun w hw => GG (by omega) ?_;have h2 : ClI B S V (x.1, x.2.1, x.2.2.1, x.2.2.2.1, upd ps i.toNat z, x.2.2.2.2.2) := ⟨h.n, h.tree, by show (upd _ _ _).length = 4; rw [ZU]; exact hl, JR (h1.peer z hz) h1.peer, h.net, h.said, h.pend, h.key, h.lv, h.tv⟩
  have := Zug h2 i ⟨hi.1, by show i < ((upd ps i.toNat z).length : Int); rw [ZU]; exact hi2⟩ k ⟨h0, hk⟩ hw.1 (hw.2.2.2 h.tv) w.2.2.1 w.2.1.1 w.2.1.2.1 w.2.1.2.2.1.1 w.2.1.2.2.1.2.1 w.2.1.2.2.1.2.2.1 w.2.1.2.2.1.2.2.2.1 w.2.1.2.2.2.1.1 w.2.1.2.2.2.1.2.1 w.2.1.2.2.2.1.2.2.1 w.2.1.2.2.2.1.2.2.2.1 w.2.1.2.2.2.2.1.1 w.2.1.2.2.2.2.1.2.1 w.2.1.2.2.2.2.1.2.2.1 w.2.1.2.2.2.2.1.2.2.2.1 w.2.1.2.2.2.2.2.1 w.2.1.2.2.2.2.2.2.1 w.2.1.2.2.2.2.2.2.2.1 w.2.1.2.2.2.2.2.2.2.2.1 w.2.1.2.2.2.2.2.2.2.2.2.1 w.2.1.2.2.2.2.2.2.2.2.2.2.1 w.2.1.2.2.2.2.2.2.2.2.2.2.2.1 ((h1.peer z hz).of hw.2.1 hw.2.2.1) big (by decide);exact this
 refine Zl (fun hc => ?_) fun hc => ?_
 ·have := fin 4 (by decide) (by omega)
  have g4 : 0 + (List.take (Int.toNat (4 : Int) - (0 : Nat)) (List.drop (0 : Nat) x.2.2.2.2.2.2.2.1)).length ≤ lim := by simp only [List.length_take, List.length_drop]; unfold lim; omega
  simp only [if_pos hi.1, if_pos hi2, if_pos (show (4 : Int) ≤ (↑(List.length x.2.2.2.2.2.2.2.1) : Int) by omega), if_pos g4, XJ];exact this
 ·have := fin (↑(List.length x.2.2.2.2.2.2.2.1) : Int) (by omega) (by omega)
  have g4 : 0 + (List.take (Int.toNat (↑(List.length x.2.2.2.2.2.2.2.1) : Int) - (0 : Nat)) (List.drop (0 : Nat) x.2.2.2.2.2.2.2.1)).length ≤ lim := by simp only [List.length_take, List.length_drop]; unfold lim; omega
  simp only [if_pos hi.1, if_pos hi2, if_pos g4, XJ, if_pos (show (0 : Int) ≤ (↑(List.length x.2.2.2.2.2.2.2.1) : Int) by omega), if_pos (Int.le_refl (↑(List.length x.2.2.2.2.2.2.2.1) : Int))];exact this
theorem ZyF {B S : Nat} {V : Int} (h0 : 30000 ≤ B) (hB : B ≤ 100000000) (hS : S ≤ 900000000) (h30 : 30 ≤ V) (hV : V + 1 ≤ 900) {x : Zp} (h : ClI B S V x) {e : VJ} (he : EvI e) : Ok (Za7 big x e) fun r => ClI (B + 60) (S + 7) (V + 1) r.2.1 := by
 have hpe := h.pend;have hp : List.length x.2.2.2.2.1 = 4 := h.peers;have up : ∀ {y : Zp}, ClI B S V y → ClI (B + 60) (S + 7) (V + 1) y := fun hy => (hy.up (by omega) hV).mono (by omega) (by omega);have up1 : ∀ {y : Zp}, ClI B S (V + 1) y → ClI (B + 60) (S + 7) (V + 1) y := fun hy => hy.mono (by omega) (by omega);rw [ZlC];simp only [XJ];refine Zl (fun _ => Zl (fun _ => Za (up h)) fun hc => ZB (by unfold lim; omega) (ZB (by simp only [List.length_singleton]; unfold lim; omega) (Za ?_))) fun _ => ?_
 ·refine up ⟨h.n, h.tree, h.peers, h.peer, h.net, h.said, ?_, fun c hc => ?_, h.lv, h.tv⟩
  ·show (List.append _ [_]).length ≤ 8
   rw [Xq]; omega
  ·rcases List.mem_append.1 hc with hc | hc
   ·exact h.key c hc
   ·rw [List.mem_singleton.1 hc]; exact he.key
 refine Zl (fun _ => Zd (Zw6 (by omega) h _) fun y hy => Za (up hy)) fun _ => Zl (fun _ => Zd (ZvK (by omega) (by omega) hV h _) fun y hy => Za hy) fun _ => Zl (fun _ => Zd (ZwY h _) fun y hy => Za (up hy.1)) fun _ =>
  Zl (fun _ => Zd (ZvL h _) fun y hy => Za (up hy)) fun _ => Zl (fun _ => Zd (Zw0 (by omega) hV h _) fun y hy => Za (up1 hy)) fun _ => Zl (fun _ => ?_) fun _ => Zd (Zx8 (by omega) h30 hV h he) fun y hy => Za (up1 hy)
 refine Zd (L0 _ _ (by omega)) fun b hb => Yb (fun _ => Za (up h)) fun hb1 => ?_;have hi := hb hb1;have hu : ∀ y, (upd x.2.2.2.2.1 (Int.toNat e.2.1) y).length = List.length x.2.2.2.2.1 := fun y => ZU _ _ _;refine ZB hi.1 (ZB hi.2 (ZZ (by omega) fun y hy => Zd (Zuc h0 hB h.tree (h.peer y hy).1 (h.peer y hy).2) fun z hz => GG (by omega) (ZB hi.1 (ZB (by rw [hu]; exact hi.2) (ZZ (by rw [hu]; omega) fun _ _ => GG (by rw [hu]; omega) (Za (up ?_)))))));exact ⟨h.n, h.tree, by show (upd (upd _ _ _) _ _).length = 4; rw [ZU, hu]; exact hp, JR ((h.peer y hy).of hz.1 hz.2) (JR (h.peer y hy) h.peer), h.net, h.said, h.pend, h.key, h.lv, h.tv⟩
theorem Zuh {most : Int} (hm : 0 < most ∧ most ≤ 26) (z0 : Int) (z1 : Bool) (z2 : Int) (z3 : List Zv) (z4 : List Zn) (z5 : List Zy) (z6 : List Z3) (z7 : List Xd) : ∀ (m n i : Nat) (c : ZM) (x : Zp), i ≤ 30 → 30 ≤ i + m → m < n → FL c → ClI (30000 + 60 * i) (7 * i) (40 + i) x →
  Ok (AC n most (i : Int) c.1 c.2.1 c.2.2.1 z0 z1 z2 z3 z4 z5 z6 z7 x.1 x.2.1 x.2.2.1 x.2.2.2.1 x.2.2.2.2.1 x.2.2.2.2.2.1 x.2.2.2.2.2.2.1 x.2.2.2.2.2.2.2.1) fun r => ClI 40000 1000 100 r.1 ∧ FL r.2.1 := by
 intro m
 induction m with
 | zero =>
  intro n i c x h0 h1 h2 hc hx;obtain ⟨n, rfl⟩ : ∃ m, n = m + 1 := ⟨n - 1, by omega⟩
  rw [Eo];refine Zd (Xw (c := (c.1, c.2.1, c.2.2.1, ())) hc most) fun y hy => ?_;have h26 := hy.2.1 hm.1;rw [ZH (n := 4 + y.1) (by omega) (by omega)];exact Zl (fun h => by omega) fun _ => Za ⟨(hx.up (by omega) (by decide)).mono (by omega) (by omega), hy.2.2.2⟩
 | succ m ih =>
  intro n i c x h0 h1 h2 hc hx;obtain ⟨n, rfl⟩ : ∃ m, n = m + 1 := ⟨n - 1, by omega⟩
  rw [Eo];refine Zd (Xw (c := (c.1, c.2.1, c.2.2.1, ())) hc most) fun y hy => ?_;have h26 := hy.2.1 hm.1;have hp : List.length x.2.2.2.2.1 = 4 := hx.peers;rw [ZH (n := 4 + y.1) (by omega) (by omega), ZH (n := (i : Int) + 1) (by omega) (by omega)];refine Zl (fun h => ?_) fun _ => Za ⟨(hx.up (by omega) (by decide)).mono (by omega) (by omega), hy.2.2.2⟩;refine Zd (ZvS (x.1, x.2.1, x.2.2.1, x.2.2.2.1, x.2.2.2.2.1, x.2.2.2.2.2.1, x.2.2.2.2.2.2.1, x.2.2.2.2.2.2.2.1, ()) (by show List.length x.2.2.2.2.1 ≤ 1000; omega) hx.n y.2.1 hy.2.2.2) fun z hz => ?_;obtain ⟨e1, e2, e3⟩ := hz;rw [e3];refine Zd (ZyF (by omega) (by omega) (by omega) (by omega) (by omega) (x := x) hx e1) fun w hw => ?_;have e : (i : Int) + 1 = ((i + 1 : Nat) : Int) := by omega
  rw [e];exact ih n (i + 1) z.2.1 w.2.1 (by omega) (by omega) (by omega) e2 ((hw.up (by omega) (by omega)).mono (by omega) (by omega))
theorem Zya {c : ZM} (hc : FL c) {most : Int} (hm : 0 < most ∧ most ≤ 26) : Ok (ML big c most) fun r => ClI 40000 1000 100 r.1 ∧ FL r.2.1 := by
 rw [ZiA];refine Zd (Zsu hc 2) fun y hy => Zd (EV hy _ (by decide)) fun z hz => ?_;have hl : z.1 = 0 ∨ z.1 = 8 ∨ z.1 = 1 ∨ z.1 = 2 := by
  have h1 := hz.1;simp only [List.mem_cons, List.not_mem_nil, or_false] at h1;omega
 refine Zd (Zw4 (V := 40) (by decide) y.1 hl) fun w hw => ?_;exact Zuh hm _ _ _ _ _ _ _ _ 30 big 0 z.2.1 w.1 (by decide) (by decide) (by decide) hz.2 (hw.mono (by decide) (by decide))
theorem Zw7 {c : ZM} (hc : FL c) : Ok (Hw big c) fun r => Xl r.1.1 ∧ Be 40000 100 r.1.2.1 ∧ FL r.2.1 := by
 rw [Zec];refine Zd (Zya hc (by decide)) fun y hy => ?_;simp only [XJ];have hp : List.length y.1.2.2.2.2.1 = 4 := hy.1.peers;refine Zd (Xw hy.2 _) fun z hz => ?_;have := hz.2.1 (by omega);exact ZB hz.1 (ZB this (ZZ (by omega) fun w hw => Za ⟨hy.1.tree, hy.1.peer w hw, hz.2.2.2⟩))
theorem Zpg {c : ZM} (hc : FL c) {t : List Zv} (ht : Xl t) : Ok (CD big c t) fun r => FL r.2.1 ∧ r.2.2.1 = t ∧ 0 ≤ r.1.2.1 := by
 have hlo := ht.lo; have hhi := ht.hi;rw [Zee];refine Zd (Xw hc 4) fun y hy => Zd (Xw hy.2.2.2 4) fun z hz => Zd (Xw hz.2.2.2 _) fun w hw => ?_;have := hw.2.1 (by omega);exact ZB hw.1 (ZB this (ZZ (by omega) fun v hv => Za ⟨hw.2.2.2, rfl, (ht.view v hv).1⟩))
theorem ZuP {c : ZM} (hc : FL c) {t : List Zv} (ht : Xl t) : Ok (I6 big c t) fun r => FL r.2.1 ∧ r.2.2.1 = t ∧ 0 ≤ r.1.2.1 := by
 rw [ZlL];refine Zd (Xw hc 10) fun y hy => Zd (Xw hy.2.2.2 60) fun z hz => Zd (Zpg hz.2.2.2 ht) fun w hw => Zd (EV hw.1 _ (by decide)) fun v hv => ?_;have hm := Zi3 hz.1 (show (0 : Int) < 5 by decide);exact Zl (fun _ => Za ⟨hv.2, hw.2.1, Int.le_refl 0⟩) fun _ => Zl (fun _ => ZB hm.1 (ZB hm.2 (ZZ (by show (Int.tmod z.1 5).toNat < 5; omega) fun _ _ => Za ⟨hv.2, hw.2⟩))) fun _ => Zl (fun _ => Za ⟨hv.2, hw.2.1, hz.1⟩) fun _ => Zl (fun _ => Za ⟨hv.2, hw.2⟩) fun _ => Za ⟨hv.2, hw.2⟩
theorem ZvU {c : ZM} (hc : FL c) {t : List Zv} (ht : Xl t) : Ok (MM big c t) fun r => FL r.2.1 ∧ r.2.2.1 = t := by
 rw [ZiD];exact Zd (Xw hc 10) fun y hy => Zd (Xw hy.2.2.2 60) fun z hz => Zd (Zpg hz.2.2.2 ht) fun w hw => Zl (fun _ => Za ⟨hw.1, hw.2.1⟩) fun _ => Zl (fun _ => Za ⟨hw.1, hw.2.1⟩) fun _ => Zl (fun _ => Za ⟨hw.1, hw.2.1⟩) fun _ => Zl (fun _ => Za ⟨hw.1, hw.2.1⟩) fun _ => Za ⟨hw.1, hw.2.1⟩
structure Zn6 (p : Zn) : Prop where
 row : List.length p.2.2.2.2.2.1 ≤ 40001
 cells : Xg p.2.2.2.2.2.2.1
 early : List.length p.2.2.2.2.2.2.2.1 ≤ 61
 undos : Zo8 p.2.2.2.2.2.2.2.2.1
 votes : List.length p.2.2.2.2.2.2.2.2.2.1 ≤ 40000
 news : List.length p.2.2.2.2.2.2.2.2.2.2.1 ≤ 40000
 view : 0 ≤ p.2.1 ∧ p.2.1 ≤ 900
 hq : 0 ≤ p.2.2.1.2.1 ∧ 0 ≤ p.2.2.2.1.2.1
theorem Zn6.lens {p : Zn} (h : Zn6 p) : List.length p.2.2.2.2.2.1 ≤ 16777216 ∧ List.length p.2.2.2.2.2.2.1 ≤ 16777216 ∧ List.length p.2.2.2.2.2.2.2.1 ≤ 16777216 ∧ List.length p.2.2.2.2.2.2.2.2.1 ≤ 16777216 ∧ List.length p.2.2.2.2.2.2.2.2.2.1 ≤ 16777216 ∧ List.length p.2.2.2.2.2.2.2.2.2.2.1 ≤ 16777216 :=
 ⟨Nat.le_trans h.row (by decide), Nat.le_trans h.cells.len (by decide), Nat.le_trans h.early (by decide), Nat.le_trans h.undos.len (by decide), Nat.le_trans h.votes (by decide), Nat.le_trans h.news (by decide)⟩
theorem YO.a {p : Zn} (h : YO 40000 100 p) : Zn6 p := ⟨Nat.le_trans h.row (by decide), h.cells, Nat.le_trans h.early (by decide), h.undos, h.votes, h.news, by have := h.view; have := h.top; omega, h.hq⟩
theorem ZvV {c : ZM} (hc : FL c) : Ok (MN big c) fun r => Xl r.1.1 ∧ Zn6 r.1.2.1 ∧ FL r.2.1 := by
 rw [ZiG];refine Zd (Xw hc 14) fun y hy => Zd (Xw hy.2.2.2 60) fun z hz => Zd (Zw7 hz.2.2.2) fun w hw => ?_;obtain ⟨ht, hp, hcu⟩ := hw;rw [EW (by decide) hp.1, Option.bind_some];have h := hp.1.a;have hr := hp.1.row;have he := hp.1.early;have h60 := hz.2.1 (by decide);refine Zl (fun _ => Za ⟨ht, ⟨h.row, h.cells, h.early, h.undos, h.votes, h.news, h.view, h.hq⟩, hcu⟩) fun _ => Zl (fun _ => Za ⟨ht, ⟨h.row, h.cells, h.early, h.undos, h.votes, h.news, ?_, h.hq⟩, hcu⟩) fun _ =>
  Zl (fun _ => Zd (ZuP hcu ht) fun v hv => Za ⟨by rw [hv.2.1]; exact ht, ⟨h.row, h.cells, h.early, h.undos, h.votes, h.news, h.view, ⟨hv.2.2, h.hq.2⟩⟩, hv.1⟩) fun _ =>
  Zl (fun _ => Zd (ZuP hcu ht) fun v hv => Za ⟨by rw [hv.2.1]; exact ht, ⟨h.row, h.cells, h.early, h.undos, h.votes, h.news, h.view, ⟨h.hq.1, hv.2.2⟩⟩, hv.1⟩) fun _ =>
  Zl (fun _ => Zd (ZvU hcu ht) fun v hv => Za ⟨by rw [hv.2]; exact ht, ⟨h.row, h.cells, h.early, h.undos, h.votes, h.news, h.view, h.hq⟩, hv.1⟩) fun _ =>
  Zl (fun _ => ZB (by unfold lim; omega) (Za ⟨ht, ⟨?_, h.cells, h.early, h.undos, h.votes, h.news, h.view, h.hq⟩, hcu⟩)) fun _ =>
  Zl (fun _ => ZB (by unfold lim; omega) (Za ⟨ht, ⟨h.row, h.cells, ?_, h.undos, h.votes, h.news, h.view, h.hq⟩, hcu⟩)) fun _ => Za ⟨ht, h, hcu⟩
 ·show 0 ≤ z.1 ∧ z.1 ≤ 900; omega
 ·show (List.append _ [_]).length ≤ 40001; rw [Xq]; omega
 ·show (List.append _ [_]).length ≤ 61; rw [Xq]; omega
theorem L4 {α : Type} (xs : List α) (h : xs.length ≤ 16777216) : (Zol xs fun b => bif b then some [] else if (0 : Nat) + List.length xs ≤ lim then some xs else none) = some xs := by
 cases xs with
 | nil => exact XJ _
 | cons x l =>
  simp only [Zol, cond_false];rw [if_pos (by unfold lim; omega)]
theorem Zgw (x : Yp) (h : x.length ≤ 16777216) : KY big x = some x := by rw [Pu]; exact L4 x h
theorem WZ (x : Zq) (h : x.length ≤ 16777216) : Y1 big x = some x := by rw [Lb]; exact L4 x h
theorem Zmq (x : YA) (h : x.length ≤ 16777216) : JK big x = some x := by rw [Le]; exact L4 x h
theorem Zmr (x : Yn) (h : x.length ≤ 16777216) : JL big x = some x := by rw [Lh]; exact L4 x h
theorem ZeF (x : ZX) (h : x.length ≤ 16777216) : Qr big x = some x := by rw [FK]; exact L4 x h
structure ZeG (x : Zn) : Prop where
 row : List.length x.2.2.2.2.2.1 ≤ 16777216
 cells : List.length x.2.2.2.2.2.2.1 ≤ 16777216
 early : List.length x.2.2.2.2.2.2.2.1 ≤ 16777216
 undos : List.length x.2.2.2.2.2.2.2.2.1 ≤ 16777216
 votes : List.length x.2.2.2.2.2.2.2.2.2.1 ≤ 16777216
 news : List.length x.2.2.2.2.2.2.2.2.2.2.1 ≤ 16777216
theorem ZeG.of {x : Zn} (h : Bg ZQ x) : ZeG x :=
 ⟨h.2.2.2.2.2.1.1, h.2.2.2.2.2.2.1.1, h.2.2.2.2.2.2.2.1.1, h.2.2.2.2.2.2.2.2.1.1, h.2.2.2.2.2.2.2.2.2.1.1, h.2.2.2.2.2.2.2.2.2.2.1.1⟩
theorem JS (x : Zn) (h : ZeG x) : UL big x = some x := by
 rw [Pz];simp only [Zgw _ h.row, WZ _ h.cells, Zgw _ h.early, Zmq _ h.undos, Zmr _ h.votes, ZeF _ h.news, Option.bind_some]
theorem EY (x : Zn) (h : ZeG x) : YW big x = some x := by
 rw [FY];have := h.row; have := h.cells; have := h.early; have := h.undos; have := h.votes; have := h.news;unfold lim
 repeat rw [if_pos (by omega)]
theorem Zv4 (x a b : Int) : Da big x a b = some (bif decide (a ≤ x) then decide (x ≤ b) else false) := by
 rw [ZlM];cases decide (a ≤ x) <;> rfl
theorem CT (x a b : Int) : ZT big x a b = some (bif decide (a ≤ x) then decide (x ≤ b) else false) := by
 rw [Np];cases decide (a ≤ x) <;> rfl
theorem Zn7 (n : Int) : EC big n = some (R5 n) := by rw [ZlT, Zv4]; rfl
theorem Zce (k : ByteArray) (h : k.size ≤ 1048576) : EA big k = some (ZcK k) := by
 have hl : k.data.toList.length = k.size := by rw [Array.length_toList]; rfl
 have hk := ZuE (xs := k.data.toList) (p := fun y => decide ((y.toNat : Int) < 97) || decide (122 < (y.toNat : Int))) (b := false) (e := some (bif decide ((1 : Int) ≤ (k.size : Int)) then decide ((k.size : Int) ≤ 3) else false))
  (r := fun n i => CF n k (k.size : Int) i) (n := big) (fun n i hi => by
   rw [Gq, decide_eq_true (by omega), cond_true, mk4 (ZY hi), mk4 (ZY hi), Yk (by omega)];cases decide (((k.data.toList[i]).toNat : Int) < 97) <;> cases decide (122 < ((k.data.toList[i]).toNat : Int)) <;> rfl) (fun n => by
   rw [Gq, decide_eq_false (by omega), cond_false, Zv4]; rfl) (by rw [hl]; exact Nat.lt_of_le_of_lt h (by decide))
 rw [ZlP];refine hk.trans ?_;unfold ZcK;cases k.data.toList.any _ <;> rfl
theorem Zcf (k : ByteArray) (h : k.size ≤ 1048576) : BA big k = some (ZcK k) := by
 have hl : k.data.toList.length = k.size := by rw [Array.length_toList]; rfl
 have hk := ZuE (xs := k.data.toList) (p := fun y => decide ((y.toNat : Int) < 97) || decide (122 < (y.toNat : Int))) (b := false) (e := some (bif decide ((1 : Int) ≤ (k.size : Int)) then decide ((k.size : Int) ≤ 3) else false))
  (r := fun n i => Jx n k i) (n := big) (fun n i hi => by
   rw [Qw, decide_eq_true (by omega), cond_true, mk4 (ZY hi), mk4 (ZY hi), Yk (by omega)];cases decide (((k.data.toList[i]).toNat : Int) < 97) <;> cases decide (122 < ((k.data.toList[i]).toNat : Int)) <;> rfl) (fun n => by
   rw [Qw, decide_eq_false (by omega), cond_false, CT]; rfl) (by rw [hl]; exact Nat.lt_of_le_of_lt h (by decide))
 rw [Nz];refine hk.trans ?_;unfold ZcK;cases k.data.toList.any _ <;> rfl
theorem ZsW (c : Xd) (h : ByteArray.size c.2.1 ≤ 1048576) : Zbh big c = some (Ztj c) := by
 rw [Zl0, Zv4, Zce _ h, Zn7];unfold Ztj;simp only [Option.bind_some];generalize (bif decide ((1 : Int) ≤ c.1) then decide (c.1 ≤ 3) else false) = b;cases b <;> cases ZcK c.2.1 <;> rfl
theorem ZsX (c : Xd) (h : ByteArray.size c.2.1 ≤ 1048576) : DQ big c = some (Ztj c) := by
 rw [NB, CT, Zcf _ h, CT];unfold Ztj R5;simp only [Option.bind_some];generalize (bif decide ((1 : Int) ≤ c.1) then decide (c.1 ≤ 3) else false) = b;cases b <;> cases ZcK c.2.1 <;> rfl
structure Xm (xs : List ZL) : Prop where
 len : xs.length ≤ 16777216
 key : ∀ y ∈ xs, ByteArray.size y.1 ≤ 1048576
def PW (xs : List ZL) : Nat → Option ByteArray
 | 0 => none
 | j + 1 => (nth xs j).map (·.1)
theorem Zms (xs : List ZL) (h : Xm xs) : ∀ (n i : Nat), xs.length < n + i → i ≤ xs.length → WW n xs xs (xs.length : Int) (i : Int) = some (frm (PW xs i) (xs.drop i))
 | 0, i, h1, h2 => by omega
 | n + 1, i, h1, h2 => by
  have hl := h.len;rcases Nat.lt_or_ge i xs.length with hi | hi
  ·have ih := Zms xs h n (i + 1) (by omega) (by omega)
   rw [AD, decide_eq_true (by omega), cond_true, mk4 (ZY hi), Zce _ (h.key _ (List.getElem_mem hi)), Option.bind_some, Zn7, Option.bind_some];rw [List.drop_eq_getElem_cons hi];have hp : PW xs (i + 1) = some xs[i].1 := by simp only [PW, ZY hi, Option.map_some]
   rw [hp] at ih;simp only [frm];cases ZcK xs[i].1 with
   | false => rfl
   | true =>
    cases R5 xs[i].2.1 with
    | false => rfl
    | true =>
     simp only [Bool.not_true, cond_false, Bool.true_and];cases i with
     | zero =>
      rw [decide_eq_false (by omega), cond_false, Yk (by omega), ih];rfl
     | succ j =>
      have hj : j < xs.length := by omega
      rw [decide_eq_true (show (0 : Int) < ((j + 1 : Nat) : Int) by omega), cond_true, ZH (n := ((j + 1 : Nat) : Int) - 1) (by omega) (by omega), show ((j + 1 : Nat) : Int) - 1 = (j : Int) by omega, mk4 (ZY hj), Yk (by omega), ih];have hq : PW xs (j + 1) = some xs[j].1 := by simp only [PW, ZY hj, Option.map_some]
      rw [hq];show (bif !kl xs[j].1 xs[j + 1].1 then some false else _) = some (kl xs[j].1 xs[j + 1].1 && _);cases kl xs[j].1 xs[j + 1].1 <;> rfl
  ·have e : i = xs.length := by omega
   subst e;rw [AD, decide_eq_false (by omega), cond_false, List.drop_length];rfl
theorem Zgx (xs : List ZL) (h : Xm xs) : ∀ (n i : Nat), xs.length < n + i → i ≤ xs.length → Vc n xs (i : Int) = some (bif frm (PW xs i) (xs.drop i) then decide ((xs.length : Int) ≤ 12) else false)
 | 0, i, h1, h2 => by omega
 | n + 1, i, h1, h2 => by
  have hl := h.len;rcases Nat.lt_or_ge i xs.length with hi | hi
  ·have ih := Zgx xs h n (i + 1) (by omega) (by omega)
   rw [VC, decide_eq_true (by omega), cond_true, mk4 (ZY hi), Zcf _ (h.key _ (List.getElem_mem hi)), Option.bind_some, mk4 (ZY hi), CT, Option.bind_some];rw [List.drop_eq_getElem_cons hi];have hp : PW xs (i + 1) = some xs[i].1 := by simp only [PW, ZY hi, Option.map_some]
   rw [hp] at ih;simp only [frm];rw [show (bif decide ((0 : Int) ≤ xs[i].2.1) then decide (xs[i].2.1 ≤ 1000000000) else false) = R5 xs[i].2.1 from rfl];cases ZcK xs[i].1 with
   | false => rfl
   | true =>
    cases R5 xs[i].2.1 with
    | false => rfl
    | true =>
     simp only [Bool.not_true, cond_false, Bool.true_and];cases i with
     | zero =>
      rw [decide_eq_false (by omega), cond_false, Yk (by omega), ih];rfl
     | succ j =>
      have hj : j < xs.length := by omega
      rw [decide_eq_true (show (0 : Int) < ((j + 1 : Nat) : Int) by omega), cond_true, ZH (n := ((j + 1 : Nat) : Int) - 1) (by omega) (by omega), show ((j + 1 : Nat) : Int) - 1 = (j : Int) by omega, mk4 (ZY hj), mk4 (ZY hi), Yk (by omega), ih];have hq : PW xs (j + 1) = some xs[j].1 := by simp only [PW, ZY hj, Option.map_some]
      rw [hq];show (bif !kl xs[j].1 xs[j + 1].1 then some false else _) = some (bif (kl xs[j].1 xs[j + 1].1 && _) then _ else _);cases kl xs[j].1 xs[j + 1].1 <;> rfl
  ·have e : i = xs.length := by omega
   subst e;rw [VC, decide_eq_false (by omega), cond_false, List.drop_length];rfl
theorem HM (xs : List ZL) (h : Xm xs) : WX big xs = some (okB xs) := by
 have := Zms xs h big 0 (by have := h.len; unfold big; omega) (by omega);rw [Int.natCast_zero, List.drop_zero] at this;rw [Zei, PC, this];unfold okB PW;cases decide ((xs.length : Int) ≤ 12) <;> rfl
theorem Zcg (xs : List ZL) (h : Xm xs) : JC big xs = some (okB xs) := by
 have := Zgx xs h big 0 (by have := h.len; unfold big; omega) (by omega);rw [Int.natCast_zero, List.drop_zero] at this;rw [Gb, this];unfold okB PW;cases decide ((xs.length : Int) ≤ 12) <;> cases frm none xs <;> rfl
theorem Zch {α : Type} {p : α → Bool} {xs : List α} {r : Nat → Int → Option Int}
  (hr : ∀ (n k : Nat) (hk : k < xs.length), r (n + 1) (k : Int) = bif p xs[k] then some (k : Int) else r n ((k + 1 : Nat) : Int)) (h0 : ∀ n, r (n + 1) ((xs.length : Nat) : Int) = some (-1)) :
  ∀ (n k : Nat), xs.length < n + k → k ≤ xs.length → r n (k : Int) = some (L6 p (xs.drop k) k)
 | 0, k, h, h2 => by omega
 | n + 1, k, h, h2 => by
  rcases Nat.lt_or_ge k xs.length with hk | hk
  ·rw [hr n k hk, List.drop_eq_getElem_cons hk]
   simp only [L6];cases p xs[k] with
   | true => rfl
   | false =>
    simp only [cond_false];rw [Zch hr h0 n (k + 1) (by omega) (by omega)];rfl
  ·have e1 : k = xs.length := by omega
   subst e1;rw [h0, List.drop_length]; rfl
def isK (k : ByteArray) (y : ZL) : Bool := decide (y.1 = k)
theorem MY (xs : List ZL) (k : ByteArray) (hl : xs.length ≤ 16777216) : BO big xs k = some (L6 (isK k) xs 0) := by
 rw [ZiJ, Uf];rw [ZuF (xs := xs) (p := isK k) (c := ((k, ()), ())) (r := fun n i => YC n xs (xs.length : Int) i k) (n := big) (fun n i hi => ?_) (fun n => ?_) (Nat.lt_of_le_of_lt hl (by decide))]
 ·rfl
 ·rw [Xy, decide_eq_true (by omega), cond_true, mk4 (ZY hi), Yk (by omega)]
  rfl
 ·rw [Xy, decide_eq_false (Int.lt_irrefl _)]
  rfl
theorem Zgy (xs : List ZL) (k : ByteArray) (hl : xs.length ≤ 16777216) : BB big xs k = some (L6 (isK k) xs 0) := by
 rw [IK];have := Zch (xs := xs) (p := isK k) (r := fun n i => QY n xs k i) (fun n i hi => by
  rw [Uz, decide_eq_true (by omega), cond_true, mk4 (ZY hi), Yk (by omega)]
  rfl) (fun n => by
  rw [Uz, decide_eq_false (Int.lt_irrefl _)]
  rfl) big 0 (by unfold big; omega) (by omega)
 rw [Int.natCast_zero, List.drop_zero] at this;exact this
theorem HN (k : ByteArray) : ∀ (l : List ZL) (j : Int), (L6 (isK k) l j = -1 ∧ Zns k l = false ∧ Zj9 k l = none ∧ ∀ y ∈ l, y.1 ≠ k) ∨ ∃ (i : Nat) (y : ZL), L6 (isK k) l j = j + i ∧ nth l i = some y ∧ y.1 = k ∧ Zns k l = true ∧ Zj9 k l = some y.2.1
 | [], j => .inl ⟨rfl, rfl, rfl, by simp⟩
 | z :: l, j => by
  by_cases e : z.1 = k
  ·exact .inr ⟨0, z, by simp only [L6, isK, decide_eq_true e, cond_true]; omega, rfl, e, by simp only [Zns, List.any_cons, decide_eq_true e, Bool.true_or], by simp only [Zj9, decide_eq_true e, cond_true]⟩
  ·rcases HN k l (j + 1) with ⟨h1, h2, h3, h4⟩ | ⟨i, y, h1, h2, h3, h4, h5⟩
   ·refine .inl ⟨by simp only [L6, isK, decide_eq_false e, cond_false]; exact h1, by simp only [Zns, List.any_cons, decide_eq_false e, Bool.false_or]; exact h2, by simp only [Zj9, decide_eq_false e, cond_false]; exact h3, fun y hy => ?_⟩
    rcases List.mem_cons.1 hy with q | q
    ·subst q; exact e
    ·exact h4 y q
   ·exact .inr ⟨i + 1, y, by simp only [L6, isK, decide_eq_false e, cond_false]; rw [h1]; omega, h2, h3, by simp only [Zns, List.any_cons, decide_eq_false e, Bool.false_or]; exact h4, by simp only [Zj9, decide_eq_false e, cond_false]; exact h5⟩
theorem Zmt (xs : List ZL) (hl : xs.length ≤ 16777216) (k : ByteArray) (m : Int) (hn : ∀ y ∈ xs, y.1 ≠ k) : ∀ (n i : Nat), xs.length < n + i → i ≤ xs.length → QK n xs k m (i : Int) xs = some (xs.take i ++ HR k m (xs.drop i))
 | 0, i, h1, h2 => by omega
 | n + 1, i, h1, h2 => by
  have hins : ∀ (i : Nat), i ≤ xs.length → (VG big xs (i : Int) [(k, m, ())]).bind (fun y => some y) = some (xs.take i ++ ((k, m, ()) :: xs.drop i)) := fun i hi => by
   rw [HC, if_pos (by omega), if_pos (by omega), if_pos (show List.length [(k, m, ())] = 1 from rfl), if_pos (by unfold lim; omega), Int.toNat_natCast];rfl
  rcases Nat.lt_or_ge i xs.length with hi | hi
  ·rw [BP, decide_eq_true (by omega), cond_true, mk4 (ZY hi), Yk (by omega), Zmt xs hl k m hn n (i + 1) (by omega) (by omega), hins i (by omega)]
   rw [List.drop_eq_getElem_cons hi];simp only [HR];rw [decide_eq_false (hn _ (List.getElem_mem hi)), cond_false, List.take_succ_eq_append_getElem hi, List.append_assoc];show (bif kl xs[i].1 k then _ else _) = _;cases kl xs[i].1 k <;> rfl
  ·have e : i = xs.length := by omega
   subst e;rw [BP, decide_eq_false (by omega), cond_false, hins xs.length (Nat.le_refl _), List.drop_length];rfl
theorem Zgz (xs : List ZL) (h : Xm xs) (hf : frm none xs = true) (k : ByteArray) (m : Int) : WY big xs k m = some (HR k m xs) := by
 rw [Zbl, WZ _ h.len, Option.bind_some, MY xs k h.len, Option.bind_some];rcases HN k xs 0 with ⟨h1, _, _, h4⟩ | ⟨i, y, h1, h2, h3, _⟩
 ·rw [h1, decide_eq_false (by omega), cond_false]
  have := Zmt xs h.len k m h4 big 0 (by have := h.len; unfold big; omega) (by omega);rw [Int.natCast_zero, List.take_zero, List.drop_zero] at this;exact this
 ·have hi : i < xs.length := CX h2
  rw [h1, Int.zero_add, decide_eq_true (by omega), cond_true, if_pos (by omega), if_pos (by omega), Int.toNat_natCast, h2, Option.bind_some, G2 hi, Zsd hf h2 h3];rfl
theorem Zci (xs : List ZL) (hl : xs.length ≤ 16777216) (k : ByteArray) (m : Int) : ∀ (n i : Nat) (acc : List ZL), xs.length < n + i → i ≤ xs.length → acc.length ≤ 16777217 + i →
  V8 n xs acc (i : Int) k m = some (acc ++ (xs.drop i).filter (fun y => !(kl y.1 k || decide (y.1 = k))))
 | 0, i, acc, h1, h2, h3 => by omega
 | n + 1, i, acc, h1, h2, h3 => by
  rcases Nat.lt_or_ge i xs.length with hi | hi
  ·rw [Uy, decide_eq_true (by omega), cond_true, mk4 (ZY hi), mk4 (ZY hi), if_pos (by unfold lim; simp only [List.length_singleton]; omega), Yk (by omega), List.drop_eq_getElem_cons hi, List.filter_cons]
   show (bif !(kl xs[i].1 k || decide (xs[i].1 = k)) then _ else _) = _;cases (!(kl xs[i].1 k || decide (xs[i].1 = k))) with
   | true =>
    rw [cond_true, Zci xs hl k m n (i + 1) _ (by omega) (by omega) (by simp; omega)];simp
   | false =>
    rw [cond_false, Zci xs hl k m n (i + 1) _ (by omega) (by omega) (by omega)];simp
  ·have e : i = xs.length := by omega
   subst e;rw [Uy, decide_eq_false (by omega), cond_false, List.drop_length];simp
theorem Zcj (xs : List ZL) (hl : xs.length ≤ 16777216) (k : ByteArray) (m : Int) : ∀ (n i : Nat) (acc : List ZL), xs.length + xs.length + 1 < n + i → i ≤ xs.length → acc.length ≤ i →
  V7 n xs acc (i : Int) k m = some (acc ++ ((xs.drop i).filter (fun y => kl y.1 k) ++ (k, m, ()) :: xs.filter (fun y => !(kl y.1 k || decide (y.1 = k)))))
 | 0, i, acc, h1, h2, h3 => by omega
 | n + 1, i, acc, h1, h2, h3 => by
  rcases Nat.lt_or_ge i xs.length with hi | hi
  ·rw [Ux, decide_eq_true (by omega), cond_true, mk4 (ZY hi), mk4 (ZY hi), if_pos (by unfold lim; simp only [List.length_singleton]; omega), Yk (by omega), List.drop_eq_getElem_cons hi, List.filter_cons]
   show (bif kl xs[i].1 k then _ else _) = _;cases kl xs[i].1 k with
   | true =>
    rw [cond_true, Zcj xs hl k m n (i + 1) _ (by omega) (by omega) (by simp; omega)];simp
   | false =>
    rw [cond_false, Zcj xs hl k m n (i + 1) _ (by omega) (by omega) (by omega)];simp
  ·have e : i = xs.length := by omega
   subst e;rw [Ux, decide_eq_false (by omega), cond_false, if_pos (by unfold lim; simp only [List.length_singleton]; omega)];have := Zci xs hl k m n 0 (acc ++ [(k, m, ())]) (by omega) (by omega) (by simp; omega);rw [Int.natCast_zero, List.drop_zero] at this;rw [List.drop_length];refine this.trans ?_;simp
theorem Zph (xs : List ZL) (hl : xs.length ≤ 16777216) (hf : frm none xs = true) (k : ByteArray) (m : Int) : Xe big xs (k, m, ()) = some (HR k m xs) := by
 have := Zcj xs hl k m big 0 [] (by unfold big; omega) (by omega) (by simp);rw [Int.natCast_zero, List.drop_zero, List.nil_append, Zfe hf] at this;rw [II];exact this
theorem AV {xs : List ZL} (h : okB xs = true) : frm none xs = true ∧ xs.length ≤ 12 := by
 unfold okB at h
 by_cases hl : (xs.length : Int) ≤ 12
 ·rw [decide_eq_true hl] at h; exact ⟨h, by omega⟩
 ·rw [decide_eq_false hl] at h; cases h
theorem Zpi {c : Xd} (h : Ztj c = true) : ZcK c.2.1 = true ∧ R5 c.2.2.1 = true := by
 unfold Ztj at h;revert h;generalize (bif decide ((1 : Int) ≤ c.1) then decide (c.1 ≤ 3) else false) = b;cases b <;> cases ZcK c.2.1 <;> cases R5 c.2.2.1 <;> simp
theorem ZsY {xs : List ZL} {i : Nat} {y : ZL} (hf : frm none xs = true) (hn : nth xs i = some y) : ZcK y.1 = true ∧ R5 y.2.1 = true := by
 rw [JY] at hn;exact Zsb hf y (List.mem_of_getElem? hn)
theorem ZsZ {k : ByteArray} {m : Int} : ∀ {l : List ZL} {y : ZL}, y ∈ HR k m l → y ∈ l ∨ y.1 = k
 | [], y, h => by simp only [HR, List.mem_singleton] at h; subst h; exact .inr rfl
 | z :: l, y, h => by
  simp only [HR] at h;cases hz : kl z.1 k with
  | true =>
   rw [hz, cond_true] at h;rcases List.mem_cons.1 h with e | h
   ·exact .inl (by simp [e])
   ·exact (ZsZ h).imp (fun q => by simp [q]) id
  | false =>
   rw [hz, cond_false] at h
   by_cases e : z.1 = k
   ·rw [decide_eq_true e, cond_true] at h
    rcases List.mem_cons.1 h with e2 | h
    ·subst e2; exact .inr rfl
    ·exact .inl (by simp [h])
   ·rw [decide_eq_false e, cond_false] at h
    rcases List.mem_cons.1 h with e2 | h
    ·subst e2; exact .inr rfl
    ·exact .inl h
theorem ZvW {xs : List ZL} (h : Xm xs) (h12 : xs.length ≤ 12) (hf : frm none xs = true) {k : ByteArray} (hk : k.size ≤ 1048576) (m : Int) : Xm (HR k m xs) := by
 refine ⟨?_, fun y hy => ?_⟩
 ·rw [Mp hf]
  cases Zns k xs <;> simp <;> omega
 ·rcases ZsZ hy with q | q
  ·exact h.key y q
  ·rw [q]; exact hk
theorem Zmu {xs : List ZL} (h : Xm xs) {c : Xd} (hc : ByteArray.size c.2.1 ≤ 1048576) : Xm (R6 xs c).1 := by
 unfold R6;cases ho : okB xs with
 | false => exact h
 | true =>
  cases Ztj c with
  | false => exact h
  | true =>
   simp only [cond_true]
   split
   ·exact h
   ·rename_i m _
    cases okB (HR c.2.1 m xs) with
    | true => exact ZvW h (AV ho).2 (AV ho).1 hc m
    | false => exact h
theorem Zpj (xs : List ZL) (h : Xm xs) (c : Xd) (hc : ByteArray.size c.2.1 ≤ 1048576) : P9 big xs c = some (R6 xs c) := by
 rw [ZnZ, WZ _ h.len, Option.bind_some, HM xs h, Option.bind_some];unfold R6;cases ho : okB xs with
 | false => rfl
 | true =>
  obtain ⟨hf, h12⟩ := AV ho;simp only [Bool.not_true, cond_false, cond_true];rw [ZsW c hc, Option.bind_some];cases hk : Ztj c with
  | false => rfl
  | true =>
   obtain ⟨hk1, hk2⟩ := Zpi hk;have hn := P7.1 hk2;simp only [Bool.not_true, cond_false, cond_true];have fin : ∀ m : Int, ((WY big xs c.2.1 m).bind fun y => (WX big y).bind fun y_1 => bif !y_1 then some (xs, (2 : Int), PUnit.unit) else some (y, (0 : Int), PUnit.unit)) =
     some (bif okB (HR c.2.1 m xs) then (HR c.2.1 m xs, (0 : Int), ()) else (xs, (2 : Int), ())) := fun m => by
    rw [Zgz xs h hf, Option.bind_some, HM _ (ZvW h h12 hf hc m), Option.bind_some];cases okB (HR c.2.1 m xs) <;> rfl
   unfold Zxs;cases hq : decide (c.1 = 1) with
   | true =>
    simp only [Bool.not_true, cond_false, cond_true];exact fin _
   | false =>
    simp only [Bool.not_false, cond_true, cond_false];rw [MY xs c.2.1 h.len, Option.bind_some];rcases HN c.2.1 xs 0 with ⟨h1, _, h3, _⟩ | ⟨i, y, h1, h2, h3, _, h5⟩
    ·rw [h1, h3, decide_eq_true (by omega), cond_true]
    ·obtain ⟨_, hy2⟩ := ZsY hf h2
     have hy := P7.1 hy2;rw [h1, h5, Int.zero_add, decide_eq_false (by omega), cond_false, if_pos (by omega), Int.toNat_natCast, h2, Option.bind_some];cases hr : decide (c.1 = 3) with
     | true =>
      simp only [cond_true];rw [ZH (n := 0 - c.2.2.1) (by omega) (by omega), ZH (n := 0 - c.2.2.1 + y.2.1) (by omega) (by omega), show 0 - c.2.2.1 + y.2.1 = y.2.1 - c.2.2.1 by omega];exact fin _
     | false =>
      simp only [cond_false];rw [if_pos (by omega), Option.bind_some, ZH (n := c.2.2.1 + y.2.1) (by omega) (by omega), Int.add_comm c.2.2.1];exact fin _
theorem Zpk (xs : List ZL) (h : Xm xs) (c : Xd) (hc : ByteArray.size c.2.1 ≤ 1048576) : IL big xs c = some (R6 xs c) := by
 have hl := h.len;rw [TB, if_pos (by unfold lim; omega), Zcg xs h, Option.bind_some];unfold R6;cases ho : okB xs with
 | false => rfl
 | true =>
  obtain ⟨hf, h12⟩ := AV ho;simp only [Bool.not_true, cond_false, cond_true];rw [ZsX c hc, Option.bind_some];cases hk : Ztj c with
  | false => rfl
  | true =>
   obtain ⟨hk1, hk2⟩ := Zpi hk;have hn := P7.1 hk2;simp only [Bool.not_true, cond_false, cond_true];rw [Zgy xs c.2.1 hl, Option.bind_some];have fin : ∀ (m q : Int), (decide (q < 0) = !Zns c.2.1 xs) → ((ZT big m (0 : Int) (1000000000 : Int)).bind fun y_1 => bif !y_1 then some (xs, (2 : Int), PUnit.unit) else
     bif decide (q < (0 : Int)) then bif decide ((12 : Int) ≤ (List.length xs : Int)) then some (xs, (2 : Int), PUnit.unit) else (Xe big xs (c.2.1, m, ())).bind fun y => some (y, (0 : Int), PUnit.unit)
     else (Xe big xs (c.2.1, m, ())).bind fun y => some (y, (0 : Int), PUnit.unit)) =
     some (bif okB (HR c.2.1 m xs) then (HR c.2.1 m xs, (0 : Int), ()) else (xs, (2 : Int), ())) := fun m q hq => by
    rw [CT, Option.bind_some, Zph xs hl hf, Option.bind_some, hq, Zwv ho hk1];show (bif !R5 m then _ else _) = _;cases R5 m with
    | false => rfl
    | true =>
     cases Zns c.2.1 xs with
     | true => rfl
     | false =>
      by_cases h2 : (xs.length : Int) < 12
      ·rw [decide_eq_true h2, decide_eq_false (show ¬ (12 : Int) ≤ (xs.length : Int) by omega)]; rfl
      ·rw [decide_eq_false h2, decide_eq_true (show (12 : Int) ≤ (xs.length : Int) by omega)]; rfl
   unfold Zxs;cases hq : decide (c.1 = 1) with
   | true =>
    simp only [Bool.not_true, cond_false, cond_true];refine fin _ _ ?_;rcases HN c.2.1 xs 0 with ⟨h1, h2, _, _⟩ | ⟨i, y, h1, _, _, h4, _⟩
    ·rw [h1, h2]; rfl
    ·rw [h1, h4, decide_eq_false (by omega)]; rfl
   | false =>
    simp only [Bool.not_false, cond_true, cond_false];rcases HN c.2.1 xs 0 with ⟨h1, _, h3, _⟩ | ⟨i, y, h1, h2, h3, h4, h5⟩
    ·rw [h1, h3, decide_eq_true (by omega), cond_true]
    ·obtain ⟨_, hy2⟩ := ZsY hf h2
     have hy := P7.1 hy2;have hneg : decide ((i : Int) < 0) = !Zns c.2.1 xs := by rw [h4, decide_eq_false (by omega)]; rfl
     rw [h1, h5, Int.zero_add, decide_eq_false (by omega), cond_false, if_pos (by omega), Int.toNat_natCast, h2, Option.bind_some];have hneg' : (false : Bool) = !Zns c.2.1 xs := by rw [h4]; rfl
     cases hr : decide (c.1 = 3) with
     | true =>
      simp only [cond_true];rw [if_pos (by omega), Option.bind_some, ZH (n := y.2.1 - c.2.2.1) (by omega) (by omega)];have := fin (y.2.1 - c.2.2.1) (i : Int) hneg;rw [decide_eq_false (show ¬ (i : Int) < 0 by omega)] at this;exact this
     | false =>
      simp only [cond_false];rw [ZH (n := y.2.1 + c.2.2.1) (by omega) (by omega)];have := fin (y.2.1 + c.2.2.1) (i : Int) hneg;rw [decide_eq_false (show ¬ (i : Int) < 0 by omega)] at this;exact this
theorem MZ : ∀ (cs : List Xd) {xs : List ZL}, Xm xs → (∀ c ∈ cs, ByteArray.size c.2.1 ≤ 1048576) → Xm (AZ xs cs)
 | [], _, h, _ => h
 | c :: cs, xs, h, hc => MZ cs (xs := (R6 xs c).1) (Zmu h (hc c (by simp))) (fun d hd => hc d (by simp [hd]))
theorem ZgA (cs : List Xd) (hl : cs.length ≤ 1099511627776) (hc : ∀ c ∈ cs, ByteArray.size c.2.1 ≤ 1048576) : ∀ (n i : Nat) (xs : List ZL) (codes : List Int), cs.length < n + i → i ≤ cs.length → codes.length ≤ i → Xm xs →
  K4 n xs codes cs (cs.length : Int) (i : Int) = some (AZ xs (cs.drop i), codes ++ Znt xs (cs.drop i), ())
 | 0, i, xs, codes, h1, h2, h3, _ => by omega
 | n + 1, i, xs, codes, h1, h2, h3, h => by
  rcases Nat.lt_or_ge i cs.length with hi | hi
  ·have hm := hc _ (List.getElem_mem hi)
   rw [De, decide_eq_true (by omega), cond_true, mk4 (ZY hi), Zpj xs h _ hm, Option.bind_some, if_pos (by unfold Ztk; omega), Yk (by omega), ZgA cs hl hc n (i + 1) _ _ (by omega) (by omega) (by simp; omega) (Zmu h hm)];rw [List.drop_eq_getElem_cons hi, show ∀ (a b : List Int), List.append a b = a ++ b from fun _ _ => rfl, List.append_assoc];rfl
  ·have e : i = cs.length := by omega
   subst e;rw [De, decide_eq_false (by omega), cond_false, List.drop_length];simp [AZ, Znt]
theorem ZgB (cs : List Xd) (hl : cs.length ≤ 16777216) (hc : ∀ c ∈ cs, ByteArray.size c.2.1 ≤ 1048576) : ∀ (n i : Nat) (xs : List ZL) (codes : List Int), cs.length < n + i → i ≤ cs.length → codes.length ≤ i → Xm xs →
  UA n cs xs codes (i : Int) = some (AZ xs (cs.drop i), codes ++ Znt xs (cs.drop i), ())
 | 0, i, xs, codes, h1, h2, h3, _ => by omega
 | n + 1, i, xs, codes, h1, h2, h3, h => by
  rcases Nat.lt_or_ge i cs.length with hi | hi
  ·have hm := hc _ (List.getElem_mem hi)
   rw [VD, decide_eq_true (by omega), cond_true, mk4 (ZY hi), Zpk xs h _ hm, Option.bind_some, if_pos (by unfold lim; omega), Yk (by omega), ZgB cs hl hc n (i + 1) _ _ (by omega) (by omega) (by simp; omega) (Zmu h hm)];rw [List.drop_eq_getElem_cons hi, show ∀ (a b : List Int), List.append a b = a ++ b from fun _ _ => rfl, List.append_assoc];rfl
  ·have e : i = cs.length := by omega
   subst e;rw [VD, decide_eq_false (by omega), cond_false, List.drop_length];simp [AZ, Znt]
theorem Zn8 (xs : List ZL) (h : Xm xs) (cs : List Xd) (hl : cs.length ≤ 1099511627776) (hc : ∀ c ∈ cs, ByteArray.size c.2.1 ≤ 1048576) : HD big xs cs = some (AZ xs cs, Znt xs cs, ()) := by
 have := ZgA cs hl hc big 0 xs [] (by unfold big; omega) (by omega) (by simp) h;rw [Int.natCast_zero, List.drop_zero, List.nil_append] at this;rw [Zem, WZ _ h.len, Option.bind_some];exact this
theorem Zn9 (xs : List ZL) (h : Xm xs) (cs : List Xd) (hl : cs.length ≤ 16777216) (hc : ∀ c ∈ cs, ByteArray.size c.2.1 ≤ 1048576) : JD big xs cs = some (AZ xs cs, Znt xs cs, ()) := by
 have hl2 := h.len;have := ZgB cs hl hc big 0 xs [] (by unfold big; omega) (by omega) (by simp) h;rw [Int.natCast_zero, List.drop_zero, List.nil_append] at this;rw [Gd, if_pos (by unfold lim; omega)];exact this
def ZmN (t : List Zv) (k : Int) : List Xd :=
 bif (bif decide ((0 : Int) ≤ k) then decide (k ≤ (t.length : Int) - 1) else false) then (match nth t (Int.toNat k) with | some b => b.2.2.1 | none => []) else []
def PX (t : List Zv) (row : List Int) : List Xd := row.flatMap (ZmN t)
structure M0 (t : List Zv) : Prop where
 len : t.length ≤ 16777216
 cmds : ∀ y ∈ t, List.length y.2.2.1 ≤ 1048576
 key : ∀ y ∈ t, ∀ c ∈ y.2.2.1, ByteArray.size c.2.1 ≤ 1048576
theorem ZuQ {t : List Zv} {k : Int} (h : (bif decide ((0 : Int) ≤ k) then decide (k ≤ (t.length : Int) - 1) else false) = true) : 0 ≤ k ∧ ∃ b, nth t (Int.toNat k) = some b ∧ b ∈ t ∧ ZmN t k = b.2.2.1 := by
 by_cases h0 : 0 ≤ k
 ·rw [decide_eq_true h0, cond_true, decide_eq_true_eq] at h
  have hi : Int.toNat k < t.length := by omega
  refine ⟨h0, t[Int.toNat k], ZY hi, List.getElem_mem hi, ?_⟩;unfold ZmN;rw [decide_eq_true h0, decide_eq_true h, ZY hi]; rfl
 ·rw [decide_eq_false h0] at h; cases h
theorem Zs0 {t : List Zv} {k : Int} (h : (bif decide ((0 : Int) ≤ k) then decide (k ≤ (t.length : Int) - 1) else false) = false) : ZmN t k = [] := by
 unfold ZmN;rw [h]; rfl
theorem Zw8 {t : List Zv} (h : M0 t) (k : Int) : (ZmN t k).length ≤ 1048576 ∧ ∀ c ∈ ZmN t k, ByteArray.size c.2.1 ≤ 1048576 := by
 cases hb : (bif decide ((0 : Int) ≤ k) then decide (k ≤ (t.length : Int) - 1) else false) with
 | true =>
  obtain ⟨_, b, _, h2, h3⟩ := ZuQ hb;rw [h3];exact ⟨h.cmds b h2, h.key b h2⟩
 | false => rw [Zs0 hb]; exact ⟨by simp, by simp⟩
theorem ZgC {t : List Zv} (h : M0 t) : ∀ row : List Int, (PX t row).length ≤ row.length * 1048576 ∧ ∀ c ∈ PX t row, ByteArray.size c.2.1 ≤ 1048576
 | [] => ⟨by simp [PX], by simp [PX]⟩
 | k :: row => by
  obtain ⟨h1, h2⟩ := ZgC h row;obtain ⟨h3, h4⟩ := Zw8 h k;have e : PX t (k :: row) = ZmN t k ++ PX t row := rfl;rw [e];refine ⟨by rw [List.length_append, List.length_cons, Nat.succ_mul, Nat.add_comm]; exact Nat.add_le_add h1 h3, fun c hc => ?_⟩;rcases List.mem_append.1 hc with q | q
  ·exact h4 c q
  ·exact h2 c q
theorem EZ (t : List Zv) (h : M0 t) (row : List Int) (hr : row.length ≤ 1048576) : ∀ (n i : Nat) (acc : List Xd), row.length < n + i → i ≤ row.length → acc.length ≤ i * 1048576 →
  Q4 n t acc row (row.length : Int) (i : Int) = some (acc ++ PX t (row.drop i))
 | 0, i, acc, h1, h2, h3 => by omega
 | n + 1, i, acc, h1, h2, h3 => by
  have ht := h.len;rcases Nat.lt_or_ge i row.length with hi | hi
  ·rw [EG, decide_eq_true (by omega), cond_true, mk4 (ZY hi), Zv4, ZH (n := (List.length t : Int) - 1) (by omega) (by omega), Option.bind_some, Yk (by omega)]
   have e : PX t (row.drop i) = ZmN t row[i] ++ PX t (row.drop (i + 1)) := by rw [List.drop_eq_getElem_cons hi]; rfl
   rw [e];cases hb : (bif decide ((0 : Int) ≤ row[i]) then decide (row[i] ≤ (t.length : Int) - 1) else false) with
   | true =>
    obtain ⟨q0, b, q1, q2, q3⟩ := ZuQ hb;have hl := h.cmds b q2;have hm : acc.length + List.length b.2.2.1 ≤ (i + 1) * 1048576 := by rw [Nat.succ_mul]; exact Nat.add_le_add h3 hl
    have hm2 : (i + 1) * 1048576 ≤ Ztk := Nat.le_trans (Nat.mul_le_mul_right _ (show i + 1 ≤ 1048576 by omega)) (by decide);rw [cond_true, if_pos q0, q1, Option.bind_some, if_pos (Nat.le_trans hm hm2)];have := EZ t h row hr n (i + 1) (acc ++ b.2.2.1) (by omega) (by omega) (by rw [List.length_append]; exact hm);refine Eq.trans this ?_;rw [q3, List.append_assoc]
   | false =>
    rw [cond_false, EZ t h row hr n (i + 1) acc (by omega) (by omega) (Nat.le_trans h3 (Nat.mul_le_mul_right _ (Nat.le_succ i))), Zs0 hb];rfl
  ·have e : i = row.length := by omega
   subst e;rw [EG, decide_eq_false (by omega), cond_false, List.drop_length];simp [PX]
theorem Zpl (t : List Zv) (h : M0 t) (row : List Int) (hr : row.length ≤ 1048576) : FA big t row = some (PX t row) := by
 have := EZ t h row hr big 0 [] (by unfold big; omega) (by omega) (by simp);rw [Int.natCast_zero, List.drop_zero, List.nil_append] at this;rw [ZiN];exact this
theorem O5 (xs : List ZL) (a b : List Xd) : AZ xs (a ++ b) = AZ (AZ xs a) b := List.foldl_append ..
def inB (x a b : Int) : Bool := bif decide (a ≤ x) then decide (x ≤ b) else false
theorem Kg {x a b : Int} : inB x a b = true ↔ a ≤ x ∧ x ≤ b := by
 unfold inB
 by_cases h : a ≤ x
 ·rw [decide_eq_true h]; simp [h]
 ·rw [decide_eq_false h]; simp [h]
def L5 (t : List Zv) : Nat → Int → Option (List Int)
 | 0, k => bif decide (0 < k) then none else some []
 | f + 1, k => bif decide (0 < k) then (match nth t (Int.toNat k) with
  | none => none
  | some b => bif inB b.1 0 (k - 1) then (match L5 t f b.1 with | none => none | some l => some (b.1 :: l)) else none) else some []
def Zoa (t : List Zv) (k : Int) : Option (List Int) := bif inB k 0 ((t.length : Int) - 1) then L5 t t.length k else none
theorem Zmv (t : List Zv) (ht : t.length ≤ 1048576) : ∀ (f n : Nat) (k : Int) (acc : List Int), 0 ≤ k → k ≤ f → k < t.length → f < n → acc.length + f ≤ 16777216 →
  K6 n t k acc = some (match L5 t f k with | none => ([], false, ()) | some l => (acc ++ l, true, ()))
 | f, 0, k, acc, _, _, _, h4, _ => by omega
 | 0, n + 1, k, acc, h1, h2, h3, h4, h5 => by
  have e : k = 0 := by omega
  subst e;rw [Df];simp [L5]
 | f + 1, n + 1, k, acc, h1, h2, h3, h4, h5 => by
  rw [Df];simp only [L5]
  by_cases hk : 0 < k
  ·have hi : Int.toNat k < t.length := by omega
   rw [decide_eq_true hk, cond_true, cond_true, if_pos h1, ZY hi, Option.bind_some, Zv4, ZH (n := k - 1) (by omega) (by omega), Option.bind_some];rw [show (bif decide ((0 : Int) ≤ t[Int.toNat k].1) then decide (t[Int.toNat k].1 ≤ k - 1) else false) = inB t[Int.toNat k].1 0 (k - 1) from rfl];dsimp only;cases hb : inB t[Int.toNat k].1 0 (k - 1) with
   | false => rfl
   | true =>
    obtain ⟨q1, q2⟩ := Kg.1 hb;simp only [Bool.not_true, cond_false, cond_true];rw [if_pos h1, Option.bind_some, if_pos (by unfold lim; simp only [List.length_singleton]; omega)];refine (Zmv t ht f n _ _ q1 (by omega) (by omega) (by omega) (by rw [show ∀ a b : List Int, List.append a b = a ++ b from fun _ _ => rfl, List.length_append, List.length_singleton]; omega)).trans ?_;cases L5 t f t[Int.toNat k].1 with
    | none => rfl
    | some l =>
     simp only [show ∀ a b : List Int, List.append a b = a ++ b from fun _ _ => rfl, List.append_assoc];rfl
  ·rw [decide_eq_false hk]
   simp
theorem Zmw (t : List Zv) (ht : t.length ≤ 1048576) (k : Int) : CJ big t k = some (match Zoa t k with | none => ([], false, ()) | some l => (k :: l, true, ())) := by
 rw [Zeo, Zv4, ZH (n := (List.length t : Int) - 1) (by omega) (by omega), Option.bind_some];unfold Zoa;show (bif !inB k 0 ((t.length : Int) - 1) then _ else _) = _;cases hb : inB k 0 ((t.length : Int) - 1) with
 | false => rfl
 | true =>
  obtain ⟨q1, q2⟩ := Kg.1 hb;simp only [Bool.not_true, cond_false, cond_true];exact Zmv t ht t.length big k [k] q1 (by omega) (by omega) (by unfold big; omega) (by simp; omega)
theorem Zck (t : List Zv) (ht : t.length ≤ 1048576) : ∀ (f n : Nat) (k h : Int), 0 ≤ k → k ≤ f → k < t.length → f < n → 0 ≤ h → h + f ≤ 16777216 →
  Vt n t k h = some (match L5 t f k with | none => -1 | some l => h + l.length)
 | f, 0, k, h, _, _, _, h4, _, _ => by omega
 | 0, n + 1, k, h, h1, h2, h3, h4, h5, h6 => by
  have e : k = 0 := by omega
  subst e;rw [XA];simp only [L5, decide_true, Bool.not_true, cond_false, Int.lt_irrefl, decide_false];rw [decide_eq_false (by omega)];simp
 | f + 1, n + 1, k, h, h1, h2, h3, h4, h5, h6 => by
  rw [XA];simp only [L5]
  by_cases hk : 0 < k
  ·have hi : Int.toNat k < t.length := by omega
   rw [decide_eq_false (show ¬ k = 0 by omega), decide_eq_true hk, Bool.not_false, cond_true, cond_true, CT, ZH (n := (List.length t : Int) - 1) (by omega) (by omega), Option.bind_some,
    decide_eq_true h1, cond_true, decide_eq_true (show k ≤ (t.length : Int) - 1 by omega), Bool.not_true, cond_false, if_pos h1, ZY hi, Option.bind_some, CT, ZH (n := k - 1) (by omega) (by omega), Option.bind_some]
   rw [show (bif decide ((0 : Int) ≤ t[Int.toNat k].1) then decide (t[Int.toNat k].1 ≤ k - 1) else false) = inB t[Int.toNat k].1 0 (k - 1) from rfl];dsimp only;cases hb : inB t[Int.toNat k].1 0 (k - 1) with
   | false => rfl
   | true =>
    obtain ⟨q1, q2⟩ := Kg.1 hb;simp only [Bool.not_true, cond_false, cond_true];rw [if_pos h1, Option.bind_some, ZH (n := h + 1) (by omega) (by omega)];refine (Zck t ht f n _ _ q1 (by omega) (by omega) (by omega) (by omega) (by omega)).trans ?_;cases L5 t f t[Int.toNat k].1 with
    | none => rfl
    | some l => simp only [List.length_cons]; congr 1; omega
  ·have e : k = 0 := by omega
   subst e;simp only [decide_true, Bool.not_true, cond_false, Int.lt_irrefl, decide_false];rw [decide_eq_false (by omega)];simp
theorem FE (t : List Zv) (ht : t.length ≤ 1048576) (k : Int) : Wf big t k = some (match Zoa t k with | none => -1 | some l => (l.length : Int)) := by
 rw [DU];unfold Zoa;cases hb : inB k 0 ((t.length : Int) - 1) with
 | true =>
  obtain ⟨q1, q2⟩ := Kg.1 hb;rw [cond_true, Zck t ht t.length big k 0 q1 (by omega) (by omega) (by unfold big; omega) (by omega) (by omega)];cases L5 t t.length k <;> simp
 | false =>
  rw [cond_false, show big = (big - 1) + 1 from by decide, XA]
  by_cases e : k = 0
  ·subst e
   have hl : t.length = 0 := by
    cases ht0 : t.length with
    | zero => rfl
    | succ m => rw [Kg.2 ⟨by omega, by rw [ht0]; omega⟩] at hb; cases hb
   rw [decide_eq_true rfl, decide_eq_true (show (List.length t : Int) = 0 by omega)];rfl
  ·rw [decide_eq_false e, Bool.not_false, cond_true, CT, ZH (n := (List.length t : Int) - 1) (by omega) (by omega), Option.bind_some]
   show (bif !inB k 0 ((t.length : Int) - 1) then _ else _) = _;rw [hb];rfl
theorem Zpm {t : List Zv} : ∀ {f : Nat} {k : Int} {l : List Int}, L5 t f k = some l → 0 ≤ k → (k :: l).Pairwise (fun a b => b < a) ∧ (∀ y ∈ l, 0 ≤ y ∧ y < k) ∧ ∃ m, k :: l = m ++ [0] ∧ ∀ y ∈ m, 0 < y ∧ y ≤ k
 | 0, k, l, h, h0 => by
  simp only [L5] at h
  by_cases hk : 0 < k
  ·rw [decide_eq_true hk] at h; cases h
  ·rw [decide_eq_false hk] at h; cases h
   have e : k = 0 := by omega
   subst e;exact ⟨by simp, by simp, [], rfl, by simp⟩
 | f + 1, k, l, h, h0 => by
  simp only [L5] at h
  by_cases hk : 0 < k
  ·rw [decide_eq_true hk, cond_true] at h
   split at h
   ·cases h
   ·rename_i b _
    cases hb : inB b.1 0 (k - 1) with
    | false => rw [hb] at h; cases h
    | true =>
     rw [hb, cond_true] at h;obtain ⟨q1, q2⟩ := Kg.1 hb
     split at h
     ·cases h
     ·rename_i l' hl
      cases h;obtain ⟨i1, i2, m, i3, i4⟩ := Zpm hl q1;refine ⟨List.pairwise_cons.2 ⟨fun y hy => ?_, i1⟩, fun y hy => ?_, k :: m, by rw [i3]; rfl, fun y hy => ?_⟩
      ·rcases List.mem_cons.1 hy with e | hy
       ·subst e; omega
       ·have := i2 y hy; omega
      ·rcases List.mem_cons.1 hy with e | hy
       ·subst e; omega
       ·have := i2 y hy; omega
      ·rcases List.mem_cons.1 hy with e | hy
       ·subst e; omega
       ·have := i4 y hy; omega
  ·rw [decide_eq_false hk] at h; cases h
   have e : k = 0 := by omega
   subst e;exact ⟨by simp, by simp, [], rfl, by simp⟩
theorem Zs1 (xs : List Int) (u : Int) (hl : xs.length ≤ 16777216) : K8 big xs u = some (L6 (fun y => decide (u = y)) xs 0) := by
 rw [PE];have := Zch (xs := xs) (p := fun y => decide (u = y)) (r := fun n i => UP n xs u (xs.length : Int) i) (fun n i hi => by
  rw [AG, decide_eq_true (by omega), cond_true, mk4 (ZY hi), Yk (by omega)]) (fun n => by
  rw [AG, decide_eq_false (Int.lt_irrefl _)]
  rfl) big 0 (by unfold big; omega) (by omega)
 rw [Int.natCast_zero, List.drop_zero] at this;exact this
theorem Zs2 {t : List Zv} : ∀ {f : Nat} {k : Int} {l : List Int}, L5 t f k = some l → l.length ≤ f
 | 0, k, l, h => by
  simp only [L5] at h;cases hk : decide (0 < k) <;> rw [hk] at h <;> cases h;simp
 | f + 1, k, l, h => by
  simp only [L5] at h;cases hk : decide (0 < k) with
  | false => rw [hk] at h; cases h; simp
  | true =>
   rw [hk, cond_true] at h
   split at h
   ·cases h
   ·rename_i b _
    cases hb : inB b.1 0 (k - 1) with
    | false => rw [hb] at h; cases h
    | true =>
     rw [hb, cond_true] at h
     split at h
     ·cases h
     ·rename_i l' hl
      cases h;have := Zs2 hl;simp only [List.length_cons]; omega
theorem E0 {t : List Zv} {k : Int} {l : List Int} (h : Zoa t k = some l) : 0 ≤ k ∧ k < t.length ∧ L5 t t.length k = some l ∧ l.length ≤ t.length := by
 unfold Zoa at h;cases hb : inB k 0 ((t.length : Int) - 1) with
 | false => rw [hb] at h; cases h
 | true =>
  rw [hb, cond_true] at h;obtain ⟨q1, q2⟩ := Kg.1 hb;exact ⟨q1, by omega, h, Zs2 h⟩
def Zjh (t : List Zv) (k u : Int) : Bool := match Zoa t k with | none => false | some l => (k :: l).any fun y => decide (u = y)
theorem Zcl (t : List Zv) (ht : t.length ≤ 1048576) (k u : Int) : CL big t k u = some (Zjh t k u) := by
 rw [Zeq, Zmw t ht k];unfold Zjh;cases hw : Zoa t k with
 | none => rfl
 | some l =>
  have := (E0 hw).2.2.2;simp only [Option.bind_some, cond_true];rw [HH, Zs1 _ _ (by simp only [List.length_cons]; omega)];simp only [Option.bind_some];rw [ZoQ (by decide)]
theorem Zpn (t : List Zv) (u : Int) : ∀ (f n : Nat) (k : Int) (l : List Int), L5 t f k = some l → 0 ≤ k → k ≤ f → k < t.length → f < n → Uv n t k u = some ((k :: l).any fun y => decide (u = y))
 | f, 0, k, l, _, _, _, _, h => by omega
 | f, n + 1, k, l, hw, h1, h2, h3, h4 => by
  rw [Kb]
  by_cases hk : 0 < k
  ·rw [decide_eq_true hk, cond_true]
   by_cases e : k = u
   ·subst e
    simp
   ·rw [decide_eq_false e, Bool.not_false, cond_true, if_pos h1]
    cases f with
    | zero => omega
    | succ f =>
     simp only [L5] at hw;rw [decide_eq_true hk, cond_true] at hw
     split at hw
     ·cases hw
     ·rename_i b hb0
      rw [hb0, Option.bind_some];cases hb : inB b.1 0 (k - 1) with
      | false => rw [hb] at hw; cases hw
      | true =>
       rw [hb, cond_true] at hw;obtain ⟨q1, q2⟩ := Kg.1 hb
       split at hw
       ·cases hw
       ·rename_i l' hl
        cases hw;rw [Zpn t u f n b.1 l' hl q1 (by omega) (by omega) (by omega), List.any_cons (a := k), decide_eq_false (Ne.symm e), Bool.false_or]
  ·have e : k = 0 := by omega
   subst e;have hl : l = [] := by
    cases f with
    | zero => simpa [L5] using hw
    | succ f => simpa [L5] using hw
   subst hl;simp [eq_comm]
theorem Zcm (t : List Zv) (ht : t.length ≤ 1048576) (k u : Int) : Ql big t k u = some (Zjh t k u) := by
 rw [F0, FE t ht k];unfold Zjh;cases hw : Zoa t k with
 | none => rfl
 | some l =>
  obtain ⟨w1, w2, w3, w4⟩ := E0 hw;simp only [Option.bind_some];rw [decide_eq_false (by omega), cond_false];exact Zpn t u t.length big k l w3 w1 (by omega) w2 (by unfold big; omega)
theorem Zpo (xs : List Int) (hl : xs.length ≤ 16777216) : ∀ (n i : Nat) (b : List Int), b.length = xs.length →
  (∀ m, m < xs.length → nth b m = nth xs (if m < i ∨ xs.length ≤ m + i then xs.length - 1 - m else m)) → i + i ≤ xs.length + 1 → xs.length < n + i →
  Vh n (i : Int) ((xs.length : Int) - 1 - i) b = some ((), xs.reverse, ())
 | 0, i, b, _, _, h3, h4 => by omega
 | n + 1, i, b, h1, h2, h3, h4 => by
  by_cases hij : i + i + 1 < xs.length
  ·obtain ⟨j, hj⟩ : ∃ j : Nat, j = xs.length - 1 - i := ⟨_, rfl⟩
   have e : (xs.length : Int) - 1 - i = (j : Int) := by omega
   have hib : i < b.length := by omega
   have hjb : j < b.length := by omega
   have hjb2 : j < (upd b i b[j]).length := by rw [ZU]; exact hjb
   have ih := Zpo xs hl n (i + 1) (upd (upd b i b[j]) j b[i]) (by rw [ZU, ZU, h1]) (fun m hm => ?_) (by omega) (by omega)
   ·rw [e, Kl, decide_eq_true (show (i : Int) < (j : Int) by omega), cond_true]
    simp only [if_pos (show (0 : Int) ≤ (j : Int) by omega), if_pos (show (j : Int) < (b.length : Int) by omega), if_pos (show (0 : Int) ≤ (i : Int) by omega), if_pos (show (i : Int) < (b.length : Int) by omega), Int.toNat_natCast, ZY hjb, ZY hib, Option.bind_some, G2 hib,
     if_pos (show (j : Int) < ((upd b i b[j]).length : Int) by omega), ZY hjb2, G2 hjb2]
    rw [Yk (by omega), ZH (n := (j : Int) - 1) (by omega) (by omega), show (j : Int) - 1 = (xs.length : Int) - 1 - ((i + 1 : Nat) : Int) by omega];exact ih
   ·by_cases ej : m = j
    ·subst ej
     rw [Z7 (ZY hjb2), if_pos (by omega), ← ZY hib, h2 i (by omega), if_neg (by omega)];congr 1; omega
    ·rw [Z1 (Ne.symm ej)]
     by_cases ei : m = i
     ·subst ei
      rw [Z7 (ZY hib), if_pos (by omega), ← ZY hjb, h2 j (by omega), if_neg (by omega), hj]
     ·rw [Z1 (Ne.symm ei), h2 m hm]
      by_cases hc : m < i ∨ xs.length ≤ m + i
      ·rw [if_pos hc, if_pos (by omega)]
      ·rw [if_neg hc, if_neg (by omega)]
  ·rw [Kl, decide_eq_false (by omega), cond_false]
   have hb : b = xs.reverse := by
    apply List.ext_getElem?;intro m;rw [← JY]
    by_cases hm : m < xs.length
    ·rw [h2 m hm, List.getElem?_reverse hm, ← JY]
     split
     ·rfl
     ·congr 1; omega
    ·rw [Xn.2 (by omega), List.getElem?_eq_none (by rw [List.length_reverse]; omega)]
   rw [hb]
theorem Zs3 (xs : List Int) (hl : xs.length ≤ 16777216) : JO big xs = some ((), xs.reverse, ()) := by
 have := Zpo xs hl big 0 xs rfl (fun m hm => by rw [if_neg (by omega)]) (by omega) (by unfold big; omega);rw [Int.natCast_zero, Int.sub_zero] at this;rw [LE, ZH (by omega) (by omega)];exact this
def Zcn (t : List Zv) (k : Int) : List Int := match Zoa t k with | none => [] | some l => (k :: l).dropLast.reverse
theorem Zs4 (t : List Zv) (ht : t.length ≤ 1048576) (k : Int) : Zbu big t k = some (Zcn t k) := by
 rw [Zl9, Zmw t ht k];unfold Zcn;cases hw : Zoa t k with
 | none => rfl
 | some l =>
  have := (E0 hw).2.2.2;simp only [Option.bind_some, Bool.not_true, cond_false];rw [Zs3 _ (by simp only [List.length_cons]; omega)];simp only [Option.bind_some];rw [if_pos (by simp only [List.length_reverse, List.length_cons]; omega), List.take_of_length_le (by simp [List.length_drop])];rw [show Int.toNat 1 = 1 from rfl, List.drop_one, List.tail_reverse]
theorem Zs5 (t : List Zv) : ∀ (f n : Nat) (k : Int) (l acc : List Int), L5 t f k = some l → 0 ≤ k → k ≤ f → k < t.length → f < n → acc.length + f ≤ 16777216 → JB n t k acc = some ((k :: l).dropLast.reverse ++ acc)
 | f, 0, k, l, acc, _, _, _, _, h, _ => by omega
 | f, n + 1, k, l, acc, hw, h1, h2, h3, h4, h5 => by
  rw [A9]
  by_cases hk : 0 < k
  ·rw [decide_eq_true hk, cond_true]
   cases f with
   | zero => omega
   | succ f =>
    rw [if_pos (by unfold lim; simp only [List.length_singleton]; omega), if_pos h1];simp only [L5] at hw;rw [decide_eq_true hk, cond_true] at hw
    split at hw
    ·cases hw
    ·rename_i b hb0
     rw [hb0, Option.bind_some];cases hb : inB b.1 0 (k - 1) with
     | false => rw [hb] at hw; cases hw
     | true =>
      rw [hb, cond_true] at hw;obtain ⟨q1, q2⟩ := Kg.1 hb
      split at hw
      ·cases hw
      ·rename_i l' hl
       cases hw;rw [Zs5 t f n b.1 l' (k :: acc) hl q1 (by omega) (by omega) (by omega) (by simp only [List.length_cons]; omega)];simp [List.dropLast]
  ·have e : k = 0 := by omega
   subst e;have hl : l = [] := by
    cases f with
    | zero => simpa [L5] using hw
    | succ f => simpa [L5] using hw
   subst hl;simp
theorem Zs6 (t : List Zv) (ht : t.length ≤ 1048576) (k : Int) : IE big t k = some (Zcn t k) := by
 rw [NO, FE t ht k];unfold Zcn;cases hw : Zoa t k with
 | none => rfl
 | some l =>
  obtain ⟨w1, w2, w3, w4⟩ := E0 hw;simp only [Option.bind_some];rw [decide_eq_false (by omega), cond_false, Zs5 t t.length big k l [] w3 w1 (by omega) w2 (by unfold big; omega) (by simp; omega), List.append_nil]
theorem HO (t : List Zv) (k : Int) : (Zcn t k).Pairwise (· < ·) ∧ (∀ y ∈ Zcn t k, 0 < y ∧ y < t.length) ∧ (Zcn t k).length ≤ t.length ∧ ∀ u, Zjh t k u = true → u = 0 ∨ u ∈ Zcn t k := by
 unfold Zcn Zjh;cases hw : Zoa t k with
 | none => exact ⟨by simp, by simp, by simp, by simp⟩
 | some l =>
  obtain ⟨w1, w2, w3, w4⟩ := E0 hw;obtain ⟨d1, _, m, d3, d4⟩ := Zpm w3 w1;dsimp only;have hm : (k :: l).dropLast = m := by rw [d3, List.dropLast_concat]
  rw [hm];refine ⟨?_, fun y hy => ?_, ?_, fun u hu => ?_⟩
  ·rw [List.pairwise_reverse]
   rw [d3] at d1;exact (List.pairwise_append.1 d1).1
  ·have := d4 y (List.mem_reverse.1 hy); omega
  ·have : (k :: l).length = m.length + 1 := by rw [d3]; simp
   simp only [List.length_cons] at this;rw [List.length_reverse]; omega
  ·obtain ⟨y, h1, h2⟩ := List.any_eq_true.1 hu
   rw [decide_eq_true_eq] at h2;subst h2;rw [d3] at h1;rcases List.mem_append.1 h1 with q | q
   ·exact .inr (List.mem_reverse.2 q)
   ·exact .inl (by simpa using q)
def Q6 (t : List Zv) (k u : Int) : List Int := bif Zjh t k u then (Zcn t k).filter (fun y => decide (u < y)) else []
theorem Zpp (u : Int) : ∀ {row : List Int} (j : Int), 0 ≤ j → row.Pairwise (· < ·) → u ∈ row → ∃ i : Nat, L6 (fun y => decide (u = y)) row j = j + i ∧ i < row.length ∧ row.drop (i + 1) = row.filter (fun y => decide (u < y))
 | [], j, _, _, h => by cases h
 | y :: row, j, h0, hp, h => by
  obtain ⟨p1, p2⟩ := List.pairwise_cons.1 hp
  by_cases e : u = y
  ·subst e
   refine ⟨0, by simp only [L6, decide_true, cond_true]; omega, by simp, ?_⟩;rw [List.filter_cons, decide_eq_false (Int.lt_irrefl u)];simp only [Nat.zero_add, List.drop_succ_cons, List.drop_zero, Bool.false_eq_true, if_false];rw [List.filter_eq_self.2 (fun z hz => by rw [decide_eq_true (p1 z hz)])]
  ·have hm : u ∈ row := by
    rcases List.mem_cons.1 h with q | q
    ·exact absurd q e
    ·exact q
   obtain ⟨i, i1, i2, i3⟩ := Zpp u (row := row) (j + 1) (by omega) p2 hm;have hlt := p1 u hm;refine ⟨i + 1, by simp only [L6, decide_eq_false e, cond_false]; omega, by simp only [List.length_cons]; omega, ?_⟩;rw [List.filter_cons, decide_eq_false (by omega), List.drop_succ_cons, i3];simp
theorem ZuR (u : Int) : ∀ {row : List Int} (j : Int), (∀ y ∈ row, u < y) → L6 (fun y => decide (u = y)) row j = -1
 | [], _, _ => rfl
 | y :: row, j, h => by
  have := h y (by simp);simp only [L6, decide_eq_false (show ¬ u = y by omega), cond_false];exact ZuR u (j + 1) (fun z hz => h z (by simp [hz]))
theorem O6 (t : List Zv) (ht : t.length ≤ 1048576) (k u : Int) : AH big t k u = some (Q6 t k u) := by
 obtain ⟨f1, f2, f3, f4⟩ := HO t k;rw [Zbw, Zcl t ht, Option.bind_some];unfold Q6;cases he : Zjh t k u with
 | false => rfl
 | true =>
  simp only [Bool.not_true, cond_false, cond_true];rw [Zs4 t ht, Option.bind_some, Zs1 _ _ (by omega), Option.bind_some];rcases f4 u he with e | hm
  ·subst e
   rw [ZuR 0 0 (fun y hy => (f2 y hy).1), List.filter_eq_self.2 (fun z hz => by rw [decide_eq_true (f2 z hz).1])];rw [show IntKind.i64.wrap (-1 + 1) = 0 from rfl, if_pos (by omega), if_pos (by omega)];simp
  ·obtain ⟨i, i1, i2, i3⟩ := Zpp u 0 (by omega) f1 hm
   rw [i1, Int.zero_add, Yk (by omega), if_pos (by omega), if_pos (by omega), Int.toNat_natCast, i3, List.take_of_length_le (by rw [← i3, List.length_drop]; omega)]
theorem M1 (u : Int) (row : List Int) (hl : row.length ≤ 16777216) : ∀ (n i : Nat) (acc : List Int), row.length < n + i → i ≤ row.length → acc.length ≤ i → Wx n u acc (i : Int) row = some (acc ++ (row.drop i).filter (fun y => decide (u < y)))
 | 0, i, acc, h1, h2, h3 => by omega
 | n + 1, i, acc, h1, h2, h3 => by
  rcases Nat.lt_or_ge i row.length with hi | hi
  ·rw [Vb, decide_eq_true (by omega), cond_true]
   simp only [if_pos (show (0 : Int) ≤ (i : Int) by omega), if_pos (show (i : Int) < (row.length : Int) by omega), Int.toNat_natCast, ZY hi, Option.bind_some];rw [if_pos (by unfold lim; simp only [List.length_singleton]; omega), Yk (by omega), List.drop_eq_getElem_cons hi, List.filter_cons];cases decide (u < row[i]) with
   | true =>
    rw [cond_true, M1 u row hl n (i + 1) _ (by omega) (by omega) (by simp; omega)];simp
   | false =>
    rw [cond_false, M1 u row hl n (i + 1) _ (by omega) (by omega) (by omega)];simp
  ·have e : i = row.length := by omega
   subst e;rw [Vb, decide_eq_false (by omega), cond_false, List.drop_length];simp
theorem O7 (t : List Zv) (ht : t.length ≤ 1048576) (k u : Int) : QX big t k u = some (Q6 t k u) := by
 obtain ⟨f1, f2, f3, f4⟩ := HO t k;rw [D4, Zcm t ht, Option.bind_some];unfold Q6;cases he : Zjh t k u with
 | false => rfl
 | true =>
  simp only [Bool.not_true, cond_false, cond_true];have := M1 u (Zcn t k) (by omega) big 0 [] (by unfold big; omega) (by omega) (by simp);rw [Int.natCast_zero, List.drop_zero, List.nil_append] at this;rw [Zs6 t ht, Option.bind_some];exact this
theorem W0 (t : List Zv) (k u : Int) : (Q6 t k u).Pairwise (· < ·) ∧ (∀ y ∈ Q6 t k u, 0 < y ∧ y < t.length) ∧ (Q6 t k u).length ≤ t.length := by
 obtain ⟨f1, f2, f3, _⟩ := HO t k;unfold Q6;cases Zjh t k u with
 | false => exact ⟨by simp, by simp, by simp⟩
 | true =>
  refine ⟨f1.sublist List.filter_sublist, fun y hy => f2 y (List.mem_filter.1 hy).1, Nat.le_trans (List.length_filter_le ..) f3⟩
def M2 (t : List Zv) (i : Nat) : Nat := ((t.drop i).map fun b => List.length b.2.2.1).sum
theorem Zpq {t : List Zv} {i : Nat} (hi : i < t.length) : M2 t i = List.length t[i].2.2.1 + M2 t (i + 1) := by
 unfold M2;rw [List.drop_eq_getElem_cons hi, List.map_cons, List.sum_cons]
theorem ZgD (t : List Zv) : ∀ (d i : Nat), M2 t (i + d) ≤ M2 t i
 | 0, i => Nat.le_refl _
 | d + 1, i => by
  refine Nat.le_trans ?_ (ZgD t d i);rcases Nat.lt_or_ge (i + d) t.length with h | h
  ·rw [Zpq h]; exact Nat.le_add_left _ _
  ·unfold M2
   rw [List.drop_eq_nil_of_le (show t.length ≤ i + (d + 1) by omega)];simp
theorem Zmx (t : List Zv) : ∀ (row : List Int) (i : Nat), row.Pairwise (· < ·) → (∀ y ∈ row, (i : Int) ≤ y ∧ y < t.length) → (PX t row).length ≤ M2 t i
 | [], i, _, _ => by simp [PX]
 | r :: row, i, hp, hm => by
  obtain ⟨p1, p2⟩ := List.pairwise_cons.1 hp;obtain ⟨m1, m2⟩ := hm r (by simp);have hr : Int.toNat r < t.length := by omega
  have ih := Zmx t row (Int.toNat r + 1) p2 (fun y hy => ⟨by have := p1 y hy; omega, (hm y (by simp [hy])).2⟩);have hc : ZmN t r = t[Int.toNat r].2.2.1 := by
   unfold ZmN;rw [decide_eq_true (show (0 : Int) ≤ r by omega), cond_true, decide_eq_true (show r ≤ (t.length : Int) - 1 by omega), ZY hr]; rfl
  have e : PX t (r :: row) = ZmN t r ++ PX t row := rfl;rw [e, List.length_append, hc];have h1 := Zpq hr;have h2 := ZgD t (Int.toNat r - i) i;rw [show i + (Int.toNat r - i) = Int.toNat r by omega] at h2;omega
end Go.Sx.Tryz
