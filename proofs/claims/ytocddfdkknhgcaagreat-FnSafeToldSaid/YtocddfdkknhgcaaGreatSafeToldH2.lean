/- That a run goes through: what is read from the disk. -/
import Derived.Test.YtocddfdkknhgcaaGreatM8
import Derived.Test.YtocddfdkknhgcaaGreatTypes
import Derived.Test.YtocddfdkknhgcaaGreatSafeToldH1
import Derived.Test.YtocddfdkknhgcaaGreatSafeToldF1
import Derived.Test.YtocddfdkknhgcaaGreatSafeToldF3
import Derived.Test.YtocddfdkknhgcaaGreatSafeToldF4
set_option linter.unusedVariables false
set_option linter.unusedSimpArgs false
set_option maxRecDepth 100000
namespace Go.Sx.Tryz
open Go Go.Sx Go.Proofs
def RdP (s : ByteArray) (i v w : Nat) (r : Int × Int × Bool × Unit) : Prop :=
 r.2.2.1 = true → (i : Int) < r.2.1 ∧ r.2.1 ≤ s.size ∧ 0 ≤ r.1 ∧ r.1 ≤ 1000000000 ∧ ∀ m rest, s.data.toList.drop i = enc m ++ rest → r.1 = ((v + m * w : Nat) : Int) ∧ r.2.1 = ((i + (enc m).length : Nat) : Int)
theorem RD {m : Nat} (h : m < 256) : (UInt8.ofNat m).toNat = m := by
 have : (UInt8.ofNat m).toNat = m % 256 := rfl;omega
theorem Zv6 (s : ByteArray) (hs : s.size ≤ 1000000) (a : Nat) : ∀ (k n v w i : Nat), i + k = a + 5 → a ≤ i → i ≤ s.size → k < n → w * 128 ^ k ≤ 34359738368 → v ≤ w →
  Ok (KT n s (a : Int) (v : Int) (w : Int) (i : Int)) (RdP s i v w) := by
 have no : ∀ i v w, RdP s i v w ((0 : Int), (0 : Int), false, ()) := fun i v w h => by cases h
 have hl := Zjo s;intro k
 induction k with
 | zero =>
  intro n v w i h1 h2 h3 h4 h5 h6;obtain ⟨n, rfl⟩ : ∃ m, n = m + 1 := ⟨n - 1, by omega⟩
  rw [Dg, ZI (n := (a : Int) + 5) (by omega) (by omega)];exact Zk (fun _ => Zk (fun h => by omega) fun _ => Za (no _ _ _)) fun _ => Za (no _ _ _)
 | succ k ih =>
  intro n v w i h1 h2 h3 h4 h5 h6;obtain ⟨n, rfl⟩ : ∃ m, n = m + 1 := ⟨n - 1, by omega⟩
  have hw : w * 128 ≤ 34359738368 := by
   have h128 : 1 ≤ 128 ^ k := Nat.pow_pos (by decide);rw [Nat.pow_succ, ← Nat.mul_assoc, Nat.mul_right_comm] at h5;exact Nat.le_trans (Nat.le_mul_of_pos_right _ h128) h5
  have h5' : w * 128 * 128 ^ k ≤ 34359738368 := by
   rw [Nat.pow_succ, ← Nat.mul_assoc, Nat.mul_right_comm] at h5;exact h5
  rw [Dg, ZI (n := (a : Int) + 5) (by omega) (by omega)];refine Zk (fun hi => Zk (fun hi5 => ZA (by omega) ?_) fun _ => Za (no _ _ _)) fun _ => Za (no _ _ _);have hi' : i < s.data.toList.length := by omega
  have hd := List.drop_eq_getElem_cons hi';rw [Int.toNat_natCast, Z3 hi', Option.bind_some];generalize s.data.toList[i] = b at hd;have hb : b.toNat < 256 := UInt8.toNat_lt _;refine ZA (by omega) ?_;rw [Option.bind_some];have hx : b.toNat % 128 * w ≤ 127 * w := Nat.mul_le_mul_right _ (by omega);have ev : IntKind.i64.wrap ((v : Int) + IntKind.i64.wrap ((IntKind.i64.wrap (b.toNat : Int)).tmod 128 * (w : Int))) = ((v + b.toNat % 128 * w : Nat) : Int) := by
   have e1 : IntKind.i64.wrap (b.toNat : Int) = (b.toNat : Int) := ZI (by omega) (by omega);have e2 : ((b.toNat : Int)).tmod 128 = ((b.toNat % 128 : Nat) : Int) := (Int.ofNat_tmod b.toNat 128).symm;have e3 : ((b.toNat % 128 : Nat) : Int) * (w : Int) = ((b.toNat % 128 * w : Nat) : Int) := (Int.natCast_mul _ _).symm;rw [e1, e2, e3, ZI (n := ((b.toNat % 128 * w : Nat) : Int)) (by omega) (by omega), ← Int.natCast_add, ZI (by omega) (by omega)]
  have ei : IntKind.i64.wrap ((i : Int) + 1) = ((i + 1 : Nat) : Int) := by rw [ZI (by omega) (by omega)]; omega
  have ew : IntKind.i64.wrap ((w : Int) * 128) = ((w * 128 : Nat) : Int) := by rw [ZI (by omega) (by omega)]; omega
  try dsimp only
  rw [ev, ei, ew];refine Zk (fun hc => Zk (fun _ => Za (no _ _ _)) fun hv => ZA (by omega) (ZA (by omega) (ZA (by omega) (ZA (by omega) (Zc (Zv5 _) fun y _ => YO (fun _ => Za (no _ _ _)) fun _ => Za fun _ => ⟨?_, ?_, ?_, ?_, fun m rest hm => ?_⟩))))) fun hc => ?_
  ·show (i : Int) < ((i + 1 : Nat) : Int); omega
  ·show ((i + 1 : Nat) : Int) ≤ _; omega
  ·show (0 : Int) ≤ ((v + b.toNat % 128 * w : Nat) : Int); omega
  ·show ((v + b.toNat % 128 * w : Nat) : Int) ≤ _; omega
  ·rw [hd] at hm
   by_cases h7 : m ≤ 127
   ·rw [ZgN h7] at hm ⊢
    have hbm : b = UInt8.ofNat m := (List.cons.inj hm).1;have : b.toNat % 128 = m := by rw [hbm, RD (by omega)]; omega
    rw [this];exact ⟨rfl, rfl⟩
   ·rw [ZmG h7] at hm
    have hbm : b = UInt8.ofNat (m % 128 + 128) := (List.cons.inj hm).1;rw [hbm, RD (by omega)] at hc;omega
  ·refine VN (ih n (v + b.toNat % 128 * w) (w * 128) (i + 1) (by omega) (by omega) (by omega) (by omega) h5' (by omega)) fun r hr h => ?_
   obtain ⟨g1, g2, g3, g4, g5⟩ := hr h;refine ⟨by omega, g2, g3, g4, fun m rest hm => ?_⟩;rw [hd] at hm
   by_cases h7 : m ≤ 127
   ·rw [ZgN h7] at hm
    have hbm : b = UInt8.ofNat m := (List.cons.inj hm).1;rw [hbm, RD (by omega)] at hc;omega
   ·rw [ZmG h7] at hm ⊢
    have hbm : b = UInt8.ofNat (m % 128 + 128) := (List.cons.inj hm).1;obtain ⟨q1, q2⟩ := g5 (m / 128) rest (List.cons.inj hm).2;have hbx : b.toNat % 128 = m % 128 := by rw [hbm, RD (by omega)]; omega
    refine ⟨?_, by rw [q2, List.length_cons]; congr 1; omega⟩;rw [q1, hbx];congr 1;have e1 : m / 128 * (w * 128) = m / 128 * 128 * w := by rw [Nat.mul_comm w 128, Nat.mul_assoc]
    have e2 : m * w = (m / 128 * 128 + m % 128) * w := by congr 1; omega
    rw [e1, e2, Nat.add_mul]; omega
theorem Zs6 (s : ByteArray) (hs : s.size ≤ 1000000) (a : Int) : Ok (HD big s a) fun r => r.2.2.1 = true → 0 ≤ a ∧ a < r.2.1 ∧ r.2.1 ≤ s.size ∧ 0 ≤ r.1 ∧ r.1 ≤ 1000000000 ∧
  ∀ m rest, s.data.toList.drop a.toNat = enc m ++ rest → r.1 = (m : Int) ∧ r.2.1 = a + ((enc m).length : Int) := by
 rw [Zeg, Mt, Option.bind_some];refine Ye (fun _ => Za fun h => by cases h) fun h => ?_;simp only [Bool.and_eq_true, decide_eq_true_eq] at h;obtain ⟨m, rfl⟩ : ∃ m : Nat, a = m := ⟨a.toNat, by omega⟩
 have := Zv6 s hs m 5 big 0 1 m (by omega) (by omega) (by omega) (by unfold big; omega) (by decide) (by omega);refine VN this fun r hr h1 => ?_;obtain ⟨g1, g2, g3, g4, g5⟩ := hr h1;refine ⟨h.1, g1, g2, g3, g4, fun k rest hk => ?_⟩;obtain ⟨q1, q2⟩ := g5 k rest hk;exact ⟨by rw [q1]; congr 1; omega, by rw [q2]; omega⟩
def Adv (c c' : XS) : Prop := c'.1 = c.1 ∧ (c'.2.2.1 = false → c.2.2.1 = false ∧ 0 ≤ c.2.1 ∧ c.2.1 < c'.2.1 ∧ c'.2.1 ≤ (ByteArray.size c.1 : Int))
theorem Adv.trans {a b c : XS} (h : Adv a b) (k : Adv b c) : Adv a c := ⟨k.1.trans h.1, fun e => by
 obtain ⟨k1, k2, k3, k4⟩ := k.2 e;obtain ⟨h1, h2, h3, h4⟩ := h.2 k1;rw [h.1] at k4;exact ⟨h1, h2, by omega, k4⟩⟩
theorem DB (c : XS) (hs : ByteArray.size c.1 ≤ 1000000) : Ok (Xq big c) fun r => Adv c r.2.1 ∧ (r.2.1.2.2.1 = false → 0 ≤ r.1 ∧ r.1 ≤ 1000000000 ∧
  ∀ m rest, c.1.data.toList.drop (Int.toNat c.2.1) = enc m ++ rest → r.1 = (m : Int) ∧ r.2.1.2.1 = c.2.1 + ((enc m).length : Int)) := by
 rw [ZiH];refine Zc (Zs6 c.1 hs c.2.1) fun y hy => Yp (fun _ => Za ⟨⟨rfl, fun h => by cases h⟩, fun h => by cases h⟩) fun hb => Ye (fun _ => Za ⟨⟨rfl, fun h => by cases h⟩, fun h => by cases h⟩) fun ho => ?_;obtain ⟨g1, g2, g3, g4, g5, g6⟩ := hy ho;exact Za ⟨⟨rfl, fun h => ⟨hb, g1, g2, g3⟩⟩, fun h => ⟨g4, g5, g6⟩⟩
theorem Zxm (c : XS) (hs : ByteArray.size c.1 ≤ 1000000) : Ok (Lq big c) fun r => Adv c r.2.1 ∧ (r.2.1.2.2.1 = false → 0 ≤ r.1.2.1) := by
 rw [ZlH];refine Zc (DB c hs) fun y hy => Zc (DB y.2.1 (by rw [hy.1.1]; exact hs)) fun y1 hy1 => ?_;have h1 := hy.1.trans hy1.1;refine Zc (DB y1.2.1 (by rw [h1.1]; exact hs)) fun y2 hy2 => ?_;have h2 := h1.trans hy2.1;exact Zc (DB y2.2.1 (by rw [h2.1]; exact hs)) fun y3 hy3 => Za ⟨h2.trans hy3.1, fun e => (hy1.2 (hy2.1.2 (hy3.1.2 e).1).1).1⟩
theorem Zv7 (c : XS) (hs : ByteArray.size c.1 ≤ 1000000) : Ok (HE big c) fun r => Adv c r.2.1 := by
 rw [Zej];refine Zc (DB c hs) fun y hy => Zc (DB y.2.1 (by rw [hy.1.1]; exact hs)) fun y1 hy1 => ?_;have h1 := hy.1.trans hy1.1;refine Zc (DB y1.2.1 (by rw [h1.1]; exact hs)) fun y2 hy2 => ?_;have h2 := h1.trans hy2.1;exact Zc (DB y2.2.1 (by rw [h2.1]; exact hs)) fun y3 hy3 => Za (h2.trans hy3.1)
theorem Zv8 (t u : ByteArray) (hu : u.size ≤ 20000) (s8 : Int) (c0 : Int) (c1 : Int) (c2 : Int) (c3 : Int) (c4 : Int) (c5 : Int) (c6 : Int) (c7 : Int) (c8 : Int) (c9 : Int) (c10 : Int) (c11 : Int) (c12 : Int) (c13 : Int) (c14 : List Int) (c15 : List ZM) (c16 : List Int) (c17 : List Yg) (c18 : List Z4) (c19 : List Zz) (c20 : Int) (b0 : Int) (b1 : Int) (b2 : Int) (b3 : Int) (b4 : Int) (b5 : Int) (b6 : Int) (b7 : Int) (b8 : Int) (b9 : Int) (b10 : Int) (b11 : Int) (b12 : Int) (b13 : Int) (b14 : List Int) (b15 : List ZM) (b16 : List Int) (b17 : List Yg) (b18 : List Z4) (b19 : List Zz) (b20 : Int) : ∀ (m n : Nat) (i : Int) (q : XS) (row : List Int), q.1 = u →
  (q.2.2.1 = false → 0 ≤ q.2.1 ∧ q.2.1 ≤ u.size ∧ (u.size : Int) + 1 ≤ q.2.1 + m ∧ (row.length : Int) ≤ q.2.1) → row.length ≤ 20001 → m < n →
  Ok (UH n t s8 i c0 c1 c2 c3 c4 c5 c6 c7 c8 c9 c10 c11 c12 c13 c14 c15 c16 c17 c18 c19 c20 q.1 q.2.1 q.2.2.1 b0 b1 b2 b3 b4 b5 b6 b7 b8 b9 b10 b11 b12 b13 row b15 b16 b17 b18 b19 b20) fun r => r.2.1 = true → q.2.2.1 = false ∧
   ∃ row' : List Int, row'.length ≤ 20001 ∧ r.1 = (b0, b1, (b2, b3, b4, b5, ()), (b6, b7, b8, b9, ()), (b10, b11, b12, b13, ()), row', b15, b16, b17, b18, b19, b20, ()) := by
 have fin : ∀ (n : Nat) (i : Int) (q : XS) (row : List Int), row.length ≤ 20001 → Ok (bif q.2.2.1 then some (((0 : Int), (0 : Int), ((0 : Int), (0 : Int), (0 : Int), (0 : Int), PUnit.unit), ((0 : Int), (0 : Int), (0 : Int), (0 : Int), PUnit.unit), ((0 : Int), (0 : Int), (0 : Int), (0 : Int), PUnit.unit), ([] : List Int), ([] : List ZM), ([] : List Int), ([] : List Yg), ([] : List Z4), ([] : List Zz), (0 : Int), PUnit.unit), false, PUnit.unit) else (QX big (b0, b1, (b2, b3, b4, b5, ()), (b6, b7, b8, b9, ()), (b10, b11, b12, b13, ()), row, b15, b16, b17, b18, b19, b20, ())).bind fun y => bif !decide (y = t) then some (((0 : Int), (0 : Int), ((0 : Int), (0 : Int), (0 : Int), (0 : Int), PUnit.unit), ((0 : Int), (0 : Int), (0 : Int), (0 : Int), PUnit.unit), ((0 : Int), (0 : Int), (0 : Int), (0 : Int), PUnit.unit), ([] : List Int), ([] : List ZM), ([] : List Int), ([] : List Yg), ([] : List Z4), ([] : List Zz), (0 : Int), PUnit.unit), false, PUnit.unit) else some ((b0, b1, (b2, b3, b4, b5, PUnit.unit), (b6, b7, b8, b9, PUnit.unit), (b10, b11, b12, b13, PUnit.unit), row, b15, b16, b17, b18, b19, b20, PUnit.unit), true, PUnit.unit))
   (fun r : Zo × Bool × Unit => r.2.1 = true → q.2.2.1 = false ∧ ∃ row' : List Int, row'.length ≤ 20001 ∧ r.1 = (b0, b1, (b2, b3, b4, b5, ()), (b6, b7, b8, b9, ()), (b10, b11, b12, b13, ()), row', b15, b16, b17, b18, b19, b20, ())) := fun n i q row hr =>
  Yp (fun _ => Za (fun h => by cases h)) fun hb => Zc (ZgO _ (by show row.length ≤ _; omega)) fun y _ => YO (fun _ => Za (fun h => by cases h)) fun _ => Za fun _ => ⟨hb, row, hr, rfl⟩
 intro m
 induction m with
 | zero =>
  intro n i q row hq h1 h2 h3;obtain ⟨n, rfl⟩ : ∃ m, n = m + 1 := ⟨n - 1, by omega⟩
  rw [AE];simp only [XM];refine Zk (fun _ => Ye (fun hb => ?_) fun _ => fin n i q row h2) fun _ => fin n i q row h2;have := h1 hb;omega
 | succ m ih =>
  intro n i q row hq h1 h2 h3;obtain ⟨n, rfl⟩ : ∃ m, n = m + 1 := ⟨n - 1, by omega⟩
  rw [AE];simp only [XM];refine Zk (fun _ => Ye (fun hb => ?_) fun _ => fin n i q row h2) fun _ => fin n i q row h2;obtain ⟨g1, g2, g3, g4⟩ := h1 hb;refine Zc (DB (q.1, q.2.1, q.2.2.1, ()) (by show ByteArray.size q.1 ≤ _; rw [hq]; omega)) fun y hy => ZA (by unfold lim; omega) ?_;obtain ⟨⟨hy1, hy2⟩, _⟩ := hy;refine VN (ih n _ y.2.1 (List.append row [y.1]) (hy1.trans hq) (fun e => ?_) (by rw [Xr]; omega) (by omega)) fun r hr h => ⟨hb, (hr h).2⟩
  obtain ⟨k1, k2, k3, k4⟩ := hy2 e;have k3 : q.2.1 < y.2.1.2.1 := k3;have k4 : y.2.1.2.1 ≤ (ByteArray.size q.1 : Int) := k4;rw [hq] at k4;rw [Xr];exact ⟨by omega, k4, by omega, by omega⟩
theorem Zq6 (t : ByteArray) (ht : t.size ≤ 1000000) : Ok (Ev big t) fun r => r.2.1 = true → 4 ≤ t.size ∧ (∀ a b e, t.extract 0 (t.size - 4) = bL (enc a) ++ bL (enc b) ++ e → r.1.1 = (a : Int) ∧ r.1.2.1 = (b : Int)) ∧
  List.length r.1.2.2.2.2.2.1 ≤ 20001 ∧ r.1.2.2.2.2.2.2 = ([], [], [], [], [], 0, ()) ∧ 0 ≤ r.1.2.2.1.2.1 ∧ 0 ≤ r.1.2.2.2.1.2.1 := by
 rw [Zbc];refine Zc (Zq5 t ht) fun u hu => ?_;refine Zc (DB (u.1, 0, !u.2.1, ()) (by show ByteArray.size u.1 ≤ _; have := hu.1; omega)) fun y hy => ?_;have hs : ByteArray.size u.1 ≤ 1000000 := by have := hu.1; omega
 refine Zc (DB y.2.1 (by rw [hy.1.1]; exact hs)) fun y1 hy1 => ?_;have h1 := hy.1.trans hy1.1;refine Zc (Zxm y1.2.1 (by rw [h1.1]; exact hs)) fun y2 hy2 => ?_;have h2 := h1.trans hy2.1;refine Zc (Zxm y2.2.1 (by rw [h2.1]; exact hs)) fun y3 hy3 => ?_;have h3 := h2.trans hy3.1;refine Zc (Zv7 y3.2.1 (by rw [h3.1]; exact hs)) fun y4 hy4 => ?_;have h4 := h3.trans hy4;refine Zc (DB y4.2.1 (by rw [h4.1]; exact hs)) fun y5 hy5 => ?_;have h5 := h4.trans hy5.1;refine VN (Zv8 t u.1 hu.1 y5.1 _ _ _ _ _ _ _ _ _ _ _ _ _ _ _ _ _ _ _ _ _ y.1 y1.1 y2.1.1 y2.1.2.1 y2.1.2.2.1 y2.1.2.2.2.1 y3.1.1 y3.1.2.1 y3.1.2.2.1 y3.1.2.2.2.1 y4.1.1 y4.1.2.1 y4.1.2.2.1 y4.1.2.2.2.1 [] [] [] [] [] [] 0 (ByteArray.size u.1 + 1) big 0 y5.2.1 [] h5.1 (fun e => ?_) (by decide) (by unfold big; omega)) fun r hr h => ?_
 ·obtain ⟨k1, k2, k3, k4⟩ := h5.2 e
  have k3 : (0 : Int) < y5.2.1.2.1 := k3;exact ⟨by omega, k4, by omega, by show (0 : Int) ≤ _; omega⟩
 ·obtain ⟨hb, row, hrow, e⟩ := hr h
  have b4 := (hy5.1.2 hb).1;have b3 := (hy4.2 b4).1;have b2 := (hy3.1.2 b3).1;have b1 := (hy2.1.2 b2).1;have b0 := (hy1.1.2 b1).1;have bu := (hy.1.2 b0).1;have bu' : u.2.1 = true := by
   cases hc : u.2.1 with
   | true => rfl
   | false => rw [show ((u.1, (0 : Int), !u.2.1, ()) : XS).2.2.1 = !u.2.1 from rfl, hc] at bu; cases bu
  obtain ⟨q1, q2⟩ := hu.2 bu';rw [e];refine ⟨q1, fun a b f hf => ?_, hrow, rfl, hy2.2 b2, hy3.2 b3⟩;have hd : u.1.data.toList = enc a ++ (enc b ++ f.data.toList) := by
   rw [q2, hf];simp only [ByteArray.data_append, Array.toList_append, bL, List.append_assoc]
  obtain ⟨_, _, z1⟩ := hy.2 b0;obtain ⟨z2, z3⟩ := z1 a (enc b ++ f.data.toList) hd;obtain ⟨_, _, w1⟩ := hy1.2 b1;have hy11 : y.2.1.1 = u.1 := hy.1.1;have z3 : y.2.1.2.1 = 0 + ((enc a).length : Int) := z3;obtain ⟨w2, _⟩ := w1 b f.data.toList (by
   rw [hy11, z3, hd, show (0 + ((enc a).length : Int)).toNat = (enc a).length by omega, List.drop_left])
  exact ⟨z2, w2⟩
theorem Zuu {B : Nat} {V : Int} (h0 : 30000 ≤ B) (hB : B ≤ 100000000) {t : List Zy} (ht : X5 t) {p : Zo} (h : YQ B V p) (hi : 0 ≤ p.1 ∧ p.1 ≤ 1000) : Ok (Na big t p) fun r => YQ B V r ∧ r.1 = p.1 := by
 have hv := h.view;have hto := h.top;rw [ZiK];refine Zc (ZgO p (Nat.le_trans h.row hB)) fun y hy => Zc (Zq6 y (by have := hy.1; omega)) fun z hz => Ye (fun _ => Za ⟨⟨Nat.zero_le _, ⟨Nat.zero_le _, fun c hc => by cases hc⟩, Nat.zero_le _, ⟨Nat.zero_le _, fun c hc => by cases hc⟩, Nat.zero_le _, Nat.zero_le _, by have := h.top; show (1 : Int) ≤ 1 ∧ (1 : Int) ≤ V; omega, h.top, ⟨Int.le_refl 0, Int.le_refl 0⟩⟩, rfl⟩) fun ho => ?_;obtain ⟨g1, g2, g3, g4, g5⟩ := hz ho;obtain ⟨e, he⟩ := hy.2 g1 hi (by omega);obtain ⟨k1, k2⟩ := g2 _ _ _ he;refine Zc (Zq1 ht (by omega)) fun cs hcs => Za ⟨⟨?_, hcs, ?_, ⟨?_, ?_⟩, ?_, ?_, ?_, h.top, g5⟩, ?_⟩
 ·show List.length z.1.2.2.2.2.2.1 ≤ B; omega
 ·show List.length z.1.2.2.2.2.2.2.2.1 ≤ 60; rw [g4]; exact Nat.zero_le _
 ·show List.length z.1.2.2.2.2.2.2.2.2.1 ≤ 240; rw [g4]; exact Nat.zero_le _
 ·show ∀ c ∈ z.1.2.2.2.2.2.2.2.2.1, _; rw [g4]; exact fun c hc => by cases hc
 ·show List.length z.1.2.2.2.2.2.2.2.2.2.1 ≤ B; rw [g4]; exact Nat.zero_le _
 ·show List.length z.1.2.2.2.2.2.2.2.2.2.2.1 ≤ B; rw [g4]; exact Nat.zero_le _
 ·show 1 ≤ z.1.2.1 ∧ z.1.2.1 ≤ V; rw [k2]; omega
 ·show z.1.1 = p.1; rw [k1]; omega
theorem Zs7 {x : Zp} (ht : X5 x.2.2.2.1) {V : Int} (hv : 0 ≤ V) (hx : ∀ b ∈ x.2.2.2.1, b.2.1 ≤ V) (a b c k : Int) : Ok (Ht big x a b c k) fun r => 0 ≤ r.2.2.2.1 ∧ r.2.2.2.1 ≤ V := by
 have hlo := ht.lo; have hhi := ht.hi;rw [ZdL, Mt, Option.bind_some, ZI (n := (↑(List.length x.2.2.2.1) : Int) - 1) (by omega) (by omega)];refine Yp (fun h => ?_) fun _ => Za ⟨Int.le_refl 0, hv⟩;simp only [Bool.and_eq_true, decide_eq_true_eq] at h;exact ZA h.1 (ZW (by omega) fun y hy => Za ⟨(ht.view y hy).1, hx y hy⟩)
theorem Zq7 {S : Nat} (hS : S ≤ 1000000000) (n0 : Int) (ch : Bool) (li : Int) (tr : List Zy) (ps : List Zo) (ne : List Zz) (sa : List Z4) (pe : List Xf) (s1 s2 s8 z0 z1 z2 z3 : Int) :
  ∀ (m n : Nat) (i : Int) (l : List Z4), 0 ≤ i → i ≤ 7 → (7 : Int) ≤ i + m → m < n → (l.length : Int) ≤ S + i → Ok (JK n s1 s2 s8 l i n0 ch li tr ps ne sa pe z0 z1 z2 z3) fun r => r.1.2.1 = 0 ∨ r.1.2.1 = s8 := by
 intro m
 induction m with
 | zero =>
  intro n i l h0 h1 h2 h3 h4;obtain ⟨n, rfl⟩ : ∃ m, n = m + 1 := ⟨n - 1, by omega⟩
  rw [GD];exact Zk (fun _ => Zk (fun h => by omega) fun _ => Zc (ZmA l (by omega) _ _ _ _) fun _ hq => Za hq) fun _ => Zc (ZmA l (by omega) _ _ _ _) fun _ hq => Za hq
 | succ m ih =>
  intro n i l h0 h1 h2 h3 h4;obtain ⟨n, rfl⟩ : ∃ m, n = m + 1 := ⟨n - 1, by omega⟩
  rw [GD];refine Zk (fun _ => Zk (fun h => ?_) fun _ => Zc (ZmA l (by omega) _ _ _ _) fun _ hq => Za hq) fun _ => Zc (ZmA l (by omega) _ _ _ _) fun _ hq => Za hq;rw [ZI (n := i + 1) (by omega) (by omega)];exact Zc (Zcv _ _) fun _ _ => Yp (fun _ => ZA (by simp only [List.length_singleton]; unfold lim; omega) (ih n (i + 1) _ (by omega) (by omega) (by omega) (by omega) (by rw [Xr]; omega))) fun _ => ih n (i + 1) _ (by omega) (by omega) (by omega) (by omega) (by omega)
theorem ZcA {B S : Nat} {V : Int} (hS : S ≤ 1000000000) {x : Zp} (h : ClI B S V x) (hv : 0 ≤ V) (a k : Int) : Ok (JJ big x a k) fun r => 0 ≤ r.1.2.1 ∧ r.1.2.1 ≤ V := by
 have ht := h.tree;have hlo := ht.lo; have hhi := ht.hi;have hsa := h.said;rw [ZlL, Mt, Option.bind_some, ZI (n := (↑(List.length x.2.2.2.1) : Int) - 1) (by omega) (by omega)];refine Ye (fun _ => Za ⟨Int.le_refl 0, hv⟩) fun hk => ?_;simp only [Bool.and_eq_true, decide_eq_true_eq] at hk;refine ZA (by omega) (ZW (by omega) fun y hy => ZA (by unfold lim; omega) (VN (Zq7 hS _ _ _ _ _ _ _ _ _ _ _ _ _ _ _ 7 big 0 _ (by omega) (by omega) (by omega) (by unfold big; omega) (by omega)) fun r hr => ?_));have h1 := (ht.view y hy).1;have h2 := h.tv y hy;omega
theorem Zs8 {B S : Nat} {V : Int} (hS : S ≤ 1000000000) {x : Zp} (h : ClI B S V x) (l : Zz) : Ok (HF big x l) fun _ => True := by
 have hsa := h.said;rw [Zem];exact Zc (FM h.tree _ _) fun _ _ => Ye (fun _ => Za trivial) fun _ => Zc (Zcv _ _) fun _ _ => Ye (fun _ => Za trivial) fun _ => Zc (Zpu _ (by omega) _ _) fun _ _ => Ye (fun _ => Za trivial) fun _ => YO (fun _ => Za trivial) fun _ => Zc (Zcv _ _) fun _ _ => Za trivial
theorem ZpC {B S : Nat} {V : Int} (hS : S ≤ 1000000000) {x : Zp} (h : ClI B S V x) (l : Zz) (hl : 0 ≤ l.2.2.2.1 ∧ l.2.2.2.1 ≤ V) : Ok (XX big x l) fun r => ClI B S V r.2.1 := by
 rw [Zeo];exact Zc (Zs8 hS h l) fun _ _ => Ye (fun _ => Za h) fun _ => Zc (ZmF h _ (by simp only [List.length_singleton]; omega) (ZmE hl)) fun y hy => Za hy
theorem Zs9 (x : Zp) (k : Int) : Ok (AF big x k) fun _ => True := by
 rw [Zbl];exact Yp (fun _ => Za trivial) fun _ => Za trivial
theorem Zjq (l : List Zo) (hl : l.length ≤ 1000) {V : Int} (hv : ∀ p ∈ l, 0 ≤ p.2.1 ∧ p.2.1 ≤ V) : ∀ (m n : Nat) (a i : Int), 0 ≤ i → i ≤ l.length → (l.length : Int) ≤ i + m → m < n → (0 ≤ a ∧ a ≤ V) → Ok (XT n l a i) fun r => 0 ≤ r ∧ r ≤ V
 | m, 0, a, i, _, _, _, h, _ => by omega
 | 0, n + 1, a, i, h0, h1, h2, h3, h4 => by
  rw [QY];exact Zk (fun h => by omega) fun _ => Za h4
 | m + 1, n + 1, a, i, h0, h1, h2, h3, h4 => by
  rw [QY, ZI (n := i + 1) (by omega) (by omega)];exact Zk (fun hi => ZA h0 (ZW (by omega) fun y _ => Zk (fun _ => ZA h0 (ZW (by omega) fun z hz => Zjq l hl hv m n _ (i + 1) (by omega) (by omega) (by omega) (by omega) (hv z hz))) fun _ => Zjq l hl hv m n _ (i + 1) (by omega) (by omega) (by omega) (by omega) h4)) fun _ => Za h4
theorem Zq8 (l : List Zo) (hl : l.length ≤ 1000) {V : Int} (h0 : 0 ≤ V) (hv : ∀ p ∈ l, 0 ≤ p.2.1 ∧ p.2.1 ≤ V) : Ok (Q8 big l) fun r => 0 ≤ r ∧ r ≤ V := by
 rw [HJ];exact Zjq l hl hv l.length big 0 0 (by omega) (by omega) (by omega) (by unfold big; omega) ⟨Int.le_refl 0, h0⟩
structure EvI (e : VF) : Prop where
 num : 0 ≤ e.2.2.2.1
 less : e.2.2.2.1 ≤ 29
 key : ByteArray.size e.2.2.2.2.1.2.1 ≤ 1000
theorem AW {B S : Nat} {V : Int} (hS : S ≤ 1000000000) {x : Zp} (h : ClI B S V x) {e : VF} (he : EvI e) (k view : Int) (hvw : 0 ≤ view ∧ view ≤ V) (q : B6) : Ok
  ((W7 big x e.2.1).bind fun y_2 => bif !y_2 then some (false, x, PUnit.unit) else (XV big x.2.2.2.1 x.1 q).bind fun y_3 => bif !y_3 then some (false, x, PUnit.unit) else (VZ big x.2.2.2.2.2.2.1 q x.2.2.1).bind fun y_4 => bif !y_4 then some (false, x, PUnit.unit) else
   (Wh big x.2.2.2.1 (k, view, [e.2.2.2.2.1], q, ())).bind fun y_5 => bif decide (y_5.2.1 < (0 : Int)) then some (false, x, PUnit.unit) else (XX big (x.1, x.2.1, x.2.2.1, y_5.1, x.2.2.2.2) ((1 : Int), e.2.1, e.2.2.1, view, y_5.2.1, q, ((0 : Int), (0 : Int), (0 : Int), (0 : Int), ()), ())).bind fun y =>
   bif !y.1 then some (false, (y.2.1.1, y.2.1.2.1, y.2.1.2.2.1, x.2.2.2.1, y.2.1.2.2.2.2), PUnit.unit) else some (true, y.2))
  fun r : Bool × Zp × Unit => ClI B S V r.2.1 := by
 have hsa := h.said;refine Zc (Zcv _ _) fun _ _ => Ye (fun _ => Za h) fun _ => Zc (Zcy h.tree _ _) fun _ _ => Ye (fun _ => Za h) fun _ => Zc (Zpu _ (by omega) _ _) fun _ _ => Ye (fun _ => Za h) fun _ =>
  Zc (ZgL h.tree (k, view, [e.2.2.2.2.1], q, ()) (fun c hc => by rw [List.mem_singleton.1 hc]; exact he.key) (by show List.length [_] ≤ _; simp only [List.length_singleton]; omega)) fun y5 hy5 => Zk (fun _ => Za h) fun _ => ?_
 have h5 : ClI B S V (x.1, x.2.1, x.2.2.1, y5.1, x.2.2.2.2) := ⟨h.n, hy5.1, h.peers, h.peer, h.net, h.said, h.pend, h.key, h.lv, hy5.2.2.2.2 V h.tv hvw.2⟩
 refine Zc (ZpC hS h5 _ hvw) fun y hy => Ye (fun _ => Za ⟨hy.n, h.tree, hy.peers, hy.peer, hy.net, hy.said, hy.pend, hy.key, hy.lv, h.tv⟩) fun _ => Za hy
set_option maxHeartbeats 4000000 in
theorem Zv9 {B S : Nat} {V : Int} (hS : S ≤ 1000000000) (h30 : 30 ≤ V) (hV : V + 1 ≤ 900) {x : Zp} (h0 : ClI B S V x) {e : VF} (he : EvI e) : Ok (Ew big x e) fun r => ClI B S (V + 1) r.2.1 := by
 have h := h0.up (V' := V + 1) (by omega) hV;have ht := h.tree;have hlo := ht.lo; have hhi := ht.hi;have hp := h.peers;have hm := Zct he.num (show (0 : Int) < (↑(List.length x.2.2.2.1) : Int) by omega);rw [Zbo];refine Dz (by omega) (Zc (Zq8 _ (by omega) (V := V) (by omega) fun p hp => by have := (h0.peer p hp).1.view; omega) fun y hy => ?_);have wy : IntKind.i64.wrap (y + 1) = y + 1 := ZI (by omega) (by omega);refine Zk (fun _ => ZA hm.1 (ZA hm.2 (ZW (by omega) fun z hz => ?_))) fun _ => Yp (fun _ => ?_) fun _ => ?_
 ·have z1 := (ht.view z hz).1
  have z2 := h0.tv z hz;have wz : IntKind.i64.wrap (z.2.1 + 1) = z.2.1 + 1 := ZI (by omega) (by omega);rw [wz];refine Yp (fun _ => ?_) fun _ => ?_
  ·exact Zc (ZcA hS h (by omega) _ _) fun q _ => Ye (fun _ => YO (fun _ => Za h) fun _ => AW hS h he _ _ (by omega) q.1) fun _ => AW hS h he _ _ (by omega) q.1
  ·exact Zc (ZcA hS h (by omega) _ _) fun q _ => Ye (fun _ => YO (fun _ => Za h) fun _ => AW hS h he _ _ (by omega) q.1) fun _ => AW hS h he _ _ (by omega) q.1
 ·rw [wy]
  exact Zc (ZcA hS h (by omega) _ _) fun q _ => Ye (fun _ => YO (fun _ => Za h) fun _ => AW hS h he _ _ (by omega) q.1) fun _ => AW hS h he _ _ (by omega) q.1
 ·rw [wy]
  exact Zc (ZcA hS h (by omega) _ _) fun q _ => Ye (fun _ => YO (fun _ => Za h) fun _ => AW hS h he _ _ (by omega) q.1) fun _ => AW hS h he _ _ (by omega) q.1
theorem Zyq {B S : Nat} {V : Int} (hS : S ≤ 1000000000) (h30 : 30 ≤ V) (hV : V + 1 ≤ 900) {x : Zp} (h0 : ClI B S V x) {e : VF} (he : EvI e) : Ok (Nb big x e) fun r => ClI B S (V + 1) r.2.1 := by
 have h := h0.up (V' := V + 1) (by omega) hV;have ht := h.tree;have hlo := ht.lo; have hhi := ht.hi;have hn := he.num; have hn2 := he.less;have e9 : Int.tmod e.2.2.2.1 900 = e.2.2.2.1 := Int.tmod_eq_of_lt hn (by omega);rw [ZiP, e9, ZI (n := e.2.2.2.1 + 1) (by omega) (by omega)];refine Zk (fun _ => Za h) fun _ => Zc (Zcv _ _) fun _ _ => Ye (fun _ => Za h) fun _ => Dz (by omega) (Zk (fun _ => Zc (Zs9 _ _) fun y _ => Zc (Zs7 ht (by omega) h.tv _ _ _ _) fun z hz => Zc (ZpC hS h z hz) fun w hw => Za hw) fun _ =>
  Zk (fun _ => Zc (Zs9 _ _) fun y _ => Zc (ZcA hS h (by omega) _ _) fun z hz => Ye (fun _ => Za h) fun _ => Zc (ZpC hS h _ hz) fun w hw => Za hw) fun _ =>
  Zk (fun _ => Zc (Zv9 hS h30 hV h0 he) fun w hw => Za hw) fun _ => Zc (ZpC hS h _ ⟨by show 0 ≤ e.2.2.2.1 + 1; omega, by show e.2.2.2.1 + 1 ≤ V + 1; omega⟩) fun w hw => Za hw)
theorem Zu6 {c : ZL} (h : DF c) : Ok (Fr big c) fun r => DF r.2.1 ∧ ByteArray.size r.1.2.1 ≤ 1000 := by
 rw [ZhD];refine Zc (Y0 h 3) fun y hy => ?_;refine Zc (Q := fun r => DF r.2.1 ∧ ByteArray.size r.1 ≤ 1000) ?_ fun y1 hy1 => ?_
 ·rw [ZhB]
  refine Zc (Zxc hy.2.2.2 _ (by decide)) fun z hz => Za ⟨hz.2, ?_⟩;have h1 := hz.1;simp only [List.mem_cons, List.not_mem_nil, or_false] at h1;rcases h1 with h1 | h1 | h1 | h1 <;> rw [h1] <;> decide
 ·exact Zc (JV hy1.1 _ (by decide)) fun z hz => Za ⟨hz.2, hy1.2⟩
theorem ZyT (n : Nat) : XF (n + 8) 0 = some 0 := by
 rw [Vq];simp only [XL]
 kernel_rfl
theorem ZyU (n : Nat) : XF (n + 8) 1 = some 1 := by
 rw [Vq];simp only [XL]
 kernel_rfl
theorem ZyV (n : Nat) : XF (n + 8) 2 = some 1 := by
 rw [Vq];simp only [XL]
 kernel_rfl
theorem ZyW (n : Nat) : XF (n + 8) 8 = some 1 := by
 rw [Vq];simp only [XL]
 kernel_rfl
theorem Zyr {l : Int} (h : l = 0 ∨ l = 8 ∨ l = 1 ∨ l = 2) : ∃ v, XF big l = some v ∧ ¬ (1 : Int) < v := by
 have hb : big = (big - 8) + 8 := by decide
 rw [hb];rcases h with rfl | rfl | rfl | rfl
 ·exact ⟨_, ZyT _, by decide⟩
 ·exact ⟨_, ZyW _, by decide⟩
 ·exact ⟨_, ZyU _, by decide⟩
 ·exact ⟨_, ZyV _, by decide⟩
theorem Zta : BB big 4 = some 1 := by
 rw [IL];rfl
theorem Zuv {V : Int} (hV : 1 ≤ V ∧ V ≤ 900) (i : Int) (h : 0 ≤ i ∧ i ≤ 1000) : Bj 0 V (i, (1 : Int), ((0 : Int), (0 : Int), (0 : Int), (0 : Int), ()), ((0 : Int), (0 : Int), (0 : Int), (0 : Int), ()), ((0 : Int), (0 : Int), (0 : Int), (0 : Int), ()), [], [], [], [], [], [], (0 : Int), ()) :=
 ⟨⟨Nat.le_refl _, ⟨Nat.zero_le _, fun c hc => by cases hc⟩, Nat.zero_le _, ⟨Nat.zero_le _, fun c hc => by cases hc⟩, Nat.le_refl _, Nat.le_refl _, by show (1 : Int) ≤ 1 ∧ (1 : Int) ≤ V; omega, hV.2, ⟨Int.le_refl 0, Int.le_refl 0⟩⟩, h⟩
theorem Zuw : X5 [((-1 : Int), (0 : Int), [], ((0 : Int), (0 : Int), (0 : Int), (0 : Int), ()), ())] :=
 ⟨Nat.le_refl _, by decide, fun b hb => by rw [List.mem_singleton.1 hb]; exact ⟨Nat.zero_le _, fun c hc => by cases hc⟩, fun b hb => by rw [List.mem_singleton.1 hb]; show (0 : Int) ≤ 0 ∧ (0 : Int) ≤ 900; decide, fun b hb => by cases hb; exact ⟨rfl, rfl⟩, fun k b hb hk => by have := C6 hb; simp only [List.length_singleton] at this; omega⟩
theorem Ztb {V : Int} (hV : 1 ≤ V ∧ V ≤ 900) (ch : Bool) (li : Int) : ∀ (m n i : Nat) (ps : List Zo), i ≤ 4 → 4 ≤ i + m → m < n → ps.length = i → (∀ p ∈ ps, Bj 0 V p) →
  Ok (Vy n 4 (i : Int) 0 false 0 [] [] [] [] [] 4 ch li [((-1 : Int), (0 : Int), [], ((0 : Int), (0 : Int), (0 : Int), (0 : Int), PUnit.unit), PUnit.unit)] ps [] [] []) fun r => ClI 0 0 V r.1 := by
 intro m;have fin : ∀ ps : List Zo, ps.length = 4 → (∀ p ∈ ps, Bj 0 V p) → ClI 0 0 V ((4 : Int), ch, li, [((-1 : Int), (0 : Int), [], ((0 : Int), (0 : Int), (0 : Int), (0 : Int), ()), ())], ps, [], [], [], ()) := fun ps h1 h2 =>
  ⟨rfl, Zuw, h1, h2, Nat.zero_le _, Nat.le_refl _, Nat.zero_le _, fun c hc => (by cases hc), DA, fun b hb => by rw [List.mem_singleton.1 hb]; show (0 : Int) ≤ V; omega⟩
 induction m with
 | zero =>
  intro n i ps h0 h1 h2 h3 h4;obtain ⟨n, rfl⟩ : ∃ m, n = m + 1 := ⟨n - 1, by omega⟩
  rw [JC];exact Zk (fun h => by omega) fun _ => Za (fin ps (by omega) h4)
 | succ m ih =>
  intro n i ps h0 h1 h2 h3 h4;obtain ⟨n, rfl⟩ : ∃ m, n = m + 1 := ⟨n - 1, by omega⟩
  rw [JC, ZI (n := (i : Int) + 1) (by omega) (by omega)];refine Zk (fun h => ZA (by unfold lim; omega) ?_) fun _ => Za (fin ps (by omega) h4);have e : (i : Int) + 1 = ((i + 1 : Nat) : Int) := by omega
  rw [e];refine ih n (i + 1) _ (by omega) (by omega) (by omega) (by rw [Xr]; omega) fun p hp => ?_;rcases List.mem_append.1 hp with hp | hp
  ·exact h4 p hp
  ·rw [List.mem_singleton.1 hp]; exact Zuv hV i (by omega)
theorem Zxn {V : Int} (hV : 1 ≤ V ∧ V ≤ 900) (ch : Bool) {l : Int} (h : l = 0 ∨ l = 8 ∨ l = 1 ∨ l = 2) : Ok (Bc big 4 ch l) fun r => ClI 0 0 V r.1 := by
 rw [M0, Mt, Option.bind_some, show (decide ((1 : Int) ≤ 4) && decide ((4 : Int) ≤ 7)) = true from by decide, Bool.not_true, cond_false];refine Dz (Pu 4) ?_;have e : IntKind.i64.wrap (IntKind.i64.wrap ((1 : Int) * (2 : Int) ^ min (IntKind.u64.wrap 4).toNat IntKind.i64.bits) - (1 : Int)) = 15 := by decide
 have e2 : (decide ((0 : Int) ≤ l) && decide (l ≤ 15)) = true := by rcases h with rfl | rfl | rfl | rfl <;> decide
 rw [Mt, e, e2, Option.bind_some, Bool.not_true, cond_false];obtain ⟨v, hv, hv1⟩ := Zyr h;rw [hv, Option.bind_some, Zta, Option.bind_some];refine Zk (fun hc => absurd hc hv1) fun _ => ?_;have := Ztb hV ch l 4 big 0 [] (by decide) (by decide) (by decide) rfl (fun p hp => by cases hp);exact this
def EvR (x : Zp) (r : VF × ZL × (Unit × Unit × Unit × List Zy × List Zo × List Zz × List Z4 × List Xf × Unit) × Unit) : Prop :=
 EvI r.1 ∧ DF r.2.1 ∧ r.2.2.1 = ((), (), (), x.2.2.2.1, x.2.2.2.2.1, x.2.2.2.2.2.1, x.2.2.2.2.2.2.1, x.2.2.2.2.2.2.2.1, ())
theorem Zux (a b c : Int) (n : Int) (hn : 0 ≤ n ∧ n ≤ 29) : EvI (a, b, c, n, ((0 : Int), ByteArray.empty, (0 : Int), ()), ()) := ⟨hn.1, hn.2, by show ByteArray.size ByteArray.empty ≤ 1000; decide⟩
theorem ZyX (x : Zp) (hx : List.length x.2.2.2.2.1 ≤ 1000) (c : ZL) (hc : DF c) (z0 z1 z2 z3 z4 : Int) (z5 : ByteArray) (z6 : Int) : ∀ (m n : Nat) (i : Int), 0 ≤ i → i ≤ List.length x.2.2.2.2.1 → (List.length x.2.2.2.2.1 : Int) ≤ i + m → m < n →
  Ok (WX n i c.1 c.2.1 c.2.2.1 x.2.2.2.1 x.2.2.2.2.1 x.2.2.2.2.2.1 x.2.2.2.2.2.2.1 x.2.2.2.2.2.2.2.1 x.1 x.2.1 x.2.2.1 z0 z1 z2 z3 z4 z5 z6) (EvR x) := by
 have fin : EvR x (((3 : Int), (0 : Int), (0 : Int), (0 : Int), ((0 : Int), ByteArray.empty, (0 : Int), PUnit.unit), PUnit.unit), (c.1, c.2.1, c.2.2.1, PUnit.unit), (PUnit.unit, PUnit.unit, PUnit.unit, x.2.2.2.1, x.2.2.2.2.1, x.2.2.2.2.2.1, x.2.2.2.2.2.2.1, x.2.2.2.2.2.2.2.1, PUnit.unit), PUnit.unit) := ⟨Zux _ _ _ _ (by decide), hc, rfl⟩
 intro m
 induction m with
 | zero =>
  intro n i h0 h1 h2 h3;obtain ⟨n, rfl⟩ : ∃ m, n = m + 1 := ⟨n - 1, by omega⟩
  rw [AG];exact Zk (fun h => by omega) fun _ => Za fin
 | succ m ih =>
  intro n i h0 h1 h2 h3;obtain ⟨n, rfl⟩ : ∃ m, n = m + 1 := ⟨n - 1, by omega⟩
  rw [AG, ZI (n := i + 1) (by omega) (by omega)];refine Zk (fun hi => ?_) fun _ => Za fin;refine Zc (Mu (x.1, x.2.1, x.2.2.1, x.2.2.2.1, x.2.2.2.2.1, x.2.2.2.2.2.1, x.2.2.2.2.2.2.1, x.2.2.2.2.2.2.2.1, ()) i hx) fun b _ => Yp (fun _ => ZA h0 (ZA hi ?_)) fun _ => ih n (i + 1) (by omega) (by omega) (by omega) (by omega);have hin : i.toNat < List.length x.2.2.2.2.1 := by omega
  rw [Z3 hin, Option.bind_some];refine Zc (ZsP _ _ _) fun y _ => GV hin ?_;rw [Iv (Z3 hin)];refine Yp (fun _ => Za ⟨Zux _ _ _ _ (by decide), hc, rfl⟩) fun _ => ih n (i + 1) (by omega) (by omega) (by omega) (by omega)
theorem ev4 (x : Zp) (hx : List.length x.2.2.2.2.1 ≤ 1000) (h4 : x.1 = 4) (c : ZL) (hc : DF c) (s5 : Int) (z0 z1 z2 z3 z4 : Int) (z5 : ByteArray) (z6 : Int) : ∀ (m n : Nat) (s6 i : Int), 0 ≤ i → i ≤ 4 → (4 : Int) ≤ i + m → m + 1001 < n →
  Ok (Vv n s5 s6 i c.1 c.2.1 c.2.2.1 x.2.2.2.1 x.2.2.2.2.1 x.2.2.2.2.2.1 x.2.2.2.2.2.2.1 x.2.2.2.2.2.2.2.1 x.1 x.2.1 x.2.2.1 z0 z1 z2 z3 z4 z5 z6) (EvR x) := by
 intro m;have hc' : DF (c.1, c.2.1, c.2.2.1, ()) := hc
 induction m with
 | zero =>
  intro n s6 i h0 h1 h2 h3;obtain ⟨n, rfl⟩ : ∃ m, n = m + 1 := ⟨n - 1, by omega⟩
  rw [BM];refine Zk (fun h => by omega) fun _ => Zk (fun _ => Zc (Zu6 hc') fun y hy => Za ⟨⟨by show (0 : Int) ≤ 0; decide, by show (0 : Int) ≤ 29; decide, hy.2⟩, hy.1, rfl⟩) fun _ =>
   Zk (fun _ => ZyX x hx c hc _ _ _ _ _ _ _ (List.length x.2.2.2.2.1) n 0 (by omega) (by omega) (by omega) (by omega)) fun _ =>
   Zk (fun _ => Zk (fun _ => Zc (ZsM hc' 3) fun y hy => Yp (fun _ => Zc (Y0 hy _) fun z hz => Za ⟨Zux _ _ _ _ (by decide), hz.2.2.2, rfl⟩) fun _ => Za ⟨Zux _ _ _ _ (by decide), hy, rfl⟩) fun _ => Za ⟨Zux _ _ _ _ (by decide), hc, rfl⟩) fun _ =>
   Zk (fun _ => Zc (JV hc' _ (by decide)) fun y hy => Zc (Y0 hy.2 _) fun z hz => Za ⟨Zux _ _ _ _ (by decide), hz.2.2.2, rfl⟩) fun _ =>
   Zk (fun _ => Zc (Y0 hc' _) fun z hz => Za ⟨Zux _ _ _ _ (by decide), hz.2.2.2, rfl⟩) fun _ =>
   Zk (fun _ => Zc (Y0 hc' _) fun z hz => Za ⟨Zux _ _ _ _ (by decide), hz.2.2.2, rfl⟩) fun _ =>
   Zc (Y0 hc' _) fun y hy => Zc (Y0 hy.2.2.2 _) fun z hz => Zk (fun _ => Zc (Zu6 hz.2.2.2) fun w hw => Za ⟨⟨hy.1, by have := hy.2.1 (by decide); show y.1 ≤ 29; omega, hw.2⟩, hw.1, rfl⟩) fun _ => Zc (JV hz.2.2.2 _ (by decide)) fun w hw => Za ⟨Zux _ _ _ _ ⟨hy.1, by have := hy.2.1 (by decide); omega⟩, hw.2, rfl⟩
 | succ m ih =>
  intro n s6 i h0 h1 h2 h3;rcases Int.lt_or_le i 4 with hi | hi
  ·obtain ⟨n, rfl⟩ : ∃ m, n = m + 1 := ⟨n - 1, by omega⟩
   rw [BM, ZI (n := i + 1) (by omega) (by omega)];refine Zk (fun h => Zc (Zcv _ _) fun _ _ => Yp (fun _ => ih n _ (i + 1) (by omega) (by omega) (by omega) (by omega)) fun _ => ih n _ (i + 1) (by omega) (by omega) (by omega) (by omega)) fun h => by omega
  ·exact ih n s6 i h0 h1 (by omega) (by omega)
theorem Zwa (x : Zp) (hx : List.length x.2.2.2.2.1 ≤ 1000) (h4 : x.1 = 4) (c : ZL) (hc : DF c) : Ok (Ey big c x) (EvR x) := by
 rw [Zbs];exact Zc (Y0 hc 20) fun y hy => ev4 x hx h4 y.2.1 hy.2.2.2 _ _ _ _ _ _ _ _ 4 big 0 0 (by omega) (by omega) (by omega) (by unfold big; omega)
theorem Ztc (b0 : Int) (b1 : Int) (b2 : Int) (b3 : Int) (b4 : Int) (b5 : Int) (b6 : Int) (b7 : Int) (b8 : Int) (b9 : Int) (b10 : Int) (b11 : Int) (b12 : Int) (b13 : Int) (b14 : List Int) (b15 : List ZM) (b16 : List Int) (b17 : List Yg) (b18 : List Z4) (b19 : List Zz) (b20 : Int) (hn : b19.length ≤ 1000000000) (z0 z1 z2 z3 : Int) : ∀ (m n : Nat) (i y0 y1 y2 y3 : Int), 0 ≤ i → i ≤ b19.length → (b19.length : Int) ≤ i + m → m < n →
  Ok (Aa n i b0 b1 b2 b3 b4 b5 b6 b7 b8 b9 b10 b11 b12 b13 b14 b15 b16 b17 b18 b19 b20 z0 z1 z2 z3 y0 y1 y2 y3) fun r => y1 ≤ r.2.1 := by
 intro m
 induction m with
 | zero =>
  intro n i y0 y1 y2 y3 h0 h1 h2 h3;obtain ⟨n, rfl⟩ : ∃ m, n = m + 1 := ⟨n - 1, by omega⟩
  rw [DX];exact Zk (fun h => by omega) fun _ => Za (Int.le_refl _)
 | succ m ih =>
  intro n i y0 y1 y2 y3 h0 h1 h2 h3;obtain ⟨n, rfl⟩ : ∃ m, n = m + 1 := ⟨n - 1, by omega⟩
  rw [DX, ZI (n := i + 1) (by omega) (by omega)];exact Zk (fun hi => ZA h0 (ZW (by omega) fun y _ => Zc (C2 _ _) fun z hz => VN (ih n (i + 1) _ _ _ _ (by omega) (by omega) (by omega) (by omega)) fun r hr => Int.le_trans hz.2 hr)) fun _ => Za (Int.le_refl _)
theorem Zxo {p : Zo} (h : List.length p.2.2.2.2.2.2.2.2.2.2.1 ≤ 1000000000) : Ok (MT big p) fun r => p.2.2.1.2.1 ≤ r.2.1 := by
 rw [ZhM];exact Ztc _ _ _ _ _ _ _ _ _ _ _ _ _ _ _ _ _ _ _ _ _ h _ _ _ _ (List.length p.2.2.2.2.2.2.2.2.2.2.1) big 0 _ _ _ _ (by omega) (by omega) (by omega) (by unfold big; omega)
theorem Zwb {B : Nat} {V : Int} (hB : B ≤ 1000000000) {t : List Zy} (ht : X5 t) {p : Zo} (h : YQ B V p) (l : List Xf) (hl : l.length ≤ 1000) (hk : ∀ c ∈ l, ByteArray.size c.2.1 ≤ 1000) :
  Ok (WT big t p l) fun r => X5 r.1 ∧ YQ B V r.2.1 ∧ r.2.1.1 = p.1 ∧ ((∀ x ∈ t, x.2.1 ≤ V) → ∀ x ∈ r.1, x.2.1 ≤ V) := by
 rw [Zlc];refine Zc (Zxo (Nat.le_trans h.news hB)) fun q hq => Zc (ZgL ht (q.2.2.1, p.2.1, l, q, ()) hk (by show l.length ≤ _; omega)) fun y hy => ?_;rw [E6 hB h, Option.bind_some];have tv : (∀ x ∈ t, x.2.1 ≤ V) → ∀ x ∈ y.1, x.2.1 ≤ V := fun k => hy.2.2.2.2 V k h.view.2;exact Zk (fun _ => Za ⟨hy.1, h, rfl, tv⟩) fun _ => Za ⟨hy.1, ⟨h.row, h.cells, h.early, h.undos, h.votes, h.news, h.view, h.top, ⟨Int.le_trans h.hq.1 hq, h.hq.2⟩⟩, rfl, tv⟩
theorem ZgP {V : Int} (b0 : Int) (b1 : Int) (b2 : Int) (b3 : Int) (b4 : Int) (b5 : Int) (b6 : Int) (b7 : Int) (b8 : Int) (b9 : Int) (b10 : Int) (b11 : Int) (b12 : Int) (b13 : Int) (b14 : List Int) (b15 : List ZM) (b16 : List Int) (b17 : List Yg) (b18 : List Z4) (b19 : List Zz) (b20 : Int) (hb1 : 0 ≤ b1 ∧ b1 ≤ V) (s2 s3 z0 z1 z2 z3 : Int) : ∀ (m n : Nat) (i : Int) (l : List Zz), 0 ≤ i → i ≤ 7 → (7 : Int) ≤ i + m → m < n → (l.length : Int) ≤ i → Lv V l →
  Ok (Uu n s2 s3 l i b0 b1 b2 b3 b4 b5 b6 b7 b8 b9 b10 b11 b12 b13 b14 b15 b16 b17 b18 b19 b20 z0 z1 z2 z3) fun r => List.length r ≤ 7 ∧ Lv V r := by
 intro m
 induction m with
 | zero =>
  intro n i l h0 h1 h2 h3 h4 h5;obtain ⟨n, rfl⟩ : ∃ m, n = m + 1 := ⟨n - 1, by omega⟩
  rw [Db];exact Zk (fun _ => Zk (fun h => by omega) fun _ => Za ⟨by omega, h5⟩) fun _ => Za ⟨by omega, h5⟩
 | succ m ih =>
  intro n i l h0 h1 h2 h3 h4 h5;obtain ⟨n, rfl⟩ : ∃ m, n = m + 1 := ⟨n - 1, by omega⟩
  rw [Db, ZI (n := i + 1) (by omega) (by omega)];exact Zk (fun _ => Zk (fun h => ZA (by simp only [List.length_singleton]; unfold lim; omega) (ih n (i + 1) _ (by omega) (by omega) (by omega) (by omega) (by rw [Xr]; omega) (h5.snoc hb1))) fun _ => Za ⟨by omega, h5⟩) fun _ => Za ⟨by omega, h5⟩
theorem Ztd {V : Int} {t : List Zy} (ht : X5 t) (p : Zo) (hp : 0 ≤ p.2.1 ∧ p.2.1 ≤ V) (k n : Int) : Ok (Hs big t p k n) fun r => List.length r ≤ 7 ∧ Lv V r := by
 have hlo := ht.lo; have hhi := ht.hi;rw [ZdI, Mt, Option.bind_some, ZI (n := (↑(List.length t) : Int) - 1) (by omega) (by omega)];refine Yp (fun h => ?_) fun _ => ZgP _ _ _ _ _ _ _ _ _ _ _ _ _ _ _ _ _ _ _ _ _ hp _ _ _ _ _ _ 7 big 0 [] (by omega) (by omega) (by omega) (by unfold big; omega) (by decide) DA;simp only [Bool.and_eq_true, decide_eq_true_eq] at h;exact ZA h.1 (ZW (by omega) fun y _ => ZgP _ _ _ _ _ _ _ _ _ _ _ _ _ _ _ _ _ _ _ _ _ hp _ _ _ _ _ _ 7 big 0 [] (by omega) (by omega) (by omega) (by unfold big; omega) (by decide) DA)
theorem Zuy {B S : Nat} {V : Int} {x : Zp} (h : ClI B S V x) (i : Int) (hi : 0 ≤ i ∧ i < (List.length x.2.2.2.2.1 : Int)) (k : Int) (hk : 0 ≤ k ∧ k ≤ (List.length x.2.2.2.2.2.2.2.1 : Int)) {t : List Zy} (ht : X5 t) (htv : ∀ b ∈ t, b.2.1 ≤ V) (at_ : Int) (b0 : Int) (b1 : Int) (b2 : Int) (b3 : Int) (b4 : Int) (b5 : Int) (b6 : Int) (b7 : Int) (b8 : Int) (b9 : Int) (b10 : Int) (b11 : Int) (b12 : Int) (b13 : Int) (b14 : List Int) (b15 : List ZM) (b16 : List Int) (b17 : List Yg) (b18 : List Z4) (b19 : List Zz) (b20 : Int) (hp : Bj B V (b0, b1, (b2, b3, b4, b5, ()), (b6, b7, b8, b9, ()), (b10, b11, b12, b13, ()), b14, b15, b16, b17, b18, b19, b20, ())) (n : Nat) (hn : 0 < n) :
  Ok (Yh n i k t at_ x.1 x.2.1 x.2.2.1 x.2.2.2.1 x.2.2.2.2.1 x.2.2.2.2.2.1 x.2.2.2.2.2.2.1 x.2.2.2.2.2.2.2.1 b0 b1 b2 b3 b4 b5 b6 b7 b8 b9 b10 b11 b12 b13 b14 b15 b16 b17 b18 b19 b20) fun r => ClI B S V r.2.1 := by
 obtain ⟨n, rfl⟩ : ∃ m, n = m + 1 := ⟨n - 1, by omega⟩
 have hpe := h.pend;rw [DE];refine Zk (fun _ => Za h) fun _ => ZA hi.1 (ZA hi.2 (ZW (by omega) fun _ _ => ZA hk.1 (ZA hk.2 (ZA (by simp only [List.length_take, List.length_drop]; unfold lim; omega) (Zc (Ztd (V := V) ht _ ⟨by have h9 : 1 ≤ b1 := hp.1.view.1; show 0 ≤ b1; omega, hp.1.view.2⟩ _ _) fun l hl => GV (by omega) ?_)))));have h2 : ClI B S V (x.1, x.2.1, x.2.2.1, t, upd x.2.2.2.2.1 i.toNat (b0, b1, (b2, b3, b4, b5, ()), (b6, b7, b8, b9, ()), (b10, b11, b12, b13, ()), b14, b15, b16, b17, b18, b19, b20, ()), x.2.2.2.2.2.1, x.2.2.2.2.2.2.1, List.take (List.length x.2.2.2.2.2.2.2.1 - k.toNat) (List.drop k.toNat x.2.2.2.2.2.2.2.1), ()) := by
  refine ⟨h.n, ht, ?_, JW hp h.peer, h.net, h.said, ?_, fun c hc => ?_, h.lv, htv⟩
  ·show List.length (upd x.2.2.2.2.1 i.toNat (b0, b1, (b2, b3, b4, b5, ()), (b6, b7, b8, b9, ()), (b10, b11, b12, b13, ()), b14, b15, b16, b17, b18, b19, b20, ())) = 4
   rw [ZU]; exact h.peers
  ·show List.length (List.take (List.length x.2.2.2.2.2.2.2.1 - k.toNat) (List.drop k.toNat x.2.2.2.2.2.2.2.1)) ≤ 8
   simp only [List.length_take, List.length_drop]; omega
  ·exact h.key c (List.mem_of_mem_drop (List.mem_of_mem_take hc))
 exact Zc (ZmF h2 l (by omega) hl.2) fun w hw => Za hw
set_option maxHeartbeats 16000000 in
theorem Zxp {B S : Nat} {V : Int} (hB : B ≤ 1000000000) {x : Zp} (h : ClI B S V x) (i : Int) : Ok (HK big x i) fun r => ClI B S V r.2.1 := by
 have hp : List.length x.2.2.2.2.1 = 4 := h.peers;have hpe := h.pend;have hu : ∀ y, (upd x.2.2.2.2.1 i.toNat y).length = List.length x.2.2.2.2.1 := fun y => ZU _ _ _;rw [Zes];refine Zc (Mu _ _ (by omega)) fun b hb => Ye (fun _ => Za h) fun hb1 => ?_;have hi := hb hb1;refine ZA hi.1 (ZA hi.2 ?_);have hin : i.toNat < List.length x.2.2.2.2.1 := by omega
 have hy := h.peer _ (List.getElem_mem hin);rw [Z3 hin, Option.bind_some];generalize x.2.2.2.2.1[i.toNat] = y0 at hy;refine Zc (ZsP _ _ _) fun y _ => GV hin ?_;have one : ∀ z, Bj B V z → ClI B S V (x.1, x.2.1, x.2.2.1, x.2.2.2.1, upd x.2.2.2.2.1 i.toNat z, x.2.2.2.2.2) := fun z hz =>
  ⟨h.n, h.tree, by show (upd _ _ _).length = 4; rw [hu]; exact hp, JW hz h.peer, h.net, h.said, h.pend, h.key, h.lv, h.tv⟩
 have h1 := one y0 hy;have hl : (upd x.2.2.2.2.1 i.toNat y0).length = 4 := by rw [hu]; exact hp
 refine Ye (fun _ => Za h1) fun _ => Zk (fun _ => Za h1) fun _ => ?_;generalize upd x.2.2.2.2.1 i.toNat y0 = ps at h1 hl;have hi2 : i < (ps.length : Int) := by omega
 have fin : ∀ (k : Int), 0 ≤ k → k ≤ (List.length x.2.2.2.2.2.2.2.1 : Int) → Ok ((nth ps i.toNat).bind fun y_2 => (WT big x.2.2.2.1 y_2 (List.take (k.toNat - (0 : Nat)) (List.drop (0 : Nat) x.2.2.2.2.2.2.2.1))).bind fun y_3 => (DH ps i.toNat y_2).bind fun y =>
   Yh big i k y_3.1 y_3.2.2.1 x.1 x.2.1 x.2.2.1 x.2.2.2.1 y x.2.2.2.2.2.1 x.2.2.2.2.2.2.1 x.2.2.2.2.2.2.2.1 y_3.2.1.1 y_3.2.1.2.1 y_3.2.1.2.2.1.1 y_3.2.1.2.2.1.2.1 y_3.2.1.2.2.1.2.2.1 y_3.2.1.2.2.1.2.2.2.1 y_3.2.1.2.2.2.1.1 y_3.2.1.2.2.2.1.2.1 y_3.2.1.2.2.2.1.2.2.1 y_3.2.1.2.2.2.1.2.2.2.1 y_3.2.1.2.2.2.2.1.1 y_3.2.1.2.2.2.2.1.2.1 y_3.2.1.2.2.2.2.1.2.2.1 y_3.2.1.2.2.2.2.1.2.2.2.1 y_3.2.1.2.2.2.2.2.1 y_3.2.1.2.2.2.2.2.2.1 y_3.2.1.2.2.2.2.2.2.2.1 y_3.2.1.2.2.2.2.2.2.2.2.1 y_3.2.1.2.2.2.2.2.2.2.2.2.1 y_3.2.1.2.2.2.2.2.2.2.2.2.2.1 y_3.2.1.2.2.2.2.2.2.2.2.2.2.2.1)
   fun r : Bool × Zp × Unit => ClI B S V r.2.1 := fun k h0 hk => by
  refine ZW (by omega) fun z hz => Zc (Zwb hB h.tree (h1.peer z hz).1 _ (by simp only [List.length_take, List.length_drop]; omega) fun c hc => h.key c (List.mem_of_mem_drop (List.mem_of_mem_take hc))) fun w hw => GV (by omega) ?_;have h2 : ClI B S V (x.1, x.2.1, x.2.2.1, x.2.2.2.1, upd ps i.toNat z, x.2.2.2.2.2) := ⟨h.n, h.tree, by show (upd _ _ _).length = 4; rw [ZU]; exact hl, JW (h1.peer z hz) h1.peer, h.net, h.said, h.pend, h.key, h.lv, h.tv⟩
  have := Zuy h2 i ⟨hi.1, by show i < ((upd ps i.toNat z).length : Int); rw [ZU]; exact hi2⟩ k ⟨h0, hk⟩ hw.1 (hw.2.2.2 h.tv) w.2.2.1 w.2.1.1 w.2.1.2.1 w.2.1.2.2.1.1 w.2.1.2.2.1.2.1 w.2.1.2.2.1.2.2.1 w.2.1.2.2.1.2.2.2.1 w.2.1.2.2.2.1.1 w.2.1.2.2.2.1.2.1 w.2.1.2.2.2.1.2.2.1 w.2.1.2.2.2.1.2.2.2.1 w.2.1.2.2.2.2.1.1 w.2.1.2.2.2.2.1.2.1 w.2.1.2.2.2.2.1.2.2.1 w.2.1.2.2.2.2.1.2.2.2.1 w.2.1.2.2.2.2.2.1 w.2.1.2.2.2.2.2.2.1 w.2.1.2.2.2.2.2.2.2.1 w.2.1.2.2.2.2.2.2.2.2.1 w.2.1.2.2.2.2.2.2.2.2.2.1 w.2.1.2.2.2.2.2.2.2.2.2.2.1 w.2.1.2.2.2.2.2.2.2.2.2.2.2.1 ((h1.peer z hz).of hw.2.1 hw.2.2.1) big (by decide);exact this
 refine Zk (fun hc => ?_) fun hc => ?_
 ·have := fin 4 (by decide) (by omega)
  have g4 : 0 + (List.take (Int.toNat (4 : Int) - (0 : Nat)) (List.drop (0 : Nat) x.2.2.2.2.2.2.2.1)).length ≤ lim := by simp only [List.length_take, List.length_drop]; unfold lim; omega
  simp only [if_pos hi.1, if_pos hi2, if_pos (show (4 : Int) ≤ (↑(List.length x.2.2.2.2.2.2.2.1) : Int) by omega), if_pos g4, XM];exact this
 ·have := fin (↑(List.length x.2.2.2.2.2.2.2.1) : Int) (by omega) (by omega)
  have g4 : 0 + (List.take (Int.toNat (↑(List.length x.2.2.2.2.2.2.2.1) : Int) - (0 : Nat)) (List.drop (0 : Nat) x.2.2.2.2.2.2.2.1)).length ≤ lim := by simp only [List.length_take, List.length_drop]; unfold lim; omega
  simp only [if_pos hi.1, if_pos hi2, if_pos g4, XM, if_pos (show (0 : Int) ≤ (↑(List.length x.2.2.2.2.2.2.2.1) : Int) by omega), if_pos (Int.le_refl (↑(List.length x.2.2.2.2.2.2.2.1) : Int))];exact this
theorem ZyY {B S : Nat} {V : Int} (h0 : 30000 ≤ B) (hB : B ≤ 100000000) (hS : S ≤ 900000000) (h30 : 30 ≤ V) (hV : V + 1 ≤ 900) {x : Zp} (h : ClI B S V x) {e : VF} (he : EvI e) : Ok (Zbv big x e) fun r => ClI (B + 60) (S + 7) (V + 1) r.2.1 := by
 have hpe := h.pend;have hp : List.length x.2.2.2.2.1 = 4 := h.peers;have up : ∀ {y : Zp}, ClI B S V y → ClI (B + 60) (S + 7) (V + 1) y := fun hy => (hy.up (by omega) hV).mono (by omega) (by omega);have up1 : ∀ {y : Zp}, ClI B S (V + 1) y → ClI (B + 60) (S + 7) (V + 1) y := fun hy => hy.mono (by omega) (by omega);rw [ZlT];simp only [XM];refine Zk (fun _ => Zk (fun _ => Za (up h)) fun hc => ZA (by unfold lim; omega) (ZA (by simp only [List.length_singleton]; unfold lim; omega) (Za ?_))) fun _ => ?_
 ·refine up ⟨h.n, h.tree, h.peers, h.peer, h.net, h.said, ?_, fun c hc => ?_, h.lv, h.tv⟩
  ·show (List.append _ [_]).length ≤ 8
   rw [Xr]; omega
  ·rcases List.mem_append.1 hc with hc | hc
   ·exact h.key c hc
   ·rw [List.mem_singleton.1 hc]; exact he.key
 refine Zk (fun _ => Zc (Zxp (by omega) h _) fun y hy => Za (up hy)) fun _ => Zk (fun _ => Zc (Zv2 (by omega) (by omega) hV h _) fun y hy => Za hy) fun _ => Zk (fun _ => Zc (Zxh h _) fun y hy => Za (up hy.1)) fun _ =>
  Zk (fun _ => Zc (Zv3 h _) fun y hy => Za (up hy)) fun _ => Zk (fun _ => Zc (Zxj (by omega) hV h _) fun y hy => Za (up1 hy)) fun _ => Zk (fun _ => ?_) fun _ => Zc (Zyq (by omega) h30 hV h he) fun y hy => Za (up1 hy)
 refine Zc (Mu _ _ (by omega)) fun b hb => Ye (fun _ => Za (up h)) fun hb1 => ?_;have hi := hb hb1;have hu : ∀ y, (upd x.2.2.2.2.1 (Int.toNat e.2.1) y).length = List.length x.2.2.2.2.1 := fun y => ZU _ _ _;refine ZA hi.1 (ZA hi.2 (ZW (by omega) fun y hy => Zc (Zuu h0 hB h.tree (h.peer y hy).1 (h.peer y hy).2) fun z hz => GV (by omega) (ZA hi.1 (ZA (by rw [hu]; exact hi.2) (ZW (by rw [hu]; omega) fun _ _ => GV (by rw [hu]; omega) (Za (up ?_)))))));exact ⟨h.n, h.tree, by show (upd (upd _ _ _) _ _).length = 4; rw [ZU, hu]; exact hp, JW ((h.peer y hy).of hz.1 hz.2) (JW (h.peer y hy) h.peer), h.net, h.said, h.pend, h.key, h.lv, h.tv⟩
theorem Zuz {most : Int} (hm : 0 < most ∧ most ≤ 26) (z0 : Int) (z1 : Bool) (z2 : Int) (z3 : List Zy) (z4 : List Zo) (z5 : List Zz) (z6 : List Z4) (z7 : List Xf) : ∀ (m n i : Nat) (c : ZL) (x : Zp), i ≤ 30 → 30 ≤ i + m → m < n → DF c → ClI (30000 + 60 * i) (7 * i) (40 + i) x →
  Ok (AI n most (i : Int) c.1 c.2.1 c.2.2.1 z0 z1 z2 z3 z4 z5 z6 z7 x.1 x.2.1 x.2.2.1 x.2.2.2.1 x.2.2.2.2.1 x.2.2.2.2.2.1 x.2.2.2.2.2.2.1 x.2.2.2.2.2.2.2.1) fun r => ClI 40000 1000 100 r.1 ∧ DF r.2.1 := by
 intro m
 induction m with
 | zero =>
  intro n i c x h0 h1 h2 hc hx;obtain ⟨n, rfl⟩ : ∃ m, n = m + 1 := ⟨n - 1, by omega⟩
  rw [Ez];refine Zc (Y0 (c := (c.1, c.2.1, c.2.2.1, ())) hc most) fun y hy => ?_;have h26 := hy.2.1 hm.1;rw [ZI (n := 4 + y.1) (by omega) (by omega)];exact Zk (fun h => by omega) fun _ => Za ⟨(hx.up (by omega) (by decide)).mono (by omega) (by omega), hy.2.2.2⟩
 | succ m ih =>
  intro n i c x h0 h1 h2 hc hx;obtain ⟨n, rfl⟩ : ∃ m, n = m + 1 := ⟨n - 1, by omega⟩
  rw [Ez];refine Zc (Y0 (c := (c.1, c.2.1, c.2.2.1, ())) hc most) fun y hy => ?_;have h26 := hy.2.1 hm.1;have hp : List.length x.2.2.2.2.1 = 4 := hx.peers;rw [ZI (n := 4 + y.1) (by omega) (by omega), ZI (n := (i : Int) + 1) (by omega) (by omega)];refine Zk (fun h => ?_) fun _ => Za ⟨(hx.up (by omega) (by decide)).mono (by omega) (by omega), hy.2.2.2⟩;refine Zc (Zwa (x.1, x.2.1, x.2.2.1, x.2.2.2.1, x.2.2.2.2.1, x.2.2.2.2.2.1, x.2.2.2.2.2.2.1, x.2.2.2.2.2.2.2.1, ()) (by show List.length x.2.2.2.2.1 ≤ 1000; omega) hx.n y.2.1 hy.2.2.2) fun z hz => ?_;obtain ⟨e1, e2, e3⟩ := hz;rw [e3];refine Zc (ZyY (by omega) (by omega) (by omega) (by omega) (by omega) (x := x) hx e1) fun w hw => ?_;have e : (i : Int) + 1 = ((i + 1 : Nat) : Int) := by omega
  rw [e];exact ih n (i + 1) z.2.1 w.2.1 (by omega) (by omega) (by omega) e2 ((hw.up (by omega) (by omega)).mono (by omega) (by omega))
theorem Zys {c : ZL} (hc : DF c) {most : Int} (hm : 0 < most ∧ most ≤ 26) : Ok (Nc big c most) fun r => ClI 40000 1000 100 r.1 ∧ DF r.2.1 := by
 rw [ZiS];refine Zc (ZsM hc 2) fun y hy => Zc (JV hy _ (by decide)) fun z hz => ?_;have hl : z.1 = 0 ∨ z.1 = 8 ∨ z.1 = 1 ∨ z.1 = 2 := by
  have h1 := hz.1;simp only [List.mem_cons, List.not_mem_nil, or_false] at h1;omega
 refine Zc (Zxn (V := 40) (by decide) y.1 hl) fun w hw => ?_;exact Zuz hm _ _ _ _ _ _ _ _ 30 big 0 z.2.1 w.1 (by decide) (by decide) (by decide) hz.2 (hw.mono (by decide) (by decide))
theorem Zxq {c : ZL} (hc : DF c) : Ok (HM big c) fun r => X5 r.1.1 ∧ Bj 40000 100 r.1.2.1 ∧ DF r.2.1 := by
 rw [Zev];refine Zc (Zys hc (by decide)) fun y hy => ?_;simp only [XM];have hp : List.length y.1.2.2.2.2.1 = 4 := hy.1.peers;refine Zc (Y0 hy.2 _) fun z hz => ?_;have := hz.2.1 (by omega);exact ZA hz.1 (ZA this (ZW (by omega) fun w hw => Za ⟨hy.1.tree, hy.1.peer w hw, hz.2.2.2⟩))
theorem ZpD {c : ZL} (hc : DF c) {t : List Zy} (ht : X5 t) : Ok (JL big c t) fun r => DF r.2.1 ∧ r.2.2.1 = t ∧ 0 ≤ r.1.2.1 := by
 have hlo := ht.lo; have hhi := ht.hi;rw [GG];refine Zc (Y0 hc 4) fun y hy => Zc (Y0 hy.2.2.2 4) fun z hz => Zc (Y0 hz.2.2.2 _) fun w hw => ?_;have := hw.2.1 (by omega);exact ZA hw.1 (ZA this (ZW (by omega) fun v hv => Za ⟨hw.2.2.2, rfl, (ht.view v hv).1⟩))
theorem Zu7 {c : ZL} (hc : DF c) {t : List Zy} (ht : X5 t) : Ok (BN big c t) fun r => DF r.2.1 ∧ r.2.2.1 = t ∧ 0 ≤ r.1.2.1 := by
 rw [O9];refine Zc (Y0 hc 10) fun y hy => Zc (Y0 hy.2.2.2 60) fun z hz => Zc (ZpD hz.2.2.2 ht) fun w hw => Zc (JV hw.1 _ (by decide)) fun v hv => ?_;have hm := Zct hz.1 (show (0 : Int) < 5 by decide);exact Zk (fun _ => Za ⟨hv.2, hw.2.1, Int.le_refl 0⟩) fun _ => Zk (fun _ => ZA hm.1 (ZA hm.2 (ZW (by show (Int.tmod z.1 5).toNat < 5; omega) fun _ _ => Za ⟨hv.2, hw.2⟩))) fun _ => Zk (fun _ => Za ⟨hv.2, hw.2.1, hz.1⟩) fun _ => Zk (fun _ => Za ⟨hv.2, hw.2⟩) fun _ => Za ⟨hv.2, hw.2⟩
theorem Zwc {c : ZL} (hc : DF c) {t : List Zy} (ht : X5 t) : Ok (Nd big c t) fun r => DF r.2.1 ∧ r.2.2.1 = t := by
 rw [ZiV];exact Zc (Y0 hc 10) fun y hy => Zc (Y0 hy.2.2.2 60) fun z hz => Zc (ZpD hz.2.2.2 ht) fun w hw => Zk (fun _ => Za ⟨hw.1, hw.2.1⟩) fun _ => Zk (fun _ => Za ⟨hw.1, hw.2.1⟩) fun _ => Zk (fun _ => Za ⟨hw.1, hw.2.1⟩) fun _ => Zk (fun _ => Za ⟨hw.1, hw.2.1⟩) fun _ => Za ⟨hw.1, hw.2.1⟩
structure Zot (p : Zo) : Prop where
 row : List.length p.2.2.2.2.2.1 ≤ 40001
 cells : Xj p.2.2.2.2.2.2.1
 early : List.length p.2.2.2.2.2.2.2.1 ≤ 61
 undos : Zpv p.2.2.2.2.2.2.2.2.1
 votes : List.length p.2.2.2.2.2.2.2.2.2.1 ≤ 40000
 news : List.length p.2.2.2.2.2.2.2.2.2.2.1 ≤ 40000
 view : 0 ≤ p.2.1 ∧ p.2.1 ≤ 900
 hq : 0 ≤ p.2.2.1.2.1 ∧ 0 ≤ p.2.2.2.1.2.1
theorem Zot.lens {p : Zo} (h : Zot p) : List.length p.2.2.2.2.2.1 ≤ 16777216 ∧ List.length p.2.2.2.2.2.2.1 ≤ 16777216 ∧ List.length p.2.2.2.2.2.2.2.1 ≤ 16777216 ∧ List.length p.2.2.2.2.2.2.2.2.1 ≤ 16777216 ∧ List.length p.2.2.2.2.2.2.2.2.2.1 ≤ 16777216 ∧ List.length p.2.2.2.2.2.2.2.2.2.2.1 ≤ 16777216 :=
 ⟨Nat.le_trans h.row (by decide), Nat.le_trans h.cells.len (by decide), Nat.le_trans h.early (by decide), Nat.le_trans h.undos.len (by decide), Nat.le_trans h.votes (by decide), Nat.le_trans h.news (by decide)⟩
theorem YQ.a {p : Zo} (h : YQ 40000 100 p) : Zot p := ⟨Nat.le_trans h.row (by decide), h.cells, Nat.le_trans h.early (by decide), h.undos, h.votes, h.news, by have := h.view; have := h.top; omega, h.hq⟩
theorem Zte {c : ZL} (hc : DF c) : Ok (FI big c) fun r => X5 r.1.1 ∧ Zot r.1.2.1 ∧ DF r.2.1 := by
 rw [ZiX];refine Zc (Y0 hc 14) fun y hy => Zc (Y0 hy.2.2.2 60) fun z hz => Zc (Zxq hz.2.2.2) fun w hw => ?_;obtain ⟨ht, hp, hcu⟩ := hw;rw [E6 (by decide) hp.1, Option.bind_some];have h := hp.1.a;have hr := hp.1.row;have he := hp.1.early;have h60 := hz.2.1 (by decide);refine Zk (fun _ => Za ⟨ht, ⟨h.row, h.cells, h.early, h.undos, h.votes, h.news, h.view, h.hq⟩, hcu⟩) fun _ => Zk (fun _ => Za ⟨ht, ⟨h.row, h.cells, h.early, h.undos, h.votes, h.news, ?_, h.hq⟩, hcu⟩) fun _ =>
  Zk (fun _ => Zc (Zu7 hcu ht) fun v hv => Za ⟨by rw [hv.2.1]; exact ht, ⟨h.row, h.cells, h.early, h.undos, h.votes, h.news, h.view, ⟨hv.2.2, h.hq.2⟩⟩, hv.1⟩) fun _ =>
  Zk (fun _ => Zc (Zu7 hcu ht) fun v hv => Za ⟨by rw [hv.2.1]; exact ht, ⟨h.row, h.cells, h.early, h.undos, h.votes, h.news, h.view, ⟨h.hq.1, hv.2.2⟩⟩, hv.1⟩) fun _ =>
  Zk (fun _ => Zc (Zwc hcu ht) fun v hv => Za ⟨by rw [hv.2]; exact ht, ⟨h.row, h.cells, h.early, h.undos, h.votes, h.news, h.view, h.hq⟩, hv.1⟩) fun _ =>
  Zk (fun _ => ZA (by unfold lim; omega) (Za ⟨ht, ⟨?_, h.cells, h.early, h.undos, h.votes, h.news, h.view, h.hq⟩, hcu⟩)) fun _ =>
  Zk (fun _ => ZA (by unfold lim; omega) (Za ⟨ht, ⟨h.row, h.cells, ?_, h.undos, h.votes, h.news, h.view, h.hq⟩, hcu⟩)) fun _ => Za ⟨ht, h, hcu⟩
 ·show 0 ≤ z.1 ∧ z.1 ≤ 900; omega
 ·show (List.append _ [_]).length ≤ 40001; rw [Xr]; omega
 ·show (List.append _ [_]).length ≤ 61; rw [Xr]; omega
theorem Mw {α : Type} (xs : List α) (h : xs.length ≤ 16777216) : (ZoJ xs fun b => bif b then some [] else if (0 : Nat) + List.length xs ≤ lim then some xs else none) = some xs := by
 cases xs with
 | nil => exact XM _
 | cons x l =>
  simp only [ZoJ, cond_false];rw [if_pos (by unfold lim; omega)]
theorem ZgQ (x : Yt) (h : x.length ≤ 16777216) : KU big x = some x := by rw [PS]; exact Mw x h
theorem W4 (x : Zq) (h : x.length ≤ 16777216) : Y4 big x = some x := by rw [LE]; exact Mw x h
theorem ZmH (x : YB) (h : x.length ≤ 16777216) : JM big x = some x := by rw [LH]; exact Mw x h
theorem ZmI (x : Yq) (h : x.length ≤ 16777216) : JN big x = some x := by rw [LL]; exact Mw x h
theorem Ze0 (x : ZX) (h : x.length ≤ 16777216) : Qn big x = some x := by rw [FU]; exact Mw x h
structure Ns (x : Zo) : Prop where
 row : List.length x.2.2.2.2.2.1 ≤ 16777216
 cells : List.length x.2.2.2.2.2.2.1 ≤ 16777216
 early : List.length x.2.2.2.2.2.2.2.1 ≤ 16777216
 undos : List.length x.2.2.2.2.2.2.2.2.1 ≤ 16777216
 votes : List.length x.2.2.2.2.2.2.2.2.2.1 ≤ 16777216
 news : List.length x.2.2.2.2.2.2.2.2.2.2.1 ≤ 16777216
theorem Ns.of {x : Zo} (h : Bg ZQ x) : Ns x :=
 ⟨h.2.2.2.2.2.1.1, h.2.2.2.2.2.2.1.1, h.2.2.2.2.2.2.2.1.1, h.2.2.2.2.2.2.2.2.1.1, h.2.2.2.2.2.2.2.2.2.1.1, h.2.2.2.2.2.2.2.2.2.2.1.1⟩
theorem H5 (x : Zo) (h : Ns x) : UJ big x = some x := by
 rw [PX];simp only [ZgQ _ h.row, W4 _ h.cells, ZgQ _ h.early, ZmH _ h.undos, ZmI _ h.votes, Ze0 _ h.news, Option.bind_some]
theorem ZcB (x : Zo) (h : Ns x) : YY big x = some x := by
 rw [Gc];have := h.row; have := h.cells; have := h.early; have := h.undos; have := h.votes; have := h.news;unfold lim
 repeat rw [if_pos (by omega)]
theorem Zwm (x a b : Int) : GH big x a b = some (bif decide (a ≤ x) then decide (x ≤ b) else false) := by
 rw [Zl0];cases decide (a ≤ x) <;> rfl
theorem C3 (x a b : Int) : ZT big x a b = some (bif decide (a ≤ x) then decide (x ≤ b) else false) := by
 rw [NU];cases decide (a ≤ x) <;> rfl
theorem Zou (n : Int) : EL big n = some (SB n) := by rw [Zl7, Zwm]; rfl
theorem ZcC (k : ByteArray) (h : k.size ≤ 1048576) : EJ big k = some (Zc6 k) := by
 have hl : k.data.toList.length = k.size := by rw [Array.length_toList]; rfl
 have hk := ZuW (xs := k.data.toList) (p := fun y => decide ((y.toNat : Int) < 97) || decide (122 < (y.toNat : Int))) (b := false) (e := some (bif decide ((1 : Int) ≤ (k.size : Int)) then decide ((k.size : Int) ≤ 3) else false))
  (r := fun n i => CO n k (k.size : Int) i) (n := big) (fun n i hi => by
   rw [GI, decide_eq_true (by omega), cond_true, mk4 (Z3 hi), mk4 (Z3 hi), Yn (by omega)];cases decide (((k.data.toList[i]).toNat : Int) < 97) <;> cases decide (122 < ((k.data.toList[i]).toNat : Int)) <;> rfl) (fun n => by
   rw [GI, decide_eq_false (by omega), cond_false, Zwm]; rfl) (by rw [hl]; exact Nat.lt_of_le_of_lt h (by decide))
 rw [Zl3];refine hk.trans ?_;unfold Zc6;cases k.data.toList.any _ <;> rfl
theorem ZcD (k : ByteArray) (h : k.size ≤ 1048576) : BE big k = some (Zc6 k) := by
 have hl : k.data.toList.length = k.size := by rw [Array.length_toList]; rfl
 have hk := ZuW (xs := k.data.toList) (p := fun y => decide ((y.toNat : Int) < 97) || decide (122 < (y.toNat : Int))) (b := false) (e := some (bif decide ((1 : Int) ≤ (k.size : Int)) then decide ((k.size : Int) ≤ 3) else false))
  (r := fun n i => Jy n k i) (n := big) (fun n i hi => by
   rw [Qt, decide_eq_true (by omega), cond_true, mk4 (Z3 hi), mk4 (Z3 hi), Yn (by omega)];cases decide (((k.data.toList[i]).toNat : Int) < 97) <;> cases decide (122 < ((k.data.toList[i]).toNat : Int)) <;> rfl) (fun n => by
   rw [Qt, decide_eq_false (by omega), cond_false, C3]; rfl) (by rw [hl]; exact Nat.lt_of_le_of_lt h (by decide))
 rw [N4];refine hk.trans ?_;unfold Zc6;cases k.data.toList.any _ <;> rfl
theorem Ztf (c : Xf) (h : ByteArray.size c.2.1 ≤ 1048576) : ZbH big c = some (ZtA c) := by
 rw [Zme, Zwm, ZcC _ h, Zou];unfold ZtA;simp only [Option.bind_some];generalize (bif decide ((1 : Int) ≤ c.1) then decide (c.1 ≤ 3) else false) = b;cases b <;> cases Zc6 c.2.1 <;> rfl
theorem Ztg (c : Xf) (h : ByteArray.size c.2.1 ≤ 1048576) : DZ big c = some (ZtA c) := by
 rw [N6, C3, ZcD _ h, C3];unfold ZtA SB;simp only [Option.bind_some];generalize (bif decide ((1 : Int) ≤ c.1) then decide (c.1 ≤ 3) else false) = b;cases b <;> cases Zc6 c.2.1 <;> rfl
structure Xn (xs : List ZM) : Prop where
 len : xs.length ≤ 16777216
 key : ∀ y ∈ xs, ByteArray.size y.1 ≤ 1048576
def Rm (xs : List ZM) : Nat → Option ByteArray
 | 0 => none
 | j + 1 => (nth xs j).map (·.1)
theorem ZmJ (xs : List ZM) (h : Xn xs) : ∀ (n i : Nat), xs.length < n + i → i ≤ xs.length → WY n xs xs (xs.length : Int) (i : Int) = some (frm (Rm xs i) (xs.drop i))
 | 0, i, h1, h2 => by omega
 | n + 1, i, h1, h2 => by
  have hl := h.len;rcases Nat.lt_or_ge i xs.length with hi | hi
  ·have ih := ZmJ xs h n (i + 1) (by omega) (by omega)
   rw [AJ, decide_eq_true (by omega), cond_true, mk4 (Z3 hi), ZcC _ (h.key _ (List.getElem_mem hi)), Option.bind_some, Zou, Option.bind_some];rw [List.drop_eq_getElem_cons hi];have hp : Rm xs (i + 1) = some xs[i].1 := by simp only [Rm, Z3 hi, Option.map_some]
   rw [hp] at ih;simp only [frm];cases Zc6 xs[i].1 with
   | false => rfl
   | true =>
    cases SB xs[i].2.1 with
    | false => rfl
    | true =>
     simp only [Bool.not_true, cond_false, Bool.true_and];cases i with
     | zero =>
      rw [decide_eq_false (by omega), cond_false, Yn (by omega), ih];rfl
     | succ j =>
      have hj : j < xs.length := by omega
      rw [decide_eq_true (show (0 : Int) < ((j + 1 : Nat) : Int) by omega), cond_true, ZI (n := ((j + 1 : Nat) : Int) - 1) (by omega) (by omega), show ((j + 1 : Nat) : Int) - 1 = (j : Int) by omega, mk4 (Z3 hj), Yn (by omega), ih];have hq : Rm xs (j + 1) = some xs[j].1 := by simp only [Rm, Z3 hj, Option.map_some]
      rw [hq];show (bif !kl xs[j].1 xs[j + 1].1 then some false else _) = some (kl xs[j].1 xs[j + 1].1 && _);cases kl xs[j].1 xs[j + 1].1 <;> rfl
  ·have e : i = xs.length := by omega
   subst e;rw [AJ, decide_eq_false (by omega), cond_false, List.drop_length];rfl
theorem ZgR (xs : List ZM) (h : Xn xs) : ∀ (n i : Nat), xs.length < n + i → i ≤ xs.length → Vb n xs (i : Int) = some (bif frm (Rm xs i) (xs.drop i) then decide ((xs.length : Int) ≤ 12) else false)
 | 0, i, h1, h2 => by omega
 | n + 1, i, h1, h2 => by
  have hl := h.len;rcases Nat.lt_or_ge i xs.length with hi | hi
  ·have ih := ZgR xs h n (i + 1) (by omega) (by omega)
   rw [Vz, decide_eq_true (by omega), cond_true, mk4 (Z3 hi), ZcD _ (h.key _ (List.getElem_mem hi)), Option.bind_some, mk4 (Z3 hi), C3, Option.bind_some];rw [List.drop_eq_getElem_cons hi];have hp : Rm xs (i + 1) = some xs[i].1 := by simp only [Rm, Z3 hi, Option.map_some]
   rw [hp] at ih;simp only [frm];rw [show (bif decide ((0 : Int) ≤ xs[i].2.1) then decide (xs[i].2.1 ≤ 1000000000) else false) = SB xs[i].2.1 from rfl];cases Zc6 xs[i].1 with
   | false => rfl
   | true =>
    cases SB xs[i].2.1 with
    | false => rfl
    | true =>
     simp only [Bool.not_true, cond_false, Bool.true_and];cases i with
     | zero =>
      rw [decide_eq_false (by omega), cond_false, Yn (by omega), ih];rfl
     | succ j =>
      have hj : j < xs.length := by omega
      rw [decide_eq_true (show (0 : Int) < ((j + 1 : Nat) : Int) by omega), cond_true, ZI (n := ((j + 1 : Nat) : Int) - 1) (by omega) (by omega), show ((j + 1 : Nat) : Int) - 1 = (j : Int) by omega, mk4 (Z3 hj), mk4 (Z3 hi), Yn (by omega), ih];have hq : Rm xs (j + 1) = some xs[j].1 := by simp only [Rm, Z3 hj, Option.map_some]
      rw [hq];show (bif !kl xs[j].1 xs[j + 1].1 then some false else _) = some (bif (kl xs[j].1 xs[j + 1].1 && _) then _ else _);cases kl xs[j].1 xs[j + 1].1 <;> rfl
  ·have e : i = xs.length := by omega
   subst e;rw [Vz, decide_eq_false (by omega), cond_false, List.drop_length];rfl
theorem H6 (xs : List ZM) (h : Xn xs) : WZ big xs = some (okB xs) := by
 have := ZmJ xs h big 0 (by have := h.len; unfold big; omega) (by omega);rw [Int.natCast_zero, List.drop_zero] at this;rw [ZeA, P0, this];unfold okB Rm;cases decide ((xs.length : Int) ≤ 12) <;> rfl
theorem ZcE (xs : List ZM) (h : Xn xs) : JE big xs = some (okB xs) := by
 have := ZgR xs h big 0 (by have := h.len; unfold big; omega) (by omega);rw [Int.natCast_zero, List.drop_zero] at this;rw [Gr, this];unfold okB Rm;cases decide ((xs.length : Int) ≤ 12) <;> cases frm none xs <;> rfl
theorem ZcF {α : Type} {p : α → Bool} {xs : List α} {r : Nat → Int → Option Int}
  (hr : ∀ (n k : Nat) (hk : k < xs.length), r (n + 1) (k : Int) = bif p xs[k] then some (k : Int) else r n ((k + 1 : Nat) : Int)) (h0 : ∀ n, r (n + 1) ((xs.length : Nat) : Int) = some (-1)) :
  ∀ (n k : Nat), xs.length < n + k → k ≤ xs.length → r n (k : Int) = some (Mx p (xs.drop k) k)
 | 0, k, h, h2 => by omega
 | n + 1, k, h, h2 => by
  rcases Nat.lt_or_ge k xs.length with hk | hk
  ·rw [hr n k hk, List.drop_eq_getElem_cons hk]
   simp only [Mx];cases p xs[k] with
   | true => rfl
   | false =>
    simp only [cond_false];rw [ZcF hr h0 n (k + 1) (by omega) (by omega)];rfl
  ·have e1 : k = xs.length := by omega
   subst e1;rw [h0, List.drop_length]; rfl
def isK (k : ByteArray) (y : ZM) : Bool := decide (y.1 = k)
theorem Nt (xs : List ZM) (k : ByteArray) (hl : xs.length ≤ 16777216) : BS big xs k = some (Mx (isK k) xs 0) := by
 rw [Zi0, Uc];rw [ZuX (xs := xs) (p := isK k) (c := ((k, ()), ())) (r := fun n i => YD n xs (xs.length : Int) i k) (n := big) (fun n i hi => ?_) (fun n => ?_) (Nat.lt_of_le_of_lt hl (by decide))]
 ·rfl
 ·rw [XA, decide_eq_true (by omega), cond_true, mk4 (Z3 hi), Yn (by omega)]
  rfl
 ·rw [XA, decide_eq_false (Int.lt_irrefl _)]
  rfl
theorem ZgS (xs : List ZM) (k : ByteArray) (hl : xs.length ≤ 16777216) : BF big xs k = some (Mx (isK k) xs 0) := by
 rw [I8];have := ZcF (xs := xs) (p := isK k) (r := fun n i => QU n xs k i) (fun n i hi => by
  rw [Ux, decide_eq_true (by omega), cond_true, mk4 (Z3 hi), Yn (by omega)]
  rfl) (fun n => by
  rw [Ux, decide_eq_false (Int.lt_irrefl _)]
  rfl) big 0 (by unfold big; omega) (by omega)
 rw [Int.natCast_zero, List.drop_zero] at this;exact this
theorem H7 (k : ByteArray) : ∀ (l : List ZM) (j : Int), (Mx (isK k) l j = -1 ∧ ZnN k l = false ∧ Zkq k l = none ∧ ∀ y ∈ l, y.1 ≠ k) ∨ ∃ (i : Nat) (y : ZM), Mx (isK k) l j = j + i ∧ nth l i = some y ∧ y.1 = k ∧ ZnN k l = true ∧ Zkq k l = some y.2.1
 | [], j => .inl ⟨rfl, rfl, rfl, by simp⟩
 | z :: l, j => by
  by_cases e : z.1 = k
  ·exact .inr ⟨0, z, by simp only [Mx, isK, decide_eq_true e, cond_true]; omega, rfl, e, by simp only [ZnN, List.any_cons, decide_eq_true e, Bool.true_or], by simp only [Zkq, decide_eq_true e, cond_true]⟩
  ·rcases H7 k l (j + 1) with ⟨h1, h2, h3, h4⟩ | ⟨i, y, h1, h2, h3, h4, h5⟩
   ·refine .inl ⟨by simp only [Mx, isK, decide_eq_false e, cond_false]; exact h1, by simp only [ZnN, List.any_cons, decide_eq_false e, Bool.false_or]; exact h2, by simp only [Zkq, decide_eq_false e, cond_false]; exact h3, fun y hy => ?_⟩
    rcases List.mem_cons.1 hy with q | q
    ·subst q; exact e
    ·exact h4 y q
   ·exact .inr ⟨i + 1, y, by simp only [Mx, isK, decide_eq_false e, cond_false]; rw [h1]; omega, h2, h3, by simp only [ZnN, List.any_cons, decide_eq_false e, Bool.false_or]; exact h4, by simp only [Zkq, decide_eq_false e, cond_false]; exact h5⟩
theorem ZmK (xs : List ZM) (hl : xs.length ≤ 16777216) (k : ByteArray) (m : Int) (hn : ∀ y ∈ xs, y.1 ≠ k) : ∀ (n i : Nat), xs.length < n + i → i ≤ xs.length → QH n xs k m (i : Int) xs = some (xs.take i ++ Ic k m (xs.drop i))
 | 0, i, h1, h2 => by omega
 | n + 1, i, h1, h2 => by
  have hins : ∀ (i : Nat), i ≤ xs.length → (VD big xs (i : Int) [(k, m, ())]).bind (fun y => some y) = some (xs.take i ++ ((k, m, ()) :: xs.drop i)) := fun i hi => by
   rw [HS, if_pos (by omega), if_pos (by omega), if_pos (show List.length [(k, m, ())] = 1 from rfl), if_pos (by unfold lim; omega), Int.toNat_natCast];rfl
  rcases Nat.lt_or_ge i xs.length with hi | hi
  ·rw [BT, decide_eq_true (by omega), cond_true, mk4 (Z3 hi), Yn (by omega), ZmK xs hl k m hn n (i + 1) (by omega) (by omega), hins i (by omega)]
   rw [List.drop_eq_getElem_cons hi];simp only [Ic];rw [decide_eq_false (hn _ (List.getElem_mem hi)), cond_false, List.take_succ_eq_append_getElem hi, List.append_assoc];show (bif kl xs[i].1 k then _ else _) = _;cases kl xs[i].1 k <;> rfl
  ·have e : i = xs.length := by omega
   subst e;rw [BT, decide_eq_false (by omega), cond_false, hins xs.length (Nat.le_refl _), List.drop_length];rfl
theorem ZgT (xs : List ZM) (h : Xn xs) (hf : frm none xs = true) (k : ByteArray) (m : Int) : W0 big xs k m = some (Ic k m xs) := by
 rw [ZbL, W4 _ h.len, Option.bind_some, Nt xs k h.len, Option.bind_some];rcases H7 k xs 0 with ⟨h1, _, _, h4⟩ | ⟨i, y, h1, h2, h3, _⟩
 ·rw [h1, decide_eq_false (by omega), cond_false]
  have := ZmK xs h.len k m h4 big 0 (by have := h.len; unfold big; omega) (by omega);rw [Int.natCast_zero, List.take_zero, List.drop_zero] at this;exact this
 ·have hi : i < xs.length := C6 h2
  rw [h1, Int.zero_add, decide_eq_true (by omega), cond_true, if_pos (by omega), if_pos (by omega), Int.toNat_natCast, h2, Option.bind_some, Hg hi, Zsu hf h2 h3];rfl
theorem ZcG (xs : List ZM) (hl : xs.length ≤ 16777216) (k : ByteArray) (m : Int) : ∀ (n i : Nat) (acc : List ZM), xs.length < n + i → i ≤ xs.length → acc.length ≤ 16777217 + i →
  V4 n xs acc (i : Int) k m = some (acc ++ (xs.drop i).filter (fun y => !(kl y.1 k || decide (y.1 = k))))
 | 0, i, acc, h1, h2, h3 => by omega
 | n + 1, i, acc, h1, h2, h3 => by
  rcases Nat.lt_or_ge i xs.length with hi | hi
  ·rw [Uw, decide_eq_true (by omega), cond_true, mk4 (Z3 hi), mk4 (Z3 hi), if_pos (by unfold lim; simp only [List.length_singleton]; omega), Yn (by omega), List.drop_eq_getElem_cons hi, List.filter_cons]
   show (bif !(kl xs[i].1 k || decide (xs[i].1 = k)) then _ else _) = _;cases (!(kl xs[i].1 k || decide (xs[i].1 = k))) with
   | true =>
    rw [cond_true, ZcG xs hl k m n (i + 1) _ (by omega) (by omega) (by simp; omega)];simp
   | false =>
    rw [cond_false, ZcG xs hl k m n (i + 1) _ (by omega) (by omega) (by omega)];simp
  ·have e : i = xs.length := by omega
   subst e;rw [Uw, decide_eq_false (by omega), cond_false, List.drop_length];simp
theorem ZcH (xs : List ZM) (hl : xs.length ≤ 16777216) (k : ByteArray) (m : Int) : ∀ (n i : Nat) (acc : List ZM), xs.length + xs.length + 1 < n + i → i ≤ xs.length → acc.length ≤ i →
  V3 n xs acc (i : Int) k m = some (acc ++ ((xs.drop i).filter (fun y => kl y.1 k) ++ (k, m, ()) :: xs.filter (fun y => !(kl y.1 k || decide (y.1 = k)))))
 | 0, i, acc, h1, h2, h3 => by omega
 | n + 1, i, acc, h1, h2, h3 => by
  rcases Nat.lt_or_ge i xs.length with hi | hi
  ·rw [Uv, decide_eq_true (by omega), cond_true, mk4 (Z3 hi), mk4 (Z3 hi), if_pos (by unfold lim; simp only [List.length_singleton]; omega), Yn (by omega), List.drop_eq_getElem_cons hi, List.filter_cons]
   show (bif kl xs[i].1 k then _ else _) = _;cases kl xs[i].1 k with
   | true =>
    rw [cond_true, ZcH xs hl k m n (i + 1) _ (by omega) (by omega) (by simp; omega)];simp
   | false =>
    rw [cond_false, ZcH xs hl k m n (i + 1) _ (by omega) (by omega) (by omega)];simp
  ·have e : i = xs.length := by omega
   subst e;rw [Uv, decide_eq_false (by omega), cond_false, if_pos (by unfold lim; simp only [List.length_singleton]; omega)];have := ZcG xs hl k m n 0 (acc ++ [(k, m, ())]) (by omega) (by omega) (by simp; omega);rw [Int.natCast_zero, List.drop_zero] at this;rw [List.drop_length];refine this.trans ?_;simp
theorem ZpE (xs : List ZM) (hl : xs.length ≤ 16777216) (hf : frm none xs = true) (k : ByteArray) (m : Int) : Xh big xs (k, m, ()) = some (Ic k m xs) := by
 have := ZcH xs hl k m big 0 [] (by unfold big; omega) (by omega) (by simp);rw [Int.natCast_zero, List.drop_zero, List.nil_append, Zfz hf] at this;rw [I6];exact this
theorem AX {xs : List ZM} (h : okB xs = true) : frm none xs = true ∧ xs.length ≤ 12 := by
 unfold okB at h
 by_cases hl : (xs.length : Int) ≤ 12
 ·rw [decide_eq_true hl] at h; exact ⟨h, by omega⟩
 ·rw [decide_eq_false hl] at h; cases h
theorem ZpF {c : Xf} (h : ZtA c = true) : Zc6 c.2.1 = true ∧ SB c.2.2.1 = true := by
 unfold ZtA at h;revert h;generalize (bif decide ((1 : Int) ≤ c.1) then decide (c.1 ≤ 3) else false) = b;cases b <;> cases Zc6 c.2.1 <;> cases SB c.2.2.1 <;> simp
theorem Zth {xs : List ZM} {i : Nat} {y : ZM} (hf : frm none xs = true) (hn : nth xs i = some y) : Zc6 y.1 = true ∧ SB y.2.1 = true := by
 rw [J2] at hn;exact Zss hf y (List.mem_of_getElem? hn)
theorem Zti {k : ByteArray} {m : Int} : ∀ {l : List ZM} {y : ZM}, y ∈ Ic k m l → y ∈ l ∨ y.1 = k
 | [], y, h => by simp only [Ic, List.mem_singleton] at h; subst h; exact .inr rfl
 | z :: l, y, h => by
  simp only [Ic] at h;cases hz : kl z.1 k with
  | true =>
   rw [hz, cond_true] at h;rcases List.mem_cons.1 h with e | h
   ·exact .inl (by simp [e])
   ·exact (Zti h).imp (fun q => by simp [q]) id
  | false =>
   rw [hz, cond_false] at h
   by_cases e : z.1 = k
   ·rw [decide_eq_true e, cond_true] at h
    rcases List.mem_cons.1 h with e2 | h
    ·subst e2; exact .inr rfl
    ·exact .inl (by simp [h])
   ·rw [decide_eq_false e, cond_false] at h
    rcases List.mem_cons.1 h with e2 | h
    ·subst e2; exact .inr rfl
    ·exact .inl h
theorem Zwd {xs : List ZM} (h : Xn xs) (h12 : xs.length ≤ 12) (hf : frm none xs = true) {k : ByteArray} (hk : k.size ≤ 1048576) (m : Int) : Xn (Ic k m xs) := by
 refine ⟨?_, fun y hy => ?_⟩
 ·rw [MP hf]
  cases ZnN k xs <;> simp <;> omega
 ·rcases Zti hy with q | q
  ·exact h.key y q
  ·rw [q]; exact hk
theorem ZmL {xs : List ZM} (h : Xn xs) {c : Xf} (hc : ByteArray.size c.2.1 ≤ 1048576) : Xn (SC xs c).1 := by
 unfold SC;cases ho : okB xs with
 | false => exact h
 | true =>
  cases ZtA c with
  | false => exact h
  | true =>
   simp only [cond_true]
   split
   ·exact h
   ·rename_i m _
    cases okB (Ic c.2.1 m xs) with
    | true => exact Zwd h (AX ho).2 (AX ho).1 hc m
    | false => exact h
theorem ZpG (xs : List ZM) (h : Xn xs) (c : Xf) (hc : ByteArray.size c.2.1 ≤ 1048576) : RA big xs c = some (SC xs c) := by
 rw [Zok, W4 _ h.len, Option.bind_some, H6 xs h, Option.bind_some];unfold SC;cases ho : okB xs with
 | false => rfl
 | true =>
  obtain ⟨hf, h12⟩ := AX ho;simp only [Bool.not_true, cond_false, cond_true];rw [Ztf c hc, Option.bind_some];cases hk : ZtA c with
  | false => rfl
  | true =>
   obtain ⟨hk1, hk2⟩ := ZpF hk;have hn := Ry.1 hk2;simp only [Bool.not_true, cond_false, cond_true];have fin : ∀ m : Int, ((W0 big xs c.2.1 m).bind fun y => (WZ big y).bind fun y_1 => bif !y_1 then some (xs, (2 : Int), PUnit.unit) else some (y, (0 : Int), PUnit.unit)) =
     some (bif okB (Ic c.2.1 m xs) then (Ic c.2.1 m xs, (0 : Int), ()) else (xs, (2 : Int), ())) := fun m => by
    rw [ZgT xs h hf, Option.bind_some, H6 _ (Zwd h h12 hf hc m), Option.bind_some];cases okB (Ic c.2.1 m xs) <;> rfl
   unfold ZxL;cases hq : decide (c.1 = 1) with
   | true =>
    simp only [Bool.not_true, cond_false, cond_true];exact fin _
   | false =>
    simp only [Bool.not_false, cond_true, cond_false];rw [Nt xs c.2.1 h.len, Option.bind_some];rcases H7 c.2.1 xs 0 with ⟨h1, _, h3, _⟩ | ⟨i, y, h1, h2, h3, _, h5⟩
    ·rw [h1, h3, decide_eq_true (by omega), cond_true]
    ·obtain ⟨_, hy2⟩ := Zth hf h2
     have hy := Ry.1 hy2;rw [h1, h5, Int.zero_add, decide_eq_false (by omega), cond_false, if_pos (by omega), Int.toNat_natCast, h2, Option.bind_some];cases hr : decide (c.1 = 3) with
     | true =>
      simp only [cond_true];rw [ZI (n := 0 - c.2.2.1) (by omega) (by omega), ZI (n := 0 - c.2.2.1 + y.2.1) (by omega) (by omega), show 0 - c.2.2.1 + y.2.1 = y.2.1 - c.2.2.1 by omega];exact fin _
     | false =>
      simp only [cond_false];rw [if_pos (by omega), Option.bind_some, ZI (n := c.2.2.1 + y.2.1) (by omega) (by omega), Int.add_comm c.2.2.1];exact fin _
theorem ZpH (xs : List ZM) (h : Xn xs) (c : Xf) (hc : ByteArray.size c.2.1 ≤ 1048576) : I9 big xs c = some (SC xs c) := by
 have hl := h.len;rw [Zab, if_pos (by unfold lim; omega), ZcE xs h, Option.bind_some];unfold SC;cases ho : okB xs with
 | false => rfl
 | true =>
  obtain ⟨hf, h12⟩ := AX ho;simp only [Bool.not_true, cond_false, cond_true];rw [Ztg c hc, Option.bind_some];cases hk : ZtA c with
  | false => rfl
  | true =>
   obtain ⟨hk1, hk2⟩ := ZpF hk;have hn := Ry.1 hk2;simp only [Bool.not_true, cond_false, cond_true];rw [ZgS xs c.2.1 hl, Option.bind_some];have fin : ∀ (m q : Int), (decide (q < 0) = !ZnN c.2.1 xs) → ((ZT big m (0 : Int) (1000000000 : Int)).bind fun y_1 => bif !y_1 then some (xs, (2 : Int), PUnit.unit) else
     bif decide (q < (0 : Int)) then bif decide ((12 : Int) ≤ (List.length xs : Int)) then some (xs, (2 : Int), PUnit.unit) else (Xh big xs (c.2.1, m, ())).bind fun y => some (y, (0 : Int), PUnit.unit)
     else (Xh big xs (c.2.1, m, ())).bind fun y => some (y, (0 : Int), PUnit.unit)) =
     some (bif okB (Ic c.2.1 m xs) then (Ic c.2.1 m xs, (0 : Int), ()) else (xs, (2 : Int), ())) := fun m q hq => by
    rw [C3, Option.bind_some, ZpE xs hl hf, Option.bind_some, hq, ZwO ho hk1];show (bif !SB m then _ else _) = _;cases SB m with
    | false => rfl
    | true =>
     cases ZnN c.2.1 xs with
     | true => rfl
     | false =>
      by_cases h2 : (xs.length : Int) < 12
      ·rw [decide_eq_true h2, decide_eq_false (show ¬ (12 : Int) ≤ (xs.length : Int) by omega)]; rfl
      ·rw [decide_eq_false h2, decide_eq_true (show (12 : Int) ≤ (xs.length : Int) by omega)]; rfl
   unfold ZxL;cases hq : decide (c.1 = 1) with
   | true =>
    simp only [Bool.not_true, cond_false, cond_true];refine fin _ _ ?_;rcases H7 c.2.1 xs 0 with ⟨h1, h2, _, _⟩ | ⟨i, y, h1, _, _, h4, _⟩
    ·rw [h1, h2]; rfl
    ·rw [h1, h4, decide_eq_false (by omega)]; rfl
   | false =>
    simp only [Bool.not_false, cond_true, cond_false];rcases H7 c.2.1 xs 0 with ⟨h1, _, h3, _⟩ | ⟨i, y, h1, h2, h3, h4, h5⟩
    ·rw [h1, h3, decide_eq_true (by omega), cond_true]
    ·obtain ⟨_, hy2⟩ := Zth hf h2
     have hy := Ry.1 hy2;have hneg : decide ((i : Int) < 0) = !ZnN c.2.1 xs := by rw [h4, decide_eq_false (by omega)]; rfl
     rw [h1, h5, Int.zero_add, decide_eq_false (by omega), cond_false, if_pos (by omega), Int.toNat_natCast, h2, Option.bind_some];have hneg' : (false : Bool) = !ZnN c.2.1 xs := by rw [h4]; rfl
     cases hr : decide (c.1 = 3) with
     | true =>
      simp only [cond_true];rw [if_pos (by omega), Option.bind_some, ZI (n := y.2.1 - c.2.2.1) (by omega) (by omega)];have := fin (y.2.1 - c.2.2.1) (i : Int) hneg;rw [decide_eq_false (show ¬ (i : Int) < 0 by omega)] at this;exact this
     | false =>
      simp only [cond_false];rw [ZI (n := y.2.1 + c.2.2.1) (by omega) (by omega)];have := fin (y.2.1 + c.2.2.1) (i : Int) hneg;rw [decide_eq_false (show ¬ (i : Int) < 0 by omega)] at this;exact this
theorem ZcI : ∀ (cs : List Xf) {xs : List ZM}, Xn xs → (∀ c ∈ cs, ByteArray.size c.2.1 ≤ 1048576) → Xn (A6 xs cs)
 | [], _, h, _ => h
 | c :: cs, xs, h, hc => ZcI cs (xs := (SC xs c).1) (ZmL h (hc c (by simp))) (fun d hd => hc d (by simp [hd]))
theorem ZgU (cs : List Xf) (hl : cs.length ≤ 1099511627776) (hc : ∀ c ∈ cs, ByteArray.size c.2.1 ≤ 1048576) : ∀ (n i : Nat) (xs : List ZM) (codes : List Int), cs.length < n + i → i ≤ cs.length → codes.length ≤ i → Xn xs →
  KY n xs codes cs (cs.length : Int) (i : Int) = some (A6 xs (cs.drop i), codes ++ ZnO xs (cs.drop i), ())
 | 0, i, xs, codes, h1, h2, h3, _ => by omega
 | n + 1, i, xs, codes, h1, h2, h3, h => by
  rcases Nat.lt_or_ge i cs.length with hi | hi
  ·have hm := hc _ (List.getElem_mem hi)
   rw [Dm, decide_eq_true (by omega), cond_true, mk4 (Z3 hi), ZpG xs h _ hm, Option.bind_some, if_pos (by unfold ZtB; omega), Yn (by omega), ZgU cs hl hc n (i + 1) _ _ (by omega) (by omega) (by simp; omega) (ZmL h hm)];rw [List.drop_eq_getElem_cons hi, show ∀ (a b : List Int), List.append a b = a ++ b from fun _ _ => rfl, List.append_assoc];rfl
  ·have e : i = cs.length := by omega
   subst e;rw [Dm, decide_eq_false (by omega), cond_false, List.drop_length];simp [A6, ZnO]
theorem ZgV (cs : List Xf) (hl : cs.length ≤ 16777216) (hc : ∀ c ∈ cs, ByteArray.size c.2.1 ≤ 1048576) : ∀ (n i : Nat) (xs : List ZM) (codes : List Int), cs.length < n + i → i ≤ cs.length → codes.length ≤ i → Xn xs →
  Uy n cs xs codes (i : Int) = some (A6 xs (cs.drop i), codes ++ ZnO xs (cs.drop i), ())
 | 0, i, xs, codes, h1, h2, h3, _ => by omega
 | n + 1, i, xs, codes, h1, h2, h3, h => by
  rcases Nat.lt_or_ge i cs.length with hi | hi
  ·have hm := hc _ (List.getElem_mem hi)
   rw [VA, decide_eq_true (by omega), cond_true, mk4 (Z3 hi), ZpH xs h _ hm, Option.bind_some, if_pos (by unfold lim; omega), Yn (by omega), ZgV cs hl hc n (i + 1) _ _ (by omega) (by omega) (by simp; omega) (ZmL h hm)];rw [List.drop_eq_getElem_cons hi, show ∀ (a b : List Int), List.append a b = a ++ b from fun _ _ => rfl, List.append_assoc];rfl
  ·have e : i = cs.length := by omega
   subst e;rw [VA, decide_eq_false (by omega), cond_false, List.drop_length];simp [A6, ZnO]
theorem Zov (xs : List ZM) (h : Xn xs) (cs : List Xf) (hl : cs.length ≤ 1099511627776) (hc : ∀ c ∈ cs, ByteArray.size c.2.1 ≤ 1048576) : HT big xs cs = some (A6 xs cs, ZnO xs cs, ()) := by
 have := ZgU cs hl hc big 0 xs [] (by unfold big; omega) (by omega) (by simp) h;rw [Int.natCast_zero, List.drop_zero, List.nil_append] at this;rw [ZeE, W4 _ h.len, Option.bind_some];exact this
theorem Zow (xs : List ZM) (h : Xn xs) (cs : List Xf) (hl : cs.length ≤ 16777216) (hc : ∀ c ∈ cs, ByteArray.size c.2.1 ≤ 1048576) : JF big xs cs = some (A6 xs cs, ZnO xs cs, ()) := by
 have hl2 := h.len;have := ZgV cs hl hc big 0 xs [] (by unfold big; omega) (by omega) (by simp) h;rw [Int.natCast_zero, List.drop_zero, List.nil_append] at this;rw [Gu, if_pos (by unfold lim; omega)];exact this
def Zm8 (t : List Zy) (k : Int) : List Xf :=
 bif (bif decide ((0 : Int) ≤ k) then decide (k ≤ (t.length : Int) - 1) else false) then (match nth t (Int.toNat k) with | some b => b.2.2.1 | none => []) else []
def Rn (t : List Zy) (row : List Int) : List Xf := row.flatMap (Zm8 t)
structure Nu (t : List Zy) : Prop where
 len : t.length ≤ 16777216
 cmds : ∀ y ∈ t, List.length y.2.2.1 ≤ 1048576
 key : ∀ y ∈ t, ∀ c ∈ y.2.2.1, ByteArray.size c.2.1 ≤ 1048576
theorem Zu8 {t : List Zy} {k : Int} (h : (bif decide ((0 : Int) ≤ k) then decide (k ≤ (t.length : Int) - 1) else false) = true) : 0 ≤ k ∧ ∃ b, nth t (Int.toNat k) = some b ∧ b ∈ t ∧ Zm8 t k = b.2.2.1 := by
 by_cases h0 : 0 ≤ k
 ·rw [decide_eq_true h0, cond_true, decide_eq_true_eq] at h
  have hi : Int.toNat k < t.length := by omega
  refine ⟨h0, t[Int.toNat k], Z3 hi, List.getElem_mem hi, ?_⟩;unfold Zm8;rw [decide_eq_true h0, decide_eq_true h, Z3 hi]; rfl
 ·rw [decide_eq_false h0] at h; cases h
theorem Ztj {t : List Zy} {k : Int} (h : (bif decide ((0 : Int) ≤ k) then decide (k ≤ (t.length : Int) - 1) else false) = false) : Zm8 t k = [] := by
 unfold Zm8;rw [h]; rfl
theorem Zxr {t : List Zy} (h : Nu t) (k : Int) : (Zm8 t k).length ≤ 1048576 ∧ ∀ c ∈ Zm8 t k, ByteArray.size c.2.1 ≤ 1048576 := by
 cases hb : (bif decide ((0 : Int) ≤ k) then decide (k ≤ (t.length : Int) - 1) else false) with
 | true =>
  obtain ⟨_, b, _, h2, h3⟩ := Zu8 hb;rw [h3];exact ⟨h.cmds b h2, h.key b h2⟩
 | false => rw [Ztj hb]; exact ⟨by simp, by simp⟩
theorem ZmM {t : List Zy} (h : Nu t) : ∀ row : List Int, (Rn t row).length ≤ row.length * 1048576 ∧ ∀ c ∈ Rn t row, ByteArray.size c.2.1 ≤ 1048576
 | [] => ⟨by simp [Rn], by simp [Rn]⟩
 | k :: row => by
  obtain ⟨h1, h2⟩ := ZmM h row;obtain ⟨h3, h4⟩ := Zxr h k;have e : Rn t (k :: row) = Zm8 t k ++ Rn t row := rfl;rw [e];refine ⟨by rw [List.length_append, List.length_cons, Nat.succ_mul, Nat.add_comm]; exact Nat.add_le_add h1 h3, fun c hc => ?_⟩;rcases List.mem_append.1 hc with q | q
  ·exact h4 c q
  ·exact h2 c q
theorem E8 (t : List Zy) (h : Nu t) (row : List Int) (hr : row.length ≤ 1048576) : ∀ (n i : Nat) (acc : List Xf), row.length < n + i → i ≤ row.length → acc.length ≤ i * 1048576 →
  QZ n t acc row (row.length : Int) (i : Int) = some (acc ++ Rn t (row.drop i))
 | 0, i, acc, h1, h2, h3 => by omega
 | n + 1, i, acc, h1, h2, h3 => by
  have ht := h.len;rcases Nat.lt_or_ge i row.length with hi | hi
  ·rw [EP, decide_eq_true (by omega), cond_true, mk4 (Z3 hi), Zwm, ZI (n := (List.length t : Int) - 1) (by omega) (by omega), Option.bind_some, Yn (by omega)]
   have e : Rn t (row.drop i) = Zm8 t row[i] ++ Rn t (row.drop (i + 1)) := by rw [List.drop_eq_getElem_cons hi]; rfl
   rw [e];cases hb : (bif decide ((0 : Int) ≤ row[i]) then decide (row[i] ≤ (t.length : Int) - 1) else false) with
   | true =>
    obtain ⟨q0, b, q1, q2, q3⟩ := Zu8 hb;have hl := h.cmds b q2;have hm : acc.length + List.length b.2.2.1 ≤ (i + 1) * 1048576 := by rw [Nat.succ_mul]; exact Nat.add_le_add h3 hl
    have hm2 : (i + 1) * 1048576 ≤ ZtB := Nat.le_trans (Nat.mul_le_mul_right _ (show i + 1 ≤ 1048576 by omega)) (by decide);rw [cond_true, if_pos q0, q1, Option.bind_some, if_pos (Nat.le_trans hm hm2)];have := E8 t h row hr n (i + 1) (acc ++ b.2.2.1) (by omega) (by omega) (by rw [List.length_append]; exact hm);refine Eq.trans this ?_;rw [q3, List.append_assoc]
   | false =>
    rw [cond_false, E8 t h row hr n (i + 1) acc (by omega) (by omega) (Nat.le_trans h3 (Nat.mul_le_mul_right _ (Nat.le_succ i))), Ztj hb];rfl
  ·have e : i = row.length := by omega
   subst e;rw [EP, decide_eq_false (by omega), cond_false, List.drop_length];simp [Rn]
theorem ZpI (t : List Zy) (h : Nu t) (row : List Int) (hr : row.length ≤ 1048576) : FL big t row = some (Rn t row) := by
 have := E8 t h row hr big 0 [] (by unfold big; omega) (by omega) (by simp);rw [Int.natCast_zero, List.drop_zero, List.nil_append] at this;rw [Zi4];exact this
theorem Pv (xs : List ZM) (a b : List Xf) : A6 xs (a ++ b) = A6 (A6 xs a) b := List.foldl_append ..
def inB (x a b : Int) : Bool := bif decide (a ≤ x) then decide (x ≤ b) else false
theorem C4 {x a b : Int} : inB x a b = true ↔ a ≤ x ∧ x ≤ b := by
 unfold inB
 by_cases h : a ≤ x
 ·rw [decide_eq_true h]; simp [h]
 ·rw [decide_eq_false h]; simp [h]
def Pw (t : List Zy) : Nat → Int → Option (List Int)
 | 0, k => bif decide (0 < k) then none else some []
 | f + 1, k => bif decide (0 < k) then (match nth t (Int.toNat k) with
  | none => none
  | some b => bif inB b.1 0 (k - 1) then (match Pw t f b.1 with | none => none | some l => some (b.1 :: l)) else none) else some []
def Zox (t : List Zy) (k : Int) : Option (List Int) := bif inB k 0 ((t.length : Int) - 1) then Pw t t.length k else none
theorem ZmN (t : List Zy) (ht : t.length ≤ 1048576) : ∀ (f n : Nat) (k : Int) (acc : List Int), 0 ≤ k → k ≤ f → k < t.length → f < n → acc.length + f ≤ 16777216 →
  K2 n t k acc = some (match Pw t f k with | none => ([], false, ()) | some l => (acc ++ l, true, ()))
 | f, 0, k, acc, _, _, _, h4, _ => by omega
 | 0, n + 1, k, acc, h1, h2, h3, h4, h5 => by
  have e : k = 0 := by omega
  subst e;rw [Dn];simp [Pw]
 | f + 1, n + 1, k, acc, h1, h2, h3, h4, h5 => by
  rw [Dn];simp only [Pw]
  by_cases hk : 0 < k
  ·have hi : Int.toNat k < t.length := by omega
   rw [decide_eq_true hk, cond_true, cond_true, if_pos h1, Z3 hi, Option.bind_some, Zwm, ZI (n := k - 1) (by omega) (by omega), Option.bind_some];rw [show (bif decide ((0 : Int) ≤ t[Int.toNat k].1) then decide (t[Int.toNat k].1 ≤ k - 1) else false) = inB t[Int.toNat k].1 0 (k - 1) from rfl];dsimp only;cases hb : inB t[Int.toNat k].1 0 (k - 1) with
   | false => rfl
   | true =>
    obtain ⟨q1, q2⟩ := C4.1 hb;simp only [Bool.not_true, cond_false, cond_true];rw [if_pos h1, Option.bind_some, if_pos (by unfold lim; simp only [List.length_singleton]; omega)];refine (ZmN t ht f n _ _ q1 (by omega) (by omega) (by omega) (by rw [show ∀ a b : List Int, List.append a b = a ++ b from fun _ _ => rfl, List.length_append, List.length_singleton]; omega)).trans ?_;cases Pw t f t[Int.toNat k].1 with
    | none => rfl
    | some l =>
     simp only [show ∀ a b : List Int, List.append a b = a ++ b from fun _ _ => rfl, List.append_assoc];rfl
  ·rw [decide_eq_false hk]
   simp
theorem ZmO (t : List Zy) (ht : t.length ≤ 1048576) (k : Int) : CS big t k = some (match Zox t k with | none => ([], false, ()) | some l => (k :: l, true, ())) := by
 rw [ZeG, Zwm, ZI (n := (List.length t : Int) - 1) (by omega) (by omega), Option.bind_some];unfold Zox;show (bif !inB k 0 ((t.length : Int) - 1) then _ else _) = _;cases hb : inB k 0 ((t.length : Int) - 1) with
 | false => rfl
 | true =>
  obtain ⟨q1, q2⟩ := C4.1 hb;simp only [Bool.not_true, cond_false, cond_true];exact ZmN t ht t.length big k [k] q1 (by omega) (by omega) (by unfold big; omega) (by simp; omega)
theorem ZcJ (t : List Zy) (ht : t.length ≤ 1048576) : ∀ (f n : Nat) (k h : Int), 0 ≤ k → k ≤ f → k < t.length → f < n → 0 ≤ h → h + f ≤ 16777216 →
  Vr n t k h = some (match Pw t f k with | none => -1 | some l => h + l.length)
 | f, 0, k, h, _, _, _, h4, _, _ => by omega
 | 0, n + 1, k, h, h1, h2, h3, h4, h5, h6 => by
  have e : k = 0 := by omega
  subst e;rw [XC];simp only [Pw, decide_true, Bool.not_true, cond_false, Int.lt_irrefl, decide_false];rw [decide_eq_false (by omega)];simp
 | f + 1, n + 1, k, h, h1, h2, h3, h4, h5, h6 => by
  rw [XC];simp only [Pw]
  by_cases hk : 0 < k
  ·have hi : Int.toNat k < t.length := by omega
   rw [decide_eq_false (show ¬ k = 0 by omega), decide_eq_true hk, Bool.not_false, cond_true, cond_true, C3, ZI (n := (List.length t : Int) - 1) (by omega) (by omega), Option.bind_some,
    decide_eq_true h1, cond_true, decide_eq_true (show k ≤ (t.length : Int) - 1 by omega), Bool.not_true, cond_false, if_pos h1, Z3 hi, Option.bind_some, C3, ZI (n := k - 1) (by omega) (by omega), Option.bind_some]
   rw [show (bif decide ((0 : Int) ≤ t[Int.toNat k].1) then decide (t[Int.toNat k].1 ≤ k - 1) else false) = inB t[Int.toNat k].1 0 (k - 1) from rfl];dsimp only;cases hb : inB t[Int.toNat k].1 0 (k - 1) with
   | false => rfl
   | true =>
    obtain ⟨q1, q2⟩ := C4.1 hb;simp only [Bool.not_true, cond_false, cond_true];rw [if_pos h1, Option.bind_some, ZI (n := h + 1) (by omega) (by omega)];refine (ZcJ t ht f n _ _ q1 (by omega) (by omega) (by omega) (by omega) (by omega)).trans ?_;cases Pw t f t[Int.toNat k].1 with
    | none => rfl
    | some l => simp only [List.length_cons]; congr 1; omega
  ·have e : k = 0 := by omega
   subst e;simp only [decide_true, Bool.not_true, cond_false, Int.lt_irrefl, decide_false];rw [decide_eq_false (by omega)];simp
theorem ZgW (t : List Zy) (ht : t.length ≤ 1048576) (k : Int) : VY big t k = some (match Zox t k with | none => -1 | some l => (l.length : Int)) := by
 rw [D4];unfold Zox;cases hb : inB k 0 ((t.length : Int) - 1) with
 | true =>
  obtain ⟨q1, q2⟩ := C4.1 hb;rw [cond_true, ZcJ t ht t.length big k 0 q1 (by omega) (by omega) (by unfold big; omega) (by omega) (by omega)];cases Pw t t.length k <;> simp
 | false =>
  rw [cond_false, show big = (big - 1) + 1 from by decide, XC]
  by_cases e : k = 0
  ·subst e
   have hl : t.length = 0 := by
    cases ht0 : t.length with
    | zero => rfl
    | succ m => rw [C4.2 ⟨by omega, by rw [ht0]; omega⟩] at hb; cases hb
   rw [decide_eq_true rfl, decide_eq_true (show (List.length t : Int) = 0 by omega)];rfl
  ·rw [decide_eq_false e, Bool.not_false, cond_true, C3, ZI (n := (List.length t : Int) - 1) (by omega) (by omega), Option.bind_some]
   show (bif !inB k 0 ((t.length : Int) - 1) then _ else _) = _;rw [hb];rfl
theorem ZpJ {t : List Zy} : ∀ {f : Nat} {k : Int} {l : List Int}, Pw t f k = some l → 0 ≤ k → (k :: l).Pairwise (fun a b => b < a) ∧ (∀ y ∈ l, 0 ≤ y ∧ y < k) ∧ ∃ m, k :: l = m ++ [0] ∧ ∀ y ∈ m, 0 < y ∧ y ≤ k
 | 0, k, l, h, h0 => by
  simp only [Pw] at h
  by_cases hk : 0 < k
  ·rw [decide_eq_true hk] at h; cases h
  ·rw [decide_eq_false hk] at h; cases h
   have e : k = 0 := by omega
   subst e;exact ⟨by simp, by simp, [], rfl, by simp⟩
 | f + 1, k, l, h, h0 => by
  simp only [Pw] at h
  by_cases hk : 0 < k
  ·rw [decide_eq_true hk, cond_true] at h
   split at h
   ·cases h
   ·rename_i b _
    cases hb : inB b.1 0 (k - 1) with
    | false => rw [hb] at h; cases h
    | true =>
     rw [hb, cond_true] at h;obtain ⟨q1, q2⟩ := C4.1 hb
     split at h
     ·cases h
     ·rename_i l' hl
      cases h;obtain ⟨i1, i2, m, i3, i4⟩ := ZpJ hl q1;refine ⟨List.pairwise_cons.2 ⟨fun y hy => ?_, i1⟩, fun y hy => ?_, k :: m, by rw [i3]; rfl, fun y hy => ?_⟩
      ·rcases List.mem_cons.1 hy with e | hy
       ·subst e; omega
       ·have := i2 y hy; omega
      ·rcases List.mem_cons.1 hy with e | hy
       ·subst e; omega
       ·have := i2 y hy; omega
      ·rcases List.mem_cons.1 hy with e | hy
       ·subst e; omega
       ·have := i4 y hy; omega
  ·rw [decide_eq_false hk] at h; cases h
   have e : k = 0 := by omega
   subst e;exact ⟨by simp, by simp, [], rfl, by simp⟩
theorem Ztk (xs : List Int) (u : Int) (hl : xs.length ≤ 16777216) : K4 big xs u = some (Mx (fun y => decide (u = y)) xs 0) := by
 rw [P2];have := ZcF (xs := xs) (p := fun y => decide (u = y)) (r := fun n i => UN n xs u (xs.length : Int) i) (fun n i hi => by
  rw [AM, decide_eq_true (by omega), cond_true, mk4 (Z3 hi), Yn (by omega)]) (fun n => by
  rw [AM, decide_eq_false (Int.lt_irrefl _)]
  rfl) big 0 (by unfold big; omega) (by omega)
 rw [Int.natCast_zero, List.drop_zero] at this;exact this
theorem Ztl {t : List Zy} : ∀ {f : Nat} {k : Int} {l : List Int}, Pw t f k = some l → l.length ≤ f
 | 0, k, l, h => by
  simp only [Pw] at h;cases hk : decide (0 < k) <;> rw [hk] at h <;> cases h;simp
 | f + 1, k, l, h => by
  simp only [Pw] at h;cases hk : decide (0 < k) with
  | false => rw [hk] at h; cases h; simp
  | true =>
   rw [hk, cond_true] at h
   split at h
   ·cases h
   ·rename_i b _
    cases hb : inB b.1 0 (k - 1) with
    | false => rw [hb] at h; cases h
    | true =>
     rw [hb, cond_true] at h
     split at h
     ·cases h
     ·rename_i l' hl
      cases h;have := Ztl hl;simp only [List.length_cons]; omega
theorem BZ {t : List Zy} {k : Int} {l : List Int} (h : Zox t k = some l) : 0 ≤ k ∧ k < t.length ∧ Pw t t.length k = some l ∧ l.length ≤ t.length := by
 unfold Zox at h;cases hb : inB k 0 ((t.length : Int) - 1) with
 | false => rw [hb] at h; cases h
 | true =>
  rw [hb, cond_true] at h;obtain ⟨q1, q2⟩ := C4.1 hb;exact ⟨q1, by omega, h, Ztl h⟩
def ZmP (t : List Zy) (k u : Int) : Bool := match Zox t k with | none => false | some l => (k :: l).any fun y => decide (u = y)
theorem H8 (t : List Zy) (ht : t.length ≤ 1048576) (k u : Int) : JP big t k u = some (ZmP t k u) := by
 rw [ZeI, ZmO t ht k];unfold ZmP;cases hw : Zox t k with
 | none => rfl
 | some l =>
  have := (BZ hw).2.2.2;simp only [Option.bind_some, cond_true];rw [HX, Ztk _ _ (by simp only [List.length_cons]; omega)];simp only [Option.bind_some];rw [Zpe (by decide)]
theorem ZpK (t : List Zy) (u : Int) : ∀ (f n : Nat) (k : Int) (l : List Int), Pw t f k = some l → 0 ≤ k → k ≤ f → k < t.length → f < n → Ut n t k u = some ((k :: l).any fun y => decide (u = y))
 | f, 0, k, l, _, _, _, _, h => by omega
 | f, n + 1, k, l, hw, h1, h2, h3, h4 => by
  rw [Q6]
  by_cases hk : 0 < k
  ·rw [decide_eq_true hk, cond_true]
   by_cases e : k = u
   ·subst e
    simp
   ·rw [decide_eq_false e, Bool.not_false, cond_true, if_pos h1]
    cases f with
    | zero => omega
    | succ f =>
     simp only [Pw] at hw;rw [decide_eq_true hk, cond_true] at hw
     split at hw
     ·cases hw
     ·rename_i b hb0
      rw [hb0, Option.bind_some];cases hb : inB b.1 0 (k - 1) with
      | false => rw [hb] at hw; cases hw
      | true =>
       rw [hb, cond_true] at hw;obtain ⟨q1, q2⟩ := C4.1 hb
       split at hw
       ·cases hw
       ·rename_i l' hl
        cases hw;rw [ZpK t u f n b.1 l' hl q1 (by omega) (by omega) (by omega), List.any_cons (a := k), decide_eq_false (Ne.symm e), Bool.false_or]
  ·have e : k = 0 := by omega
   subst e;have hl : l = [] := by
    cases f with
    | zero => simpa [Pw] using hw
    | succ f => simpa [Pw] using hw
   subst hl;simp [eq_comm]
theorem H9 (t : List Zy) (ht : t.length ≤ 1048576) (k u : Int) : Qh big t k u = some (ZmP t k u) := by
 rw [Gf, ZgW t ht k];unfold ZmP;cases hw : Zox t k with
 | none => rfl
 | some l =>
  obtain ⟨w1, w2, w3, w4⟩ := BZ hw;simp only [Option.bind_some];rw [decide_eq_false (by omega), cond_false];exact ZpK t u t.length big k l w3 w1 (by omega) w2 (by unfold big; omega)
theorem ZpL (xs : List Int) (hl : xs.length ≤ 16777216) : ∀ (n i : Nat) (b : List Int), b.length = xs.length →
  (∀ m, m < xs.length → nth b m = nth xs (if m < i ∨ xs.length ≤ m + i then xs.length - 1 - m else m)) → i + i ≤ xs.length + 1 → xs.length < n + i →
  Vf n (i : Int) ((xs.length : Int) - 1 - i) b = some ((), xs.reverse, ())
 | 0, i, b, _, _, h3, h4 => by omega
 | n + 1, i, b, h1, h2, h3, h4 => by
  by_cases hij : i + i + 1 < xs.length
  ·obtain ⟨j, hj⟩ : ∃ j : Nat, j = xs.length - 1 - i := ⟨_, rfl⟩
   have e : (xs.length : Int) - 1 - i = (j : Int) := by omega
   have hib : i < b.length := by omega
   have hjb : j < b.length := by omega
   have hjb2 : j < (upd b i b[j]).length := by rw [ZU]; exact hjb
   have ih := ZpL xs hl n (i + 1) (upd (upd b i b[j]) j b[i]) (by rw [ZU, ZU, h1]) (fun m hm => ?_) (by omega) (by omega)
   ·rw [e, Kh, decide_eq_true (show (i : Int) < (j : Int) by omega), cond_true]
    simp only [if_pos (show (0 : Int) ≤ (j : Int) by omega), if_pos (show (j : Int) < (b.length : Int) by omega), if_pos (show (0 : Int) ≤ (i : Int) by omega), if_pos (show (i : Int) < (b.length : Int) by omega), Int.toNat_natCast, Z3 hjb, Z3 hib, Option.bind_some, Hg hib,
     if_pos (show (j : Int) < ((upd b i b[j]).length : Int) by omega), Z3 hjb2, Hg hjb2]
    rw [Yn (by omega), ZI (n := (j : Int) - 1) (by omega) (by omega), show (j : Int) - 1 = (xs.length : Int) - 1 - ((i + 1 : Nat) : Int) by omega];exact ih
   ·by_cases ej : m = j
    ·subst ej
     rw [Ya (Z3 hjb2), if_pos (by omega), ← Z3 hib, h2 i (by omega), if_neg (by omega)];congr 1; omega
    ·rw [Z1 (Ne.symm ej)]
     by_cases ei : m = i
     ·subst ei
      rw [Ya (Z3 hib), if_pos (by omega), ← Z3 hjb, h2 j (by omega), if_neg (by omega), hj]
     ·rw [Z1 (Ne.symm ei), h2 m hm]
      by_cases hc : m < i ∨ xs.length ≤ m + i
      ·rw [if_pos hc, if_pos (by omega)]
      ·rw [if_neg hc, if_neg (by omega)]
  ·rw [Kh, decide_eq_false (by omega), cond_false]
   have hb : b = xs.reverse := by
    apply List.ext_getElem?;intro m;rw [← J2]
    by_cases hm : m < xs.length
    ·rw [h2 m hm, List.getElem?_reverse hm, ← J2]
     split
     ·rfl
     ·congr 1; omega
    ·rw [Xo.2 (by omega), List.getElem?_eq_none (by rw [List.length_reverse]; omega)]
   rw [hb]
theorem Ztm (xs : List Int) (hl : xs.length ≤ 16777216) : JQ big xs = some ((), xs.reverse, ()) := by
 have := ZpL xs hl big 0 xs rfl (fun m hm => by rw [if_neg (by omega)]) (by omega) (by unfold big; omega);rw [Int.natCast_zero, Int.sub_zero] at this;rw [L3, ZI (by omega) (by omega)];exact this
def ZcK (t : List Zy) (k : Int) : List Int := match Zox t k with | none => [] | some l => (k :: l).dropLast.reverse
theorem Ztn (t : List Zy) (ht : t.length ≤ 1048576) (k : Int) : ZbU big t k = some (ZcK t k) := by
 rw [Zmn, ZmO t ht k];unfold ZcK;cases hw : Zox t k with
 | none => rfl
 | some l =>
  have := (BZ hw).2.2.2;simp only [Option.bind_some, Bool.not_true, cond_false];rw [Ztm _ (by simp only [List.length_cons]; omega)];simp only [Option.bind_some];rw [if_pos (by simp only [List.length_reverse, List.length_cons]; omega), List.take_of_length_le (by simp [List.length_drop])];rw [show Int.toNat 1 = 1 from rfl, List.drop_one, List.tail_reverse]
theorem Zto (t : List Zy) : ∀ (f n : Nat) (k : Int) (l acc : List Int), Pw t f k = some l → 0 ≤ k → k ≤ f → k < t.length → f < n → acc.length + f ≤ 16777216 → JD n t k acc = some ((k :: l).dropLast.reverse ++ acc)
 | f, 0, k, l, acc, _, _, _, _, h, _ => by omega
 | f, n + 1, k, l, acc, hw, h1, h2, h3, h4, h5 => by
  rw [Bd]
  by_cases hk : 0 < k
  ·rw [decide_eq_true hk, cond_true]
   cases f with
   | zero => omega
   | succ f =>
    rw [if_pos (by unfold lim; simp only [List.length_singleton]; omega), if_pos h1];simp only [Pw] at hw;rw [decide_eq_true hk, cond_true] at hw
    split at hw
    ·cases hw
    ·rename_i b hb0
     rw [hb0, Option.bind_some];cases hb : inB b.1 0 (k - 1) with
     | false => rw [hb] at hw; cases hw
     | true =>
      rw [hb, cond_true] at hw;obtain ⟨q1, q2⟩ := C4.1 hb
      split at hw
      ·cases hw
      ·rename_i l' hl
       cases hw;rw [Zto t f n b.1 l' (k :: acc) hl q1 (by omega) (by omega) (by omega) (by simp only [List.length_cons]; omega)];simp [List.dropLast]
  ·have e : k = 0 := by omega
   subst e;have hl : l = [] := by
    cases f with
    | zero => simpa [Pw] using hw
    | succ f => simpa [Pw] using hw
   subst hl;simp
theorem Ztp (t : List Zy) (ht : t.length ≤ 1048576) (k : Int) : I2 big t k = some (ZcK t k) := by
 rw [Oj, ZgW t ht k];unfold ZcK;cases hw : Zox t k with
 | none => rfl
 | some l =>
  obtain ⟨w1, w2, w3, w4⟩ := BZ hw;simp only [Option.bind_some];rw [decide_eq_false (by omega), cond_false, Zto t t.length big k l [] w3 w1 (by omega) w2 (by unfold big; omega) (by simp; omega), List.append_nil]
theorem Ia (t : List Zy) (k : Int) : (ZcK t k).Pairwise (· < ·) ∧ (∀ y ∈ ZcK t k, 0 < y ∧ y < t.length) ∧ (ZcK t k).length ≤ t.length ∧ ∀ u, ZmP t k u = true → u = 0 ∨ u ∈ ZcK t k := by
 unfold ZcK ZmP;cases hw : Zox t k with
 | none => exact ⟨by simp, by simp, by simp, by simp⟩
 | some l =>
  obtain ⟨w1, w2, w3, w4⟩ := BZ hw;obtain ⟨d1, _, m, d3, d4⟩ := ZpJ w3 w1;dsimp only;have hm : (k :: l).dropLast = m := by rw [d3, List.dropLast_concat]
  rw [hm];refine ⟨?_, fun y hy => ?_, ?_, fun u hu => ?_⟩
  ·rw [List.pairwise_reverse]
   rw [d3] at d1;exact (List.pairwise_append.1 d1).1
  ·have := d4 y (List.mem_reverse.1 hy); omega
  ·have : (k :: l).length = m.length + 1 := by rw [d3]; simp
   simp only [List.length_cons] at this;rw [List.length_reverse]; omega
  ·obtain ⟨y, h1, h2⟩ := List.any_eq_true.1 hu
   rw [decide_eq_true_eq] at h2;subst h2;rw [d3] at h1;rcases List.mem_append.1 h1 with q | q
   ·exact .inr (List.mem_reverse.2 q)
   ·exact .inl (by simpa using q)
def JX (t : List Zy) (k u : Int) : List Int := bif ZmP t k u then (ZcK t k).filter (fun y => decide (u < y)) else []
theorem ZpM (u : Int) : ∀ {row : List Int} (j : Int), 0 ≤ j → row.Pairwise (· < ·) → u ∈ row → ∃ i : Nat, Mx (fun y => decide (u = y)) row j = j + i ∧ i < row.length ∧ row.drop (i + 1) = row.filter (fun y => decide (u < y))
 | [], j, _, _, h => by cases h
 | y :: row, j, h0, hp, h => by
  obtain ⟨p1, p2⟩ := List.pairwise_cons.1 hp
  by_cases e : u = y
  ·subst e
   refine ⟨0, by simp only [Mx, decide_true, cond_true]; omega, by simp, ?_⟩;rw [List.filter_cons, decide_eq_false (Int.lt_irrefl u)];simp only [Nat.zero_add, List.drop_succ_cons, List.drop_zero, Bool.false_eq_true, if_false];rw [List.filter_eq_self.2 (fun z hz => by rw [decide_eq_true (p1 z hz)])]
  ·have hm : u ∈ row := by
    rcases List.mem_cons.1 h with q | q
    ·exact absurd q e
    ·exact q
   obtain ⟨i, i1, i2, i3⟩ := ZpM u (row := row) (j + 1) (by omega) p2 hm;have hlt := p1 u hm;refine ⟨i + 1, by simp only [Mx, decide_eq_false e, cond_false]; omega, by simp only [List.length_cons]; omega, ?_⟩;rw [List.filter_cons, decide_eq_false (by omega), List.drop_succ_cons, i3];simp
theorem Zu9 (u : Int) : ∀ {row : List Int} (j : Int), (∀ y ∈ row, u < y) → Mx (fun y => decide (u = y)) row j = -1
 | [], _, _ => rfl
 | y :: row, j, h => by
  have := h y (by simp);simp only [Mx, decide_eq_false (show ¬ u = y by omega), cond_false];exact Zu9 u (j + 1) (fun z hz => h z (by simp [hz]))
theorem Px (t : List Zy) (ht : t.length ≤ 1048576) (k u : Int) : AN big t k u = some (JX t k u) := by
 obtain ⟨f1, f2, f3, f4⟩ := Ia t k;rw [ZbW, H8 t ht, Option.bind_some];unfold JX;cases he : ZmP t k u with
 | false => rfl
 | true =>
  simp only [Bool.not_true, cond_false, cond_true];rw [Ztn t ht, Option.bind_some, Ztk _ _ (by omega), Option.bind_some];rcases f4 u he with e | hm
  ·subst e
   rw [Zu9 0 0 (fun y hy => (f2 y hy).1), List.filter_eq_self.2 (fun z hz => by rw [decide_eq_true (f2 z hz).1])];rw [show IntKind.i64.wrap (-1 + 1) = 0 from rfl, if_pos (by omega), if_pos (by omega)];simp
  ·obtain ⟨i, i1, i2, i3⟩ := ZpM u 0 (by omega) f1 hm
   rw [i1, Int.zero_add, Yn (by omega), if_pos (by omega), if_pos (by omega), Int.toNat_natCast, i3, List.take_of_length_le (by rw [← i3, List.length_drop]; omega)]
theorem Nv (u : Int) (row : List Int) (hl : row.length ≤ 16777216) : ∀ (n i : Nat) (acc : List Int), row.length < n + i → i ≤ row.length → acc.length ≤ i → Wz n u acc (i : Int) row = some (acc ++ (row.drop i).filter (fun y => decide (u < y)))
 | 0, i, acc, h1, h2, h3 => by omega
 | n + 1, i, acc, h1, h2, h3 => by
  rcases Nat.lt_or_ge i row.length with hi | hi
  ·rw [Va, decide_eq_true (by omega), cond_true]
   simp only [if_pos (show (0 : Int) ≤ (i : Int) by omega), if_pos (show (i : Int) < (row.length : Int) by omega), Int.toNat_natCast, Z3 hi, Option.bind_some];rw [if_pos (by unfold lim; simp only [List.length_singleton]; omega), Yn (by omega), List.drop_eq_getElem_cons hi, List.filter_cons];cases decide (u < row[i]) with
   | true =>
    rw [cond_true, Nv u row hl n (i + 1) _ (by omega) (by omega) (by simp; omega)];simp
   | false =>
    rw [cond_false, Nv u row hl n (i + 1) _ (by omega) (by omega) (by omega)];simp
  ·have e : i = row.length := by omega
   subst e;rw [Va, decide_eq_false (by omega), cond_false, List.drop_length];simp
theorem Py (t : List Zy) (ht : t.length ≤ 1048576) (k u : Int) : QT big t k u = some (JX t k u) := by
 obtain ⟨f1, f2, f3, f4⟩ := Ia t k;rw [Eb, H9 t ht, Option.bind_some];unfold JX;cases he : ZmP t k u with
 | false => rfl
 | true =>
  simp only [Bool.not_true, cond_false, cond_true];have := Nv u (ZcK t k) (by omega) big 0 [] (by unfold big; omega) (by omega) (by simp);rw [Int.natCast_zero, List.drop_zero, List.nil_append] at this;rw [Ztp t ht, Option.bind_some];exact this
theorem VO (t : List Zy) (k u : Int) : (JX t k u).Pairwise (· < ·) ∧ (∀ y ∈ JX t k u, 0 < y ∧ y < t.length) ∧ (JX t k u).length ≤ t.length := by
 obtain ⟨f1, f2, f3, _⟩ := Ia t k;unfold JX;cases ZmP t k u with
 | false => exact ⟨by simp, by simp, by simp⟩
 | true =>
  refine ⟨f1.sublist List.filter_sublist, fun y hy => f2 y (List.mem_filter.1 hy).1, Nat.le_trans (List.length_filter_le ..) f3⟩
def Nw (t : List Zy) (i : Nat) : Nat := ((t.drop i).map fun b => List.length b.2.2.1).sum
theorem ZpN {t : List Zy} {i : Nat} (hi : i < t.length) : Nw t i = List.length t[i].2.2.1 + Nw t (i + 1) := by
 unfold Nw;rw [List.drop_eq_getElem_cons hi, List.map_cons, List.sum_cons]
theorem ZgX (t : List Zy) : ∀ (d i : Nat), Nw t (i + d) ≤ Nw t i
 | 0, i => Nat.le_refl _
 | d + 1, i => by
  refine Nat.le_trans ?_ (ZgX t d i);rcases Nat.lt_or_ge (i + d) t.length with h | h
  ·rw [ZpN h]; exact Nat.le_add_left _ _
  ·unfold Nw
   rw [List.drop_eq_nil_of_le (show t.length ≤ i + (d + 1) by omega)];simp
theorem ZmQ (t : List Zy) : ∀ (row : List Int) (i : Nat), row.Pairwise (· < ·) → (∀ y ∈ row, (i : Int) ≤ y ∧ y < t.length) → (Rn t row).length ≤ Nw t i
 | [], i, _, _ => by simp [Rn]
 | r :: row, i, hp, hm => by
  obtain ⟨p1, p2⟩ := List.pairwise_cons.1 hp;obtain ⟨m1, m2⟩ := hm r (by simp);have hr : Int.toNat r < t.length := by omega
  have ih := ZmQ t row (Int.toNat r + 1) p2 (fun y hy => ⟨by have := p1 y hy; omega, (hm y (by simp [hy])).2⟩);have hc : Zm8 t r = t[Int.toNat r].2.2.1 := by
   unfold Zm8;rw [decide_eq_true (show (0 : Int) ≤ r by omega), cond_true, decide_eq_true (show r ≤ (t.length : Int) - 1 by omega), Z3 hr]; rfl
  have e : Rn t (r :: row) = Zm8 t r ++ Rn t row := rfl;rw [e, List.length_append, hc];have h1 := ZpN hr;have h2 := ZgX t (Int.toNat r - i) i;rw [show i + (Int.toNat r - i) = Int.toNat r by omega] at h2;omega
end Go.Sx.Tryz
