/- What is taken back: what both answer. -/
import Derived.Test.YtocddfdkknhgcaaGreatM8
import Derived.Test.YtocddfdkknhgcaaGreatTypes
import Derived.Test.YtocddfdkknhgcaaGreatSafeToldH2
import Derived.Test.YtocddfdkknhgcaaGreatSafeToldF4
import Derived.Test.YtocddfdkknhgcaaGreatSafeToldF1
import Derived.Test.YtocddfdkknhgcaaGreatSafeToldF2
set_option linter.unusedVariables false
set_option linter.unusedSimpArgs false
set_option maxRecDepth 100000
namespace Go.Sx.Tryz
open Go Go.Sx Go.Proofs
def ZmR (xs : List ZM) (k : ByteArray) : Yg := match Zkq k xs with
 | none => (k, false, 0, ())
 | some m => (k, true, m, ())
theorem Zq9 (xs : List ZM) (hl : xs.length ≤ 16777216) (k : ByteArray) : Nm big xs k = some (ZmR xs k) := by
 rw [Zjd, Nt xs k hl, Option.bind_some];unfold ZmR;rcases H7 k xs 0 with ⟨h1, _, h3, _⟩ | ⟨i, y, h1, h2, h3, _, h5⟩
 ·rw [h1, h3, decide_eq_true (by omega)]; rfl
 ·rw [h1, h5, Int.zero_add, decide_eq_false (by omega), cond_false, if_pos (by omega), Int.toNat_natCast, h2]; rfl
theorem Zra (xs : List ZM) (hl : xs.length ≤ 16777216) (k : ByteArray) : Fx big xs k = some (ZmR xs k) := by
 rw [La, ZgS xs k hl, Option.bind_some];unfold ZmR;rcases H7 k xs 0 with ⟨h1, _, h3, _⟩ | ⟨i, y, h1, h2, h3, _, h5⟩
 ·rw [h1, h3, decide_eq_true (by omega)]; rfl
 ·rw [h1, h5, Int.zero_add, decide_eq_false (by omega), cond_false, if_pos (by omega), Int.toNat_natCast, h2]; rfl
def DG : List ZM → List Xf → List Yg
 | _, [] => []
 | xs, c :: cs => ZmR xs c.2.1 :: DG (SC xs c).1 cs
theorem E9 : ∀ (cs : List Xf) (xs : List ZM), (DG xs cs).length = cs.length
 | [], _ => rfl
 | _ :: cs, _ => by simp only [DG, List.length_cons, E9 cs]
theorem Pz : ∀ (a b : List Xf) (xs : List ZM), DG xs (a ++ b) = DG xs a ++ DG (A6 xs a) b
 | [], _, _ => rfl
 | c :: a, b, xs => by
  simp only [List.cons_append, DG];rw [Pz a b];rfl
theorem ZcL (cs : List Xf) (hl : cs.length ≤ 16777216) (hc : ∀ c ∈ cs, ByteArray.size c.2.1 ≤ 1048576) : ∀ (n i : Nat) (xs : List ZM) (us : List Yg), cs.length < n + i → i ≤ cs.length → us.length ≤ i → Xn xs →
  QJ n xs us cs (cs.length : Int) (i : Int) = some (A6 xs (cs.drop i), us ++ DG xs (cs.drop i), ())
 | 0, i, xs, us, h1, h2, h3, _ => by omega
 | n + 1, i, xs, us, h1, h2, h3, h => by
  rcases Nat.lt_or_ge i cs.length with hi | hi
  ·have hm := hc _ (List.getElem_mem hi)
   rw [BU, decide_eq_true (by omega), cond_true, mk4 (Z3 hi), Zq9 xs h.len, Option.bind_some, if_pos (by unfold ZtB; simp only [List.length_singleton]; omega), ZpG xs h _ hm, Option.bind_some, Yn (by omega),
    ZcL cs hl hc n (i + 1) _ _ (by omega) (by omega) (by simp; omega) (ZmL h hm)]
   rw [List.drop_eq_getElem_cons hi, show ∀ (a b : List Yg), List.append a b = a ++ b from fun _ _ => rfl, List.append_assoc];rfl
  ·have e : i = cs.length := by omega
   subst e;rw [BU, decide_eq_false (by omega), cond_false, List.drop_length];simp [A6, DG]
theorem ZcM (cs : List Xf) (hl : cs.length ≤ 16777216) (hc : ∀ c ∈ cs, ByteArray.size c.2.1 ≤ 1048576) : ∀ (n i : Nat) (xs : List ZM) (us : List Yg), cs.length < n + i → i ≤ cs.length → us.length ≤ i → Xn xs →
  Vs n cs xs us (i : Int) = some (A6 xs (cs.drop i), us ++ DG xs (cs.drop i), ())
 | 0, i, xs, us, h1, h2, h3, _ => by omega
 | n + 1, i, xs, us, h1, h2, h3, h => by
  rcases Nat.lt_or_ge i cs.length with hi | hi
  ·have hm := hc _ (List.getElem_mem hi)
   rw [Vc, decide_eq_true (by omega), cond_true, mk4 (Z3 hi), Zra xs h.len, Option.bind_some, if_pos (by unfold lim; simp only [List.length_singleton]; omega), mk4 (Z3 hi), ZpH xs h _ hm, Option.bind_some, Yn (by omega),
    ZcM cs hl hc n (i + 1) _ _ (by omega) (by omega) (by simp; omega) (ZmL h hm)]
   rw [List.drop_eq_getElem_cons hi, show ∀ (a b : List Yg), List.append a b = a ++ b from fun _ _ => rfl, List.append_assoc];rfl
  ·have e : i = cs.length := by omega
   subst e;rw [Vc, decide_eq_false (by omega), cond_false, List.drop_length];simp [A6, DG]
theorem ZmS (xs : List ZM) (h : Xn xs) (cs : List Xf) (hl : cs.length ≤ 16777216) (hc : ∀ c ∈ cs, ByteArray.size c.2.1 ≤ 1048576) : EW big xs cs = some (A6 xs cs, DG xs cs, ()) := by
 have := ZcL cs hl hc big 0 xs [] (by unfold big; omega) (by omega) (by simp) h;rw [Int.natCast_zero, List.drop_zero, List.nil_append] at this;rw [Zb1, W4 _ h.len, Option.bind_some];exact this
theorem ZmT (xs : List ZM) (h : Xn xs) (cs : List Xf) (hl : cs.length ≤ 16777216) (hc : ∀ c ∈ cs, ByteArray.size c.2.1 ≤ 1048576) : As big xs cs = some (A6 xs cs, DG xs cs, ()) := by
 have hl2 := h.len;have := ZcM cs hl hc big 0 xs [] (by unfold big; omega) (by omega) (by simp) h;rw [Int.natCast_zero, List.drop_zero, List.nil_append] at this;rw [Ee, if_pos (by unfold lim; omega)];exact this
theorem ZpO {α : Type} : ∀ {b : List α} {i : Nat} (y : α), i < b.length → (upd b i y).take (i + 1) = b.take i ++ [y]
 | _ :: _, 0, _, _ => by simp [upd]
 | x :: b, i + 1, y, h => by
  have := ZpO (b := b) (i := i) y (by simpa using h);simp only [upd, List.take_succ_cons, List.cons_append, this]
theorem ZpP {α : Type} : ∀ {b : List α} {i j : Nat} (y : α), i < j → (upd b i y).drop j = b.drop j
 | [], _, _, _, _ => rfl
 | _ :: _, 0, j + 1, _, _ => rfl
 | x :: b, i + 1, j + 1, y, h => by
  simp only [upd, List.drop_succ_cons];exact ZpP y (by omega)
def Ze1 (k : ByteArray) (y : ZM) : Bool := !decide (y.1 = k)
theorem Zjr (k : ByteArray) (hd : Bool) (m : Int) : ∀ (n i j : Nat) (b : List ZM), b.length ≤ 16777216 → b.length < n + j → i < j → j ≤ b.length →
  Yk n (i : Int) (j : Int) b k hd m = some (b.take i ++ (b.drop j).filter (Ze1 k), ((k, hd, m, ()), ()), ())
 | 0, i, j, b, _, h1, _, h3 => by omega
 | n + 1, i, j, b, hl, h1, h2, h3 => by
  rcases Nat.lt_or_ge j b.length with hj | hj
  ·have hi : i < b.length := by omega
   rw [Xu, decide_eq_true (by omega), cond_true, if_pos (by omega), if_pos (by omega), Int.toNat_natCast, Z3 hj, Option.bind_some, List.drop_eq_getElem_cons hj, List.filter_cons];show (bif Ze1 k b[j] then _ else _) = _;cases Ze1 k b[j] with
   | true =>
    simp only [cond_true, if_true];rw [if_pos (by omega), if_pos (by omega), Int.toNat_natCast, Z3 hi, Option.bind_some, Hg hi, Option.bind_some, Yn (by omega), Yn (by omega),
     Zjr k hd m n (i + 1) (j + 1) _ (by rw [ZU]; exact hl) (by rw [ZU]; omega) (by omega) (by rw [ZU]; omega), ZpO _ hi, ZpP _ (by omega), List.append_assoc]
    rfl
   | false =>
    simp only [cond_false, Bool.false_eq_true, if_false];rw [Yn (by omega), Zjr k hd m n i (j + 1) b hl (by omega) (by omega) (by omega)]
  ·have e : j = b.length := by omega
   subst e;have hlen : (List.append (b.take i) (List.append (List.replicate (b.length - i) (ZR Yc)) (b.drop (i + (b.length - i))))).length = b.length := by
    simp only [show ∀ a c : List ZM, List.append a c = a ++ c from fun _ _ => rfl, List.length_append, List.length_take, List.length_replicate, List.length_drop]; omega
   rw [Xu, decide_eq_false (by omega), cond_false];simp only [Int.toNat_natCast];rw [if_pos (by omega), if_pos (by omega), if_pos (by omega), if_pos (by omega), if_pos (by rw [show (List.append (b.take i) (List.append (List.replicate (b.length - i) (ZR Zn)) (b.drop (i + (b.length - i))))).length = b.length from hlen]; omega)];rw [List.drop_length, Nat.sub_zero, List.drop_zero];have ht : List.take i (List.append (b.take i) (List.append (List.replicate (b.length - i) (ZR Zn)) (b.drop (i + (b.length - i))))) = b.take i :=
    List.take_left' (by rw [List.length_take]; omega)
   rw [ht];simp
theorem ZgY {p : ZM → Bool} : ∀ {l : List ZM} (j : Int), 0 ≤ j → (Mx p l j = -1 ∧ l.filter (fun y => !p y) = l) ∨ ∃ i : Nat, Mx p l j = j + i ∧ i < l.length ∧ l.filter (fun y => !p y) = l.take i ++ (l.drop (i + 1)).filter (fun y => !p y)
 | [], _, _ => .inl ⟨rfl, rfl⟩
 | y :: l, j, h => by
  cases hp : p y with
  | true =>
   refine .inr ⟨0, by simp only [Mx, hp, cond_true]; omega, by simp, ?_⟩;rw [List.filter_cons, hp]; rfl
  | false =>
   rcases ZgY (p := p) (l := l) (j + 1) (by omega) with ⟨h1, h2⟩ | ⟨i, h1, h2, h3⟩
   ·refine .inl ⟨by simp only [Mx, hp, cond_false]; exact h1, ?_⟩
    rw [List.filter_cons, hp, h2]; rfl
   ·refine .inr ⟨i + 1, by simp only [Mx, hp, cond_false]; omega, by simp only [List.length_cons]; omega, ?_⟩
    rw [List.filter_cons, hp, h3]; rfl
theorem ZuA (xs : List ZM) (hl : xs.length ≤ 16777216) (u : Yg) : Xe big xs (u, ()) = some (xs.filter (Ze1 u.1), (u, ()), ()) := by
 have hi : Xi big xs (u, ()) = some (Mx (isK u.1) xs 0, (u, ()), ()) := by
  rw [Uf];exact ZuX (xs := xs) (p := isK u.1) (c := ((u, ()), ())) (r := fun n i => YF n xs (xs.length : Int) i u.1 u.2.1 u.2.2.1) (n := big) (fun n i hi => by
   rw [XB, decide_eq_true (by omega), cond_true, mk4 (Z3 hi), Yn (by omega)]
   rfl) (fun n => by
   rw [XB, decide_eq_false (Int.lt_irrefl _)]
   rfl) (Nat.lt_of_le_of_lt hl (by decide))
 rw [VM, hi, Option.bind_some];rcases ZgY (p := isK u.1) (l := xs) 0 (by omega) with ⟨h1, h2⟩ | ⟨i, h1, h2, h3⟩
 ·rw [h1, decide_eq_true rfl, cond_true]
  rw [show xs.filter (Ze1 u.1) = xs from h2]
 ·rw [h1, Int.zero_add, decide_eq_false (by omega), cond_false, Yn (by omega), Zjr _ _ _ big i (i + 1) xs hl (by unfold big; omega) (by omega) (by omega)]
  rw [show xs.filter (Ze1 u.1) = _ from h3];rfl
def Zoy (xs : List ZM) (u : Yg) : List ZM :=
 bif okB xs then (bif Zc6 u.1 then (bif SB u.2.2.1 then (bif u.2.1 then Ic u.1 u.2.2.1 xs else xs.filter (Ze1 u.1)) else xs) else xs) else xs
theorem Zoz {xs : List ZM} (h : Xn xs) {u : Yg} (hu : ByteArray.size u.1 ≤ 1048576) : Xn (Zoy xs u) := by
 unfold Zoy;cases ho : okB xs with
 | false => exact h
 | true =>
  cases Zc6 u.1 with
  | false => exact h
  | true =>
   cases SB u.2.2.1 with
   | false => exact h
   | true =>
    cases u.2.1 with
    | true => exact Zwd h (AX ho).2 (AX ho).1 hu _
    | false =>
     refine ⟨Nat.le_trans (List.length_filter_le ..) h.len, fun y hy => ?_⟩;exact h.key y (List.mem_filter.1 hy).1
theorem Zrb (xs : List ZM) (h : Xn xs) (u : Yg) (hu : ByteArray.size u.1 ≤ 1048576) : Nl big xs u = some (Zoy xs u) := by
 rw [Zja, W4 _ h.len, Option.bind_some, H6 xs h, Option.bind_some];unfold Zoy;cases ho : okB xs with
 | false => rfl
 | true =>
  simp only [Bool.not_true, cond_false, cond_true];rw [ZcC _ hu, Option.bind_some];cases Zc6 u.1 with
  | false => rfl
  | true =>
   simp only [Bool.not_true, cond_false, cond_true];rw [Zou, Option.bind_some];cases SB u.2.2.1 with
   | false => rfl
   | true =>
    simp only [Bool.not_true, cond_false, cond_true];rw [ZgT xs h (AX ho).1, ZuA xs h.len];cases u.2.1 <;> rfl
theorem Nx (xs : List ZM) (hl : xs.length ≤ 16777216) (k : ByteArray) (hd : Bool) (m : Int) : ∀ (n i : Nat) (acc : List ZM), xs.length < n + i → i ≤ xs.length → acc.length ≤ i → V5 n xs acc (i : Int) k hd m = some (acc ++ (xs.drop i).filter (Ze1 k))
 | 0, i, acc, h1, h2, h3 => by omega
 | n + 1, i, acc, h1, h2, h3 => by
  rcases Nat.lt_or_ge i xs.length with hi | hi
  ·rw [Uz, decide_eq_true (by omega), cond_true, mk4 (Z3 hi), mk4 (Z3 hi), if_pos (by unfold lim; simp only [List.length_singleton]; omega), Yn (by omega), List.drop_eq_getElem_cons hi, List.filter_cons]
   show (bif Ze1 k xs[i] then _ else _) = _;cases Ze1 k xs[i] with
   | true =>
    rw [cond_true, Nx xs hl k hd m n (i + 1) _ (by omega) (by omega) (by simp; omega)];simp
   | false =>
    rw [cond_false, Nx xs hl k hd m n (i + 1) _ (by omega) (by omega) (by omega)];simp
  ·have e : i = xs.length := by omega
   subst e;rw [Uz, decide_eq_false (by omega), cond_false, List.drop_length];simp
theorem Zrc (xs : List ZM) (h : Xn xs) (u : Yg) (hu : ByteArray.size u.1 ≤ 1048576) : Fz big xs u = some (Zoy xs u) := by
 have hl := h.len;rw [Lb, ZcE xs h, Option.bind_some, if_pos (by unfold lim; omega)];unfold Zoy;cases ho : okB xs with
 | false => rfl
 | true =>
  simp only [Bool.not_true, cond_false, cond_true];rw [ZcD _ hu, Option.bind_some];cases Zc6 u.1 with
  | false => rfl
  | true =>
   simp only [Bool.not_true, cond_false, cond_true];rw [C3, Option.bind_some];show (bif !SB u.2.2.1 then _ else _) = _;cases SB u.2.2.1 with
   | false => rfl
   | true =>
    simp only [Bool.not_true, cond_false, cond_true];have e1 : Xh big xs (u.1, u.2.2) = some (Ic u.1 u.2.2.1 xs) := ZpE xs hl (AX ho).1 u.1 u.2.2.1;have e2 := Nx xs hl u.1 u.2.1 u.2.2.1 big 0 [] (by unfold big; omega) (by omega) (by simp);rw [Int.natCast_zero, List.drop_zero, List.nil_append] at e2;rw [e1, e2];cases u.2.1 <;> rfl
def ZmU (xs : List ZM) (us : List Yg) : List ZM := us.foldr (fun u x => Zoy x u) xs
theorem Zwe {us : List Yg} (hu : ∀ u ∈ us, ByteArray.size u.1 ≤ 1048576) {xs : List ZM} (h : Xn xs) : Xn (ZmU xs us) := by
 induction us with
 | nil => exact h
 | cons u us ih => exact Zoz (ih (fun v hv => hu v (by simp [hv]))) (hu u (by simp))
theorem ZmV (us : List Yg) (hl : us.length ≤ 16777216) (hu : ∀ u ∈ us, ByteArray.size u.1 ≤ 1048576) : ∀ (n i : Nat) (xs : List ZM), i < n → i ≤ us.length → Xn xs → UR n us xs ((i : Int) - 1) = some (ZmU xs (us.take i))
 | 0, i, xs, h1, _, _ => by omega
 | n + 1, 0, xs, h1, h2, h => by
  rw [AO, decide_eq_false (by omega), cond_false];rfl
 | n + 1, i + 1, xs, h1, h2, h => by
  have hi : i < us.length := by omega
  have hm := hu _ (List.getElem_mem hi);rw [show ((i + 1 : Nat) : Int) - 1 = (i : Int) by omega, AO, decide_eq_true (by omega), cond_true, mk4 (Z3 hi), Zrb xs h _ hm, Option.bind_some, ZI (n := (i : Int) - 1) (by omega) (by omega),
   ZmV us hl hu n i _ (by omega) (by omega) (Zoz h hm), List.take_succ_eq_append_getElem hi]
  unfold ZmU;rw [List.foldr_append];rfl
theorem ZmW (us : List Yg) (hl : us.length ≤ 16777216) (hu : ∀ u ∈ us, ByteArray.size u.1 ≤ 1048576) : ∀ (n i : Nat) (xs : List ZM), i < n → i ≤ us.length → Xn xs → WU n us xs ((i : Int) - 1) = some (ZmU xs (us.take i))
 | 0, i, xs, h1, _, _ => by omega
 | n + 1, 0, xs, h1, h2, h => by
  rw [WG, decide_eq_false (by omega), cond_false];rfl
 | n + 1, i + 1, xs, h1, h2, h => by
  have hi : i < us.length := by omega
  have hm := hu _ (List.getElem_mem hi);rw [show ((i + 1 : Nat) : Int) - 1 = (i : Int) by omega, WG, decide_eq_true (by omega), cond_true, mk4 (Z3 hi), Zrc xs h _ hm, Option.bind_some, ZI (n := (i : Int) - 1) (by omega) (by omega),
   ZmW us hl hu n i _ (by omega) (by omega) (Zoz h hm), List.take_succ_eq_append_getElem hi]
  unfold ZmU;rw [List.foldr_append];rfl
theorem Zjs (xs : List ZM) (h : Xn xs) (us : List Yg) (hl : us.length ≤ 16777216) (hu : ∀ u ∈ us, ByteArray.size u.1 ≤ 1048576) : CW big xs us = some (ZmU xs us) := by
 have := ZmV us hl hu big us.length xs (by unfold big; omega) (Nat.le_refl _) h;rw [List.take_length] at this;rw [P5, W4 _ h.len, Option.bind_some, ZI (by omega) (by omega)];exact this
theorem Zjt (xs : List ZM) (h : Xn xs) (us : List Yg) (hl : us.length ≤ 16777216) (hu : ∀ u ∈ us, ByteArray.size u.1 ≤ 1048576) : KK big xs us = some (ZmU xs us) := by
 have hl2 := h.len;have := ZmW us hl hu big us.length xs (by unfold big; omega) (Nat.le_refl _) h;rw [List.take_length] at this;rw [Dc, if_pos (by unfold lim; omega), ZI (by omega) (by omega)];exact this
structure Ro (p : Zo) : Prop where
 b : Ns p
 row : List.length p.2.2.2.2.2.1 ≤ 1048576
 cells : ∀ y ∈ p.2.2.2.2.2.2.1, ByteArray.size y.1 ≤ 1048576
 undos : ∀ y ∈ p.2.2.2.2.2.2.2.2.1, ByteArray.size y.1 ≤ 1048576
theorem Ro.cB {p : Zo} (h : Ro p) : Xn p.2.2.2.2.2.2.1 := ⟨h.b.cells, h.cells⟩
def Ztq (p : Zo) : List ZM := ZmU p.2.2.2.2.2.2.1 p.2.2.2.2.2.2.2.2.1
theorem Ny {p : Zo} (h : Ro p) : Xn (Ztq p) := Zwe h.undos h.cB
def Rp (p : Zo) : Zo := (p.1, p.2.1, p.2.2.1, p.2.2.2.1, p.2.2.2.2.1, p.2.2.2.2.2.1, Ztq p, [], [], p.2.2.2.2.2.2.2.2.2)
def Uh (p : Zo) : Int := match p.2.2.2.2.2.1.getLast? with | none => 0 | some k => k
theorem Ztr {xs : List Int} (h : 0 < xs.length) : xs.getLast? = some xs[xs.length - 1] := by
 rw [List.getLast?_eq_getElem?, List.getElem?_eq_getElem (by omega)]
theorem ZmX (p : Zo) (h : List.length p.2.2.2.2.2.1 ≤ 16777216) : JR big p = some (Uh p) := by
 rw [ZeL];unfold Uh
 by_cases h0 : p.2.2.2.2.2.1.length = 0
 ·rw [decide_eq_true (by omega), cond_true, List.length_eq_zero_iff.1 h0]; rfl
 ·have hi : p.2.2.2.2.2.1.length - 1 < p.2.2.2.2.2.1.length := by omega
  rw [decide_eq_false (by omega), cond_false, ZI (by omega) (by omega), if_pos (by omega), show ((List.length p.2.2.2.2.2.1 : Int) - 1).toNat = p.2.2.2.2.2.1.length - 1 by omega, Z3 hi, Ztr (by omega)];rfl
theorem ZmY (p : Zo) (h : List.length p.2.2.2.2.2.1 ≤ 16777216) : Qi big p = some (Uh p) := by
 rw [Gp];unfold Uh
 by_cases h0 : p.2.2.2.2.2.1.length = 0
 ·rw [decide_eq_true (by omega), cond_true, List.length_eq_zero_iff.1 h0]; rfl
 ·have hi : p.2.2.2.2.2.1.length - 1 < p.2.2.2.2.2.1.length := by omega
  rw [decide_eq_false (by omega), cond_false, ZI (by omega) (by omega), if_pos (by omega), show ((List.length p.2.2.2.2.2.1 : Int) - 1).toNat = p.2.2.2.2.2.1.length - 1 by omega, Z3 hi, Ztr (by omega)];rfl
theorem ZcN (p : Zo) (h : Ro p) : K6 big p = some (Rp p) := by
 rw [P7, H5 p h.b, Option.bind_some, Zjs _ h.cB _ h.b.undos h.undos, Option.bind_some];rfl
theorem ZmZ (p : Zo) (h : Ro p) : JG big p = some ((), Rp p, ()) := by
 rw [Gx, Zjt _ h.cB _ h.b.undos h.undos, Option.bind_some];rfl
def Zwn (t : List Zy) (p : Zo) (row : List Int) : Zo := (p.1, p.2.1, p.2.2.1, p.2.2.2.1, p.2.2.2.2.1, p.2.2.2.2.2.1 ++ row, A6 p.2.2.2.2.2.2.1 (Rn t row), p.2.2.2.2.2.2.2)
theorem ZpQ (t : List Zy) (h : Nu t) (row : List Int) (hr : row.length ≤ 1048576) (hm : ∀ y ∈ row, 0 < y ∧ y < t.length) : ∀ (n i : Nat) (p : Zo), row.length < n + i → i ≤ row.length → List.length p.2.2.2.2.2.1 ≤ 1048576 + i → Xn p.2.2.2.2.2.2.1 →
  UB n t (i : Int) 0 0 0 0 0 0 0 0 0 0 0 0 0 0 [] [] [] [] [] [] 0 p.1 p.2.1 p.2.2.1.1 p.2.2.1.2.1 p.2.2.1.2.2.1 p.2.2.1.2.2.2.1 p.2.2.2.1.1 p.2.2.2.1.2.1 p.2.2.2.1.2.2.1 p.2.2.2.1.2.2.2.1 p.2.2.2.2.1.1 p.2.2.2.2.1.2.1 p.2.2.2.2.1.2.2.1 p.2.2.2.2.1.2.2.2.1
   p.2.2.2.2.2.1 p.2.2.2.2.2.2.1 p.2.2.2.2.2.2.2.1 p.2.2.2.2.2.2.2.2.1 p.2.2.2.2.2.2.2.2.2.1 p.2.2.2.2.2.2.2.2.2.2.1 p.2.2.2.2.2.2.2.2.2.2.2.1 row = some (Zwn t p (row.drop i))
 | 0, i, p, h1, h2, _, _ => by omega
 | n + 1, i, p, h1, h2, h3, hc => by
  rcases Nat.lt_or_ge i row.length with hi | hi
  ·obtain ⟨m1, m2⟩ := hm _ (List.getElem_mem hi)
   have hk : Int.toNat row[i] < t.length := by omega
   have hb := List.getElem_mem hk;have e : Rn t (row.drop i) = t[Int.toNat row[i]].2.2.1 ++ Rn t (row.drop (i + 1)) := by
    rw [List.drop_eq_getElem_cons hi];have hbk : Zm8 t row[i] = t[Int.toNat row[i]].2.2.1 := by
     unfold Zm8;rw [decide_eq_true (show (0 : Int) ≤ row[i] by omega), cond_true, decide_eq_true (show row[i] ≤ (t.length : Int) - 1 by omega), Z3 hk]; rfl
    rw [← hbk]; rfl
   rw [VB, decide_eq_true (by omega), cond_true];simp only [if_pos (show (0 : Int) ≤ (i : Int) by omega), if_pos (show (i : Int) < (row.length : Int) by omega), Int.toNat_natCast, Z3 hi, Option.bind_some, if_pos (show (0 : Int) ≤ row[i] by omega), Z3 hk];rw [if_pos (by unfold lim; simp only [List.length_singleton]; omega), Zow _ hc _ (Nat.le_trans (h.cmds _ hb) (by decide)) (h.key _ hb), Option.bind_some, Yn (by omega)];have ih := ZpQ t h row hr hm n (i + 1) (p.1, p.2.1, p.2.2.1, p.2.2.2.1, p.2.2.2.2.1, p.2.2.2.2.2.1 ++ [row[i]], A6 p.2.2.2.2.2.2.1 t[Int.toNat row[i]].2.2.1, p.2.2.2.2.2.2.2) (by omega) (by omega)
    (by simp only [List.length_append, List.length_singleton]; omega) (ZcI _ hc (h.key _ hb))
   refine Eq.trans ih ?_;unfold Zwn;rw [e, Pv];dsimp only;rw [List.append_assoc, List.drop_eq_getElem_cons hi];rfl
  ·have e : i = row.length := by omega
   subst e;rw [VB, decide_eq_false (by omega), cond_false, List.drop_length];unfold Zwn;rw [List.append_nil];rfl
def FN (t : List Zy) (p : Zo) (k : Int) : Zo := bif ZmP t k (Uh p) then Zwn t (Rp p) (JX t k (Uh p)) else p
theorem ZoA (t : List Zy) (h : Nu t) (ht : t.length ≤ 1048576) (p : Zo) (hp : Ro p) (k : Int) : HZ big t p k = some (FN t p k) := by
 have hrl := hp.row;rw [ZeP, ZmX p hp.b.row, Option.bind_some, H8 t ht, Option.bind_some];unfold FN;cases he : ZmP t k (Uh p) with
 | false =>
  simp only [Bool.not_false, cond_true, cond_false];rw [H5 p hp.b]; rfl
 | true =>
  obtain ⟨f1, f2, f3⟩ := VO t k (Uh p);obtain ⟨g1, g2⟩ := ZmM h (JX t k (Uh p));have hll : List.length p.2.2.2.2.2.1 + (JX t k (Uh p)).length ≤ lim := by unfold lim; omega
  simp only [Bool.not_true, cond_true, cond_false];rw [ZcN p hp, Option.bind_some, Option.bind_some, Px t ht, Option.bind_some, if_pos (show List.length (Rp p).2.2.2.2.2.1 + (JX t k (Uh p)).length ≤ lim from hll), ZpI t h _ (by omega), Option.bind_some,
   show (Rp p).2.2.2.2.2.2.1 = Ztq p from rfl, Zov _ (Ny hp) _ (Nat.le_trans g1 (Nat.le_trans (Nat.mul_le_mul_right _ (Nat.le_trans f3 ht)) (by decide))) g2]
  rfl
theorem ZoB (t : List Zy) (h : Nu t) (ht : t.length ≤ 1048576) (p : Zo) (hp : Ro p) (k : Int) : Qk big t p k = some (FN t p k) := by
 rw [Gy, ZcB p hp.b, Option.bind_some, ZmY p hp.b.row, Option.bind_some, H9 t ht, Option.bind_some];unfold FN;cases he : ZmP t k (Uh p) with
 | false => rfl
 | true =>
  obtain ⟨f1, f2, f3⟩ := VO t k (Uh p);simp only [Bool.not_true, cond_true, cond_false];rw [ZmZ p hp, Option.bind_some, Option.bind_some, Py t ht, Option.bind_some];have := ZpQ t h (JX t k (Uh p)) (by omega) f2 big 0 (Rp p) (by unfold big; omega) (by omega) (by have := hp.row; show List.length p.2.2.2.2.2.1 ≤ _; omega) (Ny hp);rw [Int.natCast_zero, List.drop_zero] at this;exact this
theorem Zrd {t : List Zy} (h : Nu t) (ht : t.length ≤ 1048576) {p : Zo} (hp : Ro p) (k : Int) : Ns (FN t p k) := by
 unfold FN;cases ZmP t k (Uh p) with
 | false => exact hp.b
 | true =>
  obtain ⟨f1, f2, f3⟩ := VO t k (Uh p);obtain ⟨g1, g2⟩ := ZmM h (JX t k (Uh p));have hr := hp.row;refine ⟨?_, (ZcI _ (Ny hp) g2).len, by simp [Zwn, Rp], by simp [Zwn, Rp], hp.b.votes, hp.b.news⟩;show (p.2.2.2.2.2.1 ++ JX t k (Uh p)).length ≤ 16777216;rw [List.length_append]; omega
def ZxC (t : List Zy) (p : Zo) (row : List Int) : Zo := (p.1, p.2.1, p.2.2.1, p.2.2.2.1, p.2.2.2.2.1, p.2.2.2.2.2.1, A6 p.2.2.2.2.2.2.1 (Rn t row), p.2.2.2.2.2.2.2.1 ++ row, p.2.2.2.2.2.2.2.2.1 ++ DG p.2.2.2.2.2.2.1 (Rn t row), p.2.2.2.2.2.2.2.2.2)
theorem ZpR (t : List Zy) (h : Nu t) (row : List Int) (hr : row.length ≤ 1048576) (hm : ∀ y ∈ row, 0 < y ∧ y < t.length) : ∀ (n i : Nat) (p : Zo), row.length < n + i → i ≤ row.length → List.length p.2.2.2.2.2.2.2.1 ≤ i → List.length p.2.2.2.2.2.2.2.2.1 + (Rn t (row.drop i)).length ≤ 16777216 → Xn p.2.2.2.2.2.2.1 →
  Vt n t (i : Int) 0 0 0 0 0 0 0 0 0 0 0 0 0 0 [] [] [] [] [] [] 0 p.1 p.2.1 p.2.2.1.1 p.2.2.1.2.1 p.2.2.1.2.2.1 p.2.2.1.2.2.2.1 p.2.2.2.1.1 p.2.2.2.1.2.1 p.2.2.2.1.2.2.1 p.2.2.2.1.2.2.2.1 p.2.2.2.2.1.1 p.2.2.2.2.1.2.1 p.2.2.2.2.1.2.2.1 p.2.2.2.2.1.2.2.2.1
   p.2.2.2.2.2.1 p.2.2.2.2.2.2.1 p.2.2.2.2.2.2.2.1 p.2.2.2.2.2.2.2.2.1 p.2.2.2.2.2.2.2.2.2.1 p.2.2.2.2.2.2.2.2.2.2.1 p.2.2.2.2.2.2.2.2.2.2.2.1 row = some (ZxC t p (row.drop i))
 | 0, i, p, h1, h2, _, _, _ => by omega
 | n + 1, i, p, h1, h2, h3, h4, hc => by
  rcases Nat.lt_or_ge i row.length with hi | hi
  ·obtain ⟨m1, m2⟩ := hm _ (List.getElem_mem hi)
   have hk : Int.toNat row[i] < t.length := by omega
   have hb := List.getElem_mem hk;have e : Rn t (row.drop i) = t[Int.toNat row[i]].2.2.1 ++ Rn t (row.drop (i + 1)) := by
    rw [List.drop_eq_getElem_cons hi];have hbk : Zm8 t row[i] = t[Int.toNat row[i]].2.2.1 := by
     unfold Zm8;rw [decide_eq_true (show (0 : Int) ≤ row[i] by omega), cond_true, decide_eq_true (show row[i] ≤ (t.length : Int) - 1 by omega), Z3 hk]; rfl
    rw [← hbk]; rfl
   rw [e, List.length_append] at h4;have hul : (DG p.2.2.2.2.2.2.1 t[Int.toNat row[i]].2.2.1).length = List.length t[Int.toNat row[i]].2.2.1 := E9 _ _;rw [Vd, decide_eq_true (by omega), cond_true];simp only [if_pos (show (0 : Int) ≤ (i : Int) by omega), if_pos (show (i : Int) < (row.length : Int) by omega), Int.toNat_natCast, Z3 hi, Option.bind_some, if_pos (show (0 : Int) ≤ row[i] by omega), Z3 hk];rw [ZmT _ hc _ (Nat.le_trans (h.cmds _ hb) (by decide)) (h.key _ hb), Option.bind_some, if_pos (by unfold lim; simp only [List.length_singleton]; omega),
    if_pos (show List.length p.2.2.2.2.2.2.2.2.1 + (DG p.2.2.2.2.2.2.1 t[Int.toNat row[i]].2.2.1).length ≤ lim by unfold lim; omega), Yn (by omega)]
   have ih := ZpR t h row hr hm n (i + 1) (p.1, p.2.1, p.2.2.1, p.2.2.2.1, p.2.2.2.2.1, p.2.2.2.2.2.1, A6 p.2.2.2.2.2.2.1 t[Int.toNat row[i]].2.2.1, p.2.2.2.2.2.2.2.1 ++ [row[i]], p.2.2.2.2.2.2.2.2.1 ++ DG p.2.2.2.2.2.2.1 t[Int.toNat row[i]].2.2.1, p.2.2.2.2.2.2.2.2.2) (by omega) (by omega)
    (by simp only [List.length_append, List.length_singleton]; omega) (by rw [List.length_append]; omega) (ZcI _ hc (h.key _ hb))
   refine Eq.trans ih ?_;unfold ZxC;rw [e, Pv, Pz];dsimp only;rw [List.append_assoc, List.append_assoc, List.drop_eq_getElem_cons hi];rfl
  ·have e : i = row.length := by omega
   subst e;rw [Vd, decide_eq_false (by omega), cond_false, List.drop_length];unfold ZxC;rw [List.append_nil];show _ = some (p.1, p.2.1, p.2.2.1, p.2.2.2.1, p.2.2.2.2.1, p.2.2.2.2.2.1, p.2.2.2.2.2.2.1, p.2.2.2.2.2.2.2.1, p.2.2.2.2.2.2.2.2.1 ++ [], p.2.2.2.2.2.2.2.2.2);rw [List.append_nil]
def Zts (t : List Zy) (p : Zo) (k : Int) : Zo := ZxC t (Rp p) (JX t k (Uh p))
theorem Ib {t : List Zy} (ht : Nw t 0 ≤ 1048576) (k u : Int) : (Rn t (JX t k u)).length ≤ 1048576 := by
 obtain ⟨f1, f2, f3⟩ := VO t k u;exact Nat.le_trans (ZmQ t (JX t k u) 0 f1 (fun y hy => ⟨by have := f2 y hy; omega, (f2 y hy).2⟩)) ht
theorem Zm0 (t : List Zy) (h : Nu t) (ht : t.length ≤ 1048576) (hs : Nw t 0 ≤ 1048576) (p : Zo) (hp : Ro p) (k : Int) : EX big t p k = some (Zts t p k) := by
 obtain ⟨f1, f2, f3⟩ := VO t k (Uh p);obtain ⟨g1, g2⟩ := ZmM h (JX t k (Uh p));have hl := Ib hs k (Uh p);rw [Zb9, ZcN p hp, Option.bind_some, ZmX p hp.b.row, Option.bind_some, Px t ht, Option.bind_some, ZpI t h _ (by omega), Option.bind_some,
  show (Rp p).2.2.2.2.2.2.1 = Ztq p from rfl, ZmS _ (Ny hp) _ (by omega) g2]
 rfl
theorem Zm1 (t : List Zy) (h : Nu t) (ht : t.length ≤ 1048576) (hs : Nw t 0 ≤ 1048576) (p : Zo) (hp : Ro p) (k : Int) : V6 big t p k = some (Zts t p k) := by
 obtain ⟨f1, f2, f3⟩ := VO t k (Uh p);have hl := Ib hs k (Uh p);rw [Eh, ZcB p hp.b, Option.bind_some, ZmZ p hp, Option.bind_some, ZmY p hp.b.row, Option.bind_some, Py t ht, Option.bind_some];have := ZpR t h (JX t k (Uh p)) (by omega) f2 big 0 (Rp p) (by unfold big; omega) (by omega) (by simp [Rp]) (by rw [List.drop_zero]; show 0 + _ ≤ _; omega) (Ny hp);rw [Int.natCast_zero, List.drop_zero] at this;exact this
theorem ZuB {t : List Zy} (h : Nu t) (ht : t.length ≤ 1048576) (hs : Nw t 0 ≤ 1048576) {p : Zo} (hp : Ro p) (k : Int) : Ns (Zts t p k) := by
 obtain ⟨f1, f2, f3⟩ := VO t k (Uh p);obtain ⟨g1, g2⟩ := ZmM h (JX t k (Uh p));have hl := Ib hs k (Uh p);refine ⟨hp.b.row, (ZcI _ (Ny hp) g2).len, ?_, ?_, hp.b.votes, hp.b.news⟩
 ·show (([] : List Int) ++ JX t k (Uh p)).length ≤ 16777216
  rw [List.nil_append]; omega
 ·show (([] : List Yg) ++ DG (Ztq p) (Rn t (JX t k (Uh p)))).length ≤ 16777216
  rw [List.nil_append, E9]; omega
theorem Zzp : ∀ (m n : Nat) (i : Int) (l : List Xf) (c : ZL), 0 ≤ i → i ≤ 4 → (4 : Int) ≤ i + m → m < n → (l.length : Int) ≤ i → (∀ x ∈ l, ByteArray.size x.2.1 ≤ 1000) → DF c → Ok (Zy6 n l i c.1 c.2.1 c.2.2.1) fun r => List.length r.1 ≤ 4 ∧ (∀ x ∈ r.1, ByteArray.size x.2.1 ≤ 1000) ∧ DF r.2.1 := by
 intro m
 induction m with
 | zero =>
  intro n i l c h0 h1 h2 h3 h4 h5 h6;obtain ⟨n, rfl⟩ : ∃ m, n = m + 1 := ⟨n - 1, by omega⟩
  rw [Zza];refine Zc (Y0 (c := (c.1, c.2.1, c.2.2.1, ())) h6 5) fun y hy => ?_;have := hy.2.1 (by decide);exact Zk (fun h => by omega) fun _ => Za ⟨by show l.length ≤ 4; omega, h5, hy.2.2.2⟩
 | succ m ih =>
  intro n i l c h0 h1 h2 h3 h4 h5 h6;obtain ⟨n, rfl⟩ : ∃ m, n = m + 1 := ⟨n - 1, by omega⟩
  rw [Zza];refine Zc (Y0 (c := (c.1, c.2.1, c.2.2.1, ())) h6 5) fun y hy => ?_;have := hy.2.1 (by decide);rw [ZI (n := i + 1) (by omega) (by omega)];refine Zk (fun h => Zc (Zu6 hy.2.2.2) fun z hz => ZA (by unfold lim; omega) (ih n (i + 1) _ z.2.1 (by omega) (by omega) (by omega) (by omega) (by rw [Xr]; omega) (fun x hx => ?_) hz.1)) fun _ => Za ⟨by show l.length ≤ 4; omega, h5, hy.2.2.2⟩;rcases List.mem_append.1 hx with hx | hx
  ·exact h5 x hx
  ·rw [List.mem_singleton.1 hx]; exact hz.2
theorem Zzn {c : ZL} (hc : DF c) : Ok (Zy5 big c) fun r => List.length r.1 ≤ 4 ∧ (∀ x ∈ r.1, ByteArray.size x.2.1 ≤ 1000) ∧ DF r.2.1 := by
 rw [Zzh];exact Zzp 4 big 0 [] c (by decide) (by decide) (by decide) (by decide) (by decide) (fun x hx => by cases hx) hc
theorem Zzs {c : ZL} (hc : DF c) : Ok (Zy7 big c) fun r => DF r.2.1 := by
 rw [Zzk];exact Zc (Zu6 hc) fun y hy => Zc (Y0 hy.1 8) fun z hz => Zk (fun _ => Zc (Y0 hz.2.2.2 5) fun w hw => Za hw.2.2.2) fun _ => Zk (fun _ => Zc (Zxc hz.2.2.2 _ (by decide)) fun w hw => Za hw.2) fun _ => Zk (fun _ => Zc (JV hz.2.2.2 _ (by decide)) fun w hw => Za hw.2) fun _ => Za hz.2.2.2
theorem Zzv {t : List Zy} {k : Int} (h0 : 0 ≤ k) (h1 : k < t.length) (a : Int) (l : List Xf) (ph : Int) : Ok (Zy8 big t k a l ph) fun b => b.2.2.1 = l := by
 rw [Zzm];exact ZA h0 (ZW (by omega) fun _ _ => ZA h0 (ZW (by omega) fun _ _ => Zk (fun _ => Za rfl) fun _ => Za rfl))
theorem Zzo (ph : Int) : ∀ (m n : Nat) (i : Int) (t : List Zy) (c : ZL), 0 ≤ i → i ≤ 9 → (9 : Int) ≤ i + m → m < n → X5 t → DF c → Ok (Zy2 n t ph i c.1 c.2.1 c.2.2.1) fun r => X5 r.1 ∧ DF r.2.1 := by
 intro m
 induction m with
 | zero =>
  intro n i t c h0 h1 h2 h3 ht hc;obtain ⟨n, rfl⟩ : ∃ m, n = m + 1 := ⟨n - 1, by omega⟩
  rw [Zy9];refine Zc (Y0 (c := (c.1, c.2.1, c.2.2.1, ())) hc 9) fun y hy => ?_;have := hy.2.1 (by decide);exact Zk (fun h => by omega) fun _ => Za ⟨ht, hy.2.2.2⟩
 | succ m ih =>
  intro n i t c h0 h1 h2 h3 ht hc;obtain ⟨n, rfl⟩ : ∃ m, n = m + 1 := ⟨n - 1, by omega⟩
  have hlo := ht.lo; have hhi := ht.hi;rw [Zy9, ZI (n := (↑(List.length t) : Int) - 1) (by omega) (by omega)];refine Zc (Y0 (c := (c.1, c.2.1, c.2.2.1, ())) hc 9) fun y hy => ?_;have hy9 := hy.2.1 (by decide);rw [ZI (n := i + 1) (by omega) (by omega)];have put : ∀ (k a : Int) (l : List Xf) (c' : ZL), 0 ≤ k → k < t.length → l.length ≤ 4 → (∀ x ∈ l, ByteArray.size x.2.1 ≤ 1000) → DF c' → i < y.1 →
    Ok ((Zy8 big t k a l ph).bind fun b => (Wh big t b).bind fun w => Zy2 n w.1 ph (i + 1) c'.1 c'.2.1 c'.2.2.1) fun r => X5 r.1 ∧ DF r.2.1 := fun k a l c' k0 k1 hl hk hc' hi =>
   Zc (Zzv k0 k1 a l ph) fun b hb => Zc (ZgL ht b (by rw [hb]; exact hk) (by rw [hb]; omega)) fun w hw => ih n (i + 1) w.1 c' (by omega) (by omega) (by omega) (by omega) hw.1 hc'
  refine Zk (fun hi => Zc (ZsM hy.2.2.2 4) fun z hz => Yp (fun _ => Zc (Y0 hz _) fun w hw => Zc (ZsM hw.2.2.2 4) fun v hv => Yp (fun _ => Zc (Zzn hv) fun u hu => ?_) fun _ => Zc (Zzn hv) fun u hu => ?_) fun _ => Zc (ZsM hz 4) fun v hv => Yp (fun _ => Zc (Zzn hv) fun u hu => ?_) fun _ => Zc (Zzn hv) fun u hu => ?_) fun _ => Za ⟨ht, hy.2.2.2⟩
  ·exact put _ _ _ u.2.1 hw.1 (hw.2.1 (by omega)) hu.1 hu.2.1 hu.2.2 hi
  ·exact put _ _ _ u.2.1 hw.1 (hw.2.1 (by omega)) hu.1 hu.2.1 hu.2.2 hi
  ·exact put _ _ _ u.2.1 (by omega) (by omega) hu.1 hu.2.1 hu.2.2 hi
  ·exact put _ _ _ u.2.1 (by omega) (by omega) hu.1 hu.2.1 hu.2.2 hi
theorem Zzq {c : ZL} (hc : DF c) : Ok (Zzb big c) fun r => X5 r.1 ∧ DF r.2.1 := by
 rw [Zzg];exact Zc (JV hc _ (by decide)) fun y hy => Zzo _ 9 big 0 _ y.2.1 (by decide) (by decide) (by decide) (by decide) Zuw hy.2
theorem Zwf {c : ZL} (hc : DF c) {t : List Zy} (h1 : 1 ≤ t.length) (h2 : t.length ≤ 1000) : Ok (JL big c t) fun r => DF r.2.1 ∧ r.2.2.1 = t := by
 rw [GG];refine Zc (Y0 hc 4) fun y hy => Zc (Y0 hy.2.2.2 4) fun z hz => Zc (Y0 hz.2.2.2 _) fun w hw => ?_;have := hw.2.1 (by omega);exact ZA hw.1 (ZA this (ZW (by omega) fun v hv => Za ⟨hw.2.2.2, rfl⟩))
theorem Zyt {c : ZL} (hc : DF c) {t : List Zy} (h1 : 1 ≤ t.length) (h2 : t.length ≤ 1000) : Ok (BN big c t) fun r => DF r.2.1 ∧ r.2.2.1 = t := by
 rw [O9];refine Zc (Y0 hc 10) fun y hy => Zc (Y0 hy.2.2.2 60) fun z hz => Zc (Zwf hz.2.2.2 h1 h2) fun w hw => Zc (JV hw.1 _ (by decide)) fun v hv => ?_;have hm := Zct hz.1 (show (0 : Int) < 5 by decide);exact Zk (fun _ => Za ⟨hv.2, hw.2⟩) fun _ => Zk (fun _ => ZA hm.1 (ZA hm.2 (ZW (by show (Int.tmod z.1 5).toNat < 5; omega) fun _ _ => Za ⟨hv.2, hw.2⟩))) fun _ => Zk (fun _ => Za ⟨hv.2, hw.2⟩) fun _ => Zk (fun _ => Za ⟨hv.2, hw.2⟩) fun _ => Za ⟨hv.2, hw.2⟩
theorem ZyZ (x a b : Int) : GH big x a b = some (decide (a ≤ x) && decide (x ≤ b)) := by
 rw [Zl0];cases decide (a ≤ x) <;> rfl
theorem Zxs {t : List Zy} {k u : Int} (h : ¬ (0 ≤ k ∧ k < t.length)) : ZmP t k u = false := by
 unfold ZmP;have : Zox t k = none := by
  cases hw : Zox t k with
  | none => rfl
  | some l => have := BZ hw; exact absurd ⟨this.1, this.2.1⟩ h
 rw [this]
theorem Ztt {t : List Zy} (h1 : 1 ≤ t.length) (h2 : t.length ≤ 1000) (q : B6) (k : Int) : ∃ v, K7 big t q k = some v ∧ Wq big t q k = some v := by
 rw [Ra, Da, H8 t (by omega), Option.bind_some, Mt, ZyZ, ZI (by omega) (by omega), Option.bind_some, Option.bind_some, H9 t (by omega), Option.bind_some]
 by_cases h : 0 ≤ k ∧ k < t.length
 ·have e : (decide ((0 : Int) ≤ k) && decide (k ≤ (↑(List.length t) : Int) - 1)) = true := by rw [decide_eq_true h.1, decide_eq_true (show k ≤ (↑(List.length t) : Int) - 1 by omega)]; rfl
  rw [e, if_pos h.1, Z3 (show k.toNat < t.length by omega)];cases ZmP t k q.2.2.1 with
  | true => exact ⟨_, rfl, rfl⟩
  | false => exact ⟨_, rfl, rfl⟩
 ·have e : (decide ((0 : Int) ≤ k) && decide (k ≤ (↑(List.length t) : Int) - 1)) = false := by
   rw [← Bool.not_eq_true];intro hb;simp only [Bool.and_eq_true, decide_eq_true_eq] at hb;omega
  rw [e, Zxs h];exact ⟨_, rfl, rfl⟩
theorem B5 {α : Type} {l : List α} (hl : l.length ≤ 16777216) {f : Nat → Int → Option Bool} (step : ∀ (n : Nat) (i : Int), 0 ≤ i → i < l.length → f n (i + 1) = some true → f (n + 1) i = some true) (done : ∀ n : Nat, f (n + 1) l.length = some true) :
  ∀ (m n i : Nat), i ≤ l.length → l.length ≤ i + m → m < n → f n (i : Int) = some true
 | m, 0, i, _, _, h => by omega
 | 0, n + 1, i, h0, h1, h2 => by
  obtain rfl : i = l.length := by omega
  exact done n
 | m + 1, n + 1, i, h0, h1, h2 => by
  by_cases hi : i < l.length
  ·exact step n i (by omega) (by omega) (by
    have := B5 hl step done m n (i + 1) (by omega) (by omega) (by omega);rw [show ((i : Int) + 1) = ((i + 1 : Nat) : Int) by omega]; exact this)
  ·obtain rfl : i = l.length := by omega
   exact done n
theorem Ztu (x : ZM) : eqD Yc x x = true := by simp [eqD]
theorem Ztv (x : Yg) : eqD YL x x = true := by simp [eqD]
theorem Zm2 (x : Z4) : eqD Z5 x x = true := by simp [eqD]
theorem ZoC (x : Zz) : eqD ZO x x = true := by simp [eqD]
theorem Zwg (x : B6) : eqD Wy x x = true := by simp [eqD]
theorem ZgZ (l : Yt) (hl : List.length l ≤ 16777216) : AS big l l = some true := by
 rw [Zci, decide_eq_true rfl, Bool.not_true, cond_false];refine B5 (f := fun n i => QL n l l i) hl (fun n i h0 h1 h => ?_) (fun n => ?_) (List.length l) big 0 (by omega) (by omega) (by unfold big; omega)
 ·have hi : i.toNat < List.length l := by omega
  rw [BV, decide_eq_true h1, cond_true, if_pos h0, Z3 hi, Option.bind_some, if_pos h0, Option.bind_some, decide_eq_true rfl, Bool.not_true, cond_false, ZI (n := i + 1) (by omega) (by omega)];exact h
 ·rw [BV, decide_eq_false (by omega), cond_false]
theorem ZoD (l : Zq) (hl : List.length l ≤ 16777216) : CZ big l l = some true := by
 rw [Rf, decide_eq_true rfl, Bool.not_true, cond_false];refine B5 (f := fun n i => UT n l l i) hl (fun n i h0 h1 h => ?_) (fun n => ?_) (List.length l) big 0 (by omega) (by omega) (by unfold big; omega)
 ·have hi : i.toNat < List.length l := by omega
  rw [AT, decide_eq_true h1, cond_true, if_pos h0, Z3 hi, Option.bind_some, if_pos h0, Option.bind_some, Ztu, Bool.not_true, cond_false, ZI (n := i + 1) (by omega) (by omega)];exact h
 ·rw [AT, decide_eq_false (by omega), cond_false]
theorem ZoE (l : YB) (hl : List.length l ≤ 16777216) : C0 big l l = some true := by
 rw [Ri, decide_eq_true rfl, Bool.not_true, cond_false];refine B5 (f := fun n i => UV n l l i) hl (fun n i h0 h1 h => ?_) (fun n => ?_) (List.length l) big 0 (by omega) (by omega) (by unfold big; omega)
 ·have hi : i.toNat < List.length l := by omega
  rw [AU, decide_eq_true h1, cond_true, if_pos h0, Z3 hi, Option.bind_some, if_pos h0, Option.bind_some, Ztv, Bool.not_true, cond_false, ZI (n := i + 1) (by omega) (by omega)];exact h
 ·rw [AU, decide_eq_false (by omega), cond_false]
theorem ZoF (l : Yq) (hl : List.length l ≤ 16777216) : C1 big l l = some true := by
 rw [Rl, decide_eq_true rfl, Bool.not_true, cond_false];refine B5 (f := fun n i => UX n l l i) hl (fun n i h0 h1 h => ?_) (fun n => ?_) (List.length l) big 0 (by omega) (by omega) (by unfold big; omega)
 ·have hi : i.toNat < List.length l := by omega
  rw [AV, decide_eq_true h1, cond_true, if_pos h0, Z3 hi, Option.bind_some, if_pos h0, Option.bind_some, Zm2, Bool.not_true, cond_false, ZI (n := i + 1) (by omega) (by omega)];exact h
 ·rw [AV, decide_eq_false (by omega), cond_false]
theorem Zju (l : ZX) (hl : List.length l ≤ 16777216) : JU big l l = some true := by
 rw [Mr, decide_eq_true rfl, Bool.not_true, cond_false];refine B5 (f := fun n i => Vh n l l i) hl (fun n i h0 h1 h => ?_) (fun n => ?_) (List.length l) big 0 (by omega) (by omega) (by unfold big; omega)
 ·have hi : i.toNat < List.length l := by omega
  rw [Ki, decide_eq_true h1, cond_true, if_pos h0, Z3 hi, Option.bind_some, if_pos h0, Option.bind_some, ZoC, Bool.not_true, cond_false, ZI (n := i + 1) (by omega) (by omega)];exact h
 ·rw [Ki, decide_eq_false (by omega), cond_false]
theorem Nz (x : Zo) (h : Ns x) : Q0 big x x = some true := by
 rw [Zco];simp only [decide_true, cond_true, Zwg, Zm2, ZgZ _ h.row, ZoD _ h.cells, ZgZ _ h.early, ZoE _ h.undos, ZoF _ h.votes, Zju _ h.news, Option.bind_some]
def FO (x : Zo) (v : Int) : Zo :=
 bif decide (x.2.1 < v) then (bif decide (v ≤ 900) then (x.1, v, x.2.2.1, x.2.2.2.1, x.2.2.2.2.1, x.2.2.2.2.2.1, x.2.2.2.2.2.2.1, x.2.2.2.2.2.2.2.1, x.2.2.2.2.2.2.2.2.1, [], [], x.2.2.2.2.2.2.2.2.2.2.2) else x) else x
theorem ZuC {x : Zo} (h : Ns x) (v : Int) : Ns (FO x v) := by
 unfold FO;cases decide (x.2.1 < v) with
 | false => exact h
 | true =>
  cases decide (v ≤ 900) with
  | false => exact h
  | true => exact ⟨h.row, h.cells, h.early, h.undos, Nat.zero_le _, Nat.zero_le _⟩
theorem ZoG (x : Zo) (h : Ns x) (v : Int) : H4 big x v = some (FO x v) := by
 rw [ZeZ, H5 x h];simp only [Option.bind_some, Zkm];rfl
theorem ZoH (x : Zo) (h : Ns x) (v : Int) : XH big x v = some (FO x v) := by
 rw [Ge, ZcB x h];simp only [Option.bind_some, Zkm];rfl
theorem X5.b {t : List Zy} (h : X5 t) : Nu t :=
 ⟨Nat.le_trans h.hi (by decide), fun y hy => Nat.le_trans (h.cmds y hy).len (by decide), fun y hy c hc => Nat.le_trans ((h.cmds y hy).key c hc) (by decide)⟩
theorem Zxt {l : List Zy} : (∀ b ∈ l, List.length b.2.2.1 ≤ 4) → (l.map fun b => List.length b.2.2.1).sum ≤ 4 * l.length := by
 intro h
 induction l with
 | nil => simp
 | cons a l ih =>
  have h1 := h a List.mem_cons_self;have h2 := ih fun b hb => h b (List.mem_cons_of_mem _ hb);simp only [List.map_cons, List.sum_cons, List.length_cons];omega
theorem X5.rest {t : List Zy} (h : X5 t) : Nw t 0 ≤ 1048576 := by
 have := Zxt fun b hb => (h.cmds b hb).len;have := h.hi;unfold Nw;rw [List.drop_zero];omega
theorem Zxu (code : List Int) (hl : code.length ≤ 1099511627776) : Ok (CY big code) fun r => X5 r.1 ∧ Zot r.2.1 := by
 rw [ZeV];exact Zc (ZvS code hl) fun c hc => Zc (Y0 hc 12) fun y hy => Zc (Zte hy.2.2.2) fun w hw => Zc (ZsM hw.2.2 2) fun z _ => Yp (fun _ => Za ⟨hw.1, hw.2.1⟩) fun _ => Za ⟨hw.1, hw.2.1⟩
theorem Zot.k {p : Zo} (h : Zot p) : Ro p := by
 obtain ⟨h1, h2, h3, h4, h5, h6⟩ := h.lens;exact ⟨⟨h1, h2, h3, h4, h5, h6⟩, Nat.le_trans h.row (by decide), fun y hy => Nat.le_trans (h.cells.key y hy) (by decide), fun y hy => Nat.le_trans (h.undos.key y hy) (by decide)⟩
theorem Zjv (code : List Int) (hl : code.length ≤ 1099511627776) : Ok (JS big code) fun r => Ns r.1 := by
 rw [Me];refine Zc (ZvS code hl) fun c hc => Zc (JV hc _ (by decide)) fun y hy => Zc (Zte hy.2) fun w hw => Za ?_;obtain ⟨h1, h2, h3, h4, h5, h6⟩ := hw.2.1.lens;exact ⟨h1, h2, h3, h4, h5, h6⟩
theorem Zzt {t : List Zy} (ht : X5 t) {c : ZL} (hc : DF c) {i : Int} (h0 : 0 ≤ i) (h1 : i < t.length) (b : Bool) (n : Nat) (hn : 0 < n) : Ok (Zy4 n t i b c.1 c.2.1 c.2.2.1) fun r => 1 ≤ List.length r.1 ∧ List.length r.1 ≤ 1000 ∧ DF r.2.1 := by
 obtain ⟨n, rfl⟩ : ∃ m, n = m + 1 := ⟨n - 1, by omega⟩
 have hlo := ht.lo; have hhi := ht.hi;rw [Zzd];refine Yp (fun _ => ZA h0 (ZA h1 (ZW (by omega) fun y hy => ?_))) fun _ => Za ⟨hlo, by show t.length ≤ 1000; omega, hc⟩;rw [ZsR y (by have := (ht.cmds y hy).len; omega), Option.bind_some];refine GV (by omega) (ZA (by rw [ZU, List.length_singleton]; unfold lim; omega) (Za ⟨?_, ?_, hc⟩))
 ·show 1 ≤ (List.append (upd t i.toNat y) [y]).length
  rw [Xr]; omega
 ·show (List.append (upd t i.toNat y) [y]).length ≤ 1000
  rw [Xr, ZU]; omega
theorem Zzu {t : List Zy} (ht : X5 t) {c : ZL} (hc : DF c) {i : Int} (h0 : 0 ≤ i) (h1 : i < t.length) (k : Int) (b : Bool) (n : Nat) (hn : 1 < n) : Ok (Zy3 n t i k b c.1 c.2.1 c.2.2.1) fun r => 1 ≤ List.length r.1 ∧ List.length r.1 ≤ 1000 ∧ DF r.2.1 := by
 obtain ⟨n, rfl⟩ : ∃ m, n = m + 1 := ⟨n - 1, by omega⟩
 have hlo := ht.lo; have hhi := ht.hi;have hi : i.toNat < t.length := by omega
 have hcm := (ht.cmds _ (List.getElem_mem hi)).len;have hy := Z3 hi;generalize t[i.toNat] = y at hcm hy;have hc' : DF (c.1, c.2.1, c.2.2.1, ()) := hc;obtain ⟨a, ea, ha⟩ := Zzs hc';have hlim : List.length y.2.2.1 + (1 : Nat) ≤ lim := by unfold lim; omega
 rw [Zzc];refine Yp (fun _ => ?_) fun _ => Zzt ht hc h0 h1 _ n (by omega);simp only [ea, hy, Option.bind_some, if_pos h0, if_pos h1, if_pos hlim, if_pos (Eq.refl i.toNat), XM, Hg hi];exact Za ⟨by rw [ZU]; exact hlo, by rw [ZU]; omega, ha⟩
theorem Zzr {c : ZL} (hc : DF c) : Ok (ZqW big c) fun r => 1 ≤ List.length r.1 ∧ List.length r.1 ≤ 1000 ∧ DF r.2.1 := by
 rw [Zzl];refine Zc (Y0 hc 12) fun y hy => Zc (Y0 hy.2.2.2 60) fun z hz => Zc (Zzq hz.2.2.2) fun w hw => ?_;obtain ⟨ht, hcu⟩ := hw;have hlo := ht.lo; have hhi := ht.hi;rw [Zxe (by omega) (fun b hb => by have := (ht.cmds b hb).len; omega), Option.bind_some];have hm := Zct hz.1 (show (0 : Int) < (↑(List.length w.1) : Int) by omega);have hi : (Int.tmod z.1 (↑(List.length w.1) : Int)).toNat < List.length w.1 := by omega
 have fin : ∀ b, 1 ≤ List.length (upd w.1 (Int.tmod z.1 (↑(List.length w.1) : Int)).toNat b) ∧ List.length (upd w.1 (Int.tmod z.1 (↑(List.length w.1) : Int)).toNat b) ≤ 1000 ∧ DF w.2.1 := fun b => by
  rw [ZU];exact ⟨hlo, by omega, hcu⟩
 exact Dz (by omega) (Zk (fun _ => ZA hm.1 (ZA hm.2 (ZW hi fun _ _ => GV hi (Za (fin _))))) fun _ => Zk (fun _ => ZA hm.1 (ZA hm.2 (ZW hi fun _ _ => GV hi (Za (fin _))))) fun _ => Zk (fun _ => ZA hm.1 (ZA hm.2 (ZW hi fun _ _ => GV hi (Za (fin _))))) fun _ =>
  Zzu ht hcu hm.1 hm.2 _ _ big (by decide))
theorem Zre (code : List Int) (hl : code.length ≤ 1099511627776) : Ok (Qo big code) fun r => 1 ≤ List.length r.1 ∧ List.length r.1 ≤ 1000 := by
 rw [FX];exact Zc (ZvS code hl) fun c hc => Zc (Y0 hc 9) fun y hy => Zc (Zzr hy.2.2.2) fun w hw => Zc (Zyt hw.2.2 hw.1 hw.2.1) fun z hz => Za (by rw [hz.2]; exact ⟨hw.1, hw.2.1⟩)
theorem Zm3 (x : Zo) (v : Int) : x.2.1 ≤ (FO x v).2.1 := by
 unfold FO
 by_cases h : x.2.1 < v
 ·rw [decide_eq_true h]
  cases decide (v ≤ 900) with
  | true => exact Int.le_of_lt h
  | false => exact Int.le_refl _
 ·rw [decide_eq_false h]; exact Int.le_refl _
theorem Zm4 (code : List Int) : Bi big code = some true := by
 rw [Nq]
 by_cases hc : (1048576 : Int) < (↑(List.length code) : Int)
 ·rw [decide_eq_true hc]; rfl
 rw [decide_eq_false hc, cond_false];have hl : code.length ≤ 1099511627776 := by omega
 obtain ⟨⟨t, p, k, ⟨⟩⟩, e1, ht, hp⟩ := Zxu code hl;obtain ⟨⟨t0, q0, k0, ⟨⟩⟩, e2, h1, h2⟩ := Zre code hl;obtain ⟨⟨x, v, ⟨⟩⟩, e3, hx⟩ := Zjv code hl;have e4 : JT big code = some (t, p, k, ()) := by rw [Mh, e1]; rfl
 have e5 : Kc big code = some (t, p, k, ()) := by rw [H3, e1]; rfl
 have ht : X5 t := ht;have hp : Zot p := hp;have hhi : List.length t ≤ 60 := ht.hi;obtain ⟨s, f1, f2⟩ := Ztt h1 h2 q0 k0;have f1 : K7 big t0 q0 k0 = some s := f1;have f2 : Wq big t0 q0 k0 = some s := f2;have g1 := ZoG x hx v;have g2 := ZoH x hx v;have s1 := Nz _ (ZuC hx v);have hk := hp.k;have a1 := ZoA t ht.b (by omega) p hk k;have a2 := ZoB t ht.b (by omega) p hk k;have s2 := Nz _ (Zrd ht.b (by omega) hk k);have b1 := Zm0 t ht.b (by omega) ht.rest p hk k;have b2 := Zm1 t ht.b (by omega) ht.rest p hk k;have s3 := Nz _ (ZuB ht.b (by omega) ht.rest hk k);have vw := Zm3 x v;simp only [e2, e3, e4, e5, f1, f2, g1, g2, s1, a1, a2, s2, b1, b2, s3, Option.bind_some, beq_self_eq_true, cond_true];rw [decide_eq_true vw, cond_true]
end Go.Sx.Tryz
