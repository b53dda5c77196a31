/- What is taken back: what both answer. -/
import Derived.Test.YtocddfdkknhgcaaGreatM8
import Derived.Test.YtocddfdkknhgcaaGreatTypes
import Derived.Test.YtocddfdkknhgcaaGreatLearnsH2
import Derived.Test.YtocddfdkknhgcaaGreatLearnsF4
import Derived.Test.YtocddfdkknhgcaaGreatLearnsF1
import Derived.Test.YtocddfdkknhgcaaGreatLearnsF2
set_option linter.unusedVariables false
set_option linter.unusedSimpArgs false
set_option maxRecDepth 100000
namespace Go.Sx.Tryz
open Go Go.Sx Go.Proofs
def Zmy (xs : List ZL) (k : ByteArray) : Yd := match Zj9 k xs with
 | none => (k, false, 0, ())
 | some m => (k, true, m, ())
theorem ZqP (xs : List ZL) (hl : xs.length ≤ 16777216) (k : ByteArray) : MU big xs k = some (Zmy xs k) := by
 rw [ZiW, MY xs k hl, Option.bind_some];unfold Zmy;rcases HN k xs 0 with ⟨h1, _, h3, _⟩ | ⟨i, y, h1, h2, h3, _, h5⟩
 ·rw [h1, h3, decide_eq_true (by omega)]; rfl
 ·rw [h1, h5, Int.zero_add, decide_eq_false (by omega), cond_false, if_pos (by omega), Int.toNat_natCast, h2]; rfl
theorem ZqQ (xs : List ZL) (hl : xs.length ≤ 16777216) (k : ByteArray) : Fn big xs k = some (Zmy xs k) := by
 rw [IM, Zgy xs k hl, Option.bind_some];unfold Zmy;rcases HN k xs 0 with ⟨h1, _, h3, _⟩ | ⟨i, y, h1, h2, h3, _, h5⟩
 ·rw [h1, h3, decide_eq_true (by omega)]; rfl
 ·rw [h1, h5, Int.zero_add, decide_eq_false (by omega), cond_false, if_pos (by omega), Int.toNat_natCast, h2]; rfl
def Du : List ZL → List Xd → List Yd
 | _, [] => []
 | xs, c :: cs => Zmy xs c.2.1 :: Du (R6 xs c).1 cs
theorem E1 : ∀ (cs : List Xd) (xs : List ZL), (Du xs cs).length = cs.length
 | [], _ => rfl
 | _ :: cs, _ => by simp only [Du, List.length_cons, E1 cs]
theorem O8 : ∀ (a b : List Xd) (xs : List ZL), Du xs (a ++ b) = Du xs a ++ Du (AZ xs a) b
 | [], _, _ => rfl
 | c :: a, b, xs => by
  simp only [List.cons_append, Du];rw [O8 a b];rfl
theorem Zco (cs : List Xd) (hl : cs.length ≤ 16777216) (hc : ∀ c ∈ cs, ByteArray.size c.2.1 ≤ 1048576) : ∀ (n i : Nat) (xs : List ZL) (us : List Yd), cs.length < n + i → i ≤ cs.length → us.length ≤ i → Xm xs →
  QM n xs us cs (cs.length : Int) (i : Int) = some (AZ xs (cs.drop i), us ++ Du xs (cs.drop i), ())
 | 0, i, xs, us, h1, h2, h3, _ => by omega
 | n + 1, i, xs, us, h1, h2, h3, h => by
  rcases Nat.lt_or_ge i cs.length with hi | hi
  ·have hm := hc _ (List.getElem_mem hi)
   rw [BQ, decide_eq_true (by omega), cond_true, mk4 (ZY hi), ZqP xs h.len, Option.bind_some, if_pos (by unfold Ztk; simp only [List.length_singleton]; omega), Zpj xs h _ hm, Option.bind_some, Yk (by omega),
    Zco cs hl hc n (i + 1) _ _ (by omega) (by omega) (by simp; omega) (Zmu h hm)]
   rw [List.drop_eq_getElem_cons hi, show ∀ (a b : List Yd), List.append a b = a ++ b from fun _ _ => rfl, List.append_assoc];rfl
  ·have e : i = cs.length := by omega
   subst e;rw [BQ, decide_eq_false (by omega), cond_false, List.drop_length];simp [AZ, Du]
theorem Zcp (cs : List Xd) (hl : cs.length ≤ 16777216) (hc : ∀ c ∈ cs, ByteArray.size c.2.1 ≤ 1048576) : ∀ (n i : Nat) (xs : List ZL) (us : List Yd), cs.length < n + i → i ≤ cs.length → us.length ≤ i → Xm xs →
  Vu n cs xs us (i : Int) = some (AZ xs (cs.drop i), us ++ Du xs (cs.drop i), ())
 | 0, i, xs, us, h1, h2, h3, _ => by omega
 | n + 1, i, xs, us, h1, h2, h3, h => by
  rcases Nat.lt_or_ge i cs.length with hi | hi
  ·have hm := hc _ (List.getElem_mem hi)
   rw [Vd, decide_eq_true (by omega), cond_true, mk4 (ZY hi), ZqQ xs h.len, Option.bind_some, if_pos (by unfold lim; simp only [List.length_singleton]; omega), mk4 (ZY hi), Zpk xs h _ hm, Option.bind_some, Yk (by omega),
    Zcp cs hl hc n (i + 1) _ _ (by omega) (by omega) (by simp; omega) (Zmu h hm)]
   rw [List.drop_eq_getElem_cons hi, show ∀ (a b : List Yd), List.append a b = a ++ b from fun _ _ => rfl, List.append_assoc];rfl
  ·have e : i = cs.length := by omega
   subst e;rw [Vd, decide_eq_false (by omega), cond_false, List.drop_length];simp [AZ, Du]
theorem Zmz (xs : List ZL) (h : Xm xs) (cs : List Xd) (hl : cs.length ≤ 16777216) (hc : ∀ c ∈ cs, ByteArray.size c.2.1 ≤ 1048576) : EN big xs cs = some (AZ xs cs, Du xs cs, ()) := by
 have := Zco cs hl hc big 0 xs [] (by unfold big; omega) (by omega) (by simp) h;rw [Int.natCast_zero, List.drop_zero, List.nil_append] at this;rw [ZbB, WZ _ h.len, Option.bind_some];exact this
theorem ZmA (xs : List ZL) (h : Xm xs) (cs : List Xd) (hl : cs.length ≤ 16777216) (hc : ∀ c ∈ cs, ByteArray.size c.2.1 ≤ 1048576) : Am big xs cs = some (AZ xs cs, Du xs cs, ()) := by
 have hl2 := h.len;have := Zcp cs hl hc big 0 xs [] (by unfold big; omega) (by omega) (by simp) h;rw [Int.natCast_zero, List.drop_zero, List.nil_append] at this;rw [D7, if_pos (by unfold lim; omega)];exact this
theorem Zpr {α : Type} : ∀ {b : List α} {i : Nat} (y : α), i < b.length → (upd b i y).take (i + 1) = b.take i ++ [y]
 | _ :: _, 0, _, _ => by simp [upd]
 | x :: b, i + 1, y, h => by
  have := Zpr (b := b) (i := i) y (by simpa using h);simp only [upd, List.take_succ_cons, List.cons_append, this]
theorem Zps {α : Type} : ∀ {b : List α} {i j : Nat} (y : α), i < j → (upd b i y).drop j = b.drop j
 | [], _, _, _, _ => rfl
 | _ :: _, 0, j + 1, _, _ => rfl
 | x :: b, i + 1, j + 1, y, h => by
  simp only [upd, List.drop_succ_cons];exact Zps y (by omega)
def ZeH (k : ByteArray) (y : ZL) : Bool := !decide (y.1 = k)
theorem Zi9 (k : ByteArray) (hd : Bool) (m : Int) : ∀ (n i j : Nat) (b : List ZL), b.length ≤ 16777216 → b.length < n + j → i < j → j ≤ b.length →
  Yh n (i : Int) (j : Int) b k hd m = some (b.take i ++ (b.drop j).filter (ZeH k), ((k, hd, m, ()), ()), ())
 | 0, i, j, b, _, h1, _, h3 => by omega
 | n + 1, i, j, b, hl, h1, h2, h3 => by
  rcases Nat.lt_or_ge j b.length with hj | hj
  ·have hi : i < b.length := by omega
   rw [Xt, decide_eq_true (by omega), cond_true, if_pos (by omega), if_pos (by omega), Int.toNat_natCast, ZY hj, Option.bind_some, List.drop_eq_getElem_cons hj, List.filter_cons];show (bif ZeH k b[j] then _ else _) = _;cases ZeH k b[j] with
   | true =>
    simp only [cond_true, if_true];rw [if_pos (by omega), if_pos (by omega), Int.toNat_natCast, ZY hi, Option.bind_some, G2 hi, Option.bind_some, Yk (by omega), Yk (by omega),
     Zi9 k hd m n (i + 1) (j + 1) _ (by rw [ZU]; exact hl) (by rw [ZU]; omega) (by omega) (by rw [ZU]; omega), Zpr _ hi, Zps _ (by omega), List.append_assoc]
    rfl
   | false =>
    simp only [cond_false, Bool.false_eq_true, if_false];rw [Yk (by omega), Zi9 k hd m n i (j + 1) b hl (by omega) (by omega) (by omega)]
  ·have e : j = b.length := by omega
   subst e;have hlen : (List.append (b.take i) (List.append (List.replicate (b.length - i) (ZR Z9)) (b.drop (i + (b.length - i))))).length = b.length := by
    simp only [show ∀ a c : List ZL, List.append a c = a ++ c from fun _ _ => rfl, List.length_append, List.length_take, List.length_replicate, List.length_drop]; omega
   rw [Xt, decide_eq_false (by omega), cond_false];simp only [Int.toNat_natCast];rw [if_pos (by omega), if_pos (by omega), if_pos (by omega), if_pos (by omega), if_pos (by rw [show (List.append (b.take i) (List.append (List.replicate (b.length - i) (ZR Zo)) (b.drop (i + (b.length - i))))).length = b.length from hlen]; omega)];rw [List.drop_length, Nat.sub_zero, List.drop_zero];have ht : List.take i (List.append (b.take i) (List.append (List.replicate (b.length - i) (ZR Zo)) (b.drop (i + (b.length - i))))) = b.take i :=
    List.take_left' (by rw [List.length_take]; omega)
   rw [ht];simp
theorem ZgE {p : ZL → Bool} : ∀ {l : List ZL} (j : Int), 0 ≤ j → (L6 p l j = -1 ∧ l.filter (fun y => !p y) = l) ∨ ∃ i : Nat, L6 p l j = j + i ∧ i < l.length ∧ l.filter (fun y => !p y) = l.take i ++ (l.drop (i + 1)).filter (fun y => !p y)
 | [], _, _ => .inl ⟨rfl, rfl⟩
 | y :: l, j, h => by
  cases hp : p y with
  | true =>
   refine .inr ⟨0, by simp only [L6, hp, cond_true]; omega, by simp, ?_⟩;rw [List.filter_cons, hp]; rfl
  | false =>
   rcases ZgE (p := p) (l := l) (j + 1) (by omega) with ⟨h1, h2⟩ | ⟨i, h1, h2, h3⟩
   ·refine .inl ⟨by simp only [L6, hp, cond_false]; exact h1, ?_⟩
    rw [List.filter_cons, hp, h2]; rfl
   ·refine .inr ⟨i + 1, by simp only [L6, hp, cond_false]; omega, by simp only [List.length_cons]; omega, ?_⟩
    rw [List.filter_cons, hp, h3]; rfl
theorem Zui (xs : List ZL) (hl : xs.length ≤ 16777216) (u : Yd) : Xc big xs (u, ()) = some (xs.filter (ZeH u.1), (u, ()), ()) := by
 have hi : Xf big xs (u, ()) = some (L6 (isK u.1) xs 0, (u, ()), ()) := by
  rw [Ui];exact ZuF (xs := xs) (p := isK u.1) (c := ((u, ()), ())) (r := fun n i => YE n xs (xs.length : Int) i u.1 u.2.1 u.2.2.1) (n := big) (fun n i hi => by
   rw [Xz, decide_eq_true (by omega), cond_true, mk4 (ZY hi), Yk (by omega)]
   rfl) (fun n => by
   rw [Xz, decide_eq_false (Int.lt_irrefl _)]
   rfl) (Nat.lt_of_le_of_lt hl (by decide))
 rw [VS, hi, Option.bind_some];rcases ZgE (p := isK u.1) (l := xs) 0 (by omega) with ⟨h1, h2⟩ | ⟨i, h1, h2, h3⟩
 ·rw [h1, decide_eq_true rfl, cond_true]
  rw [show xs.filter (ZeH u.1) = xs from h2]
 ·rw [h1, Int.zero_add, decide_eq_false (by omega), cond_false, Yk (by omega), Zi9 _ _ _ big i (i + 1) xs hl (by unfold big; omega) (by omega) (by omega)]
  rw [show xs.filter (ZeH u.1) = _ from h3];rfl
def Zob (xs : List ZL) (u : Yd) : List ZL :=
 bif okB xs then (bif ZcK u.1 then (bif R5 u.2.2.1 then (bif u.2.1 then HR u.1 u.2.2.1 xs else xs.filter (ZeH u.1)) else xs) else xs) else xs
theorem Zoc {xs : List ZL} (h : Xm xs) {u : Yd} (hu : ByteArray.size u.1 ≤ 1048576) : Xm (Zob xs u) := by
 unfold Zob;cases ho : okB xs with
 | false => exact h
 | true =>
  cases ZcK u.1 with
  | false => exact h
  | true =>
   cases R5 u.2.2.1 with
   | false => exact h
   | true =>
    cases u.2.1 with
    | true => exact ZvW h (AV ho).2 (AV ho).1 hu _
    | false =>
     refine ⟨Nat.le_trans (List.length_filter_le ..) h.len, fun y hy => ?_⟩;exact h.key y (List.mem_filter.1 hy).1
theorem ZqR (xs : List ZL) (h : Xm xs) (u : Yd) (hu : ByteArray.size u.1 ≤ 1048576) : MT big xs u = some (Zob xs u) := by
 rw [ZiT, WZ _ h.len, Option.bind_some, HM xs h, Option.bind_some];unfold Zob;cases ho : okB xs with
 | false => rfl
 | true =>
  simp only [Bool.not_true, cond_false, cond_true];rw [Zce _ hu, Option.bind_some];cases ZcK u.1 with
  | false => rfl
  | true =>
   simp only [Bool.not_true, cond_false, cond_true];rw [Zn7, Option.bind_some];cases R5 u.2.2.1 with
   | false => rfl
   | true =>
    simp only [Bool.not_true, cond_false, cond_true];rw [Zgz xs h (AV ho).1, Zui xs h.len];cases u.2.1 <;> rfl
theorem M3 (xs : List ZL) (hl : xs.length ≤ 16777216) (k : ByteArray) (hd : Bool) (m : Int) : ∀ (n i : Nat) (acc : List ZL), xs.length < n + i → i ≤ xs.length → acc.length ≤ i → V9 n xs acc (i : Int) k hd m = some (acc ++ (xs.drop i).filter (ZeH k))
 | 0, i, acc, h1, h2, h3 => by omega
 | n + 1, i, acc, h1, h2, h3 => by
  rcases Nat.lt_or_ge i xs.length with hi | hi
  ·rw [UB, decide_eq_true (by omega), cond_true, mk4 (ZY hi), mk4 (ZY hi), if_pos (by unfold lim; simp only [List.length_singleton]; omega), Yk (by omega), List.drop_eq_getElem_cons hi, List.filter_cons]
   show (bif ZeH k xs[i] then _ else _) = _;cases ZeH k xs[i] with
   | true =>
    rw [cond_true, M3 xs hl k hd m n (i + 1) _ (by omega) (by omega) (by simp; omega)];simp
   | false =>
    rw [cond_false, M3 xs hl k hd m n (i + 1) _ (by omega) (by omega) (by omega)];simp
  ·have e : i = xs.length := by omega
   subst e;rw [UB, decide_eq_false (by omega), cond_false, List.drop_length];simp
theorem ZqS (xs : List ZL) (h : Xm xs) (u : Yd) (hu : ByteArray.size u.1 ≤ 1048576) : Fp big xs u = some (Zob xs u) := by
 have hl := h.len;rw [IN, Zcg xs h, Option.bind_some, if_pos (by unfold lim; omega)];unfold Zob;cases ho : okB xs with
 | false => rfl
 | true =>
  simp only [Bool.not_true, cond_false, cond_true];rw [Zcf _ hu, Option.bind_some];cases ZcK u.1 with
  | false => rfl
  | true =>
   simp only [Bool.not_true, cond_false, cond_true];rw [CT, Option.bind_some];show (bif !R5 u.2.2.1 then _ else _) = _;cases R5 u.2.2.1 with
   | false => rfl
   | true =>
    simp only [Bool.not_true, cond_false, cond_true];have e1 : Xe big xs (u.1, u.2.2) = some (HR u.1 u.2.2.1 xs) := Zph xs hl (AV ho).1 u.1 u.2.2.1;have e2 := M3 xs hl u.1 u.2.1 u.2.2.1 big 0 [] (by unfold big; omega) (by omega) (by simp);rw [Int.natCast_zero, List.drop_zero, List.nil_append] at e2;rw [e1, e2];cases u.2.1 <;> rfl
def ZmB (xs : List ZL) (us : List Yd) : List ZL := us.foldr (fun u x => Zob x u) xs
theorem ZvX {us : List Yd} (hu : ∀ u ∈ us, ByteArray.size u.1 ≤ 1048576) {xs : List ZL} (h : Xm xs) : Xm (ZmB xs us) := by
 induction us with
 | nil => exact h
 | cons u us ih => exact Zoc (ih (fun v hv => hu v (by simp [hv]))) (hu u (by simp))
theorem ZmC (us : List Yd) (hl : us.length ≤ 16777216) (hu : ∀ u ∈ us, ByteArray.size u.1 ≤ 1048576) : ∀ (n i : Nat) (xs : List ZL), i < n → i ≤ us.length → Xm xs → UT n us xs ((i : Int) - 1) = some (ZmB xs (us.take i))
 | 0, i, xs, h1, _, _ => by omega
 | n + 1, 0, xs, h1, h2, h => by
  rw [AI, decide_eq_false (by omega), cond_false];rfl
 | n + 1, i + 1, xs, h1, h2, h => by
  have hi : i < us.length := by omega
  have hm := hu _ (List.getElem_mem hi);rw [show ((i + 1 : Nat) : Int) - 1 = (i : Int) by omega, AI, decide_eq_true (by omega), cond_true, mk4 (ZY hi), ZqR xs h _ hm, Option.bind_some, ZH (n := (i : Int) - 1) (by omega) (by omega),
   ZmC us hl hu n i _ (by omega) (by omega) (Zoc h hm), List.take_succ_eq_append_getElem hi]
  unfold ZmB;rw [List.foldr_append];rfl
theorem ZmD (us : List Yd) (hl : us.length ≤ 16777216) (hu : ∀ u ∈ us, ByteArray.size u.1 ≤ 1048576) : ∀ (n i : Nat) (xs : List ZL), i < n → i ≤ us.length → Xm xs → WS n us xs ((i : Int) - 1) = some (ZmB xs (us.take i))
 | 0, i, xs, h1, _, _ => by omega
 | n + 1, 0, xs, h1, h2, h => by
  rw [WE, decide_eq_false (by omega), cond_false];rfl
 | n + 1, i + 1, xs, h1, h2, h => by
  have hi : i < us.length := by omega
  have hm := hu _ (List.getElem_mem hi);rw [show ((i + 1 : Nat) : Int) - 1 = (i : Int) by omega, WE, decide_eq_true (by omega), cond_true, mk4 (ZY hi), ZqS xs h _ hm, Option.bind_some, ZH (n := (i : Int) - 1) (by omega) (by omega),
   ZmD us hl hu n i _ (by omega) (by omega) (Zoc h hm), List.take_succ_eq_append_getElem hi]
  unfold ZmB;rw [List.foldr_append];rfl
theorem Zja (xs : List ZL) (h : Xm xs) (us : List Yd) (hl : us.length ≤ 16777216) (hu : ∀ u ∈ us, ByteArray.size u.1 ≤ 1048576) : CM big xs us = some (ZmB xs us) := by
 have := ZmC us hl hu big us.length xs (by unfold big; omega) (Nat.le_refl _) h;rw [List.take_length] at this;rw [PH, WZ _ h.len, Option.bind_some, ZH (by omega) (by omega)];exact this
theorem Zjb (xs : List ZL) (h : Xm xs) (us : List Yd) (hl : us.length ≤ 16777216) (hu : ∀ u ∈ us, ByteArray.size u.1 ≤ 1048576) : KO big xs us = some (ZmB xs us) := by
 have hl2 := h.len;have := ZmD us hl hu big us.length xs (by unfold big; omega) (Nat.le_refl _) h;rw [List.take_length] at this;rw [C3, if_pos (by unfold lim; omega), ZH (by omega) (by omega)];exact this
structure CU (p : Zn) : Prop where
 b : ZeG p
 row : List.length p.2.2.2.2.2.1 ≤ 1048576
 cells : ∀ y ∈ p.2.2.2.2.2.2.1, ByteArray.size y.1 ≤ 1048576
 undos : ∀ y ∈ p.2.2.2.2.2.2.2.2.1, ByteArray.size y.1 ≤ 1048576
theorem CU.cB {p : Zn} (h : CU p) : Xm p.2.2.2.2.2.2.1 := ⟨h.b.cells, h.cells⟩
def Zs7 (p : Zn) : List ZL := ZmB p.2.2.2.2.2.2.1 p.2.2.2.2.2.2.2.2.1
theorem HP {p : Zn} (h : CU p) : Xm (Zs7 p) := ZvX h.undos h.cB
def PY (p : Zn) : Zn := (p.1, p.2.1, p.2.2.1, p.2.2.2.1, p.2.2.2.2.1, p.2.2.2.2.2.1, Zs7 p, [], [], p.2.2.2.2.2.2.2.2.2)
def Wu (p : Zn) : Int := match p.2.2.2.2.2.1.getLast? with | none => 0 | some k => k
theorem Zs8 {xs : List Int} (h : 0 < xs.length) : xs.getLast? = some xs[xs.length - 1] := by
 rw [List.getLast?_eq_getElem?, List.getElem?_eq_getElem (by omega)]
theorem ZmE (p : Zn) (h : List.length p.2.2.2.2.2.1 ≤ 16777216) : JP big p = some (Wu p) := by
 rw [Zet];unfold Wu
 by_cases h0 : p.2.2.2.2.2.1.length = 0
 ·rw [decide_eq_true (by omega), cond_true, List.length_eq_zero_iff.1 h0]; rfl
 ·have hi : p.2.2.2.2.2.1.length - 1 < p.2.2.2.2.2.1.length := by omega
  rw [decide_eq_false (by omega), cond_false, ZH (by omega) (by omega), if_pos (by omega), show ((List.length p.2.2.2.2.2.1 : Int) - 1).toNat = p.2.2.2.2.2.1.length - 1 by omega, ZY hi, Zs8 (by omega)];rfl
theorem ZmF (p : Zn) (h : List.length p.2.2.2.2.2.1 ≤ 16777216) : Qn big p = some (Wu p) := by
 rw [F9];unfold Wu
 by_cases h0 : p.2.2.2.2.2.1.length = 0
 ·rw [decide_eq_true (by omega), cond_true, List.length_eq_zero_iff.1 h0]; rfl
 ·have hi : p.2.2.2.2.2.1.length - 1 < p.2.2.2.2.2.1.length := by omega
  rw [decide_eq_false (by omega), cond_false, ZH (by omega) (by omega), if_pos (by omega), show ((List.length p.2.2.2.2.2.1 : Int) - 1).toNat = p.2.2.2.2.2.1.length - 1 by omega, ZY hi, Zs8 (by omega)];rfl
theorem Zcq (p : Zn) (h : CU p) : Ja big p = some (PY p) := by
 rw [PJ, JS p h.b, Option.bind_some, Zja _ h.cB _ h.b.undos h.undos, Option.bind_some];rfl
theorem ZmG (p : Zn) (h : CU p) : JE big p = some ((), PY p, ()) := by
 rw [Gg, Zjb _ h.cB _ h.b.undos h.undos, Option.bind_some];rfl
def Zv5 (t : List Zv) (p : Zn) (row : List Int) : Zn := (p.1, p.2.1, p.2.2.1, p.2.2.2.1, p.2.2.2.2.1, p.2.2.2.2.2.1 ++ row, AZ p.2.2.2.2.2.2.1 (PX t row), p.2.2.2.2.2.2.2)
theorem Zpt (t : List Zv) (h : M0 t) (row : List Int) (hr : row.length ≤ 1048576) (hm : ∀ y ∈ row, 0 < y ∧ y < t.length) : ∀ (n i : Nat) (p : Zn), row.length < n + i → i ≤ row.length → List.length p.2.2.2.2.2.1 ≤ 1048576 + i → Xm p.2.2.2.2.2.2.1 →
  UD n t (i : Int) 0 0 0 0 0 0 0 0 0 0 0 0 0 0 [] [] [] [] [] [] 0 p.1 p.2.1 p.2.2.1.1 p.2.2.1.2.1 p.2.2.1.2.2.1 p.2.2.1.2.2.2.1 p.2.2.2.1.1 p.2.2.2.1.2.1 p.2.2.2.1.2.2.1 p.2.2.2.1.2.2.2.1 p.2.2.2.2.1.1 p.2.2.2.2.1.2.1 p.2.2.2.2.1.2.2.1 p.2.2.2.2.1.2.2.2.1
   p.2.2.2.2.2.1 p.2.2.2.2.2.2.1 p.2.2.2.2.2.2.2.1 p.2.2.2.2.2.2.2.2.1 p.2.2.2.2.2.2.2.2.2.1 p.2.2.2.2.2.2.2.2.2.2.1 p.2.2.2.2.2.2.2.2.2.2.2.1 row = some (Zv5 t p (row.drop i))
 | 0, i, p, h1, h2, _, _ => by omega
 | n + 1, i, p, h1, h2, h3, hc => by
  rcases Nat.lt_or_ge i row.length with hi | hi
  ·obtain ⟨m1, m2⟩ := hm _ (List.getElem_mem hi)
   have hk : Int.toNat row[i] < t.length := by omega
   have hb := List.getElem_mem hk;have e : PX t (row.drop i) = t[Int.toNat row[i]].2.2.1 ++ PX t (row.drop (i + 1)) := by
    rw [List.drop_eq_getElem_cons hi];have hbk : ZmN t row[i] = t[Int.toNat row[i]].2.2.1 := by
     unfold ZmN;rw [decide_eq_true (show (0 : Int) ≤ row[i] by omega), cond_true, decide_eq_true (show row[i] ≤ (t.length : Int) - 1 by omega), ZY hk]; rfl
    rw [← hbk]; rfl
   rw [VE, decide_eq_true (by omega), cond_true];simp only [if_pos (show (0 : Int) ≤ (i : Int) by omega), if_pos (show (i : Int) < (row.length : Int) by omega), Int.toNat_natCast, ZY hi, Option.bind_some, if_pos (show (0 : Int) ≤ row[i] by omega), ZY hk];rw [if_pos (by unfold lim; simp only [List.length_singleton]; omega), Zn9 _ hc _ (Nat.le_trans (h.cmds _ hb) (by decide)) (h.key _ hb), Option.bind_some, Yk (by omega)];have ih := Zpt t h row hr hm n (i + 1) (p.1, p.2.1, p.2.2.1, p.2.2.2.1, p.2.2.2.2.1, p.2.2.2.2.2.1 ++ [row[i]], AZ p.2.2.2.2.2.2.1 t[Int.toNat row[i]].2.2.1, p.2.2.2.2.2.2.2) (by omega) (by omega)
    (by simp only [List.length_append, List.length_singleton]; omega) (MZ _ hc (h.key _ hb))
   refine Eq.trans ih ?_;unfold Zv5;rw [e, O5];dsimp only;rw [List.append_assoc, List.drop_eq_getElem_cons hi];rfl
  ·have e : i = row.length := by omega
   subst e;rw [VE, decide_eq_false (by omega), cond_false, List.drop_length];unfold Zv5;rw [List.append_nil];rfl
def VH (t : List Zv) (p : Zn) (k : Int) : Zn := bif Zjh t k (Wu p) then Zv5 t (PY p) (Q6 t k (Wu p)) else p
theorem Zod (t : List Zv) (h : M0 t) (ht : t.length ≤ 1048576) (p : Zn) (hp : CU p) (k : Int) : CO big t p k = some (VH t p k) := by
 have hrl := hp.row;rw [Zex, ZmE p hp.b.row, Option.bind_some, Zcl t ht, Option.bind_some];unfold VH;cases he : Zjh t k (Wu p) with
 | false =>
  simp only [Bool.not_false, cond_true, cond_false];rw [JS p hp.b]; rfl
 | true =>
  obtain ⟨f1, f2, f3⟩ := W0 t k (Wu p);obtain ⟨g1, g2⟩ := ZgC h (Q6 t k (Wu p));have hll : List.length p.2.2.2.2.2.1 + (Q6 t k (Wu p)).length ≤ lim := by unfold lim; omega
  simp only [Bool.not_true, cond_true, cond_false];rw [Zcq p hp, Option.bind_some, Option.bind_some, O6 t ht, Option.bind_some, if_pos (show List.length (PY p).2.2.2.2.2.1 + (Q6 t k (Wu p)).length ≤ lim from hll), Zpl t h _ (by omega), Option.bind_some,
   show (PY p).2.2.2.2.2.2.1 = Zs7 p from rfl, Zn8 _ (HP hp) _ (Nat.le_trans g1 (Nat.le_trans (Nat.mul_le_mul_right _ (Nat.le_trans f3 ht)) (by decide))) g2]
  rfl
theorem Zoe (t : List Zv) (h : M0 t) (ht : t.length ≤ 1048576) (p : Zn) (hp : CU p) (k : Int) : JF big t p k = some (VH t p k) := by
 rw [Gi, EY p hp.b, Option.bind_some, ZmF p hp.b.row, Option.bind_some, Zcm t ht, Option.bind_some];unfold VH;cases he : Zjh t k (Wu p) with
 | false => rfl
 | true =>
  obtain ⟨f1, f2, f3⟩ := W0 t k (Wu p);simp only [Bool.not_true, cond_true, cond_false];rw [ZmG p hp, Option.bind_some, Option.bind_some, O7 t ht, Option.bind_some];have := Zpt t h (Q6 t k (Wu p)) (by omega) f2 big 0 (PY p) (by unfold big; omega) (by omega) (by have := hp.row; show List.length p.2.2.2.2.2.1 ≤ _; omega) (HP hp);rw [Int.natCast_zero, List.drop_zero] at this;exact this
theorem ZqT {t : List Zv} (h : M0 t) (ht : t.length ≤ 1048576) {p : Zn} (hp : CU p) (k : Int) : ZeG (VH t p k) := by
 unfold VH;cases Zjh t k (Wu p) with
 | false => exact hp.b
 | true =>
  obtain ⟨f1, f2, f3⟩ := W0 t k (Wu p);obtain ⟨g1, g2⟩ := ZgC h (Q6 t k (Wu p));have hr := hp.row;refine ⟨?_, (MZ _ (HP hp) g2).len, by simp [Zv5, PY], by simp [Zv5, PY], hp.b.votes, hp.b.news⟩;show (p.2.2.2.2.2.1 ++ Q6 t k (Wu p)).length ≤ 16777216;rw [List.length_append]; omega
def Zxj (t : List Zv) (p : Zn) (row : List Int) : Zn := (p.1, p.2.1, p.2.2.1, p.2.2.2.1, p.2.2.2.2.1, p.2.2.2.2.2.1, AZ p.2.2.2.2.2.2.1 (PX t row), p.2.2.2.2.2.2.2.1 ++ row, p.2.2.2.2.2.2.2.2.1 ++ Du p.2.2.2.2.2.2.1 (PX t row), p.2.2.2.2.2.2.2.2.2)
theorem Zpu (t : List Zv) (h : M0 t) (row : List Int) (hr : row.length ≤ 1048576) (hm : ∀ y ∈ row, 0 < y ∧ y < t.length) : ∀ (n i : Nat) (p : Zn), row.length < n + i → i ≤ row.length → List.length p.2.2.2.2.2.2.2.1 ≤ i → List.length p.2.2.2.2.2.2.2.2.1 + (PX t (row.drop i)).length ≤ 16777216 → Xm p.2.2.2.2.2.2.1 →
  Vv n t (i : Int) 0 0 0 0 0 0 0 0 0 0 0 0 0 0 [] [] [] [] [] [] 0 p.1 p.2.1 p.2.2.1.1 p.2.2.1.2.1 p.2.2.1.2.2.1 p.2.2.1.2.2.2.1 p.2.2.2.1.1 p.2.2.2.1.2.1 p.2.2.2.1.2.2.1 p.2.2.2.1.2.2.2.1 p.2.2.2.2.1.1 p.2.2.2.2.1.2.1 p.2.2.2.2.1.2.2.1 p.2.2.2.2.1.2.2.2.1
   p.2.2.2.2.2.1 p.2.2.2.2.2.2.1 p.2.2.2.2.2.2.2.1 p.2.2.2.2.2.2.2.2.1 p.2.2.2.2.2.2.2.2.2.1 p.2.2.2.2.2.2.2.2.2.2.1 p.2.2.2.2.2.2.2.2.2.2.2.1 row = some (Zxj t p (row.drop i))
 | 0, i, p, h1, h2, _, _, _ => by omega
 | n + 1, i, p, h1, h2, h3, h4, hc => by
  rcases Nat.lt_or_ge i row.length with hi | hi
  ·obtain ⟨m1, m2⟩ := hm _ (List.getElem_mem hi)
   have hk : Int.toNat row[i] < t.length := by omega
   have hb := List.getElem_mem hk;have e : PX t (row.drop i) = t[Int.toNat row[i]].2.2.1 ++ PX t (row.drop (i + 1)) := by
    rw [List.drop_eq_getElem_cons hi];have hbk : ZmN t row[i] = t[Int.toNat row[i]].2.2.1 := by
     unfold ZmN;rw [decide_eq_true (show (0 : Int) ≤ row[i] by omega), cond_true, decide_eq_true (show row[i] ≤ (t.length : Int) - 1 by omega), ZY hk]; rfl
    rw [← hbk]; rfl
   rw [e, List.length_append] at h4;have hul : (Du p.2.2.2.2.2.2.1 t[Int.toNat row[i]].2.2.1).length = List.length t[Int.toNat row[i]].2.2.1 := E1 _ _;rw [Ve, decide_eq_true (by omega), cond_true];simp only [if_pos (show (0 : Int) ≤ (i : Int) by omega), if_pos (show (i : Int) < (row.length : Int) by omega), Int.toNat_natCast, ZY hi, Option.bind_some, if_pos (show (0 : Int) ≤ row[i] by omega), ZY hk];rw [ZmA _ hc _ (Nat.le_trans (h.cmds _ hb) (by decide)) (h.key _ hb), Option.bind_some, if_pos (by unfold lim; simp only [List.length_singleton]; omega),
    if_pos (show List.length p.2.2.2.2.2.2.2.2.1 + (Du p.2.2.2.2.2.2.1 t[Int.toNat row[i]].2.2.1).length ≤ lim by unfold lim; omega), Yk (by omega)]
   have ih := Zpu t h row hr hm n (i + 1) (p.1, p.2.1, p.2.2.1, p.2.2.2.1, p.2.2.2.2.1, p.2.2.2.2.2.1, AZ p.2.2.2.2.2.2.1 t[Int.toNat row[i]].2.2.1, p.2.2.2.2.2.2.2.1 ++ [row[i]], p.2.2.2.2.2.2.2.2.1 ++ Du p.2.2.2.2.2.2.1 t[Int.toNat row[i]].2.2.1, p.2.2.2.2.2.2.2.2.2) (by omega) (by omega)
    (by simp only [List.length_append, List.length_singleton]; omega) (by rw [List.length_append]; omega) (MZ _ hc (h.key _ hb))
   refine Eq.trans ih ?_;unfold Zxj;rw [e, O5, O8];dsimp only;rw [List.append_assoc, List.append_assoc, List.drop_eq_getElem_cons hi];rfl
  ·have e : i = row.length := by omega
   subst e;rw [Ve, decide_eq_false (by omega), cond_false, List.drop_length];unfold Zxj;rw [List.append_nil];show _ = some (p.1, p.2.1, p.2.2.1, p.2.2.2.1, p.2.2.2.2.1, p.2.2.2.2.2.1, p.2.2.2.2.2.2.1, p.2.2.2.2.2.2.2.1, p.2.2.2.2.2.2.2.2.1 ++ [], p.2.2.2.2.2.2.2.2.2);rw [List.append_nil]
def Zpv (t : List Zv) (p : Zn) (k : Int) : Zn := Zxj t (PY p) (Q6 t k (Wu p))
theorem HQ {t : List Zv} (ht : M2 t 0 ≤ 1048576) (k u : Int) : (PX t (Q6 t k u)).length ≤ 1048576 := by
 obtain ⟨f1, f2, f3⟩ := W0 t k u;exact Nat.le_trans (Zmx t (Q6 t k u) 0 f1 (fun y hy => ⟨by have := f2 y hy; omega, (f2 y hy).2⟩)) ht
theorem O9 (t : List Zv) (h : M0 t) (ht : t.length ≤ 1048576) (hs : M2 t 0 ≤ 1048576) (p : Zn) (hp : CU p) (k : Int) : Wg big t p k = some (Zpv t p k) := by
 obtain ⟨f1, f2, f3⟩ := W0 t k (Wu p);obtain ⟨g1, g2⟩ := ZgC h (Q6 t k (Wu p));have hl := HQ hs k (Wu p);rw [ZbJ, Zcq p hp, Option.bind_some, ZmE p hp.b.row, Option.bind_some, O6 t ht, Option.bind_some, Zpl t h _ (by omega), Option.bind_some,
  show (PY p).2.2.2.2.2.2.1 = Zs7 p from rfl, Zmz _ (HP hp) _ (by omega) g2]
 rfl
theorem Pa (t : List Zv) (h : M0 t) (ht : t.length ≤ 1048576) (hs : M2 t 0 ≤ 1048576) (p : Zn) (hp : CU p) (k : Int) : QZ big t p k = some (Zpv t p k) := by
 obtain ⟨f1, f2, f3⟩ := W0 t k (Wu p);have hl := HQ hs k (Wu p);rw [D8, EY p hp.b, Option.bind_some, ZmG p hp, Option.bind_some, ZmF p hp.b.row, Option.bind_some, O7 t ht, Option.bind_some];have := Zpu t h (Q6 t k (Wu p)) (by omega) f2 big 0 (PY p) (by unfold big; omega) (by omega) (by simp [PY]) (by rw [List.drop_zero]; show 0 + _ ≤ _; omega) (HP hp);rw [Int.natCast_zero, List.drop_zero] at this;exact this
theorem Zpw {t : List Zv} (h : M0 t) (ht : t.length ≤ 1048576) (hs : M2 t 0 ≤ 1048576) {p : Zn} (hp : CU p) (k : Int) : ZeG (Zpv t p k) := by
 obtain ⟨f1, f2, f3⟩ := W0 t k (Wu p);obtain ⟨g1, g2⟩ := ZgC h (Q6 t k (Wu p));have hl := HQ hs k (Wu p);refine ⟨hp.b.row, (MZ _ (HP hp) g2).len, ?_, ?_, hp.b.votes, hp.b.news⟩
 ·show (([] : List Int) ++ Q6 t k (Wu p)).length ≤ 16777216
  rw [List.nil_append]; omega
 ·show (([] : List Yd) ++ Du (Zs7 p) (PX t (Q6 t k (Wu p)))).length ≤ 16777216
  rw [List.nil_append, E1]; omega
theorem Xl.b {t : List Zv} (h : Xl t) : M0 t :=
 ⟨Nat.le_trans h.hi (by decide), fun y hy => Nat.le_trans (h.cmds y hy).len (by decide), fun y hy c hc => Nat.le_trans ((h.cmds y hy).key c hc) (by decide)⟩
theorem Zw9 {l : List Zv} : (∀ b ∈ l, List.length b.2.2.1 ≤ 4) → (l.map fun b => List.length b.2.2.1).sum ≤ 4 * l.length := by
 intro h
 induction l with
 | nil => simp
 | cons a l ih =>
  have h1 := h a List.mem_cons_self;have h2 := ih fun b hb => h b (List.mem_cons_of_mem _ hb);simp only [List.map_cons, List.sum_cons, List.length_cons];omega
theorem Xl.rest {t : List Zv} (h : Xl t) : M2 t 0 ≤ 1048576 := by
 have := Zw9 fun b hb => (h.cmds b hb).len;have := h.hi;unfold M2;rw [List.drop_zero];omega
theorem Zxa (x a b : Int) : Da big x a b = some (decide (a ≤ x) && decide (x ≤ b)) := by
 rw [ZlM];cases decide (a ≤ x) <;> rfl
theorem Zjc {t : List Zv} (ht : Xl t) {k : Int} (h0 : 0 ≤ k) (h1 : k < t.length) {x : Zv} (hx : nth t k.toNat = some x) : 0 ≤ x.2.2.2.1.2.2.1 ∧ x.2.2.2.1.2.2.1 < t.length ∧ (0 < k → x.2.2.2.1.2.2.1 < k) := by
 have hlo := ht.lo
 by_cases hk : k.toNat = 0
 ·rw [hk] at hx
  obtain ⟨_, e⟩ := ht.first x hx
  rw [e];exact ⟨Int.le_refl _, by omega, fun h => by omega⟩
 ·obtain ⟨e1, e2, e3⟩ := ht.just _ x hx (by omega)
  rw [e3];exact ⟨e1, by omega, fun _ => by omega⟩
theorem ZuS {t : List Zv} (ht : Xl t) : ∀ (f : Nat) (k : Int), 0 ≤ k → k ≤ f → k < t.length → ∃ l, L5 t f k = some l ∧ (0 < k → 1 ≤ l.length)
 | 0, k, h0, h1, _ => ⟨[], by unfold L5; rw [decide_eq_false (by omega)]; rfl, fun h => by omega⟩
 | f + 1, k, h0, h1, h2 => by
  unfold L5
  by_cases hk : 0 < k
  ·have hi : k.toNat < t.length := by omega
   obtain ⟨e1, e2, _⟩ := ht.just _ _ (ZY hi) (by omega);obtain ⟨l, hl, _⟩ := ZuS ht f t[k.toNat].1 e1 (by omega) (by omega);rw [decide_eq_true hk, cond_true, ZY hi];dsimp only;rw [Kg.2 ⟨e1, by omega⟩, cond_true, hl];exact ⟨_, rfl, fun _ => by simp⟩
  ·rw [decide_eq_false hk]
   exact ⟨[], rfl, fun h => absurd h hk⟩
theorem ZqU {t : List Zv} (ht : Xl t) {k : Int} (h0 : 0 < k) (h1 : k < t.length) : ∃ h, Wf big t k = some h ∧ 1 ≤ h := by
 have hhi := ht.hi;obtain ⟨l, hl, hp⟩ := ZuS ht t.length k (by omega) (by omega) h1;rw [FE t (by omega)];unfold Zoa;rw [Kg.2 ⟨by omega, by omega⟩, cond_true, hl];exact ⟨_, rfl, by have := hp h0; show (1 : Int) ≤ (l.length : Int); omega⟩
theorem Zs9 {t : List Zv} (ht : Xl t) {k : Int} (h : ¬ (0 < k ∧ k < t.length)) : ∃ h, Wf big t k = some h ∧ h < 1 := by
 have hhi := ht.hi
 by_cases hk : k = 0
 ·obtain ⟨h, e, _, h2⟩ := FC ht k
  exact ⟨h, e, by have := h2 hk; omega⟩
 ·rw [FE t (by omega)]
  unfold Zoa;have : inB k 0 ((t.length : Int) - 1) = false := by
   cases hb : inB k 0 ((t.length : Int) - 1) with
   | false => rfl
   | true => have := Kg.1 hb; omega
  rw [this, cond_false];exact ⟨_, rfl, by show (-1 : Int) < 1; decide⟩
theorem Zpx {t : List Zv} (ht : Xl t) {k : Int} (h : ¬ (0 < k ∧ k < t.length)) : V4 big t k = some (0, 0, 0, false, ()) := by
 obtain ⟨v, e, h1⟩ := Zs9 ht h;rw [Jz, e, Option.bind_some, decide_eq_true h1, cond_true]
theorem Zcr {x a b : Int} (h0 : a ≤ x) (h1 : x ≤ b) : (decide (a ≤ x) && decide (x ≤ b)) = true := by rw [decide_eq_true h0, decide_eq_true h1]; rfl
theorem ZqV {t : List Zv} (ht : Xl t) {p : Zn} (hp : CU p) (hr : List.length p.2.2.2.2.2.1 ≤ 900000) (k : Int) : CU (VH t p k) := by
 have hhi := ht.hi;have hb := ZqT ht.b (by omega) hp k;obtain ⟨f1, f2, f3⟩ := W0 t k (Wu p);obtain ⟨g1, g2⟩ := ZgC ht.b (Q6 t k (Wu p));refine ⟨hb, ?_, ?_, ?_⟩
 ·unfold VH
  cases Zjh t k (Wu p) with
  | false => exact hp.row
  | true =>
   show (p.2.2.2.2.2.1 ++ Q6 t k (Wu p)).length ≤ 1048576;rw [List.length_append]; omega
 ·unfold VH
  cases Zjh t k (Wu p) with
  | false => exact hp.cells
  | true => exact (MZ _ (HP hp) g2).key
 ·unfold VH
  cases Zjh t k (Wu p) with
  | false => exact hp.undos
  | true => exact fun y hy => by cases hy
def Zta (p x : Zn) : Prop := x.2.1 = p.2.1 ∧ x.2.2.1 = p.2.2.1 ∧ x.2.2.2.1 = p.2.2.2.1 ∧ x.2.2.2.2.1 = p.2.2.2.2.1 ∧ List.length p.2.2.2.2.2.1 ≤ List.length x.2.2.2.2.2.1
theorem Zta.refl (p : Zn) : Zta p p := ⟨rfl, rfl, rfl, rfl, Nat.le_refl _⟩
theorem Zta.trans {p q r : Zn} (h : Zta p q) (k : Zta q r) : Zta p r := ⟨k.1.trans h.1, k.2.1.trans h.2.1, k.2.2.1.trans h.2.2.1, k.2.2.2.1.trans h.2.2.2.1, Nat.le_trans h.2.2.2.2 k.2.2.2.2⟩
theorem Zuj (t : List Zv) (p : Zn) (k : Int) : Zta p (VH t p k) := by
 unfold VH;cases Zjh t k (Wu p) with
 | false => exact Zta.refl p
 | true =>
  refine ⟨rfl, rfl, rfl, rfl, ?_⟩;show _ ≤ (p.2.2.2.2.2.1 ++ Q6 t k (Wu p)).length;rw [List.length_append]; omega
theorem Zpy (t : List Zv) (p : Zn) (k : Int) : Zta p (Zpv t p k) := ⟨rfl, rfl, rfl, rfl, Nat.le_refl _⟩
def ZmH (t : List Zv) (p : Zn) (k : Int) : Prop :=
 ∃ x, QN big t p k = some x ∧ Xi big t p k = some x ∧ ZeG x ∧ p.2.2.1.2.1 ≤ x.2.2.1.2.1 ∧ p.2.2.2.1.2.1 ≤ x.2.2.2.1.2.1 ∧ x.2.1 = p.2.1 ∧ x.2.2.2.2.1 = p.2.2.2.2.1 ∧ List.length p.2.2.2.2.2.1 ≤ List.length x.2.2.2.2.2.1
theorem Zpz (a b : Bw) : AK big a b = some (bif decide (a.2.1 < b.2.1) then b else a) := by
 rw [ZbQ];cases decide (a.2.1 < b.2.1) <;> rfl
theorem ZmI (a b : Bw) : a.2.1 ≤ (bif decide (a.2.1 < b.2.1) then b else a).2.1 := by
 by_cases h : a.2.1 < b.2.1
 ·rw [decide_eq_true h]; exact Int.le_of_lt h
 ·rw [decide_eq_false h]; exact Int.le_refl _
theorem Rd {t : List Zv} (ht : Xl t) {k : Int} (h0 : 0 ≤ k) (h1 : k < t.length) {x : Zv} (hx : nth t k.toNat = some x) : UU big k t = some (x.2.2.2.1.2.2.1, t, ()) := by
 have hhi := ht.hi;obtain ⟨j0, j1, _⟩ := Zjc ht h0 h1 hx;rw [PM, Zxa, ZH (by omega) (by omega), Zcr h0 (by omega), Option.bind_some, Bool.not_true, cond_false, if_pos h0, hx, Option.bind_some, Zxa, Zcr j0 (by omega), Option.bind_some, Bool.not_true, cond_false, if_pos h0, Option.bind_some]
theorem Ztb {t : List Zv} (ht : Xl t) {p : Zn} (hp : CU p) {k : Int} (h : ¬ (0 ≤ k ∧ k < t.length)) : ZmH t p k := by
 have hhi := ht.hi;refine ⟨p, ?_, ?_, hp.b, Int.le_refl _, Int.le_refl _, rfl, rfl, Nat.le_refl _⟩
 ·rw [Qs, JS p hp.b, Option.bind_some, Zxa, ZH (by omega) (by omega)]
  have : (decide ((0 : Int) ≤ k) && decide (k ≤ (↑(List.length t) : Int) - 1)) = false := by
   rw [← Bool.not_eq_true];intro hb;simp only [Bool.and_eq_true, decide_eq_true_eq] at hb;omega
  rw [this, Option.bind_some, Bool.not_false, cond_true]
 ·rw [Vf, EY p hp.b, Option.bind_some, Zpx ht (by omega)]
  rfl
theorem Zof {t : List Zv} (ht : Xl t) {p : Zn} (hp : CU p) (hq : 0 ≤ p.2.2.1.2.1 ∧ 0 ≤ p.2.2.2.1.2.1) : ZmH t p 0 := by
 have hhi := ht.hi; have hlo := ht.lo;refine ⟨p, ?_, ?_, hp.b, Int.le_refl _, Int.le_refl _, rfl, rfl, Nat.le_refl _⟩
 ·have hi : (0 : Nat) < t.length := by omega
  have hx := ZY hi;have hx' : nth t (Int.toNat 0) = some t[0] := hx;obtain ⟨e1, e2⟩ := ht.first _ hx
  have c0 := Rd ht (Int.le_refl 0) (by omega) hx';rw [e2] at c0;rw [Qs, JS p hp.b, Option.bind_some, Zxa, ZH (by omega) (by omega), Zcr (Int.le_refl 0) (by omega), Option.bind_some, Bool.not_true, cond_false, Gz];simp only [c0, Option.bind_some, if_pos (Int.le_refl (0 : Int)), hx', Zpz, e1, decide_eq_true (Int.le_refl (0 : Int)), cond_true];rw [decide_eq_false (show ¬ p.2.2.1.2.1 < 0 by omega), decide_eq_false (show ¬ p.2.2.2.1.2.1 < 0 by omega), LO];rfl
 ·rw [Vf, EY p hp.b, Option.bind_some, Zpx ht (by omega)]
  rfl
theorem Zuk {t : List Zv} (ht : Xl t) {p : Zn} (hp : CU p) (hr : List.length p.2.2.2.2.2.1 ≤ 900000) {k : Int} (h0 : 0 < k) (h1 : k < t.length) : ZmH t p k := by
 have hhi := ht.hi; have hlo := ht.lo;have hk : k.toNat < t.length := by omega
 have ek := ZY hk;generalize t[k.toNat] = kb at ek;obtain ⟨b0, b1, b2⟩ := Zjc ht (by omega) h1 ek;have ck := Rd ht (by omega) h1 ek;have b2 := b2 h0;generalize hb : kb.2.2.2.1.2.2.1 = b at b0 b1 b2 ck;have hbi : b.toNat < t.length := by omega
 have eb := ZY hbi;generalize t[b.toNat] = bb at eb;obtain ⟨c0, c1, _⟩ := Zjc ht b0 b1 eb;have cb := Rd ht b0 b1 eb;generalize hc : bb.2.2.2.1.2.2.1 = c at c0 c1 cb;have hci : c.toNat < t.length := by omega
 have ec := ZY hci;generalize t[c.toNat] = cc at ec;obtain ⟨d0, d1, _⟩ := Zjc ht c0 c1 ec;have cd := Rd ht c0 c1 ec;generalize hd : cc.2.2.2.1.2.2.1 = d at d0 d1 cd;have hdi : d.toNat < t.length := by omega
 have ed := ZY hdi;generalize t[d.toNat] = dd at ed;obtain ⟨h, eh, hh⟩ := ZqU ht h0 h1;have wl : IntKind.i64.wrap ((↑(List.length t) : Int) - 1) = (↑(List.length t) : Int) - 1 := ZH (by omega) (by omega);have wk : IntKind.i64.wrap (k - 1) = k - 1 := ZH (by omega) (by omega);have e3 : V4 big t k = some (b, c, d, true, ()) := by
  rw [Jz, eh, Option.bind_some, decide_eq_false (show ¬ h < 1 by omega), cond_false, if_pos (show 0 ≤ k by omega), ek, Option.bind_some];simp only [hb, LZ, Option.bind_some, wk, wl, Zcr b0 (show b ≤ k - 1 by omega), Bool.not_true, cond_false, if_pos b0, eb, hc, Zcr c0 (show c ≤ (↑(List.length t) : Int) - 1 by omega), if_pos c0, ec, hd, Zcr d0 (show d ≤ (↑(List.length t) : Int) - 1 by omega)]
 have abc : BR big t b c = some (decide (bb.2.1 = IntKind.i64.wrap (cc.2.1 + 1))) := by
  rw [OW, if_pos b0, eb, Option.bind_some, if_pos c0, ec, Option.bind_some]
 have acd : BR big t c d = some (decide (cc.2.1 = IntKind.i64.wrap (dd.2.1 + 1))) := by
  rw [OW, if_pos c0, ec, Option.bind_some, if_pos d0, ed, Option.bind_some]
 obtain ⟨N, e4, e5⟩ : ∃ N, Qm big t b c = some N ∧ FB big t b c = some N := by
  rw [F2, LO, abc]
  by_cases hb0 : b = 0
  ·rw [decide_eq_true hb0, decide_eq_false (show ¬ 0 < b by omega)]; exact ⟨_, rfl, rfl⟩
  ·rw [decide_eq_false hb0, decide_eq_true (show 0 < b by omega)]
   simp only [Bool.not_false, cond_true]
   by_cases hc0 : c = 0
   ·rw [decide_eq_true hc0, decide_eq_false (show ¬ 0 < c by omega)]; exact ⟨_, rfl, rfl⟩
   ·rw [decide_eq_false hc0, decide_eq_true (show 0 < c by omega), Bool.not_false, cond_true, cond_true, if_pos b0, eb, Option.bind_some, if_pos c0, ec, Option.bind_some]
    exact ⟨_, rfl, rfl⟩
 have e6 : Ae big t k = some (bif N then (bif decide (cc.2.1 = IntKind.i64.wrap (dd.2.1 + 1)) then (d, true, ()) else (0, false, ())) else (0, false, ())) := by
  rw [DX, e3, Option.bind_some];simp only [Bool.not_true, cond_false, e4, Option.bind_some, if_pos c0, ec, if_pos d0, ed];cases N with
  | false => rfl
  | true =>
   simp only [Bool.not_true, cond_false, cond_true];cases decide (cc.2.1 = IntKind.i64.wrap (dd.2.1 + 1)) <;> rfl
 have hp' : CU (p.1, p.2.1, (bif decide (p.2.2.1.2.1 < kb.2.2.2.1.2.1) then kb.2.2.2.1 else p.2.2.1), (bif decide (p.2.2.2.1.2.1 < bb.2.2.2.1.2.1) then bb.2.2.2.1 else p.2.2.2.1), p.2.2.2.2) :=
  ⟨⟨hp.b.row, hp.b.cells, hp.b.early, hp.b.undos, hp.b.votes, hp.b.news⟩, hp.row, hp.cells, hp.undos⟩
 have fin : ∀ x, ZeG x → Zta (p.1, p.2.1, (bif decide (p.2.2.1.2.1 < kb.2.2.2.1.2.1) then kb.2.2.2.1 else p.2.2.1), (bif decide (p.2.2.2.1.2.1 < bb.2.2.2.1.2.1) then bb.2.2.2.1 else p.2.2.2.1), p.2.2.2.2) x → QN big t p k = some x → Xi big t p k = some x → ZmH t p k := fun x hx hs q1 q2 =>
  ⟨x, q1, q2, hx, by rw [hs.2.1]; exact ZmI _ _, by rw [hs.2.2.1]; exact ZmI _ _, hs.1, hs.2.2.2.1, hs.2.2.2.2⟩
 have qi := Qs big t p k;have qs := Vf big t p k;rw [JS p hp.b, Option.bind_some, Zxa, wl, Zcr (show 0 ≤ k by omega) (show k ≤ (↑(List.length t) : Int) - 1 by omega), Option.bind_some, Bool.not_true, cond_false, Gz] at qi;simp only [ck, cb, cd, Option.bind_some, if_pos (show 0 ≤ k by omega), ek, Zpz, decide_eq_true b0, cond_true, if_pos b0, eb, e5, decide_eq_true d0, acd] at qi;rw [EY p hp.b, Option.bind_some, e3, Option.bind_some] at qs;simp only [Bool.not_true, cond_false, if_pos (show 0 ≤ k by omega), ek, Option.bind_some, Zo6, if_pos b0, eb, e6, e4] at qs;have hK := ZqV ht hp' hr d;cases N with
 | false =>
  simp only [Bool.not_false, cond_true, cond_false] at qi qs;exact fin _ hp'.b (Zta.refl _) qi qs
 | true =>
  simp only [Bool.not_true, cond_true, cond_false] at qi qs;cases hM : decide (cc.2.1 = IntKind.i64.wrap (dd.2.1 + 1)) with
  | true =>
   rw [hM] at qi qs;simp only [cond_true, Zod t ht.b (by omega) _ hp', Zoe t ht.b (by omega) _ hp', Option.bind_some, O9 t ht.b (by omega) ht.rest _ hK, Pa t ht.b (by omega) ht.rest _ hK] at qi qs;exact fin _ (Zpw ht.b (by omega) ht.rest hK c) ((Zuj _ _ _).trans (Zpy _ _ _)) qi qs
  | false =>
   rw [hM] at qi qs;simp only [cond_false, Option.bind_some, O9 t ht.b (by omega) ht.rest _ hp', Pa t ht.b (by omega) ht.rest _ hp'] at qi qs;exact fin _ (Zpw ht.b (by omega) ht.rest hp' c) (Zpy _ _ _) qi qs
theorem Ztc {t : List Zv} (ht : Xl t) {p : Zn} (hp : CU p) (hr : List.length p.2.2.2.2.2.1 ≤ 900000) (hq : 0 ≤ p.2.2.1.2.1 ∧ 0 ≤ p.2.2.2.1.2.1) (k : Int) : ZmH t p k := by
 by_cases h : 0 ≤ k ∧ k < t.length
 ·by_cases h0 : k = 0
  ·rw [h0]; exact Zof ht hp hq
  ·exact Zuk ht hp hr (by omega) h.2
 ·exact Ztb ht hp h
theorem BT {α : Type} {l : List α} (hl : l.length ≤ 16777216) {f : Nat → Int → Option Bool} (step : ∀ (n : Nat) (i : Int), 0 ≤ i → i < l.length → f n (i + 1) = some true → f (n + 1) i = some true) (done : ∀ n : Nat, f (n + 1) l.length = some true) :
  ∀ (m n i : Nat), i ≤ l.length → l.length ≤ i + m → m < n → f n (i : Int) = some true
 | m, 0, i, _, _, h => by omega
 | 0, n + 1, i, h0, h1, h2 => by
  obtain rfl : i = l.length := by omega
  exact done n
 | m + 1, n + 1, i, h0, h1, h2 => by
  by_cases hi : i < l.length
  ·exact step n i (by omega) (by omega) (by
    have := BT hl step done m n (i + 1) (by omega) (by omega) (by omega);rw [show ((i : Int) + 1) = ((i + 1 : Nat) : Int) by omega]; exact this)
  ·obtain rfl : i = l.length := by omega
   exact done n
theorem Ztd (x : ZL) : eqD Z9 x x = true := by simp [eqD]
theorem Zte (x : Yd) : eqD YJ x x = true := by simp [eqD]
theorem Zcs (x : Z3) : eqD Z4 x x = true := by simp [eqD]
theorem Zog (x : Zy) : eqD ZP x x = true := by simp [eqD]
theorem ZvY (x : Bw) : eqD Wl x x = true := by simp [eqD]
theorem ZgF (l : Yp) (hl : List.length l ≤ 16777216) : AM big l l = some true := by
 rw [ZbV, decide_eq_true rfl, Bool.not_true, cond_false];refine BT (f := fun n i => QP n l l i) hl (fun n i h0 h1 h => ?_) (fun n => ?_) (List.length l) big 0 (by omega) (by omega) (by unfold big; omega)
 ·have hi : i.toNat < List.length l := by omega
  rw [BS, decide_eq_true h1, cond_true, if_pos h0, ZY hi, Option.bind_some, if_pos h0, Option.bind_some, decide_eq_true rfl, Bool.not_true, cond_false, ZH (n := i + 1) (by omega) (by omega)];exact h
 ·rw [BS, decide_eq_false (by omega), cond_false]
theorem Zoh (l : Zq) (hl : List.length l ≤ 16777216) : CP big l l = some true := by
 rw [PP, decide_eq_true rfl, Bool.not_true, cond_false];refine BT (f := fun n i => UW n l l i) hl (fun n i h0 h1 h => ?_) (fun n => ?_) (List.length l) big 0 (by omega) (by omega) (by unfold big; omega)
 ·have hi : i.toNat < List.length l := by omega
  rw [AN, decide_eq_true h1, cond_true, if_pos h0, ZY hi, Option.bind_some, if_pos h0, Option.bind_some, Ztd, Bool.not_true, cond_false, ZH (n := i + 1) (by omega) (by omega)];exact h
 ·rw [AN, decide_eq_false (by omega), cond_false]
theorem Zoi (l : YA) (hl : List.length l ≤ 16777216) : CQ big l l = some true := by
 rw [PS, decide_eq_true rfl, Bool.not_true, cond_false];refine BT (f := fun n i => UY n l l i) hl (fun n i h0 h1 h => ?_) (fun n => ?_) (List.length l) big 0 (by omega) (by omega) (by unfold big; omega)
 ·have hi : i.toNat < List.length l := by omega
  rw [AO, decide_eq_true h1, cond_true, if_pos h0, ZY hi, Option.bind_some, if_pos h0, Option.bind_some, Zte, Bool.not_true, cond_false, ZH (n := i + 1) (by omega) (by omega)];exact h
 ·rw [AO, decide_eq_false (by omega), cond_false]
theorem Zoj (l : Yn) (hl : List.length l ≤ 16777216) : CR big l l = some true := by
 rw [PV, decide_eq_true rfl, Bool.not_true, cond_false];refine BT (f := fun n i => U8 n l l i) hl (fun n i h0 h1 h => ?_) (fun n => ?_) (List.length l) big 0 (by omega) (by omega) (by unfold big; omega)
 ·have hi : i.toNat < List.length l := by omega
  rw [AQ, decide_eq_true h1, cond_true, if_pos h0, ZY hi, Option.bind_some, if_pos h0, Option.bind_some, Zcs, Bool.not_true, cond_false, ZH (n := i + 1) (by omega) (by omega)];exact h
 ·rw [AQ, decide_eq_false (by omega), cond_false]
theorem Zjd (l : ZX) (hl : List.length l ≤ 16777216) : JQ big l l = some true := by
 rw [LY, decide_eq_true rfl, Bool.not_true, cond_false];refine BT (f := fun n i => Vj n l l i) hl (fun n i h0 h1 h => ?_) (fun n => ?_) (List.length l) big 0 (by omega) (by omega) (by unfold big; omega)
 ·have hi : i.toNat < List.length l := by omega
  rw [Km, decide_eq_true h1, cond_true, if_pos h0, ZY hi, Option.bind_some, if_pos h0, Option.bind_some, Zog, Bool.not_true, cond_false, ZH (n := i + 1) (by omega) (by omega)];exact h
 ·rw [Km, decide_eq_false (by omega), cond_false]
theorem ZqW (x : Zn) (h : ZeG x) : EQ big x x = some true := by
 rw [Zb1];simp only [decide_true, cond_true, ZvY, Zcs, ZgF _ h.row, Zoh _ h.cells, ZgF _ h.early, Zoi _ h.undos, Zoj _ h.votes, Zjd _ h.news, Option.bind_some]
theorem Zxb (code : List Int) (hl : code.length ≤ 1099511627776) : Ok (HK big code) fun r => Xl r.1 ∧ Zn6 r.2.1 := by
 rw [ZeE];exact Zd (Zx5 code hl) fun c hc => Zd (Xw hc 12) fun y hy => Zd (ZvV hy.2.2.2) fun w hw => Zd (Zsu hw.2.2 2) fun z _ => Ym (fun _ => Za ⟨hw.1, hw.2.1⟩) fun _ => Za ⟨hw.1, hw.2.1⟩
theorem Zn6.k {p : Zn} (h : Zn6 p) : CU p := by
 obtain ⟨h1, h2, h3, h4, h5, h6⟩ := h.lens;exact ⟨⟨h1, h2, h3, h4, h5, h6⟩, Nat.le_trans h.row (by decide), fun y hy => Nat.le_trans (h.cells.key y hy) (by decide), fun y hy => Nat.le_trans (h.undos.key y hy) (by decide)⟩
theorem ZqX (code : List Int) : EU big code = some true := by
 rw [Zb6]
 by_cases hc : (1048576 : Int) < (↑(List.length code) : Int)
 ·rw [decide_eq_true hc]; rfl
 rw [decide_eq_false hc, cond_false];obtain ⟨⟨t, p, k, ⟨⟩⟩, e1, ht, hp⟩ := Zxb code (by omega);have e2 : Qa big code = some (t, p, k, ()) := by
  rw [ET, e1]; rfl
 obtain ⟨x, f1, f2, hx, g1, g2, g3, g4, g5⟩ := Ztc ht hp.k (Nat.le_trans hp.row (by decide)) hp.hq k;have hs := ZqW x hx;simp only [e2, f1, f2, hs, Option.bind_some, cond_true];rw [decide_eq_true g1, cond_true, decide_eq_true g2, cond_true, decide_eq_true g3, cond_true, g4, Zcs, cond_true, decide_eq_true (show (↑(List.length p.2.2.2.2.2.1) : Int) ≤ ↑(List.length x.2.2.2.2.2.1) from Int.ofNat_le.2 g5)]
end Go.Sx.Tryz
