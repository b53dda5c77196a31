/- The lines of a text: what both answer. -/
import Derived.Test.YtddbjmambkepkaaGreatDoorM8
import Derived.Test.YtddbjmambkepkaaGreatDoorTypes
import Derived.Test.YtddbjmambkepkaaGreatDoorScriptRemarksH2
import Derived.Test.YtddbjmambkepkaaGreatDoorScriptRemarksF5
set_option linter.unusedVariables false
set_option linter.unusedSimpArgs false
set_option maxRecDepth 100000
namespace Go.Sx.Tryz.Rd
open Go Go.Sx Go.Proofs
open Go.IntKind renaming i64 → K6
def XF : List UInt8 → List UInt8 → List (List UInt8)
 | cur, [] => [cur]
 | cur, b :: l => if b = 10 then cur :: XF [] l else XF (cur ++ [b]) l
def Zhl : List UInt8 → List UInt8 → List (List UInt8)
 | cur, [] => if cur = [] then [] else [cur]
 | cur, b :: l => if b = 10 then cur :: Zhl [] l else Zhl (cur ++ [b]) l
theorem Zfe : ∀ (l cur : List UInt8), XF cur l ≠ []
 | [], cur => by simp [XF]
 | b :: l, cur => by
  unfold XF
  split
  ·simp
  ·exact Zfe l _
theorem Zjj (b : UInt8) (l : List UInt8) : Lib.index (b :: l) [10] = if b = 10 then 0 else if Lib.index l [10] = -1 then -1 else Lib.index l [10] + 1 := by
 rw [Lib.index_one, Lib.index_one, Lib.indexByte]
 by_cases h : b = 10
 ·subst h; rfl
 ·have : (b == 10) = false := by simpa using h
  rw [this, if_neg h];simp
theorem Zhg : ∀ (l : List UInt8), ∃ p r, Lib.splitK [10] 0 (l.count 10) l = p :: r ∧ ∀ cur, XF cur l = (cur ++ p) :: r
 | [] => ⟨[], [], rfl, fun cur => by simp [XF]⟩
 | b :: l => by
  obtain ⟨p, r, h1, h2⟩ := Zhg l
  by_cases hb : b = 10
  ·subst hb
   refine ⟨[], p :: r, ?_, fun cur => by simp only [XF, if_true, List.append_nil]; rw [h2 []]; rfl⟩;rw [List.count_cons_self, Lib.splitK, Zjj, if_pos rfl, if_neg (by decide)];rw [← h1];rfl
  ·have hc : (b :: l).count 10 = l.count 10 := List.count_cons_of_ne hb
   refine ⟨b :: p, r, ?_, fun cur => by simp only [XF, if_neg hb]; rw [h2]; simp⟩;rw [hc];cases hk : l.count 10 with
   | zero =>
    rw [hk] at h1;simp only [Lib.splitK, List.cons.injEq] at h1 ⊢;obtain ⟨rfl, rfl⟩ := h1;simp
   | succ k =>
    rw [hk] at h1;have hi : Lib.index l [10] ≠ -1 := by
     intro e;have := Lib.count_miss (sub := [10]) e;rw [Lib.count_one] at this;omega
    have hge := Lib.index_ge l [10];simp only [Lib.splitK] at h1 ⊢;rw [if_neg (by simpa using hi)] at h1;rw [Zjj, if_neg hb, if_neg hi, if_neg (by simp; omega)];simp only [List.cons.injEq] at h1 ⊢;obtain ⟨rfl, rfl⟩ := h1;have e : (Lib.index l [10] + 1).toNat = (Lib.index l [10]).toNat + 1 := by omega
    rw [e];exact ⟨by simp, by simp [Nat.add_right_comm]⟩
theorem Zko (s : ByteArray) : Hq s (ByteArray.mk #[(10 : UInt8)]) = (XF [] s.data.toList).map bL := by
 have h := Lib.splitB_data (ByteArray.mk #[(10 : UInt8)]) 0 (Lib.countB s (ByteArray.mk #[(10 : UInt8)])) s;have hc : Lib.countB s (ByteArray.mk #[(10 : UInt8)]) = s.data.toList.count 10 := Lib.count_one 10 s.data.toList;obtain ⟨p, r, h1, h2⟩ := Zhg s.data.toList;rw [hc] at h;have h3 : (Hq s (ByteArray.mk #[(10 : UInt8)])).map (fun x => x.data.toList) = XF [] s.data.toList := by
  unfold Hq;rw [hc, h, h2 []];exact h1
 rw [← h3, List.map_map];refine (List.map_id _).symm.trans (List.map_congr_left fun x _ => (Zpe x).symm)
theorem Q8 : ∀ (l cur : List UInt8), (if (XF cur l).getLast? = some [] then (XF cur l).dropLast else XF cur l) = Zhl cur l
 | [], cur => by
  simp only [XF, Zhl, List.getLast?_singleton, Option.some.injEq, List.dropLast_singleton]
 | b :: l, cur => by
  by_cases hb : b = 10
  ·have ih := Q8 l []
   simp only [XF, Zhl, if_pos hb];obtain ⟨p, r, hp⟩ : ∃ p r, XF [] l = p :: r := by
    cases hc : XF [] l with
    | nil => exact absurd hc (Zfe l [])
    | cons p r => exact ⟨p, r, rfl⟩
   rw [hp] at ih ⊢;rw [List.getLast?_cons_cons, List.dropLast_cons_cons, ← ih]
   split <;> rfl
  ·simp only [XF, Zhl, if_neg hb]
   exact Q8 l _
def Q9 (s : ByteArray) : List ByteArray := (Zhl [] s.data.toList).map bL
theorem Zff : ∀ (l cur : List UInt8), (Zhl cur l).length ≤ l.length + 1
 | [], cur => by unfold Zhl; split <;> simp
 | b :: l, cur => by
  unfold Zhl
  split
  ·have := Zff l []; simp; omega
  ·have := Zff l (cur ++ [b]); simp; omega
theorem ZdG (s : ByteArray) : (Q9 s).length ≤ s.size + 1 := by
 unfold Q9;rw [List.length_map, ← WD];exact Zff _ _
theorem MT (s : ByteArray) (hs : s.size ≤ 3000) : ∀ (n i b : Nat) (l : List ByteArray), s.size < n + i → i ≤ s.size → b ≤ i → l.length ≤ i →
  WS n s l (b : Int) (i : Int) = some (l ++ (Zhl ((s.data.toList.drop b).take (i - b)) (s.data.toList.drop i)).map bL)
 | 0, i, b, l, h1, h2, _, _ => by omega
 | n + 1, i, b, l, h1, h2, h3, h4 => by
  have hl := WD s;have hcur : ((s.data.toList.drop b).take (i - b)).length = i - b := by rw [List.length_take, List.length_drop]; omega
  rw [MO];rcases Nat.lt_or_ge i s.size with hi | hi
  ·have hi' : i < s.data.toList.length := by omega
   rw [decide_eq_true (by omega), cond_true, mk4 (YV hi'), List.drop_eq_getElem_cons hi', Xo (by omega)]
   by_cases c : ((s.data.toList[i].toNat : Nat) : Int) = 10
   ·have c' : s.data.toList[i] = 10 := UInt8.toNat_inj.1 (show s.data.toList[i].toNat = 10 by omega)
    rw [decide_eq_true c, cond_true, if_pos (by omega), if_pos (by omega), if_pos (by omega), if_pos (by omega), if_pos (by simp only [List.length_singleton]; unfold lim; omega), Int.toNat_natCast, Int.toNat_natCast, ZdA,
     MT s hs n (i + 1) (i + 1) _ (by omega) (by omega) (by omega) (by rw [List.append_eq, List.length_append]; simp; omega)]
    simp only [Zhl, if_pos c', Nat.sub_self, List.take_zero];simp
   ·have c' : s.data.toList[i] ≠ 10 := fun e => c (by rw [e]; rfl)
    rw [decide_eq_false c, cond_false, MT s hs n (i + 1) b l (by omega) (by omega) (by omega) (by omega)];have e : (s.data.toList.drop b).take (i + 1 - b) = (s.data.toList.drop b).take (i - b) ++ [s.data.toList[i]] := by
     have hlt : i - b < (s.data.toList.drop b).length := by rw [List.length_drop]; omega
     rw [show i + 1 - b = (i - b) + 1 by omega, List.take_succ_eq_append_getElem hlt];congr 2;rw [List.getElem_drop];congr 1;omega
    rw [e];simp only [Zhl, if_neg c']
  ·have e : i = s.size := by omega
   subst e;have hd0 : s.data.toList.drop s.size = [] := List.drop_eq_nil_of_le (by omega);rw [decide_eq_false (by omega), cond_false, hd0]
   by_cases c4 : (b : Int) < (s.size : Int)
   ·have hne : (s.data.toList.drop b).take (s.size - b) ≠ [] := by intro e; rw [e] at hcur; simp at hcur; omega
    rw [decide_eq_true c4, cond_true, if_pos (by omega), if_pos (by omega), if_pos (by simp only [List.length_singleton]; unfold lim; omega), Int.toNat_natCast, ZdA];unfold Zhl;rw [if_neg hne];rfl
   ·have e : b = s.size := by omega
    subst e;rw [decide_eq_false c4, cond_false];simp [Zhl]
theorem Zmt (s : ByteArray) (hs : s.size ≤ 3000) : DR big s = some (Q9 s) := by
 rw [Zaj];have := MT s hs big 0 0 [] (by unfold big; omega) (by omega) (by omega) (by simp);rw [Int.natCast_zero, List.drop_zero] at this;rw [this];rfl
end Go.Sx.Tryz.Rd
set_option maxRecDepth 100000
namespace Go.Sx.Tryz.Rd
open Go Go.Sx Go.Proofs
open Go.IntKind renaming i64 → K6
theorem AV : ∀ (l cur : List UInt8), ∀ w ∈ Lib.fieldsGo cur l, w ≠ [] ∧ w.length ≤ cur.length + l.length
 | [], cur, w, hw => by
  unfold Lib.fieldsGo at hw
  split at hw
  ·cases hw
  ·rename_i h
   simp only [List.mem_singleton] at hw;subst hw;exact ⟨by simpa using h, by simp⟩
 | b :: l, cur, w, hw => by
  unfold Lib.fieldsGo at hw
  split at hw
  ·split at hw
   ·have := AV l [] w hw
    exact ⟨this.1, by have := this.2; simp at this ⊢; omega⟩
   ·rename_i h
    rcases List.mem_cons.1 hw with rfl | hw
    ·exact ⟨by simpa using h, by simp⟩
    ·have := AV l [] w hw
     exact ⟨this.1, by have := this.2; simp at this ⊢; omega⟩
  ·have := AV l (cur ++ [b]) w hw
   exact ⟨this.1, by have := this.2; simp at this ⊢; omega⟩
theorem Zkp {s : ByteArray} {ws : List ByteArray} (h : Ly s = (ws, true, ())) : ws.length ≤ 10 ∧ ∀ w ∈ ws, ByteArray.size w ≤ 600 ∧ 0 < ByteArray.size w := by
 unfold Ly at h
 by_cases h6 : 600 < s.size
 ·rw [decide_eq_true h6] at h; cases h
 ·rw [decide_eq_false h6, cond_false] at h
  cases ha : s.data.toList.all prb with
  | false => rw [ha] at h; cases h
  | true =>
   rw [ha, cond_true] at h;unfold Zpi at h
   by_cases h10 : 10 < (KL s).length
   ·rw [decide_eq_true h10] at h; cases h
   ·rw [decide_eq_false h10, cond_false] at h
    cases h;refine ⟨by omega, fun w hw => ?_⟩;unfold KL at hw;obtain ⟨l, hl, rfl⟩ := List.mem_map.1 hw;obtain ⟨k1, k2⟩ := AV _ _ l hl;have e : ByteArray.size (ByteArray.mk l.toArray) = l.length := by simp [ByteArray.size]
    rw [e];rw [WD] at k2;exact ⟨by simp at k2; omega, List.length_pos_iff.2 k1⟩
theorem ZqT (a0 : JA) (p : List ByteArray) (hw : ∀ w ∈ p, ByteArray.size w ≤ 600) :
  (∃ (n : Int) (c : Bool) (l : Int), XP big a0 p = some (true, ((n, c, l, [], 0, ()), true, a0.2.2), ()) ∧ Q2 big p = some ((n, c, l, [], 0, ()), true, ())) ∨
   (XP big a0 p = some (false, a0, ()) ∧ ∃ x, Q2 big p = some (x, false, ())) := by
 have rd : ∀ w ∈ p, Yv big w = some (rdV w) := fun w h => Q7 w (by have := hw w h; omega);rw [BO, Zcg]
 by_cases hl : p.length = 4
 ·match p, hl with
  | [a, b, c, d], _ =>
   have l4 : decide (((List.length [a, b, c, d] : Nat) : Int) = 4) = true := rfl;have q0 : nth [a, b, c, d] (Int.toNat (0 : Int)) = some a := rfl;have q1 : nth [a, b, c, d] (Int.toNat (1 : Int)) = some b := rfl;have q2 : nth [a, b, c, d] (Int.toNat (2 : Int)) = some c := rfl;have q3 : nth [a, b, c, d] (Int.toNat (3 : Int)) = some d := rfl;simp only [l4, q0, q1, q2, q3, Option.bind_some, Bool.not_true, cond_false, rd b (by simp), rd d (by simp), XC];cases decide (a = ByteArray.mk #[(99 : UInt8), (108 : UInt8), (117 : UInt8), (115 : UInt8), (116 : UInt8), (101 : UInt8), (114 : UInt8)]) with
   | false => exact .inr ⟨rfl, _, rfl⟩
   | true =>
    simp only [Bool.not_true, cond_false];obtain ⟨vb, ob, ub⟩ := rdV b;obtain ⟨vd, od, ud⟩ := rdV d;generalize decide (c = ByteArray.mk #[(99 : UInt8), (104 : UInt8), (97 : UInt8), (105 : UInt8), (110 : UInt8)]) = ch;obtain ⟨⟨rc, rb, ru⟩, h1, h2⟩ := Zhe vb ch vd;simp only [h1, h2, Option.bind_some];cases decide (c = ByteArray.mk #[(97 : UInt8), (115 : UInt8), (107 : UInt8)]) <;> cases ch <;> cases ob <;> cases od <;> cases rb <;>
     first | exact .inr ⟨rfl, _, rfl⟩ | exact .inl ⟨_, _, _, rfl, rfl⟩
 ·have l4 : decide (((List.length p : Nat) : Int) = 4) = false := decide_eq_false (by omega)
  rw [l4];exact .inr ⟨rfl, _, rfl⟩
abbrev St : Type := Int × Bool × Int × List Yl × Int
abbrev mkR (x : St) (bg cm : Bool) : JA := ((x.1, x.2.1, x.2.2.1, x.2.2.2.1, x.2.2.2.2, ()), bg, cm, ())
abbrev KT : Uc := (0, false, 0, [], 0, ())
structure StI (x : St) (bg cm : Bool) : Prop where
 calm : cm = true → bg = true
 len : x.2.2.2.1.length ≤ 120
 key : ∀ e ∈ x.2.2.2.1, ByteArray.size e.2.2.2.2.1.2.1 ≤ 1048576
noncomputable abbrev Rs (n : Nat) (bg cm : Bool) (i : Int) (x : St) (lines : List ByteArray) := ZZ n bg cm i 0 false 0 [] 0 x.1 x.2.1 x.2.2.1 x.2.2.2.1 x.2.2.2.2 lines
set_option maxHeartbeats 16000000 in
theorem Zn9 (lines : List ByteArray) (hlen : lines.length ≤ 100000) (i : Nat) (hi : i < lines.length) (x : St) (bg cm : Bool) (h : StI x bg cm) :
  ∃ (ok : Bool) (x' : St) (bg' cm' : Bool), YP big (mkR x bg cm) lines[i] = some (ok, mkR x' bg' cm', ()) ∧ (ok = true → StI x' bg' cm') ∧
   ∀ n, Rs (n + 1) bg cm (i : Int) x lines = bif ok then Rs n bg' cm' ((i + 1 : Nat) : Int) x' lines else some (KT, ((i + 1 : Nat) : Int), ()) := by
 obtain ⟨N, ch, li, ev, ca⟩ := x;have hn : nth lines i = some lines[i] := YV hi;have hw : IntKind.wrap .i64 ((i : Int) + 1) = ((i + 1 : Nat) : Int) := Xo (by omega);have dlt : decide ((i : Int) < (lines.length : Int)) = true := decide_eq_true (by omega);have ilt : (i : Int) < (lines.length : Int) := by omega
 have i0 : (0 : Int) ≤ (i : Int) := by omega
 rw [W6, Hv];simp only [Rs, Q3, dlt, cond_true, if_pos i0, if_pos ilt, Int.toNat_natCast, hn, Option.bind_some, Zip, hw];generalize hp : Ly lines[i] = pv;obtain ⟨ws, pok, pu⟩ := pv;cases pu;cases pok with
 | false =>
  simp only [Bool.not_false, cond_true, cond_false];exact ⟨false, (N, ch, li, ev, ca), bg, cm, rfl, (fun h => by cases h), fun n => rfl⟩
 | true =>
  obtain ⟨w10, wsz⟩ := Zkp hp;simp only [Bool.not_true, cond_true, cond_false];cases ws with
  | nil =>
   have d0 : decide (((List.length ([] : List ByteArray) : Nat) : Int) = 0) = true := rfl;simp only [d0, cond_true];exact ⟨true, (N, ch, li, ev, ca), bg, cm, rfl, fun _ => h, fun n => rfl⟩
  | cons w r =>
   have d0 : decide (((List.length (w :: r) : Nat) : Int) = 0) = false := decide_eq_false (by simp only [List.length_cons]; omega);have dp : (0 : Int) < ((List.length (w :: r) : Nat) : Int) := by simp only [List.length_cons]; omega
   have n0 : nth (w :: r) (Int.toNat (0 : Int)) = some w := rfl;have hw0 := (wsz w (by simp)).2;obtain ⟨c, cl, hc⟩ : ∃ c cl, w.data.toList = c :: cl := by
    cases hcl : w.data.toList with
    | nil => rw [← WD, hcl] at hw0; simp at hw0
    | cons c cl => exact ⟨c, cl, rfl⟩
   have nc : nth w.data.toList (Int.toNat (0 : Int)) = some c := by rw [hc]; rfl
   simp only [d0, cond_false, if_pos dp, n0, nc, Option.bind_some];cases decide ((c.toNat : Int) = 35) with
   | true =>
    simp only [cond_true];exact ⟨true, (N, ch, li, ev, ca), bg, cm, rfl, fun _ => h, fun n => rfl⟩
   | false =>
    simp only [cond_false];cases bg with
    | false =>
     have hcm : cm = false := by
      cases cm with
      | false => rfl
      | true => have := h.calm rfl; cases this
     subst hcm;simp only [Bool.not_false, cond_true, cond_false];rcases ZqT (mkR (N, ch, li, ev, ca) false false) (w :: r) (fun w hw => (wsz w hw).1) with ⟨n', c', l', h1, h2⟩ | ⟨h1, y, h2⟩
     ·rw [h1]
      simp only [h2, Option.bind_some, Bool.not_true, cond_false];exact ⟨true, (n', c', l', [], 0), true, false, rfl, fun _ => ⟨(fun e => by cases e), by simp, by simp⟩, fun n => rfl⟩
     ·rw [h1]
      simp only [h2, Option.bind_some, Bool.not_false, cond_true];exact ⟨false, (N, ch, li, ev, ca), false, false, rfl, (fun e => by cases e), fun n => rfl⟩
    | true =>
     simp only [Bool.not_true, cond_false];cases cm with
     | true =>
      simp only [cond_true];exact ⟨false, (N, ch, li, ev, ca), true, true, rfl, (fun e => by cases e), fun n => rfl⟩
     | false =>
      simp only [cond_false];have l1 : (1 : Int) ≤ ((List.length (w :: r) : Nat) : Int) := by simp only [List.length_cons]; omega
      have hdrop : List.take (List.length (w :: r) - Int.toNat (1 : Int)) (List.drop (Int.toNat (1 : Int)) (w :: r)) = r := by
       show List.take ((w :: r).length - 1) r = r;rw [List.take_of_length_le (by simp)]
      cases decide (w = ByteArray.mk #[(99 : UInt8), (97 : UInt8), (108 : UInt8), (109 : UInt8)]) with
      | true =>
       simp only [cond_true, if_pos l1, hdrop];rw [Lz r (by simp only [List.length_cons] at w10; omega) (fun w' hw' => Nat.le_trans (wsz w' (by simp [hw'])).1 (by decide))];simp only [Option.bind_some]
       match r with
       | [] =>
        have e2 : decide (((List.length [w] : Nat) : Int) = 2) = false := rfl;simp only [Hw, Bool.not_true, cond_false, e2, Bool.not_false, cond_true];exact ⟨false, (N, ch, li, ev, ca), true, false, rfl, (fun e => by cases e), fun n => rfl⟩
       | [a] =>
        have e2 : decide (((List.length [w, a] : Nat) : Int) = 2) = true := rfl;have e3 : (1 : Int) < ((List.length [w, a] : Nat) : Int) := by simp
        have n1 : nth [w, a] (Int.toNat (1 : Int)) = some a := rfl;obtain ⟨va, oa, ha⟩ : ∃ va oa, rdV a = (va, oa, ()) := ⟨(rdV a).1, (rdV a).2.1, rfl⟩
        simp only [Hw, e2, cond_true, if_pos e3, n1, Option.bind_some, XC, ha];cases oa with
        | false => exact ⟨false, (N, ch, li, ev, ca), true, false, rfl, (fun e => by cases e), fun n => rfl⟩
        | true => exact ⟨true, (N, ch, li, ev, va), true, true, rfl, fun _ => ⟨fun _ => rfl, h.len, h.key⟩, fun n => rfl⟩
       | a :: b :: r' =>
        have e2 : decide (((List.length (w :: a :: b :: r') : Nat) : Int) = 2) = false := decide_eq_false (by simp only [List.length_cons]; omega);simp only [e2, cond_false, Bool.not_false, cond_true];have hnum : ∀ (l : List ByteArray) (acc : List Int), (Hw l acc).2.1 = false ∨ (Hw l acc).1.length = acc.length + l.length := by
         intro l
         induction l with
         | nil => intro acc; exact .inr rfl
         | cons y l ih =>
          intro acc;unfold Hw;cases (rdV y).2.1 with
          | false => exact .inl rfl
          | true =>
           simp only [Bool.not_true, cond_false];rcases ih (acc ++ [(rdV y).1]) with h | h
           ·exact .inl h
           ·right; rw [h]; simp; omega
        have hk := hnum (a :: b :: r') [];obtain ⟨nl, nok, hnl⟩ : ∃ nl nok, Hw (a :: b :: r') [] = (nl, nok, ()) := ⟨(Hw (a :: b :: r') []).1, (Hw (a :: b :: r') []).2.1, rfl⟩
        rw [hnl] at hk;simp only [hnl];cases nok with
        | false => exact ⟨false, (N, ch, li, ev, ca), true, false, rfl, (fun e => by cases e), fun n => rfl⟩
        | true =>
         rcases hk with hk | hk
         ·cases hk
         ·have e4 : decide (((List.length nl : Nat) : Int) = 1) = false := decide_eq_false (by simp only [List.length_cons, List.length_nil] at hk; omega)
          simp only [e4, Bool.not_true, Bool.not_false, cond_true, cond_false];exact ⟨false, (N, ch, li, ev, ca), true, false, rfl, (fun e => by cases e), fun n => rfl⟩
      | false =>
       simp only [cond_false];obtain ⟨e, e', ok, h1, h2, h3⟩ := Zpm (w :: r) (by simp) w10 (fun w hw => (wsz w hw).1);simp only [h1, h2, Option.bind_some];cases ok with
       | false =>
        simp only [Bool.not_false, cond_true];exact ⟨false, (N, ch, li, ev, ca), true, false, rfl, (fun e => by cases e), fun n => rfl⟩
       | true =>
        obtain ⟨rfl, hk⟩ := h3 rfl;obtain ⟨eb, k1, k2⟩ := Zmr e hk;simp only [k1, k2, Option.bind_some, Bool.not_true, cond_false];cases eb with
        | false =>
         simp only [Bool.not_false, cond_true];exact ⟨false, (N, ch, li, ev, ca), true, false, rfl, (fun e => by cases e), fun n => rfl⟩
        | true =>
         have hl := h.len;simp only [Bool.not_true, cond_false]
         by_cases h120 : ev.length = 120
         ·have d1 : decide ((120 : Int) ≤ ((List.length ev : Nat) : Int)) = true := decide_eq_true (by omega)
          have d2 : decide (((List.length ev : Nat) : Int) = 120) = true := decide_eq_true (by omega);simp only [d1, d2, cond_true];exact ⟨false, (N, ch, li, ev, ca), true, false, rfl, (fun e => by cases e), fun n => rfl⟩
         ·have hl' : ev.length ≤ 120 := hl
          have d1 : decide ((120 : Int) ≤ ((List.length ev : Nat) : Int)) = false := decide_eq_false (by omega);have d2 : decide (((List.length ev : Nat) : Int) = 120) = false := decide_eq_false (by omega);have d3 : ev.length + 1 ≤ lim := by unfold lim; omega
          simp only [d1, d2, cond_false, if_pos d3];refine ⟨true, (N, ch, li, ev.append [e], ca), true, false, rfl, fun _ => ⟨(fun e => by cases e), ?_, ?_⟩, fun n => rfl⟩
          ·show (ev ++ [e]).length ≤ 120
           rw [List.length_append]; simp; omega
          ·intro y hy
           rcases List.mem_append.1 (show y ∈ ev ++ [e] from hy) with hy | hy
           ·exact h.key y hy
           ·simp only [List.mem_singleton] at hy; subst hy; exact hk
end Go.Sx.Tryz.Rd
set_option maxRecDepth 100000
namespace Go.Sx.Tryz.Rd
open Go Go.Sx Go.Proofs
open Go.IntKind renaming i64 → K6
def ScB (r : Uc × Int × Unit) : Prop := r.1.2.2.2.1.length ≤ 120 ∧ ∀ e ∈ r.1.2.2.2.1, ByteArray.size e.2.2.2.2.1.2.1 ≤ 1048576
theorem Zsa (k : Int) : ScB (KT, k, ()) := ⟨by simp, by simp⟩
theorem Zfc (lines : List ByteArray) (hlen : lines.length ≤ 100000) : ∀ (n i : Nat) (x : St) (bg cm : Bool), lines.length < n + i → i ≤ lines.length → StI x bg cm →
  ∃ r, Y3 n lines (lines.length : Int) (i : Int) 0 false 0 [] 0 x.1 x.2.1 x.2.2.1 x.2.2.2.1 x.2.2.2.2 bg cm = some r ∧ Rs n bg cm (i : Int) x lines = some r ∧ ScB r
 | 0, i, x, bg, cm, h, hi, _ => by omega
 | n + 1, i, x, bg, cm, h, hi, hx => by
  rcases Nat.lt_or_ge i lines.length with hl | hl
  ·obtain ⟨ok, x', bg', cm', h1, h2, h3⟩ := Zn9 lines hlen i hl x bg cm hx
   have hn : nth lines i = some lines[i] := YV hl;have hw : IntKind.wrap .i64 ((i : Int) + 1) = ((i + 1 : Nat) : Int) := Xo (by omega);rw [h3 n, XQ, decide_eq_true (show (i : Int) < (lines.length : Int) by omega), cond_true, if_pos (by omega), if_pos (by omega), Int.toNat_natCast, hn, Option.bind_some];have h1' : YP big ((x.1, x.2.1, x.2.2.1, x.2.2.2.1, x.2.2.2.2, ()), bg, cm, ()) lines[i] = some (ok, mkR x' bg' cm', ()) := h1;rw [h1', Option.bind_some];cases ok with
   | false =>
    refine ⟨(KT, ((i + 1 : Nat) : Int), ()), ?_, rfl, Zsa _⟩;rw [hw]; rfl
   | true =>
    rw [hw];exact Zfc lines hlen n (i + 1) x' bg' cm' (by omega) (by omega) (h2 rfl)
  ·have e : i = lines.length := by omega
   subst e;simp only [Rs, Q3, XQ, Int.lt_irrefl, decide_false, cond_false];cases bg with
   | false => exact ⟨_, rfl, rfl, Zsa _⟩
   | true => exact ⟨_, rfl, rfl, hx.len, hx.key⟩
theorem Zax : ∀ (l cur : List UInt8), (XF cur l).length ≤ l.length + 1
 | [], cur => by simp [XF]
 | b :: l, cur => by
  unfold XF
  split
  ·have := Zax l []; simp; omega
  ·have := Zax l (cur ++ [b]); simp; omega
theorem Zmu (s : ByteArray) (hs : s.size ≤ 3000) : Xc big s = Y3 big (Q9 s) ((Q9 s).length : Int) 0 0 false 0 [] 0 0 false 0 [] 0 false false := by
 have hsp : ¬ (3000 : Int) < (s.size : Int) := by omega
 have hs1 : (1 : Nat) ≤ ByteArray.size (ByteArray.mk #[(10 : UInt8)]) := by decide
 rw [V6, decide_eq_false hsp, cond_false, Eo, if_pos (by omega), if_pos hs1, Option.bind_some, Zko];have hd := Q8 s.data.toList [];have hln : Q9 s = (Zhl [] s.data.toList).map bL := rfl;have hcl := Zax s.data.toList [];rw [WD] at hcl;have hne := Zfe s.data.toList [];rw [hln, ← hd];clear hd hln;generalize XF [] s.data.toList = C at hcl hne;have h1 : 0 < C.length := List.length_pos_iff.2 hne;have hw : K6.wrap (((List.map bL C).length : Int) - 1) = ((C.length - 1 : Nat) : Int) := by
  rw [List.length_map, Zx (by omega) (by omega)]; omega
 have hn : nth (List.map bL C) (C.length - 1) = some (bL (C.getLast hne)) := by
  have hlt : C.length - 1 < (List.map bL C).length := by rw [List.length_map]; omega
  rw [YV hlt, List.getElem_map, List.getLast_eq_getElem]
 have hb1 : ((C.length - 1 : Nat) : Int) < ((List.map bL C).length : Int) := by rw [List.length_map]; omega
 have hb2 : ((C.length - 1 : Nat) : Int) ≤ ((List.map bL C).length : Int) := by rw [List.length_map]; omega
 rw [hw, if_pos (by omega), if_pos hb1, Int.toNat_natCast, hn, Option.bind_some, if_pos (by omega), if_pos hb2, List.getLast?_eq_some_getLast hne]
 by_cases he : C.getLast hne = []
 ·have hb0 : bL [] = ByteArray.mk #[] := rfl
  rw [he, decide_eq_true hb0, cond_true, if_pos rfl];have e : List.take (C.length - 1 - 0) (List.drop 0 (List.map bL C)) = List.map bL C.dropLast := by
   rw [List.drop_zero, Nat.sub_zero, List.dropLast_eq_take, List.map_take]
  rw [e, Nat.sub_zero, List.length_map, List.length_dropLast]
 ·have hb : bL (C.getLast hne) ≠ ByteArray.mk #[] := fun e => he (by
   have := congrArg (fun b : ByteArray => b.data.toList) e;simpa [bL] using this)
  have hs2 : ¬ (some (C.getLast hne) = some ([] : List UInt8)) := fun e => he (by simpa using e);rw [decide_eq_false hb, cond_false, if_neg hs2]
theorem p_ReadScript (s : ByteArray) : ∃ r, Xc big s = some r ∧ Je big s = some r ∧ ScB r := by
 by_cases hs : (3000 : Int) < (s.size : Int)
 ·refine ⟨(KT, -1, ()), ?_, ?_, Zsa _⟩
  ·rw [V6, decide_eq_true hs]; rfl
  ·rw [JY, decide_eq_true hs]; rfl
 ·have hs' : s.size ≤ 3000 := by omega
  rw [Zmu s hs', JY, decide_eq_false hs, cond_false, Zmt s hs', Option.bind_some];have hl := ZdG s;have hx : StI (0, false, 0, [], 0) false false := ⟨(fun h => by cases h), by simp, by simp⟩
  exact Zfc (Q9 s) (by omega) big 0 (0, false, 0, [], 0) false false (by unfold big; omega) (by omega) hx
end Go.Sx.Tryz.Rd
set_option maxRecDepth 100000
namespace Go.Sx.Tryz.Rd
open Go Go.Sx Go.Proofs
open Go.IntKind renaming i64 → K6
noncomputable def BS : List ByteArray → Nat → St → Bool → Bool → Option (Uc × Int × Unit)
 | [], _, x, bg, _ => some (bif bg then ((x.1, x.2.1, x.2.2.1, x.2.2.2.1, x.2.2.2.2, ()), 0, ()) else (KT, 1, ()))
 | l :: ls, i, x, bg, cm => (YP big (mkR x bg cm) l).bind fun y => bif y.1 then BS ls (i + 1) (y.2.1.1.1, y.2.1.1.2.1, y.2.1.1.2.2.1, y.2.1.1.2.2.2.1, y.2.1.1.2.2.2.2.1) y.2.1.2.1 y.2.1.2.2.1 else some (KT, ((i + 1 : Nat) : Int), ())
theorem Zmv (l : ByteArray) {x : St} {bg cm : Bool} (h : StI x bg cm) : ∃ (ok : Bool) (x' : St) (bg' cm' : Bool), YP big (mkR x bg cm) l = some (ok, mkR x' bg' cm', ()) ∧ (ok = true → StI x' bg' cm') := by
 obtain ⟨ok, x', bg', cm', h1, h2, _⟩ := Zn9 [l] (by simp) 0 (by simp) x bg cm h;exact ⟨ok, x', bg', cm', h1, h2⟩
theorem H2 (lines : List ByteArray) (hlen : lines.length ≤ 100000) : ∀ (n i : Nat) (x : St) (bg cm : Bool), lines.length < n + i → i ≤ lines.length → StI x bg cm →
  Y3 n lines (lines.length : Int) (i : Int) 0 false 0 [] 0 x.1 x.2.1 x.2.2.1 x.2.2.2.1 x.2.2.2.2 bg cm = BS (lines.drop i) i x bg cm
 | 0, i, x, bg, cm, h, hi, _ => by omega
 | n + 1, i, x, bg, cm, h, hi, hx => by
  rcases Nat.lt_or_ge i lines.length with hl | hl
  ·obtain ⟨ok, x', bg', cm', h1, h2⟩ := Zmv lines[i] hx
   have hn : nth lines i = some lines[i] := YV hl;have hw : IntKind.wrap .i64 ((i : Int) + 1) = ((i + 1 : Nat) : Int) := Xo (by omega);rw [XQ, decide_eq_true (show (i : Int) < (lines.length : Int) by omega), cond_true, if_pos (by omega), if_pos (by omega), Int.toNat_natCast, hn, Option.bind_some, List.drop_eq_getElem_cons hl];have h1' : YP big ((x.1, x.2.1, x.2.2.1, x.2.2.2.1, x.2.2.2.2, ()), bg, cm, ()) lines[i] = some (ok, mkR x' bg' cm', ()) := h1;rw [h1', Option.bind_some];unfold BS;rw [h1, Option.bind_some];cases ok with
   | false => rw [hw]; rfl
   | true =>
    rw [hw];exact H2 lines hlen n (i + 1) x' bg' cm' (by omega) (by omega) (h2 rfl)
  ·have e : i = lines.length := by omega
   subst e;simp only [XQ, Int.lt_irrefl, decide_false, cond_false, List.drop_length, BS];cases bg <;> rfl
theorem Zjk : ∀ (A : List ByteArray) (x : St) (bg cm : Bool), StI x bg cm → (∀ i B, ∃ j : Int, j ≠ 0 ∧ BS (A ++ B) i x bg cm = some (KT, j, ())) ∨ ∃ (x' : St) (bg' cm' : Bool), StI x' bg' cm' ∧ ∀ i B, BS (A ++ B) i x bg cm = BS B (i + A.length) x' bg' cm'
 | [], x, bg, cm, h => .inr ⟨x, bg, cm, h, fun i B => rfl⟩
 | l :: A, x, bg, cm, h => by
  obtain ⟨ok, x', bg', cm', h1, h2⟩ := Zmv l h;cases ok with
  | false =>
   refine .inl fun i B => ⟨((i + 1 : Nat) : Int), by omega, ?_⟩
   rw [List.cons_append];unfold BS;rw [h1]; rfl
  | true =>
   have e : ∀ i B, BS (l :: A ++ B) i x bg cm = BS (A ++ B) (i + 1) x' bg' cm' := fun i B => by
    rw [List.cons_append]
    conv => lhs; unfold BS
    rw [h1]; rfl
   rcases Zjk A x' bg' cm' (h2 rfl) with k | ⟨x2, b2, c2, k1, k2⟩
   ·exact .inl fun i B => by rw [e]; exact k (i + 1) B
   ·refine .inr ⟨x2, b2, c2, k1, fun i B => ?_⟩
    rw [e, k2, List.length_cons, Nat.add_assoc, Nat.add_comm 1]
def Zir (l : ByteArray) : Prop := ∀ x bg cm, YP big (mkR x bg cm) l = some (true, mkR x bg cm, ())
theorem ZdH {l : ByteArray} (h : Ly l = ([], true, ())) : Zir l := fun x bg cm => by
 rw [W6, Hv, h];rfl
theorem ZdI {l w : ByteArray} {r : List ByteArray} {c : List UInt8} (h : Ly l = (w :: r, true, ())) (hw : w.data.toList = 35 :: c) : Zir l := fun x bg cm => by
 have d0 : decide (((List.length (w :: r) : Nat) : Int) = 0) = false := decide_eq_false (by simp only [List.length_cons]; omega);have dp : (0 : Int) < ((List.length (w :: r) : Nat) : Int) := by simp only [List.length_cons]; omega
 have n0 : nth (w :: r) (Int.toNat (0 : Int)) = some w := rfl;have nc : nth w.data.toList (Int.toNat (0 : Int)) = some 35 := by rw [hw]; rfl
 rw [W6, Hv, h];simp only [Option.bind_some, Bool.not_true, cond_false, d0, if_pos dp, n0, nc];rfl
theorem Zkq : Zir (bL [35, 32, 115, 97, 105, 100]) := ZdI (w := bL [35]) (r := [bL [115, 97, 105, 100]]) (c := []) (by kernel_rfl) rfl
theorem Zpn : Zir (bL [32, 32, 32]) := ZdH (by kernel_rfl)
theorem Zpo : Zir (bL []) := ZdH (by kernel_rfl)
theorem ZdJ : Zir (bL [32, 32, 35, 32, 109, 111, 114, 101]) := ZdI (w := bL [35]) (r := [bL [109, 111, 114, 101]]) (c := []) (by kernel_rfl) rfl
theorem J1 {l : ByteArray} (h : Zir l) (B : List ByteArray) (i : Nat) (x : St) (bg cm : Bool) : BS (l :: B) i x bg cm = BS B (i + 1) x bg cm := by
 conv => lhs; unfold BS
 rw [h]; rfl
theorem MU : ∀ (a cur b : List UInt8), XF cur (a ++ 10 :: b) = XF cur a ++ XF [] b
 | [], cur, b => by simp [XF]
 | c :: a, cur, b => by
  have e : ∀ l, XF cur (c :: l) = if c = 10 then cur :: XF [] l else XF (cur ++ [c]) l := fun l => rfl
  rw [List.cons_append, e, e]
  split
  ·rw [MU a [] b]; rfl
  ·exact MU a _ b
theorem Zoa {s : ByteArray} (hs : s.size ≤ 3000) : Xc big s = BS (Q9 s) 0 (0, false, 0, [], 0) false false := by
 have hl := ZdG s;have hx : StI (0, false, 0, [], 0) false false := ⟨(fun h => by cases h), by simp, by simp⟩
 rw [Zmu s hs];exact H2 (Q9 s) (by omega) big 0 (0, false, 0, [], 0) false false (by unfold big; omega) (by omega) hx
theorem p_Remark {s z : ByteArray} (hz : z.data.toList = [35, 32, 115, 97, 105, 100] ++ 10 :: ([32, 32, 32] ++ 10 :: (s.data.toList ++ 10 :: ([32, 32, 35, 32, 109, 111, 114, 101] ++ 10 :: [])))) {r : Uc × Int × Unit} (hr : Xc big s = some r) :
  ∃ q, Xc big z = some q ∧ (r.2.1 ≠ 0 ∨ q.2.1 = -1 ∨ (q.2.1 = 0 ∧ q.1.2.2.2.1.length = r.1.2.2.2.1.length)) := by
 by_cases hl : (3000 : Int) < (z.size : Int)
 ·refine ⟨(KT, -1, ()), ?_, .inr (.inl rfl)⟩
  rw [V6, decide_eq_true hl]; rfl
 have hzs : z.size ≤ 3000 := by omega
 have hss : s.size ≤ 3000 := by
  rw [← WD] at hzs ⊢;rw [hz] at hzs;simp only [List.length_append, List.length_cons] at hzs;omega
 rw [Zoa hzs];rw [Zoa hss] at hr;have hx : StI (0, false, 0, [], 0) false false := ⟨(fun h => by cases h), by simp, by simp⟩
 -- the lines of Wf
 have cz : XF [] z.data.toList = [35, 32, 115, 97, 105, 100] :: [32, 32, 32] :: (XF [] s.data.toList ++ [[32, 32, 35, 32, 109, 111, 114, 101], []]) := by
  rw [hz, MU, MU, MU, MU];rfl
 have lz : Q9 z = bL [35, 32, 115, 97, 105, 100] :: bL [32, 32, 32] :: ((XF [] s.data.toList).map bL ++ [bL [32, 32, 35, 32, 109, 111, 114, 101]]) := by
  unfold Q9;rw [← Q8, cz];have e : (([35, 32, 115, 97, 105, 100] : List UInt8) :: [32, 32, 32] :: (XF [] s.data.toList ++ [[32, 32, 35, 32, 109, 111, 114, 101], []])) = ([35, 32, 115, 97, 105, 100] :: [32, 32, 32] :: (XF [] s.data.toList ++ [[32, 32, 35, 32, 109, 111, 114, 101]])) ++ [[]] := by simp
  rw [e, List.getLast?_append, List.getLast?_singleton, Option.some_or, if_pos rfl, List.dropLast_concat];simp
 have ls : (XF [] s.data.toList).map bL = Q9 s ∨ (XF [] s.data.toList).map bL = Q9 s ++ [bL []] := by
  unfold Q9;rw [← Q8]
  by_cases h : (XF [] s.data.toList).getLast? = some []
  ·right
   rw [if_pos h];obtain ⟨ys, hy⟩ : ∃ ys, XF [] s.data.toList = ys ++ [[]] := List.getLast?_eq_some_iff.1 h;rw [hy, List.dropLast_concat, List.map_append]; rfl
  ·left; rw [if_neg h]
 rw [lz, J1 Zkq, J1 Zpn];rcases Zjk (Q9 s) (0, false, 0, [], 0) false false hx with k | ⟨x', bg', cm', k1, k2⟩
 ·obtain ⟨j, hj, k0⟩ := k 0 []
  rw [List.append_nil] at k0;rw [k0] at hr;cases hr;rcases ls with e | e
  ·obtain ⟨j2, _, e2⟩ := k (0 + 1 + 1) [bL [32, 32, 35, 32, 109, 111, 114, 101]]
   rw [e, e2];exact ⟨_, rfl, .inl hj⟩
  ·obtain ⟨j2, _, e2⟩ := k (0 + 1 + 1) ([bL []] ++ [bL [32, 32, 35, 32, 109, 111, 114, 101]])
   rw [e, List.append_assoc, e2];exact ⟨_, rfl, .inl hj⟩
 ·have k0 := k2 0 []
  rw [List.append_nil] at k0;rw [k0] at hr;have fz : ∃ i, BS ((XF [] s.data.toList).map bL ++ [bL [32, 32, 35, 32, 109, 111, 114, 101]]) (0 + 1 + 1) (0, false, 0, [], 0) false false = BS [] i x' bg' cm' := by
   rcases ls with e | e
   ·rw [e, k2, J1 ZdJ]; exact ⟨_, rfl⟩
   ·rw [e, List.append_assoc, k2, List.singleton_append, J1 Zpo, J1 ZdJ]; exact ⟨_, rfl⟩
  obtain ⟨i, e⟩ := fz;rw [e];unfold BS at hr ⊢;cases bg' with
  | false => cases hr; exact ⟨_, rfl, .inl (by show (1 : Int) ≠ 0; decide)⟩
  | true => cases hr; exact ⟨_, rfl, .inr (.inr ⟨rfl, rfl⟩)⟩
end Go.Sx.Tryz.Rd
set_option maxRecDepth 100000
namespace Go.Sx.Tryz
open Go Go.Sx Go.Proofs
open Go.IntKind renaming i64 → K6
theorem ZsL (e : Yl) : eqD Yz e e = true := by simp [eqD]
theorem ZnA (s5 s9 : Int) (b0 : Int) (b1 : Bool) (b2 : Int) (l : List Yl) (hl : l.length ≤ 120) (b4 : Int) (c0 : Int) (c1 : Bool) (c2 c4 : Int) (d0 : Int) (d1 : Bool) (d2 : Int) (l2 : List Yl) (d4 : Int) (h : s5 ≠ 0 ∨ s9 = -1 ∨ (s9 = 0 ∧ l2.length = l.length)) :
  ∀ (m n : Nat) (i : Int), 0 ≤ i → (l.length : Int) = i + m → m < n → Xj n s5 s9 i b0 b1 b2 l b4 c0 c1 c2 l c4 d0 d1 d2 l2 d4 = some true := by
 intro m
 induction m with
 | zero =>
  intro n i h0 h1 h2;obtain ⟨n, rfl⟩ : ∃ m, n = m + 1 := ⟨n - 1, by omega⟩
  rw [WT, decide_eq_false (by omega), cond_false]
  by_cases h5 : s5 = 0
  ·rw [decide_eq_true h5]
   by_cases h9 : s9 = -1
   ·rw [decide_eq_true h9]; rfl
   ·rcases h with h | h | ⟨h, hq⟩
    ·exact absurd h5 h
    ·exact absurd h h9
    ·rw [decide_eq_false h9, decide_eq_true h, decide_eq_true (show (↑l2.length : Int) = ↑l.length by omega)]; rfl
  ·rw [decide_eq_false h5]; rfl
 | succ m ih =>
  intro n i h0 h1 h2;obtain ⟨n, rfl⟩ : ∃ m, n = m + 1 := ⟨n - 1, by omega⟩
  have hi : i.toNat < l.length := by omega
  rw [WT, decide_eq_true (by omega), cond_true, if_pos h0, if_pos (by omega), YV hi, Option.bind_some, if_pos h0, if_pos (by omega), Option.bind_some, ZsL, Zx (n := i + 1) (by omega) (by omega)];exact ih n (i + 1) (by omega) (by omega) (by omega)
set_option maxHeartbeats 4000000 in
theorem MV (code : List Int) : W7 big code = some true := by
 rw [BR]
 by_cases hc : (1048576 : Int) < (↑(List.length code) : Int)
 ·rw [decide_eq_true hc]; rfl
 rw [decide_eq_false hc, cond_false];obtain ⟨s, e1, hs⟩ := Zny code (by omega);obtain ⟨r, e2, e3, hb⟩ := Rd.p_ReadScript s;rw [e1];simp only [Option.bind_some, e2, e3];obtain ⟨q, e4, h4⟩ := Rd.p_Remark (s := s) (z := ByteArray.mk #[(35 : UInt8), (32 : UInt8), (115 : UInt8), (97 : UInt8), (105 : UInt8), (100 : UInt8), (10 : UInt8), (32 : UInt8), (32 : UInt8), (32 : UInt8), (10 : UInt8)] ++ s ++ ByteArray.mk #[(10 : UInt8), (32 : UInt8), (32 : UInt8), (35 : UInt8), (32 : UInt8), (109 : UInt8), (111 : UInt8), (114 : UInt8), (101 : UInt8), (10 : UInt8)]) (by
  simp only [ByteArray.data_append, Array.toList_append]
  simp) e2
 have z1 : (ByteArray.mk #[(35 : UInt8), (32 : UInt8), (115 : UInt8), (97 : UInt8), (105 : UInt8), (100 : UInt8), (10 : UInt8), (32 : UInt8), (32 : UInt8), (32 : UInt8), (10 : UInt8)]).size ≤ 20 := by decide
 have z2 : (ByteArray.mk #[(10 : UInt8), (32 : UInt8), (32 : UInt8), (35 : UInt8), (32 : UInt8), (109 : UInt8), (111 : UInt8), (114 : UInt8), (101 : UInt8), (10 : UInt8)]).size ≤ 20 := by decide
 rw [if_pos (by unfold lim; omega), if_pos (by rw [ByteArray.size_append]; unfold lim; omega), e4, Option.bind_some];simp only [decide_true, beq_self_eq_true, Bool.not_true, cond_false];exact ZnA r.2.1 q.2.1 _ _ _ r.1.2.2.2.1 hb.1 _ _ _ _ _ _ _ _ q.1.2.2.2.1 _ h4 r.1.2.2.2.1.length big 0 (by decide) (by omega) (by have := hb.1; unfold big; omega)
end Go.Sx.Tryz
