/- A cluster's replicas: each one's cells are those of its row, all through a run. -/
import Derived.Test.YtocddfdkknhgcaaGreatM8
import Derived.Test.YtocddfdkknhgcaaGreatTypes
import Derived.Test.YtocddfdkknhgcaaGreatEarlyH3
import Derived.Test.YtocddfdkknhgcaaGreatEarlyH1
import Derived.Test.YtocddfdkknhgcaaGreatEarlyF4
set_option linter.unusedVariables false
set_option linter.unusedSimpArgs false
set_option maxRecDepth 100000
namespace Go.Sx.Tryz
open Go Go.Sx Go.Proofs
open Go.IntKind renaming i64 → K6
def Ei (x : Zi) : Prop := (∀ p ∈ x.2.2.2.2.1, J x.2.2.2.1 p) ∧ RgT x.2.2.2.1
def SmC (x y : Zi) : Prop := y.2.2.2.1 = x.2.2.2.1 ∧ y.2.2.2.2.1 = x.2.2.2.2.1
theorem SmC.refl (x : Zi) : SmC x x := ⟨rfl, rfl⟩
theorem SmC.trans {x y z : Zi} (h : SmC x y) (k : SmC y z) : SmC x z := ⟨k.1.trans h.1, k.2.trans h.2⟩
theorem Ei.sm {x y : Zi} (h : Ei x) (k : SmC x y) : Ei y := by
 unfold Ei;rw [k.1, k.2]; exact h
theorem Ei.by_ {x y : Zi} (k : SmC x y) (h : Ei x) : Ei y := h.sm k
def ZvH (t u : List Zm) : Prop := u = t ∨ ∃ b : Zm, u = List.append t [b] ∧ qb b.2.2.2.1
theorem ZvH.j {t u : List Zm} (h : ZvH t u) {p : Zj} (hp : J t p) : J u p := by
 rcases h with rfl | ⟨b, rfl, _⟩
 ·exact hp
 ·exact ⟨hp.1.more b, hp.2⟩
theorem ZvH.g {t u : List Zm} (h : ZvH t u) (hg : RgT t) : RgT u := by
 rcases h with rfl | ⟨b, rfl, hb⟩
 ·exact hg
 ·intro x hx
  rcases List.mem_append.1 (show x ∈ t ++ [b] from hx) with hx | hx
  ·exact hg x hx
  ·rw [List.mem_singleton.1 hx]; exact hb
theorem Zxb (x : Zi) (k : Int) : Sat (Cu big x k) fun r => SmC x r.2.1 := by
 rw [ME];refine ZR fun _ => Zr (Zk (SmC.refl _)) (ZU (ZU (ZR fun _ => ?_)))
 repeat' first
  | refine ZU ?_
  | refine Wc ?_
  | refine Zk ?_
 all_goals exact ⟨rfl, rfl⟩
theorem Zo1 (x : Zi) (l : List Zo) : Sat (WK big x l) fun r => SmC x r.2.1 := by
 rw [Hv];exact Zr (Zk (SmC.refl _)) (ZU (ZU (Zk ⟨rfl, rfl⟩)))
theorem ZvI (n : Int) (ch : Bool) (li : Int) (tr : List Zm) (ps : List Zj) (ne : List Zo) (sa : List ZX) (pe : List Y3) (v0 v1 v2 v3 : Int) : ∀ (m : Nat) (i : Int), Sat (Qn m i n ch li tr ps ne sa pe v0 v1 v2 v3) fun r => SmC (n, ch, li, tr, ps, ne, sa, pe, ()) r.2.1 := by
 intro m
 induction m with
 | zero => intro i; exact Va
 | succ m ih =>
  intro i;rw [KO];exact Zr (ZU (ZU (ZR fun _ => Zr (Zk (SmC.refl _)) (ih _)))) (Wc (Wc (ZU (ZU (Zk ⟨rfl, rfl⟩)))))
theorem Zxc (x : Zi) (v : ZX) : Sat (Dr big x v) fun r => SmC x r.2.1 := by
 rw [Hw];exact Kp (ZvI _ _ _ _ _ _ _ _ _ _ _ _ big 0) fun r hr => SmC.trans ⟨rfl, rfl⟩ hr
theorem ZsI (l : List Zo) : ∀ (m : Nat) (i : Int) (c : Zi), Sat (Yj m i c.1 c.2.1 c.2.2.1 c.2.2.2.1 c.2.2.2.2.1 c.2.2.2.2.2.1 c.2.2.2.2.2.2.1 c.2.2.2.2.2.2.2.1 l) fun r => SmC c r.2.1 := by
 intro m
 induction m with
 | zero => intro i c; exact Va
 | succ m ih =>
  intro i c;rw [Qp];have nx : ∀ (j : Int) (d : Zi), SmC c d → Sat (Yj m j d.1 d.2.1 d.2.2.1 d.2.2.2.1 d.2.2.2.2.1 d.2.2.2.2.2.1 d.2.2.2.2.2.2.1 d.2.2.2.2.2.2.2.1 l) fun r => SmC c r.2.1 := fun j d hd => Kp (ih j d) fun r hr => hd.trans hr;have post : ∀ (j : Int) (d : Zi) (k : List Zo), SmC c d → Sat ((WK big d k).bind fun y => Yj m j y.2.1.1 y.2.1.2.1 y.2.1.2.2.1 y.2.1.2.2.2.1 y.2.1.2.2.2.2.1 y.2.1.2.2.2.2.2.1 y.2.1.2.2.2.2.2.2.1 y.2.1.2.2.2.2.2.2.2.1 l) fun r => SmC c r.2.1 := fun j d k hd =>
   ZC (Zo1 d k) fun y hy => nx j _ (hd.trans hy)
  refine Zr (ZU (ZU (ZR fun _ => Zr (ZU (ZU (ZR fun _ => ZC (Zxc _ _) fun y hy => ?_))) ?_))) (Zk ⟨rfl, rfl⟩)
  ·have h1 : SmC c y.2.1 := hy
   exact Zr (ZU (ZU (ZU (ZU (post _ _ _ h1))))) (nx _ _ h1)
  ·exact Zr (ZU (ZU (ZU (ZU (post _ _ _ ⟨rfl, rfl⟩))))) (nx _ _ (SmC.refl _))
theorem ZvJ {B S : Nat} {V : Int} (hB : B ≤ 800000) (hV : V + 1 ≤ 900) {x : Zi} (h : ClI B S V x) (hr : Ei x) (k : Int) : Sat (Bo big x k) fun r => Ei r.2.1 := by
 rw [Fz];refine QE (Zvr h k) (Zxb x k) fun y hyl hs => ?_;have hy := hyl.1;have hry := hr.sm hs;refine Q0 (fun _ => Zk hry) fun hb0 => ZR fun _ => Zr (Zk hry) ?_;have hl := hyl.2 hb0;have fin : ∀ (i : Nat) (z w : Zj) (l : List Zo), J y.2.1.2.2.2.1 z → J y.2.1.2.2.2.1 w → Sat (Yj big 0 y.2.1.1 y.2.1.2.1 y.2.1.2.2.1 y.2.1.2.2.2.1 (upd (upd y.2.1.2.2.2.2.1 i z) i w) y.2.1.2.2.2.2.2.1 y.2.1.2.2.2.2.2.2.1 y.2.1.2.2.2.2.2.2.2.1 l) fun r => Ei r.2.1 := fun i z w l hz hw =>
  Kp (ZsI l big 0 (y.2.1.1, y.2.1.2.1, y.2.1.2.2.1, y.2.1.2.2.2.1, upd (upd y.2.1.2.2.2.2.1 i z) i w, y.2.1.2.2.2.2.2)) fun r e => Ei.by_ e ⟨We hw (We hz hry.1), hry.2⟩
 refine Zr (ZU (ZU (Au fun z hz => ZC (ZvD hB hy.tree hry.2 (hy.peer z hz).1 hV (hry.1 z hz) _ _ hl) fun w hw => ?_))) (ZU (ZU (Au fun z hz => ZC (Zyi hB hy.tree (hy.peer z hz).1 hV (hry.1 z hz) _ _ hl) fun w hw => ?_)))
 ·exact Av (ZU (ZU (ZR fun _ => Av (fin _ _ _ _ (hry.1 z hz) hw))))
 ·exact Av (ZU (ZU (ZR fun _ => Av (fin _ _ _ _ (hry.1 z hz) hw))))
theorem Zxd {x : Zi} (hr : Ei x) (k : Int) : Sat (Ds big x k) fun r => Ei r.2.1 := by
 rw [Hx];refine ZR fun _ => Zr (Zk hr) (ZU (ZU (Au fun y hy => ZC (Zqj _ _) fun z hz => Av (Wc ?_))));refine Zr (Zk ⟨We (hr.1 y hy) hr.1, hr.2⟩) (ZU (ZU (ZR fun _ => Av (ZC (Zo1 _ _) fun w hw => Zk ?_))));exact Ei.by_ hw ⟨We ((hr.1 y hy).sm hz) (We (hr.1 y hy) hr.1), hr.2⟩
theorem ZvK (x : Zi) (k : Int) : Sat (Bp big x k) fun r => SmC x r.2.1 := by
 rw [ZbG];exact ZR fun _ => Zk ⟨rfl, rfl⟩
theorem ZgP {t : List Zm} (ht : XE t) (b : Zm) (hb : qb b.2.2.2.1) : Sat (XO big t b) fun r => ZvH t r.1 := by
 have hlo := ht.lo; have hhi := ht.hi;rw [Fh, Zur (by omega) (fun b hb => by have := (ht.cmds b hb).len; omega)];simp only [Option.bind_some];refine ZR fun _ => Zr (Zk (.inl rfl)) (ZR fun _ => Zr (Zk (.inl rfl)) (Zr (Zk (.inl rfl)) ?_));refine ZC (Q := fun r => r = b) ?_ fun y hy => ZU (Zk (.inr ⟨y, rfl, by rw [hy]; exact hb⟩));rw [Fe];exact ZU (Zk rfl)
theorem ZvL (b0 : Int) (b1 : Int) (b2 : Int) (b3 : Int) (b4 : Int) (b5 : Int) (b6 : Int) (b7 : Int) (b8 : Int) (b9 : Int) (b10 : Int) (b11 : Int) (b12 : Int) (b13 : Int) (b14 : List Int) (b15 : List ZB) (b16 : List Int) (b17 : List Ya) (b18 : List ZX) (b19 : List Zo) (b20 : Int) (hn : ∀ l ∈ b19, qb l.2.2.2.2.2.1) (z0 z1 z2 z3 : Int) : ∀ (n : Nat) (i : Int) (c0 c1 c2 c3 : Int), qb (c0, c1, c2, c3, ()) → Sat (Ky n i b0 b1 b2 b3 b4 b5 b6 b7 b8 b9 b10 b11 b12 b13 b14 b15 b16 b17 b18 b19 b20 z0 z1 z2 z3 c0 c1 c2 c3) qb := by
 intro n
 induction n with
 | zero => intro i c0 c1 c2 c3 _; exact Va
 | succ n ih =>
  intro i c0 c1 c2 c3 hc;rw [Aj];exact Zr (ZU (Au fun y hy => ZC (DI hc (hn y hy)) fun q hq => ih _ _ _ _ _ hq)) (Zk hc)
theorem Zxe {p : Zj} (h : RgP p) : Sat (Gl big p) qb := by
 rw [Mm];exact ZvL _ _ _ _ _ _ _ _ _ _ _ _ _ _ _ _ _ _ _ _ _ h.news _ _ _ _ big 0 _ _ _ _ h.high
theorem ZvM {t : List Zm} (ht : XE t) {p : Zj} (h : RgP p) (l : List Y3) : Sat (Ww big t p l) fun r => ZvH t r.1 ∧ Sm p r.2.1 := by
 rw [Pn];refine ZC (Zxe h) fun q hq => ZC (ZgP ht _ hq) fun y hy => ZC (Zmf _) fun w hw => ?_;subst hw;exact Zr (Zk ⟨hy, Sm.refl _⟩) (Zk ⟨hy, rfl, rfl, rfl, fun k => ⟨hq, k.lock, k.last, k.news, k.id⟩⟩)
theorem ZvN {x : Zi} (hr : Ei x) {t : List Zm} (hg : ZvH x.2.2.2.1 t) (b0 : Int) (b1 : Int) (b2 : Int) (b3 : Int) (b4 : Int) (b5 : Int) (b6 : Int) (b7 : Int) (b8 : Int) (b9 : Int) (b10 : Int) (b11 : Int) (b12 : Int) (b13 : Int) (b14 : List Int) (b15 : List ZB) (b16 : List Int) (b17 : List Ya) (b18 : List ZX) (b19 : List Zo) (b20 : Int) (hp : J x.2.2.2.1 (b0, b1, (b2, b3, b4, b5, ()), (b6, b7, b8, b9, ()), (b10, b11, b12, b13, ()), b14, b15, b16, b17, b18, b19, b20, ())) (i k at_ : Int) (n : Nat) :
  Sat (Z8 n i k t at_ x.1 x.2.1 x.2.2.1 x.2.2.2.1 x.2.2.2.2.1 x.2.2.2.2.2.1 x.2.2.2.2.2.2.1 x.2.2.2.2.2.2.2.1 b0 b1 b2 b3 b4 b5 b6 b7 b8 b9 b10 b11 b12 b13 b14 b15 b16 b17 b18 b19 b20) fun r => Ei r.2.1 := by
 cases n with
 | zero => exact Va
 | succ n =>
  rw [QG];refine Zr (Zk hr) (ZU (ZU (ZR fun _ => ZU (ZU (ZU (ZR fun _ => Av (ZC (Zo1 _ _) fun w hw => Zk ?_)))))));refine Ei.by_ hw ⟨?_, hg.g hr.2⟩;exact We (hg.j hp) fun p hp => hg.j (hr.1 p hp)
set_option maxHeartbeats 16000000 in
theorem Zxf {B S : Nat} {V : Int} {x : Zi} (h : ClI B S V x) (hr : Ei x) (i : Int) : Sat (DB big x i) fun r => Ei r.2.1 := by
 rw [HD];refine ZR fun _ => Zr (Zk hr) (ZU (ZU (Au fun z hz => ZR fun _ => Av ?_)));have hl : Ei (x.1, x.2.1, x.2.2.1, x.2.2.2.1, upd x.2.2.2.2.1 i.toNat z, x.2.2.2.2.2) := ⟨We (hr.1 z hz) hr.1, hr.2⟩
 have fin : ∀ (k : Int) (w : Zj) (l : List Y3), J x.2.2.2.1 w → Sat ((Ww big x.2.2.2.1 w l).bind fun y_3 => (BU (upd x.2.2.2.2.1 i.toNat z) i.toNat w).bind fun y =>
   Z8 big i k y_3.1 y_3.2.2.1 x.1 x.2.1 x.2.2.1 x.2.2.2.1 y x.2.2.2.2.2.1 x.2.2.2.2.2.2.1 x.2.2.2.2.2.2.2.1 y_3.2.1.1 y_3.2.1.2.1 y_3.2.1.2.2.1.1 y_3.2.1.2.2.1.2.1 y_3.2.1.2.2.1.2.2.1 y_3.2.1.2.2.1.2.2.2.1 y_3.2.1.2.2.2.1.1 y_3.2.1.2.2.2.1.2.1 y_3.2.1.2.2.2.1.2.2.1 y_3.2.1.2.2.2.1.2.2.2.1 y_3.2.1.2.2.2.2.1.1 y_3.2.1.2.2.2.2.1.2.1 y_3.2.1.2.2.2.2.1.2.2.1 y_3.2.1.2.2.2.2.1.2.2.2.1 y_3.2.1.2.2.2.2.2.1 y_3.2.1.2.2.2.2.2.2.1 y_3.2.1.2.2.2.2.2.2.2.1 y_3.2.1.2.2.2.2.2.2.2.2.1 y_3.2.1.2.2.2.2.2.2.2.2.2.1 y_3.2.1.2.2.2.2.2.2.2.2.2.2.1 y_3.2.1.2.2.2.2.2.2.2.2.2.2.2.1) fun r => Ei r.2.1 := fun k w l hw =>
  ZC (ZvM h.tree hw.2 l) fun v hv => Av (ZvN (x := (x.1, x.2.1, x.2.2.1, x.2.2.2.1, upd (upd x.2.2.2.2.1 i.toNat z) i.toNat w, x.2.2.2.2.2)) ⟨We hw hl.1, hr.2⟩ hv.1 _ _ _ _ _ _ _ _ _ _ _ _ _ _ _ _ _ _ _ _ _ (hw.sm hv.2) _ _ _ _)
 refine Zr (Zk hl) (Zr (Zk hl) (Zr ?_ ?_))
 ·exact Wc (ZU (ZU (Wc (Au fun w hw => Wc (ZU (ZU (fin _ _ _ (hl.1 w hw))))))))
 ·exact Wc (ZU (ZU (Wc (Au fun w hw => Wc (ZU (ZU (fin _ _ _ (hl.1 w hw))))))))
theorem Zuw (x : Zi) (l : Zo) : Sat (Xq big x l) fun r => SmC x r.2.1 := by
 rw [HC];exact ZR fun _ => Zr (Zk (SmC.refl _)) (ZC (Zo1 _ _) fun y hy => Zk hy)
theorem Rc {x : Zi} (ht : XE x.2.2.2.1) (hr : Ei x) (e : WG) (k view : Int) (q : Ch) : Sat
  ((W7 big x e.2.1).bind fun y_2 => bif !y_2 then some (false, x, PUnit.unit) else (Y4 big x.2.2.2.1 x.1 q).bind fun y_3 => bif !y_3 then some (false, x, PUnit.unit) else (VE big x.2.2.2.2.2.2.1 q x.2.2.1).bind fun y_4 => bif !y_4 then some (false, x, PUnit.unit) else
   (XO big x.2.2.2.1 (k, view, [e.2.2.2.2.1], q, ())).bind fun y_5 => bif decide (y_5.2.1 < (0 : Int)) then some (false, x, PUnit.unit) else (Xq big (x.1, x.2.1, x.2.2.1, y_5.1, x.2.2.2.2) ((1 : Int), e.2.1, e.2.2.1, view, y_5.2.1, q, ((0 : Int), (0 : Int), (0 : Int), (0 : Int), ()), ())).bind fun y =>
   bif !y.1 then some (false, (y.2.1.1, y.2.1.2.1, y.2.1.2.2.1, x.2.2.2.1, y.2.1.2.2.2.2), PUnit.unit) else some (true, y.2))
  fun r : Bool × Zi × Unit => Ei r.2.1 := by
 refine ZR fun _ => Zr (Zk hr) (ZC (Na _ _ _) fun o ho => Q0 (fun _ => Zk hr) fun eo => ZR fun _ => Zr (Zk hr) (ZC (ZgP ht _ (ho eo)) fun y hy => Zr (Zk hr) (ZC (Zuw _ _) fun w hw => Zr (Zk ?_) (Zk ?_))))
 ·refine Ei.sm hr ⟨rfl, hw.2⟩
 ·exact Ei.by_ hw ⟨fun p hp => hy.j (hr.1 p hp), hy.g hr.2⟩
set_option maxHeartbeats 4000000 in
theorem ZvO {x : Zi} (ht : XE x.2.2.2.1) (hr : Ei x) (e : WG) : Sat (By big x e) fun r => Ei r.2.1 := by
 rw [FI];refine ZcY (ZR fun y => Zr (ZU (ZU (ZR fun z => Zr (ZR fun q => ?_) (ZR fun q => ?_)))) (Zr (ZR fun q => ?_) (ZR fun q => ?_)))
 ·exact Zr (Zr (Zk hr) (Rc ht hr e _ _ q.1)) (Rc ht hr e _ _ q.1)
 ·exact Zr (Zr (Zk hr) (Rc ht hr e _ _ q.1)) (Rc ht hr e _ _ q.1)
 ·exact Zr (Zr (Zk hr) (Rc ht hr e _ _ q.1)) (Rc ht hr e _ _ q.1)
 ·exact Zr (Zr (Zk hr) (Rc ht hr e _ _ q.1)) (Rc ht hr e _ _ q.1)
theorem Zyj {x : Zi} (ht : XE x.2.2.2.1) (hr : Ei x) (e : WG) : Sat (Gy big x e) fun r => Ei r.2.1 := by
 rw [MO];have hand : ∀ l, Sat ((Xq big x l).bind fun y => some y) fun r => Ei r.2.1 := fun l => ZC (Zuw _ _) fun w hw => Zk (hr.sm hw);exact Zr (Zk hr) (ZR fun _ => Zr (Zk hr) (ZcY (Zr (ZR fun _ => ZR fun _ => hand _) (Zr (ZR fun _ => ZR fun _ => Zr (Zk hr) (hand _)) (Zr (ZC (ZvO ht hr e) fun w hw => Zk hw) (hand _))))))
theorem ZyR {B S : Nat} {V : Int} (h0 : 30000 ≤ B) (hB : B ≤ 800000) (hV : V + 1 ≤ 900) {x : Zi} (h : ClI B S V x) (hr : Ei x) (e : WG) : Sat (MP big x e) fun r => Ei r.2.1 := by
 rw [PY];refine Zr (Zr (Zk hr) (Wc (Wc (ZU (ZU (Zk hr)))))) (Zr (ZC (Zxf h hr _) fun y hy => Zk hy) (Zr (ZC (ZvJ hB hV h hr _) fun y hy => Zk hy) (Zr (ZC (Zxb _ _) fun y hy => Zk (hr.sm hy))
  (Zr (ZC (ZvK _ _) fun y hy => Zk (hr.sm hy)) (Zr (ZC (Zxd hr _) fun y hy => Zk hy) (Zr ?_ (ZC (Zyj h.tree hr e) fun y hy => Zk hy)))))))
 refine ZR fun _ => Zr (Zk hr) (ZU (ZU (Au fun y hy => ZC (ZtY h0 (by omega) h.tree (h.peer y hy).1 (h.peer y hy).2 (hr.1 y hy)) fun z hz => Av (ZU (ZU (ZR fun _ => Av (Zk ?_)))))));exact ⟨We hz (We (hr.1 y hy) hr.1), hr.2⟩
theorem Zxg (z0 : Int) (z1 : Bool) (z2 : Int) (z3 : List Zm) (z4 : List Zj) (z5 : List Zo) (z6 : List ZX) (z7 : List Y3) (a c : Int) (b : Bool) : ∀ (n : Nat) (i : Int) (ps : List Zj), 0 ≤ i → i ≤ a → a ≤ 7 →
  (∀ p ∈ ps, J [((-1 : Int), (0 : Int), [], ((0 : Int), (0 : Int), (0 : Int), (0 : Int), PUnit.unit), PUnit.unit)] p) → Sat (WR n a i z0 z1 z2 z3 z4 z5 z6 z7 a b c [((-1 : Int), (0 : Int), [], ((0 : Int), (0 : Int), (0 : Int), (0 : Int), PUnit.unit), PUnit.unit)] ps [] [] []) fun r => Ei r.1 := by
 intro n
 induction n with
 | zero => intro i ps _ _ _ _; exact Va
 | succ n ih =>
  intro i ps h0 h1 h2 h3;rw [Uh];refine Xx (fun hc => ZU ?_) fun _ => Zk ⟨h3, fun b hb => by rw [List.mem_singleton.1 hb]; exact Aw⟩;have hc := of_decide_eq_true hc;have e : K6.wrap (i + 1) ≤ a := by rw [IntKind.wrap_i64]; omega
  refine ih _ _ (by rw [ZD (by omega) (by omega)]; omega) e h2 fun p hp => ?_;rcases List.mem_append.1 hp with hp | hp
  ·exact h3 p hp
  ·rw [List.mem_singleton.1 hp]
   exact ⟨⟨rfl, fun x hx => by cases hx⟩, Aw, Aw, Aw, fun l hl => (by cases hl), by show i < U63; unfold U63; omega⟩
theorem ZvP (b : Bool) (l : Int) (h : l = 0 ∨ l = 8 ∨ l = 1 ∨ l = 2) : Sat (Kg big 4 b l) fun r => Ei r.1 := by
 have z : Ei ((0 : Int), false, (0 : Int), [], [], [], [], [], ()) := ⟨fun p hp => (by cases hp), fun b hb => (by cases hb)⟩
 rw [Cs];exact ZR fun _ => Zr (Zk z) (ZcY (ZR fun _ => Zr (Zk z) (ZR fun _ => ZR fun _ => Zr (Zk z) (Zxg _ _ _ _ _ _ _ _ 4 l b big 0 [] (by decide) (by decide) (by decide) fun p hp => by cases hp))))
theorem Zqn {most : Int} (hm : 0 < most ∧ most ≤ 26) (z0 : Int) (z1 : Bool) (z2 : Int) (z3 : List Zm) (z4 : List Zj) (z5 : List Zo) (z6 : List ZX) (z7 : List Y3) : ∀ (m n i : Nat) (c : Z0) (x : Zi), i ≤ 30 → 30 ≤ i + m → m < n → M4 c → ClI (30000 + 60 * i) (7 * i) (40 + i) x → Ei x →
  Sat (KE n most (i : Int) c.1 c.2.1 c.2.2.1 z0 z1 z2 z3 z4 z5 z6 z7 x.1 x.2.1 x.2.2.1 x.2.2.2.1 x.2.2.2.2.1 x.2.2.2.2.2.1 x.2.2.2.2.2.2.1 x.2.2.2.2.2.2.2.1) fun r => Ei r.1 := by
 intro m
 induction m with
 | zero =>
  intro n i c x h0 h1 h2 hc hx hr;obtain ⟨n, rfl⟩ : ∃ m, n = m + 1 := ⟨n - 1, by omega⟩
  rw [Qv];refine Wb (Vs (c := (c.1, c.2.1, c.2.2.1, ())) hc most) fun y hy => ?_;have h26 := hy.2.1 hm.1;rw [ZD (n := 4 + y.1) (by omega) (by omega)];exact Xx (fun h => by have := of_decide_eq_true h; omega) fun _ => Zk hr
 | succ m ih =>
  intro n i c x h0 h1 h2 hc hx hr;obtain ⟨n, rfl⟩ : ∃ m, n = m + 1 := ⟨n - 1, by omega⟩
  rw [Qv];refine Wb (Vs (c := (c.1, c.2.1, c.2.2.1, ())) hc most) fun y hy => ?_;have h26 := hy.2.1 hm.1;have hp : List.length x.2.2.2.2.1 = 4 := hx.peers;rw [ZD (n := 4 + y.1) (by omega) (by omega), ZD (n := (i : Int) + 1) (by omega) (by omega)];refine Xx (fun h => ?_) fun _ => Zk hr;have h := of_decide_eq_true h;refine Wb (ZsB (x.1, x.2.1, x.2.2.1, x.2.2.2.1, x.2.2.2.2.1, x.2.2.2.2.2.1, x.2.2.2.2.2.2.1, x.2.2.2.2.2.2.2.1, ()) (by show List.length x.2.2.2.2.1 ≤ 1000; omega) (by have := hx.net; show List.length x.2.2.2.2.2.1 ≤ 1000; omega) hx.n y.2.1 hy.2.2.2) fun z hz => ?_;obtain ⟨e1, e2, e3⟩ := hz;rw [e3];refine QE (Zyt (by omega) (by omega) (by omega) (by omega) (by omega) (x := x) hx e1) (ZyR (by omega) (by omega) (by omega) hx hr z.1) fun w hw hrw => ?_;have e : (i : Int) + 1 = ((i + 1 : Nat) : Int) := by omega
  rw [e];exact ih n (i + 1) z.2.1 w.2.1 (by omega) (by omega) (by omega) e2 ((hw.up (by omega) (by omega)).mono (by omega) (by omega)) hrw
theorem Zyk {c : Z0} (hc : M4 c) {most : Int} (hm : 0 < most ∧ most ≤ 26) : Sat (GA big c most) fun r => Ei r.1 := by
 rw [MQ];refine Wb (Zsc hc 2) fun y hy => Wb (FU hy _ (by decide)) fun z hz => ?_;have hl : z.1 = 0 ∨ z.1 = 8 ∨ z.1 = 1 ∨ z.1 = 2 := by
  have h1 := hz.1;simp only [List.mem_cons, List.not_mem_nil, or_false] at h1;omega
 refine QE (Zuv (V := 40) (by decide) y.1 hl) (ZvP y.1 z.1 hl) fun w hw hr => ?_;exact Zqn hm _ _ _ _ _ _ _ _ 30 big 0 z.2.1 w.1 (by decide) (by decide) (by decide) hz.2 (hw.mono (by decide) (by decide)) hr
theorem Zxh {c : Z0} (hc : M4 c) : Sat (DC big c) fun r => J r.1.1 r.1.2.1 := by
 rw [HE];refine ZC (Zyk hc (by decide)) fun y hy => ?_;simp only [XF];exact ZR fun z => ZU (ZU (Au fun w hw => Zk (hy.1 w hw)))
theorem Zqo (code : List Int) (hl : code.length ≤ 1099511627776) : Sat (BB big code) fun r => J r.1 r.2.1 := by
 rw [FK];exact Wb (Zvh code hl) fun c hc => ZC (Zxh hc) fun y hy => Zk hy
theorem CE {α : Type} {l : List α} (hl : l.length ≤ 16777216) {f : Nat → Int → Option Bool} (step : ∀ (n : Nat) (i : Int), 0 ≤ i → i < l.length → f n (i + 1) = some true → f (n + 1) i = some true) (done : ∀ n : Nat, f (n + 1) l.length = some true) :
  ∀ (m n i : Nat), i ≤ l.length → l.length ≤ i + m → m < n → f n (i : Int) = some true
 | m, 0, i, _, _, h => by omega
 | 0, n + 1, i, h0, h1, h2 => by
  obtain rfl : i = l.length := by omega
  exact done n
 | m + 1, n + 1, i, h0, h1, h2 => by
  by_cases hi : i < l.length
  ·exact step n i (by omega) (by omega) (by
    have := CE hl step done m n (i + 1) (by omega) (by omega) (by omega);rw [show ((i : Int) + 1) = ((i + 1 : Nat) : Int) by omega]; exact this)
  ·obtain rfl : i = l.length := by omega
   exact done n
theorem ZsJ (x : ZB) : eqD Yf x x = true := by simp [eqD]
theorem ZsK (x : Ya) : eqD YO x x = true := by simp [eqD]
theorem Zmh (x : ZX) : eqD Z9 x x = true := by simp [eqD]
theorem ZnJ (x : Zo) : eqD ZQ x x = true := by simp [eqD]
theorem ZvQ (x : Ch) : eqD WZ x x = true := by simp [eqD]
theorem CF (l : Yq) (hl : List.length l ≤ 16777216) : YE big l l = some true := by
 rw [Zcp, decide_eq_true rfl, Bool.not_true, cond_false];refine CE (f := fun n i => Ko n l l i) hl (fun n i h0 h1 h => ?_) (fun n => ?_) (List.length l) big 0 (by omega) (by omega) (by unfold big; omega)
 ·have hi : i.toNat < List.length l := by omega
  rw [Cz, decide_eq_true h1, cond_true, if_pos h0, Z2 hi, Option.bind_some, if_pos h0, Option.bind_some, decide_eq_true rfl, Bool.not_true, cond_false, ZD (n := i + 1) (by omega) (by omega)];exact h
 ·rw [Cz, decide_eq_false (by omega), cond_false]
theorem IK (l : Zu) (hl : List.length l ≤ 16777216) : Y1 big l l = some true := by
 rw [RL, decide_eq_true rfl, Bool.not_true, cond_false];refine CE (f := fun n i => Qx n l l i) hl (fun n i h0 h1 h => ?_) (fun n => ?_) (List.length l) big 0 (by omega) (by omega) (by unfold big; omega)
 ·have hi : i.toNat < List.length l := by omega
  rw [BE, decide_eq_true h1, cond_true, if_pos h0, Z2 hi, Option.bind_some, if_pos h0, Option.bind_some, ZsJ, Bool.not_true, cond_false, ZD (n := i + 1) (by omega) (by omega)];exact h
 ·rw [BE, decide_eq_false (by omega), cond_false]
theorem ZnK (l : YG) (hl : List.length l ≤ 16777216) : DE big l l = some true := by
 rw [RO, decide_eq_true rfl, Bool.not_true, cond_false];refine CE (f := fun n i => Qz n l l i) hl (fun n i h0 h1 h => ?_) (fun n => ?_) (List.length l) big 0 (by omega) (by omega) (by unfold big; omega)
 ·have hi : i.toNat < List.length l := by omega
  rw [BF, decide_eq_true h1, cond_true, if_pos h0, Z2 hi, Option.bind_some, if_pos h0, Option.bind_some, ZsK, Bool.not_true, cond_false, ZD (n := i + 1) (by omega) (by omega)];exact h
 ·rw [BF, decide_eq_false (by omega), cond_false]
theorem ZnL (l : Yt) (hl : List.length l ≤ 16777216) : DF big l l = some true := by
 rw [RR, decide_eq_true rfl, Bool.not_true, cond_false];refine CE (f := fun n i => QB n l l i) hl (fun n i h0 h1 h => ?_) (fun n => ?_) (List.length l) big 0 (by omega) (by omega) (by unfold big; omega)
 ·have hi : i.toNat < List.length l := by omega
  rw [BG, decide_eq_true h1, cond_true, if_pos h0, Z2 hi, Option.bind_some, if_pos h0, Option.bind_some, Zmh, Bool.not_true, cond_false, ZD (n := i + 1) (by omega) (by omega)];exact h
 ·rw [BG, decide_eq_false (by omega), cond_false]
theorem Zi8 (l : Z3) (hl : List.length l ≤ 16777216) : As big l l = some true := by
 rw [MZ, decide_eq_true rfl, Bool.not_true, cond_false];refine CE (f := fun n i => VH n l l i) hl (fun n i h0 h1 h => ?_) (fun n => ?_) (List.length l) big 0 (by omega) (by omega) (by unfold big; omega)
 ·have hi : i.toNat < List.length l := by omega
  rw [KW, decide_eq_true h1, cond_true, if_pos h0, Z2 hi, Option.bind_some, if_pos h0, Option.bind_some, ZnJ, Bool.not_true, cond_false, ZD (n := i + 1) (by omega) (by omega)];exact h
 ·rw [KW, decide_eq_false (by omega), cond_false]
theorem Zqp (x : Zj) (h : Zp5 x) : KF big x x = some true := by
 rw [Zcv];simp only [decide_true, cond_true, ZvQ, Zmh, CF _ h.row, IK _ h.cells, CF _ h.early, ZnK _ h.undos, ZnL _ h.votes, Zi8 _ h.news, Option.bind_some]
theorem Zmi (t : List Zm) (row : List Int) : (cellsOf t row).length ≤ 16777216 := Nat.le_trans (JJ (ZwR t row)).2 (by decide)
theorem Zc0 {t : List Zm} {p : Zj} (h : Zqt t p) {k : Int} (he : R5 t k (Xn p) = true) : YR t p k = (p.1, p.2.1, p.2.2.1, p.2.2.2.1, p.2.2.2.2.1, p.2.2.2.2.2.1 ++ WM t k (Xn p), cellsOf t (p.2.2.2.2.2.1 ++ WM t k (Xn p)), [], [], p.2.2.2.2.2.2.2.2.2) := by
 have := (Zsb h k).cells;unfold YR at this ⊢;rw [he, cond_true] at this ⊢;have e : UC (ZeX p) (CC t (WM t k (Xn p))) = cellsOf t (p.2.2.2.2.2.1 ++ WM t k (Xn p)) := this;unfold ZwQ;dsimp only [ZcN];rw [e]
theorem ZvR {t : List Zm} {k : Int} (h0 : 0 < k) (he : R5 t k 0 = true) : 0 < (WM t k 0).length := by
 have hk : R5 t k k = true := by
  unfold R5 at he ⊢;cases hw : ZoF t k with
  | none => rw [hw] at he; cases he
  | some l => simp
 have hm : k ∈ WM t k 0 := by
  unfold WM;rw [he, cond_true];rcases (DH t k).2.2.2 k hk with h | h
  ·omega
  ·exact List.mem_filter.2 ⟨h, decide_eq_true h0⟩
 exact List.length_pos_of_mem hm
set_option maxHeartbeats 4000000 in
theorem ZsL (code : List Int) : IH big code = some true := by
 rw [ZeU]
 by_cases hc : (1048576 : Int) < (↑(List.length code) : Int)
 ·rw [decide_eq_true hc]; rfl
 rw [decide_eq_false hc, cond_false];have hl : code.length ≤ 1099511627776 := by omega
 obtain ⟨⟨t, p, ⟨⟩⟩, e1, ht, hp⟩ := Zqi code hl;have hj : J t p := Zqo code hl _ e1;obtain ⟨ls, e2, hls, hrange⟩ := ZtV code hl;have ht : XE t := ht;have hp : Yz 40000 100 p := hp.1;have hlo : 1 ≤ List.length t := ht.lo;have hhi : List.length t ≤ 60 := ht.hi;have hrow := hp.row;have h0 : 0 < ls.length := by omega
 have hv := hrange _ (List.getElem_mem h0);have hm := ZiZ hv.1 (show (0 : Int) < (↑(List.length t) : Int) by omega);rw [e1, e2];simp only [Option.bind_some];rw [if_pos (by omega), Int.toNat_zero, Z2 h0, Option.bind_some, if_neg (by omega)];revert hm;generalize Int.tmod ls[0] (↑(List.length t) : Int) = k;intro hm;have hk := hp.k (by decide);have a1 := Zl9 t ht.b (by omega) ht.rest p hk k;have a2 := Ra t ht.b (by omega) ht.rest p hk k;obtain ⟨q, a3, hq, _⟩ := N3 (by decide) ht hp k;have eq : q = WA t p k := by rw [a2] at a3; exact (Option.some.inj a3).symm
 rw [eq] at hq;have hke := hq.k (by decide);have b1 := ZcP t ht.b (by omega) (WA t p k) hke k;have c1 := ZcP t ht.b (by omega) p hk k;rw [a1, Option.bind_some, b1, Option.bind_some, c1, Option.bind_some];have un : X6 big (WA t p k).2.2.2.2.2.2.1 (WA t p k).2.2.2.2.2.2.2.2.1 = some (cellsOf t p.2.2.2.2.2.1) := by
  rw [M2 _ hke.cB _ (Nat.le_trans hq.undos.len (by decide)) hke.undos];exact congrArg some (hj.ear k).1.cells
 have rc := N8 ht.b p.2.2.2.2.2.1 (by omega);have sc := IK (cellsOf t p.2.2.2.2.2.1) (Zmi _ _);have si := CF p.2.2.2.2.2.1 (by omega);have si2 : YE big (WA t p k).2.2.2.2.2.1 p.2.2.2.2.2.1 = some true := si;obtain ⟨f1, f2, f3⟩ := Uj t k (Xn p);have sa : YE big (WA t p k).2.2.2.2.2.2.2.1 (WM t k (Xn p)) = some true := by
  show YE big ([] ++ WM t k (Xn p)) (WM t k (Xn p)) = some true;rw [List.nil_append];exact CF _ (by omega)
 have ra := FT t (by omega) k (Xn p);have ex := IJ t (by omega) k (Xn p);have sp := Zqp p hk.b;have main : ∀ u : Int, u = Xn p → ∀ zC0 : Option Bool, (R5 t k (Xn p) = true → zC0 = some true) → ((X6 big (WA t p k).2.2.2.2.2.2.1 (WA t p k).2.2.2.2.2.2.2.2.1).bind fun y_6 => (XQ big t p.2.2.2.2.2.1).bind fun y_7 => (Y1 big y_6 y_7).bind fun y_8 => bif !y_8 then some false else (YE big (WA t p k).2.2.2.2.2.1 p.2.2.2.2.2.1).bind fun y_9 => bif !y_9 then some false else (Wy big t k u).bind fun y_10 => (YE big (WA t p k).2.2.2.2.2.2.2.1 y_10).bind fun y_11 => bif !y_11 then some false else (WH big t k u).bind fun y_12 => bif !y_12 then (KF big (YR t p k) p).bind fun y => some y else (YE big (YR t (WA t p k) k).2.2.2.2.2.1 (YR t p k).2.2.2.2.2.1).bind fun y_13 => bif y_13 then (Y1 big (YR t (WA t p k) k).2.2.2.2.2.2.1 (YR t p k).2.2.2.2.2.2.1).bind fun y_14 => bif y_14 then (XQ big t (YR t (WA t p k) k).2.2.2.2.2.1).bind fun y_15 => (Y1 big (YR t (WA t p k) k).2.2.2.2.2.2.1 y_15).bind fun y_16 => bif y_16 then zC0 else some false else some false else some false) = some true := by
  intro u hu zC0 hz;subst hu;simp only [un, rc, sc, si2, ra, sa, ex, Option.bind_some, Bool.not_true, cond_false];cases he : R5 t k (Xn p) with
  | false =>
   have : YR t p k = p := by unfold YR; rw [he]; rfl
   rw [this, sp]; rfl
  | true =>
   have hlen : List.length (p.2.2.2.2.2.1 ++ WM t k (Xn p)) ≤ 1048576 := by rw [List.length_append]; omega
   have t1 := Zc0 hj.1 he;have t2 := Zc0 (hj.ear k).1 (show R5 t k (Xn (WA t p k)) = true from he);have r1 : (YR t p k).2.2.2.2.2.1 = p.2.2.2.2.2.1 ++ WM t k (Xn p) := by rw [t1]
   have r2 : (YR t (WA t p k) k).2.2.2.2.2.1 = p.2.2.2.2.2.1 ++ WM t k (Xn p) := by rw [t2]; rfl
   have r3 : (YR t p k).2.2.2.2.2.2.1 = cellsOf t (p.2.2.2.2.2.1 ++ WM t k (Xn p)) := by rw [t1]
   have r4 : (YR t (WA t p k) k).2.2.2.2.2.2.1 = cellsOf t (p.2.2.2.2.2.1 ++ WM t k (Xn p)) := by rw [t2]; rfl
   simp only [Bool.not_true, cond_false, r1, r2, r3, r4, CF _ (Nat.le_trans hlen (by decide)), IK _ (Zmi _ _), N8 ht.b _ hlen, Option.bind_some, cond_true];exact hz he
 have last : R5 t k (Xn p) = true → (bif decide ((↑(List.length (YR t (WA t p k) k).2.2.2.2.2.2.2.1) : Int) = 0) then bif decide (k = 0) then some true else some (decide (0 < (↑(List.length (YR t (WA t p k) k).2.2.2.2.2.1) : Int))) else some false) = some true := fun he => by
  have t2 := Zc0 (hj.ear k).1 (show R5 t k (Xn (WA t p k)) = true from he);have r2 : (YR t (WA t p k) k).2.2.2.2.2.1 = p.2.2.2.2.2.1 ++ WM t k (Xn p) := by rw [t2]; rfl
  have r5 : (YR t (WA t p k) k).2.2.2.2.2.2.2.1 = [] := by rw [t2]
  rw [r5, r2, List.length_nil, decide_eq_true (show ((0 : Nat) : Int) = 0 from rfl), cond_true]
  by_cases hk0 : k = 0
  ·rw [decide_eq_true hk0]; rfl
  ·rw [decide_eq_false hk0, cond_false]
   refine congrArg some (decide_eq_true ?_);rw [List.length_append]
   by_cases hr : 0 < List.length p.2.2.2.2.2.1
   ·omega
   ·have e0 : Xn p = 0 := by
     have hn : p.2.2.2.2.2.1 = [] := List.eq_nil_of_length_eq_zero (by omega);unfold Xn;rw [hn]; rfl
    rw [e0] at he ⊢;have := ZvR (show 0 < k by omega) he;omega
 by_cases hr : 0 < List.length p.2.2.2.2.2.1
 ·have w : K6.wrap ((↑(List.length p.2.2.2.2.2.1) : Int) - 1) = (↑(List.length p.2.2.2.2.2.1) : Int) - 1 := ZD (by omega) (by omega)
  have e3 : ((↑(List.length p.2.2.2.2.2.1) : Int) - 1).toNat = List.length p.2.2.2.2.2.1 - 1 := by omega
  rw [decide_eq_true (by omega), cond_true, w, if_pos (by omega), if_pos (by omega), e3, Z2 (by omega), Option.bind_some];refine main _ ?_ _ last;unfold Xn;rw [ZnD hr]
 ·rw [decide_eq_false (by omega), cond_false]
  refine main _ ?_ _ last;have hn : p.2.2.2.2.2.1 = [] := List.eq_nil_of_length_eq_zero (by omega);unfold Xn;rw [hn]; rfl
end Go.Sx.Tryz
