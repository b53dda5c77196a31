/- Lists whose elements own lists: what is put behind them, and those written out. -/
import Derived.Test.YtddbjmambkepkaaGreatDoorM4
set_option linter.unusedVariables false
set_option linter.unusedSimpArgs false
namespace Go.Sx
open Go
section
variable {g : G} {rho : Rho} {h : List Blk} {w : World} {z : Z}
theorem TR.ones2 {im : Nat → Prop} {w : World} {t : Ty} {x : t.den} {cs : List Value} {S : List Nat} (h : TR im w true t x cs S) : ∀ u ∈ cs, Sx.one u = true :=
 TR.ones (h.weak (im' := fun k => im k ∨ k ∈ S) (fun _ hk => .inl hk) _ _ _ S true (fun _ hk => .inr hk))
theorem ZfE {im : Nat → Prop} {w : World} {a : Ty} {ys : List a.den} {c : Value} {S : List Nat} (ht : TR im w true (.sl true a) ys [c] S) :
  ∃ A cap inner S1, c = .slice A ys.length cap ∧ Ye (TR im w true a) ys inner S1 ∧ (∀ k ∈ S1, k ∈ S) ∧ (S.Nodup → S1.Nodup) ∧
   (∀ (P : Program) (w' : World), w'.heap = w.heap → (Builtin.firstCells a.size ys.length c).run P w' = .ok inner.toArray w') := by
 obtain ⟨A, cap, h1, h2, h3⟩ := ht;simp only [List.cons.injEq, and_true] at h1;subst h1;simp only [Bool.and_self, if_true] at h3;cases A with
 | none =>
  obtain ⟨rfl, rfl, rfl⟩ := h3;exact ⟨none, 0, [], [], rfl, ⟨rfl, rfl⟩, fun _ h => h, fun _ => List.nodup_nil, fun P w' _ => rfl⟩
 | some ad =>
  obtain ⟨hsp, inner, S', rfl, hba, hr⟩ := h3;refine ⟨some ad, cap, inner, S', rfl, hr, fun k hk => List.mem_cons_of_mem _ hk, fun hn => (List.nodup_cons.1 hn).2, fun P w' hw => ?_⟩;have hrd : VS w' ad inner := (VS.of_block hba).mono (by rw [hw]);exact Sx.run_loadCells hsp (Ye.len (fun _ _ _ hr => hr.len) hr) hrd
theorem ZiD (m : Mid g rho h w z) {a : Ty} {x : SV} {c : Value} {ys : List a.den} {h' : List Blk} (hp : 0 < a.size) (hv : V z x c) (he : Zjo z.h a x = some (ys, h')) :
  ∃ S, TR z.im z.w true (.sl true a) ys [c] S ∧ S.Nodup ∧ Mid g rho h w (z.withH h') ∧ Ext z (z.withH h') ∧ DZ (z.withH h') S ∧ (∀ k ∈ S, (UX rho h k ∨ w.heap.size ≤ k) ∧ k < z.w.heap.size) ∧
   h'.length = z.h.length ∧ ∀ b, nth h' b = nth z.h b ∨ nth h' b = some .gone := by
 unfold Zjo at he
 split at he
 ·rename_i ys' ho
  rcases ZdV ho with ⟨rfl, rfl⟩ | ⟨b, hc, hpub⟩
  ·simp only [Option.some.injEq, Prod.mk.injEq] at he
   obtain ⟨rfl, rfl⟩ := he;simp only [V] at hv;subst hv;exact ⟨[], ⟨none, 0, rfl, Nat.le_refl _, by simp⟩, List.nodup_nil, m, Ext.refl _, D0 z, (fun k hk => by cases hk), rfl, fun b => .inl rfl⟩
  ·have hx : (ys', upd z.h b Blk.gone) = (ys, h') ∧ ∃ v s y, nth z.h b = some (.arr v s y) := by
    rcases hc with hc | ⟨off, n, hc⟩
    ·rw [hc] at he ho
     refine ⟨by simpa using he, ?_⟩;unfold Zhi at ho;dsimp only at ho
     split at ho
     ·exact ⟨_, _, _, by assumption⟩
     ·cases ho
    ·rw [hc] at he; cases he
   obtain ⟨hx, v0, s0, y0, hb0⟩ := hx;simp only [Prod.mk.injEq] at hx;obtain ⟨rfl, rfl⟩ := hx;obtain ⟨S, k1, k2, k3, k4⟩ := Zcy m.iz rfl x c _ _ hv hpub;simp only [CV] at k1;have hcase : ∀ q, nth (upd z.h b Blk.gone) q = nth z.h q ∨ nth (upd z.h b Blk.gone) q = some .gone := fun q => by
    rcases ZP z.h b q Blk.gone with ⟨_, e, _⟩ | e
    ·exact .inr e
    ·exact .inl e
   obtain ⟨f1, f2⟩ := m.went k3 k4 (fun q hq => by
    rcases hcase q with e | e
    ·rwa [e] at hq
    ·rw [e] at hq; exact absurd hq Qt)
   exact ⟨S, k1.2.2, k2, m.off k3, X6 k3, f1, f2, ZG _ _ _, hcase⟩
 ·cases he
theorem ZjB {P : Program} (m : Mid g rho h w z) {b v cap : Nat} {ad : Addr} {S0 S1 : List Nat} {a : Ty} {xs zs : List a.den} {inner news : List Value} (hb : nth z.h b = some (.arr v a xs))
  (hr : z.rho b = some (.s (some ad) cap (ad.block :: S0))) (hs : ad.spot = none) (hba : X5 z.w ad (cap * a.size) inner) (hx : Ye (TR z.im z.w true a) xs inner S0) (hz : Ye (TR z.im z.w true a) zs news S1)
  (hf : DZ z S1) (hown : ∀ k ∈ S1, (UX rho h k ∨ w.heap.size ≤ k) ∧ k < z.w.heap.size) (hn1 : S1.Nodup) (hp : 0 < a.size) (hfit : xs.length + zs.length ≤ cap) :
  ∃ w', (storeCells ⟨ad.block, ad.off + inner.length, none⟩ news).run P z.w = .ok () w' ∧
   Mid g rho h w ⟨z.im, w', Yk z.rho b (.s (some ad) cap (ad.block :: (S0 ++ S1))), upd z.h b (.arr (v + 1) a (xs ++ zs))⟩ ∧
   Ext z ⟨z.im, w', Yk z.rho b (.s (some ad) cap (ad.block :: (S0 ++ S1))), upd z.h b (.arr (v + 1) a (xs ++ zs))⟩ := by
 have e1 := Ye.len (fun _ _ _ hr => hr.len) hx;have e2 := Ye.len (fun _ _ _ hr => hr.len) hz;have hroom : inner.length + news.length ≤ cap * a.size := by rw [e1, e2, ← Nat.add_mul]; exact Nat.mul_le_mul_right _ hfit
 obtain ⟨all, e, n1, n2, n3⟩ := hba.more hroom;have hst := WL (P := P) (A := ⟨ad.block, ad.off + inner.length, none⟩) rfl rfl news 0 z.w all n1 (by simpa using n2) (Ye.one (fun _ _ _ hr => hr.ones2) hz);simp only [Nat.add_zero] at hst;refine ⟨_, hst, ?_⟩;have hw : (if news = [] then z.w else Yb z.w ad.block (.cells (put1 all (ad.off + inner.length) news).toArray e (0, 0))).heap.size = z.w.heap.size := by split; rfl; exact Ww
 have hwk : ∀ k, k ≠ ad.block → (if news = [] then z.w else Yb z.w ad.block (.cells (put1 all (ad.off + inner.length) news).toArray e (0, 0))).heap[k]? = z.w.heap[k]? := by
  intro k hk; split; rfl; exact WY hk
 have hba' : X5 (if news = [] then z.w else Yb z.w ad.block (.cells (put1 all (ad.off + inner.length) news).toArray e (0, 0))) ad (cap * a.size) (inner ++ news) := by
  split
  ·rename_i hn; subst hn; simpa using hba
  ·exact n3
 have hlb : live (nth z.h b) := by rw [hb]; trivial
 have hnd := m.iz.nodup b _ hr hlb;simp only [D.blks] at hnd;have hn0 := List.nodup_cons.1 hnd;have hno : ∀ k ∈ S1, k ∉ ad.block :: S0 := fun k hk hm => (hf k hk).2 b _ hr hlb hm;exact m.turn (b := b) (S := S1) hr hlb hf hown (by rw [hw]; exact Nat.le_refl _) (fun k _ hnk => hwk k (by intro ek; subst ek; exact hnk (by simp [D.blks])))
  (fun k hk => by
   simp only [D.blks, List.mem_cons, List.mem_append] at hk ⊢;rcases hk with q | q | q
   ·exact .inl (.inl q)
   ·exact .inl (.inr q)
   ·exact .inr (.inl q)) (by
   simp only [D.blks];refine List.nodup_cons.2 ⟨fun hm => ?_, List.nodup_append.2 ⟨hn0.2, hn1, fun x hx y hy e => ?_⟩⟩
   ·rcases List.mem_append.1 hm with q | q
    ·exact hn0.1 q
    ·exact hno _ q (by simp)
   ·subst e; exact hno x hy (by simp [hx])) (by rw [hb]; exact ZX.arr (.inl (by omega))) (by split; exact Frz.refl _; exact LH) (fun he => by
   refine ⟨some ad, cap, _, rfl, ⟨some ad, cap, rfl, by simpa using hfit, ?_⟩, hp⟩;simp only [Bool.and_self, if_true];refine ⟨hs, inner ++ news, S0 ++ S1, rfl, hba', (hx.app hz).imp (fun y c S hS hr => hr.mono he.im _ _ _ _ _ (fun k hk => hwk k ?_))⟩;intro ek;subst ek;rcases List.mem_append.1 (hS _ hk) with q | q
   ·exact hn0.1 q
   ·exact hno _ q (by simp))
theorem PL (m : Mid g rho h w z) {b v cap newCap : Nat} {A : Option Addr} {S S0 S1 : List Nat} {a : Ty} {xs zs : List a.den} {inner news rest : List Value} {e : TypeId} {wd : World} (hb : nth z.h b = some (.arr v a xs))
  (hr : z.rho b = some (.s A cap S)) (hS : ∀ k ∈ S0, k ∈ S) (hn0 : S0.Nodup) (hx : Ye (TR z.im z.w true a) xs inner S0) (hz : Ye (TR z.im z.w true a) zs news S1)
  (hf : DZ z S1) (hown : ∀ k ∈ S1, (UX rho h k ∨ w.heap.size ≤ k) ∧ k < z.w.heap.size) (hn1 : S1.Nodup) (hp : 0 < a.size) (hfit : xs.length + zs.length ≤ newCap) (hwd : Zhj z.w wd)
  (hrest : rest.length = (newCap - (xs.length + zs.length)) * a.size) :
  Mid g rho h w ⟨z.im, Xm wd (.cells (inner ++ news ++ rest).toArray e (0, 0)), Yk z.rho b (.s (some ⟨z.w.heap.size, 0, none⟩) newCap (z.w.heap.size :: (S0 ++ S1))), upd z.h b (.arr (v + 1) a (xs ++ zs))⟩ ∧
   Ext z ⟨z.im, Xm wd (.cells (inner ++ news ++ rest).toArray e (0, 0)), Yk z.rho b (.s (some ⟨z.w.heap.size, 0, none⟩) newCap (z.w.heap.size :: (S0 ++ S1))), upd z.h b (.arr (v + 1) a (xs ++ zs))⟩ := by
 have e1 := Ye.len (fun _ _ _ hr => hr.len) hx;have e2 := Ye.len (fun _ _ _ hr => hr.len) hz;have hsz : (Xm wd (.cells (inner ++ news ++ rest).toArray e (0, 0))).heap.size = z.w.heap.size + 1 := by simp [Xm, hwd.heap]
 have hlb : live (nth z.h b) := by rw [hb]; trivial
 have hsame : ∀ k, k < z.w.heap.size → (Xm wd (.cells (inner ++ news ++ rest).toArray e (0, 0))).heap[k]? = z.w.heap[k]? := fun k hk => by
  show (wd.heap.push _)[k]? = _;rw [hwd.heap];exact V8 hk
 have hlt0 : ∀ k ∈ S0, k < z.w.heap.size := fun k hk => (m.own b _ hr hlb k (hS k hk)).2;have hlt1 : ∀ k ∈ S1, k < z.w.heap.size := fun k hk => (hown k hk).2;exact m.turn (b := b) (S := S1) hr hlb hf hown (by omega) (fun k hk _ => hsame k hk)
  (fun k hk => by
   simp only [D.blks, List.mem_cons, List.mem_append] at hk ⊢;rcases hk with q | q | q
   ·exact .inr (.inr ⟨by omega, by omega⟩)
   ·exact .inl (hS k q)
   ·exact .inr (.inl q)) (by
   simp only [D.blks];refine List.nodup_cons.2 ⟨fun hm => ?_, List.nodup_append.2 ⟨hn0, hn1, fun x hx y hy e => ?_⟩⟩
   ·rcases List.mem_append.1 hm with q | q
    ·have := hlt0 _ q; omega
    ·have := hlt1 _ q; omega
   ·subst e; exact (hf x hy).2 b _ hr hlb (hS x hx)) (by rw [hb]; exact ZX.arr (.inl (by omega))) ((Frz.of_eq hwd).trans (DV wd _ rfl)) (fun he => by
   refine ⟨_, newCap, _, rfl, ⟨_, newCap, rfl, by simpa using hfit, ?_⟩, hp⟩;simp only [Bool.and_self, if_true];refine ⟨trivial, inner ++ news, S0 ++ S1, rfl, ⟨(inner ++ news ++ rest).toArray, e, ?_, ?_, ?_⟩, (hx.app hz).imp (fun y c S hS' hr => hr.mono he.im _ _ _ _ _ (fun k hk => hsame k ?_))⟩
   ·show (wd.heap.push _)[z.w.heap.size]? = _
    rw [hwd.heap];exact J5
   ·simp only [Nat.zero_add, List.size_toArray, List.length_append, e1, e2, hrest, ← Nat.add_mul]
    exact Nat.mul_le_mul_right _ (by omega)
   ·intro j c hj
    simp only [Nat.zero_add, List.getElem?_toArray];rw [List.getElem?_append_left (List.getElem?_eq_some_iff.1 hj).1];exact hj
   ·rcases List.mem_append.1 (hS' k hk) with q | q
    ·exact hlt0 k q
    ·exact hlt1 k q)
theorem ZfF (m : Mid g rho h w z) {cap : Nat} {S1 : List Nat} {a : Ty} {xs : List a.den} {inner : List Value} {all : Array Value} {e : TypeId} {wd : World} (hx : Ye (TR z.im z.w true a) xs inner S1)
  (hf : DZ z S1) (hown : ∀ k ∈ S1, (UX rho h k ∨ w.heap.size ≤ k) ∧ k < z.w.heap.size) (hn1 : S1.Nodup) (hp : 0 < a.size) (hfit : xs.length ≤ cap) (hwd : Zhj z.w wd)
  (hall : ∀ (j : Nat) (c : Value), inner[j]? = some c → all[j]? = some c) (hsz : cap * a.size ≤ all.size) :
  Mid g rho h w ⟨z.im, Xm wd (.cells all e (0, 0)), Yk z.rho z.h.length (.s (some ⟨z.w.heap.size, 0, none⟩) cap (z.w.heap.size :: S1)), z.h ++ [.arr 0 a xs]⟩ ∧
   Ext z ⟨z.im, Xm wd (.cells all e (0, 0)), Yk z.rho z.h.length (.s (some ⟨z.w.heap.size, 0, none⟩) cap (z.w.heap.size :: S1)), z.h ++ [.arr 0 a xs]⟩ := by
 have hsz' : (Xm wd (.cells all e (0, 0))).heap.size = z.w.heap.size + 1 := by simp [Xm, hwd.heap]
 have hsame : ∀ k, k < z.w.heap.size → (Xm wd (.cells all e (0, 0))).heap[k]? = z.w.heap[k]? := fun k hk => by
  show (wd.heap.push _)[k]? = _;rw [hwd.heap];exact V8 hk
 have hlt1 : ∀ k ∈ S1, k < z.w.heap.size := fun k hk => (hown k hk).2;exact m.push (S := S1) hf hown (by omega) (fun k hk => hsame k hk)
  (fun k hk => by
   simp only [D.blks, List.mem_cons] at hk ⊢;rcases hk with q | q
   ·exact .inr ⟨by omega, by omega⟩
   ·exact .inl q) (by
   simp only [D.blks];exact List.nodup_cons.2 ⟨fun hm => by have := hlt1 _ hm; omega, hn1⟩) ((Frz.of_eq hwd).trans (DV wd _ rfl)) (fun he => by
   refine ⟨_, cap, _, rfl, ⟨_, cap, rfl, hfit, ?_⟩, hp⟩;simp only [Bool.and_self, if_true];refine ⟨trivial, inner, S1, rfl, ⟨all, e, ?_, by simpa using hsz, by simpa using hall⟩, hx.imp (fun y c S hS' hr => hr.mono he.im _ _ _ _ _ (fun k hk => hsame k (hlt1 k (hS' k hk))))⟩;show (wd.heap.push _)[z.w.heap.size]? = _;rw [hwd.heap];exact J5)
end
section
variable {R : Type} {P : Program} {E : Env} {o : Oper} {gt : Operand → SV} {h : List Blk}
theorem ZjC (hE : EnvOk0 P E) {c : Call} {x y : Operand} {t t' : TypeId} {K : SV → List Blk → Option R} {r : R} (ho : o.op = .call c) (hc : c.callee = .builtin .append)
  (ha : c.args.toList = [x, y]) (hat : c.argTypes.toList = [t, t']) (he : KU E h t t' (gt x) (gt y) K = some r) : ∃ v h', Z2 P o gt h v h' ∧ K v h' = some r := by
 have hx1 : x ∈ o.op.operands.toList := by rw [ho]; simp [Op.operands, Call.operands, hc, ha]
 have hy1 : y ∈ o.op.operands.toList := by rw [ho]; simp [Op.operands, Call.operands, hc, ha]
 have old : QB E h t t' (gt x) (gt y) K = some r → ∃ v h', Z2 P o gt h v h' ∧ K v h' = some r := Zfw hE ho hc ha hat;unfold KU at he
 split at he
 ·rename_i ty bs e hi
  split at he
  ·rename_i a hae
   cases hcond : (a.hasSl && HB E t' a) with
   | false => rw [hcond] at he; exact old he
   | true =>
    rw [hcond] at he;simp only [cond_true] at he;simp only [Bool.and_eq_true] at hcond;obtain ⟨e', ie', inf', q1, _⟩ := XS hE hcond.2;obtain ⟨d, k1, k2, k3⟩ := (hE.ti t _ hi).desc;obtain ⟨k4, ie, k5, k6⟩ := k3;obtain ⟨inf, d2, m1, m2, m3, m4, m5, m6, m7⟩ := LK hE hae;have hz : (mkV a (Zp a)).cells.size = a.size := by
     have h1 := (Z0 (im := fun _ => False) (w := default) (o := false) a).cells;have h2 := (Z0 (im := fun _ => False) (w := default) (o := false) a).len;rw [← Array.length_toList, h1, h2]
    split at he
    ·rename_i hgx
     split at he
     ·rename_i ys h' htk
      split at he
      ·rename_i hle
       refine ⟨_, _, fun g ac w rho hinv hv next Q hn => ?_, he⟩;have hvx := hv x hx1;rw [hgx] at hvx;simp only [V] at hvx;obtain ⟨S, t1, t2, t3, t4, t5, t6, t7, t8⟩ := ZiD (Mid.start hinv) (a := a.uq) (by rw [a.uq_size]; exact m6) (hv y hy1) htk;obtain ⟨A, cap, inner, S1, u1, u2, u3, u4, u5⟩ := ZfE t1;have hil := Ye.len (fun _ _ _ hr => hr.len) u2;rw [a.uq_size] at hil u5;obtain ⟨fit, grow⟩ := LM (P := P) (w := w) (ty := o.type) (XE := none) (n := 0) (cap := 0) (olds := []) (x := ac.eval y) (m := ys.length) (news := inner) (by rw [k1, k4]) q1 (.inl ⟨e', rfl⟩) m1 m2 m3 hz m7 (fun w' => by rw [u1]; rfl) (fun w' hw => u5 P w' hw) (fun w' _ => rfl) (by simp) hil (by omega)
       by_cases hy0 : ys = []
       ·subst hy0
        have hrun := fit (by simp);obtain ⟨p1, p2⟩ := t3.push (d1 := .s none 0 []) (nb := .arr 0 a.uq []) (w' := w) (S := []) (D0 _) (fun k hk => by cases hk) (Nat.le_refl _) (fun _ _ => rfl) (fun k hk => by cases hk) (by simp [D.blks]) (Frz.refl _)
         (fun _ => ⟨none, 0, [], rfl, ⟨none, 0, rfl, Nat.le_refl _, by simp⟩, by rw [a.uq_size]; exact m6⟩)
        obtain ⟨i2, x2⟩ := p1.done hinv;unfold Oper.wp;rw [Yi (P := P) (a := ac) (w := w) (w' := w) (v := .slice none 0 0) ho hc ha hat (by rw [hvx]; simpa using hrun)];exact hn _ _ _ i2 (Ki (z := zOf g _ _ w) (XJ _ _) Z7 rfl) ((t4.trans p2).trans x2)
       ·have hpos : 0 < ys.length := List.length_pos_iff.2 hy0
        obtain ⟨newCap, rest, wd, g1, g2, g3, g4⟩ := grow (by omega);have hfree1 : DZ ((zOf g rho h w).withH h') S1 := fun k hk => t5 k (u3 k hk);obtain ⟨p1, p2⟩ := ZfF (e := e) (all := ([] ++ inner ++ rest).toArray) (cap := newCap) t3 u2 hfree1 (fun k hk => t6 k (u3 k hk)) (u4 t2) (by rw [a.uq_size]; exact m6) (by omega) g2 (by
         intro j u hj;simp only [List.getElem?_toArray, List.nil_append];rw [List.getElem?_append_left (by exact (List.getElem?_eq_some_iff.1 hj).1)];exact hj) (by
         simp only [List.nil_append, List.size_toArray, List.length_append, hil, g3, ← Nat.add_mul, a.uq_size];exact Nat.mul_le_mul_right _ (by omega))
        obtain ⟨i2, x2⟩ := p1.done hinv;unfold Oper.wp;rw [Yi (P := P) (a := ac) (w := w) ho hc ha hat (by rw [hvx]; exact g4)];simp only [Nat.zero_add];exact hn _ _ _ i2 (Ki (z := zOf g _ _ _) (XJ _ _) Z7 rfl) ((t4.trans p2).trans x2)
      ·cases he
     ·cases he
    ·rename_i b v hgx
     split at he
     ·rename_i v' a' xs hb
      cases hnu : a'.noUq with
      | true => rw [hnu] at he; exact old he
      | false =>
       rw [hnu] at he;simp only [cond_false] at he
       split at he
       ·rename_i ev
        subst ev;cases heq : a.eqv a' with
        | false => rw [heq] at he; cases he
        | true =>
         rw [heq] at he;simp only [cond_true] at he;have hsz' : a'.size = a.size := (Ty.eqv_size heq).symm
         split at he
         ·rename_i ys h' htk
          split at he
          ·rename_i v2 a2 xs2 hb2
           split at he
           ·rename_i hle
            refine ⟨_, _, fun g ac w rho hinv hv next Q hn => ?_, he⟩;have hvx := hv x hx1;rw [hgx] at hvx;obtain ⟨A0, cap0, S0', u1, u2⟩ := ZaE (z := zOf g rho h w) hvx hb rfl;obtain ⟨S, t1, t2, t3, t4, t5, t6, t7, t8⟩ := ZiD (Mid.start hinv) (a := a') (by rw [hsz']; exact m6) (hv y hy1) htk;have hb' : nth h' b = some (.arr v' a' xs) := by
             rcases t8 b with q | q
             ·rw [q]; exact hb
             ·rw [q] at hb2; cases hb2
            obtain ⟨A, cap, inner, S1, n1, n2, n3, n4, n5⟩ := ZfE t1;have hil := Ye.len (fun _ _ _ hr => hr.len) n2;rw [hsz'] at hil n5;have hfree1 : DZ ((zOf g rho h w).withH h') S1 := fun k hk => t5 k (n3 k hk);have hown1 : ∀ k ∈ S1, (UX rho h k ∨ w.heap.size ≤ k) ∧ k < w.heap.size := fun k hk => t6 k (n3 k hk);have hsim := t3.iz.sim b _ u1;rw [show nth ((zOf g rho h w).withH h').h b = _ from hb'] at hsim;obtain ⟨A1, cap1, S1', w1, w2, wpos⟩ := hsim;cases w1;obtain ⟨A2, cap2, e1, e2, e3⟩ := w2;simp only [List.cons.injEq, and_true, Value.slice.injEq] at e1;obtain ⟨rfl, _, rfl⟩ := e1;simp only [Bool.and_self, if_true] at e3;have hlb : live (nth ((zOf g rho h w).withH h').h b) := by rw [show nth ((zOf g rho h w).withH h').h b = _ from hb']; trivial
            have hkn : nth (upd h' b (.arr (v' + 1) a' (xs ++ ys))) b = some (.arr (v' + 1) a' (xs ++ ys)) := ZW hb';cases A0 with
            | none =>
             obtain ⟨rfl, rfl, rfl⟩ := e3;obtain ⟨fit, grow⟩ := LM (P := P) (w := w) (ty := o.type) (XE := none) (n := 0) (cap := 0) (olds := []) (x := ac.eval y) (m := ys.length) (news := inner) (by rw [k1, k4]) q1 (.inl ⟨e', rfl⟩) m1 m2 m3 hz m7 (fun w' => by rw [n1]; rfl) (fun w' hw => n5 P w' hw) (fun w' _ => rfl) (by simp) hil (by simpa using hle)
             by_cases hy0 : ys = []
             ·subst hy0
              have hrun := fit (by simp);obtain ⟨p1, p2⟩ := t3.turn (b := b) (d1 := .s none 0 []) (nb := .arr (v' + 1) a' ([] ++ [])) (w' := w) (S := []) u1 hlb (D0 _) (fun k hk => by cases hk) (Nat.le_refl _) (fun _ _ _ => rfl) (fun k hk => by cases hk) (by simp [D.blks])
               (by rw [show nth ((zOf g rho h w).withH h').h b = _ from hb']; exact ZX.arr (.inl (by omega))) (Frz.refl _) (fun _ => ⟨none, 0, [], rfl, ⟨none, 0, rfl, Nat.le_refl _, by simp⟩, wpos⟩)
              obtain ⟨i2, x2⟩ := p1.done hinv;unfold Oper.wp;rw [Yi (P := P) (a := ac) (w := w) (w' := w) (v := .slice none 0 0) ho hc ha hat (by rw [u2]; simpa using hrun)];exact hn _ _ _ i2 (Ki (z := zOf g _ _ w) hkn Z7 rfl) ((t4.trans p2).trans x2)
             ·have hpos : 0 < ys.length := List.length_pos_iff.2 hy0
              obtain ⟨newCap, rest, wd, g1, g2, g3, g4⟩ := grow (by omega);obtain ⟨p1, p2⟩ := PL (e := e) (newCap := newCap) (rest := rest) (S0 := []) (inner := []) (xs := []) (wd := wd) t3 hb' u1 (fun k hk => by cases hk) List.nodup_nil ⟨rfl, rfl⟩ n2 hfree1 hown1 (n4 t2) wpos (by simpa using g1) g2 (by rw [g3, hsz']; simp);obtain ⟨i2, x2⟩ := p1.done hinv;unfold Oper.wp;rw [Yi (P := P) (a := ac) (w := w) ho hc ha hat (by rw [u2]; exact g4)];exact hn _ _ _ i2 (Ki (z := zOf g _ _ _) hkn Z7 (by simp)) ((t4.trans p2).trans x2)
            | some ad =>
             obtain ⟨hsp, inner0, S0, rfl, f2, f3⟩ := e3;have hl0 := Ye.len (fun _ _ _ hr => hr.len) f3;obtain ⟨fit, grow⟩ := LM (P := P) (w := w) (ty := o.type) (XE := some ad) (n := xs.length) (cap := cap0) (olds := inner0) (x := ac.eval y) (m := ys.length) (news := inner) (by rw [k1, k4]) q1 (.inl ⟨e', rfl⟩) m1 m2 m3 hz m7 (fun w' => by rw [n1]; rfl) (fun w' hw => n5 P w' hw) (fun w' hw => by
              have hrd : VS w' ad inner0 := (VS.of_block f2).mono (by rw [hw]; rfl);exact Sx.run_loadCells hsp (by rw [hl0, hsz']) hrd) (by rw [hl0, hsz']) hil hle
             by_cases hfit : xs.length + ys.length ≤ cap0
             ·have hrun := fit hfit
              obtain ⟨w', f4, f5, f6⟩ := ZjB (P := P) t3 hb' u1 hsp f2 f3 n2 hfree1 hown1 (n4 t2) wpos hfit;have hadd : ad.add (xs.length * a.size) = ⟨ad.block, ad.off + inner0.length, none⟩ := by rw [WV hsp, hl0, hsz']
              dsimp only at hrun;rw [hadd, show (storeCells ⟨ad.block, ad.off + inner0.length, none⟩ inner).run P w = _ from f4] at hrun;obtain ⟨i2, x2⟩ := f5.done hinv;unfold Oper.wp;rw [Yi (P := P) (a := ac) (w := w) ho hc ha hat (by rw [u2]; exact hrun)];exact hn _ _ _ i2 (Ki (z := zOf g _ _ w') hkn Z7 (by simp)) ((t4.trans f6).trans x2)
             ·obtain ⟨newCap, rest, wd, g1, g2, g3, g4⟩ := grow (by omega)
              have hnd0 := t3.iz.nodup b _ u1 hlb;obtain ⟨p1, p2⟩ := PL (e := e) (newCap := newCap) (rest := rest) (S0 := S0) (wd := wd) t3 hb' u1 (fun k hk => by simp [hk]) (List.nodup_cons.1 hnd0).2 f3 n2 hfree1 hown1 (n4 t2) wpos g1 g2 (by rw [g3, hsz']);obtain ⟨i2, x2⟩ := p1.done hinv;unfold Oper.wp;rw [Yi (P := P) (a := ac) (w := w) ho hc ha hat (by rw [u2]; exact g4)];exact hn _ _ _ i2 (Ki (z := zOf g _ _ _) hkn Z7 (by simp)) ((t4.trans p2).trans x2)
           ·cases he
          ·cases he
         ·cases he
       ·cases he
     ·cases he
    ·cases he
  ·cases he
 ·cases he
theorem ZfG {g : G} {rho : Rho} {h0 : List Blk} {w : World} {a : Ty} (ev : Operand → Value) : ∀ (l : List (Nat × Operand)) {z : Z} (_ : Mid g rho h0 w z) (j : Nat) (xs : List a.den) (arr : List Value) (h' : List Blk), (∀ x ∈ l, V z (gt x.2) (ev x.2)) →
  M1 a j (l.map fun p => (p.1, gt p.2)) z.h = some (xs, h') → j * a.size + l.length * a.size ≤ arr.length →
   ∃ cs S, Instr.fill (fun i => some (i * a.size, a.size)) arr.toArray (l.map fun p => (p.1, ev p.2)) = some (put1 arr (j * a.size) cs).toArray ∧
    Ye (TR z.im z.w true a) xs cs S ∧ xs.length = l.length ∧ S.Nodup ∧ Mid g rho h0 w (z.withH h') ∧ Ext z (z.withH h') ∧ Off z.h h' ∧ M5 z.rho z.h h' S ∧ (∀ b, Y7 (nth h' b) → Y7 (nth z.h b)) ∧ h'.length = z.h.length
 | [], z, m, j, xs, arr, h', _, he, _ => by
  simp only [List.map_nil, M1, Option.some.injEq, Prod.mk.injEq] at he;obtain ⟨rfl, rfl⟩ := he;exact ⟨[], [], by simp [Instr.fill, put1], ⟨rfl, rfl⟩, rfl, List.nodup_nil, m, Ext.refl _, Off.refl _, (fun k hk => by cases hk), fun _ h => h, rfl⟩
 | (i, x) :: l, z, m, j, xs, arr, h', hv, he, hl => by
  simp only [List.map_cons, M1] at he;cases hij : Nat.beq i j with
  | false => rw [hij] at he; cases he
  | true =>
   rw [hij] at he;simp only [cond_true] at he;have e0 := Nat.eq_of_beq_eq_true hij;subst e0
   split at he
   ·cases he
   ·rename_i d hd
    split at he
    ·rename_i y h1 hp
     split at he
     ·rename_i ys h2 hys
      simp only [Option.some.injEq, Prod.mk.injEq] at he;obtain ⟨rfl, rfl⟩ := he;obtain ⟨f1, f2⟩ := BW (hv (i, x) (by simp)) hd;obtain ⟨c1, c2, S1, e1, t1, t2, t3, t4, t5⟩ := ZdW a m.iz d [] _ y h1 f1 hp;simp only [VL] at t5;subst t5;rw [List.append_nil] at e1;have hc1 := t1.len;simp only [List.length_cons, Nat.add_mul, Nat.one_mul] at hl;simp only [List.map_cons];have hsz : (ev x).cells.size = a.size := by rw [← Array.length_toList, e1, hc1]
      rw [ZdQ (off := i * a.size) (size := a.size) rfl hsz (by simp; omega)];rw [e1];have hl1 := PK (HN a hp);obtain ⟨cs, S2, g1, g2, g3, g4, g5, g6, g7, g8, g9, g10⟩ := ZfG ev l (z := z.withH h1) (m.off t3) (i + 1) ys (put1 arr (i * a.size) c1) h2 (fun y hy => V.ext (X6 t3) _ _ (hv y (by simp [hy]))) hys (by
       rw [Wi (by omega), Nat.add_mul, Nat.one_mul]; omega)
      have hcs := Ye.len (fun _ _ _ hr => hr.len) g2;have hap := M5.apart m.iz t3 t4 g8;refine ⟨c1 ++ cs, S1 ++ S2, ?_, ⟨c1, cs, S1, S2, rfl, rfl, t1, g2⟩, by simp [g3], List.nodup_append.2 ⟨t2, g4, fun u hu v hv e => hap u hu (e ▸ hv)⟩, g5, (X6 t3).trans g6, t3.trans g7, ?_, fun b hb => hl1 b (g9 b hb), g10.trans (M7 a hp)⟩
      ·show Instr.fill _ (put1 arr.toArray.toList (i * a.size) c1).toArray _ = _
       simp only;rw [g1];congr 2;have e1 : (i + 1) * a.size = i * a.size + c1.length := by rw [Nat.add_mul, Nat.one_mul, hc1]
       rw [e1];exact Zfx (by rw [hcs, g3]; omega)
      ·intro k hk
       rcases List.mem_append.1 hk with q | q
       ·exact (t4.later g7) k q
       ·exact (g8.earlier t3) k q
     ·cases he
    ·cases he
theorem ZaJ (hE : EnvOk0 P E) {t : TypeId} {n : Nat} {ps : Array (Nat × Operand)} {K : SV → List Blk → Option R} {r : R} (ho : o.op = .buildSlice t n ps)
  (he : Wg E h t n (ps.toList.map fun p => (p.1, gt p.2)) K = some r) : ∃ v h', Z2 P o gt h v h' ∧ K v h' = some r := by
 unfold Wg at he
 split at he
 ·rename_i ty bs e hi
  split at he
  ·rename_i a hae
   cases hsl : a.hasSl with
   | false => rw [hsl] at he; exact HJ hE ho he
   | true =>
    rw [hsl] at he;simp only [cond_true] at he;cases hcond : (Nat.beq (ps.toList.map fun p => (p.1, gt p.2)).length n && Nat.ble n 4096 && Nat.ble a.size 1024) with
    | false => rw [hcond] at he; cases he
    | true =>
     rw [hcond] at he;simp only [cond_true] at he;simp only [Bool.and_eq_true] at hcond;obtain ⟨⟨hc1, hc2⟩, hc3⟩ := hcond;have hlen : ps.toList.length = n := by simpa using Nat.eq_of_beq_eq_true hc1
     have hn4 := Nat.le_of_ble_eq_true hc2;have hs1 := Nat.le_of_ble_eq_true hc3
     split at he
     ·rename_i xs h' hxs
      refine ⟨_, _, fun g ac w rho hinv hv next Q hn => ?_, he⟩;obtain ⟨d, k1, k2, k3⟩ := (hE.ti t _ hi).desc;obtain ⟨k4, ie, k5, k6⟩ := k3;obtain ⟨inf, d', m1, m2, m3, m4, m5, m6, m7⟩ := LK hE hae;have hz : (mkV a (Zp a)).cells = (Zp a).toArray := by
       have := (Z0 (im := fun _ => False) (w := w) (o := false) a).cells;exact Array.toList_inj.1 (by simpa using this)
      have hzl : (Zp a).length = a.size := (Z0 (im := fun _ => False) (w := w) (o := false) a).len;have hsm : ¬ (n * a.size > 2 ^ 24) := by
       have : n * a.size ≤ 4096 * 1024 := Nat.mul_le_mul hn4 hs1;omega
      have hel := ZfG (gt := gt) (a := a.uq) ac.eval ps.toList (Mid.start hinv) 0 xs ((Array.range (n * a.size)).map ((if n * a.size = 0 then #[] else (Zp a).toArray)[· % (if n * a.size = 0 then #[] else (Zp a).toArray).size]!)).toList h' (fun x hx => hv x.2 (by
       rw [ho]; simp only [Op.operands]; simpa using ⟨x.1, by simpa using hx⟩)) hxs (by simp [← hlen, a.uq_size])
      simp only [a.uq_size] at hel;obtain ⟨cs, S, f1, f2, f3, f4, f5, f6, f7, f8, f9, f10⟩ := hel;have hcs := Ye.len (fun _ _ _ hr => hr.len) f2;rw [a.uq_size] at hcs;have hput : put1 ((Array.range (n * a.size)).map ((if n * a.size = 0 then #[] else (Zp a).toArray)[· % (if n * a.size = 0 then #[] else (Zp a).toArray).size]!)).toList (0 * a.size) cs = cs := by
       have hl2 : cs.length = n * a.size := by rw [hcs, f3, hlen]
       simp only [put1, Nat.zero_mul, List.take_zero, List.nil_append, Nat.zero_add];rw [List.drop_eq_nil_of_le (by simp [hl2])];simp
      rw [hput] at f1;have hrun : (Instr.buildSlice t n (ps.map fun (i, x) => (i, ac.eval x))).run P w = .ok (.slice (some ⟨w.heap.size, 0, none⟩) n n) (Xm w (.cells cs.toArray e (0, 0))) := by
       unfold Instr.buildSlice;rw [Sx.run_bind_ok (Sx.run_underlying (by rw [k1, k4]))];dsimp only;rw [Sx.run_bind_ok (Sx.run_sizeOf m1), m2, if_neg hsm];simp only [Array.toArray_toList] at f1
       by_cases h0 : n * a.size = 0
       ·rw [if_pos h0]
        rw [Sx.run_bind_ok (Sx.run_pure P _ _)];simp only [if_pos h0] at f1;rw [BZ, f1];dsimp only;rw [Sx.run_bind_ok Jk];rfl
       ·rw [if_neg h0]
        rw [Sx.run_bind_ok (Sx.run_zeroValue m1 m3), Sx.run_bind_ok (Sx.run_pure P _ _), hz];simp only [if_neg h0] at f1;rw [BZ, f1];dsimp only;rw [Sx.run_bind_ok Jk];rfl
      obtain ⟨q1, q2⟩ := (Mid.start hinv).went f7 f8 f9;obtain ⟨p1, p2⟩ := ZfF (e := e) (all := cs.toArray) (cap := n) (wd := w) f5 f2 q1 q2 f4 (by rw [a.uq_size]; exact m6) (by rw [f3, hlen]; exact Nat.le_refl _) (Zhj.refl _) (by intro j u hj; simpa using hj) (by simp [hcs, f3, hlen, a.uq_size]);obtain ⟨i2, x2⟩ := p1.done hinv;unfold Oper.wp;have hexec : (execOp ac.eval o).run P w = .ok (.value (.slice (some ⟨w.heap.size, 0, none⟩) n n)) (Xm w (.cells cs.toArray e (0, 0))) := by
       unfold execOp;rw [ho];dsimp only;show ((Instr.buildSlice t n (ps.map fun (i, x) => (i, ac.eval x)) >>= fun v => pure (.value v)) : Sem Next).run P w = _;rw [Sx.run_bind_ok hrun];rfl
      rw [hexec];exact hn _ _ _ i2 (Ki (z := zOf g _ _ _) (XJ _ _) Z7 (by rw [f3, hlen])) ((f6.trans p2).trans x2)
     ·cases he
  ·cases he
 ·cases he
end
end Go.Sx
namespace Go.Sx
open Go
mutual
theorem Zd1 : ∀ (v : SV) {h h' : List Blk} {v' : SV}, pub h v = some (v', h') → ∀ b, Y7 (nth h' b) → Y7 (nth h b)
 | .val t x, h, h', v', hp, b, hb => by simp only [pub, Option.some.injEq, Prod.mk.injEq] at hp; rwa [hp.2]
 | .vl c0 t x, h, h', v', hp, b, hb => by simp only [pub, Option.some.injEq, Prod.mk.injEq] at hp; rwa [hp.2]
 | .nil, h, h', v', hp, b, hb => by simp only [pub, Option.some.injEq, Prod.mk.injEq] at hp; rwa [hp.2]
 | .own c u, h, h', v', hp, b, hb => by
  simp only [pub] at hp
  split at hp
  ·split at hp
   ·simp only [Option.some.injEq, Prod.mk.injEq] at hp
    rw [← hp.2] at hb;rcases ZP h c b Blk.gone with ⟨_, h2, _⟩ | h2
    ·rw [h2] at hb; exact absurd hb Qt
    ·rwa [h2] at hb
   ·cases hp
  ·cases hp
 | .sub c u off n, h, h', v', hp, b, hb => by
  simp only [pub] at hp
  split at hp
  ·split at hp
   ·rename_i t _ _ _
    cases hnu : t.noUq with
    | false => rw [hnu] at hp; cases hp
    | true =>
     rw [hnu] at hp;simp only [cond_true, Option.some.injEq, Prod.mk.injEq] at hp;rw [← hp.2] at hb;rcases ZP h c b Blk.gone with ⟨_, h2, _⟩ | h2
     ·rw [h2] at hb; exact absurd hb Qt
     ·rwa [h2] at hb
   ·cases hp
  ·cases hp
 | .agg l, h, h', v', hp, b, hb => by
  simp only [pub] at hp
  split at hp
  ·rename_i l' h1 hl
   simp only [Option.some.injEq, Prod.mk.injEq] at hp;exact Jo l hl b (hp.2 ▸ hb)
  ·cases hp
 | .tup l, h, h', v', hp, b, hb => by
  simp only [pub] at hp
  split at hp
  ·rename_i l' h1 hl
   simp only [Option.some.injEq, Prod.mk.injEq] at hp;exact Jo l hl b (hp.2 ▸ hb)
  ·cases hp
 | .ptr _ _, _, _, _, hp, _, _ => by simp [pub] at hp
 | .eptr _ _ _ _, _, _, _, hp, _, _ => by simp [pub] at hp
 | .rptr _ _ _, _, _, _, hp, _, _ => by simp [pub] at hp
 | .fn _ _, _, _, _, hp, _, _ => by simp [pub] at hp
 | .fr _ _, _, _, _, hp, _, _ => by simp [pub] at hp
 | .fv _ _, _, _, _, hp, _, _ => by simp [pub] at hp
 | .io _ _, _, _, _, hp, _, _ => by simp [pub] at hp
 | .mr _, _, _, _, hp, _, _ => by simp [pub] at hp
 | .fp _, _, _, _, hp, _, _ => by simp [pub] at hp
 | .dead, _, _, _, hp, _, _ => by simp [pub] at hp
theorem Jo : ∀ (l : List SV) {h h' : List Blk} {l' : List SV}, Zhm h l = some (l', h') → ∀ b, Y7 (nth h' b) → Y7 (nth h b)
 | [], h, h', v', hp, b, hb => by simp only [Zhm, Option.some.injEq, Prod.mk.injEq] at hp; rwa [hp.2]
 | x :: l, h, h', v', hp, b, hb => by
  simp only [Zhm] at hp
  split at hp
  ·rename_i x' h1 hx
   split at hp
   ·rename_i l1 h2 hl
    simp only [Option.some.injEq, Prod.mk.injEq] at hp;exact Zd1 x hx b (Jo l hl b (hp.2 ▸ hb))
   ·cases hp
  ·cases hp
end
theorem M8 (v : SV) {h : List Blk} {p : Po} (hp : We h v = some p) (b : Nat) (hb : Y7 (nth p.heap b)) : Y7 (nth h b) ∨ b ∈ M6 p.boxes := by
 cases v with
 | own b0 u =>
  simp only [We] at hp
  split at hp
  ·split at hp
   ·simp only [Option.some.injEq] at hp
    subst hp;rename_i v1 t x _ _;rcases ZP h b0 b (Blk.held u t x.length) with ⟨e, _, _⟩ | h2
    ·right; simp [M6, Lnt.n, e]
    ·left; exact h2 ▸ hb
   ·cases hp
  ·cases hp
 | nil => simp only [We, Option.some.injEq] at hp; subst hp; exact .inl hb
 | val t x =>
  simp only [We] at hp;cases hsl : t.hasSl with
  | true => rw [hsl] at hp; cases hp
  | false => rw [hsl] at hp; simp only [cond_false, Option.some.injEq] at hp; subst hp; exact .inl hb
 | _ => simp [We] at hp
theorem M9 : ∀ (l : List SV) {h : List Blk} {p : Po}, Qy h l = some p → ∀ b, Y7 (nth p.heap b) → Y7 (nth h b) ∨ b ∈ M6 p.boxes
 | [], h, p, hp, b, hb => by simp only [Qy, Option.some.injEq] at hp; subst hp; exact .inl hb
 | v :: l, h, p, hp, b, hb => by
  simp only [Qy] at hp
  split at hp
  ·cases hp
  ·rename_i p1 hp1
   split at hp
   ·cases hp
   ·rename_i q hq
    simp only [Option.some.injEq] at hp;subst hp;rcases M9 l hq b hb with k | k
    ·rcases M8 v hp1 b k with k | k
     ·exact .inl k
     ·exact .inr (by simp only [M6, List.map_append, List.mem_append]; exact .inl k)
    ·exact .inr (by simp only [M6, List.map_append, List.mem_append]; exact .inr k)
mutual
theorem ZkX : ∀ (m : Mode) (v : SV) {h : List Blk} {p : Po}, Zck m v h = some p → ∀ b, Y7 (nth p.heap b) → Y7 (nth h b) ∨ b ∈ M6 p.boxes
 | .ro t, v, h, p, hp, b, hb => by
  simp only [Zck] at hp
  split at hp
  ·simp only [Option.some.injEq] at hp; subst hp; exact .inl hb
  ·cases hp
 | .mv, v, h, p, hp, b, hb => by
  simp only [Zck] at hp
  split at hp
  ·rename_i v' h' hx
   simp only [Option.some.injEq] at hp;subst hp;exact .inl (Zd1 v hx b hb)
  ·cases hp
 | .mref, v, h, p, hp, b, hb => by
  simp only [Zck] at hp
  split at hp
  ·rename_i b0
   split at hp
   ·rename_i cells hb0
    split at hp
    ·rename_i c' h' hx
     simp only [Option.some.injEq] at hp;subst hp;have := Jo cells hx b hb;rcases ZP h b0 b Blk.lent with ⟨e, _, _⟩ | h2
     ·right; simp [M6, Lnt.n, e]
     ·left; rwa [h2] at this
    ·cases hp
   ·cases hp
  ·cases hp
 | .io, v, h, p, hp, b, hb => by
  simp only [Zck] at hp
  split at hp
  ·split at hp
   ·rename_i q hq
    simp only [Option.some.injEq] at hp;subst hp;exact M9 _ hq b hb
   ·cases hp
  ·exact M8 v hp b hb
 | .fnm ms, v, h, p, hp, b, hb => by
  simp only [Zck] at hp
  split at hp
  ·rename_i f cap
   split at hp
   ·rename_i q hq
    simp only [Option.some.injEq] at hp;subst hp;exact LO ms cap hq b hb
   ·cases hp
  ·cases hp
theorem LO : ∀ (ms : List Mode) (vs : List SV) {h : List Blk} {p : Po}, Kc ms vs h = some p → ∀ b, Y7 (nth p.heap b) → Y7 (nth h b) ∨ b ∈ M6 p.boxes
 | [], vs, h, p, hp, b, hb => by
  simp only [Kc] at hp
  split at hp
  ·simp only [Option.some.injEq] at hp; subst hp; exact .inl hb
  ·cases hp
 | m :: ms, vs, h, p, hp, b, hb => by
  simp only [Kc] at hp
  split at hp
  ·cases hp
  ·rename_i v vs'
   split at hp
   ·cases hp
   ·rename_i p1 hp1
    split at hp
    ·cases hp
    ·rename_i q hq
     simp only [Option.some.injEq] at hp;subst hp;rcases LO ms vs' hq b hb with k | k
     ·rcases ZkX m v hp1 b k with k | k
      ·exact .inl k
      ·exact .inr (by simp only [M6, List.map_append, List.mem_append]; first | exact .inl k | exact .inr k)
     ·exact .inr (by simp only [M6, List.map_append, List.mem_append]; first | exact .inl k | exact .inr k)
end
theorem FU : ∀ (a b : List LC), Zhk (a ++ b) = Zhk a ++ Zhk b
 | [], b => rfl
 | .box _ :: a, b => by simp [Zhk, FU a b]
 | .arr _ _ :: a, b => by simp [Zhk, FU a b]
mutual
theorem CV.sub {im : Nat → Prop} {w : World} : ∀ (v : SV) (c : Value) (S : List Nat) (B : List LC), CV im w v c S B → (Zhk B).Sublist S
 | .val t x, c, S, B, h => by simp only [CV] at h; rw [h.1, h.2.1]; exact List.Sublist.refl _
 | .vl c0 t x, c, S, B, h => by simp only [CV] at h; rw [h.1, h.2.1]; exact List.Sublist.refl _
 | .nil, c, S, B, h => by simp only [CV] at h; rw [h.1, h.2.1]; exact List.Sublist.refl _
 | .fr t x, c, S, B, h => by simp only [CV] at h; rw [h.1]; exact List.nil_sublist _
 | .fv t x, c, S, B, h => by simp only [CV] at h; rw [h.1]; exact List.nil_sublist _
 | .io t x, c, S, B, h => by simp only [CV] at h; rw [h.1]; exact List.nil_sublist _
 | .agg l, c, S, B, h => by simp only [CV] at h; obtain ⟨cs, _, h2⟩ := h; exact CVL.sub l cs S B h2
 | .tup l, c, S, B, h => by simp only [CV] at h; obtain ⟨cs, _, h2⟩ := h; exact CVL.sub l cs S B h2
 | .fn f l, c, S, B, h => by simp only [CV] at h; obtain ⟨cs, _, h2⟩ := h; exact CVL.sub l cs S B h2
 | .mr l, c, S, B, h => by
  simp only [CV] at h;obtain ⟨blk, cs, e, S', h1, h2, h3, h4, h5⟩ := h;rw [h2, h3];exact (List.nil_sublist _).cons_cons _
 | .fp l, c, S, B, h => by
  simp only [CV] at h;obtain ⟨blk, cs, e, S', h1, h2, h3, h4, h5⟩ := h;rw [h3];exact List.nil_sublist _
 | .own _ _, _, _, _, h => by simp only [CV] at h
 | .sub _ _ _ _, _, _, _, h => by simp only [CV] at h
 | .ptr _ _, _, _, _, h => by simp only [CV] at h
 | .eptr _ _ _ _, _, _, _, h => by simp only [CV] at h
 | .rptr _ _ _, _, _, _, h => by simp only [CV] at h
 | .dead, _, _, _, h => by simp only [CV] at h; rw [h.1, h.2]; exact List.Sublist.refl _
theorem CVL.sub {im : Nat → Prop} {w : World} : ∀ (l : List SV) (c : List Value) (S : List Nat) (B : List LC), CVL im w l c S B → (Zhk B).Sublist S
 | [], c, S, B, h => by simp only [CVL] at h; rw [h.2.1, h.2.2]; exact List.Sublist.refl _
 | x :: l, c, S, B, h => by
  simp only [CVL] at h;obtain ⟨c1, r, S1, S2, B1, B2, h1, h2, h3, h4, h5⟩ := h;rw [h2, h3, FU];exact (CV.sub x c1 S1 B1 h4).append (CVL.sub l r S2 B2 h5)
end
theorem UO.noRo {im im' : Nat → Prop} {w : World} : ∀ (cs : List (List SV)) (bs : List LC) (S : List Nat), cs.any Xt = false → UO im w cs bs S → UO im' w cs bs S
 | [], [], S, _, h => h
 | [], _ :: _, S, _, h => h
 | _ :: _, [], S, _, h => h
 | c :: cs, .box b :: bs, S, hn, h => by
  simp only [List.any_cons, Bool.or_eq_false_iff] at hn;simp only [UO] at h ⊢;obtain ⟨cells, e, S1, S2, h1, h2, h3, h4⟩ := h;exact ⟨cells, e, S1, S2, h1, h2, CVL.noRo c cells S1 [] hn.1 h3, UO.noRo cs bs S2 hn.2 h4⟩
 | c :: cs, .arr a t :: bs, S, hn, h => by
  simp only [List.any_cons, Bool.or_eq_false_iff] at hn;simp only [UO] at h ⊢;obtain ⟨x, S1, S2, rfl, h2, h3, h4⟩ := h;refine ⟨x, S1, S2, rfl, h2, h3.noRo ?_, UO.noRo cs bs S2 hn.2 h4⟩;have := hn.1;simp only [Xt, hasRo, Bool.or_false] at this;simp [Ty.hasRo, this]
def QG (l : List Nat) (rho : Rho) : Rho := fun b => if b ∈ l then (match rho b with | some (.s A cap _) => some (.s A cap []) | o => o) else rho b
theorem D3 {l : List Nat} {rho : Rho} {b : Nat} {d : D} (h : QG l rho b = some d) : ∃ d0, rho b = some d0 ∧ (d = d0 ∨ (b ∈ l ∧ ∃ A cap S, d0 = .s A cap S ∧ d = .s A cap [])) := by
 unfold QG at h
 split at h
 ·rename_i hm
  split at h
  ·rename_i A cap S hr
   cases h;exact ⟨_, hr, .inr ⟨hm, A, cap, S, rfl, rfl⟩⟩
  ·exact ⟨d, h, .inl rfl⟩
 ·exact ⟨d, h, .inl rfl⟩
theorem Jp {l : List Nat} {rho : Rho} {b : Nat} {d : D} (h : QG l rho b = some d) : ∃ d0, rho b = some d0 ∧ ∀ k ∈ d.blks, k ∈ d0.blks := by
 obtain ⟨d0, h1, h2 | ⟨_, A, cap, S, _, h3⟩⟩ := D3 h
 ·exact ⟨d0, h1, fun k hk => h2 ▸ hk⟩
 ·exact ⟨d0, h1, fun k hk => by subst h3; cases hk⟩
theorem ZjD {l : List Nat} {rho : Rho} {b : Nat} : Kd (rho b) (QG l rho b) := by
 intro A cap S e;unfold QG
 split
 ·rw [e]; exact ⟨[], rfl⟩
 ·exact ⟨S, e⟩
theorem Zou {l : List Nat} {rho : Rho} {b blk : Nat} (h : rho b = some (.v blk)) : QG l rho b = some (.v blk) := by
 unfold QG
 split
 ·rw [h]
 ·exact h
theorem ZfH {l : List Nat} {rho : Rho} {b : Nat} (h : b ∉ l) : QG l rho b = rho b := by
 unfold QG;rw [if_neg h]
def Zay : List Lnt → List Nat
 | [] => []
 | .box _ :: l => Zay l
 | .arr b _ _ :: l => b :: Zay l
theorem U8.at {z : Z} {h h' h1 : List Blk} {im : Nat → Prop} {w : World} {bs : List Lnt} {blks : List LC} {L : List Nat} (hb : U8 z.rho h h' bs blks) (hL : ∀ b ∈ Zay bs, b ∈ L) (hs : ∀ b, Y7 (nth h' b) → nth h1 b = nth h' b) : FT ⟨im, w, QG L z.rho, h1⟩ bs blks := by
 induction hb with
 | nil => exact .nil
 | cons k1 k2 k3 k4 ih => exact .cons (Zou k1) ((hs _ (.inl k3)).trans k3) (ih hL)
 | arr k1 k2 k3 k4 k5 ih =>
  refine .arr ?_ ((hs _ (.inr ⟨_, _, _, k3⟩)).trans k3) k4 (ih (fun b hb => hL b (List.mem_cons_of_mem _ hb)));show QG L z.rho _ = _;unfold QG;rw [if_pos (hL _ (List.mem_cons_self ..)), k1]
theorem U8.mem {rho : Rho} {h h' : List Blk} {bs : List Lnt} {blks : List LC} (hb : U8 rho h h' bs blks) : ∀ b ∈ M6 bs, (∃ blk, blk ∈ Zhk blks ∧ rho b = some (.v blk)) ∨ (b ∈ Zay bs ∧ ∃ v t x, nth h b = some (.arr v t x)) := by
 induction hb with
 | nil => intro b hb; cases hb
 | @cons b blk bs blks k1 _ _ _ ih =>
  intro c hc;rcases List.mem_cons.1 hc with rfl | hc
  ·exact .inl ⟨blk, by simp [Zhk], k1⟩
  ·rcases ih c hc with ⟨blk', h1, h2⟩ | h1
   ·exact .inl ⟨blk', by simp [Zhk, h1], h2⟩
   ·exact .inr h1
 | @arr b v cap A S t x bs blks k1 k2 _ _ _ ih =>
  intro c hc;rcases List.mem_cons.1 hc with rfl | hc
  ·exact .inr ⟨by simp [Zay], v, t, x, k2⟩
  ·rcases ih c hc with ⟨blk', h1, h2⟩ | ⟨h1, h2⟩
   ·exact .inl ⟨blk', by simpa [Zhk] using h1, h2⟩
   ·exact .inr ⟨by simp [Zay, h1], h2⟩
theorem HO : ∀ (bs : List Lnt), ∀ b ∈ Zay bs, b ∈ M6 bs
 | [], b, h => by cases h
 | .box _ :: l, b, h => List.mem_cons_of_mem _ (HO l b h)
 | .arr _ _ _ :: l, b, h => by
  rcases List.mem_cons.1 h with rfl | h
  ·exact List.mem_cons_self ..
  ·exact List.mem_cons_of_mem _ (HO l b h)
theorem ZX.re {r r' r'' : Option D} {o o' : Option Blk} (h : ZX r r' o o') (hs : Kd r r'') (hv : (o = some .lent ∨ ∃ c, o = some (.vars c)) → r'' = r) : ZX r r'' o o' := by
 refine ⟨h.1, h.2.1, fun v t n hi => ?_, fun hx => ?_⟩
 ·rcases h.2.2.1 v t n hi with e | ⟨v', t', n', e, hh⟩
  ·exact .inl e
  ·refine .inr ⟨v', t', n', e, ?_⟩
   rcases hh with hh | ⟨h1, h2, h3, _⟩
   ·exact .inl hh
   ·exact .inr ⟨h1, h2, h3, hs⟩
 ·rcases h.2.2.2 hx with e | ⟨_, e⟩
  ·exact .inl e
  ·exact .inr ⟨hv hx, e⟩
theorem ZjE {g : G} {rho : Rho} {h : List Blk} {w : World} (hi : Inv g rho h w) {p : Po} {cs : List Value} {S : List Nat} {B : List LC} (hp : Ey (zOf g rho h w) p cs S B)
  (hbox : ∀ b, Y7 (nth p.heap b) → Y7 (nth h b) ∨ b ∈ M6 p.boxes) (hlent : p.lent.all (fun b => WJ (nth p.heap b)) = true)
  {w' : World} {cr : Value} {S1 S2 : List Nat} {sv : SV} {outs : List (List SV)} (hnd : (S1 ++ S2).Nodup) (hrange : ∀ k ∈ S1 ++ S2, (k ∈ S ∨ w.heap.size ≤ k) ∧ k < w'.heap.size) (hk : FM w w' S)
  (hcv : CV (after (LI (zOf g rho h w) p.lent) S (S1 ++ S2) w w') w' sv cr S1 []) (hout : UO (after (LI (zOf g rho h w) p.lent) S (S1 ++ S2) w w') w' outs B S2)
  {h' : List Blk} (hr : W8 (bif hasRo sv || outs.any Xt then UM p.heap p.lent else p.heap) p.boxes outs = some h') :
  ∃ rho', Inv g rho' (Uj h' sv).2 w' ∧ Ext (zOf g rho h w) (zOf g rho' (Uj h' sv).2 w') ∧ V (zOf g rho' (Uj h' sv).2 w') (Uj h' sv).1 cr := by
 have hiz := hi.iz
 -- the lists that are read from now on
 obtain ⟨L, hL, hLs, hcv, hout⟩ : ∃ L : List Nat, (bif hasRo sv || outs.any Xt then UM p.heap p.lent else p.heap) = UM p.heap L ∧ (∀ b ∈ L, b ∈ p.lent) ∧
   CV (after (LI (zOf g rho h w) L) S (S1 ++ S2) w w') w' sv cr S1 [] ∧ UO (after (LI (zOf g rho h w) L) S (S1 ++ S2) w w') w' outs B S2 := by
  cases hro : (hasRo sv || outs.any Xt) with
  | true => exact ⟨p.lent, rfl, fun _ h => h, hcv, hout⟩
  | false =>
   simp only [Bool.or_eq_false_iff] at hro;exact ⟨[], rfl, by simp, CV.noRo _ _ _ _ hro.1 hcv, UO.noRo _ _ _ hro.2 hout⟩
 rw [hL] at hr;have hLlive : ∀ b ∈ L, WJ (nth p.heap b) = true := fun b hb => by
  have := List.all_eq_true.1 hlent b (hLs b hb);exact this
 have h1live : ∀ b, live (nth (UM p.heap L) b) → b ∉ L ∧ nth (UM p.heap L) b = nth p.heap b ∧ live (nth p.heap b) ∧ live (nth h b) := by
  intro b hl
  by_cases hb : b ∈ L
  ·exact absurd hl (Ji L _ hb)
  ·have e := Kg L p.heap hb
   rw [e] at hl;exact ⟨hb, e, hl, X8 hp.off hl⟩
 have hSrange : ∀ k ∈ S, k < w.heap.size ∧ (k ∈ g.S0 ∨ g.w0.heap.size ≤ k) := by
  intro k hks;obtain ⟨b, d, k1, k2, _, _, k5⟩ := hp.went k hks;exact hi.range b d k1 k2 k k5
 -- a block that went out and lies behind a live slot lies behind a box
 have harr : ∀ b ∈ Zay p.boxes, ∃ v t x, nth h b = some (.arr v t x) := by
  intro b hb;rcases hp.boxes.mem b (HO _ b hb) with ⟨blk, _, h2⟩ | ⟨_, h2⟩
  ·exfalso
   have h1 := (hp.boxes.was b (HO _ b hb)).1;have hh : ∀ (bs : List Lnt) (B : List LC), U8 (zOf g rho h w).rho (zOf g rho h w).h p.heap bs B → b ∈ Zay bs → ∃ A cap S, rho b = some (.s A cap S) := by
    intro bs B hx
    induction hx with
    | nil => intro h; cases h
    | cons _ _ _ _ ih => exact ih
    | arr k1 _ _ _ _ ih =>
     intro h;rcases List.mem_cons.1 h with rfl | h
     ·exact ⟨_, _, _, k1⟩
     ·exact ih h
   obtain ⟨A, cap, S', e⟩ := hh _ _ hp.boxes hb;have h2 : rho b = some (.v blk) := h2;rw [h2] at e;cases e
  ·exact h2
 have hSbox : ∀ b d, QG (Zay p.boxes) rho b = some d → live (nth (UM p.heap L) b) → ∀ k ∈ d.blks, k ∈ S → k ∈ Zhk B := by
  intro b d hd hl k hkd hks;obtain ⟨d00, hd0, hdd⟩ := D3 hd;have hdd : d = d00 ∧ b ∉ Zay p.boxes := by
   by_cases hm : b ∈ Zay p.boxes
   ·exfalso
    obtain ⟨v, t, x, hx⟩ := harr b hm;obtain ⟨A, cap, S', e, _⟩ := hi.sim b d00 hd0 |> fun q => by rw [hx] at q; exact q
    subst e;unfold QG at hd;rw [if_pos hm, hd0] at hd;cases hd;cases hkd
   ·rcases hdd with e | ⟨hm', _⟩
    ·exact ⟨e, hm⟩
    ·exact absurd hm' hm
  obtain ⟨rfl, hnm⟩ := hdd
  replace hd := hd0
  obtain ⟨q1, q2, q3, q4⟩ := h1live b hl;obtain ⟨b', d', k1, k2, k3, k4, k5⟩ := hp.went k hks;have hbb : b = b' := by
   rcases Nat.decEq b b' with hne | e
   ·exact absurd k5 (hi.disj b b' d d' hd k1 q4 k2 hne k hkd)
   ·exact e
  subst hbb;rcases k3 with k3 | k3
  ·rw [k3] at q3; exact q3.elim
  ·rcases hbox b k3 with hb | hb
   ·exact absurd hb k4
   ·rcases hp.boxes.mem b hb with ⟨blk, m1, m2⟩ | ⟨m1, _⟩
    ·have m2 : rho b = some (.v blk) := m2
     rw [hd] at m2;cases m2;simp only [D.blks, List.mem_singleton] at hkd;subst hkd;exact m1
    ·exact absurd m1 hnm
 have hBS2 := HM _ _ _ hout;obtain ⟨nd1, nd2, nd3⟩ := WZ hnd
 let im1 : Nat → Prop := after (LI (zOf g rho h w) L) S (S1 ++ S2) w w'
 let z1 : Z := ⟨im1, w', QG (Zay p.boxes) rho, UM p.heap L⟩
 have hext : Ext (zOf g rho h w) z1 := by
  refine ⟨fun k hkm => ?_, fun b => ?_⟩
  ·have hnS : k ∉ S := by
    intro hks;obtain ⟨b, d, k1, k2, _, _, k5⟩ := hp.went k hks;exact hkm.2.2 ⟨b, d, k1, k2, k5⟩
   refine ⟨⟨.inl (.inl hkm), Nat.lt_of_lt_of_le hkm.2.1 hk.1, fun hm => ?_⟩, hk.2 k hkm.2.1 hnS⟩;rcases (hrange k hm).1 with q | q
   ·exact hnS q
   ·exact Nat.not_le_of_lt hkm.2.1 q
  ·refine (((X6 hp.off).le b).trans ((J3 (g := g) (rho := rho) (w := w) L p.heap).le b)).re ZjD (fun hx => ZfH (fun hm => ?_))
   obtain ⟨v, t, x, hh⟩ := harr b hm;have hx : nth h b = some .lent ∨ ∃ c, nth h b = some (.vars c) := hx;rw [hh] at hx;rcases hx with hx | ⟨c, hx⟩ <;> cases hx
 have hiz1 : IZ z1 := by
  refine ⟨fun b d hd => ?_, fun b b' d d' a1 a2 l1 l2 hne k hk1 hk2 => ?_, fun b d a1 l1 => ?_, ?_⟩
  ·show Ev z1 d (nth (UM p.heap L) b)
   have hd : QG (Zay p.boxes) rho b = some d := hd;obtain ⟨d0, hd0, hdd⟩ := D3 hd
   by_cases hl : live (nth (UM p.heap L) b)
   ·obtain ⟨q1, q2, q3, q4⟩ := h1live b hl
    by_cases hlt : Y7 (nth (UM p.heap L) b)
    ·have hs := (Jn hiz hp.off).sim b d0 hd0
     have hs : Ev _ d0 (nth p.heap b) := hs;rw [← q2] at hs;rcases hlt with hlt | ⟨v, t, n, hlt⟩
     ·rw [hlt] at hs ⊢
      obtain ⟨blk, rfl⟩ := hs;rcases hdd with e | ⟨_, A, cap, S', e, _⟩
      ·exact ⟨blk, e⟩
      ·cases e
     ·rw [hlt] at hs ⊢
      obtain ⟨A, cap, S', rfl⟩ := hs;rcases hdd with e | ⟨_, A', cap', S'', e, e'⟩
      ·exact ⟨A, cap, S', e⟩
      ·exact ⟨A', cap', [], e'⟩
    ·rw [q2] at hlt
     have hnh : nth p.heap b = nth h b := by
      rcases hp.off.2 b with e | ⟨e, _⟩ | e
      ·exact e
      ·rw [e] at q3; exact q3.elim
      ·exact absurd e.lent hlt
     have hnm : b ∉ Zay p.boxes := fun hm => hlt ((hp.boxes.was b (HO _ b hm)).2);rw [ZfH hnm] at hd;rw [q2, hnh];refine (hi.sim b d hd).ext hext (fun _ k hkd => ?_);refine hk.2 k (hi.range b d hd q4 k hkd).1 (fun hks => ?_);obtain ⟨b', d', k1, k2, k3, k4, k5⟩ := hp.went k hks;have hbb : b = b' := by
      rcases Nat.decEq b b' with hne | e
      ·exact absurd k5 (hi.disj b b' d d' hd k1 q4 k2 hne k hkd)
      ·exact e
     subst hbb;rcases k3 with k3 | k3
     ·rw [k3] at q3; exact q3
     ·exact hlt k3
   ·cases hx : nth (UM p.heap L) b with
    | none => trivial
    | some x =>
     cases x with
     | gone => trivial
     | vars c => exact absurd (by rw [hx]; trivial) hl
     | arr v t x => exact absurd (by rw [hx]; trivial) hl
     | held v t n => exact absurd (by rw [hx]; trivial) hl
     | opn v t x i c => exact absurd (by rw [hx]; trivial) hl
     | lent => exact absurd (by rw [hx]; trivial) hl
  ·obtain ⟨d1, e1, e2⟩ := Jp (show QG (Zay p.boxes) rho b = some d from a1)
   obtain ⟨d2, e3, e4⟩ := Jp (show QG (Zay p.boxes) rho b' = some d' from a2);exact hi.disj b b' d1 d2 e1 e3 (h1live b l1).2.2.2 (h1live b' l2).2.2.2 hne k (e2 k hk1) (e4 k hk2)
  ·obtain ⟨d1, e1, e2 | ⟨_, A, cap, S', _, e3⟩⟩ := D3 (show QG (Zay p.boxes) rho b = some d from a1)
   ·subst e2; exact hi.nodup b d e1 (h1live b l1).2.2.2
   ·subst e3; exact List.nodup_nil
  ·intro b d hd hl k hkd hm
   have hl : live (nth (UM p.heap L) b) := hl;obtain ⟨d0, hd0, hds⟩ := Jp (show QG (Zay p.boxes) rho b = some d from hd);obtain ⟨q1, q2, q3, q4⟩ := h1live b hl;obtain ⟨m1, m2, m3⟩ := hm;rcases m1 with m1 | m1 | m1
   ·rcases m1 with m1 | ⟨r, hrL, d', e1, e2, e3⟩
    ·exact m1.2.2 ⟨b, d0, hd0, q4, hds k hkd⟩
    ·have hne : b ≠ r := fun e => q1 (e ▸ hrL)
     exact hi.disj b r d0 d' hd0 e1 q4 e2 hne k (hds k hkd) e3
   ·exact m3 (List.mem_append.2 (.inr (hBS2 k (hSbox b d hd hl k hkd m1))))
   ·exact Nat.not_le_of_lt (hi.range b d0 hd0 q4 k (hds k hkd)).1 m1
 have hlentkeep : ∀ b, Y7 (nth p.heap b) → nth (UM p.heap L) b = nth p.heap b := by
  intro b hb;have : b ∉ L := fun hm => by
   have := hLlive b hm;rcases hb with hb | ⟨v, t, n, hb⟩ <;> (rw [hb] at this; cases this)
  rw [Kg L _ this]
 have hba : FT z1 p.boxes B := U8.at (z := zOf g rho h w) hp.boxes (fun _ h => h) hlentkeep;obtain ⟨rho2, i2, e2, l2, f2⟩ := PJ outs (z := z1) hiz1 p.boxes B S2 h' hout hba hp.nd nd2 (by
  intro k hk2 hkB;refine ⟨fun hm => hm.2.2 (List.mem_append.2 (.inr hk2)), fun b d hd hl hkd => ?_⟩;obtain ⟨d0, hd0, hds⟩ := Jp (show QG (Zay p.boxes) rho b = some d from hd);rcases (hrange k (List.mem_append.2 (.inr hk2))).1 with q | q
  ·exact hkB (hSbox b d hd hl k hkd q)
  ·exact Nat.not_le_of_lt (hi.range b d0 hd0 (h1live b hl).2.2.2 k (hds k hkd)).1 q) hr
 obtain ⟨rho3, g3, v3⟩ := ZdZ sv (z := z1.mk2 rho2 h') i2 cr S1 hcv nd1 (by
  intro k hk1;refine ⟨fun hm => hm.2.2 (List.mem_append.2 (.inl hk1)), fun b d hd hl hkd => ?_⟩;rcases f2 b d hd hl with ⟨a1, a2⟩ | a
  ·obtain ⟨d0, hd0, hds⟩ := Jp (show QG (Zay p.boxes) rho b = some d from a1)
   rcases (hrange k (List.mem_append.2 (.inl hk1))).1 with q | q
   ·exact nd3 k hk1 (hBS2 k (hSbox b d a1 a2 k hkd q))
   ·exact Nat.not_le_of_lt (hi.range b d0 hd0 (h1live b a2).2.2.2 k (hds k hkd)).1 q
  ·exact nd3 k hk1 (a k hkd))
 have hrange3 : ∀ b d, rho3 b = some d → live (nth (Uj h' sv).2 b) → ∀ k ∈ d.blks, k < w'.heap.size ∧ (k ∈ g.S0 ∨ g.w0.heap.size ≤ k) := by
  have fromS : ∀ k ∈ S1 ++ S2, k < w'.heap.size ∧ (k ∈ g.S0 ∨ g.w0.heap.size ≤ k) := by
   intro k hm;refine ⟨(hrange k hm).2, ?_⟩;rcases (hrange k hm).1 with q | q
   ·exact (hSrange k q).2
   ·exact .inr (Nat.le_trans hi.kept.1 q)
  intro b d hd hl k hkd;rcases Nat.lt_or_ge b h'.length with hlt | hge
  ·have ho := g3.old b hlt
   have ho1 : nth (Uj h' sv).2 b = nth h' b := ho.1;have ho2 : rho3 b = rho2 b := ho.2;rw [ho1] at hl;rw [ho2] at hd;rcases f2 b d hd hl with ⟨a1, a2⟩ | a
   ·obtain ⟨d0, hd0, hds⟩ := Jp (show QG (Zay p.boxes) rho b = some d from a1)
    have := hi.range b d0 hd0 (h1live b a2).2.2.2 k (hds k hkd);exact ⟨Nat.lt_of_lt_of_le this.1 hk.1, this.2⟩
   ·exact fromS k (List.mem_append.2 (.inr (a k hkd)))
  ·exact fromS k (List.mem_append.2 (.inl (g3.new b d hge hd hl k hkd)))
 have hto : Ext (z1.mk2 rho3 (Uj h' sv).2) (zOf g rho3 (Uj h' sv).2 w') := by
  refine ⟨fun k hm => ⟨⟨?_, hm.2.1, fun ho => ?_⟩, rfl⟩, fun b => ZX.refl _ _⟩
  ·rcases hm.1 with m | m | m
   ·rcases m with m | ⟨r, _, d', e1, e2, e3⟩
    ·exact m.1
    ·rcases (hi.range r d' e1 e2 k e3).2 with q | q
     ·exact .inr (.inl q)
     ·exact .inr (.inr q)
   ·rcases (hSrange k m).2 with q | q
    ·exact .inr (.inl q)
    ·exact .inr (.inr q)
   ·exact .inr (.inr (Nat.le_trans hi.kept.1 m))
  ·obtain ⟨b, d, o1, o2, o3⟩ := ho
   exact g3.iz.sep b d o1 o2 k o3 hm
 refine ⟨rho3, ⟨fun b d hd => ?_, g3.iz.disj, g3.iz.nodup, hrange3, hi.kept.trans hk (fun k hks => (hSrange k hks).2), PA.ext (z := zOf g rho h w) hi.tab (((hext.trans e2).trans g3.ext).trans hto)⟩, ((hext.trans e2).trans g3.ext).trans hto, V.ext hto _ _ v3⟩;exact (g3.iz.sim b d hd).ext hto (fun _ _ _ => rfl)
theorem ZfI {P : Program} {f : FuncId} {args : Array Value} {w : World} (h : Pb P f) : (callFunc f args).run P w = .ok (.enter f args) w := by
 obtain ⟨fn, h1, h2, h3⟩ := h;show ((program >>= fun p => _) : Sem Next).run P w = _;rw [Sx.run_bind_ok (a := P) (w' := w) rfl, h1];have h2' : fn.body.isNone = false := by cases hb : fn.body <;> simp_all
 simp only [h3, h2', Bool.false_eq_true, if_false];rfl
theorem Zov {R : Type} {P : Program} {E : Env} (hE : HK P E) {o : Oper} {c : Call} {fv : Operand} {gt : Operand → SV} {h : List Blk} {f : FuncId} {cap : List SV} {K : SV → List Blk → Option R} {r : R} (ho : o.op = .call c) (hc : c.callee = .value fv)
  (hf : gt fv = .fn f cap) (he : FJ E f (c.args.toList.map gt ++ cap) h K = some r) : ∃ v h', Z2 P o gt h v h' ∧ K v h' = some r := by
 unfold FJ at he
 split at he
 ·cases he
 ·rename_i con hcon
  split at he
  ·cases he
  ·rename_i p hp
   cases hl : p.lent.all (fun b => WJ (nth p.heap b)) with
   | false => rw [hl] at he; cases he
   | true =>
    rw [hl] at he;simp only [cond_true] at he;cases hlf : p.boxes.all (VR E) with
    | false => rw [hlf] at he; cases he
    | true =>
    rw [hlf] at he;simp only [cond_true] at he;have hok := hE.tbl f con hcon;obtain ⟨sv, outs, hco, hfin⟩ := hok.ok _ _ _ _ he;unfold XX at hfin;cases hgd : (Zfi sv && outs.all AW && !(con.fresh && (hasRo sv || outs.any Xt))) with
    | false => rw [hgd] at hfin; cases hfin
    | true =>
    rw [hgd] at hfin;simp only [cond_true] at hfin
    split at hfin
    ·rename_i h' hr
     obtain ⟨h2, hh2, hfin⟩ : ∃ h2, h2 = (bif E.clo con.modes then O9 (Uj h' sv).2 else (Uj h' sv).2) ∧ K (Uj h' sv).1 h2 = some r := by
      cases hne : E.clo con.modes with
      | false => rw [hne] at hfin; exact ⟨_, rfl, hfin⟩
      | true => rw [hne] at hfin; exact ⟨_, rfl, Et hfin⟩
     subst hh2;refine ⟨_, _, ?_, hfin⟩;intro g a w rho hi hv next Q hn
     have hvf := hv fv (by rw [ho]; simp [Op.operands, Call.operands, hc]);rw [hf] at hvf;simp only [V] at hvf;obtain ⟨capc, h1, h2⟩ := hvf;have hva : VL (zOf g rho h w) (c.args.toList.map gt ++ cap) (c.args.toList.map a.eval ++ capc) :=
      (ZkO (l := c.args.toList) (fun x hx => hv x (by rw [ho]; simp [Op.operands, Call.operands, hc, Array.mem_toList_iff.1 hx]))).append h2
     obtain ⟨S, B, hpo⟩ := ZdU con.modes hi.iz _ _ p hva hp;have hrun : (execOp a.eval o).run P w = .ok (.enter f (c.args.toList.map a.eval ++ capc).toArray) w := by
      unfold execOp;rw [ho];dsimp only;unfold resolve;rw [hc];dsimp only;rw [h1];show ((invoke (.fn (.func f) capc.toArray) (#[] ++ c.args.map a.eval)) : Sem Next).run P w = _;show (callFunc f ((#[] ++ c.args.map a.eval) ++ capc.toArray)).run P w = _;rw [ZfI hok.call];congr 2;apply Array.toList_inj.1;simp
     unfold Oper.wp;rw [hrun, Oper.upon_enter];have hcall := hco (LI (zOf g rho h w) p.lent) w _ S B hpo.args hpo.nodup (fun k hks => by
      obtain ⟨b, d, k1, k2, k3, k4, k5⟩ := hpo.went k hks;refine ⟨?_, (hi.range b d k1 k2 k k5).1⟩
      rintro (m | ⟨b', hb', d', e1, e2, e3⟩)
      ·exact m.2.2 ⟨b, d, k1, k2, k5⟩
      ·have hbb : b = b' := by
        rcases Nat.decEq b b' with hne | e
        ·exact absurd e3 (hi.disj b b' d d' k1 e1 k2 e2 hne k k5)
        ·exact e
       subst hbb;have := List.all_eq_true.1 hl b hb';rcases k3 with k3 | k3 | ⟨v, t, n, k3⟩ <;> (rw [k3] at this; cases this)) (fun k hm => by
      rcases hm with m | ⟨b', hb', d', e1, e2, e3⟩
      ·exact m.2.1
      ·exact (hi.range b' d' e1 e2 k e3).1) (fun t ht => ⟨.inl (hi.tab t ht).1, (hi.tab t ht).2⟩)
     refine hcall.mono ?_
     rintro e w' ⟨cr, S1, S2, rfl, q1, q2, q3, q4, q5⟩
     obtain ⟨rho', i', e', v'⟩ := ZjE hi hpo (LO _ _ hp) hl q1 q2 q3 q4 q5 hr;cases hne : E.clo con.modes with
     | false =>
      rw [hne] at hn;exact hn cr w' rho' i' v' e'
     | true =>
      rw [hne] at hn;obtain ⟨r2, i2, e2⟩ := ZhH i';exact hn cr w' r2 i2 (V.ext e2 _ _ v') (e'.trans e2)
    ·cases hfin
end Go.Sx
namespace Go.Sx
open Go
def Bx (rho : Rho) (h : List Blk) (b blk : Nat) : Prop :=
 nth h b = some .gone ∨ (rho b = some (.v blk) ∧ ((∃ c, nth h b = some (.vars c)) ∨ nth h b = some .lent))
theorem Bx.le {rho rho' : Rho} {h h' : List Blk} {b blk : Nat} (x : Bx rho h b blk) (hl : ZX (rho b) (rho' b) (nth h b) (nth h' b)) : Bx rho' h' b blk := by
 rcases x with e | ⟨e, hx⟩
 ·exact .inl (hl.2.1 e)
 ·rcases hl.2.2.2 (hx.elim (fun q => .inr q) .inl) with f | ⟨f1, f2⟩
  ·exact .inl f
  ·exact .inr ⟨f1.trans e, f2.elim .inr .inl⟩
def Ax (rho : Rho) (h : List Blk) (b : Nat) (c : Value) (t : Ty) : Prop :=
 nth h b = some .gone ∨ ((nth h b).isSome = true ∧ ∃ v t' n, Kb (nth h b) = some (v, t', n) ∧ (v = 0 → t' = t ∧ ∃ A cap S, rho b = some (.s A cap S) ∧ c = .slice A n cap))
theorem Ax.le {rho rho' : Rho} {h h' : List Blk} {b : Nat} {c : Value} {t : Ty} (x : Ax rho h b c t) (hl : ZX (rho b) (rho' b) (nth h b) (nth h' b)) : Ax rho' h' b c t := by
 rcases x with e | ⟨hs, v, t', n, hi, hv⟩
 ·exact .inl (hl.2.1 e)
 ·rcases hl.2.2.1 v t' n hi with e | ⟨v2, t2, n2, e, hh⟩
  ·exact .inl e
  ·refine .inr ⟨hl.1 hs, v2, t2, n2, e, fun h0 => ?_⟩
   rcases hh with hh | ⟨rfl, rfl, rfl, k⟩
   ·omega
   ·obtain ⟨h1, A, cap, S, h2, h3⟩ := hv h0
    obtain ⟨S', h4⟩ := k A cap S h2;exact ⟨h1, A, cap, S', h4, h3⟩
structure Sim (g : G) (rho : Rho) (s : St) (a : Act) (w : World) : Prop where
 inv : Inv g rho s.heap w
 slots : VL (zOf g rho s.heap w) s.slots a.tmps.toList
 defers : a.defers = []
 bx : ∀ q ∈ g.bx, Bx rho s.heap q.1 q.2
 ax : ∀ q ∈ g.ax, Ax rho s.heap q.1 q.2.1 q.2.2
theorem ZnL {z : Z} (v : Value) : V z (Zpv v) v := by
 unfold Zpv
 split
 ·exact KV _ _
 ·exact Uk _
 ·exact ZkK _
 ·simp only [V]
 ·simp only [V]
theorem ZkY {z : Z} : ∀ l : List Value, VL z (l.map Zpv) l
 | [] => by simp [VL]
 | v :: l => by simp only [List.map_cons, VL]; exact ⟨v, l, rfl, ZnL v, ZkY l⟩
theorem Zra {z : Z} (v : Value) : V z (ofC v) v := by
 unfold ofC
 split
 ·rename_i cs
  simp only [V];exact ⟨cs.toList, by simp, ZkY _⟩
 ·exact ZnL v
theorem ZfJ {g : G} {rho : Rho} {s : St} {a : Act} {w : World} (hs : Sim g rho s a w) (x : Operand) : V (zOf g rho s.heap w) (s.get x) (a.eval x) := by
 cases x with
 | tmp t =>
  simp only [St.get, Act.eval];cases hn : nth s.slots t with
  | none => simp only [Option.getD_none, V]
  | some v =>
   obtain ⟨u, h1, h2⟩ := VL.get hs.slots hn;simp only [Option.getD_some];have : a.tmps.getD t undef = u := by
    have h1' : a.tmps[t]? = some u := by simpa using h1
    simp [h1']
   rw [this]; exact h2
 | const v => exact Zra v
 | func f => simp only [St.get, Act.eval, V]; exact ⟨[], rfl, by simp [VL]⟩
 | «global» g => simp only [St.get, V]
theorem VL.upd {z : Z} {v : SV} {c : Value} (hv : V z v c) : ∀ {l : List SV} {cs : List Value} (n : Nat), VL z l cs → VL z (Sx.upd l n v) (cs.set n c)
 | [], cs, n, h => by simp only [VL] at h; subst h; simp [Sx.upd, VL]
 | x :: l, cs, n, h => by
  simp only [VL] at h;obtain ⟨c0, r, rfl, h2, h3⟩ := h;cases n with
  | zero => simp only [Sx.upd, List.set_cons_zero, VL]; exact ⟨c, r, rfl, hv, h3⟩
  | succ n => simp only [Sx.upd, List.set_cons_succ, VL]; exact ⟨c0, _, rfl, h2, VL.upd hv n h3⟩
theorem ZnM {z : Z} {slots : List SV} {h : List Blk} {a : Act} {dst : Option Tmp} {v : SV} {c : Value} (hs : VL z slots a.tmps.toList) (hv : V z v c) : VL z (St.put ⟨slots, h⟩ dst v).slots (a.put dst c).tmps.toList := by
 cases dst with
 | none => exact hs
 | some d =>
  simp only [St.put, Act.put, Array.toList_setIfInBounds];exact VL.upd hv d hs
theorem Kj {s : St} {dst : Option Tmp} {v : SV} : (St.put s dst v).heap = s.heap := by cases dst <;> rfl
theorem LP {a : Act} {dst : Option Tmp} {c : Value} : (a.put dst c).defers = a.defers := by cases dst <;> rfl
theorem Sim.put {g : G} {rho : Rho} {s : St} {a : Act} {w : World} (hs : Sim g rho s a w) {dst : Option Tmp} {v : SV} {c : Value} (hv : V (zOf g rho s.heap w) v c) : Sim g rho (s.put dst v) (a.put dst c) w := by
 refine ⟨?_, ?_, ?_, ?_, ?_⟩
 ·rw [Kj]; exact hs.inv
 ·rw [Kj]; exact ZnM (h := s.heap) hs.slots hv
 ·rw [LP]; exact hs.defers
 ·rw [Kj]; exact hs.bx
 ·rw [Kj]; exact hs.ax
theorem Sim.step {g : G} {rho rho' : Rho} {s : St} {a : Act} {w w' : World} (hs : Sim g rho s a w) {dst : Option Tmp} {v : SV} {c : Value} {h' : List Blk} (hi : Inv g rho' h' w') (hv : V (zOf g rho' h' w') v c)
  (he : Ext (zOf g rho s.heap w) (zOf g rho' h' w')) : Sim g rho' (St.put ⟨s.slots, h'⟩ dst v) (a.put dst c) w' := by
 refine ⟨?_, ?_, ?_, ?_, ?_⟩
 ·rw [Kj]; exact hi
 ·rw [Kj]; exact ZnM (h := h') (VL.ext he _ _ hs.slots) hv
 ·rw [LP]; exact hs.defers
 ·rw [Kj]; exact fun q hq => (hs.bx q hq).le (he.le q.1)
 ·rw [Kj]; exact fun q hq => (hs.ax q hq).le (he.le q.1)
section
variable {R : Type} {P : Program} {E : Env} {s : St} {o : Oper} {r : R}
theorem ZhI {a : Operand} {v : SV} {x : Option R} (he : (bif OC E a v then x else none) = some r) : x = some r := by
 cases h : OC E a v with
 | true => rw [h] at he; exact he
 | false => rw [h] at he; cases he
theorem ZiE (hE : HK P E) {gt : Operand → SV} {h : List Blk} {K : SV → List Blk → Option R} (he : ZY E o gt h K = some r) : LJ P o gt h K r := by
 have h0 := hE.toEnvOk0;have one : (∃ v, Z2 P o gt h v h ∧ K v h = some r) → LJ P o gt h K r := fun ⟨v, h1, h2⟩ => h1.toR h2;have two : (∃ v h', Z2 P o gt h v h' ∧ K v h' = some r) → LJ P o gt h K r := fun ⟨v, h', h1, h2⟩ => h1.toR h2;unfold ZY at he;dsimp only at he
 split at he
 ·rename_i x ho; exact one ⟨_, ZkL (.inl ho), he⟩
 ·rename_i x ho; exact one ⟨_, ZkL (.inr ho), he⟩
 ·rename_i c a b ho
  split at he
  ·rename_i t ht
   refine one ⟨_, Zon ho ht, ?_⟩;cases t <;> exact he
  ·cases he
 ·rename_i t ho
  split at he
  ·rename_i ty ht; exact (ZmN h0 ho ht).toR he
  ·cases he
 ·rename_i t x ho
  split at he
  ·rename_i ty c ht hf
   cases hl : Nat.beq c.length ty.size with
   | false => rw [hl] at he; cases he
   | true => rw [hl] at he; exact (ZpF ho hf).toR he
  ·cases he
 ·rename_i t ps ho; exact one (ZmQ h0 ho he)
 ·rename_i t n ps ho
  cases hne : E.nest with
  | false => rw [hne] at he; exact two (HJ h0 ho he)
  | true => rw [hne] at he; exact two (ZaJ h0 ho he)
 ·rename_i t x ho
  split at he
  ·rename_i ty ht
   have he := ZhI he;cases hne : E.opens with
   | false => rw [hne] at he; exact one (Zhy h0 ho ht he)
   | true => rw [hne] at he; exact two (ZmX h0 ho ht he)
  ·cases he
 ·rename_i t p x ho
  split at he
  ·rename_i ty ht
   cases hne : E.nest with
   | false =>
    rw [hne] at he;obtain ⟨h', h1, h2⟩ := ZdP h0 ho ht he;exact h1.toR h2
   | true =>
    rw [hne] at he;obtain ⟨h', h1, h2⟩ := ZkW h0 ho ht he;exact h1.toR h2
  ·cases he
 ·rename_i op t x y t' ho
  unfold Zcl at he;cases hc : (Pq (gt y) && Vk E t) with
  | true =>
   rw [hc] at he;simp only [Bool.and_eq_true] at hc;exact ZmK h0 ho hc.1 hc.2 he
  | false =>
   rw [hc] at he;exact one (ZmJ h0 ho he)
 ·rename_i op t x ho; exact one (Zoo ho he)
 ·rename_i x ho; exact one (Zhz ho (ZhI he))
 ·rename_i src dst x ho; exact one (Zoq h0 ho he)
 ·rename_i f fs cs ho
  cases hf : fs.toList.isEmpty with
  | false => rw [hf] at he; cases he
  | true => rw [hf] at he; exact one ⟨_, ZhA ho hf, he⟩
 ·rename_i t n c ho; exact two (Zfv h0 ho he)
 ·rename_i t x lo hi ho
  cases hfar : E.far with
  | false => rw [hfar] at he; exact one (Ziw h0 ho he)
  | true => rw [hfar] at he; exact one (ZkS h0 ho he)
 ·rename_i t x lo hi mx ho
  cases hfar : E.far with
  | false => rw [hfar] at he; cases he
  | true => rw [hfar] at he; exact one (ZkR h0 ho he)
 ·rename_i t x f ho; exact one (Zfq h0 ho (ZhI he))
 ·rename_i t x f ho; exact one (ZmP h0 ho he)
 ·rename_i t x i ho; exact one (Zfp h0 ho he)
 ·rename_i t x i ho; exact one (ZmL h0 ho he)
 ·rename_i x i ho
  split at he
  ·rename_i l hx
   split at he
   ·rename_i v hn; exact one ⟨v, Zjs ho hx hn, he⟩
   ·cases he
  ·cases he
 ·rename_i c ho
  split at he
  ·rename_i f hc
   split at he
   ·rename_i g cap hg; exact two (Zov hE ho hc hg he)
   ·cases he
  ·rename_i hc
   split at he
   ·rename_i x t ha hat; exact one (ZpC h0 ho hc ha hat he)
   ·cases he
  ·rename_i hc
   split at he
   ·rename_i x y t t' ha hat
    have plain : (bif E.nest then KU E h t t' (gt x) (gt y) K else QB E h t t' (gt x) (gt y) K) = some r → LJ P o gt h K r := by
     intro he;cases hne : E.nest with
     | false => rw [hne] at he; exact two (Zfw h0 ho hc ha hat he)
     | true => rw [hne] at he; exact two (ZjC h0 ho hc ha hat he)
    cases hfar : E.far with
    | false =>
     rw [hfar] at he;cases hw : E.wide with
     | false => rw [hw] at he; exact plain he
     | true =>
      rw [hw] at he;simp only [cond_true, cond_false] at he;cases hs : Pv E t with
      | false => rw [hs] at he; cases he
      | true => rw [hs] at he; exact two (Zjv h0 ho hc ha hat hs he)
    | true =>
     rw [hfar] at he
     by_cases hx : ∃ b v n, gt x = .sub b v 0 n
     ·obtain ⟨b, v, n, hx⟩ := hx
      exact two (Zjx h0 ho hc ha hat hx he)
     ·refine plain ?_
      simp only [cond_true] at he;unfold FK at he
      split at he
      ·rename_i b v n hq; exact absurd ⟨b, v, n, hq⟩ hx
      ·exact he
   ·cases he
  ·rename_i hc
   split at he
   ·rename_i x t ha hat
    cases hfar : E.far with
    | false => rw [hfar] at he; cases he
    | true => rw [hfar] at he; exact two (ZmR h0 ho hc ha hat he)
   ·cases he
  ·rename_i hc
   split at he
   ·rename_i x y ha
    split at he
    ·rename_i k a k' b hx hy; exact one ⟨_, (ZpG ho ha hx hy).1 hc, he⟩
    ·cases he
   ·cases he
  ·rename_i hc
   split at he
   ·rename_i x y ha
    split at he
    ·rename_i k a k' b hx hy; exact one ⟨_, (ZpG ho ha hx hy).2 hc, he⟩
    ·cases he
   ·cases he
  ·cases he
 ·cases he
theorem HP {α : Type} : ∀ {l : List α} {n : Nat} {x : α}, nth l n = some x → upd l n x = l
 | [], _, _, h => by simp [nth] at h
 | _ :: _, 0, _, h => by simp only [nth, Option.some.injEq] at h; subst h; rfl
 | x :: l, n + 1, y, h => by simp only [upd]; rw [HP (l := l) (n := n) h]
inductive At (ops : Array Oper) : List Nat → List Oper → Prop
 | nil : At ops [] []
 | cons {i : Nat} {o : Oper} {is : List Nat} {os : List Oper} : ops[i]? = some o → At ops is os → At ops (i :: is) (o :: os)
theorem At.range (ops : Array Oper) : At ops (List.range ops.size) ops.toList := by
 have : ∀ (pre l : List Oper), ops.toList = pre ++ l → At ops ((List.range l.length).map (pre.length + ·)) l := by
  intro pre l
  induction l generalizing pre with
  | nil => intro _; exact .nil
  | cons o l ih =>
   intro h;rw [List.length_cons, List.range_succ_eq_map, List.map_cons, List.map_map];refine .cons ?_ ?_
   ·rw [← Array.getElem?_toList, h]; simp
   ·have := ih (pre ++ [o]) (by rw [h]; simp)
    rw [show ((pre.length + ·) ∘ Nat.succ) = ((pre ++ [o]).length + ·) by funext n; simp; omega];exact this
 have := this [] ops.toList rfl;simpa using this
theorem ZiF {ops : Array Oper} {j : Nat} {d : Tmp} (h : WG ops.toList j = some d) : (ops[j]?).bind (·.dst) = some d := by
 unfold WG at h;rw [Eu] at h;simpa using h
theorem ZmZ (hE : HK P E) {ops : Array Oper} {i : Nat} (ho : ops[i]? = some o) {s : St} {K : St → Option R} (he : LF E ops.toList o s K = some r)
  {g : G} {rho : Rho} {a : Act} {w : World} {Q : Exit → Act → World → Prop} {next : Act → World → Prop} (hs : Sim g rho s a w) (hn : ∀ s' rho' a' w', K s' = some r → Sim g rho' s' a' w' → next a' w') : wpOp P ops Q i next a w := by
 have take : ∀ (s1 : St), Sim g rho s1 a w → Zkx E o s1 K = some r → Region.wanted o (yielded ops a.tmps) = true → wpOp P ops Q i next a w := by
  intro s1 hs1 h1 hw;simp only [wpOp, ho, hw, if_true];left;exact ZiE hE h1 g a w rho hs1.inv (fun x _ => ZfJ hs1 x) _ Q (fun v h' cv w' rho' hk hi hv hx => hn _ rho' _ w' hk (hs1.step hi hv hx))
 have skip : ∀ (s1 : St), Sim g rho s1 a w → K (s1.put o.dst (.tup [])) = some r → Region.wanted o (yielded ops a.tmps) = false → wpOp P ops Q i next a w := by
  intro s1 hs1 h1 hw;simp only [wpOp, ho, hw, Bool.false_eq_true, if_false];exact hn _ rho _ w h1 (hs1.put FO)
 unfold LF at he
 split at he
 ·rename_i hg
  exact take s hs he (by simp [Region.wanted, hg])
 ·rename_i j want hg
  split at he
  ·cases he
  ·rename_i d hd
   have hd' := ZiF hd
   split at he
   ·rename_i b hb
    obtain ⟨u, h1, h2⟩ := VL.get hs.slots hb;have h1' : a.tmps[d]? = some u := by simpa using h1
    have hu := Zhu h2 (b := b) rfl;subst hu;have hy : yielded ops a.tmps j = some b := by simp only [yielded, hd', Option.bind_some, h1']
    have hwd : Region.wanted o (yielded ops a.tmps) = (some b == some want) := by simp [Region.wanted, hg, hy]
    have hput : s.put (some d) (.val .bool b) = s := by
     simp only [St.put]; rw [HP hb]
    have hb2 : b = true ∨ b = false := by cases b <;> simp
    rcases hb2 with e | e
    ·subst e
     dsimp only [cond_true] at he;rw [hput] at he;cases want with
     | true => exact take s hs he (by rw [hwd]; rfl)
     | false => exact skip s hs he (by rw [hwd]; rfl)
    ·subst e
     dsimp only [cond_false] at he;rw [hput] at he;cases want with
     | true => exact skip s hs he (by rw [hwd]; rfl)
     | false => exact take s hs he (by rw [hwd]; rfl)
   ·rename_i hb
    obtain ⟨u, h1, h2⟩ := VL.get hs.slots hb;have h1' : a.tmps[d]? = some u := by simpa using h1
    simp only [V] at h2;obtain ⟨cs, h3, h4⟩ := h2;have hy : yielded ops a.tmps j = none := by simp only [yielded, hd', Option.bind_some, h1', h3]
    exact skip s hs he (by simp [Region.wanted, hg, hy])
   ·cases he
theorem PM (hE : HK P E) {ops : Array Oper} : ∀ (os : List Oper) (is : List Nat) (s : St) {K : St → Option R}, At ops is os → Pz E ops.toList os s K = some r →
  ∀ (g : G) (rho : Rho) (a : Act) (w : World) (Q : Exit → Act → World → Prop), Sim g rho s a w → (∀ s' rho' a' w', K s' = some r → Sim g rho' s' a' w' → Q .normal a' w') → wpOps P ops Q is a w
 | [], _, s, K, .nil, he, g, rho, a, w, Q, hs, hq => by
  simp only [Pz] at he;exact hq s rho a w he hs
 | o :: os, _, s, K, .cons (i := i) (is := is) ho hat, he, g, rho, a, w, Q, hs, hq => by
  rw [wpOps_cons];simp only [Pz] at he;exact ZmZ hE ho he hs (fun s' rho' a' w' hk hs' => PM hE os is s' hat hk g rho' a' w' Q hs' hq)
end
end Go.Sx
