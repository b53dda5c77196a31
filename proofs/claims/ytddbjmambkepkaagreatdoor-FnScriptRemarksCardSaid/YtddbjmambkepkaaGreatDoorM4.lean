/- Calls are sound. -/
import Derived.Test.YtddbjmambkepkaaGreatDoorM3
set_option linter.unusedVariables false
set_option linter.unusedSimpArgs false
namespace Go.Sx
open Go
def Z.mk2 (z : Z) (rho : Rho) (h : List Blk) : Z := ⟨z.im, z.w, rho, h⟩
def DZ (z : Z) (S : List Nat) : Prop := ∀ k ∈ S, ¬ z.im k ∧ ∀ b d, z.rho b = some d → live (nth z.h b) → k ∉ d.blks
structure AX (z : Z) (rho' : Rho) (h' : List Blk) (S : List Nat) : Prop where
 iz : IZ (z.mk2 rho' h')
 ext : Ext z (z.mk2 rho' h')
 len : z.h.length ≤ h'.length
 old : ∀ b, b < z.h.length → nth h' b = nth z.h b ∧ rho' b = z.rho b
 new : ∀ b d, z.h.length ≤ b → rho' b = some d → live (nth h' b) → ∀ k ∈ d.blks, k ∈ S
theorem AX.refl {z : Z} (hi : IZ z) : AX z z.rho z.h [] :=
 ⟨hi, Ext.refl _, Nat.le_refl _, fun _ _ => ⟨rfl, rfl⟩, fun b d hb hr hl => by rw [Y6.2 hb] at hl; exact hl.elim⟩
theorem AX.trans {z : Z} {r1 r2 : Rho} {h1 h2 : List Blk} {S S' : List Nat} (a : AX z r1 h1 S) (b : AX (z.mk2 r1 h1) r2 h2 S') : AX z r2 h2 (S ++ S') where
 iz := b.iz
 ext := a.ext.trans b.ext
 len := Nat.le_trans a.len b.len
 old := fun k hk => by
  have h1' := a.old k hk;have h2' := b.old k (Nat.lt_of_lt_of_le hk a.len);exact ⟨h2'.1.trans h1'.1, h2'.2.trans h1'.2⟩
 new := fun k d hk hr hl q hq => by
  rcases Nat.lt_or_ge k h1.length with hlt | hge
  ·have h2' := b.old k hlt
   rw [h2'.1] at hl;rw [h2'.2] at hr;exact List.mem_append.2 (.inl (a.new k d hk hr hl q hq))
  ·exact List.mem_append.2 (.inr (b.new k d hge hr hl q hq))
theorem DZ.step {z : Z} {r1 : Rho} {h1 : List Blk} {S S' : List Nat} (a : AX z r1 h1 S) (hf : DZ z S') (hd : ∀ k ∈ S, k ∉ S') : DZ (z.mk2 r1 h1) S' := by
 intro k hk;refine ⟨(hf k hk).1, fun b d hr hl hm => ?_⟩;rcases Nat.lt_or_ge b z.h.length with hlt | hge
 ·have h := a.old b hlt
  have hl' : live (nth h1 b) := hl;rw [h.1] at hl';have hr' : r1 b = some d := hr;rw [h.2] at hr';exact (hf k hk).2 b d hr' hl' hm
 ·exact hd k (a.new b d hge hr hl k hm) hk
theorem ZdX {z : Z} (hi : IZ z) {t : Ty} {x : List t.den} {c : Value} {S : List Nat} (ht : TR z.im z.w true (.sl true t) x [c] S) (hp : 0 < t.size) (hn : S.Nodup) (hf : DZ z S) :
  ∃ rho', AX z rho' (z.h ++ [.arr 0 t x]) S ∧ V (z.mk2 rho' (z.h ++ [.arr 0 t x])) (.own z.h.length 0) c := by
 obtain ⟨A, cap, h1, h2, h3⟩ := ht;simp only [List.cons.injEq, and_true] at h1;subst h1;refine ⟨Yk z.rho z.h.length (.s A cap S), ?_, ?_⟩
 ·have old : ∀ b d', Yk z.rho z.h.length (.s A cap S) b = some d' → live (nth (z.h ++ [Blk.arr 0 t x]) b) → (b = z.h.length ∧ d' = .s A cap S) ∨ (b < z.h.length ∧ z.rho b = some d' ∧ live (nth z.h b)) := by
   intro b d' h1 h2;rcases ZK z.h (Blk.arr 0 t x) b with ⟨e, _⟩ | ⟨e, h4⟩ | ⟨_, h4, _⟩
   ·subst e; simp only [Yk, if_pos] at h1; cases h1; exact .inl ⟨rfl, rfl⟩
   ·have : b ≠ z.h.length := by omega
    simp only [Yk, if_neg this] at h1;rw [h4] at h2;exact .inr ⟨e, h1, h2⟩
   ·rw [h4] at h2; exact h2.elim
  have hext : Ext z (z.mk2 (Yk z.rho z.h.length (.s A cap S)) (z.h ++ [.arr 0 t x])) := {
   im := fun k hk => ⟨hk, rfl⟩
   le := fun b => by
    show ZX (z.rho b) (Yk z.rho z.h.length (.s A cap S) b) (nth z.h b) (nth (z.h ++ [Blk.arr 0 t x]) b);rcases ZK z.h (Blk.arr 0 t x) b with ⟨e, h4⟩ | ⟨e, h4⟩ | ⟨_, h4, h5⟩
    ·subst e; rw [Y6.2 (Nat.le_refl _)]; exact ZX.none
    ·have : b ≠ z.h.length := by omega
     rw [h4]; simp only [Yk, if_neg this]; exact ZX.refl _ _
    ·rw [h5]; exact ZX.none }
  refine ⟨⟨?_, ?_, ?_, ?_⟩, hext, by simp, ?_, ?_⟩
  ·intro b d' h1
   show Ev _ d' (nth (z.h ++ [Blk.arr 0 t x]) b);have h1 : Yk z.rho z.h.length (.s A cap S) b = some d' := h1;rcases ZK z.h (Blk.arr 0 t x) b with ⟨e, h4⟩ | ⟨e, h4⟩ | ⟨_, h4, _⟩
   ·subst e; simp only [Yk, if_pos] at h1; cases h1; rw [h4]
    exact ⟨A, cap, S, rfl, ⟨A, cap, rfl, h2, h3⟩, hp⟩
   ·have hne : b ≠ z.h.length := by omega
    simp only [Yk, if_neg hne] at h1;rw [h4];exact (hi.sim b d' h1).ext hext (fun _ _ _ => rfl)
   ·rw [h4]; trivial
  ·intro b1 b2 d1 d2 h1 h2 l1 l2 hne k hk hk2
   rcases old b1 d1 h1 l1 with ⟨e0, e⟩ | ⟨_, e1, e2⟩
   ·subst e
    rcases old b2 d2 h2 l2 with ⟨f0, _⟩ | ⟨_, f1, f2⟩
    ·exact hne (e0.trans f0.symm)
    ·exact (hf k hk).2 b2 d2 f1 f2 hk2
   ·rcases old b2 d2 h2 l2 with ⟨_, f⟩ | ⟨_, f1, f2⟩
    ·subst f; exact (hf k hk2).2 b1 d1 e1 e2 hk
    ·exact hi.disj b1 b2 d1 d2 e1 f1 e2 f2 hne k hk hk2
  ·intro b1 d1 h1 l1
   rcases old b1 d1 h1 l1 with ⟨_, e⟩ | ⟨_, e1, e2⟩
   ·subst e; exact hn
   ·exact hi.nodup b1 d1 e1 e2
  ·intro b1 d1 h1 l1 k hk
   rcases old b1 d1 h1 l1 with ⟨_, e⟩ | ⟨_, e1, e2⟩
   ·subst e; exact (hf k hk).1
   ·exact hi.sep b1 d1 e1 e2 k hk
  ·intro b hb
   exact ⟨Wv hb, by simp only [Yk]; rw [if_neg (by omega)]⟩
  ·intro b d hb hr hl k hk
   rcases old b d hr hl with ⟨_, e⟩ | ⟨e, _⟩
   ·subst e; exact hk
   ·omega
 ·exact Ki (z := z.mk2 (Yk z.rho z.h.length (.s A cap S)) (z.h ++ [Blk.arr 0 t x])) (b := z.h.length) (v := 0) (a := t) (x := x) (show nth (z.h ++ [Blk.arr 0 t x]) z.h.length = _ from XJ _ _) Z7 rfl
theorem WZ {S1 S2 : List Nat} (h : (S1 ++ S2).Nodup) : S1.Nodup ∧ S2.Nodup ∧ ∀ k ∈ S1, k ∉ S2 := by
 obtain ⟨h1, h2, h3⟩ := List.nodup_append.1 h;exact ⟨h1, h2, fun k hk hk2 => h3 k hk k hk2 rfl⟩
theorem ZiB : ∀ (t : Ty) {z : Z} (_ : IZ z) (x : t.den) (cs : List Value) (S : List Nat), t.okU = true → TR z.im z.w true t x cs S → S.Nodup → DZ z S →
  ∃ rho', AX z rho' (Vj t x z.h).2 S ∧ VL (z.mk2 rho' (Vj t x z.h).2) (Vj t x z.h).1 cs := by
 intro t;have XE : ∀ {t : Ty} {z : Z} (_ : IZ z) {x : t.den} {cs : List Value} {S : List Nat}, t.isAgg = false → S = [] → TR z.im z.w false t x cs [] →
   ∃ rho', AX z rho' z.h S ∧ VL (z.mk2 rho' z.h) [.val t x] cs := by
  intro t z hi x cs S ha hS ht;subst hS;refine ⟨z.rho, AX.refl hi, ?_⟩;obtain ⟨c, rfl, _⟩ := ht.scalar ha;simp only [VL, V];exact ⟨c, [], rfl, ⟨[c], ht, by simp [mkV, ha]⟩, rfl⟩
 induction t with
 | int k => intro z hi x cs S _ ht _ _; exact XE hi rfl ht.2 ⟨ht.1, rfl⟩
 | bool => intro z hi x cs S _ ht _ _; exact XE hi rfl ht.2 ⟨ht.1, rfl⟩
 | str => intro z hi x cs S _ ht _ _; exact XE hi rfl ht.2 ⟨ht.1, rfl⟩
 | unit =>
  intro z hi x cs S _ ht _ _;obtain ⟨rfl, rfl⟩ := ht;exact ⟨z.rho, AX.refl hi, by simp only [Vj, VL]⟩
 | pair a b iha ihb =>
  intro z hi x cs S hu ht hn hf;simp only [Ty.okU, Bool.and_eq_true] at hu;obtain ⟨c1, c2, S1, S2, rfl, rfl, h3, h4⟩ := ht;obtain ⟨n1, n2, n3⟩ := WZ hn;obtain ⟨r1, g1, v1⟩ := iha hi x.1 c1 S1 hu.1 h3 n1 (fun k hk => hf k (by simp [hk]));have h4' : TR (z.mk2 r1 (Vj a x.1 z.h).2).im (z.mk2 r1 (Vj a x.1 z.h).2).w true b x.2 c2 S2 := h4;obtain ⟨r2, g2, v2⟩ := ihb (z := z.mk2 r1 (Vj a x.1 z.h).2) g1.iz x.2 c2 S2 hu.2 h4' n2 (DZ.step g1 (fun k hk => hf k (by simp [hk])) n3);simp only [Vj];refine ⟨r2, g1.trans g2, ?_⟩;exact (VL.ext g2.ext _ _ v1).append v2
 | sl u a _ =>
  intro z hi x cs S hu ht hn hf;cases u with
  | false =>
   obtain ⟨A, cap, h1, h2, h3⟩ := ht;simp only [Bool.and_false, Bool.false_eq_true, if_false] at h3;exact XE hi rfl h3.1 ⟨A, cap, h1, h2, by simp only [Bool.and_false, Bool.false_eq_true, if_false]; exact ⟨trivial, h3.2⟩⟩
  | true =>
   simp only [Ty.okU, Bool.and_eq_true] at hu;obtain ⟨c, rfl, _⟩ := ht.scalar rfl;obtain ⟨rho', g, v⟩ := ZdX hi ht (by have := hu.1; rwa [Nat.blt_eq] at this) hn hf;simp only [Vj, cond_true];refine ⟨rho', g, ?_⟩;simp only [VL];exact ⟨c, [], rfl, v, rfl⟩
theorem Zot {z : Z} {t : Ty} {l : List SV} {cs : List Value} (hv : VL z l cs) (hl : cs.length = t.size) : V z (Zoc t l) (mkV t cs) := by
 unfold Zoc mkV;cases ha : t.isAgg with
 | true => simp only [cond_true, if_true, V]; exact ⟨cs, rfl, hv⟩
 | false =>
  have hl : cs.length = 1 := hl.trans (VT ha);have h2 := hv.length;rw [hl] at h2
  match l, h2 with
  | [v], _ =>
   simp only [VL] at hv;obtain ⟨c', r, rfl, h2, rfl⟩ := hv;simpa using h2
theorem ZdY {z : Z} (hi : IZ z) {l : List SV} {cs : List Value} {e : TypeId} {blk : Nat} (hh : z.w.heap[blk]? = some (.cells cs.toArray e (0, 0))) (hv : VL z l cs) (hf : DZ z [blk]) :
  ∃ rho', AX z rho' (z.h ++ [.vars l]) [blk] ∧ rho' z.h.length = some (.v blk) := by
 refine ⟨Yk z.rho z.h.length (.v blk), ?_, Z7⟩;have old : ∀ b d', Yk z.rho z.h.length (.v blk) b = some d' → live (nth (z.h ++ [Blk.vars l]) b) → (b = z.h.length ∧ d' = .v blk) ∨ (b < z.h.length ∧ z.rho b = some d' ∧ live (nth z.h b)) := by
  intro b d' h1 h2;rcases ZK z.h (Blk.vars l) b with ⟨e, _⟩ | ⟨e, h4⟩ | ⟨_, h4, _⟩
  ·subst e; simp only [Yk, if_pos] at h1; cases h1; exact .inl ⟨rfl, rfl⟩
  ·have : b ≠ z.h.length := by omega
   simp only [Yk, if_neg this] at h1;rw [h4] at h2;exact .inr ⟨e, h1, h2⟩
  ·rw [h4] at h2; exact h2.elim
 have hext : Ext z (z.mk2 (Yk z.rho z.h.length (.v blk)) (z.h ++ [.vars l])) := {
  im := fun k hk => ⟨hk, rfl⟩
  le := fun b => by
   show ZX (z.rho b) (Yk z.rho z.h.length (.v blk) b) (nth z.h b) (nth (z.h ++ [Blk.vars l]) b);rcases ZK z.h (Blk.vars l) b with ⟨e, h4⟩ | ⟨e, h4⟩ | ⟨_, h4, h5⟩
   ·subst e; rw [Y6.2 (Nat.le_refl _)]; exact ZX.none
   ·have : b ≠ z.h.length := by omega
    rw [h4]; simp only [Yk, if_neg this]; exact ZX.refl _ _
   ·rw [h5]; exact ZX.none }
 refine ⟨⟨?_, ?_, ?_, ?_⟩, hext, by simp, ?_, ?_⟩
 ·intro b d' h1
  show Ev _ d' (nth (z.h ++ [Blk.vars l]) b);have h1 : Yk z.rho z.h.length (.v blk) b = some d' := h1;rcases ZK z.h (Blk.vars l) b with ⟨e', h4⟩ | ⟨e', h4⟩ | ⟨_, h4, _⟩
  ·subst e'; simp only [Yk, if_pos] at h1; cases h1; rw [h4]
   exact ⟨blk, cs, e, rfl, hh, VL.ext hext _ _ hv⟩
  ·have hne : b ≠ z.h.length := by omega
   simp only [Yk, if_neg hne] at h1;rw [h4];exact (hi.sim b d' h1).ext hext (fun _ _ _ => rfl)
  ·rw [h4]; trivial
 ·intro b1 b2 d1 d2 h1 h2 l1 l2 hne k hk hk2
  rcases old b1 d1 h1 l1 with ⟨e0, e⟩ | ⟨_, e1, e2⟩
  ·subst e
   rcases old b2 d2 h2 l2 with ⟨f0, _⟩ | ⟨_, f1, f2⟩
   ·exact hne (e0.trans f0.symm)
   ·exact (hf k hk).2 b2 d2 f1 f2 hk2
  ·rcases old b2 d2 h2 l2 with ⟨_, f⟩ | ⟨_, f1, f2⟩
   ·subst f; exact (hf k hk2).2 b1 d1 e1 e2 hk
   ·exact hi.disj b1 b2 d1 d2 e1 f1 e2 f2 hne k hk hk2
 ·intro b1 d1 h1 l1
  rcases old b1 d1 h1 l1 with ⟨_, e⟩ | ⟨_, e1, e2⟩
  ·subst e; simp [D.blks]
  ·exact hi.nodup b1 d1 e1 e2
 ·intro b1 d1 h1 l1 k hk
  rcases old b1 d1 h1 l1 with ⟨_, e⟩ | ⟨_, e1, e2⟩
  ·subst e; exact (hf k hk).1
  ·exact hi.sep b1 d1 e1 e2 k hk
 ·intro b hb
  exact ⟨Wv hb, by simp only [Yk]; rw [if_neg (by omega)]⟩
 ·intro b d hb hr hl k hk
  rcases old b d hr hl with ⟨_, e⟩ | ⟨e, _⟩
  ·subst e; exact hk
  ·omega
theorem AX.more {z : Z} {r : Rho} {h : List Blk} {S S' : List Nat} (a : AX z r h S) (hs : ∀ k ∈ S, k ∈ S') : AX z r h S' :=
 ⟨a.iz, a.ext, a.len, a.old, fun b d h1 h2 h3 k hk => hs k (a.new b d h1 h2 h3 k hk)⟩
mutual
theorem ZdZ : ∀ (v : SV) {z : Z} (_ : IZ z) (c : Value) (S : List Nat), CV z.im z.w v c S [] → S.Nodup → DZ z S →
  ∃ rho', AX z rho' (Uj z.h v).2 S ∧ V (z.mk2 rho' (Uj z.h v).2) (Uj z.h v).1 c
 | .val t x, z, hi, c, S, hv, _, _ => by
  simp only [CV] at hv;obtain ⟨rfl, _, cs, h1, h2⟩ := hv;refine ⟨z.rho, AX.refl hi, ?_⟩;simp only [Uj, V];exact ⟨cs, h1, h2⟩
 | .vl c0 t x, z, hi, c, S, hv, _, _ => by
  simp only [CV] at hv;obtain ⟨rfl, _, h0, cs, h1, h2⟩ := hv;refine ⟨z.rho, AX.refl hi, ?_⟩;simp only [Uj, V];exact ⟨h0, cs, h1, h2⟩
 | .nil, z, hi, c, S, hv, _, _ => by
  simp only [CV] at hv;obtain ⟨rfl, _, rfl⟩ := hv;exact ⟨z.rho, AX.refl hi, by simp only [Uj, V]⟩
 | .fr t x, z, hi, c, S, hv, hn, hf => by
  simp only [CV] at hv;obtain ⟨_, h1, h2⟩ := hv;simp only [Uj];exact ZdX hi h2 h1 hn hf
 | .fv t x, z, hi, c, S, hv, hn, hf => by
  simp only [CV] at hv;obtain ⟨_, h1, cs, h2, rfl⟩ := hv;obtain ⟨rho', g, v⟩ := ZiB t hi x cs S h1 h2 hn hf;simp only [Uj];exact ⟨rho', g, Zot v h2.len⟩
 | .io t x, z, hi, c, S, hv, _, _ => by
  simp only [CV] at hv;cases hv.1
 | .agg l, z, hi, c, S, hv, hn, hf => by
  simp only [CV] at hv;obtain ⟨cs, rfl, h2⟩ := hv;obtain ⟨rho', g1, g2⟩ := U9 l hi cs S h2 hn hf;simp only [Uj];refine ⟨rho', g1, ?_⟩;simp only [V];exact ⟨cs, rfl, g2⟩
 | .tup l, z, hi, c, S, hv, hn, hf => by
  simp only [CV] at hv;obtain ⟨cs, rfl, h2⟩ := hv;obtain ⟨rho', g1, g2⟩ := U9 l hi cs S h2 hn hf;simp only [Uj];refine ⟨rho', g1, ?_⟩;simp only [V];exact ⟨cs, rfl, g2⟩
 | .fn f l, z, hi, c, S, hv, hn, hf => by
  simp only [CV] at hv;obtain ⟨cs, rfl, h2⟩ := hv;obtain ⟨rho', g1, g2⟩ := U9 l hi cs S h2 hn hf;simp only [Uj];refine ⟨rho', g1, ?_⟩;simp only [V];exact ⟨cs, rfl, g2⟩
 | .fp l, z, hi, c, S, hv, hn, hf => by
  simp only [CV] at hv;obtain ⟨blk, cs, e, S', rfl, rfl, _, h4, h5⟩ := hv;obtain ⟨n1, n2⟩ := List.nodup_cons.1 hn;obtain ⟨r1, g1, v1⟩ := U9 l hi cs S' h5 n2 (fun k hk => hf k (by simp [hk]));obtain ⟨r2, g2, v2⟩ := ZdY (z := z.mk2 r1 (Xl z.h l).2) g1.iz h4 v1 (DZ.step g1 (fun k hk => hf k (by simp only [List.mem_singleton] at hk; simp [hk])) (fun k hk hb => by
   simp only [List.mem_singleton] at hb; subst hb; exact n1 hk))
  simp only [Uj];refine ⟨r2, (g1.trans g2).more (fun k hk => ?_), ?_⟩
  ·rcases List.mem_append.1 hk with q | q
   ·simp [q]
   ·simp only [List.mem_singleton] at q; simp [q]
  ·simp only [V]
   refine ⟨⟨_, rfl⟩, ?_⟩;show match nth ((Xl z.h l).2 ++ [Blk.vars (Xl z.h l).1]) (Xl z.h l).2.length with | some (.vars _) => _ | some .lent => _ | some _ => True | none => False
   rw [XJ];exact ⟨blk, v2, rfl⟩
 | .mr l, z, hi, c, S, hv, _, _ => by
  simp only [CV] at hv;obtain ⟨_, _, _, _, _, _, h, _⟩ := hv;cases h
 | .own _ _, _, _, _, _, h, _, _ => by simp only [CV] at h
 | .sub _ _ _ _, _, _, _, _, h, _, _ => by simp only [CV] at h
 | .ptr _ _, _, _, _, _, h, _, _ => by simp only [CV] at h
 | .eptr _ _ _ _, _, _, _, _, h, _, _ => by simp only [CV] at h
 | .rptr _ _ _, _, _, _, _, h, _, _ => by simp only [CV] at h
 | .dead, z, hi, _, _, h, _, _ => by
  simp only [CV] at h;obtain ⟨rfl, _⟩ := h;exact ⟨z.rho, AX.refl hi, by simp only [Uj, V]⟩
theorem U9 : ∀ (l : List SV) {z : Z} (_ : IZ z) (cs : List Value) (S : List Nat), CVL z.im z.w l cs S [] → S.Nodup → DZ z S →
  ∃ rho', AX z rho' (Xl z.h l).2 S ∧ VL (z.mk2 rho' (Xl z.h l).2) (Xl z.h l).1 cs
 | [], z, hi, cs, S, hv, _, _ => by
  simp only [CVL] at hv;obtain ⟨rfl, rfl, _⟩ := hv;exact ⟨z.rho, AX.refl hi, by simp only [Xl, VL]⟩
 | x :: l, z, hi, cs, S, hv, hn, hf => by
  simp only [CVL] at hv;obtain ⟨c, r, S1, S2, B1, B2, rfl, rfl, hB, h4, h5⟩ := hv;have hB' : B1 = [] ∧ B2 = [] := by have := hB.symm; simpa using this
  obtain ⟨rfl, rfl⟩ := hB';obtain ⟨n1, n2, n3⟩ := WZ hn;obtain ⟨r1, g1, v1⟩ := ZdZ x hi c S1 h4 n1 (fun k hk => hf k (by simp [hk]));obtain ⟨r2, g2, v2⟩ := U9 l (z := z.mk2 r1 (Uj z.h x).2) g1.iz r S2 h5 n2 (DZ.step g1 (fun k hk => hf k (by simp [hk])) n3);simp only [Xl];refine ⟨r2, g1.trans g2, ?_⟩;simp only [VL];exact ⟨c, r, rfl, V.ext g2.ext _ _ v1, v2⟩
end
theorem ZmU {z : Z} (hi : IZ z) {b blk : Nat} {cells : List SV} {cs : List Value} {e : TypeId} (hr : z.rho b = some (.v blk)) (hb : nth z.h b = some .lent) (hh : z.w.heap[blk]? = some (.cells cs.toArray e (0, 0)))
  (hv : VL z cells cs) : IZ (z.withH (upd z.h b (.vars cells))) ∧ Ext z (z.withH (upd z.h b (.vars cells))) := by
 have hext : Ext z (z.withH (upd z.h b (.vars cells))) := {
  im := fun k hk => ⟨hk, rfl⟩
  le := fun b' => by
   show ZX (z.rho b') (z.rho b') (nth z.h b') (nth (upd z.h b (.vars cells)) b')
   by_cases e : b' = b
   ·subst e; rw [ZW hb, hb]; exact ⟨fun _ => rfl, fun h => (by cases h), fun _ _ _ h => (by cases h), fun _ => .inr ⟨rfl, .inr ⟨_, rfl⟩⟩⟩
   ·rw [ZM (Ne.symm e)]; exact ZX.refl _ _ }
 have hl : ∀ b', live (nth (upd z.h b (.vars cells)) b') → live (nth z.h b') := by
  intro b' hl
  by_cases e : b' = b
  ·subst e; rw [hb]; trivial
  ·rwa [ZM (Ne.symm e)] at hl
 refine ⟨⟨fun b' d hd => ?_, fun b1 b2 d1 d2 h1 h2 l1 l2 => hi.disj b1 b2 d1 d2 h1 h2 (hl _ l1) (hl _ l2), fun b1 d1 h1 l1 => hi.nodup b1 d1 h1 (hl _ l1), fun b1 d1 h1 l1 => hi.sep b1 d1 h1 (hl _ l1)⟩, hext⟩;show Ev _ d (nth (upd z.h b (.vars cells)) b')
 by_cases e : b' = b
 ·subst e
  rw [ZW hb];have hd : z.rho b' = some d := hd;rw [hr] at hd;cases hd;exact ⟨blk, cs, _, rfl, hh, VL.ext hext _ _ hv⟩
 ·rw [ZM (Ne.symm e)]
  exact (hi.sim b' d hd).ext hext (fun _ _ _ => rfl)
def Zhk : List LC → List Nat
 | [] => []
 | .box b :: l => b :: Zhk l
 | .arr _ _ :: l => Zhk l
inductive FT (z : Z) : List Lnt → List LC → Prop
 | nil : FT z [] []
 | cons {b blk : Nat} {bs : List Lnt} {blks : List LC} : z.rho b = some (.v blk) → nth z.h b = some .lent → FT z bs blks → FT z (.box b :: bs) (.box blk :: blks)
 | arr {b v n cap : Nat} {A : Option Addr} {t : Ty} {bs : List Lnt} {blks : List LC} : z.rho b = some (.s A cap []) → nth z.h b = some (.held v t n) → 0 < t.size → FT z bs blks →
   FT z (.arr b v t :: bs) (.arr (.slice A n cap) t :: blks)
theorem FT.keep {z z' : Z} {bs : List Lnt} {blks : List LC} (hb : FT z bs blks) (h : ∀ b ∈ M6 bs, z'.rho b = z.rho b ∧ nth z'.h b = nth z.h b) : FT z' bs blks := by
 induction hb with
 | nil => exact .nil
 | cons h1 h2 _ ih =>
  have := h _ (List.mem_cons_self ..);exact .cons (this.1.trans h1) (this.2.trans h2) (ih (fun b hb => h b (List.mem_cons_of_mem _ hb)))
 | arr h1 h2 h3 _ ih =>
  have := h _ (List.mem_cons_self ..);exact .arr (this.1.trans h1) (this.2.trans h2) h3 (ih (fun b hb => h b (List.mem_cons_of_mem _ hb)))
theorem FT.lt {z : Z} {bs : List Lnt} {blks : List LC} (hb : FT z bs blks) : ∀ q ∈ M6 bs, q < z.h.length := by
 induction hb with
 | nil => intro q hq; cases hq
 | cons _ h2 _ ih =>
  intro q hq;rcases List.mem_cons.1 hq with rfl | hq
  ·exact BU h2
  ·exact ih q hq
 | arr _ h2 _ _ ih =>
  intro q hq;rcases List.mem_cons.1 hq with rfl | hq
  ·exact BU h2
  ·exact ih q hq
theorem ZmV {z : Z} (hi : IZ z) {b v n cap : Nat} {A : Option Addr} {t : Ty} {y : List t.den} {S1 : List Nat} (hr : z.rho b = some (.s A cap [])) (hb : nth z.h b = some (.held v t n))
  (ht : TR z.im z.w true (.sl true t) y [.slice A n cap] S1) (hp : 0 < t.size) (hn : S1.Nodup) (hf : DZ z S1) :
  IZ (z.mk2 (Yk z.rho b (.s A cap S1)) (upd z.h b (.arr v t y))) ∧ Ext z (z.mk2 (Yk z.rho b (.s A cap S1)) (upd z.h b (.arr v t y))) := by
 have hyl : y.length = n := by
  obtain ⟨A1, cap1, h1, _⟩ := ht;simp only [List.cons.injEq, and_true, Value.slice.injEq] at h1;exact h1.2.1.symm
 have hext : Ext z (z.mk2 (Yk z.rho b (.s A cap S1)) (upd z.h b (.arr v t y))) := {
  im := fun k hk => ⟨hk, rfl⟩
  le := fun b' => by
   show ZX (z.rho b') (Yk z.rho b (.s A cap S1) b') (nth z.h b') (nth (upd z.h b (.arr v t y)) b')
   by_cases e : b' = b
   ·subst e
    rw [ZW hb, hb, hr, Z7];refine ⟨fun _ => rfl, fun h => (by cases h), fun v1 t1 n1 h1 => ?_, fun h => (by rcases h with h | ⟨c, h⟩ <;> cases h)⟩;simp only [Kb, Blk.info, Option.some.injEq, Prod.mk.injEq] at h1;obtain ⟨rfl, rfl, rfl⟩ := h1;refine .inr ⟨v, t, y.length, rfl, .inr ⟨rfl, rfl, hyl, fun A' cap' S' e => ?_⟩⟩;cases e;exact ⟨S1, rfl⟩
   ·rw [ZM (Ne.symm e)]; simp only [Yk, if_neg e]; exact ZX.refl _ _ }
 have old : ∀ b' d, Yk z.rho b (.s A cap S1) b' = some d → live (nth (upd z.h b (.arr v t y)) b') → (b' = b ∧ d = .s A cap S1) ∨ (b' ≠ b ∧ z.rho b' = some d ∧ live (nth z.h b')) := by
  intro b' d h1 h2
  by_cases e : b' = b
  ·subst e; rw [Z7] at h1; cases h1; exact .inl ⟨rfl, rfl⟩
  ·simp only [Yk, if_neg e] at h1
   rw [ZM (Ne.symm e)] at h2;exact .inr ⟨e, h1, h2⟩
 refine ⟨⟨fun b' d hd => ?_, fun b1 b2 d1 d2 h1 h2 l1 l2 hne k hk hk2 => ?_, fun b1 d1 h1 l1 => ?_, fun b1 d1 h1 l1 k hk => ?_⟩, hext⟩
 ·show Ev _ d (nth (upd z.h b (.arr v t y)) b')
  have hd : Yk z.rho b (.s A cap S1) b' = some d := hd
  by_cases e : b' = b
  ·subst e
   rw [ZW hb];rw [Z7] at hd;cases hd;exact ⟨A, cap, S1, rfl, by rw [hyl]; exact ht, hp⟩
  ·rw [ZM (Ne.symm e)]
   simp only [Yk, if_neg e] at hd;exact (hi.sim b' d hd).ext hext (fun _ _ _ => rfl)
 ·rcases old b1 d1 h1 l1 with ⟨e0, e⟩ | ⟨_, e1, e2⟩
  ·subst e
   rcases old b2 d2 h2 l2 with ⟨f0, _⟩ | ⟨_, f1, f2⟩
   ·exact hne (e0.trans f0.symm)
   ·exact (hf k hk).2 b2 d2 f1 f2 hk2
  ·rcases old b2 d2 h2 l2 with ⟨_, f⟩ | ⟨_, f1, f2⟩
   ·subst f; exact (hf k hk2).2 b1 d1 e1 e2 hk
   ·exact hi.disj b1 b2 d1 d2 e1 f1 e2 f2 hne k hk hk2
 ·rcases old b1 d1 h1 l1 with ⟨_, e⟩ | ⟨_, e1, e2⟩
  ·subst e; exact hn
  ·exact hi.nodup b1 d1 e1 e2
 ·rcases old b1 d1 h1 l1 with ⟨_, e⟩ | ⟨_, e1, e2⟩
  ·subst e; exact (hf k hk).1
  ·exact hi.sep b1 d1 e1 e2 k hk
theorem HM {im : Nat → Prop} {w : World} : ∀ (outs : List (List SV)) (blks : List LC) (S2 : List Nat), UO im w outs blks S2 → ∀ q ∈ Zhk blks, q ∈ S2
 | [], [], S2, ho, q, hq => by cases hq
 | [], _ :: _, S2, ho, q, hq => by simp only [UO] at ho
 | _ :: _, [], S2, ho, q, hq => by simp only [UO] at ho
 | c :: outs, .box b' :: blks, S2, ho, q, hq => by
  simp only [UO] at ho;obtain ⟨cells, e, T1, T2, rfl, _, _, ho⟩ := ho;rcases List.mem_cons.1 hq with rfl | hq
  ·simp
  ·have := HM outs blks T2 ho q hq; simp [this]
 | c :: outs, .arr a t :: blks, S2, ho, q, hq => by
  simp only [UO] at ho;obtain ⟨x, T1, T2, _, rfl, _, ho⟩ := ho;have := HM outs blks T2 ho q hq; simp [this]
theorem PJ : ∀ (outs : List (List SV)) {z : Z} (_ : IZ z) (bs : List Lnt) (blks : List LC) (S : List Nat) (h' : List Blk), UO z.im z.w outs blks S → FT z bs blks → (M6 bs).Nodup → S.Nodup →
  (∀ k ∈ S, k ∉ Zhk blks → ¬ z.im k ∧ ∀ b d, z.rho b = some d → live (nth z.h b) → k ∉ d.blks) → W8 z.h bs outs = some h' →
  ∃ rho', IZ (z.mk2 rho' h') ∧ Ext z (z.mk2 rho' h') ∧ z.h.length ≤ h'.length ∧
   (∀ b d, rho' b = some d → live (nth h' b) → (z.rho b = some d ∧ live (nth z.h b)) ∨ ∀ k ∈ d.blks, k ∈ S)
 | [], z, hi, bs, blks, S, h', ho, hb, _, _, _, hr => by
  cases hb with
  | nil =>
   simp only [W8, Option.some.injEq] at hr;subst hr;exact ⟨z.rho, hi, Ext.refl _, Nat.le_refl _, fun b d h1 h2 => .inl ⟨h1, h2⟩⟩
  | cons _ _ _ => simp only [UO] at ho
  | arr _ _ _ _ => simp only [UO] at ho
 | c :: outs, z, hi, bs, blks, S, h', ho, hb, hnb, hn, hf, hr => by
  cases hb with
  | nil => simp only [UO] at ho
  | @arr b v n cap A t bs blks h1 h2 h3 h4 =>
   simp only [UO] at ho;obtain ⟨y, S1, S2, rfl, rfl, hty, ho⟩ := ho;simp only [W8] at hr;obtain ⟨nb1, nb2⟩ := List.nodup_cons.1 hnb;obtain ⟨n1, n2, n3⟩ := WZ hn;have hsub := HM outs blks S2 ho;have hfree1 : DZ z S1 := fun k hk => hf k (by simp [hk]) (fun hm => n3 k hk (hsub k hm));cases hts : toS (.sl true t) (.sl true t) y with
   | none => rw [hts] at hr; cases hr
   | some y' =>
    rw [hts] at hr;simp only at hr;obtain ⟨e1, e2⟩ := Ez hts;have e2 : y = y' := by cases e1; exact e2
    subst e2;obtain ⟨i2, e2⟩ := ZmV hi h1 h2 hty h3 n1 hfree1;have hlive : ∀ q, live (nth (upd z.h b (.arr v t y)) q) → live (nth z.h q) := by
     intro q hl
     by_cases eq : q = b
     ·subst eq; rw [h2]; trivial
     ·rwa [ZM (Ne.symm eq)] at hl
    have hkeep : FT (z.mk2 (Yk z.rho b (.s A cap S1)) (upd z.h b (.arr v t y))) bs blks := h4.keep (fun q hq => by
     have hqb : b ≠ q := fun e => nb1 (by rw [show Lnt.n (.arr b v t) = q from e]; exact hq);exact ⟨by show Yk _ _ _ q = _; simp only [Yk, if_neg (Ne.symm hqb)], ZM hqb⟩)
    obtain ⟨r2, j1, j2, j3, j5⟩ := PJ outs (z := z.mk2 (Yk z.rho b (.s A cap S1)) (upd z.h b (.arr v t y))) i2 bs blks S2 h' ho hkeep nb2 n2 (by
     intro k hk hkb;have hfk := hf k (by simp [hk]) hkb;refine ⟨hfk.1, fun q d hr hl hm => ?_⟩;have hr : Yk z.rho b (.s A cap S1) q = some d := hr
     by_cases eq : q = b
     ·subst eq
      rw [Z7] at hr;cases hr;exact n3 k hm hk
     ·simp only [Yk, if_neg eq] at hr
      exact hfk.2 q d hr (hlive q hl) hm) hr
    refine ⟨r2, j1, e2.trans j2, ?_, fun q d hq hl => ?_⟩
    ·have j3' : (upd z.h b (.arr v t y)).length ≤ h'.length := j3
     rwa [ZG] at j3'
    ·rcases j5 q d hq hl with ⟨k1, k2⟩ | k
     ·have k1 : Yk z.rho b (.s A cap S1) q = some d := k1
      by_cases eq : q = b
      ·subst eq
       rw [Z7] at k1;cases k1;exact .inr (fun m hm => List.mem_append.2 (.inl hm))
      ·simp only [Yk, if_neg eq] at k1
       exact .inl ⟨k1, hlive q k2⟩
     ·exact .inr (fun m hm => by have := k m hm; simp [this])
  | @cons b blk bs blks h1 h2 h4 =>
   simp only [UO] at ho;obtain ⟨cells, e, S1, S2, rfl, hh, hv, ho⟩ := ho;simp only [W8] at hr;obtain ⟨h3, nb2⟩ := List.nodup_cons.1 hnb;obtain ⟨hnb, hn12⟩ := List.nodup_cons.1 hn;obtain ⟨n1, n2, n3⟩ := WZ hn12;have hsub := HM outs blks S2 ho;have hfree1 : DZ z S1 := fun k hk => hf k (by simp [hk]) (by
    intro hm;rcases List.mem_cons.1 hm with rfl | hm
    ·exact hnb (by simp [hk])
    ·exact n3 k hk (hsub k hm))
   obtain ⟨r1, g1, v1⟩ := U9 c hi cells S1 hv n1 hfree1;have hblt : b < z.h.length := BU h2;have hb1 : nth (Xl z.h c).2 b = some .lent := ((g1.old b hblt).1).trans h2;have hr1 : r1 b = some (.v blk) := ((g1.old b hblt).2).trans h1;obtain ⟨i2, e2⟩ := ZmU (z := z.mk2 r1 (Xl z.h c).2) g1.iz hr1 hb1 hh v1;have hkeep : FT ((z.mk2 r1 (Xl z.h c).2).withH (upd (Xl z.h c).2 b (.vars (Xl z.h c).1))) bs blks := h4.keep (fun q hq => by
    have hql := h4.lt q hq;have hqb : b ≠ q := fun e => h3 (by rw [show Lnt.n (.box b) = q from e]; exact hq);refine ⟨(g1.old q hql).2, ?_⟩;show nth (upd (Xl z.h c).2 b _) q = _;rw [ZM hqb];exact (g1.old q hql).1)
   have hlive : ∀ q, live (nth (upd (Xl z.h c).2 b (.vars (Xl z.h c).1)) q) → live (nth (Xl z.h c).2 q) := by
    intro q hl
    by_cases eq : q = b
    ·subst eq; rw [hb1]; trivial
    ·rwa [ZM (Ne.symm eq)] at hl
   obtain ⟨r2, j1, j2, j3, j5⟩ := PJ outs (z := (z.mk2 r1 (Xl z.h c).2).withH (upd (Xl z.h c).2 b (.vars (Xl z.h c).1))) i2 bs blks S2 h' ho hkeep nb2 n2 (by
    intro k hk hkb;have hk0 : k ≠ blk := fun e => hnb (by simp [← e, hk]);have hfk := hf k (by simp [hk]) (by
     intro hm;rcases List.mem_cons.1 hm with e | hm
     ·exact hk0 e
     ·exact hkb hm)
    refine ⟨hfk.1, fun q d hr hl hm => ?_⟩;have hl := hlive q hl;rcases Nat.lt_or_ge q z.h.length with hlt | hge
    ·have ho := g1.old q hlt
     have hr' : r1 q = some d := hr;rw [ho.2] at hr';rw [ho.1] at hl;exact hfk.2 q d hr' hl hm
    ·exact n3 k (g1.new q d hge hr hl k hm) hk) hr
   refine ⟨r2, j1, (g1.ext.trans e2).trans j2, ?_, ?_⟩
   ·have j3' : (upd (Xl z.h c).2 b (.vars (Xl z.h c).1)).length ≤ h'.length := j3
    rw [ZG] at j3';exact Nat.le_trans g1.len j3'
   ·intro q d hq hl
    rcases j5 q d hq hl with ⟨k1, k2⟩ | k
    ·have k2 := hlive q k2
     rcases Nat.lt_or_ge q z.h.length with hlt | hge
     ·have ho := g1.old q hlt
      have k1' : r1 q = some d := k1;rw [ho.2] at k1';rw [ho.1] at k2;exact .inl ⟨k1', k2⟩
     ·exact .inr (fun k hk => by have := g1.new q d hge k1 k2 k hk; simp [this])
    ·exact .inr (fun m hm => by have := k m hm; simp [this])
end Go.Sx
namespace Go.Sx
open Go
structure Mid (g : G) (rho : Rho) (h : List Blk) (w : World) (z : Z) : Prop where
 im : z.im = Im g rho h w
 iz : IZ z
 ext : Ext (zOf g rho h w) z
 own : ∀ b d, z.rho b = some d → live (nth z.h b) → ∀ k ∈ d.blks, (UX rho h k ∨ w.heap.size ≤ k) ∧ k < z.w.heap.size
 size : w.heap.size ≤ z.w.heap.size
 same : ∀ k, k < w.heap.size → ¬ UX rho h k → z.w.heap[k]? = w.heap[k]?
 frz : Frz w z.w
section
variable {g : G} {rho : Rho} {h : List Blk} {w : World} {z : Z}
theorem Mid.start (hi : Inv g rho h w) : Mid g rho h w (zOf g rho h w) where
 im := rfl
 iz := hi.iz
 ext := Ext.refl _
 own := fun b d h1 h2 k hk => ⟨.inl ⟨b, d, h1, h2, hk⟩, (hi.range b d h1 h2 k hk).1⟩
 size := Nat.le_refl _
 same := fun _ _ _ => rfl
 frz := Frz.refl _
theorem Mid.lt (m : Mid g rho h w z) {k : Nat} (hk : z.im k) : k < z.w.heap.size := by
 rw [m.im] at hk;exact Nat.lt_of_lt_of_le hk.2.1 m.size
theorem Mid.done (m : Mid g rho h w z) (hi : Inv g rho h w) : Inv g z.rho z.h z.w ∧ Ext z (zOf g z.rho z.h z.w) := by
 have he : Ext z (zOf g z.rho z.h z.w) := by
  refine ⟨fun k hk => ⟨⟨?_, m.lt hk, ?_⟩, rfl⟩, fun b => ZX.refl _ _⟩
  ·rw [m.im] at hk; exact hk.1
  ·rintro ⟨b, d, h1, h2, h3⟩
   exact m.iz.sep b d h1 h2 k h3 hk
 refine ⟨⟨fun b d hd => ?_, m.iz.disj, m.iz.nodup, fun b d h1 h2 k hk => ?_, ⟨?_, ?_, ?_⟩, PA.ext (z := zOf g rho h w) hi.tab (m.ext.trans he)⟩, he⟩
 ·exact (m.iz.sim b d hd).ext he (fun _ _ _ => rfl)
 ·obtain ⟨h3, h4⟩ := m.own b d h1 h2 k hk
  refine ⟨h4, ?_⟩;rcases h3 with ⟨b', d', q1, q2, q3⟩ | h3
  ·exact (hi.range b' d' q1 q2 k q3).2
  ·exact .inr (Nat.le_trans hi.kept.1 h3)
 ·exact Nat.le_trans hi.kept.1 m.size
 ·intro k hk hn
  refine (m.same k (Nat.lt_of_lt_of_le hk hi.kept.1) ?_).trans (hi.kept.2 k hk hn)
  rintro ⟨b, d, q1, q2, q3⟩
  rcases (hi.range b d q1 q2 k q3).2 with q | q
  ·exact hn q
  ·omega
 ·exact hi.kept.3.trans m.frz
theorem Mid.off (m : Mid g rho h w z) {h' : List Blk} (ho : Off z.h h') : Mid g rho h w (z.withH h') where
 im := m.im
 iz := Jn m.iz ho
 ext := m.ext.trans (X6 ho)
 own := fun b d h1 h2 k hk => m.own b d h1 (X8 ho h2) k hk
 size := m.size
 same := m.same
 frz := m.frz
theorem Mid.grow (m : Mid g rho h w z) {r' : Rho} {h' : List Blk} {S : List Nat} (gr : AX z r' h' S) (hS : ∀ k ∈ S, (UX rho h k ∨ w.heap.size ≤ k) ∧ k < z.w.heap.size) : Mid g rho h w (z.mk2 r' h') where
 im := m.im
 iz := gr.iz
 ext := m.ext.trans gr.ext
 own := fun b d h1 h2 k hk => by
  rcases Nat.lt_or_ge b z.h.length with hlt | hge
  ·have q := gr.old b hlt
   have h1 : r' b = some d := h1;have h2 : live (nth h' b) := h2;rw [q.2] at h1;rw [q.1] at h2;exact m.own b d h1 h2 k hk
  ·exact hS k (gr.new b d hge h1 h2 k hk)
 size := m.size
 same := m.same
 frz := m.frz
theorem Mid.turn (m : Mid g rho h w z) {b : Nat} {d0 d1 : D} {nb : Blk} {w' : World} {S : List Nat} (h0 : z.rho b = some d0) (l0 : live (nth z.h b)) (hf : DZ z S)
  (hS : ∀ k ∈ S, (UX rho h k ∨ w.heap.size ≤ k) ∧ k < z.w.heap.size) (hsz : z.w.heap.size ≤ w'.heap.size) (same : ∀ k, k < z.w.heap.size → k ∉ d0.blks → w'.heap[k]? = z.w.heap[k]?)
  (sub : ∀ k ∈ d1.blks, k ∈ d0.blks ∨ k ∈ S ∨ (z.w.heap.size ≤ k ∧ k < w'.heap.size)) (nd : d1.blks.Nodup) (le : ZX (some d0) (some d1) (nth z.h b) (some nb)) (frz : Frz z.w w')
  (hs : Ext z ⟨z.im, w', Yk z.rho b d1, upd z.h b nb⟩ → Ev ⟨z.im, w', Yk z.rho b d1, upd z.h b nb⟩ d1 (some nb)) :
  Mid g rho h w ⟨z.im, w', Yk z.rho b d1, upd z.h b nb⟩ ∧ Ext z ⟨z.im, w', Yk z.rho b d1, upd z.h b nb⟩ := by
 have hbs : ∃ x, nth z.h b = some x := by
  cases hb : nth z.h b with
  | none => rw [hb] at l0; exact l0.elim
  | some x => exact ⟨x, rfl⟩
 obtain ⟨ob, hob⟩ := hbs;have hext : Ext z ⟨z.im, w', Yk z.rho b d1, upd z.h b nb⟩ := by
  refine ⟨fun k hk => ⟨hk, same k (m.lt hk) (fun hc => m.iz.sep b d0 h0 l0 k hc hk)⟩, fun b' => ?_⟩;show ZX (z.rho b') (Yk z.rho b d1 b') (nth z.h b') (nth (upd z.h b nb) b')
  by_cases e : b' = b
  ·subst e
   rw [ZW hob];simp only [Yk, if_pos];rw [h0];exact le
  ·rw [ZM (Ne.symm e)]
   simp only [Yk, if_neg e];exact ZX.refl _ _
 have old : ∀ b' d', Yk z.rho b d1 b' = some d' → live (nth (upd z.h b nb) b') → (b' = b ∧ d' = d1) ∨ (b' ≠ b ∧ z.rho b' = some d' ∧ live (nth z.h b')) := by
  intro b' d' h1 h2
  by_cases e : b' = b
  ·subst e; simp only [Yk, if_pos] at h1; cases h1; exact .inl ⟨rfl, rfl⟩
  ·simp only [Yk, if_neg e] at h1
   rw [ZM (Ne.symm e)] at h2;exact .inr ⟨e, h1, h2⟩
 have dis : ∀ b' d', b' ≠ b → z.rho b' = some d' → live (nth z.h b') → ∀ k ∈ d'.blks, k ∉ d0.blks := fun b' d' hne h1 h2 k hk =>
  m.iz.disj b' b d' d0 h1 h0 h2 l0 hne k hk
 have fresh : ∀ b' d', b' ≠ b → z.rho b' = some d' → live (nth z.h b') → ∀ k ∈ d'.blks, k ∉ d1.blks := fun b' d' hne h1 h2 k hk hk1 => by
  rcases sub k hk1 with q | q | q
  ·exact dis b' d' hne h1 h2 k hk q
  ·exact (hf k q).2 b' d' h1 h2 hk
  ·have := (m.own b' d' h1 h2 k hk).2; omega
 refine ⟨⟨m.im, ⟨fun b' d' h1 => ?_, fun b1 b2 e1 e2 h1 h2 l1 l2 hne k hk hk2 => ?_, fun b1 e1 h1 l1 => ?_, fun b1 e1 h1 l1 k hk hm => ?_⟩, m.ext.trans hext, fun b1 e1 h1 l1 k hk => ?_, Nat.le_trans m.size hsz, fun k hk hn => ?_, m.frz.trans frz⟩, hext⟩
 ·show Ev _ d' (nth (upd z.h b nb) b')
  have h1 : Yk z.rho b d1 b' = some d' := h1
  by_cases e : b' = b
  ·subst e
   simp only [Yk, if_pos] at h1;cases h1;rw [ZW hob];exact hs hext
  ·simp only [Yk, if_neg e] at h1
   rw [ZM (Ne.symm e)];refine (m.iz.sim b' d' h1).ext hext (fun hl k hk => ?_);exact same k (m.own b' d' h1 hl k hk).2 (dis b' d' e h1 hl k hk)
 ·rcases old b1 e1 h1 l1 with ⟨f1, f2⟩ | ⟨f1, f2, f3⟩ <;> rcases old b2 e2 h2 l2 with ⟨g1, g2⟩ | ⟨g1, g2, g3⟩
  ·exact hne (f1.trans g1.symm)
  ·subst f2; exact fresh b2 e2 g1 g2 g3 k hk2 hk
  ·subst g2; exact fresh b1 e1 f1 f2 f3 k hk hk2
  ·exact m.iz.disj b1 b2 e1 e2 f2 g2 f3 g3 hne k hk hk2
 ·rcases old b1 e1 h1 l1 with ⟨_, f2⟩ | ⟨_, f2, f3⟩
  ·subst f2; exact nd
  ·exact m.iz.nodup b1 e1 f2 f3
 ·have hm : z.im k := hm
  rcases old b1 e1 h1 l1 with ⟨_, f2⟩ | ⟨_, f2, f3⟩
  ·subst f2
   rcases sub k hk with q | q | q
   ·exact m.iz.sep b d0 h0 l0 k q hm
   ·exact (hf k q).1 hm
   ·have := m.lt hm; omega
  ·exact m.iz.sep b1 e1 f2 f3 k hk hm
 ·rcases old b1 e1 h1 l1 with ⟨_, f2⟩ | ⟨_, f2, f3⟩
  ·subst f2
   rcases sub k hk with q | q | q
   ·have := m.own b d0 h0 l0 k q; exact ⟨this.1, Nat.lt_of_lt_of_le this.2 hsz⟩
   ·have := hS k q; exact ⟨this.1, Nat.lt_of_lt_of_le this.2 hsz⟩
   ·exact ⟨.inr (Nat.le_trans m.size q.1), q.2⟩
  ·have := m.own b1 e1 f2 f3 k hk; exact ⟨this.1, Nat.lt_of_lt_of_le this.2 hsz⟩
 ·refine (same k (Nat.lt_of_lt_of_le hk m.size) (fun hc => ?_)).trans (m.same k hk hn)
  rcases (m.own b d0 h0 l0 k hc).1 with q | q
  ·exact hn q
  ·omega
theorem Mid.turn0 (m : Mid g rho h w z) {b : Nat} {nb : Blk} (h0 : z.rho b = none) (le : ZX none none (nth z.h b) (some nb)) :
  Mid g rho h w (z.withH (upd z.h b nb)) ∧ Ext z (z.withH (upd z.h b nb)) := by
 have hext : Ext z (z.withH (upd z.h b nb)) := by
  refine ⟨fun k hk => ⟨hk, rfl⟩, fun b' => ?_⟩;show ZX (z.rho b') (z.rho b') (nth z.h b') (nth (upd z.h b nb) b');rcases ZP z.h b b' nb with ⟨e, e2, _⟩ | e
  ·subst e; rw [e2, h0]; exact le
  ·rw [e]; exact ZX.refl _ _
 have old : ∀ b' d', z.rho b' = some d' → nth (upd z.h b nb) b' = nth z.h b' := by
  intro b' d' h1;have hne : b ≠ b' := by intro e; subst e; rw [h0] at h1; cases h1
  exact ZM hne
 refine ⟨⟨m.im, ⟨fun b' d' h1 => ?_, fun b1 b2 e1 e2 h1 h2 l1 l2 => ?_, fun b1 e1 h1 l1 => ?_, fun b1 e1 h1 l1 => ?_⟩, m.ext.trans hext, fun b1 e1 h1 l1 => ?_, m.size, m.same, m.frz⟩, hext⟩
 ·show Ev _ d' (nth (upd z.h b nb) b')
  rw [old b' d' h1];exact (m.iz.sim b' d' h1).ext hext (fun _ _ _ => rfl)
 ·have l1 : live (nth (upd z.h b nb) b1) := l1
  have l2 : live (nth (upd z.h b nb) b2) := l2;rw [old b1 e1 h1] at l1;rw [old b2 e2 h2] at l2;exact m.iz.disj b1 b2 e1 e2 h1 h2 l1 l2
 ·have l1 : live (nth (upd z.h b nb) b1) := l1
  rw [old b1 e1 h1] at l1;exact m.iz.nodup b1 e1 h1 l1
 ·have l1 : live (nth (upd z.h b nb) b1) := l1
  rw [old b1 e1 h1] at l1;exact m.iz.sep b1 e1 h1 l1
 ·have l1 : live (nth (upd z.h b nb) b1) := l1
  rw [old b1 e1 h1] at l1;exact m.own b1 e1 h1 l1
theorem Mid.push (m : Mid g rho h w z) {d1 : D} {nb : Blk} {w' : World} {S : List Nat} (hf : DZ z S) (hS : ∀ k ∈ S, (UX rho h k ∨ w.heap.size ≤ k) ∧ k < z.w.heap.size)
  (hsz : z.w.heap.size ≤ w'.heap.size) (same : ∀ k, k < z.w.heap.size → w'.heap[k]? = z.w.heap[k]?)
  (sub : ∀ k ∈ d1.blks, k ∈ S ∨ (z.w.heap.size ≤ k ∧ k < w'.heap.size)) (nd : d1.blks.Nodup) (frz : Frz z.w w')
  (hs : Ext z ⟨z.im, w', Yk z.rho z.h.length d1, z.h ++ [nb]⟩ → Ev ⟨z.im, w', Yk z.rho z.h.length d1, z.h ++ [nb]⟩ d1 (some nb)) :
  Mid g rho h w ⟨z.im, w', Yk z.rho z.h.length d1, z.h ++ [nb]⟩ ∧ Ext z ⟨z.im, w', Yk z.rho z.h.length d1, z.h ++ [nb]⟩ := by
 have hext : Ext z ⟨z.im, w', Yk z.rho z.h.length d1, z.h ++ [nb]⟩ := by
  refine ⟨fun k hk => ⟨hk, same k (m.lt hk)⟩, fun b' => ?_⟩;show ZX (z.rho b') (Yk z.rho z.h.length d1 b') (nth z.h b') (nth (z.h ++ [nb]) b');rcases ZK z.h nb b' with ⟨e, h4⟩ | ⟨e, h4⟩ | ⟨_, h4, h5⟩
  ·subst e; rw [Y6.2 (Nat.le_refl _)]; exact ZX.none
  ·have : b' ≠ z.h.length := by omega
   rw [h4]; simp only [Yk, if_neg this]; exact ZX.refl _ _
  ·rw [h5]; exact ZX.none
 have old : ∀ b' d', Yk z.rho z.h.length d1 b' = some d' → live (nth (z.h ++ [nb]) b') → (b' = z.h.length ∧ d' = d1) ∨ (b' < z.h.length ∧ z.rho b' = some d' ∧ live (nth z.h b')) := by
  intro b' d' h1 h2;rcases ZK z.h nb b' with ⟨e, _⟩ | ⟨e, h4⟩ | ⟨_, h4, _⟩
  ·subst e; simp only [Yk, if_pos] at h1; cases h1; exact .inl ⟨rfl, rfl⟩
  ·have : b' ≠ z.h.length := by omega
   simp only [Yk, if_neg this] at h1;rw [h4] at h2;exact .inr ⟨e, h1, h2⟩
  ·rw [h4] at h2; exact h2.elim
 have fresh : ∀ b' d', z.rho b' = some d' → live (nth z.h b') → ∀ k ∈ d'.blks, k ∉ d1.blks := fun b' d' h1 h2 k hk hk1 => by
  rcases sub k hk1 with q | q
  ·exact (hf k q).2 b' d' h1 h2 hk
  ·have := (m.own b' d' h1 h2 k hk).2; omega
 refine ⟨⟨m.im, ⟨fun b' d' h1 => ?_, fun b1 b2 e1 e2 h1 h2 l1 l2 hne k hk hk2 => ?_, fun b1 e1 h1 l1 => ?_, fun b1 e1 h1 l1 k hk hm => ?_⟩, m.ext.trans hext, fun b1 e1 h1 l1 k hk => ?_, Nat.le_trans m.size hsz, fun k hk hn => ?_, m.frz.trans frz⟩, hext⟩
 ·show Ev _ d' (nth (z.h ++ [nb]) b')
  have h1 : Yk z.rho z.h.length d1 b' = some d' := h1;rcases ZK z.h nb b' with ⟨e, h4⟩ | ⟨e, h4⟩ | ⟨_, h4, _⟩
  ·subst e
   simp only [Yk, if_pos] at h1;cases h1;rw [h4];exact hs hext
  ·have hne : b' ≠ z.h.length := by omega
   simp only [Yk, if_neg hne] at h1;rw [h4];exact (m.iz.sim b' d' h1).ext hext (fun hl k hk => same k (m.own b' d' h1 hl k hk).2)
  ·rw [h4]; trivial
 ·rcases old b1 e1 h1 l1 with ⟨f1, f2⟩ | ⟨f1, f2, f3⟩ <;> rcases old b2 e2 h2 l2 with ⟨g1, g2⟩ | ⟨g1, g2, g3⟩
  ·exact hne (f1.trans g1.symm)
  ·subst f2; exact fresh b2 e2 g2 g3 k hk2 hk
  ·subst g2; exact fresh b1 e1 f2 f3 k hk hk2
  ·exact m.iz.disj b1 b2 e1 e2 f2 g2 f3 g3 hne k hk hk2
 ·rcases old b1 e1 h1 l1 with ⟨_, f2⟩ | ⟨_, f2, f3⟩
  ·subst f2; exact nd
  ·exact m.iz.nodup b1 e1 f2 f3
 ·have hm : z.im k := hm
  rcases old b1 e1 h1 l1 with ⟨_, f2⟩ | ⟨_, f2, f3⟩
  ·subst f2
   rcases sub k hk with q | q
   ·exact (hf k q).1 hm
   ·have := m.lt hm; omega
  ·exact m.iz.sep b1 e1 f2 f3 k hk hm
 ·rcases old b1 e1 h1 l1 with ⟨_, f2⟩ | ⟨_, f2, f3⟩
  ·subst f2
   rcases sub k hk with q | q
   ·have := hS k q; exact ⟨this.1, Nat.lt_of_lt_of_le this.2 hsz⟩
   ·exact ⟨.inr (Nat.le_trans m.size q.1), q.2⟩
  ·have := m.own b1 e1 f2 f3 k hk; exact ⟨this.1, Nat.lt_of_lt_of_le this.2 hsz⟩
 ·exact (same k (Nat.lt_of_lt_of_le hk m.size)).trans (m.same k hk hn)
theorem Mid.went (m : Mid g rho h w z) {h' : List Blk} (ho : Off z.h h') {S : List Nat} (hw : M5 z.rho z.h h' S) (hl : ∀ b, Y7 (nth h' b) → Y7 (nth z.h b)) :
  DZ (z.withH h') S ∧ ∀ k ∈ S, (UX rho h k ∨ w.heap.size ≤ k) ∧ k < z.w.heap.size := by
 refine ⟨fun k hk => ?_, fun k hk => ?_⟩
 ·obtain ⟨b, d, h1, h2, h3, h4, h5⟩ := hw k hk
  refine ⟨m.iz.sep b d h1 h2 k h5, fun b' d' r1 r2 r3 => ?_⟩;have r1 : z.rho b' = some d' := r1;have r2 : live (nth h' b') := r2
  by_cases e : b' = b
  ·subst e
   rcases h3 with h3 | h3
   ·rw [h3] at r2; exact r2
   ·exact h4 (hl _ h3)
  ·exact m.iz.disj b' b d' d r1 h1 (X8 ho r2) h2 e k r3 h5
 ·obtain ⟨b, d, h1, h2, h3, h4, h5⟩ := hw k hk
  exact m.own b d h1 h2 k h5
end
theorem Ye.at {α : Type} {R : α → List Value → List Nat → Prop} : ∀ (i : Nat) {xs : List α} {cs : List Value} {S : List Nat} {y : α}, Ye R xs cs S → nth xs i = some y →
  ∃ c1 c c2 S1 Sy S2, cs = c1 ++ (c ++ c2) ∧ S = S1 ++ (Sy ++ S2) ∧ Ye R (xs.take i) c1 S1 ∧ R y c Sy ∧ Ye R (xs.drop (i + 1)) c2 S2
 | _, [], _, _, _, _, h => by simp [nth] at h
 | 0, x :: xs, _, _, y, ⟨c1, c2, S1, S2, h1, h2, h3, h4⟩, h => by
  simp only [nth, Option.some.injEq] at h;subst h;exact ⟨[], c1, c2, [], S1, S2, by simpa using h1, by simpa using h2, ⟨rfl, rfl⟩, h3, by simpa using h4⟩
 | i + 1, x :: xs, _, _, y, ⟨c1, c2, S1, S2, h1, h2, h3, h4⟩, h => by
  obtain ⟨d1, c, d2, T1, Ty, T2, e1, e2, e3, e4, e5⟩ := Ye.at i h4 h;subst h1; subst h2; subst e1; subst e2;exact ⟨c1 ++ d1, c, d2, S1 ++ T1, Ty, T2, by simp, by simp, ⟨c1, d1, S1, T1, rfl, rfl, h3, e3⟩, e4, by simpa using e5⟩
theorem Ye.app {α : Type} {R : α → List Value → List Nat → Prop} : ∀ {xs ys : List α} {cs ds : List Value} {S T : List Nat}, Ye R xs cs S → Ye R ys ds T → Ye R (xs ++ ys) (cs ++ ds) (S ++ T)
 | [], _, _, _, _, _, ⟨e1, e2⟩, h' => by subst e1; subst e2; simpa using h'
 | x :: xs, ys, _, _, _, _, ⟨c1, c2, S1, S2, h1, h2, h3, h4⟩, h' => by
  subst h1; subst h2;exact ⟨c1, c2 ++ _, S1, S2 ++ _, by simp, by simp, h3, Ye.app h4 h'⟩
theorem Zfz {α : Type} : ∀ {xs : List α} {i : Nat} {y : α}, i < xs.length → upd xs i y = xs.take i ++ y :: xs.drop (i + 1)
 | [], _, _, h => by simp at h
 | _ :: _, 0, _, _ => by simp [upd]
 | x :: xs, i + 1, y, h => by simp only [upd, List.take_succ_cons, List.cons_append, List.drop_succ_cons]; rw [Zfz (by simpa using h)]
theorem Ye.glue {α : Type} {R : α → List Value → List Nat → Prop} {xs : List α} {i : Nat} {y : α} {c1 c c2 : List Value} {S1 Sy S2 : List Nat} (hi : i < xs.length) (h1 : Ye R (xs.take i) c1 S1) (h2 : R y c Sy) (h3 : Ye R (xs.drop (i + 1)) c2 S2) :
  Ye R (Sx.upd xs i y) (c1 ++ (c ++ c2)) (S1 ++ (Sy ++ S2)) := by
 rw [Zfz hi];exact h1.app ⟨c, c2, Sy, S2, rfl, rfl, h2, h3⟩
theorem HN : ∀ (t : Ty) {h h' : List Blk} {l l' : List SV} {x : t.den}, UC h t l = some (x, l', h') → ∀ b, nth h' b = nth h b ∨ (nth h' b = some .gone ∧ ∃ v s y, nth h b = some (.arr v s y)) := by
 intro t;have XE : ∀ {t : Ty} {h h' : List Blk} {l l' : List SV} {x : t.den}, ((Eq h t l).map fun q => (q.1, q.2, h)) = some (x, l', h') → ∀ b, nth h' b = nth h b ∨ (nth h' b = some .gone ∧ ∃ v s y, nth h b = some (.arr v s y)) := by
  intro t h h' l l' x hp b;simp only [Option.map_eq_some_iff, Prod.mk.injEq] at hp;obtain ⟨_, _, _, _, e⟩ := hp;exact .inl (by rw [e])
 induction t with
 | int k => exact fun hp => XE (t := .int k) hp
 | bool => exact fun hp => XE (t := .bool) hp
 | str => exact fun hp => XE (t := .str) hp
 | unit =>
  intro h h' l l' x hp b;simp only [UC, Option.some.injEq, Prod.mk.injEq] at hp;exact .inl (by rw [hp.2.2])
 | pair a c iha ihc =>
  intro h h' l l' x hp b;simp only [UC] at hp
  split at hp
  ·rename_i y l1 h1 hy
   split at hp
   ·rename_i y2 l2 h2 hy2
    simp only [Option.some.injEq, Prod.mk.injEq] at hp;rw [← hp.2.2];rcases ihc hy2 b with e | ⟨e, e2⟩
    ·rw [e]; exact iha hy b
    ·rcases iha hy b with f | ⟨f, f2⟩
     ·rw [f] at e2; exact .inr ⟨e, e2⟩
     ·obtain ⟨v, s, y, e3⟩ := e2
      rw [f] at e3;cases e3
   ·cases hp
  ·cases hp
 | sl u a _ =>
  cases u with
  | false =>
   intro h h' l l' x hp;exact XE (t := .sl false a) (by simpa only [UC, cond_false] using hp)
  | true =>
   intro h h' l l' x hp b;simp only [UC, cond_true] at hp;cases l with
   | nil => cases hp
   | cons c r =>
    simp only at hp;cases hd : Zhi h a c with
    | none => rw [hd] at hp; cases hp
    | some y =>
     rw [hd] at hp;simp only at hp;have key : ∀ q, c = .own q c.ver ∨ (∃ off n, c = .sub q c.ver off n) → ∃ v s y, nth h q = some (.arr v s y) := by
      intro q hq;unfold Zhi at hd;rcases hq with hq | ⟨off, n, hq⟩
      ·rw [hq] at hd
       dsimp only at hd
       split at hd
       ·exact ⟨_, _, _, by assumption⟩
       ·cases hd
      ·rw [hq] at hd
       dsimp only at hd
       split at hd
       ·exact ⟨_, _, _, by assumption⟩
       ·cases hd
     have fin : ∀ q, (∃ v s y, nth h q = some (.arr v s y)) → h' = upd h q .gone → nth h' b = nth h b ∨ (nth h' b = some .gone ∧ ∃ v s y, nth h b = some (.arr v s y)) := by
      intro q hq e;rw [e];rcases ZP h q b Blk.gone with ⟨e1, e2, _⟩ | e2
      ·subst e1; exact .inr ⟨e2, hq⟩
      ·exact .inl e2
     cases c with
     | nil =>
      simp only [Option.some.injEq, Prod.mk.injEq] at hp;exact .inl (by rw [hp.2.2])
     | own q v =>
      simp only [Option.some.injEq, Prod.mk.injEq] at hp;exact fin q (key q (.inl rfl)) hp.2.2.symm
     | sub q v off n =>
      simp only [Option.some.injEq, Prod.mk.injEq] at hp;exact fin q (key q (.inr ⟨off, n, rfl⟩)) hp.2.2.symm
     | _ => cases hp
theorem Zjz {h h' : List Blk} (hl : h'.length = h.length) (ha : ∀ b, nth h' b = nth h b ∨ (nth h' b = some .gone ∧ ∃ v s y, nth h b = some (.arr v s y))) : Off h h' := by
 refine ⟨hl, fun b => ?_⟩;rcases ha b with e | ⟨e, v, s, y, e2⟩
 ·exact .inl e
 ·exact .inr (.inl ⟨e, by rw [e2]; exact Ul⟩)
theorem PK {h h' : List Blk} (ha : ∀ b, nth h' b = nth h b ∨ (nth h' b = some .gone ∧ ∃ v s y, nth h b = some (.arr v s y))) : ∀ b, Y7 (nth h' b) → Y7 (nth h b) := by
 intro b hb;rcases ha b with e | ⟨e, _⟩
 ·rwa [e] at hb
 ·rw [e] at hb; exact absurd hb Qt
theorem M7 : ∀ (t : Ty) {h h' : List Blk} {l l' : List SV} {x : t.den}, UC h t l = some (x, l', h') → h'.length = h.length := by
 intro t;have XE : ∀ {t : Ty} {h h' : List Blk} {l l' : List SV} {x : t.den}, ((Eq h t l).map fun q => (q.1, q.2, h)) = some (x, l', h') → h'.length = h.length := by
  intro t h h' l l' x hp;simp only [Option.map_eq_some_iff, Prod.mk.injEq] at hp;obtain ⟨_, _, _, _, e⟩ := hp;rw [e]
 induction t with
 | int k => exact fun hp => XE (t := .int k) hp
 | bool => exact fun hp => XE (t := .bool) hp
 | str => exact fun hp => XE (t := .str) hp
 | unit =>
  intro h h' l l' x hp;simp only [UC, Option.some.injEq, Prod.mk.injEq] at hp;rw [hp.2.2]
 | pair a c iha ihc =>
  intro h h' l l' x hp;simp only [UC] at hp
  split at hp
  ·rename_i y l1 h1 hy
   split at hp
   ·rename_i y2 l2 h2 hy2
    simp only [Option.some.injEq, Prod.mk.injEq] at hp;rw [← hp.2.2];exact (ihc hy2).trans (iha hy)
   ·cases hp
  ·cases hp
 | sl u a _ =>
  cases u with
  | false =>
   intro h h' l l' x hp;exact XE (t := .sl false a) (by simpa only [UC, cond_false] using hp)
  | true =>
   intro h h' l l' x hp;simp only [UC, cond_true] at hp;cases l with
   | nil => cases hp
   | cons c r =>
    simp only at hp;cases hd : Zhi h a c with
    | none => rw [hd] at hp; cases hp
    | some y =>
     rw [hd] at hp;cases c with
     | nil => simp only [Option.some.injEq, Prod.mk.injEq] at hp; rw [hp.2.2]
     | own q v => simp only [Option.some.injEq, Prod.mk.injEq] at hp; rw [← hp.2.2, ZG]
     | sub q v off n => simp only [Option.some.injEq, Prod.mk.injEq] at hp; rw [← hp.2.2, ZG]
     | _ => cases hp
end Go.Sx
namespace Go.Sx
open Go
section
variable {g : G} {rho : Rho} {h : List Blk} {w : World} {z : Z}
theorem ZkU {z : Z} : ∀ (n : Nat) (cs : List Value), cs.length = n → VL z (List.replicate n .dead) cs
 | 0, cs, h => by simp only [List.replicate_zero, VL]; exact List.length_eq_zero_iff.1 h
 | n + 1, [], h => by simp at h
 | n + 1, c :: cs, h => by
  simp only [List.replicate_succ, VL];exact ⟨c, cs, rfl, by simp only [V], ZkU n cs (by simpa using h)⟩
theorem D0 (z : Z) : DZ z [] := fun k hk => by cases hk
theorem ZX.info {r : Option D} {a b : Blk} {v : Nat} {t : Ty} {n : Nat} {d d' : D} (ha : a.info = some (v, t, n)) (hb : b.info = some (v, t, n)) (hs : Kd (some d) (some d')) : ZX (some d) (some d') (some a) (some b) := by
 refine ⟨fun _ => rfl, fun e => ?_, fun v1 t1 n1 h1 => ?_, fun e => ?_⟩
 ·simp only [Option.some.injEq] at e; subst e; cases ha
 ·have h1 : a.info = some (v1, t1, n1) := h1
  rw [ha] at h1;cases h1;exact .inr ⟨v, t, n, hb, .inr ⟨rfl, rfl, rfl, hs⟩⟩
 ·rcases e with e | ⟨c, e⟩ <;> (simp only [Option.some.injEq] at e; subst e; cases ha)
theorem ZiC (m : Mid g rho h w z) {b v i : Nat} {a : Ty} {xs : List a.den} {y : a.den} {d0 : D} (hb : nth z.h b = some (.arr v a xs)) (hr : z.rho b = some d0) (hy : nth xs i = some y) (hu : a.okU = true) :
  ∃ (rho' : Rho) (d : D), Mid g rho h w (z.mk2 rho' (HC z.h b v a xs i y).2) ∧ Ext z (z.mk2 rho' (HC z.h b v a xs i y).2) ∧
   nth (HC z.h b v a xs i y).2 b = some (.opn v a xs i (HC z.h b v a xs i y).1) ∧ rho' b = some d := by
 have hsim := m.iz.sim b d0 hr;rw [hb] at hsim;obtain ⟨A, cap, S, rfl, hTR, hpos⟩ := hsim;obtain ⟨A1, cap1, k1, k2, k3⟩ := hTR;simp only [List.cons.injEq, and_true, Value.slice.injEq] at k1;obtain ⟨rfl, _, rfl⟩ := k1;simp only [Bool.and_self, if_true] at k3;have hlt := BU hy;cases A with
 | none =>
  obtain ⟨rfl, _, _⟩ := k3;simp at hlt
 | some ad =>
  obtain ⟨hsp, inner, S', rfl, hba, hrep⟩ := k3;obtain ⟨c1, c, c2, S1, Sy, S2, rfl, rfl, r1, r2, r3⟩ := Ye.at i hrep hy;have hnd := m.iz.nodup b _ hr (by rw [hb]; trivial);simp only [D.blks] at hnd;have hlb : live (nth z.h b) := by rw [hb]; trivial
  have hclen := r2.len
  -- the block is opened
  have T := m.turn (d1 := .s (some ad) cap (ad.block :: (S1 ++ S2))) (nb := .opn v a xs i (List.replicate a.size .dead)) (w' := z.w) (S := []) hr hlb (D0 z) (fun k hk => by cases hk) (Nat.le_refl _)
   (fun _ _ _ => rfl) (fun k hk => .inl (by
    simp only [D.blks, List.mem_cons, List.mem_append] at hk ⊢;rcases hk with e | e | e
    ·exact .inl e
    ·exact .inr (.inl e)
    ·exact .inr (.inr (.inr e)))) (by
    refine hnd.sublist ?_;exact List.Sublist.cons_cons _ ((List.Sublist.refl _).append (List.sublist_append_right _ _))) (by
    rw [hb];exact ZX.info (r := none) rfl rfl (fun A' cap' S' e => by cases e; exact ⟨_, rfl⟩)) (Frz.refl _) (fun he => by
    have hw : ∀ k : Nat, (z.w.heap[k]? : Option Obj) = z.w.heap[k]? := fun _ => rfl;exact ⟨ad, cap, c1, c, c2, S1, S2, rfl, hsp, hlt, k2, hba, r1, ZkU _ _ hclen, hclen, r3, hpos⟩)
  obtain ⟨m1, e1⟩ := T
  -- its lists are blocks
  have hfree : DZ (⟨z.im, z.w, Yk z.rho b (.s (some ad) cap (ad.block :: (S1 ++ S2))), upd z.h b (.opn v a xs i (List.replicate a.size .dead))⟩ : Z) Sy := by
   intro k hk;have hko : k ∈ (D.s (some ad) cap (ad.block :: (S1 ++ (Sy ++ S2)))).blks := by simp [D.blks, hk]
   refine ⟨m.iz.sep b _ hr hlb k hko, fun b' d' h1 h2 h3 => ?_⟩;have h1 : Yk z.rho b (.s (some ad) cap (ad.block :: (S1 ++ S2))) b' = some d' := h1;have h2 : live (nth (upd z.h b (.opn v a xs i (List.replicate a.size .dead))) b') := h2
   by_cases e : b' = b
   ·subst e
    simp only [Yk, if_pos] at h1;cases h1;simp only [D.blks, List.mem_cons, List.mem_append] at h3;have n0 := List.nodup_cons.1 hnd;have n1 := List.nodup_append.1 n0.2;have n2 := List.nodup_append.1 n1.2.1;rcases h3 with h3 | h3 | h3
    ·subst h3; exact n0.1 (by simp [hk])
    ·exact n1.2.2 k h3 k (by simp [hk]) rfl
    ·exact n2.2.2 k hk k h3 rfl
   ·simp only [Yk, if_neg e] at h1
    rw [ZM (Ne.symm e)] at h2;exact m.iz.disj b' b d' _ h1 hr h2 hlb e k h3 hko
  have hSy : ∀ k ∈ Sy, (UX rho h k ∨ w.heap.size ≤ k) ∧ k < z.w.heap.size := fun k hk => m.own b _ hr hlb k (by simp [D.blks, hk]);have hndy : Sy.Nodup := by
   have n0 := List.nodup_cons.1 hnd;have n1 := List.nodup_append.1 n0.2;exact (List.nodup_append.1 n1.2.1).1
  obtain ⟨r2', gr, hvl⟩ := ZiB a (z := ⟨z.im, z.w, Yk z.rho b (.s (some ad) cap (ad.block :: (S1 ++ S2))), upd z.h b (.opn v a xs i (List.replicate a.size .dead))⟩) m1.iz y c Sy hu r2 hndy hfree;have m2 := m1.grow gr hSy;have hblt : b < (upd z.h b (.opn v a xs i (List.replicate a.size .dead))).length := by rw [ZG]; exact BU hb
  have hold := gr.old b hblt;have hnb2 : nth (Vj a y (upd z.h b (.opn v a xs i (List.replicate a.size .dead)))).2 b = some (.opn v a xs i (List.replicate a.size .dead)) := hold.1.trans (ZW hb);have hrb2 : r2' b = some (.s (some ad) cap (ad.block :: (S1 ++ S2))) := hold.2.trans Z7;have hs2 := m2.iz.sim b _ hrb2;rw [show nth ((⟨z.im, z.w, Yk z.rho b (.s (some ad) cap (ad.block :: (S1 ++ S2))), upd z.h b (.opn v a xs i (List.replicate a.size .dead))⟩ : Z).mk2 r2' (Vj a y (upd z.h b (.opn v a xs i (List.replicate a.size .dead)))).2).h b = _ from hnb2] at hs2;have hlb2 : live (nth ((⟨z.im, z.w, Yk z.rho b (.s (some ad) cap (ad.block :: (S1 ++ S2))), upd z.h b (.opn v a xs i (List.replicate a.size .dead))⟩ : Z).mk2 r2' (Vj a y (upd z.h b (.opn v a xs i (List.replicate a.size .dead)))).2).h b) := by
   rw [show nth ((⟨z.im, z.w, Yk z.rho b (.s (some ad) cap (ad.block :: (S1 ++ S2))), upd z.h b (.opn v a xs i (List.replicate a.size .dead))⟩ : Z).mk2 r2' (Vj a y (upd z.h b (.opn v a xs i (List.replicate a.size .dead)))).2).h b = _ from hnb2];trivial
  have T2 := m2.turn (d1 := .s (some ad) cap (ad.block :: (S1 ++ S2))) (nb := .opn v a xs i (Vj a y (upd z.h b (.opn v a xs i (List.replicate a.size .dead)))).1) (w' := z.w) (S := []) hrb2 hlb2 (D0 _) (fun k hk => by cases hk) (Nat.le_refl _)
   (fun _ _ _ => rfl) (fun k hk => .inl hk) (m2.iz.nodup b _ hrb2 hlb2) (by
    rw [show nth ((⟨z.im, z.w, Yk z.rho b (.s (some ad) cap (ad.block :: (S1 ++ S2))), upd z.h b (.opn v a xs i (List.replicate a.size .dead))⟩ : Z).mk2 r2' (Vj a y (upd z.h b (.opn v a xs i (List.replicate a.size .dead)))).2).h b = _ from hnb2];exact ZX.info (r := none) rfl rfl (Kd.refl _)) (Frz.refl _) (fun he =>
    ⟨ad, cap, c1, c, c2, S1, S2, rfl, hsp, hlt, k2, hba, r1, VL.ext he _ _ hvl, hclen, r3, hpos⟩)
  obtain ⟨m3, e3⟩ := T2;exact ⟨Yk r2' b (.s (some ad) cap (ad.block :: (S1 ++ S2))), _, m3, (e1.trans gr.ext).trans e3, ZW hnb2, Z7⟩
theorem ZfA (m : Mid g rho h w z) (b : Nat) : ∃ rho', Mid g rho h w (z.mk2 rho' (Es z.h b)) ∧ Ext z (z.mk2 rho' (Es z.h b)) := by
 have stay : Es z.h b = z.h → ∃ rho', Mid g rho h w (z.mk2 rho' (Es z.h b)) ∧ Ext z (z.mk2 rho' (Es z.h b)) := by
  intro e;rw [e];exact ⟨z.rho, m, Ext.refl _⟩
 unfold Es
 split
 ·rename_i v t xs i c hb
  split
  ·rename_i y h' hp
   have harr := HN t hp;have hoff : Off z.h h' := Zjz (M7 t hp) harr;have hlent := PK harr;have hkeep : nth h' b = some (.opn v t xs i c) := by
    rcases harr b with e | ⟨_, v1, s1, y1, e⟩
    ·rw [e]; exact hb
    ·rw [hb] at e; cases e
   cases hr : z.rho b with
   | none =>
    obtain ⟨m2, e2⟩ := (m.off hoff).turn0 (b := b) (nb := .arr v t (upd xs i y)) hr (by
     rw [show nth (z.withH h').h b = _ from hkeep];refine ⟨fun _ => rfl, fun e => (by cases e), fun v1 t1 n1 h1 => ?_, fun e => by rcases e with e | ⟨_, e⟩ <;> cases e⟩;simp only [Kb, Blk.info, Option.some.injEq, Prod.mk.injEq] at h1;obtain ⟨rfl, rfl, rfl⟩ := h1;exact .inr ⟨v, t, xs.length, by simp [Kb, Blk.info, ZG], .inr ⟨rfl, rfl, rfl, Kd.refl _⟩⟩)
    exact ⟨z.rho, m2, (X6 hoff).trans e2⟩
   | some d0 =>
    have hsim := m.iz.sim b d0 hr;rw [hb] at hsim;obtain ⟨ad, cap, c1, cs, c2, S1, S2, rfl, hsp, hlt, hcap, hba, r1, hvl, hcl, r3, hpos⟩ := hsim;obtain ⟨d1, d2, Sy, e1, hty, hndy, _, hwent, hrest⟩ := ZdW t m.iz c [] cs y h' hvl hp;simp only [VL] at hrest;subst hrest;rw [List.append_nil] at e1;subst e1;have m1 := m.off hoff;obtain ⟨hfree, hown⟩ := m.went hoff hwent hlent;have hlb : live (nth (z.withH h').h b) := by rw [show nth (z.withH h').h b = _ from hkeep]; trivial
    have hndb := m1.iz.nodup b _ hr hlb;simp only [D.blks] at hndb;have hnot : ∀ k ∈ Sy, k ∉ ad.block :: (S1 ++ S2) := fun k hk hm => (hfree k hk).2 b _ hr hlb hm;obtain ⟨m2, e2⟩ := m1.turn (b := b) (d1 := .s (some ad) cap (ad.block :: (S1 ++ (Sy ++ S2)))) (nb := .arr v t (upd xs i y)) (w' := z.w) (S := Sy) hr hlb hfree hown (Nat.le_refl _) (fun _ _ _ => rfl)
     (fun k hk => by
      simp only [D.blks, List.mem_cons, List.mem_append] at hk ⊢;rcases hk with q | q | q | q
      ·exact .inl (.inl q)
      ·exact .inl (.inr (.inl q))
      ·exact .inr (.inl q)
      ·exact .inl (.inr (.inr q))) (by
      have n0 := List.nodup_cons.1 hndb;have n1 := List.nodup_append.1 n0.2;simp only [D.blks];refine List.nodup_cons.2 ⟨fun hm => ?_, List.nodup_append.2 ⟨n1.1, List.nodup_append.2 ⟨hndy, n1.2.1, fun x hx y hy e => ?_⟩, fun x hx y hy e => ?_⟩⟩
      ·simp only [List.mem_append] at hm
       rcases hm with q | q | q
       ·exact n0.1 (by simp [q])
       ·exact hnot _ q (by simp)
       ·exact n0.1 (by simp [q])
      ·subst e; exact hnot x hx (by simp [hy])
      ·subst e
       rcases List.mem_append.1 hy with q | q
       ·exact hnot x q (by simp [hx])
       ·exact n1.2.2 x hx x q rfl) (by
      rw [show nth (z.withH h').h b = _ from hkeep];exact ZX.info (r := none) (v := v) (t := t) (n := xs.length) rfl (by simp [Blk.info, ZG]) (fun A' cap' S' e => by cases e; exact ⟨_, rfl⟩)) (Frz.refl _) (fun he => by
      refine ⟨some ad, cap, _, rfl, ⟨some ad, cap, by rw [ZG], by rw [ZG]; exact hcap, ?_⟩, hpos⟩;simp only [Bool.and_self, if_true];exact ⟨hsp, _, _, rfl, hba, Ye.glue hlt r1 hty r3⟩)
    exact ⟨_, m2, (X6 hoff).trans e2⟩
  ·exact ⟨z.rho, m, Ext.refl _⟩
 ·exact ⟨z.rho, m, Ext.refl _⟩
theorem ZfB : ∀ (l : List Nat) {z : Z} (_ : Mid g rho h w z), ∃ rho', Mid g rho h w (z.mk2 rho' (Zfl z.h l)) ∧ Ext z (z.mk2 rho' (Zfl z.h l))
 | [], z, m => ⟨z.rho, m, Ext.refl _⟩
 | b :: l, z, m => by
  obtain ⟨r1, m1, e1⟩ := ZfA m b;obtain ⟨r2, m2, e2⟩ := ZfB l m1;exact ⟨r2, m2, e1.trans e2⟩
theorem ZhH {g : G} {rho : Rho} {h : List Blk} {w : World} (hi : Inv g rho h w) : ∃ rho', Inv g rho' (O9 h) w ∧ Ext (zOf g rho h w) (zOf g rho' (O9 h) w) := by
 obtain ⟨r, m, e⟩ := ZfB (ZqU 0 h.length) (Mid.start hi);obtain ⟨i2, e2⟩ := m.done hi;exact ⟨r, i2, e.trans e2⟩
theorem Zd0 {z : Z} {b v i off : Nat} {t : Ty} {n : Nat} {c : Value} (hv : V z (.eptr b v i off) c) (hb : Kb (nth z.h b) = some (v, t, n)) :
  i < n ∧ ∃ ad cap S, z.rho b = some (.s (some ad) cap S) ∧ c = .pointer (some ⟨ad.block, ad.off + i * t.size + off, none⟩) := by
 simp only [V] at hv;exact (hv.2.2 v t n hb).2 rfl
end
section
variable {R : Type} {P : Program} {E : Env} {o : Oper} {gt : Operand → SV} {h : List Blk}
theorem ZfC {z : Z} {b v i off : Nat} {a : Ty} {xs : List a.den} {c : List SV} {d : D} (hs : Ev z d (some (.opn v a xs i c))) {cv : Value} (hr : z.rho b = some d) (hb : nth z.h b = some (.opn v a xs i c)) (hv : V z (.eptr b v i off) cv) (n : Nat) :
  ∃ (ad : Addr) (cs : List Value), cv = .pointer (some ⟨ad.block, ad.off + off, none⟩) ∧ VL z c cs ∧ VS z.w ⟨ad.block, ad.off + off, none⟩ ((cs.drop off).take n) := by
 obtain ⟨ad, cap, c1, cs, c2, S1, S2, rfl, hsp, hlt, hcap, hba, r1, hvl, hcl, r3, hpos⟩ := hs;obtain ⟨_, ad', cap', S', h1, h2⟩ := Zd0 hv (by rw [hb]; rfl);rw [hr] at h1;cases h1;have hc1 : c1.length = i * a.size := by
  have := Ye.len (fun _ _ _ hr => hr.len) r1;rw [this, List.length_take, Nat.min_eq_left (Nat.le_of_lt hlt)]
 refine ⟨⟨ad.block, ad.off + i * a.size, none⟩, cs, h2, hvl, ?_⟩;have hrd := (VS.of_block hba).part (i * a.size) a.size;have e : ((c1 ++ (cs ++ c2)).drop (i * a.size)).take a.size = cs := by
  rw [← hc1, List.drop_left, ← hcl, List.take_left]
 rw [e] at hrd;exact hrd.part off n
theorem ZkV {a : Act} {w : World} {next : Act → World → Prop} {Q : Exit → Act → World → Prop} {t : TypeId} {x : Operand} {cv : Value} (ho : o.op = .load t x) (hrun : (Instr.loadAt t (a.eval x)).run P w = .ok cv w) (hn : next (a.put o.dst cv) w) : o.wp P a w next Q := by
 unfold Oper.wp;have : (execOp a.eval o).run P w = .ok (.value cv) w := by
  unfold execOp;rw [ho];show ((Instr.loadAt t (a.eval x) >>= fun v => pure (.value v)) : Sem Next).run P w = _;rw [run_bind_ok hrun];rfl
 rw [this];exact hn
theorem ZmW (hE : EnvOk0 P E) {t : TypeId} {ty : Ty} {x : Operand} {K : SV → List Blk → Option R} {r : R} (ho : o.op = .load t x) (ht : E.ty t = some ty)
  (he : Zhr h ty (gt x) K = some r) : ∃ v h', Z2 P o gt h v h' ∧ K v h' = some r := by
 have hx1 : x ∈ o.op.operands.toList := by rw [ho]; simp [Op.operands]
 have plain : UV h ty (gt x) (fun x => K x h) = some r → ∃ v h', Z2 P o gt h v h' ∧ K v h' = some r := by
  intro he;obtain ⟨v, h1, h2⟩ := Zhy hE ho ht he;exact ⟨v, h, h1, h2⟩
 unfold Zhr at he
 split at he
 ·rename_i b v i off hg
  split at he
  ·rename_i v' a xs hb
   split at he
   ·rename_i e
    subst e;cases hc : a.noUq with
    | true =>
     rw [hc] at he;simp only [cond_true] at he;exact plain he
    | false =>
     rw [hc] at he;simp only [cond_false] at he;cases hu : a.okU with
     | false => rw [hu] at he; cases he
     | true =>
      rw [hu] at he;simp only [cond_true] at he;obtain ⟨y, hy, he⟩ := bind_some he;obtain ⟨v1, k1, hlen, k2⟩ := J8 he;refine ⟨v1, _, fun g ac w rho hi hv next Q hn => ?_, k1⟩;have hvx := hv x hx1;have hvx' := hvx;rw [hg] at hvx;obtain ⟨hlt, ad0, cap0, S0, h3, h4⟩ := PH (z := zOf g rho h w) hvx hb rfl;obtain ⟨rho', d, m, e1, e2, e3⟩ := ZiC (Mid.start hi) hb h3 hy hu;obtain ⟨i2, x2⟩ := m.done hi;have hext := e1.trans x2;have hs := i2.sim b d e3;have e2' : nth (zOf g rho' (HC h b v' a xs i y).2 w).h b = some (.opn v' a xs i (HC h b v' a xs i y).1) := e2;have hs' : Ev (zOf g rho' (HC h b v' a xs i y).2 w) d (some (.opn v' a xs i (HC h b v' a xs i y).1)) := e2 ▸ hs;obtain ⟨ad, cs, q1, q2, q3⟩ := ZfC (z := zOf g rho' (HC h b v' a xs i y).2 w) hs' e3 e2' (V.ext hext _ _ hvx) ty.size;have hcut := q2.cut off ty.size;refine ZkV ho (by rw [q1]; exact VW hE ht rfl (by rw [← hcut.length]; exact hlen) q3) (hn _ w rho' i2 (k2 g w rho' _ i2 hcut) hext)
   ·cases he
  ·rename_i v' a xs j c hb
   split at he
   ·rename_i e
    subst e
    split at he
    ·rename_i e
     subst e;obtain ⟨v1, k1, hlen, k2⟩ := J8 he;refine ⟨v1, h, fun g ac w rho hi hv next Q hn => ?_, k1⟩;have hvx := hv x hx1;rw [hg] at hvx;obtain ⟨_, ad0, cap0, S0, h3, _⟩ := Zd0 (z := zOf g rho h w) hvx (t := a) (n := xs.length) (by rw [show nth (zOf g rho h w).h b = _ from hb]; rfl);have hs := hi.sim b _ h3;rw [hb] at hs;obtain ⟨ad, cs, q1, q2, q3⟩ := ZfC (z := zOf g rho h w) hs h3 hb hvx ty.size;have hcut := q2.cut off ty.size;exact ZkV ho (by rw [q1]; exact VW hE ht rfl (by rw [← hcut.length]; exact hlen) q3) (hn _ w rho hi (k2 g w rho _ hi hcut) (Ext.refl _))
    ·cases he
   ·cases he
  ·cases he
 ·exact plain he
theorem ZmX (hE : EnvOk0 P E) {t : TypeId} {ty : Ty} {x : Operand} {K : SV → List Blk → Option R} {r : R} (ho : o.op = .load t x) (ht : E.ty t = some ty)
  (he : LE h ty (gt x) K = some r) : ∃ v h', Z2 P o gt h v h' ∧ K v h' = some r := by
 unfold LE at he;cases hs : ty.hasSl with
 | true => rw [hs] at he; exact ZmW hE ho ht he
 | false =>
  rw [hs] at he;obtain ⟨v, h1, h2⟩ := Zhy hE ho ht he;exact ⟨v, h, h1, h2⟩
theorem ZmY {c1 cs c2 ds : List Value} {off : Nat} (h : off + ds.length ≤ cs.length) : put1 (c1 ++ (cs ++ c2)) (c1.length + off) ds = c1 ++ (put1 cs off ds ++ c2) := by
 apply List.ext_getElem?;intro n;rw [XK (by simp; omega)];have hl := Wi (all := cs) (o := off) (cs := ds) h
 by_cases h1 : n < c1.length
 ·rw [if_pos (by omega), List.getElem?_append_left h1, List.getElem?_append_left h1]
 ·rw [List.getElem?_append_right (show c1.length ≤ n by omega), List.getElem?_append_right (l₁ := c1) (l₂ := put1 cs off ds ++ c2) (show c1.length ≤ n by omega)]
  by_cases h2 : n - c1.length < cs.length
  ·rw [List.getElem?_append_left h2, List.getElem?_append_left (l₁ := put1 cs off ds) (show n - c1.length < (put1 cs off ds).length by omega), XK h]
   by_cases h3 : n - c1.length < off
   ·rw [if_pos (by omega), if_pos h3]
   ·rw [if_neg (by omega), if_neg h3]
    by_cases h4 : n - c1.length < off + ds.length
    ·rw [if_pos (by omega), if_pos h4]; congr 1; omega
    ·rw [if_neg (by omega), if_neg h4]
  ·rw [if_neg (by omega), if_neg (by omega), List.getElem?_append_right (l₁ := cs) (show cs.length ≤ n - c1.length by omega), List.getElem?_append_right (l₁ := put1 cs off ds) (show (put1 cs off ds).length ≤ n - c1.length by omega)]
   rw [hl]
theorem ZjA {g : G} {rho : Rho} {h : List Blk} {w : World} {z : Z} (lz : Bool) (m : Mid g rho h w z) (b : Nat) : ∃ rho', Mid g rho h w ⟨z.im, z.w, rho', Px lz z.h b⟩ ∧ Ext z ⟨z.im, z.w, rho', Px lz z.h b⟩ := by
 cases lz with
 | true => exact ⟨z.rho, m, Ext.refl _⟩
 | false => exact ZfA m b
theorem ZfD {lz : Bool} {g : G} {rho : Rho} {w : World} {z : Z} (hE : EnvOk0 P E) (m : Mid g rho h w z) {t : TypeId} {ty : Ty} (ht : E.ty t = some ty) {b v i off : Nat} {a : Ty} {xs : List a.den} {c d : List SV} {d0 : D} {cv : Value} {pv : Value}
  (hb : nth z.h b = some (.opn v a xs i c)) (hr : z.rho b = some d0) (hv : VL z d cv.cells.toList) (hc : Yt d = true) (hp : V z (.eptr b v i off) pv) (hlen : d.length = ty.size) (hfit : off + d.length ≤ c.length) :
  ∃ (w' : World) (rho' : Rho), (Instr.storeAt t pv cv).run P z.w = .ok () w' ∧ Mid g rho h w ⟨z.im, w', rho', Px lz (upd z.h b (.opn v a xs i (QA c off d))) b⟩ ∧
   Ext z ⟨z.im, w', rho', Px lz (upd z.h b (.opn v a xs i (QA c off d))) b⟩ := by
 have hsim := m.iz.sim b d0 hr;rw [hb] at hsim;obtain ⟨ad, cap, c1, cs, c2, S1, S2, rfl, hsp, hlt, hcap, hba, r1, hvl, hcl, r3, hpos⟩ := hsim;obtain ⟨_, ad', cap', S', h1, h2⟩ := Zd0 hp (by rw [hb]; rfl);rw [hr] at h1;cases h1;have hc1 : c1.length = i * a.size := by
  have := Ye.len (fun _ _ _ hr => hr.len) r1;rw [this, List.length_take, Nat.min_eq_left (Nat.le_of_lt hlt)]
 have hc2 : c2.length = (xs.length - (i + 1)) * a.size := by
  have := Ye.len (fun _ _ _ hr => hr.len) r3;rw [this, List.length_drop]
 have hdl := hv.length;have hcc := hvl.length;have htot : (c1 ++ (cs ++ c2)).length ≤ cap * a.size := by
  simp only [List.length_append, hc1, hc2, hcl];have : i * a.size + (a.size + (xs.length - (i + 1)) * a.size) = xs.length * a.size := by
   rw [← Nat.add_assoc, ← Nat.succ_mul, ← Nat.add_mul]; congr 1; omega
  rw [this];exact Nat.mul_le_mul_right _ hcap
 have hfit' : off + cv.cells.toList.length ≤ cs.length := by omega
 obtain ⟨all, e, n1, n2, n3⟩ := hba.put (o := c1.length + off) (ds := cv.cells.toList) (by simp only [List.length_append]; omega) htot;rw [ZmY hfit'] at n3;have hlb : live (nth z.h b) := by rw [hb]; trivial
 have hnd := m.iz.nodup b _ hr hlb;simp only [D.blks] at hnd;obtain ⟨m1, e1⟩ := m.turn (b := b) (d1 := .s (some ad) cap (ad.block :: (S1 ++ S2))) (nb := .opn v a xs i (QA c off d)) (w' := Yb z.w ad.block (.cells (put1 all (ad.off + (c1.length + off)) cv.cells.toList).toArray e (0, 0))) (S := []) hr hlb (D0 z) (fun k hk => by cases hk)
  (by rw [Ww]; exact Nat.le_refl _) (fun k _ hnk => WY (by intro ek; subst ek; exact hnk (by simp [D.blks]))) (fun k hk => .inl hk) hnd (by rw [hb]; exact ZX.info (r := none) rfl rfl (Kd.refl _)) LH (fun he => by
   have hne : ∀ k, k ∈ S1 ∨ k ∈ S2 → (Yb z.w ad.block (.cells (put1 all (ad.off + (c1.length + off)) cv.cells.toList).toArray e (0, 0))).heap[k]? = z.w.heap[k]? := fun k hk => WY (by
    intro ek;subst ek;exact (List.nodup_cons.1 hnd).1 (List.mem_append.2 hk))
   exact ⟨ad, cap, c1, put1 cs off cv.cells.toList, c2, S1, S2, rfl, hsp, hlt, hcap, n3, r1.imp (fun x c S hs hr => hr.mono he.im _ _ _ _ _ (fun k hk => hne k (.inl (hs k hk)))),
    VL.ext he _ _ (hvl.put1 hv), by rw [Wi hfit']; exact hcl, r3.imp (fun x c S hs hr => hr.mono he.im _ _ _ _ _ (fun k hk => hne k (.inr (hs k hk)))), hpos⟩)
 obtain ⟨r2, m2, e2⟩ := ZjA lz m1 b;refine ⟨_, r2, ?_, m2, e1.trans e2⟩;rw [h2];have := FR (P := P) (ad := ⟨ad.block, ad.off + i * a.size + off, none⟩) (c := cv) hE ht rfl n1 rfl (by omega) (by simp only; omega) (VL.one hv hc);rw [hc1];simp only [Nat.add_assoc] at this ⊢;exact this
theorem ZkW {lz : Bool} (hE : EnvOk0 P E) {t : TypeId} {ty : Ty} {p x : Operand} {K : List Blk → Option R} {r : R} (ho : o.op = .store t p x) (ht : E.ty t = some ty)
  (he : Zco lz h ty (gt p) (gt x) K = some r) : ∃ h', Z2 P o gt h (.tup []) h' ∧ K h' = some r := by
 have hp1 : p ∈ o.op.operands.toList := by rw [ho]; simp [Op.operands]
 have hx1 : x ∈ o.op.operands.toList := by rw [ho]; simp [Op.operands]
 unfold Zco at he
 split at he
 ·rename_i b v i off hg
  split at he
  ·rename_i v' a xs hb
   split at he
   ·rename_i e
    subst e;cases hc : a.noUq with
    | true =>
     rw [hc] at he;exact ZdP hE ho ht he
    | false =>
     rw [hc] at he;simp only [cond_false] at he
     split at he
     ·cases he
     ·rename_i d hd
      cases hcond : (Nat.beq d.length ty.size && a.okU) with
      | false => rw [hcond] at he; cases he
      | true =>
       rw [hcond] at he;simp only [cond_true] at he;simp only [Bool.and_eq_true] at hcond;obtain ⟨hl, hu⟩ := hcond;have hlen := Nat.eq_of_beq_eq_true hl;obtain ⟨y, hy, he⟩ := bind_some he;simp only [Py] at he;cases hle : Nat.ble (off + d.length) (HC h b v' a xs i y).1.length with
       | false => rw [hle] at he; cases he
       | true =>
        rw [hle] at he;simp only [cond_true] at he;have he := M0 he;refine ⟨_, fun g ac w rho hi hv next Q hn => ?_, he⟩;have hvp := hv p hp1;rw [hg] at hvp;obtain ⟨hlt, ad0, cap0, S0, h3, h4⟩ := PH (z := zOf g rho h w) hvp hb rfl;obtain ⟨rho', d', m, e1, e2, e3⟩ := ZiC (Mid.start hi) hb h3 hy hu;obtain ⟨hf1, hf2⟩ := BW (hv x hx1) hd;obtain ⟨w', rho2, s1, s2, s3⟩ := ZfD hE m ht e2 e3 (VL.ext e1 _ _ hf1) hf2 (V.ext e1 _ _ hvp) hlen (Nat.le_of_ble_eq_true hle);obtain ⟨i2, x2⟩ := s2.done hi;refine DY ⟨t, p, x, ho, trivial⟩ (fun t' x' y' ho' => ?_) (hn undef w' rho2 i2 FO ((e1.trans s3).trans x2));rw [ho] at ho';cases ho';exact s1
   ·cases he
  ·rename_i v' a xs j c hb
   split at he
   ·rename_i e
    subst e
    split at he
    ·rename_i e
     subst e
     split at he
     ·cases he
     ·rename_i d hd
      cases hl : Nat.beq d.length ty.size with
      | false => rw [hl] at he; cases he
      | true =>
       rw [hl] at he;simp only [cond_true, Py] at he;have hlen := Nat.eq_of_beq_eq_true hl;cases hle : Nat.ble (off + d.length) c.length with
       | false => rw [hle] at he; cases he
       | true =>
        rw [hle] at he;simp only [cond_true] at he;have he := M0 he;refine ⟨_, fun g ac w rho hi hv next Q hn => ?_, he⟩;have hvp := hv p hp1;rw [hg] at hvp;obtain ⟨_, ad0, cap0, S0, h3, _⟩ := Zd0 (z := zOf g rho h w) hvp (t := a) (n := xs.length) (by rw [show nth (zOf g rho h w).h b = _ from hb]; rfl);obtain ⟨hf1, hf2⟩ := BW (hv x hx1) hd;obtain ⟨w', rho2, s1, s2, s3⟩ := ZfD hE (Mid.start hi) ht hb h3 hf1 hf2 hvp hlen (Nat.le_of_ble_eq_true hle);obtain ⟨i2, x2⟩ := s2.done hi;refine DY ⟨t, p, x, ho, trivial⟩ (fun t' x' y' ho' => ?_) (hn undef w' rho2 i2 FO (s3.trans x2));rw [ho] at ho';cases ho';exact s1
    ·cases he
   ·cases he
  ·cases he
 ·exact ZdP hE ho ht he
end
end Go.Sx
