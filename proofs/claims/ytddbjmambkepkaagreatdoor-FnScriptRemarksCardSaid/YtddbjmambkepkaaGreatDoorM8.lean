/- A function's evaluation is a contract: the end. -/
import Derived.Test.YtddbjmambkepkaaGreatDoorM7
import Derived.Laws.Sem
import Derived.Laws.StructEq
import Derived.KernelRfl
import Derived.ProofKit
import Derived.JoinedOf
import Derived.OpenShut
set_option linter.unusedVariables false
set_option linter.unusedSimpArgs false
namespace Go.Sx
open Go
theorem Zj3 {P : Program} {E : Env} (hE : EnvOk0 P E) {g : G} {rho : Rho} {s : St} {a : Act} {w : World} (hs : Sim g rho s a w) {x : Tmp} {t : TypeId} {v : SV} (h : ZhS E s x t = some v) :
  ∃ cv, ((do loadVar t (← asAddr (a.tmps.getD x undef))) : Sem Value).run P w = .ok cv w ∧ V (zOf g rho s.heap w) v cv := by
 unfold ZhS at h
 split at h
 ·rename_i ty ht
  split at h
  ·rename_i b off hg
   split at h
   ·rename_i c hb
    obtain ⟨v', h1, h2, h3⟩ := J8 h;cases h1;have hv := ZfJ hs (.tmp x);rw [hg] at hv;obtain ⟨blk, h4, h5⟩ := Zhx (z := zOf g rho s.heap w) hv hb;have hsim := hs.inv.sim b _ h4;rw [hb] at hsim;obtain ⟨blk', cs, e, k1, k2, k3⟩ := hsim;cases k1;have hcut := k3.cut off ty.size;have h5 : a.tmps.getD x undef = .pointer (some ⟨blk, off, none⟩) := h5;rw [h5];refine ⟨_, VW hE ht rfl (by rw [← hcut.length]; exact h2) ?_, h3 g w rho _ hs.inv hcut⟩;have : VS w ⟨blk, 0, none⟩ cs := by
     intro j c' hj;have hk2 : w.heap[blk]? = _ := k2;simp only [World.cell?, hk2, Option.isSome_none, Bool.false_eq_true, if_false, Nat.zero_add];simpa using hj
    simpa using this.part off ty.size
   ·cases h
  ·cases h
 ·cases h
theorem ZhU {P : Program} {E : Env} (hE : EnvOk0 P E) {g : G} {rho : Rho} {s : St} {a : Act} {w : World} (hs : Sim g rho s a w) (f : ResultVar → Sem Value) (f1 : ∀ t, f (.tmp t) = pure (a.tmps.getD t undef)) (f2 : ∀ x t, f (.cell x t) = (do loadVar t (← asAddr (a.tmps.getD x undef)))) :
  ∀ (l : List ResultVar) {vs : List SV}, ZnR E s l = some vs → ∃ cvs, (l.mapM f : Sem (List Value)).run P w = .ok cvs w ∧ VL (zOf g rho s.heap w) vs cvs
 | [], vs, h => by simp only [ZnR, Option.some.injEq] at h; subst h; exact ⟨[], rfl, by simp [VL]⟩
 | .tmp t :: l, vs, h => by
  simp only [ZnR] at h
  split at h
  ·rename_i r hr
   simp only [Option.some.injEq] at h;subst h;obtain ⟨cvs, h1, h2⟩ := ZhU hE hs f f1 f2 l hr;refine ⟨a.tmps.getD t undef :: cvs, ?_, ?_⟩
   ·rw [List.mapM_cons, f1, Sx.run_bind_ok (a := a.tmps.getD t undef) (w' := w) rfl, Sx.run_bind_ok h1]
    rfl
   ·simp only [VL]
    exact ⟨a.tmps.getD t undef, _, rfl, ZfJ hs (.tmp t), h2⟩
  ·cases h
 | .cell x t :: l, vs, h => by
  simp only [ZnR] at h
  split at h
  ·rename_i v hv
   split at h
   ·rename_i r hr
    simp only [Option.some.injEq] at h;subst h;obtain ⟨cv, k1, k2⟩ := Zj3 hE hs hv;obtain ⟨cvs, h1, h2⟩ := ZhU hE hs f f1 f2 l hr;refine ⟨cv :: cvs, ?_, ?_⟩
    ·rw [List.mapM_cons, f2, Sx.run_bind_ok k1, Sx.run_bind_ok h1]
     rfl
    ·simp only [VL]
     exact ⟨_, _, rfl, k2, h2⟩
   ·cases h
  ·cases h
def Zf0 : List Value → Value
 | [x] => x
 | l => .tuple l.toArray
theorem ZhV {P : Program} {E : Env} (hE : EnvOk0 P E) {g : G} {rho : Rho} {s : St} {a : Act} {w : World} (hs : Sim g rho s a w) {fn : Func} {vs : List SV} (h : ZnR E s fn.results.toList = some vs) :
  ∃ cvs, (results fn a.tmps).run P w = .ok (Zf0 cvs) w ∧ VL (zOf g rho s.heap w) vs cvs := by
 have conv : ∀ (x : Sem (List Value)) (f : Array Value → Sem Value) (l : List Value), x.run P w = .ok l w → ((List.toArray <$> x) >>= f).run P w = (f l.toArray).run P w := by
  intro x f l hx;rw [show (List.toArray <$> x) = (x >>= fun a => pure a.toArray) from (bind_pure_comp _ _).symm, bind_assoc, Sx.run_bind_ok hx];rfl
 unfold results;rw [Array.mapM_eq_mapM_toList];obtain ⟨cvs, h1, h2⟩ := ZhU hE hs (fun | .tmp t => pure (a.tmps.getD t undef) | .cell x t => do loadVar t (← asAddr (a.tmps.getD x undef))) (fun _ => rfl) (fun _ _ => rfl) fn.results.toList h;refine ⟨cvs, ?_, h2⟩;refine (conv _ _ _ h1).trans ?_
 match cvs with
 | [] => rfl
 | [x] => rfl
 | x :: y :: l => rfl
inductive BxA (rho : Rho) (h : List Blk) : List Bxk → List LC → Prop
 | nil : BxA rho h [] []
 | box {b blk : Nat} {bs : List Bxk} {blks : List LC} : Bx rho h b blk → BxA rho h bs blks → BxA rho h (.box b :: bs) (.box blk :: blks)
 | arr {b : Nat} {c : Value} {t : Ty} {bs : List Bxk} {blks : List LC} : Ax rho h b c t → BxA rho h bs blks → BxA rho h (.arr b t :: bs) (.arr c t :: blks)
theorem BxA.off {z : Z} {h' : List Blk} {bs : List Bxk} {blks : List LC} (a : BxA z.rho z.h bs blks) (o : Off z.h h') : BxA z.rho h' bs blks := by
 induction a with
 | nil => exact .nil
 | box h1 _ ih => exact .box (h1.le ((X6 o).le _)) ih
 | arr h1 _ ih => exact .arr (h1.le ((X6 o).le _)) ih
theorem ZoF {im : Nat → Prop} {w : World} {rho : Rho} {boxes : List Bxk} {B : List LC} {h0 : List Blk} (hbx : BxA rho h0 boxes B) : ∀ (h : List Blk) {outs : List (List SV)}, IZ ⟨im, w, rho, h⟩ → BxA rho h boxes B → ZoD h boxes = some outs →
  ∃ S, UO im w outs B S ∧ S.Nodup ∧ ∀ k ∈ S, ∃ b d, rho b = some d ∧ live (nth h b) ∧ k ∈ d.blks := by
 induction hbx with
 | nil =>
  intro h outs hi _ he;simp only [ZoD, Option.some.injEq] at he;subst he;exact ⟨[], by simp only [UO], by simp, by simp⟩
 | @arr b c t bs blks _ _ ih =>
  intro h outs hi ha he;cases ha with
  | arr hb ha =>
   simp only [ZoD] at he
   split at he
   ·rename_i v s x hc
    split at he
    ·rename_i hv
     subst hv
     split at he
     ·rename_i y hy
      split at he
      ·rename_i r hr
       simp only [Option.some.injEq] at he;subst he;obtain ⟨e1, e2⟩ := Ez hy;injection e1 with _ e1;subst e1;have e2 : x = y := e2;subst e2;rcases hb with hb | ⟨_, v', t', n', q1, q2⟩
       ·rw [hc] at hb; cases hb
       ·rw [hc] at q1
        simp only [Kb, Blk.info, Option.some.injEq, Prod.mk.injEq] at q1;obtain ⟨rfl, rfl, rfl⟩ := q1;obtain ⟨_, A, cap, S, hrho, rfl⟩ := q2 rfl;have hs : Ev _ (.s A cap S) (nth h b) := hi.sim b _ hrho;rw [hc] at hs;obtain ⟨A', cap', S', k1, k2, k3⟩ := hs;cases k1;have hog := HL (h := h) (b := b) (by rw [hc]; exact Ul);have hi2 := Jn (z := ⟨im, w, rho, h⟩) hi hog;obtain ⟨S2, n1, n2, n3⟩ := ih (upd h b .gone) hi2 (ha.off (z := ⟨im, w, rho, h⟩) hog) hr;have hgone : nth (upd h b .gone) b = some .gone := ZW hc;have live1 : ∀ b', live (nth (upd h b .gone) b') → b' ≠ b ∧ live (nth h b') := by
         intro b' hl';refine ⟨fun e => ?_, X8 hog hl'⟩;subst e; rw [hgone] at hl'; exact hl'
        have hbl : live (nth h b) := by rw [hc]; trivial
        refine ⟨S ++ S2, ?_, List.nodup_append.2 ⟨hi.nodup b _ hrho hbl, n2, fun k hk k' hk' e => ?_⟩, fun k hk => ?_⟩
        ·simp only [UO]
         exact ⟨x, S, S2, rfl, rfl, k2, n1⟩
        ·subst e
         obtain ⟨b', d', q1, q3, q5⟩ := n3 k hk';have := live1 b' q3;exact hi.disj b' b d' _ q1 hrho this.2 hbl this.1 k q5 hk
        ·rcases List.mem_append.1 hk with hk | hk
         ·exact ⟨b, _, hrho, hbl, hk⟩
         ·obtain ⟨b', d', q1, q3, q5⟩ := n3 k hk
          exact ⟨b', d', q1, (live1 b' q3).2, q5⟩
      ·cases he
     ·cases he
    ·cases he
   ·cases he
 | @box b blk bs blks _ _ ih =>
  intro h outs hi ha he;cases ha with
  | box hb ha =>
   simp only [ZoD] at he
   split at he
   ·rename_i c hc
    split at he
    ·rename_i c' h' hp
     split at he
     ·rename_i r hr
      simp only [Option.some.injEq] at he;subst he;have hrho : rho b = some (.v blk) := by
       rcases hb with q | ⟨q, _⟩
       ·rw [hc] at q; cases q
       ·exact q
      have hs : Ev _ (.v blk) (nth h b) := hi.sim b _ hrho;rw [hc] at hs;obtain ⟨blk', cs, e, k1, k2, k3⟩ := hs;cases k1;have hog := HL (h := h) (b := b) (by rw [hc]; exact Jm);have hi2 := Jn (z := ⟨im, w, rho, h⟩) hi hog;obtain ⟨S1, m1, m2, m3, m4⟩ := LN (z := ⟨im, w, rho, upd h b .gone⟩) hi2 rfl c cs c' h' (VL.ext (X6 (z := ⟨im, w, rho, h⟩) hog) _ _ k3) hp;have hi3 := Jn (z := ⟨im, w, rho, upd h b .gone⟩) hi2 m3;have hb3 : BxA rho h' bs blks := BxA.off (z := ⟨im, w, rho, upd h b .gone⟩) (ha.off (z := ⟨im, w, rho, h⟩) hog) m3;obtain ⟨S2, n1, n2, n3⟩ := ih h' hi3 hb3 hr;have hgone : nth (upd h b .gone) b = some .gone := ZW hc;have live1 : ∀ b', live (nth (upd h b .gone) b') → b' ≠ b ∧ live (nth h b') := by
       intro b' hl';refine ⟨fun e => ?_, X8 hog hl'⟩;subst e; rw [hgone] at hl'; exact hl'
      have live2 : ∀ b', live (nth h' b') → live (nth (upd h b .gone) b') := fun b' hl' => X8 m3 hl';have hbl : live (nth h b) := by rw [hc]; trivial
      refine ⟨blk :: (S1 ++ S2), ?_, ?_, ?_⟩
      ·simp only [UO]
       exact ⟨cs, e, S1, S2, rfl, k2, m1, n1⟩
      ·refine List.nodup_cons.2 ⟨fun hm => ?_, List.nodup_append.2 ⟨m2, n2, fun x hx y hy e => ?_⟩⟩
       ·rcases List.mem_append.1 hm with hm | hm
        ·obtain ⟨b', d', q1, q2, _, _, q5⟩ := m4 blk hm
         have := live1 b' q2;exact hi.disj b' b d' _ q1 hrho this.2 hbl this.1 blk q5 (by simp [D.blks])
        ·obtain ⟨b', d', q1, q2, q5⟩ := n3 blk hm
         have := live1 b' (live2 b' q2);exact hi.disj b' b d' _ q1 hrho this.2 hbl this.1 blk q5 (by simp [D.blks])
       ·subst e
        obtain ⟨b1, d1, q1, q2, q3, q4, q5⟩ := m4 x hx;obtain ⟨b2, d2, r1, r2, r5⟩ := n3 x hy;have hne : b1 ≠ b2 := by
         intro e;subst e;rcases q3 with q3 | q3
         ·rw [show nth h' b1 = some .gone from q3] at r2; exact r2
         ·exact q4 (Jo c hp b1 q3)
        exact hi.disj b1 b2 d1 d2 q1 r1 (live1 b1 q2).2 (live1 b2 (live2 b2 r2)).2 hne x q5 r5
      ·intro k hk
       rcases List.mem_cons.1 hk with e | hk
       ·subst e
        exact ⟨b, _, hrho, hbl, by simp [D.blks]⟩
       ·rcases List.mem_append.1 hk with hk | hk
        ·obtain ⟨b', d', q1, q2, _, _, q5⟩ := m4 k hk
         exact ⟨b', d', q1, (live1 b' q2).2, q5⟩
        ·obtain ⟨b', d', q1, q2, q5⟩ := n3 k hk
         exact ⟨b', d', q1, (live1 b' (live2 b' q2)).2, q5⟩
     ·cases he
    ·cases he
   ·cases he
theorem Zj4 : ∀ (t : Ty) {h h' : List Blk} {l l' : List SV} {x : t.den}, UC h t l = some (x, l', h') → ∀ b, Y7 (nth h' b) → Y7 (nth h b) := by
 intro t;have XE : ∀ {t : Ty} {h h' : List Blk} {l l' : List SV} {x : t.den}, ((Eq h t l).map fun q => (q.1, q.2, h)) = some (x, l', h') → ∀ b, Y7 (nth h' b) → Y7 (nth h b) := by
  intro t h h' l l' x hp b hb;simp only [Option.map_eq_some_iff, Prod.mk.injEq] at hp;obtain ⟨_, _, _, _, e⟩ := hp
  rwa [e]
 induction t with
 | int k => exact fun hp => XE (t := .int k) hp
 | bool => exact fun hp => XE (t := .bool) hp
 | str => exact fun hp => XE (t := .str) hp
 | unit =>
  intro h h' l l' x hp b hb;simp only [UC, Option.some.injEq, Prod.mk.injEq] at hp
  rwa [hp.2.2]
 | pair a c iha ihc =>
  intro h h' l l' x hp b hb;simp only [UC] at hp
  split at hp
  ·rename_i y l1 h1 hy
   split at hp
   ·rename_i y2 l2 h2 hy2
    simp only [Option.some.injEq, Prod.mk.injEq] at hp;exact iha hy b (ihc hy2 b (hp.2.2 ▸ hb))
   ·cases hp
  ·cases hp
 | sl u a _ =>
  cases u with
  | false =>
   intro h h' l l' x hp;exact XE (t := .sl false a) (by simpa only [UC, cond_false] using hp)
  | true =>
   intro h h' l l' x hp b hb;simp only [UC, cond_true] at hp;have hg : ∀ c, Y7 (nth (upd h c .gone) b) → Y7 (nth h b) := fun c hb => by
    rcases ZP h c b Blk.gone with ⟨_, h2, _⟩ | h2
    ·rw [h2] at hb; exact absurd hb Qt
    ·rwa [h2] at hb
   split at hp
   ·split at hp
    ·split at hp
     ·simp only [Option.some.injEq, Prod.mk.injEq] at hp
      rwa [hp.2.2]
     ·simp only [Option.some.injEq, Prod.mk.injEq] at hp
      rw [← hp.2.2] at hb;exact hg _ hb
     ·simp only [Option.some.injEq, Prod.mk.injEq] at hp
      rw [← hp.2.2] at hb;exact hg _ hb
     ·cases hp
    ·cases hp
   ·cases hp
theorem Zls {h h' : List Blk} {t : Ty} {v v' : SV} (hp : Zpx h t v = some (v', h')) (b : Nat) (hb : Y7 (nth h' b)) : Y7 (nth h b) := by
 unfold Zpx at hp;cases hg : ((Zpw v == t.isAgg) && t.okU) with
 | false => rw [hg] at hp; cases hp
 | true =>
  rw [hg] at hp;simp only [cond_true] at hp
  split at hp
  ·cases hp
  ·split at hp
   ·rename_i hx
    simp only [Option.some.injEq, Prod.mk.injEq] at hp;exact Zj4 t hx b (hp.2 ▸ hb)
   ·cases hp
theorem Zlt (v : SV) {h h' : List Blk} {v' : SV} (hp : ZpN h v = some (v', h')) (b : Nat) (hb : Y7 (nth h' b)) : Y7 (nth h b) := by
 unfold ZpN at hp
 split at hp
 ·rename_i b0
  split at hp
  ·rename_i cells hb0
   split at hp
   ·rename_i c' h1 hx
    simp only [Option.some.injEq, Prod.mk.injEq] at hp;have := Jo cells hx b (hp.2 ▸ hb);rcases ZP h b0 b Blk.gone with ⟨_, h2, _⟩ | h2
    ·rw [h2] at this; exact absurd this Qt
    ·rwa [h2] at this
   ·cases hp
  ·cases hp
 ·exact Zd1 v hp b hb
theorem ZoG {z : Z} (hi : IZ z) {v v' : SV} {c : Value} {h' : List Blk} (hv : V z v c) (hp : ZpN z.h v = some (v', h')) : ∃ S, CV z.im z.w v' c S [] ∧ S.Nodup ∧ Off z.h h' ∧ M5 z.rho z.h h' S := by
 unfold ZpN at hp
 split at hp
 ·rename_i b
  split at hp
  ·rename_i cells hb
   split at hp
   ·rename_i c' h1 hx
    simp only [Option.some.injEq, Prod.mk.injEq] at hp;obtain ⟨rfl, rfl⟩ := hp;obtain ⟨blk, q1, q2⟩ := Zhx hv hb;have hs := hi.sim b _ q1;rw [hb] at hs;obtain ⟨blk', cs, e, k1, k2, k3⟩ := hs;cases k1;have hol : Off z.h (upd z.h b .gone) := HL (by rw [hb]; exact Jm);have hi2 := Jn hi hol;obtain ⟨S, m1, m2, m3, m4⟩ := LN (z := z.withH (upd z.h b .gone)) hi2 rfl cells cs c' h1 (VL.ext (X6 hol) _ _ k3) hx;have hbl : nth (upd z.h b .gone) b = some .gone := ZW hb;have hgo : nth h1 b = some .gone := by
     have m3' := m3.2 b;have hz : nth (z.withH (upd z.h b .gone)).h b = some .gone := hbl;rw [hz] at m3';rcases m3' with e | ⟨e, _⟩ | e
     ·exact e
     ·exact e
     ·exact absurd e.was.2 (fun h => h)
    have hnot : blk ∉ S := by
     intro hm;obtain ⟨b', d', r1, r2, r3, r4, r5⟩ := m4 blk hm
     by_cases eb : b' = b
     ·subst eb
      have hz : nth (z.withH (upd z.h b' .gone)).h b' = some .gone := hbl;rw [hz] at r2; exact r2
     ·have hz : nth (z.withH (upd z.h b .gone)).h b' = nth z.h b' := ZM (Ne.symm eb)
      have hl' : live (nth z.h b') := by rw [← hz]; exact r2
      exact hi.disj b' b d' _ r1 q1 hl' (by rw [hb]; trivial) eb blk r5 (by simp [D.blks])
    refine ⟨blk :: S, ?_, List.nodup_cons.2 ⟨hnot, m2⟩, hol.trans m3, ?_⟩
    ·simp only [CV]
     exact ⟨blk, cs, e, S, q2, rfl, trivial, k2, m1⟩
    ·intro k hk
     rcases List.mem_cons.1 hk with q | q
     ·subst q
      exact ⟨b, _, q1, by rw [hb]; trivial, .inl hgo, by rw [hb]; exact Jm, by simp [D.blks]⟩
     ·exact (m4.earlier hol) k q
   ·cases hp
  ·cases hp
 ·exact Zcy hi rfl _ _ _ _ hv hp
theorem P9 : ∀ (ts : List (Option Ty)) (l : List SV) {h h' : List Blk} {l' : List SV}, Zfh h ts l = some (l', h') → ∀ b, Y7 (nth h' b) → Y7 (nth h b)
 | [], [], h, h', l', hp, b, hb => by simp only [Zfh, Option.some.injEq, Prod.mk.injEq] at hp; rwa [hp.2]
 | [], _ :: _, h, h', l', hp, b, hb => by simp [Zfh] at hp
 | none :: _, [], h, h', l', hp, b, hb => by simp [Zfh] at hp
 | some _ :: _, [], h, h', l', hp, b, hb => by simp [Zfh] at hp
 | some t :: ts, v :: l, h, h', l', hp, b, hb => by
  simp only [Zfh] at hp
  split at hp
  ·rename_i v1 h1 hv
   split at hp
   ·rename_i l1 h2 hl
    simp only [Option.some.injEq, Prod.mk.injEq] at hp;exact Zls hv b (P9 ts l hl b (hp.2 ▸ hb))
   ·cases hp
  ·cases hp
 | none :: ts, v :: l, h, h', l', hp, b, hb => by
  simp only [Zfh] at hp
  split at hp
  ·rename_i v1 h1 hv
   split at hp
   ·rename_i l1 h2 hl
    simp only [Option.some.injEq, Prod.mk.injEq] at hp;exact Zlt v hv b (P9 ts l hl b (hp.2 ▸ hb))
   ·cases hp
  ·cases hp
theorem Zlu : ∀ (ts : List (Option Ty)) (l : List SV) {z : Z} (_ : IZ z) (cs : List Value) (l' : List SV) (h' : List Blk), VL z l cs → Zfh z.h ts l = some (l', h') →
  ∃ S, CVL z.im z.w l' cs S [] ∧ S.Nodup ∧ Off z.h h' ∧ M5 z.rho z.h h' S
 | [], [], z, hi, cs, l', h', hv, hp => by
  simp only [Zfh, Option.some.injEq, Prod.mk.injEq] at hp;obtain ⟨rfl, rfl⟩ := hp;simp only [VL] at hv;exact ⟨[], by simp only [CVL]; exact ⟨hv, trivial, trivial⟩, by simp, Off.refl _, by intro k hk; simp at hk⟩
 | [], _ :: _, z, hi, cs, l', h', hv, hp => by simp [Zfh] at hp
 | none :: _, [], z, hi, cs, l', h', hv, hp => by simp [Zfh] at hp
 | some _ :: _, [], z, hi, cs, l', h', hv, hp => by simp [Zfh] at hp
 | ot :: ts, x :: l, z, hi, cs, l', h', hv, hp => by
  simp only [VL] at hv;obtain ⟨c, r, rfl, hv1, hv2⟩ := hv;have first : ∃ x' h1 l1, (∃ S, CV z.im z.w x' c S [] ∧ S.Nodup ∧ Off z.h h1 ∧ M5 z.rho z.h h1 S) ∧ Zfh h1 ts l = some (l1, h') ∧ l' = x' :: l1 := by
   cases ot with
   | some t =>
    simp only [Zfh] at hp
    split at hp
    ·rename_i v1 h1 hv
     split at hp
     ·rename_i l1 h2 hl
      simp only [Option.some.injEq, Prod.mk.injEq] at hp;obtain ⟨rfl, rfl⟩ := hp;exact ⟨v1, h1, l1, Zos hi hv1 hv, hl, rfl⟩
     ·cases hp
    ·cases hp
   | none =>
    simp only [Zfh] at hp
    split at hp
    ·rename_i v1 h1 hv
     split at hp
     ·rename_i l1 h2 hl
      simp only [Option.some.injEq, Prod.mk.injEq] at hp;obtain ⟨rfl, rfl⟩ := hp;exact ⟨v1, h1, l1, ZoG hi hv1 hv, hl, rfl⟩
     ·cases hp
    ·cases hp
  obtain ⟨x', h1, l1, ⟨S1, a1, a2, a3, a4⟩, hl, rfl⟩ := first
  obtain ⟨S2, b1, b2, b3, b4⟩ := Zlu ts l (z := z.withH h1) (Jn hi a3) r l1 h' (VL.ext (X6 a3) _ _ hv2) hl;have hap := M5.apart hi a3 a4 b4;refine ⟨S1 ++ S2, ?_, List.nodup_append.2 ⟨a2, b2, fun a ha b hb e => hap a ha (e ▸ hb)⟩, a3.trans b3, ?_⟩
  ·simp only [CVL]
   exact ⟨c, r, S1, S2, [], [], rfl, rfl, rfl, a1, b1⟩
  ·intro k hk
   rcases List.mem_append.1 hk with hk | hk
   ·exact (a4.later b3) k hk
   ·exact (M5.earlier a3 b4) k hk
theorem ZhW {im : Nat → Prop} {w : World} {vs : List SV} {cs : List Value} {S : List Nat} (h : CVL im w vs cs S []) : CV im w (Pf vs) (Zf0 cs) S [] := by
 match vs, cs, h with
 | [], cs, h =>
  simp only [CVL] at h;obtain ⟨rfl, rfl, _⟩ := h;simp only [Pf, CV];exact ⟨[], rfl, by simp only [CVL]; exact ⟨trivial, trivial, trivial⟩⟩
 | [v], cs, h =>
  simp only [CVL] at h;obtain ⟨c, r, S1, S2, B1, B2, rfl, rfl, hB, h4, rfl, rfl, rfl⟩ := h;simp only [List.append_nil] at hB ⊢;subst hB;exact h4
 | v :: v' :: l, cs, h =>
  have h0 := h;simp only [CVL] at h;obtain ⟨c, r, S1, S2, B1, B2, rfl, rfl, hB, h4, c', r', S3, S4, B3, B4, rfl, rfl, hB2, h5, h6⟩ := h;simp only [Pf, CV];exact ⟨_, rfl, h0⟩
mutual
def mrs : SV → Nat
 | .mr _ => 1
 | .io _ _ => 1
 | .fn _ l => mrsL l
 | .agg l => mrsL l
 | .tup l => mrsL l
 | _ => 0
def mrsL : List SV → Nat
 | [] => 0
 | x :: l => mrs x + mrsL l
end
mutual
theorem CV.mrs {im : Nat → Prop} {w : World} : ∀ (v : SV) {c : Value} {S : List Nat} {B : List LC}, CV im w v c S B → B.length = Sx.mrs v
 | .val t x, _, _, _, h => by simp only [CV] at h; rw [h.2.1]; rfl
 | .vl c0 t x, _, _, _, h => by simp only [CV] at h; rw [h.2.1]; rfl
 | .nil, _, _, _, h => by simp only [CV] at h; rw [h.2.1]; rfl
 | .fr t x, _, _, _, h => by simp only [CV] at h; rw [h.1]; rfl
 | .fv t x, _, _, _, h => by simp only [CV] at h; rw [h.1]; rfl
 | .io t x, _, _, _, h => by simp only [CV] at h; rw [h.1]; rfl
 | .agg l, _, _, _, h => by simp only [CV] at h; obtain ⟨cs, _, h2⟩ := h; exact CVL.mrs l h2
 | .tup l, _, _, _, h => by simp only [CV] at h; obtain ⟨cs, _, h2⟩ := h; exact CVL.mrs l h2
 | .fn f l, _, _, _, h => by simp only [CV] at h; obtain ⟨cs, _, h2⟩ := h; exact CVL.mrs l h2
 | .mr l, _, _, _, h => by
  simp only [CV] at h;obtain ⟨blk, cs, e, S', _, _, h3, _, _⟩ := h;rw [h3]; rfl
 | .fp l, _, _, _, h => by
  simp only [CV] at h;obtain ⟨blk, cs, e, S', _, _, h3, _, _⟩ := h;rw [h3]; rfl
 | .own _ _, _, _, _, h => by simp only [CV] at h
 | .sub _ _ _ _, _, _, _, h => by simp only [CV] at h
 | .ptr _ _, _, _, _, h => by simp only [CV] at h
 | .eptr _ _ _ _, _, _, _, h => by simp only [CV] at h
 | .rptr _ _ _, _, _, _, h => by simp only [CV] at h
 | .dead, _, _, _, h => by simp only [CV] at h; rw [h.2]; rfl
theorem CVL.mrs {im : Nat → Prop} {w : World} : ∀ (l : List SV) {c : List Value} {S : List Nat} {B : List LC}, CVL im w l c S B → B.length = Sx.mrsL l
 | [], _, _, _, h => by simp only [CVL] at h; rw [h.2.2]; rfl
 | x :: l, _, _, _, h => by
  simp only [CVL] at h;obtain ⟨c1, r, S1, S2, B1, B2, h1, h2, h3, h4, h5⟩ := h;rw [h3, List.length_append, CV.mrs x h4, CVL.mrs l h5]; rfl
end
def Ra (ntmps : Nat) (args : List SV) : St := ⟨(Xk [] args).1 ++ List.replicate (ntmps - args.length) (.tup []), (Xk [] args).2.1⟩
def Ag (args : List SV) (kp : List (Nat × (List OB × List BK))) : Bool :=
 Nat.beq (Xk [] args).2.2.length (mrsL args) && (Xk [] args).2.2.all fun b => kp.all fun q => Nat.blt b.n q.2.2.length
theorem Nc {z : Z} : ∀ n, VL z (List.replicate n (.tup [])) (List.replicate n undef)
 | 0 => by simp [VL]
 | n + 1 => by simp only [List.replicate_succ, VL]; exact ⟨_, _, rfl, FO, Nc n⟩
theorem Cb {β : Type _} : ∀ {l : List (Nat × β)} {i : Nat} {b : β}, ZF l i = some b → (i, b) ∈ l
 | [], _, _, h => by simp [ZF] at h
 | (j, c) :: l, i, b, h => by
  simp only [ZF] at h;cases hb : Nat.beq j i with
  | true =>
   rw [hb] at h;simp only [cond_true, Option.some.injEq] at h;subst h;rw [Nat.eq_of_beq_eq_true hb]; simp
  | false => rw [hb] at h; exact List.mem_cons_of_mem _ (Cb h)
theorem ZcM {im : Nat → Prop} {w : World} : ∀ (l : List SV) {c : List Value} {S : List Nat} {B : List LC}, CVL im w l c S B → l.length = c.length
 | [], _, _, _, h => by simp only [CVL] at h; rw [h.1]; rfl
 | x :: l, _, _, _, h => by
  simp only [CVL] at h;obtain ⟨c1, r, S1, S2, B1, B2, h1, h2, h3, h4, h5⟩ := h;rw [h1, List.length_cons, List.length_cons, ZcM l h5]
theorem UO.mono {im im' : Nat → Prop} {w : World} (hi : ∀ k, im k → im' k) : ∀ (cs : List (List SV)) (bs : List LC) (S : List Nat), UO im w cs bs S → UO im' w cs bs S
 | [], [], S, h => h
 | [], _ :: _, S, h => h
 | _ :: _, [], S, h => h
 | c :: cs, .box b :: bs, S, h => by
  simp only [UO] at h ⊢;obtain ⟨cells, e, S1, S2, h1, h2, h3, h4⟩ := h;exact ⟨cells, e, S1, S2, h1, h2, CVL.mono hi c cells S1 [] h3, UO.mono hi cs bs S2 h4⟩
 | c :: cs, .arr a t :: bs, S, h => by
  simp only [UO] at h ⊢;obtain ⟨x, S1, S2, h1, h2, h3, h4⟩ := h;exact ⟨x, S1, S2, h1, h2, h3.mono (fun k hk => ⟨hi k hk, rfl⟩) _ _ _ _ _ (fun _ _ => rfl), UO.mono hi cs bs S2 h4⟩
def bxG : List Bxk → List LC → List (Nat × Nat)
 | .box b :: bs, .box blk :: B => (b, blk) :: bxG bs B
 | _ :: bs, _ :: B => bxG bs B
 | _, _ => []
def axG : List Bxk → List LC → List (Nat × (Value × Ty))
 | .arr b t :: bs, .arr c _ :: B => (b, (c, t)) :: axG bs B
 | _ :: bs, _ :: B => axG bs B
 | _, _ => []
theorem Zeb : ∀ (bs : List Bxk) (B : List LC) (q : Nat × Nat), q ∈ bxG bs B → ∃ b ∈ bs, b.n = q.1
 | [], _, q, h => by simp [bxG] at h
 | .box b :: bs, [], q, h => by simp [bxG] at h
 | .arr b t :: bs, [], q, h => by simp [bxG] at h
 | .box b :: bs, .box blk :: B, q, h => by
  simp only [bxG, List.mem_cons] at h;rcases h with e | h
  ·subst e; exact ⟨.box b, by simp, rfl⟩
  ·obtain ⟨x, h1, h2⟩ := Zeb bs B q h; exact ⟨x, by simp [h1], h2⟩
 | .box b :: bs, .arr _ _ :: B, q, h => by
  simp only [bxG] at h;obtain ⟨x, h1, h2⟩ := Zeb bs B q h; exact ⟨x, by simp [h1], h2⟩
 | .arr b t :: bs, y :: B, q, h => by
  simp only [bxG] at h;obtain ⟨x, h1, h2⟩ := Zeb bs B q h; exact ⟨x, by simp [h1], h2⟩
theorem Zec : ∀ (bs : List Bxk) (B : List LC) (q : Nat × (Value × Ty)), q ∈ axG bs B → ∃ b ∈ bs, b.n = q.1
 | [], _, q, h => by simp [axG] at h
 | .box b :: bs, [], q, h => by simp [axG] at h
 | .arr b t :: bs, [], q, h => by simp [axG] at h
 | .arr b t :: bs, .arr c _ :: B, q, h => by
  simp only [axG, List.mem_cons] at h;rcases h with e | h
  ·subst e; exact ⟨.arr b t, by simp, rfl⟩
  ·obtain ⟨x, h1, h2⟩ := Zec bs B q h; exact ⟨x, by simp [h1], h2⟩
 | .arr b t :: bs, .box _ :: B, q, h => by
  simp only [axG] at h;obtain ⟨x, h1, h2⟩ := Zec bs B q h; exact ⟨x, by simp [h1], h2⟩
 | .box b :: bs, y :: B, q, h => by
  simp only [axG] at h;obtain ⟨x, h1, h2⟩ := Zec bs B q h; exact ⟨x, by simp [h1], h2⟩
theorem Bxs.bxG {rho : Rho} {h : List Blk} {bs : List Bxk} {B : List LC} (a : Bxs rho h bs B) : ∀ q ∈ Sx.bxG bs B, Bx rho h q.1 q.2 := by
 induction a with
 | nil => intro q hq; simp [Sx.bxG] at hq
 | cons h1 h2 _ ih =>
  intro q hq;simp only [Sx.bxG, List.mem_cons] at hq;rcases hq with e | hq
  ·subst e; exact .inr ⟨h1, .inl h2⟩
  ·exact ih q hq
 | arr h1 h2 _ ih => intro q hq; exact ih q (by simpa only [Sx.bxG] using hq)
theorem Bxs.axG {rho : Rho} {h : List Blk} {bs : List Bxk} {B : List LC} (a : Bxs rho h bs B) : ∀ q ∈ Sx.axG bs B, Ax rho h q.1 q.2.1 q.2.2 := by
 induction a with
 | nil => intro q hq; simp [Sx.axG] at hq
 | cons h1 h2 _ ih => intro q hq; exact ih q (by simpa only [Sx.axG] using hq)
 | arr h1 h2 _ ih =>
  intro q hq;simp only [Sx.axG, List.mem_cons] at hq;rcases hq with e | hq
  ·subst e
   refine .inr ⟨by rw [h2]; rfl, 0, _, _, by rw [h2]; rfl, fun _ => ⟨rfl, _, _, _, h1, rfl⟩⟩
  ·exact ih q hq
theorem Bxs.later2 {rho rho' : Rho} {h h' : List Blk} {bs : List Bxk} {B : List LC} (a : Bxs rho h bs B) (hb : ∀ q ∈ Sx.bxG bs B, Bx rho' h' q.1 q.2) (hx : ∀ q ∈ Sx.axG bs B, Ax rho' h' q.1 q.2.1 q.2.2) : BxA rho' h' bs B := by
 induction a with
 | nil => exact .nil
 | cons h1 h2 _ ih => exact .box (hb (_, _) (by simp [Sx.bxG])) (ih (fun q hq => hb q (by simp [Sx.bxG, hq])) (fun q hq => hx q (by simpa only [Sx.axG] using hq)))
 | arr h1 h2 _ ih => exact .arr (hx (_, (_, _)) (by simp [Sx.axG])) (ih (fun q hq => hb q (by simpa only [Sx.bxG] using hq)) (fun q hq => hx q (by simp [Sx.axG, hq])))
def Zmz (r r' : Res) : Prop := (∀ im w c S, CV im w r.1 c S [] → CV im w r'.1 c S []) ∧ ∀ im w B S, UO im w r.2 B S → UO im w r'.2 B S
theorem Zmz.of_eq {r r' : Res} (h : r = r') : Zmz r r' := by subst h; exact ⟨fun _ _ _ _ h => h, fun _ _ _ _ h => h⟩
theorem Zrc {P : Program} {E : Env} {kp : List (Nat × (List OB × List BK))} {rt : List (Option Ty)} {X : Type} {K0 : Ex → St → Option X} {x0 : X} (hE : HK P E) {f : FuncId} {fn : Func} {body : Code}
  (hf : P.funcs[f]? = some fn) (hb : fn.body = some body) (hn : ZhT (B7 kp body) = true) {args : List SV} (hbx : Ag args kp = true) (N : Nat) {sv : SV} {outs : List (List SV)}
  (hK : ∀ e s, K0 e s = some x0 → ∃ r, Zse E rt fn.results.toList (Xk [] args).2.2 e s = some r ∧ Zmz r (sv, outs)) (hev : ev E (Lr E kp body K0 N) body (Ra fn.ntmps args) K0 = some x0) : Jl P f args sv outs := by
 intro p w cargs S B hcv hnd hS hp htb;simp only [Ag, Bool.and_eq_true] at hbx;have hlen : (Xk [] args).2.2.length = B.length := (Nat.eq_of_beq_eq_true hbx.1).trans (CVL.mrs args hcv).symm;have hz0 : IZ (⟨p, w, fun _ => none, []⟩ : Z) := ⟨fun b d h => (by cases h), fun b b' d d' h => (by cases h), fun b d h => (by cases h), fun b d h => (by cases h)⟩
 obtain ⟨rho1, g1, v1, x1⟩ := P7 args (z := ⟨p, w, fun _ => none, []⟩) hz0 cargs S B hcv hnd (fun k hk => ⟨(hS k hk).1, fun b d h => (by cases h)⟩) hlen
 let g : G := ⟨p, S, w, bxG (Xk [] args).2.2 B, axG (Xk [] args).2.2 B⟩
 let h0 : List Blk := (Xk [] args).2.1
 have hto : Ext (⟨p, w, rho1, h0⟩ : Z) (zOf g rho1 h0 w) := by
  refine ⟨fun k hk => ⟨⟨.inl hk, hp k hk, fun ⟨b, d, o1, o2, o3⟩ => g1.iz.sep b d o1 o2 k o3 hk⟩, rfl⟩, fun b => ZX.refl _ _⟩
 have hinv : Inv g rho1 h0 w := by
  refine ⟨fun b d hd => (g1.iz.sim b d hd).ext hto (fun _ _ _ => rfl), g1.iz.disj, g1.iz.nodup, fun b d hd hl k hk => ?_, FM.refl _ _, PA.ext (z := ⟨p, w, rho1, h0⟩) htb hto⟩;have := g1.new b d (Nat.zero_le _) hd hl k hk;exact ⟨(hS k this).2, .inl this⟩
 have hszc : cargs.toArray.size = args.length := by simpa using (ZcM args hcv).symm
 have hsim : Sim g rho1 (Ra fn.ntmps args) { tmps := cargs.toArray ++ Array.replicate (fn.ntmps - cargs.toArray.size) undef, defers := [] } w := by
  refine ⟨hinv, ?_, rfl, x1.bxG, x1.axG⟩;rw [hszc];simp only [Ra, Array.toList_append, Array.toList_replicate];exact (VL.ext hto _ _ v1).append (Nc _)
 have hall : ∀ b ∈ (Xk [] args).2.2, ∀ i k, ZF kp i = some k → b.n < k.2.length := by
  intro b hb i k hk;have h2 := List.all_eq_true.1 (List.all_eq_true.1 hbx.2 b hb) (i, k) (Cb hk);simp only [Nat.blt, Nat.ble_eq] at h2;omega
 have hB : ∀ i l, Zmy E kp body K0 i = some l → (∀ q ∈ g.bx, q.1 < l.blks.length) ∧ ∀ q ∈ g.ax, q.1 < l.blks.length := by
  intro i l hl;unfold Zmy at hl;cases hk : ZF kp i with
  | none => rw [hk] at hl; cases hl
  | some k =>
   rw [hk] at hl;simp only [Option.some.injEq] at hl;subst hl;refine ⟨fun q hq => ?_, fun q hq => ?_⟩
   ·obtain ⟨b, h1, h2⟩ := Zeb _ _ q hq
    rw [← h2]; exact hall b h1 i k hk
   ·obtain ⟨b, h1, h2⟩ := Zec _ _ q hq
    rw [← h2]; exact hall b h1 i k hk
 refine calls_of_wp hf hb ?_;refine ZfY hE hB (r := x0) body (fun _ => K0) _ N (Ra fn.ntmps args) rho1 _ w (ZoE E kp body _ (ZiS hn)) ?_ (by rw [LV]; exact hev) hsim;intro m _ e s' he0 rho a w' hs;obtain ⟨⟨sv1, outs1⟩, he, hres⟩ := hK e s' he0;have hfin : (e = .normal ∨ e = .ret) ∧ fin E rt fn.results.toList (Xk [] args).2.2 s' = some (sv1, outs1) := by
  cases e with
  | normal => exact ⟨.inl rfl, he⟩
  | ret => exact ⟨.inr rfl, he⟩
  | exit id => cases he
 obtain ⟨hee, hfin⟩ := hfin;have post : a.defers = [] ∧ ∃ v, (results fn a.tmps).run P w' = .ok v w' ∧ ∃ cr S1 S2, Ending.returned v = .returned cr ∧ (S1 ++ S2).Nodup ∧ (∀ k ∈ S1 ++ S2, (k ∈ S ∨ w.heap.size ≤ k) ∧ k < w'.heap.size) ∧ FM w w' S ∧
   CV (after p S (S1 ++ S2) w w') w' sv cr S1 [] ∧ UO (after p S (S1 ++ S2) w w') w' outs B S2 := by
  refine ⟨hs.defers, ?_⟩;unfold fin at hfin
  split at hfin
  ·cases hfin
  ·rename_i vs hvs
   split at hfin
   ·cases hfin
   ·rename_i v' h1 hpub
    split at hfin
    ·cases hfin
    ·rename_i o ho
     simp only [Option.some.injEq, Prod.mk.injEq] at hfin;obtain ⟨rfl, rfl⟩ := hfin;obtain ⟨cvs, t1, hvl⟩ := ZhV hE.toEnvOk0 hs hvs;have hiz := hs.inv.iz;obtain ⟨S1, m1, m2, m3, m4⟩ := Zlu rt vs hiz cvs v' h1 hvl hpub;have hi1 := Jn hiz m3;have hbxa : BxA rho s'.heap (Xk [] args).2.2 B := x1.later2 hs.bx hs.ax;have hbxa1 : BxA rho h1 (Xk [] args).2.2 B := BxA.off (z := zOf g rho s'.heap w') hbxa m3;obtain ⟨S2, n1, n2, n3⟩ := ZoF (im := Im g rho s'.heap w') (w := w') (rho := rho) hbxa1 h1 hi1 hbxa1 ho;have hlive1 : ∀ b, live (nth h1 b) → live (nth s'.heap b) := fun b hl => X8 m3 hl;have hsub : ∀ k ∈ S1 ++ S2, ∃ b d, rho b = some d ∧ live (nth s'.heap b) ∧ k ∈ d.blks := by
      intro k hk;rcases List.mem_append.1 hk with hk | hk
      ·obtain ⟨b, d, q1, q2, _, _, q5⟩ := m4 k hk
       exact ⟨b, d, q1, q2, q5⟩
      ·obtain ⟨b, d, q1, q2, q5⟩ := n3 k hk
       exact ⟨b, d, q1, hlive1 b q2, q5⟩
     have him : ∀ k, Im g rho s'.heap w' k → after p S (S1 ++ S2) w w' k := by
      intro k hk;refine ⟨hk.1, hk.2.1, fun hm => ?_⟩;obtain ⟨b, d, q1, q2, q3⟩ := hsub k hm;exact hk.2.2 ⟨b, d, q1, q2, q3⟩
     refine ⟨_, t1, _, S1, S2, rfl, ?_, fun k hk => ?_, hs.inv.kept, hres.1 _ _ _ _ (CV.mono him _ _ _ _ (ZhW m1)), ?_⟩
     ·refine List.nodup_append.2 ⟨m2, n2, fun x hx y hy e => ?_⟩
      subst e;obtain ⟨b1, d1, q1, q2, q3, q4, q5⟩ := m4 x hx;obtain ⟨b2, d2, r1, r2, r5⟩ := n3 x hy;have hne : b1 ≠ b2 := by
       intro e;subst e;rcases q3 with q3 | q3
       ·rw [q3] at r2; exact r2
       ·exact q4 (P9 rt vs hpub b1 q3)
      exact hs.inv.disj b1 b2 d1 d2 q1 r1 q2 (hlive1 b2 r2) hne x q5 r5
     ·obtain ⟨b, d, q1, q2, q3⟩ := hsub k hk
      have := hs.inv.range b d q1 q2 k q3;exact ⟨this.2, this.1⟩
     ·exact hres.2 _ _ _ _ (UO.mono him _ _ _ n1)
 rcases hee with e1 | e1 <;> (subst e1; exact post)
end Go.Sx
namespace Go.Sx
open Go
mutual
inductive EqT (P : Program) : Nat → TypeId → Ty → Prop
 | int {d : Nat} {t : TypeId} {k : IntKind} : P.underlying t = some (.int k) → EqT P (d + 1) t (.int k)
 | bool {d : Nat} {t : TypeId} : P.underlying t = some .bool → EqT P (d + 1) t .bool
 | str {d : Nat} {t : TypeId} : P.underlying t = some .string → EqT P (d + 1) t .str
 | struct {d : Nat} {t : TypeId} {ty : Ty} {fs : List Field} : P.underlying t = some (.struct (P.fieldsOf t)) → P.stoodInHeld t = false → ty.isAgg = true → (P.fieldsOf t).toList = fs → EqF P d fs 0 ty → EqT P (d + 1) t ty
inductive EqF (P : Program) : Nat → List Field → Nat → Ty → Prop
 | nil {d off : Nat} : EqF P d [] off .unit
 | cons {d off off' : Nat} {f : Field} {fs : List Field} {a b : Ty} : f.offset = off → f.name ≠ "_" → (∃ inf, P.info? f.type = some inf ∧ inf.size = a.size) → (∃ ds, P.underlying f.type = some ds ∧ BX ds = a.isAgg) →
   off' = off + a.size → EqT P d f.type a → EqF P d fs off' b → EqF P d (f :: fs) off (.pair a b)
end
theorem Zf1 {P : Program} {t : TypeId} {a : Ty} (h1 : ∃ inf, P.info? t = some inf ∧ inf.size = a.size) (h2 : ∃ ds, P.underlying t = some ds ∧ BX ds = a.isAgg) {im : Nat → Prop} {w1 : World} {x : a.den} {pre c r : List Value} {w : World}
  (hx : TR im w1 false a x c []) : (part t (pre ++ (c ++ r)).toArray pre.length).run P w = .ok (mkV a c) w := by
 obtain ⟨inf, i1, i2⟩ := h1;obtain ⟨ds, u1, u2⟩ := h2;have hl := hx.len;unfold part;rw [Sx.run_bind_ok (Sx.run_isAgg u1), u2];cases ha : a.isAgg with
 | true =>
  simp only [if_true];rw [Sx.run_bind_ok (Sx.run_sizeOf i1), i2];simp only [mkV, ha, if_true];rw [Sx.run_pure];congr 2;rw [← Array.toList_inj];simp [List.extract_eq_take_drop, hl]
 | false =>
  simp only [Bool.false_eq_true, if_false];obtain ⟨u, rfl, _⟩ := hx.scalar ha;simp only [mkV, ha, Bool.false_eq_true, if_false, List.headD_cons];simp only [List.getElem?_toArray];rw [List.getElem?_append_right (Nat.le_refl _)];simp only [Nat.sub_self, List.cons_append, List.nil_append, List.getElem?_cons_zero];rfl
theorem Zlv (a b : ByteArray) : (a.toList == b.toList) = decide (a = b) := by
 rw [← Go.beq_toListBytes, Bool.eq_iff_iff];obtain ⟨x⟩ := a;obtain ⟨y⟩ := b;show (x == y) = true ↔ _;simp
def Zsg (P : Program) (w : World) (d : Nat) (ty : Ty) : Prop :=
 ∀ (im : Nat → Prop) (w1 : World) (n : Nat) (fs : List Field) (off : Nat) (x y : ty.den) (cx cy pre pre' : List Value), pre.length = off → pre'.length = off → EqF P n fs off ty → TR im w1 false ty x cx [] → TR im w1 false ty y cy [] →
  (Op.eqFields (d + n) (pre ++ cx).toArray (pre' ++ cy).toArray fs).run P w = .ok (eqD ty x y) w
def Zsh (P : Program) (w : World) (d : Nat) (ty : Ty) : Prop :=
 ∀ (im : Nat → Prop) (w1 : World) (n : Nat) (t : TypeId) (x y : ty.den) (cx cy : List Value), EqT P n t ty → TR im w1 false ty x cx [] → TR im w1 false ty y cy [] → (Op.equalIn (d + n) t (mkV ty cx) (mkV ty cy)).run P w = .ok (eqD ty x y) w
theorem Zlw {P : Program} {w : World} {d : Nat} {ty : Ty} (hF : Zsg P w d ty) : Zsh P w d ty := by
 intro im w1 n t x y cx cy h hx hy;cases h with
 | @int n _ k h =>
  rw [hx.1, hy.1];exact run_equalIn_int w (d + n) _ k k x y h
 | @bool n _ h =>
  rw [hx.1, hy.1];exact run_equalIn_bool' w (d + n) _ x y h
 | @str n _ h =>
  rw [hx.1, hy.1];show (Op.equalIn (d + n + 1) _ (.string x) (.string y)).run P w = _;rw [run_equalIn_string w (d + n) _ x y h, Zlv];rfl
 | @struct n _ _ fs h1 h2 h3 h4 h5 =>
  have ex : mkV ty cx = .agg cx.toArray := by simp [mkV, h3]
  have ey : mkV ty cy = .agg cy.toArray := by simp [mkV, h3]
  rw [ex, ey];show (Op.equalIn (d + n + 1) _ _ _).run P w = _;rw [run_equalIn_struct w (d + n) _ _ _ h1 h2, h4];exact hF im w1 n fs 0 x y cx cy [] [] rfl rfl h5 hx hy
theorem Zed {P : Program} {w : World} {d : Nat} : ∀ ty : Ty, Zsg P w d ty
 | .int _ => fun im w1 n fs off x y cx cy pre pre' _ _ h => by cases h
 | .bool => fun im w1 n fs off x y cx cy pre pre' _ _ h => by cases h
 | .str => fun im w1 n fs off x y cx cy pre pre' _ _ h => by cases h
 | .sl _ _ => fun im w1 n fs off x y cx cy pre pre' _ _ h => by cases h
 | .unit => fun im w1 n fs off x y cx cy pre pre' _ _ h hx hy => by cases h; rfl
 | .pair a b => fun im w1 n fs off x y cx cy pre pre' h1 h2 h hx hy => by
  have hA := Zlw (Zed (P := P) (w := w) (d := d) a);have hB := Zed (P := P) (w := w) (d := d) b;cases h with
  | @cons _ _ off' f fs _ _ k1 k2 k3 k4 k5 k6 k7 =>
   obtain ⟨c1, c2, S1, S2, e1, e2, q1, q2⟩ := hx;obtain ⟨c1', c2', S1', S2', e1', e2', q1', q2'⟩ := hy;have z1 := (List.append_eq_nil_iff.1 e2.symm)
   have z2 := (List.append_eq_nil_iff.1 e2'.symm)
   obtain ⟨rfl, rfl⟩ := z1;obtain ⟨rfl, rfl⟩ := z2;subst e1; subst e1';have o1 : f.offset = pre.length := by rw [k1, h1]
   have o2 : f.offset = pre'.length := by rw [k1, h2]
   simp only [Op.eqFields, if_pos k2];have r1 := Zf1 k3 k4 (pre := pre) (r := c2) (w := w) q1;have r2 := Zf1 k3 k4 (pre := pre') (r := c2') (w := w) q1';rw [← o1] at r1;rw [← o2] at r2;rw [Sx.run_bind_ok r1, Sx.run_bind_ok r2, Sx.run_bind_ok (hA im w1 n _ _ _ _ _ k6 q1 q1')];simp only [eqD];cases he : eqD a x.1 y.1 with
   | false => rfl
   | true =>
    simp only [Bool.not_true, Bool.false_eq_true, if_false, Bool.true_and];have := hB im w1 n fs off' x.2 y.2 c2 c2' (pre ++ c1) (pre' ++ c1') (by rw [List.length_append, q1.len, h1, k5]) (by rw [List.length_append, q1'.len, h2, k5]) k7 q2 q2';rw [List.append_assoc, List.append_assoc] at this;exact this
theorem ZqZ {P : Program} {t : TypeId} {ty : Ty} (n : Nat) (hn : n ≤ 10000) (h : EqT P n t ty) (ha : ty.isAgg = true) (hg : P.eqGuardType P.depth t = false) : Zom P t ty where
 agg := ha
 guard := hg
 run := fun im w w1 x y cx cy hx hy => by
  have := Zlw (Zed (P := P) (w := w) (d := 10000 - n) ty) im w1 n t x y cx cy h hx hy;rw [show 10000 - n + n = 10000 by omega] at this;simp only [mkV, ha, if_true] at this;exact this
theorem ZpO {P : Program} {E : Env} {l : List (Nat × TI)} (h : ∀ q ∈ l, Xu P E q.1 q.2) : ∀ t i, ZF l t = some i → Xu P E t i := fun t i hi => h (t, i) (Cb hi)
theorem all_nil {α : Type _} {p : α → Prop} : ∀ q ∈ ([] : List α), p q := by simp
theorem all_cons {α : Type _} {p : α → Prop} {x : α} {l : List α} (h : p x) (hl : ∀ q ∈ l, p q) : ∀ q ∈ x :: l, p q := by
 intro q hq;rcases List.mem_cons.1 hq with e | hq
 ·subst e; exact h
 ·exact hl q hq
def ZoH : Ty → TypeDesc → Prop
 | .int k, d => d = .int k
 | .bool, d => d = .bool
 | .str, d => d = .string
 | _, _ => False
theorem Yc {P : Program} {E : Env} {t : TypeId} {ty : Ty} {b : Nat} {inf : TypeInfo} {d : TypeDesc} (h : P.info? t = some inf) (h1 : inf.size = ty.size) (h2 : inf.bytes = b) (h3 : inf.zero = some (mkV ty (Zp ty))) (h4 : b ≤ 1024) (h5 : P.underlying t = some d)
  (h6 : ZoH ty d) : Xu P E t ⟨ty, b, .scalar⟩ := by
 refine ⟨⟨inf, h, h1, h2, h3⟩, ?_, h4, ⟨d, h5, ?_, ?_⟩⟩
 ·show 0 < ty.size
  cases ty <;> first | exact h6.elim | (simp [Ty.size])
 ·show BX d = ty.isAgg
  cases ty <;> first | exact h6.elim | (cases h6; rfl)
 ·clear h1 h3
  cases ty <;> first | exact h6.elim | exact h6
theorem Y0 {P : Program} {E : Env} {t e : TypeId} {ie : TI} {b : Nat} {inf : TypeInfo} (h : P.info? t = some inf) (h1 : inf.size = 1) (h2 : inf.bytes = b) (h3 : inf.zero = some (.slice none 0 0)) (h4 : b ≤ 1024) (h5 : P.underlying t = some (.slice e))
  (h6 : E.ti e = some ie) : Xu P E t ⟨.sl false ie.ty, b, .slice e⟩ :=
 ⟨⟨inf, h, h1, h2, h3⟩, by show 0 < 1; omega, h4, ⟨_, h5, rfl, rfl, ie, h6, rfl⟩⟩
theorem Zq {P : Program} {E : Env} {t : TypeId} {ty : Ty} {b : Nat} {fs : List (Nat × TypeId)} {inf : TypeInfo} {fields : Array Field} (h : P.info? t = some inf) (h1 : inf.size = ty.size) (h2 : inf.bytes = b) (h3 : inf.zero = some (mkV ty (Zp ty))) (h4 : b ≤ 1024)
  (h0 : 0 < ty.size) (ha : ty.isAgg = true) (h5 : P.underlying t = some (.struct fields)) (h6 : fields.toList.map (fun f => (f.offset, f.type)) = fs) (h7 : ∀ f ∈ fs, ∃ fi, E.ti f.2 = some fi) : Xu P E t ⟨ty, b, .struct fs⟩ :=
 ⟨⟨inf, h, h1, h2, h3⟩, h0, h4, ⟨_, h5, by rw [ha]; rfl, fields, rfl, h6, h7, ha⟩⟩
end Go.Sx
namespace Go.Sx
open Go
abbrev Pg : List Ty → Type
 | [] => Unit
 | t :: ts => t.den × Pg ts
def Zkt : (ts : List Ty) → Pg ts → List SV
 | [], _ => []
 | t :: ts, x => .val t x.1 :: Zkt ts x.2
def ZoI : (ts : List Ty) → List SV → Option (Pg ts)
 | [], l => match l with
  | [] => some ()
  | _ => none
 | t :: ts, l => match l with
  | .val s x :: l' => (match toD s t x with
   | some y => (match ZoI ts l' with | some r => some (y, r) | none => none)
   | none => none)
  | _ => none
theorem Zlx {im : Nat → Prop} {w : World} : ∀ (ts : List Ty) (l : List SV) {xs : Pg ts} {cs : List Value} {S : List Nat} {B : List LC}, ZoI ts l = some xs → CVL im w l cs S B → CVL im w (Zkt ts xs) cs S B
 | [], [], xs, cs, S, B, _, h => h
 | [], _ :: _, xs, cs, S, B, h, _ => by simp [ZoI] at h
 | t :: ts, [], xs, cs, S, B, h, _ => by simp [ZoI] at h
 | t :: ts, x :: l, xs, cs, S, B, h, hc => by
  cases x with
  | val s x =>
   simp only [ZoI] at h
   split at h
   ·rename_i y hy
    split at h
    ·rename_i r hr
     cases Option.some.inj h;simp only [CVL] at hc;obtain ⟨c, r', S1, S2, B1, B2, e1, e2, e3, h4, h5⟩ := hc;simp only [Zkt, CVL];refine ⟨c, r', S1, S2, B1, B2, e1, e2, e3, ?_, Zlx ts l hr h5⟩;simp only [CV] at h4 ⊢;obtain ⟨k1, k2, cs', k3, k4⟩ := h4;unfold toD at hy
     split at hy
     ·rename_i he
      simp only [Option.some.injEq] at hy;subst hy;refine ⟨k1, k2, cs', k3.castD he, ?_⟩;rw [k4];unfold mkV;rw [Ty.eqv_agg he]
     ·cases hy
    ·cases h
   ·cases h
  | _ => simp [ZoI] at h
structure Sh (X : Type) where
 sh : X → Res
 un : Res → Option X
 ok : ∀ r x, un r = some x → Zmz r (sh x)
theorem H1 {s t : Ty} {x : s.den} {y : t.den} (h : toS s t x = some y) : SV.val s x = SV.val t y ∧ SV.fv s x = SV.fv t y := by
 obtain ⟨e, h2⟩ := Ez h;subst e; subst h2;exact ⟨rfl, rfl⟩
def shV (T : Ty) : Sh T.den where
 sh := fun x => (.val T x, [])
 un := fun r => match r with
  | (.val s x, []) => toS s T x
  | _ => none
 ok := fun r x h => by
  refine Zmz.of_eq ?_
  split at h
  ·rw [(H1 h).1]
  ·cases h
def shF (T : Ty) : Sh T.den where
 sh := fun x => (.fv T x, [])
 un := fun r => match r with
  | (.fv s x, []) => toS s T x
  | _ => none
 ok := fun r x h => by
  refine Zmz.of_eq ?_
  split at h
  ·rw [(H1 h).2]
  ·cases h
def roS {X : Type} (ts : List Ty) (fr : Bool) (s : Sh X) (f : Pg ts → Option X) : Con :=
 ⟨ts.map .ro, fun _ args K => match ZoI ts args with
  | some xs => (match f xs with | some v => K (s.sh v).1 (s.sh v).2 | none => none)
  | none => none, fr⟩
theorem Zf2 {P : Program} {fid : FuncId} {X : Type} {ts : List Ty} {fr : Bool} {s : Sh X} {f : Pg ts → Option X} (hc : Pb P fid) (h : ∀ xs v, f xs = some v → Jl P fid (Zkt ts xs) (s.sh v).1 (s.sh v).2) : KW P fid (roS ts fr s f) := by
 refine ⟨hc, fun R args K r he => ?_, fun R args K K' r hk he => ?_⟩
 case refine_2 =>
  simp only [roS] at he ⊢
  split at he
  ·split at he
   ·exact hk _ _ he
   ·cases he
  ·cases he
 simp only [roS] at he
 split at he
 ·rename_i xs hx
  split at he
  ·rename_i q hq
   refine ⟨_, _, ?_, he⟩;intro p w cargs S B h1 h2 h3 h4;exact h xs q hq p w cargs S B (Zlx ts args hx h1) h2 h3 h4
  ·cases he
 ·cases he
theorem Zx {n : Int} (h0 : -9223372036854775808 ≤ n) (h1 : n ≤ 9223372036854775807) : IntKind.wrap .i64 n = n := by
 show (if (true && decide ((n % 18446744073709551616) ≥ 9223372036854775808)) = true then n % 18446744073709551616 - 18446744073709551616 else n % 18446744073709551616) = n;simp only [Bool.true_and, decide_eq_true_eq]
 split <;> omega
theorem ZpP {P : Program} {l : List (Nat × Con)} (h : ∀ q ∈ l, KW P q.1 q.2) : ∀ f c, ZF l f = some c → KW P f c := fun f c hf => h (f, c) (Cb hf)
abbrev i64 : Ty := .int .i64
def vb (b : Bool) : Option Res := some (.val .bool b, [])
def vt (t : Ty) (x : t.den) : Option Res := some (.val t x, [])
end Go.Sx
namespace Go.Sx
open Go
def ZpQ : List (Bool × Ty) → Type
 | [] => Unit
 | (_, t) :: l => t.den × ZpQ l
def toL : (l : List (Bool × Ty)) → ZpQ l → List SV
 | [], _ => []
 | (u, t) :: l, x => (bif u then .fv t x.1 else .val t x.1) :: toL l x.2
def un1 (u : Bool) (t : Ty) (v : SV) : Option t.den :=
 bif u then (match v with | .fv s x => toS s t x | _ => none) else (match v with | .val s x => toS s t x | _ => none)
def unL : (l : List (Bool × Ty)) → List SV → Option (ZpQ l)
 | [], [] => some ()
 | [], _ :: _ => none
 | _ :: _, [] => none
 | (u, t) :: l, v :: r => match un1 u t v with
  | some a => (match unL l r with | some b => some (a, b) | none => none)
  | none => none
theorem ZpR {u : Bool} {t : Ty} {v : SV} {x : t.den} (h : un1 u t v = some x) : v = bif u then .fv t x else .val t x := by
 unfold un1 at h;cases u with
 | true =>
  simp only [cond_true] at h ⊢
  split at h
  ·exact (H1 h).2
  ·cases h
 | false =>
  simp only [cond_false] at h ⊢
  split at h
  ·exact (H1 h).1
  ·cases h
theorem ZnS : ∀ (l : List (Bool × Ty)) (vs : List SV) {x : ZpQ l}, unL l vs = some x → vs = toL l x
 | [], [], _, _ => rfl
 | [], _ :: _, _, h => by cases h
 | _ :: _, [], _, h => by cases h
 | (u, t) :: l, v :: r, x, h => by
  simp only [unL] at h
  split at h
  ·rename_i a ha
   split at h
   ·rename_i b hb
    cases h;simp only [toL];rw [ZpR ha, ZnS l r hb]
   ·cases h
  ·cases h
def shT (l : List (Bool × Ty)) : Sh (ZpQ l) where
 sh := fun x => (.tup (toL l x), [])
 un := fun r => match r with
  | (.tup vs, []) => unL l vs
  | _ => none
 ok := fun r x h => by
  refine Zmz.of_eq ?_
  split at h
  ·rw [ZnS l _ h]
  ·cases h
def Cc (m : Bool) : (t : Ty) → t.den → List SV
 | .unit, _ => []
 | .pair a b, x => Cc m a x.1 ++ Cc m b x.2
 | .int k, x => [.val (.int k) x]
 | .bool, x => [.val .bool x]
 | .str, x => [.val .str x]
 | .sl u a, x => [bif u then (bif m then .io a x else .fr a x) else .val (.sl u a) x]
inductive AP where
 | ro (t : Ty)
 | mr (t : Ty)
 | fn (f : FuncId) (l : List Ty)
 | io (t : Ty)
 | mo (t : Ty)
 | mu (t : Ty)
 | gv (t : Ty)
 | gs (t : Ty)
abbrev AP.den : AP → Type
 | .ro t => t.den
 | .mr t => t.den
 | .fn _ l => Pg l
 | .io t => List t.den
 | .mo t => t.den
 | .mu t => t.den
 | .gv t => List t.den
 | .gs t => t.den
abbrev AP.denL : List AP → Type
 | [] => Unit
 | a :: l => a.den × AP.denL l
def AP.mode : AP → Mode
 | .ro t => .ro t
 | .mr _ => .mref
 | .fn _ l => .fnm (l.map fun _ => .mref)
 | .io _ => .io
 | .mo _ => .io
 | .mu _ => .mref
 | .gv _ => .mv
 | .gs _ => .mv
def Zq0 : (l : List Ty) → Pg l → List SV
 | [], _ => []
 | t :: l, x => .mr (cellsOf t x.1) :: Zq0 l x.2
def AP.enc : (a : AP) → a.den → SV
 | .ro t, x => .val t x
 | .mr t, x => .mr (cellsOf t x)
 | .fn f l, x => .fn f (Zq0 l x)
 | .io t, x => .io t x
 | .mo t, x => .agg (Cc true t x)
 | .mu t, x => .mr (Cc false t x)
 | .gv t, x => .fr t x
 | .gs t, x => .agg (Cc false t x)
def AP.encL : (l : List AP) → AP.denL l → List SV
 | [], _ => []
 | a :: l, x => a.enc x.1 :: AP.encL l x.2
def unC : (t : Ty) → List SV → Option (t.den × List SV)
 | .unit, l => some ((), l)
 | .pair a b, l => match unC a l with
  | some (x, l') => (match unC b l' with | some (y, l'') => some ((x, y), l'') | none => none)
  | none => none
 | .int k, l => match l with
  | .val s x :: r => (match toS s (.int k) x with | some y => some (y, r) | none => none)
  | _ => none
 | .bool, l => match l with
  | .val s x :: r => (match toS s .bool x with | some y => some (y, r) | none => none)
  | _ => none
 | .str, l => match l with
  | .val s x :: r => (match toS s .str x with | some y => some (y, r) | none => none)
  | _ => none
 | .sl u a, l => match l with
  | .val s x :: r => (match toS s (.sl u a) x with | some y => some (y, r) | none => none)
  | _ => none
theorem Rb : ∀ (t : Ty) (l : List SV) {x : t.den} {r : List SV}, unC t l = some (x, r) → l = cellsOf t x ++ r
 | .unit, l, x, r, h => by cases h; rfl
 | .pair a b, l, x, r, h => by
  simp only [unC] at h
  split at h
  ·rename_i y l' hy
   split at h
   ·rename_i z l'' hz
    cases h;rw [Rb a l hy, Rb b l' hz];simp [cellsOf]
   ·cases h
  ·cases h
 | .int k, l, x, r, h => by
  simp only [unC] at h
  split at h
  ·split at h
   ·rename_i hs; cases h; rw [(H1 hs).1]; rfl
   ·cases h
  ·cases h
 | .bool, l, x, r, h => by
  simp only [unC] at h
  split at h
  ·split at h
   ·rename_i hs; cases h; rw [(H1 hs).1]; rfl
   ·cases h
  ·cases h
 | .str, l, x, r, h => by
  simp only [unC] at h
  split at h
  ·split at h
   ·rename_i hs; cases h; rw [(H1 hs).1]; rfl
   ·cases h
  ·cases h
 | .sl u a, l, x, r, h => by
  simp only [unC] at h
  split at h
  ·split at h
   ·rename_i hs; cases h; rw [(H1 hs).1]; rfl
   ·cases h
  ·cases h
def Rc (t : Ty) (l : List SV) : Option t.den := match unC t l with
 | some (x, []) => some x
 | _ => none
theorem Cd {t : Ty} {l : List SV} {x : t.den} (h : Rc t l = some x) : l = cellsOf t x := by
 unfold Rc at h
 split at h
 ·rename_i hx; cases h; rw [Rb t l hx]; simp
 ·cases h
def unB : (l : List Ty) → List SV → Option (Pg l)
 | [], [] => some ()
 | [], _ :: _ => none
 | _ :: _, [] => none
 | t :: l, v :: r => match v with
  | .mr c => (match Rc t c with
   | some x => (match unB l r with | some y => some (x, y) | none => none)
   | none => none)
  | _ => none
theorem ZnT : ∀ (l : List Ty) (vs : List SV) {x : Pg l}, unB l vs = some x → vs = Zq0 l x
 | [], [], _, _ => rfl
 | [], _ :: _, _, h => by cases h
 | _ :: _, [], _, h => by cases h
 | t :: l, v :: r, x, h => by
  simp only [unB] at h
  split at h
  ·split at h
   ·rename_i y hy
    split at h
    ·rename_i z hz
     cases h;simp only [Zq0];rw [Cd hy, ZnT l r hz]
    ·cases h
   ·cases h
  ·cases h
def ZpS (m : Bool) (a : Ty) : SV → Option (List a.den)
 | .io s x => bif m then toS (.sl true s) (.sl true a) x else none
 | .fr s x => bif m then none else toS (.sl true s) (.sl true a) x
 | _ => none
theorem ZiU {s a : Ty} {x : List s.den} {y : List a.den} (h : toS (.sl true s) (.sl true a) x = some y) : SV.io s x = SV.io a y ∧ SV.fr s x = SV.fr a y := by
 obtain ⟨e, he⟩ := Ez h;cases e;cases he;exact ⟨rfl, rfl⟩
theorem Zee {m : Bool} {a : Ty} {v : SV} {y : List a.den} (h : ZpS m a v = some y) : v = bif m then .io a y else .fr a y := by
 cases v with
 | io s x =>
  cases m with
  | true => exact (ZiU h).1
  | false => cases h
 | fr s x =>
  cases m with
  | true => cases h
  | false => exact (ZiU h).2
 | _ => cases h
def unM (m : Bool) : (t : Ty) → List SV → Option (t.den × List SV)
 | .unit, l => some ((), l)
 | .pair a b, l => match unM m a l with
  | some (x, l') => (match unM m b l' with | some (y, l'') => some ((x, y), l'') | none => none)
  | none => none
 | .int k, l => unC (.int k) l
 | .bool, l => unC .bool l
 | .str, l => unC .str l
 | .sl u a, l => bif u then (match l with
   | v :: r => (match ZpS m a v with | some y => some (y, r) | none => none)
   | [] => none)
  else unC (.sl u a) l
theorem Zly {m : Bool} : ∀ (t : Ty) (l : List SV) {x : t.den} {r : List SV}, unM m t l = some (x, r) → l = Cc m t x ++ r
 | .unit, l, x, r, h => by cases h; rfl
 | .pair a b, l, x, r, h => by
  simp only [unM] at h
  split at h
  ·rename_i y l' hy
   split at h
   ·rename_i z l'' hz
    cases h;rw [Zly a l hy, Zly b l' hz];simp [Cc]
   ·cases h
  ·cases h
 | .int k, l, x, r, h => Rb (.int k) l h
 | .bool, l, x, r, h => Rb .bool l h
 | .str, l, x, r, h => Rb .str l h
 | .sl u a, l, x, r, h => by
  cases u with
  | false => exact Rb (.sl false a) l h
  | true =>
   simp only [unM, cond_true] at h
   split at h
   ·split at h
    ·rename_i hy
     cases h;rw [Zee hy]; rfl
    ·cases h
   ·cases h
def ZcN (m : Bool) (t : Ty) (l : List SV) : Option t.den := match unM m t l with
 | some (x, []) => some x
 | _ => none
theorem Ce {m : Bool} {t : Ty} {l : List SV} {x : t.den} (h : ZcN m t l = some x) : l = Cc m t x := by
 unfold ZcN at h
 split at h
 ·rename_i hx; cases h; rw [Zly t l hx]; simp
 ·cases h
def AP.dec : (a : AP) → SV → Option a.den
 | .ro t, v => (match v with | .val s x => toS s t x | _ => none)
 | .mr t, v => (match v with | .mr l => Rc t l | _ => none)
 | .fn f l, v => (match v with | .fn g c => bif Nat.beq g f then unB l c else none | _ => none)
 | .io t, v => ZpS true t v
 | .mo t, v => (match v with | .agg l => ZcN true t l | _ => none)
 | .mu t, v => (match v with | .mr l => ZcN false t l | _ => none)
 | .gv t, v => ZpS false t v
 | .gs t, v => (match v with | .agg l => ZcN false t l | _ => none)
def AP.decL : (l : List AP) → List SV → Option (AP.denL l)
 | [], [] => some ()
 | [], _ :: _ => none
 | _ :: _, [] => none
 | a :: l, v :: r => match a.dec v with
  | some x => (match AP.decL l r with | some y => some (x, y) | none => none)
  | none => none
theorem AP.dec_ok : ∀ (a : AP) (v : SV) {x : a.den}, a.dec v = some x → v = a.enc x
 | .ro t, v, x, h => by
  simp only [AP.dec] at h
  split at h
  ·simp only [AP.enc]; exact (H1 h).1
  ·cases h
 | .mr t, v, x, h => by
  simp only [AP.dec] at h
  split at h
  ·simp only [AP.enc]; rw [Cd h]
  ·cases h
 | .fn f l, v, x, h => by
  simp only [AP.dec] at h
  split at h
  ·rename_i g c
   cases hb : Nat.beq g f with
   | false => rw [hb] at h; cases h
   | true =>
    rw [hb] at h;simp only [AP.enc];rw [ZnT l c h, Nat.eq_of_beq_eq_true hb]
  ·cases h
 | .io t, v, x, h => Zee h
 | .mo t, v, x, h => by
  simp only [AP.dec] at h
  split at h
  ·simp only [AP.enc]; rw [Ce h]
  ·cases h
 | .mu t, v, x, h => by
  simp only [AP.dec] at h
  split at h
  ·simp only [AP.enc]; rw [Ce h]
  ·cases h
 | .gv t, v, x, h => Zee h
 | .gs t, v, x, h => by
  simp only [AP.dec] at h
  split at h
  ·simp only [AP.enc]; rw [Ce h]
  ·cases h
theorem AP.decL_ok : ∀ (l : List AP) (vs : List SV) {x : AP.denL l}, AP.decL l vs = some x → vs = AP.encL l x
 | [], [], _, _ => rfl
 | [], _ :: _, _, h => by cases h
 | _ :: _, [], _, h => by cases h
 | a :: l, v :: r, x, h => by
  simp only [AP.decL] at h
  split at h
  ·rename_i y hy
   split at h
   ·rename_i z hz
    cases h;simp only [AP.encL];rw [AP.dec_ok a v hy, AP.decL_ok l r hz]
   ·cases h
  ·cases h
def apS {X : Type} (ts : List AP) (fr : Bool) (s : Sh X) (f : AP.denL ts → Option X) : Con :=
 ⟨ts.map AP.mode, fun _ args K => match AP.decL ts args with
  | some xs => (match f xs with | some v => K (s.sh v).1 (s.sh v).2 | none => none)
  | none => none, fr⟩
theorem ZnU {P : Program} {fid : FuncId} {X : Type} {ts : List AP} {fr : Bool} {s : Sh X} {f : AP.denL ts → Option X} (hc : Pb P fid) (h : ∀ xs v, f xs = some v → Jl P fid (AP.encL ts xs) (s.sh v).1 (s.sh v).2) : KW P fid (apS ts fr s f) := by
 refine ⟨hc, fun R args K r he => ?_, fun R args K K' r hk he => ?_⟩
 case refine_2 =>
  simp only [apS] at he ⊢
  split at he
  ·split at he
   ·exact hk _ _ he
   ·cases he
  ·cases he
 simp only [apS] at he
 split at he
 ·rename_i xs hx
  split at he
  ·rename_i q hq
   refine ⟨_, _, ?_, he⟩;rw [AP.decL_ok ts args hx];exact h xs q hq
  ·cases he
 ·cases he
def Ls : Ty → Type
 | .pair a b => Ls a × Ls b
 | .sl true a => List a.den
 | _ => Unit
def lsE : (t : Ty) → Ls t → List (List SV)
 | .pair a b, x => lsE a x.1 ++ lsE b x.2
 | .sl true a, x => [[.fr a x]]
 | .sl false _, _ => []
 | .int _, _ => []
 | .bool, _ => []
 | .str, _ => []
 | .unit, _ => []
def Zq1 (a : Ty) : List SV → Option (List a.den)
 | [v] => ZpS false a v
 | _ => none
theorem Zlz {a : Ty} {l : List SV} {y : List a.den} (h : Zq1 a l = some y) : l = [.fr a y] := by
 unfold Zq1 at h
 split at h
 ·rw [Zee h]; rfl
 ·cases h
def lsU : (t : Ty) → List (List SV) → Option (Ls t × List (List SV))
 | .pair a b, l => match lsU a l with
  | some (x, l') => (match lsU b l' with | some (y, l'') => some ((x, y), l'') | none => none)
  | none => none
 | .sl true a, l => (match l with
  | c :: r => (match Zq1 a c with | some y => some (y, r) | none => none)
  | [] => none)
 | .sl false _, l => some ((), l)
 | .int _, l => some ((), l)
 | .bool, l => some ((), l)
 | .str, l => some ((), l)
 | .unit, l => some ((), l)
theorem ZlA : ∀ (t : Ty) (l : List (List SV)) {x : Ls t} {r : List (List SV)}, lsU t l = some (x, r) → l = lsE t x ++ r
 | .pair a b, l, x, r, h => by
  simp only [lsU] at h
  split at h
  ·rename_i y l' hy
   split at h
   ·rename_i z l'' hz
    cases h;rw [ZlA a l hy, ZlA b l' hz];simp [lsE]
   ·cases h
  ·cases h
 | .sl true a, l, x, r, h => by
  simp only [lsU] at h
  split at h
  ·split at h
   ·rename_i hy
    cases h;rw [Zlz hy]; rfl
   ·cases h
  ·cases h
 | .sl false _, l, x, r, h => by cases h; rfl
 | .int _, l, x, r, h => by cases h; rfl
 | .bool, l, x, r, h => by cases h; rfl
 | .str, l, x, r, h => by cases h; rfl
 | .unit, l, x, r, h => by cases h; rfl
def Zrd : (l : List Ty) → Pg l → List (List SV)
 | [], _ => []
 | t :: l, x => cellsOf t x.1 :: Zrd l x.2
def unO : (l : List Ty) → List (List SV) → Option (Pg l × List (List SV))
 | [], r => some ((), r)
 | _ :: _, [] => none
 | t :: l, c :: r => match Rc t c with
  | some x => (match unO l r with | some (y, r') => some ((x, y), r') | none => none)
  | none => none
theorem ZnV : ∀ (l : List Ty) (c : List (List SV)) {x : Pg l} {r : List (List SV)}, unO l c = some (x, r) → c = Zrd l x ++ r
 | [], c, x, r, h => by cases h; rfl
 | _ :: _, [], _, _, h => by cases h
 | t :: l, c :: r, x, r', h => by
  simp only [unO] at h
  split at h
  ·rename_i y hy
   split at h
   ·rename_i z r2 hz
    cases h;rw [Cd hy, ZnV l r hz]; rfl
   ·cases h
  ·cases h
abbrev AP.od : AP → Type
 | .ro _ => Unit
 | .gv _ => Unit
 | .gs _ => Unit
 | .mr t => t.den
 | .fn _ l => Pg l
 | .io t => List t.den
 | .mo t => Ls t
 | .mu t => t.den
def Zne : Ty → List SV → List SV × List SV
 | .unit, l => ([], l)
 | .pair a b, l => match Zne a l with | (x, l') => (match Zne b l' with | (y, l'') => (x ++ y, l''))
 | .sl u a, l => match l with
  | [] => ([], [])
  | v :: r => ([match v with | .nil => bif u && Nat.blt 0 a.size then .fr a [] else .nil | v => v], r)
 | _, l => match l with
  | [] => ([], [])
  | v :: r => ([v], r)
def ZoJ (t : Ty) (l : List SV) : List SV := match Zne t l with | (x, r) => x ++ r
theorem CVL.split {im : Nat → Prop} {w : World} : ∀ {l l' : List SV} {cs : List Value} {S : List Nat} {B : List LC}, CVL im w (l ++ l') cs S B → ∃ c1 c2 S1 S2 B1 B2, cs = c1 ++ c2 ∧ S = S1 ++ S2 ∧ B = B1 ++ B2 ∧ CVL im w l c1 S1 B1 ∧ CVL im w l' c2 S2 B2
 | [], l', cs, S, B, h => ⟨[], cs, [], S, [], B, rfl, rfl, rfl, ⟨rfl, rfl, rfl⟩, h⟩
 | x :: l, l', cs, S, B, h => by
  simp only [List.cons_append, CVL] at h;obtain ⟨c, r, S1, S2, B1, B2, rfl, rfl, rfl, h1, h2⟩ := h;obtain ⟨c1, c2, T1, T2, D1, D2, rfl, rfl, rfl, k1, k2⟩ := CVL.split h2;refine ⟨c :: c1, c2, S1 ++ T1, T2, B1 ++ D1, D2, rfl, by simp, by simp, ?_, k2⟩;simp only [CVL];exact ⟨c, c1, S1, T1, B1, D1, rfl, rfl, rfl, h1, k1⟩
theorem ZhX : ∀ (t : Ty) (l : List SV), ∃ h, l = h ++ (Zne t l).2 ∧ ∀ (im : Nat → Prop) (w : World) (cs : List Value) (S : List Nat), CVL im w h cs S [] → CVL im w (Zne t l).1 cs S []
 | .unit, l => ⟨[], rfl, fun _ _ _ _ h => h⟩
 | .pair a b, l => by
  obtain ⟨h1, e1, k1⟩ := ZhX a l;obtain ⟨h2, e2, k2⟩ := ZhX b (Zne a l).2;refine ⟨h1 ++ h2, ?_, fun im w cs S h => ?_⟩
  ·simp only [Zne]
   rw [List.append_assoc, ← e2, ← e1]
  ·obtain ⟨c1, c2, S1, S2, B1, B2, rfl, rfl, hB, q1, q2⟩ := CVL.split h
   obtain ⟨rfl, rfl⟩ := List.append_eq_nil_iff.1 hB.symm;simp only [Zne];exact CVL.append (B := []) (B' := []) (k1 _ _ _ _ q1) (k2 _ _ _ _ q2)
 | .sl u a, l => by
  cases l with
  | nil => exact ⟨[], rfl, fun _ _ _ _ h => h⟩
  | cons v r =>
   refine ⟨[v], rfl, fun im w cs S h => ?_⟩;simp only [Zne];cases v with
   | nil =>
    cases hu : (u && Nat.blt 0 a.size) with
    | false => exact h
    | true =>
     simp only [CVL] at h ⊢;obtain ⟨c, r', S1, S2, B1, B2, rfl, rfl, hB, h1, rfl, rfl, rfl⟩ := h;simp only [CV] at h1;obtain ⟨rfl, rfl, rfl⟩ := h1;simp only [Bool.and_eq_true, Nat.blt, Nat.ble_eq] at hu;refine ⟨_, [], [], [], [], [], rfl, rfl, rfl, ?_, rfl, rfl, rfl⟩;simp only [cond_true, CV];exact ⟨trivial, hu.2, none, 0, rfl, Nat.le_refl _, by simp⟩
   | _ => exact h
 | .int k, [] => ⟨[], rfl, fun _ _ _ _ h => h⟩
 | .int k, v :: r => ⟨[v], rfl, fun _ _ _ _ h => h⟩
 | .bool, [] => ⟨[], rfl, fun _ _ _ _ h => h⟩
 | .bool, v :: r => ⟨[v], rfl, fun _ _ _ _ h => h⟩
 | .str, [] => ⟨[], rfl, fun _ _ _ _ h => h⟩
 | .str, v :: r => ⟨[v], rfl, fun _ _ _ _ h => h⟩
theorem Znf {t : Ty} {l : List SV} {im : Nat → Prop} {w : World} {cs : List Value} {S : List Nat} (h : CVL im w l cs S []) : CVL im w (ZoJ t l) cs S [] := by
 obtain ⟨h1, e1, k1⟩ := ZhX t l;unfold ZoJ;rw [e1] at h;obtain ⟨c1, c2, S1, S2, B1, B2, rfl, rfl, hB, q1, q2⟩ := CVL.split h;obtain ⟨rfl, rfl⟩ := List.append_eq_nil_iff.1 hB.symm;exact CVL.append (B := []) (B' := []) (k1 _ _ _ _ q1) q2
def ZhY : List SV → Bool
 | [.fr _ _] => true
 | _ => false
def AP.oe : (a : AP) → a.od → List (List SV)
 | .ro _, _ => []
 | .gv _, _ => []
 | .gs _, _ => []
 | .mr t, x => [cellsOf t x]
 | .fn _ l, x => Zrd l x
 | .io t, x => [[.fr t x]]
 | .mo t, x => lsE t x
 | .mu t, x => [Cc false t x]
def AP.ou : (a : AP) → List (List SV) → Option (a.od × List (List SV))
 | .ro _, l => some ((), l)
 | .gv _, l => some ((), l)
 | .gs _, l => some ((), l)
 | .mr t, l => (match l with | c :: r => (match Rc t c with | some x => some (x, r) | none => none) | [] => none)
 | .fn _ ts, l => unO ts l
 | .io t, l => (match l with | c :: r => (match Zq1 t c with | some x => some (x, r) | none => none) | [] => none)
 | .mo t, l => lsU t l
 | .mu t, l => (match l with | c :: r => (match ZcN false t (bif ZhY c then c else ZoJ t c) with | some x => some (x, r) | none => none) | [] => none)
def X9 (l l' : List (List SV)) : Prop := ∀ (im : Nat → Prop) (w : World) (B : List LC) (S : List Nat), UO im w l B S → UO im w l' B S
theorem X9.of_eq {l l' : List (List SV)} (h : l = l') : X9 l l' := by subst h; exact fun _ _ _ _ h => h
theorem X9.app : ∀ (a : List (List SV)) {l l' : List (List SV)}, X9 l l' → X9 (a ++ l) (a ++ l')
 | [], _, _, h => h
 | c :: a, _, _, h => fun im w B S ho => by
  cases B with
  | nil => simp only [List.cons_append, UO] at ho
  | cons b bs =>
   cases b with
   | box b =>
    simp only [List.cons_append, UO] at ho ⊢;obtain ⟨cells, e, S1, S2, q1, q2, q3, q4⟩ := ho;exact ⟨cells, e, S1, S2, q1, q2, q3, X9.app a h im w bs S2 q4⟩
   | arr v t =>
    simp only [List.cons_append, UO] at ho ⊢;obtain ⟨x, S1, S2, q1, q2, q3, q4⟩ := ho;exact ⟨x, S1, S2, q1, q2, q3, X9.app a h im w bs S2 q4⟩
theorem X9.head {c c' : List SV} {l : List (List SV)} (h : ∀ (im : Nat → Prop) (w : World) (cs : List Value) (S : List Nat), CVL im w c cs S [] → CVL im w c' cs S []) (hf : ZhY c = false) : X9 (c :: l) (c' :: l) := fun im w B S ho => by
 cases B with
 | nil => simp only [UO] at ho
 | cons b bs =>
  cases b with
  | box b =>
   simp only [UO] at ho ⊢;obtain ⟨cells, e, S1, S2, q1, q2, q3, q4⟩ := ho;exact ⟨cells, e, S1, S2, q1, q2, h _ _ _ _ q3, q4⟩
  | arr v t =>
   simp only [UO] at ho;obtain ⟨x, S1, S2, q1, q2, q3, q4⟩ := ho;rw [q1] at hf;cases hf
theorem AP.ou_eq : ∀ (a : AP) (l : List (List SV)) {x : a.od} {r : List (List SV)}, (∀ t, a ≠ .mu t) → a.ou l = some (x, r) → l = a.oe x ++ r
 | .ro _, l, x, r, _, h => by cases h; rfl
 | .gv _, l, x, r, _, h => by cases h; rfl
 | .gs _, l, x, r, _, h => by cases h; rfl
 | .mr t, l, x, r, _, h => by
  simp only [AP.ou] at h
  split at h
  ·split at h
   ·rename_i hy; cases h; rw [Cd hy]; rfl
   ·cases h
  ·cases h
 | .fn _ ts, l, x, r, _, h => ZnV ts l h
 | .io t, l, x, r, _, h => by
  simp only [AP.ou] at h
  split at h
  ·split at h
   ·rename_i hy; cases h; rw [Zlz hy]; rfl
   ·cases h
  ·cases h
 | .mo t, l, x, r, _, h => ZlA t l h
 | .mu t, l, x, r, hn, h => absurd rfl (hn t)
theorem AP.ou_ok : ∀ (a : AP) (l : List (List SV)) {x : a.od} {r : List (List SV)}, a.ou l = some (x, r) → X9 l (a.oe x ++ r)
 | .mu t, l, x, r, h => by
  simp only [AP.ou] at h
  split at h
  ·rename_i c l'
   split at h
   ·rename_i y hy
    cases h;cases hb : ZhY c with
    | true =>
     rw [hb] at hy;simp only [cond_true] at hy;show X9 (c :: r) (Cc false t x :: r);rw [← Ce hy];exact X9.of_eq rfl
    | false =>
     rw [hb] at hy;simp only [cond_false] at hy;show X9 (c :: r) (Cc false t x :: r);rw [← Ce hy];exact X9.head (fun _ _ _ _ h => Znf h) hb
   ·cases h
  ·cases h
 | .ro a, l, x, r, h => X9.of_eq (by cases h; rfl)
 | .gv a, l, x, r, h => X9.of_eq (by cases h; rfl)
 | .gs a, l, x, r, h => X9.of_eq (by cases h; rfl)
 | .mr t, l, x, r, h => X9.of_eq (AP.ou_eq (.mr t) l (fun _ e => by cases e) h)
 | .fn f t, l, x, r, h => X9.of_eq (AP.ou_eq (.fn f t) l (fun _ e => by cases e) h)
 | .io t, l, x, r, h => X9.of_eq (AP.ou_eq (.io t) l (fun _ e => by cases e) h)
 | .mo t, l, x, r, h => X9.of_eq (AP.ou_eq (.mo t) l (fun _ e => by cases e) h)
abbrev AP.odL : List AP → Type
 | [] => Unit
 | a :: l => a.od × AP.odL l
def AP.oeL : (l : List AP) → AP.odL l → List (List SV)
 | [], _ => []
 | a :: l, x => a.oe x.1 ++ AP.oeL l x.2
def AP.ouL : (l : List AP) → List (List SV) → Option (AP.odL l × List (List SV))
 | [], r => some ((), r)
 | a :: l, r => match a.ou r with
  | some (x, r') => (match AP.ouL l r' with | some (y, r'') => some ((x, y), r'') | none => none)
  | none => none
theorem AP.ouL_ok : ∀ (l : List AP) (c : List (List SV)) {x : AP.odL l} {r : List (List SV)}, AP.ouL l c = some (x, r) → X9 c (AP.oeL l x ++ r)
 | [], c, x, r, h => by cases h; exact X9.of_eq rfl
 | a :: l, c, x, r, h => by
  simp only [AP.ouL] at h
  split at h
  ·rename_i y r1 hy
   split at h
   ·rename_i z r2 hz
    cases h;have h1 := AP.ou_ok a c hy;have h2 := X9.app (a.oe y) (AP.ouL_ok l r1 hz);intro im w B S ho;have := h2 im w B S (h1 im w B S ho);simpa [AP.oeL] using this
   ·cases h
  ·cases h
def shO {X : Type} (s : Sh X) (l : List AP) : Sh (X × AP.odL l) where
 sh := fun x => ((s.sh x.1).1, AP.oeL l x.2)
 un := fun r => match s.un (r.1, []) with
  | some x => (match AP.ouL l r.2 with | some (y, []) => some (x, y) | _ => none)
  | none => none
 ok := fun r x h => by
  split at h
  ·rename_i a ha
   split at h
   ·rename_i y hy
    cases h;have h1 := s.ok _ _ ha;have h2 := AP.ouL_ok l _ hy;rw [List.append_nil] at h2;exact ⟨fun im w c S hc => h1.1 im w c S hc, fun im w B S ho => h2 im w B S ho⟩
   ·cases h
  ·cases h
def shP (T : Ty) : Sh T.den where
 sh := fun x => (.fp (cellsOf T x), [])
 un := fun r => match r with
  | (.fp l, []) => Rc T l
  | _ => none
 ok := fun r x h => by
  refine Zmz.of_eq ?_
  split at h
  ·rw [Cd h]
  ·cases h
def shN : Sh Unit where
 sh := fun _ => (.tup [], [])
 un := fun r => match r with
  | (.tup [], []) => some ()
  | _ => none
 ok := fun r x h => by
  refine Zmz.of_eq ?_
  split at h
  ·rfl
  ·cases h
end Go.Sx
namespace Go.Sx
open Go Go.ChangeShapes Go.WideShapes Go.RowKit
mutual
inductive Lay (P : Program) : TypeId → Ty → Prop
 | int {t : TypeId} {k : IntKind} : P.underlying t = some (.int k) → Lay P t (.int k)
 | bool {t : TypeId} : P.underlying t = some .bool → Lay P t .bool
 | str {t : TypeId} : P.underlying t = some .string → Lay P t .str
 | slice {t e : TypeId} {a : Ty} : P.underlying t = some (.slice e) → P.cellsOf e = a.size → 0 < a.size → Lay P e a → Lay P t (.sl false a)
 | struct {t : TypeId} {ty : Ty} {fs : Array Field} {l : List Field} : P.underlying t = some (.struct fs) → fs.toList = l → P.cellsOf t = ty.size → ty.isAgg = true → ZoK P l 0 ty → Lay P t ty
inductive ZoK (P : Program) : List Field → Nat → Ty → Prop
 | nil {off : Nat} : ZoK P [] off .unit
 | cons {off off' : Nat} {f : Field} {fs : List Field} {a b : Ty} : f.offset = off → P.cellsOf f.type = a.size → off' = off + a.size → Lay P f.type a → ZoK P fs off' b → ZoK P (f :: fs) off (.pair a b)
end
def WfD : (t : Ty) → t.den → Prop
 | .int k, x => k.min ≤ x ∧ x ≤ k.max
 | .bool, _ => True
 | .str, s => ByteArray.size s ≤ maxLen
 | .unit, _ => True
 | .pair a b, x => WfD a x.1 ∧ WfD b x.2
 | .sl _ a, x => List.length x ≤ maxLen ∧ ∀ y ∈ (x : List a.den), WfD a y
section
variable {H : Type} {enc : TypeId × Value → H} {P : Program} {w : World}
def Zef (w : World) (k : Nat) : Prop := k < w.heap.size
theorem Zng {a : Addr} {n : Nat} {v : Value} (h : w.cell? (a.add n) = some v) : (a.add n).spot = none := by
 cases hs : (a.add n).spot with
 | none => rfl
 | some s => simp only [World.cell?] at h; split at h <;> simp [hs] at h
theorem Zf3 {a : Addr} (h : (a.add 0).spot = none) : a.spot = none := by
 cases a; simpa [Addr.add] using h
theorem ZiV {a : Ty} {e : TypeId} {A : Addr} {n : Nat} (hsp : A.spot = none)
  (ih : ∀ cs x, DataW.trod enc P w 0 (fun _ => true) true n e cs = some x → ∃ y, TR (Zef w) w false a y cs [] ∧ WfD a y) (hc : P.cellsOf e = a.size) :
  ∀ (m k : Nat) {ys : List (DataW H × List MemPlace)}, (List.range' k m).mapM (fun i => (w.cells? 0 (A.add (i * P.cellsOf e)) (P.cellsOf e)).bind (DataW.trod enc P w 0 (fun _ => true) true n e)) = some ys →
   ∃ (xs : List a.den) (inner : List Value), xs.length = m ∧ (∀ j c, inner[j]? = some c → w.cell? ⟨A.block, A.off + k * a.size + j, none⟩ = some c) ∧ Ye (TR (Zef w) w false a) xs inner [] ∧ ∀ y ∈ xs, WfD a y
 | 0, k, ys, _ => ⟨[], [], rfl, fun j c h => by simp at h, ⟨rfl, rfl⟩, fun y h => by cases h⟩
 | m + 1, k, ys, h => by
  rw [List.range'_succ, List.mapM_cons] at h;cases h1 : (w.cells? 0 (A.add (k * P.cellsOf e)) (P.cellsOf e)).bind (DataW.trod enc P w 0 (fun _ => true) true n e) with
  | none => simp [h1] at h
  | some y =>
   cases h2 : (List.range' (k + 1) m).mapM (fun i => (w.cells? 0 (A.add (i * P.cellsOf e)) (P.cellsOf e)).bind (DataW.trod enc P w 0 (fun _ => true) true n e)) with
   | none => simp [h1, h2] at h
   | some ys' =>
    obtain ⟨xs, inner, g1, g2, g3, g4⟩ := ZiV hsp ih hc m (k + 1) h2;simp only [Option.bind_eq_some_iff] at h1;obtain ⟨cs, hcs, htr⟩ := h1;obtain ⟨x, hx, hw⟩ := ih cs y htr;obtain ⟨_, hl, hcell⟩ := World.cells?_some hcs;refine ⟨x :: xs, cs ++ inner, by simp [g1], fun j c hj => ?_, ⟨cs, inner, [], [], rfl, rfl, hx, g3⟩, fun y hy => ?_⟩
    ·rw [List.getElem?_append] at hj
     split at hj
     ·rename_i hlt
      have := hcell j (by omega);rw [hj] at this;rw [WV hsp, WV (by rfl)] at this;rw [← hc];exact this
     ·have := g2 _ _ hj
      have e2 : A.off + (k + 1) * a.size + (j - cs.length) = A.off + k * a.size + j := by
       rw [hl, hc, Nat.add_mul]; omega
      rw [e2] at this;exact this
    ·rcases List.mem_cons.1 hy with rfl | hy
     ·exact hw
     ·exact g4 y hy
theorem ZhZ : ∀ (n : Nat) {t : TypeId} {ty : Ty}, Lay P t ty → ∀ cs x, DataW.trod enc P w 0 (fun _ => true) true n t cs = some x → ∃ y, TR (Zef w) w false ty y cs [] ∧ WfD ty y
 | 0, _, _, _, cs, x, h => by simp [DataW.trod] at h
 | n + 1, t, ty, hl, cs, x, h => by
  rw [DataW.trod_step] at h;unfold DataW.trodStep at h;cases hl with
  | @int _ k hu =>
   rw [hu] at h;cases cs with
   | nil => simp at h
   | cons c r =>
    cases r with
    | cons _ _ => cases c <;> simp at h
    | nil =>
     cases c with
     | int k' m =>
      simp only at h
      split at h
      ·rename_i hk
       obtain ⟨rfl, hwf⟩ := hk;simp only [Lit.wf, Bool.and_eq_true, decide_eq_true_eq] at hwf;exact ⟨m, ⟨rfl, rfl⟩, hwf⟩
      ·cases h
     | _ => simp at h
  | @bool _ hu =>
   rw [hu] at h;cases cs with
   | nil => simp at h
   | cons c r =>
    cases r with
    | cons _ _ => cases c <;> simp at h
    | nil =>
     cases c with
     | bool b => exact ⟨b, ⟨rfl, rfl⟩, trivial⟩
     | _ => simp at h
  | @str _ hu =>
   rw [hu] at h;cases cs with
   | nil => simp at h
   | cons c r =>
    cases r with
    | cons _ _ => cases c <;> simp at h
    | nil =>
     cases c with
     | string s =>
      simp only at h
      split at h
      ·rename_i hk; exact ⟨s, ⟨rfl, rfl⟩, hk⟩
      ·cases h
     | _ => simp at h
  | @slice _ e a hu hc hp hle =>
   rw [hu] at h;cases cs with
   | nil => simp at h
   | cons c r =>
    cases r with
    | cons _ _ => cases c <;> simp at h
    | nil =>
     cases c with
     | slice A len cap =>
      cases A with
      | none =>
       cases len with
       | succ _ => simp at h
       | zero =>
        cases cap with
        | succ _ => simp at h
        | zero => exact ⟨[], ⟨none, 0, rfl, Nat.le_refl _, by simp⟩, ⟨Nat.zero_le _, fun y hy => by cases hy⟩⟩
      | some A =>
       simp only at h
       split at h
       ·rename_i hk
        simp only [Option.bind_eq_some_iff] at h;obtain ⟨ys, hys, _⟩ := h;rw [List.range_eq_range'] at hys;have hsp : 0 < len → A.spot = none := by
         intro hpos;cases len with
         | zero => omega
         | succ m =>
          rw [List.range'_succ, List.mapM_cons] at hys;cases h1 : (w.cells? 0 (A.add (0 * P.cellsOf e)) (P.cellsOf e)).bind (DataW.trod enc P w 0 (fun _ => true) true n e) with
          | none => simp only [Nat.zero_mul] at h1 hys; simp [h1] at hys
          | some y =>
           simp only [Option.bind_eq_some_iff] at h1;obtain ⟨cs, hcs, _⟩ := h1;obtain ⟨_, hl, hcell⟩ := World.cells?_some hcs;have h0 := hcell 0 (by omega);have hg : ∃ c0, cs[0]? = some c0 := by
            cases cs with
            | nil => simp at hl; omega
            | cons c _ => exact ⟨c, rfl⟩
           obtain ⟨c0, hc0⟩ := hg;rw [hc0, Nat.zero_mul] at h0;exact Zf3 (Zf3 (Zng h0))
        by_cases hpos : 0 < len
        ·obtain ⟨xs, inner, g1, g2, g3, g4⟩ := ZiV (a := a) (hsp hpos) (fun cs x hx => ZhZ n hle cs x hx) hc len 0 hys
         subst g1;have hm : cap ≤ maxLen := hk.2.2;refine ⟨xs, ⟨some A, cap, rfl, hk.2.1, ?_⟩, ⟨Nat.le_trans hk.2.1 hm, g4⟩⟩;simp only [Bool.false_and, Bool.false_eq_true, if_false];refine ⟨trivial, fun _ => ⟨A, inner, rfl, hsp hpos, ?_, ?_, g3⟩⟩
         ·cases xs with
          | nil => simp at hpos
          | cons y ys' =>
           obtain ⟨c1, c2, S1, S2, k1, k2, k3, k4⟩ := g3;have hlen := k3.len;cases c1 with
           | nil => simp at hlen; omega
           | cons c c1' =>
            have := g2 0 c (by rw [k1]; rfl);simp only [Nat.zero_mul, Nat.add_zero] at this;show A.block < w.heap.size;have h9 := World.block_lt_of_cell? w _ this;exact h9
         ·intro j c hj
          have := g2 j c hj;simpa using this
        ·have : len = 0 := by omega
         subst this;exact ⟨[], ⟨some A, cap, rfl, Nat.zero_le _, by simp⟩, ⟨Nat.zero_le _, fun y hy => by cases hy⟩⟩
       ·cases h
     | _ => simp at h
  | @struct _ _ fs l hu hfl hsz ha hlf =>
   rw [hu] at h;simp only at h
   split at h
   ·rename_i hlen
    rw [hfl] at h;simp only [Option.map_eq_some_iff] at h;obtain ⟨ys, hys, _⟩ := h;have key : ∀ (l : List Field) (off : Nat) (ty : Ty) (ys : List (DataW H × List MemPlace)), ZoK P l off ty → off + ty.size = cs.length →
      l.mapM (fun f => DataW.trod enc P w 0 (fun _ => true) true n f.type ((cs.drop f.offset).take (P.cellsOf f.type))) = some ys → ∃ y, TR (Zef w) w false ty y (cs.drop off) [] ∧ WfD ty y := by
     intro l
     induction l with
     | nil =>
      intro off ty ys hlf hs _;cases hlf;refine ⟨(), ⟨?_, rfl⟩, trivial⟩;simp [Ty.size] at hs
      simp; omega
     | cons f fs ihl =>
      intro off ty ys hlf hs hm;cases hlf with
      | @cons _ off' _ _ a b h1 h2 h3 h4 h5 =>
       rw [List.mapM_cons] at hm;cases g1 : DataW.trod enc P w 0 (fun _ => true) true n f.type ((cs.drop f.offset).take (P.cellsOf f.type)) with
       | none => simp [g1] at hm
       | some y0 =>
        cases g2 : fs.mapM (fun f => DataW.trod enc P w 0 (fun _ => true) true n f.type ((cs.drop f.offset).take (P.cellsOf f.type))) with
        | none => simp [g1, g2] at hm
        | some ys' =>
         simp only [Ty.size] at hs;obtain ⟨x1, k1, k2⟩ := ZhZ n h4 _ _ g1;obtain ⟨x2, k3, k4⟩ := ihl off' b ys' h5 (by omega) g2;refine ⟨(x1, x2), ⟨_, _, [], [], ?_, rfl, k1, k3⟩, ⟨k2, k4⟩⟩;rw [h1, h2, h3, ← List.drop_drop, List.take_append_drop]
    have := key l 0 ty ys hlf (by rw [hlen, hsz]; omega) hys;simpa using this
   ·cases h
theorem Zh0 {t : TypeId} {ty : Ty} {r : Reach} {b : Nat} {v : Value} {y : ty.den} (hl : Lay P t ty) (hv : Value.okWide P w r b t v) (ht : TR (Zef w) w false ty y v.cells.toList []) : v = mkV ty v.cells.toList := by
 cases hl with
 | int hu => obtain ⟨n, rfl⟩ := okWide_int hu hv; rfl
 | bool hu => obtain ⟨n, rfl⟩ := okWide_bool hu hv; rfl
 | str hu => obtain ⟨n, rfl⟩ := okWide_string hu hv; rfl
 | slice hu => obtain ⟨A, n, c, rfl⟩ := okWide_slice hu hv; rfl
 | struct hu _ _ ha _ => obtain ⟨cs, rfl, _⟩ := okWide_struct hu hv; unfold mkV; rw [if_pos ha]; simp [Value.cells]
theorem ZiW {α β : Type} {f : α → Option β} : ∀ {l : List α} {r : List β}, l.mapM f = some r → r.length = l.length
 | [], r, h => by simp at h; subst h; rfl
 | x :: l, r, h => by
  rw [List.mapM_cons] at h;cases h1 : f x with
  | none => simp [h1] at h
  | some y =>
   cases h2 : l.mapM f with
   | none => simp [h1, h2] at h
   | some ys =>
    simp [h1, h2] at h;subst h;simp [ZiW h2]
theorem Zeg {sp : Nat → Bool} : ∀ (n : Nat) {t : TypeId} {ty : Ty}, Lay P t ty → ∀ cs x, DataW.trod enc P w 0 (fun _ => true) true n t cs = some x → (∀ p ∈ x.2, sp p.block = true) →
  DataW.trod enc P w 0 sp true n t cs = some x
 | 0, _, _, _, cs, x, h, _ => by simp [DataW.trod] at h
 | n + 1, t, ty, hl, cs, x, h, hs => by
  rw [DataW.trod_step] at h ⊢;unfold DataW.trodStep at h ⊢;cases hl with
  | int hu =>
   rw [hu] at h ⊢;cases cs with
   | nil => simp at h
   | cons c r =>
    cases r with
    | cons _ _ => cases c <;> simp at h
    | nil => cases c <;> first | exact h | simp at h
  | bool hu =>
   rw [hu] at h ⊢;cases cs with
   | nil => simp at h
   | cons c r =>
    cases r with
    | cons _ _ => cases c <;> simp at h
    | nil => cases c <;> first | exact h | simp at h
  | str hu =>
   rw [hu] at h ⊢;cases cs with
   | nil => simp at h
   | cons c r =>
    cases r with
    | cons _ _ => cases c <;> simp at h
    | nil => cases c <;> first | exact h | simp at h
  | @slice _ e a hu hc hp hle =>
   rw [hu] at h ⊢;cases cs with
   | nil => simp at h
   | cons c r =>
    cases r with
    | cons _ _ => cases c <;> simp at h
    | nil =>
     cases c with
     | slice A len cap =>
      cases A with
      | none => cases len <;> cases cap <;> first | exact h | simp at h
      | some A =>
       simp only at h ⊢
       split at h
       ·rename_i hk
        rw [if_pos hk];simp only [Option.bind_eq_some_iff, Option.map_eq_some_iff] at h ⊢;obtain ⟨ys, hys, zs, hzs, hx⟩ := h;subst hx;have pl : ∀ y ∈ ys ++ zs, ∀ p ∈ y.2, sp p.block = true := fun y hy p hp => hs p (by simp only [List.mem_append, List.mem_flatMap]; exact .inr ⟨y, List.mem_append.1 hy |>.elim (fun h => by simp [h]) (fun h => by simp [h]), hp⟩);refine ⟨ys, mapM_carry hys (fun i y _ hy hiy => ?_), zs, ?_, rfl⟩
        ·simp only [Option.bind_eq_some_iff] at hiy ⊢
         obtain ⟨q, h1, h2⟩ := hiy;exact ⟨q, h1, Zeg n hle _ _ h2 (pl y (by simp [hy]))⟩
        ·simp only [if_true] at hzs
         by_cases hcap : cap - len = 0
         ·rw [hcap] at hzs ⊢
          simp at hzs;subst hzs
          split <;> simp
         ·have hlz : zs.length = cap - len := by
           have := ZiW hzs;simpa using this
          have : sp A.block = true := by
           refine hs (.cell A.block (A.off + 0)) ?_;simp only [List.mem_append];refine .inl (MemPlace.mem_row.2 ⟨0, ?_, rfl⟩);rw [hc, hlz];exact Nat.mul_pos (by omega) hp
          rw [if_pos this];refine mapM_carry hzs (fun i y _ hy hiy => ?_);simp only [Option.bind_eq_some_iff] at hiy ⊢;obtain ⟨q, h1, h2⟩ := hiy;exact ⟨q, h1, Zeg n hle _ _ h2 (pl y (by simp [hy]))⟩
       ·cases h
     | _ => simp at h
  | @struct _ _ fs l hu hfl hsz ha hlf =>
   rw [hu] at h ⊢;simp only at h ⊢
   split at h
   ·rename_i hlen
    rw [if_pos hlen];rw [hfl] at h ⊢;simp only [Option.map_eq_some_iff] at h ⊢;obtain ⟨ys, hys, hx⟩ := h;subst hx;refine ⟨ys, ?_, rfl⟩;have lay : ∀ (l : List Field) (off : Nat) (ty : Ty), ZoK P l off ty → ∀ f ∈ l, ∃ a, Lay P f.type a := by
     intro l
     induction l with
     | nil => intro _ _ _ f hf; cases hf
     | cons g gs ih =>
      intro off ty hlf f hf;cases hlf with
      | @cons _ off' _ _ a b h1 h2 h3 h4 h5 =>
       rcases List.mem_cons.1 hf with rfl | hf
       ·exact ⟨a, h4⟩
       ·exact ih _ _ h5 f hf
    refine mapM_carry hys (fun f y hf hy hfy => ?_);obtain ⟨a, ha'⟩ := lay l 0 ty hlf f hf;exact Zeg n ha' _ _ hfy (fun p hp => hs p (by simp only [List.mem_flatMap]; exact ⟨y, hy, hp⟩))
   ·cases h
inductive ZcO (P : Program) : List TypeId → List Ty → Prop
 | nil : ZcO P [] []
 | cons {t : TypeId} {ty : Ty} {ts : List TypeId} {tys : List Ty} : Lay P t ty → ZcO P ts tys → ZcO P (t :: ts) (ty :: tys)
def WfA : (ts : List Ty) → Pg ts → Prop
 | [], _ => True
 | t :: ts, x => WfD t x.1 ∧ WfA ts x.2
theorem ZcP {r : Reach} {b : Nat} : ∀ {ts : List TypeId} {tys : List Ty}, ZcO P ts tys → ∀ {vs : List Value} {ds : List (DataW H)} {ps : List MemPlace},
  (∀ (j : Nat) t v, ts[j]? = some t → vs[j]? = some v → Value.okWide P w r b t v) → DataW.TrodAll enc P w 0 (fun _ => true) true ts vs ds ps →
   ds.length = tys.length ∧ ∃ xs : Pg tys, CVL (Zef w) w (Zkt tys xs) vs [] [] ∧ WfA tys xs
 | _, _, .nil, vs, ds, ps, hv, h => by
  obtain ⟨rfl, rfl, rfl⟩ := trodAll_nil h;exact ⟨rfl, (), by simp [Zkt, CVL], trivial⟩
 | _, _, .cons (t := t) (ty := ty) (ts := ts) (tys := tys) hl hls, vs, ds, ps, hv, h => by
  obtain ⟨v, vs', d, ds', p, q, rfl, rfl, rfl, ⟨n, h1⟩, h2⟩ := trodAll_cons h;obtain ⟨y, k1, k2⟩ := ZhZ n hl _ _ h1;obtain ⟨e, xs, k3, k4⟩ := ZcP hls (fun j t v ht hv' => hv (j + 1) t v (by simpa using ht) (by simpa using hv')) h2;refine ⟨by simp [e], (y, xs), ?_, ⟨k2, k4⟩⟩;simp only [Zkt, CVL];exact ⟨v, vs', [], [], [], [], rfl, rfl, rfl, by simp only [CV]; exact ⟨trivial, trivial, _, k1, Zh0 hl (hv 0 t v rfl rfl) k1⟩, k3⟩
theorem Nd {w' : World} {sp : Nat → Bool} (hsame : ∀ p : MemPlace, p.block < w.heap.size → w.sameAt w' p) : ∀ {ts : List TypeId} {tys : List Ty}, ZcO P ts tys → ∀ {vs : List Value} {ds : List (DataW H)} {ps : List MemPlace},
  DataW.TrodAll enc P w 0 (fun _ => true) true ts vs ds ps → (∀ p ∈ ps, sp p.block = true) → DataW.TrodAll enc P w' 0 sp true ts vs ds ps
 | _, _, .nil, vs, ds, ps, h, _ => by
  obtain ⟨rfl, rfl, rfl⟩ := trodAll_nil h;rfl
 | _, _, .cons hl hls, vs, ds, ps, h, hs => by
  obtain ⟨v, vs', d, ds', p, q, rfl, rfl, rfl, ⟨n, h1⟩, h2⟩ := trodAll_cons h;refine ⟨p, q, ⟨n, ?_⟩, Nd hsame hls h2 (fun x hx => hs x (by simp [hx])), rfl⟩;exact DataW.trod_carry n _ _ _ (Zeg n hl _ _ h1 (fun x hx => hs x (by simp [hx]))) (fun x hx => hsame x (DataW.trod_lt _ _ _ _ h1 x hx))
theorem Zh1 {w' : World} (hk : FM w w' []) (a : Addr) (ha : a.block < w.heap.size) : w'.frozen? a = w.frozen? a := by
 have := hk.same a.block ha (by simp);simp only [World.frozen?, this]
theorem ZlB {f : Func} {s : ChangeSpec} {apart fresh handsOn again : Bool} {w' : World} {args : Array Value} {v : Value} {ds : List (DataW H)} {p : List MemPlace}
  (hW : DataW.Whole enc P f.params.toList s.vars apart w args.toList ds [] p) (hv : s.vars = []) (hk : FM w w' [])
  (hr : ∀ (b : Nat) (sp : Nat → Bool) (hd : Bool), DataW.TrodAll enc P w' b sp hd f.resultTypes.toList (v.resultList f.resultTypes.size) (s.fn H (ds ++ [])).results [])
  (ha : ∀ sp : Nat → Bool, (∀ x ∈ p, sp x.block = true) → DataW.TrodAll enc P w' 0 sp true f.params.toList args.toList (s.fn H (ds ++ [])).args p)
  (hg : ∀ sp : Nat → Bool, DataW.TrodVars enc P w' sp s.vars (s.fn H (ds ++ [])).vars [])
  (hok : ∀ (j : Nat) (t : TypeId) (r : Value), f.resultTypes[j]? = some t → (v.resultList f.resultTypes.size)[j]? = some r → Value.okWide P w' .any 0 t r) (hb : w.keptBut w' (fun x => x ∈ p)) :
  s.post enc P f apart fresh handsOn again w args v w' := by
 have hlt : ∀ x ∈ p, x.block < w.heap.size := fun x hx => hW.lt x hx;have h1 := ha (fun b => decide (b < w.heap.size)) (fun x hx => by simpa using hlt x hx);have h2 := ha (fun _ => true) (fun _ _ => rfl);have hz : ∀ (b off : Nat), MemPlace.cell b off ∈ p → w'.frozen? ⟨b, off, none⟩ = false := fun b off hp => by
  rw [Zh1 hk ⟨b, off, none⟩ (hlt _ hp)];obtain ⟨_, _, _, _, _, hz, _⟩ := hW;exact hz b off hp
 have hn : apart = true → p.Nodup := by
  obtain ⟨_, _, _, _, _, _, hn⟩ := hW;exact hn
 have hall := ChangeShapes.trodAll_append h2 (hr 0 (fun _ => true) true);refine ⟨ds, [], p, [], p, [], hW, hr _ _ _, h1, hg _, World.keptBut_mono (fun x hx => ⟨hx, .inr (.inl hx)⟩) hb, fun _ => ⟨hok, (s.fn H (ds ++ [])).results ++ (s.fn H (ds ++ [])).args, (s.fn H (ds ++ [])).vars, p, ?_, fun x hx _ => hx⟩⟩;refine ⟨p, [], ?_, hg _, by simp, fun b off hp => hz b off (by simpa using hp), fun e => by simpa using hn e⟩;simpa using hall
theorem Zf4 {w' : World} (hk : FM w w' []) (may : MemPlace → Prop) : w.keptBut w' may := by
 refine ⟨hk.frz.os, hk.frz.out, fun i hi => ?_⟩;rw [hk.same i hi (by simp)];exact (World.keptBut_refl w may).2.2 i hi
theorem Zf5 {f : FuncId} {fn : Func} {s : ChangeSpec} {tys : List Ty} {tb : TypeId} (hp : ZcO P fn.params.toList tys) (hr : fn.resultTypes = #[tb]) (hb : P.underlying tb = some .bool) (hv : s.vars = [])
  (hs : ∀ (ds : List (DataW H)), ds.length = tys.length → s.fn H (ds ++ []) = { results := [.lit (.bool true)], args := ds })
  (hlaw : ∀ xs : Pg tys, WfA tys xs → Jl P f (Zkt tys xs) (.val .bool true) [])
  (W : World) (XE : Nat) (args : Array Value) (ds gs : List (DataW H)) (before : List MemPlace)
  (hval : ∀ (j : Nat) t v, fn.params[j]? = some t → args[j]? = some v → Value.okWide P W .any XE t v)
  (hW : DataW.Whole enc P fn.params.toList s.vars false W args.toList ds gs before) (hneed : PA (Zef W) W) (fresh handsOn again : Bool) :
  Calls P f args W fun e W' => ∃ v, e = .returned v ∧ s.post enc P fn false fresh handsOn again W args v W' := by
 have hW' := hW;obtain ⟨p, q, hA, hV, rfl, hfz, hnd⟩ := hW;rw [hv] at hV;obtain ⟨rfl, rfl⟩ := trodVars_none hV;obtain ⟨hl, xs, hc, hwf⟩ := ZcP hp (fun j t v h1 h2 => hval j t v (by simpa using h1) (by simpa using h2)) hA;have hcall := hlaw xs hwf (Zef W) W args.toList [] [] hc List.nodup_nil (fun k hk => by cases hk) (fun k hk => hk) hneed;rw [Array.toArray_toList] at hcall;refine hcall.mono ?_
 rintro e W' ⟨cr, S1, S2, he, _, _, hk, hcv, _⟩
 subst he;refine ⟨cr, rfl, ?_⟩;simp only [CV] at hcv;obtain ⟨rfl, _, cs, ⟨rfl, _⟩, hcr⟩ := hcv;have hcr : cr = .bool true := hcr;subst hcr;have hsame : ∀ p : MemPlace, p.block < W.heap.size → W.sameAt W' p := by
  intro p hp;cases p with
  | cell b o =>
   have := hk.same b hp (by simp);simp only [World.sameAt, World.cell?, this]
  | map b => exact hk.same b hp (by simp)
 have hso := hs ds hl;rw [List.append_nil] at hW';refine ZlB hW' hv hk ?_ ?_ ?_ ?_ (Zf4 hk _)
 ·intro b sp hd
  rw [hso, hr];exact trodAll_cons_mk (shut_bool hb _) trodAll_mk0
 ·intro sp hsp
  rw [hso];exact Nd hsame hp hA (fun x hx => hsp x (by simp [hx]))
 ·intro sp
  rw [hso, hv];exact rfl
 ·intro j t r h1 h2
  rw [hr] at h1 h2;cases j with
  | succ j => simp at h1
  | zero =>
   simp at h1;subst h1;simp [Value.resultList] at h2;subst h2;exact okWide_bool_mk hb _
end
def ZoL (ti : TypeId → Option TI) : List (Nat × TypeId) → Nat → Ty → Bool
 | [], _, t => match t with
  | .unit => true
  | _ => false
 | (o, ft) :: fs, off, t => match t with
  | .pair a b => Nat.beq o off && (match ti ft with
   | some fi => fi.ty.eqv a && fi.ty.noUq && a.noUq && ZoL ti fs (off + a.size) b
   | none => false)
  | _ => false
def ZpT (l : List (Nat × TI)) : Bool :=
 l.all fun q => match q.2.kind with
  | .struct fs => ZoL (ZF l) fs 0 q.2.ty
  | _ => true
def Ty.rk : Ty → Nat
 | .pair a b => a.rk + b.rk + 1
 | .sl _ a => a.rk + 1
 | _ => 1
theorem Ty.rk_pos : ∀ t : Ty, 0 < t.rk
 | .pair _ _ => by simp [Ty.rk]
 | .sl _ _ => by simp [Ty.rk]
 | .int _ => by simp [Ty.rk]
 | .bool => by simp [Ty.rk]
 | .str => by simp [Ty.rk]
 | .unit => by simp [Ty.rk]
theorem ZlC {P : Program} {E : Env} (h0 : EnvOk0 P E) {l : List (Nat × TI)} (hE : E.ti = ZF l) (hl : ZpT l = true) : ∀ (n : Nat) (t : TypeId) (i : TI), i.ty.rk ≤ n → E.ti t = some i → Lay P t i.ty
 | 0, t, i, hn, _ => by have := Ty.rk_pos i.ty; omega
 | n + 1, t, i, hn, hi => by
  have ok := h0.ti t i hi;obtain ⟨d, hd, hagg, hk⟩ := ok.desc;cases hkd : i.kind with
  | scalar =>
   rw [hkd] at hk;simp only at hk;cases hty : i.ty with
   | int k => rw [hty] at hk; subst hk; exact .int hd
   | bool => rw [hty] at hk; subst hk; exact .bool hd
   | str => rw [hty] at hk; subst hk; exact .str hd
   | unit => rw [hty] at hk; exact hk.elim
   | pair a b => rw [hty] at hk; exact hk.elim
   | sl u a => rw [hty] at hk; exact hk.elim
  | slice e =>
   rw [hkd] at hk;simp only at hk;obtain ⟨rfl, ie, hie, hty⟩ := hk;have oke := h0.ti e ie hie;obtain ⟨inf, q1, q2, _⟩ := oke.info;rw [hty];refine .slice hd ?_ oke.pos (ZlC h0 hE hl n e ie (by rw [hty] at hn; simp [Ty.rk] at hn; omega) hie);unfold Program.cellsOf;rw [q1];simpa using q2
  | struct fs =>
   rw [hkd] at hk;simp only at hk;obtain ⟨fields, rfl, hfs, _, ha⟩ := hk;have hb : ZoL (ZF l) fs 0 i.ty = true := by
    rw [hE] at hi;have := List.all_eq_true.1 hl (t, i) (Cb hi);simpa [hkd] using this
   obtain ⟨inf, q1, q2, _⟩ := ok.info;refine .struct hd rfl (by unfold Program.cellsOf; rw [q1]; simpa using q2) ha ?_;rw [← hE] at hb;have key : ∀ (fl : List Field) (fs : List (Nat × TypeId)) (off : Nat) (ty : Ty), ty.rk ≤ n + 1 → fl.map (fun f => (f.offset, f.type)) = fs → ZoL E.ti fs off ty = true → ZoK P fl off ty := by
    intro fl
    induction fl with
    | nil =>
     intro fs off ty _ hf hb;simp at hf;subst hf;cases ty <;> simp [ZoL] at hb;exact .nil
    | cons f fl ih =>
     intro fs off ty hr hf hb;simp only [List.map_cons] at hf;subst hf;cases ty with
     | pair a b =>
      simp only [ZoL, Bool.and_eq_true] at hb;obtain ⟨h1, h2⟩ := hb;cases hfi : E.ti f.type with
      | none => rw [hfi] at h2; simp at h2
      | some fi =>
       rw [hfi] at h2;simp only [Bool.and_eq_true] at h2;obtain ⟨⟨⟨k1, k2⟩, k3⟩, k4⟩ := h2;have e := Ty.eq_noUq k1 k2 k3;subst e;have okf := h0.ti f.type fi hfi;obtain ⟨inf, q1, q2, _⟩ := okf.info;simp only [Ty.rk] at hr;exact .cons (Nat.eq_of_beq_eq_true h1) (by unfold Program.cellsOf; rw [q1]; simpa using q2) rfl (ZlC h0 hE hl n f.type fi (by omega) hfi) (ih _ _ b (by omega) rfl k4)
     | _ => simp [ZoL] at hb
   exact key _ fs 0 i.ty hn hfs hb
end Go.Sx
namespace Go.Sx
open Go
theorem YV {α : Type} {xs : List α} {k : Nat} (h : k < xs.length) : nth xs k = some xs[k] := by
 rw [Eu, List.getElem?_eq_getElem h]
theorem Xo {k : Nat} (h : k ≤ 4611686018427387904) : IntKind.wrap .i64 ((k : Int) + 1) = ((k + 1 : Nat) : Int) := by
 rw [Zx (by omega) (by omega)]; omega
theorem Zh2 {α : Type} : ∀ {b : List α} {i : Nat} {y : α}, i < b.length → Ei b i y = some (upd b i y)
 | [], _, _, h => by simp at h
 | _ :: _, 0, _, _ => rfl
 | x :: b, i + 1, y, h => by
  simp only [Ei];rw [Zh2 (b := b) (i := i) (by simpa using h)];rfl
def SzR (q : Option Int) (a : Int) (P : Prop) : Prop := ∃ v, q = some v ∧ v ≤ a ∧ (0 ≤ v → P)
theorem SzR.imp {q : Option Int} {a : Int} {P Q : Prop} (h : SzR q a P) (f : P → Q) : SzR q a Q := by
 obtain ⟨v, h1, h2, h3⟩ := h;exact ⟨v, h1, h2, fun h => f (h3 h)⟩
theorem H2 {α β : Type} {g : β → α → Option β} {f : β → α → β} {xs : List α} {r : Nat → Int → β → Option β}
  (hr : ∀ n i b, r (n + 1) i b = bif decide (i < (xs.length : Int)) then (if (0 : Int) ≤ i then (nth xs i.toNat).bind fun y => (g b y).bind fun b' => r n (IntKind.wrap .i64 (i + 1)) b' else none) else some b)
  (hg : ∀ b, ∀ y ∈ xs, g b y = some (f b y)) (hl : xs.length ≤ 16777216) : ∀ (n k : Nat) (b : β), xs.length < n + k → k ≤ xs.length → r n k b = some ((xs.drop k).foldl f b)
 | 0, k, b, h, h2 => by omega
 | n + 1, k, b, h, h2 => by
  rw [hr];rcases Nat.lt_or_ge k xs.length with hk | hk
  ·rw [show decide ((k : Int) < (xs.length : Int)) = true by simpa using hk]
   simp only [cond_true, if_pos (Int.natCast_nonneg k), Int.toNat_natCast];rw [YV hk];simp only [Option.bind_some];rw [hg _ _ (List.getElem_mem hk)];simp only [Option.bind_some];rw [Xo (by omega), H2 hr hg hl n (k + 1) _ (by omega) (by omega), List.drop_eq_getElem_cons hk];rfl
  ·rw [show decide ((k : Int) < (xs.length : Int)) = false by simp; omega]
   simp only [cond_false];rw [List.drop_eq_nil_of_le hk];rfl
end Go.Sx
namespace Go.Sx
open Go
end Go.Sx
namespace Go.Sx
open Go
theorem ZlD {α : Type} : ∀ (b : List α) (i : Nat) (x y : α), upd (upd b i x) i y = upd b i y
 | [], _, _, _ => rfl
 | _ :: _, 0, _, _ => rfl
 | z :: b, i + 1, x, y => by simp only [upd]; rw [ZlD b i x y]
theorem Zj5 {α : Type} {b : List α} {i : Nat} (h : i < b.length) (y : α) : nth (upd b i y) i = some y := ZW (YV h)
theorem Znh {α : Type} {b : List α} {i : Nat} {x y : α} (h : i < b.length) : Ei (upd b i x) i y = some (upd b i y) := by
 rw [Zh2 (by rw [ZG]; exact h), ZlD]
theorem mk2 {α β : Type} {b : List α} {i : Nat} (h : i < b.length) (x : α) (f : α → α) (K : List α → Option β) :
  (if (0 : Int) ≤ (i : Int) then (if (i : Int) < ((upd b i x).length : Int) then (nth (upd b i x) (Int.toNat (i : Int))).bind fun y => (Ei (upd b i x) (Int.toNat (i : Int)) (f y)).bind K else none) else none) = K (upd b i (f x)) := by
 rw [if_pos (Int.natCast_nonneg i), if_pos (by rw [ZG]; omega), Int.toNat_natCast, Zj5 h];simp only [Option.bind_some, Znh h]
theorem mk4 {α β : Type} {b : List α} {i : Nat} {y : α} (h : nth b i = some y) (K : α → Option β) :
  (if (0 : Int) ≤ (i : Int) then (nth b (Int.toNat (i : Int))).bind K else none) = K y := by
 rw [if_pos (Int.natCast_nonneg i), Int.toNat_natCast, h];rfl
end Go.Sx
namespace Go.Sx
open Go
theorem ZiX {α β : Type} {p : α → Bool} {xs : List α} {b : β} {e : Option β} {r : Nat → Int → Option β}
  (hr : ∀ (n k : Nat) (hk : k < xs.length), r (n + 1) (k : Int) = bif p xs[k] then some b else r n ((k + 1 : Nat) : Int)) (h0 : ∀ n, r (n + 1) ((xs.length : Nat) : Int) = e) :
  ∀ (n k : Nat), xs.length < n + k → k ≤ xs.length → r n (k : Int) = bif (xs.drop k).any p then some b else e
 | 0, k, h, h2 => by omega
 | n + 1, k, h, h2 => by
  rcases Nat.lt_or_ge k xs.length with hk | hk
  ·rw [hr n k hk, List.drop_eq_getElem_cons hk, List.any_cons]
   cases p xs[k] with
   | true => rfl
   | false => simp only [cond_false, Bool.false_or]; exact ZiX hr h0 n (k + 1) (by omega) (by omega)
  ·have e1 : k = xs.length := by omega
   subst e1;rw [h0, List.drop_length]; rfl
theorem ZnW {α β : Type} {p : α → Bool} {xs : List α} {b : β} {e : Option β} {r : Nat → Int → Option β} {n : Nat}
  (hr : ∀ (n k : Nat) (hk : k < xs.length), r (n + 1) (k : Int) = bif p xs[k] then some b else r n ((k + 1 : Nat) : Int)) (h0 : ∀ n, r (n + 1) ((xs.length : Nat) : Int) = e)
  (hn : xs.length < n) : r n 0 = bif xs.any p then some b else e := by
 have := ZiX hr h0 n 0 (by omega) (Nat.zero_le _)
 rwa [Int.natCast_zero, List.drop_zero] at this
theorem ZoM (v : Int) : IntKind.wrap .i64 ((BitVec.ofInt IntKind.i64.bits v &&& BitVec.ofInt IntKind.i64.bits 1).toNat : Int) = v % 2 := by
 have h : (BitVec.ofInt IntKind.i64.bits v &&& BitVec.ofInt IntKind.i64.bits 1).toNat = (v % 2).toNat := by
  have hb : IntKind.i64.bits = 64 := rfl;rw [hb];have h1 : (BitVec.ofInt 64 1) = 1#64 := rfl;rw [h1, BitVec.toNat_and, BitVec.toNat_ofInt, show (1#64).toNat = 1 from rfl, Nat.and_one_is_mod];omega
 rw [h, Zx (by omega) (by omega)];omega
end Go.Sx
namespace Go.Sx
open Go
def ZoN (k : ByteArray) : Bool := bif k.data.toList.any (fun y => decide ((y.toNat : Int) < 97) || decide (122 < (y.toNat : Int))) then false else (bif decide ((1 : Int) ≤ (k.size : Int)) then decide ((k.size : Int) ≤ 3) else false)
def Zre (n : Int) : Bool := bif decide (0 ≤ n) then decide (n ≤ 1000000000) else false
abbrev Zsi : Type := Int × ByteArray × Int × Unit
def Zq2 (c : Zsi) : Bool := bif (bif decide ((1 : Int) ≤ c.1) then decide (c.1 ≤ 3) else false) then (bif ZoN c.2.1 then Zre c.2.2.1 else false) else false
end Go.Sx
