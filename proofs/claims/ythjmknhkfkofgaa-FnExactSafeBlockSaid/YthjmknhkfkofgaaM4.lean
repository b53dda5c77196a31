/- Calls are sound. -/
import Derived.Test.YthjmknhkfkofgaaM3
set_option linter.unusedVariables false
namespace Go.Sx
open Go

def Z.mk2 (z : Z) (rho : Rho) (h : List Blk) : Z := ⟨z.im, z.w, rho, h⟩

/-- no block of these is owned or promised -/
def Free (z : Z) (S : List Nat) : Prop := ∀ k ∈ S, ¬ z.im k ∧ ∀ b d, z.rho b = some d → live (nth z.h b) → k ∉ d.blks

structure Grew (z : Z) (rho' : Rho) (h' : List Blk) (S : List Nat) : Prop where
  iz : IZ (z.mk2 rho' h')
  ext : Ext z (z.mk2 rho' h')
  len : z.h.length ≤ h'.length
  old : ∀ b, b < z.h.length → nth h' b = nth z.h b ∧ rho' b = z.rho b
  new : ∀ b d, z.h.length ≤ b → rho' b = some d → live (nth h' b) → ∀ k ∈ d.blks, k ∈ S

theorem Grew.refl {z : Z} (hi : IZ z) : Grew z z.rho z.h [] :=
  ⟨hi, Ext.refl _, Nat.le_refl _, fun _ _ => ⟨rfl, rfl⟩, fun b d hb hr hl => by rw [nth_none.2 hb] at hl; exact hl.elim⟩

theorem Grew.trans {z : Z} {r1 r2 : Rho} {h1 h2 : List Blk} {S S' : List Nat} (a : Grew z r1 h1 S) (b : Grew (z.mk2 r1 h1) r2 h2 S') : Grew z r2 h2 (S ++ S') where
  iz := b.iz
  ext := a.ext.trans b.ext
  len := Nat.le_trans a.len b.len
  old := fun k hk => by
    have h1' := a.old k hk
    have h2' := b.old k (Nat.lt_of_lt_of_le hk a.len)
    exact ⟨h2'.1.trans h1'.1, h2'.2.trans h1'.2⟩
  new := fun k d hk hr hl q hq => by
    rcases Nat.lt_or_ge k h1.length with hlt | hge
    · have h2' := b.old k hlt
      rw [h2'.1] at hl
      rw [h2'.2] at hr
      exact List.mem_append.2 (.inl (a.new k d hk hr hl q hq))
    · exact List.mem_append.2 (.inr (b.new k d hge hr hl q hq))

theorem Free.step {z : Z} {r1 : Rho} {h1 : List Blk} {S S' : List Nat} (a : Grew z r1 h1 S) (hf : Free z S') (hd : ∀ k ∈ S, k ∉ S') : Free (z.mk2 r1 h1) S' := by
  intro k hk
  refine ⟨(hf k hk).1, fun b d hr hl hm => ?_⟩
  rcases Nat.lt_or_ge b z.h.length with hlt | hge
  · have h := a.old b hlt
    have hl' : live (nth h1 b) := hl
    rw [h.1] at hl'
    have hr' : r1 b = some d := hr
    rw [h.2] at hr'
    exact (hf k hk).2 b d hr' hl' hm
  · exact hd k (a.new b d hge hr hl k hm) hk

theorem add_arr {z : Z} (hi : IZ z) {t : Ty} {x : List t.den} {c : Value} {S : List Nat} (ht : TR z.im z.w true (.sl true t) x [c] S) (hp : 0 < t.size) (hn : S.Nodup) (hf : Free z S) :
    ∃ rho', Grew z rho' (z.h ++ [.arr 0 t x]) S ∧ V (z.mk2 rho' (z.h ++ [.arr 0 t x])) (.own z.h.length 0) c := by
  obtain ⟨A, cap, h1, h2, h3⟩ := ht
  simp only [List.cons.injEq, and_true] at h1
  subst h1
  refine ⟨rset z.rho z.h.length (.s A cap S), ?_, ?_⟩
  · have old : ∀ b d', rset z.rho z.h.length (.s A cap S) b = some d' → live (nth (z.h ++ [Blk.arr 0 t x]) b) → (b = z.h.length ∧ d' = .s A cap S) ∨ (b < z.h.length ∧ z.rho b = some d' ∧ live (nth z.h b)) := by
      intro b d' h1 h2
      rcases nth_snoc_cases z.h (Blk.arr 0 t x) b with ⟨e, _⟩ | ⟨e, h4⟩ | ⟨_, h4, _⟩
      · subst e; simp only [rset, if_pos] at h1; cases h1; exact .inl ⟨rfl, rfl⟩
      · have : b ≠ z.h.length := by omega
        simp only [rset, if_neg this] at h1
        rw [h4] at h2
        exact .inr ⟨e, h1, h2⟩
      · rw [h4] at h2; exact h2.elim
    have hext : Ext z (z.mk2 (rset z.rho z.h.length (.s A cap S)) (z.h ++ [.arr 0 t x])) := {
      im := fun k hk => ⟨hk, rfl⟩
      le := fun b => by
        show BlkLe (z.rho b) (rset z.rho z.h.length (.s A cap S) b) (nth z.h b) (nth (z.h ++ [Blk.arr 0 t x]) b)
        rcases nth_snoc_cases z.h (Blk.arr 0 t x) b with ⟨e, h4⟩ | ⟨e, h4⟩ | ⟨_, h4, h5⟩
        · subst e; rw [nth_none.2 (Nat.le_refl _)]; exact BlkLe.none
        · have : b ≠ z.h.length := by omega
          rw [h4]; simp only [rset, if_neg this]; exact BlkLe.refl _ _
        · rw [h5]; exact BlkLe.none }
    refine ⟨⟨?_, ?_, ?_, ?_⟩, hext, by simp, ?_, ?_⟩
    · intro b d' h1
      show SimB _ d' (nth (z.h ++ [Blk.arr 0 t x]) b)
      have h1 : rset z.rho z.h.length (.s A cap S) b = some d' := h1
      rcases nth_snoc_cases z.h (Blk.arr 0 t x) b with ⟨e, h4⟩ | ⟨e, h4⟩ | ⟨_, h4, _⟩
      · subst e; simp only [rset, if_pos] at h1; cases h1; rw [h4]
        exact ⟨A, cap, S, rfl, ⟨A, cap, rfl, h2, h3⟩, hp⟩
      · have hne : b ≠ z.h.length := by omega
        simp only [rset, if_neg hne] at h1
        rw [h4]
        exact (hi.sim b d' h1).ext hext (fun _ _ _ => rfl)
      · rw [h4]; trivial
    · intro b1 b2 d1 d2 h1 h2 l1 l2 hne k hk hk2
      rcases old b1 d1 h1 l1 with ⟨e0, e⟩ | ⟨_, e1, e2⟩
      · subst e
        rcases old b2 d2 h2 l2 with ⟨f0, _⟩ | ⟨_, f1, f2⟩
        · exact hne (e0.trans f0.symm)
        · exact (hf k hk).2 b2 d2 f1 f2 hk2
      · rcases old b2 d2 h2 l2 with ⟨_, f⟩ | ⟨_, f1, f2⟩
        · subst f; exact (hf k hk2).2 b1 d1 e1 e2 hk
        · exact hi.disj b1 b2 d1 d2 e1 f1 e2 f2 hne k hk hk2
    · intro b1 d1 h1 l1
      rcases old b1 d1 h1 l1 with ⟨_, e⟩ | ⟨_, e1, e2⟩
      · subst e; exact hn
      · exact hi.nodup b1 d1 e1 e2
    · intro b1 d1 h1 l1 k hk
      rcases old b1 d1 h1 l1 with ⟨_, e⟩ | ⟨_, e1, e2⟩
      · subst e; exact (hf k hk).1
      · exact hi.sep b1 d1 e1 e2 k hk
    · intro b hb
      exact ⟨nth_append_lt hb, by simp only [rset]; rw [if_neg (by omega)]⟩
    · intro b d hb hr hl k hk
      rcases old b d hr hl with ⟨_, e⟩ | ⟨e, _⟩
      · subst e; exact hk
      · omega
  · exact own_at (z := z.mk2 (rset z.rho z.h.length (.s A cap S)) (z.h ++ [Blk.arr 0 t x])) (b := z.h.length) (v := 0) (a := t) (x := x) (show nth (z.h ++ [Blk.arr 0 t x]) z.h.length = _ from nth_snoc _ _) rset_same rfl

theorem nodup_parts {S1 S2 : List Nat} (h : (S1 ++ S2).Nodup) : S1.Nodup ∧ S2.Nodup ∧ ∀ k ∈ S1, k ∉ S2 := by
  obtain ⟨h1, h2, h3⟩ := List.nodup_append.1 h
  exact ⟨h1, h2, fun k hk hk2 => h3 k hk k hk2 rfl⟩

theorem openC_ok : ∀ (t : Ty) {z : Z} (_ : IZ z) (x : t.den) (cs : List Value) (S : List Nat), t.okU = true → TR z.im z.w true t x cs S → S.Nodup → Free z S →
    ∃ rho', Grew z rho' (openC t x z.h).2 S ∧ VL (z.mk2 rho' (openC t x z.h).2) (openC t x z.h).1 cs := by
  intro t
  have base : ∀ {t : Ty} {z : Z} (_ : IZ z) {x : t.den} {cs : List Value} {S : List Nat}, t.isAgg = false → S = [] → TR z.im z.w false t x cs [] →
      ∃ rho', Grew z rho' z.h S ∧ VL (z.mk2 rho' z.h) [.val t x] cs := by
    intro t z hi x cs S ha hS ht
    subst hS
    refine ⟨z.rho, Grew.refl hi, ?_⟩
    obtain ⟨c, rfl, _⟩ := ht.scalar ha
    simp only [VL, V]
    exact ⟨c, [], rfl, ⟨[c], ht, by simp [mkV, ha]⟩, rfl⟩
  induction t with
  | int k => intro z hi x cs S _ ht _ _; exact base hi rfl ht.2 ⟨ht.1, rfl⟩
  | bool => intro z hi x cs S _ ht _ _; exact base hi rfl ht.2 ⟨ht.1, rfl⟩
  | str => intro z hi x cs S _ ht _ _; exact base hi rfl ht.2 ⟨ht.1, rfl⟩
  | unit =>
    intro z hi x cs S _ ht _ _
    obtain ⟨rfl, rfl⟩ := ht
    exact ⟨z.rho, Grew.refl hi, by simp only [openC, VL]⟩
  | pair a b iha ihb =>
    intro z hi x cs S hu ht hn hf
    simp only [Ty.okU, Bool.and_eq_true] at hu
    obtain ⟨c1, c2, S1, S2, rfl, rfl, h3, h4⟩ := ht
    obtain ⟨n1, n2, n3⟩ := nodup_parts hn
    obtain ⟨r1, g1, v1⟩ := iha hi x.1 c1 S1 hu.1 h3 n1 (fun k hk => hf k (by simp [hk]))
    have h4' : TR (z.mk2 r1 (openC a x.1 z.h).2).im (z.mk2 r1 (openC a x.1 z.h).2).w true b x.2 c2 S2 := h4
    obtain ⟨r2, g2, v2⟩ := ihb (z := z.mk2 r1 (openC a x.1 z.h).2) g1.iz x.2 c2 S2 hu.2 h4' n2 (Free.step g1 (fun k hk => hf k (by simp [hk])) n3)
    simp only [openC]
    refine ⟨r2, g1.trans g2, ?_⟩
    exact (VL.ext g2.ext _ _ v1).append v2
  | sl u a _ =>
    intro z hi x cs S hu ht hn hf
    cases u with
    | false =>
      obtain ⟨A, cap, h1, h2, h3⟩ := ht
      simp only [Bool.and_false, Bool.false_eq_true, if_false] at h3
      exact base hi rfl h3.1 ⟨A, cap, h1, h2, by simp only [Bool.and_false, Bool.false_eq_true, if_false]; exact ⟨trivial, h3.2⟩⟩
    | true =>
      simp only [Ty.okU, Bool.and_eq_true] at hu
      obtain ⟨c, rfl, _⟩ := ht.scalar rfl
      obtain ⟨rho', g, v⟩ := add_arr hi ht (by have := hu.1; rwa [Nat.blt_eq] at this) hn hf
      simp only [openC, cond_true]
      refine ⟨rho', g, ?_⟩
      simp only [VL]
      exact ⟨c, [], rfl, v, rfl⟩

theorem aggOr_V {z : Z} {t : Ty} {l : List SV} {cs : List Value} (hv : VL z l cs) (hl : cs.length = t.size) : V z (aggOr t l) (mkV t cs) := by
  unfold aggOr mkV
  cases ha : t.isAgg with
  | true => simp only [cond_true, if_true, V]; exact ⟨cs, rfl, hv⟩
  | false =>
    have hl : cs.length = 1 := hl.trans (size_scalar ha)
    have h2 := hv.length
    rw [hl] at h2
    match l, h2 with
    | [v], _ =>
      simp only [VL] at hv
      obtain ⟨c', r, rfl, h2, rfl⟩ := hv
      simpa using h2

mutual
theorem thaw_ok : ∀ (v : SV) {z : Z} (_ : IZ z) (c : Value) (S : List Nat), CV z.im z.w v c S [] → S.Nodup → Free z S →
    ∃ rho', Grew z rho' (thaw z.h v).2 S ∧ V (z.mk2 rho' (thaw z.h v).2) (thaw z.h v).1 c
  | .val t x, z, hi, c, S, hv, _, _ => by
    simp only [CV] at hv
    obtain ⟨rfl, _, cs, h1, h2⟩ := hv
    refine ⟨z.rho, Grew.refl hi, ?_⟩
    simp only [thaw, V]
    exact ⟨cs, h1, h2⟩
  | .nil, z, hi, c, S, hv, _, _ => by
    simp only [CV] at hv
    obtain ⟨rfl, _, rfl⟩ := hv
    exact ⟨z.rho, Grew.refl hi, by simp only [thaw, V]⟩
  | .fr t x, z, hi, c, S, hv, hn, hf => by
    simp only [CV] at hv
    obtain ⟨_, h1, h2⟩ := hv
    simp only [thaw]
    exact add_arr hi h2 h1 hn hf
  | .fv t x, z, hi, c, S, hv, hn, hf => by
    simp only [CV] at hv
    obtain ⟨_, h1, cs, h2, rfl⟩ := hv
    obtain ⟨rho', g, v⟩ := openC_ok t hi x cs S h1 h2 hn hf
    simp only [thaw]
    exact ⟨rho', g, aggOr_V v h2.len⟩
  | .io t x, z, hi, c, S, hv, _, _ => by
    simp only [CV] at hv
    cases hv.1
  | .agg l, z, hi, c, S, hv, hn, hf => by
    simp only [CV] at hv
    obtain ⟨cs, rfl, h2⟩ := hv
    obtain ⟨rho', g1, g2⟩ := thawL_ok l hi cs S h2 hn hf
    simp only [thaw]
    refine ⟨rho', g1, ?_⟩
    simp only [V]
    exact ⟨cs, rfl, g2⟩
  | .tup l, z, hi, c, S, hv, hn, hf => by
    simp only [CV] at hv
    obtain ⟨cs, rfl, h2⟩ := hv
    obtain ⟨rho', g1, g2⟩ := thawL_ok l hi cs S h2 hn hf
    simp only [thaw]
    refine ⟨rho', g1, ?_⟩
    simp only [V]
    exact ⟨cs, rfl, g2⟩
  | .fn f l, z, hi, c, S, hv, hn, hf => by
    simp only [CV] at hv
    obtain ⟨cs, rfl, h2⟩ := hv
    obtain ⟨rho', g1, g2⟩ := thawL_ok l hi cs S h2 hn hf
    simp only [thaw]
    refine ⟨rho', g1, ?_⟩
    simp only [V]
    exact ⟨cs, rfl, g2⟩
  | .mr l, z, hi, c, S, hv, _, _ => by
    simp only [CV] at hv
    obtain ⟨_, _, _, _, _, _, h, _⟩ := hv
    cases h
  | .own _ _, _, _, _, _, h, _, _ => by simp only [CV] at h
  | .sub _ _ _ _, _, _, _, _, h, _, _ => by simp only [CV] at h
  | .ptr _ _, _, _, _, _, h, _, _ => by simp only [CV] at h
  | .eptr _ _ _ _, _, _, _, _, h, _, _ => by simp only [CV] at h
  | .rptr _ _ _, _, _, _, _, h, _, _ => by simp only [CV] at h
  | .dead, z, hi, _, _, h, _, _ => by
    simp only [CV] at h
    obtain ⟨rfl, _⟩ := h
    exact ⟨z.rho, Grew.refl hi, by simp only [thaw, V]⟩
theorem thawL_ok : ∀ (l : List SV) {z : Z} (_ : IZ z) (cs : List Value) (S : List Nat), CVL z.im z.w l cs S [] → S.Nodup → Free z S →
    ∃ rho', Grew z rho' (thawL z.h l).2 S ∧ VL (z.mk2 rho' (thawL z.h l).2) (thawL z.h l).1 cs
  | [], z, hi, cs, S, hv, _, _ => by
    simp only [CVL] at hv
    obtain ⟨rfl, rfl, _⟩ := hv
    exact ⟨z.rho, Grew.refl hi, by simp only [thawL, VL]⟩
  | x :: l, z, hi, cs, S, hv, hn, hf => by
    simp only [CVL] at hv
    obtain ⟨c, r, S1, S2, B1, B2, rfl, rfl, hB, h4, h5⟩ := hv
    have hB' : B1 = [] ∧ B2 = [] := by have := hB.symm; simpa using this
    obtain ⟨rfl, rfl⟩ := hB'
    obtain ⟨n1, n2, n3⟩ := nodup_parts hn
    obtain ⟨r1, g1, v1⟩ := thaw_ok x hi c S1 h4 n1 (fun k hk => hf k (by simp [hk]))
    obtain ⟨r2, g2, v2⟩ := thawL_ok l (z := z.mk2 r1 (thaw z.h x).2) g1.iz r S2 h5 n2 (Free.step g1 (fun k hk => hf k (by simp [hk])) n3)
    simp only [thawL]
    refine ⟨r2, g1.trans g2, ?_⟩
    simp only [VL]
    exact ⟨c, r, rfl, V.ext g2.ext _ _ v1, v2⟩
end

/-- a lent variable that is filled again -/
theorem fill_box {z : Z} (hi : IZ z) {b blk : Nat} {cells : List SV} {cs : List Value} {e : TypeId} (hr : z.rho b = some (.v blk)) (hb : nth z.h b = some .lent) (hh : z.w.heap[blk]? = some (.cells cs.toArray e (0, 0)))
    (hv : VL z cells cs) : IZ (z.withH (upd z.h b (.vars cells))) ∧ Ext z (z.withH (upd z.h b (.vars cells))) := by
  have hext : Ext z (z.withH (upd z.h b (.vars cells))) := {
    im := fun k hk => ⟨hk, rfl⟩
    le := fun b' => by
      show BlkLe (z.rho b') (z.rho b') (nth z.h b') (nth (upd z.h b (.vars cells)) b')
      by_cases e : b' = b
      · subst e; rw [nth_upd_eq hb, hb]; exact ⟨fun _ => rfl, fun h => (by cases h), fun _ _ _ h => (by cases h), fun _ => .inr ⟨rfl, .inr ⟨_, rfl⟩⟩⟩
      · rw [nth_upd_ne (Ne.symm e)]; exact BlkLe.refl _ _ }
  have hl : ∀ b', live (nth (upd z.h b (.vars cells)) b') → live (nth z.h b') := by
    intro b' hl
    by_cases e : b' = b
    · subst e; rw [hb]; trivial
    · rwa [nth_upd_ne (Ne.symm e)] at hl
  refine ⟨⟨fun b' d hd => ?_, fun b1 b2 d1 d2 h1 h2 l1 l2 => hi.disj b1 b2 d1 d2 h1 h2 (hl _ l1) (hl _ l2), fun b1 d1 h1 l1 => hi.nodup b1 d1 h1 (hl _ l1), fun b1 d1 h1 l1 => hi.sep b1 d1 h1 (hl _ l1)⟩, hext⟩
  show SimB _ d (nth (upd z.h b (.vars cells)) b')
  by_cases e : b' = b
  · subst e
    rw [nth_upd_eq hb]
    have hd : z.rho b' = some d := hd
    rw [hr] at hd
    cases hd
    exact ⟨blk, cs, _, rfl, hh, VL.ext hext _ _ hv⟩
  · rw [nth_upd_ne (Ne.symm e)]
    exact (hi.sim b' d hd).ext hext (fun _ _ _ => rfl)

def boxB : List LC → List Nat
  | [] => []
  | .box b :: l => b :: boxB l
  | .arr _ _ :: l => boxB l

inductive BoxAt (z : Z) : List Lnt → List LC → Prop
  | nil : BoxAt z [] []
  | cons {b blk : Nat} {bs : List Lnt} {blks : List LC} : z.rho b = some (.v blk) → nth z.h b = some .lent → BoxAt z bs blks → BoxAt z (.box b :: bs) (.box blk :: blks)
  | arr {b v n cap : Nat} {A : Option Addr} {t : Ty} {bs : List Lnt} {blks : List LC} : z.rho b = some (.s A cap []) → nth z.h b = some (.held v t n) → 0 < t.size → BoxAt z bs blks →
      BoxAt z (.arr b v t :: bs) (.arr (.slice A n cap) t :: blks)

theorem BoxAt.keep {z z' : Z} {bs : List Lnt} {blks : List LC} (hb : BoxAt z bs blks) (h : ∀ b ∈ lntN bs, z'.rho b = z.rho b ∧ nth z'.h b = nth z.h b) : BoxAt z' bs blks := by
  induction hb with
  | nil => exact .nil
  | cons h1 h2 _ ih =>
    have := h _ (List.mem_cons_self ..)
    exact .cons (this.1.trans h1) (this.2.trans h2) (ih (fun b hb => h b (List.mem_cons_of_mem _ hb)))
  | arr h1 h2 h3 _ ih =>
    have := h _ (List.mem_cons_self ..)
    exact .arr (this.1.trans h1) (this.2.trans h2) h3 (ih (fun b hb => h b (List.mem_cons_of_mem _ hb)))
theorem BoxAt.lt {z : Z} {bs : List Lnt} {blks : List LC} (hb : BoxAt z bs blks) : ∀ q ∈ lntN bs, q < z.h.length := by
  induction hb with
  | nil => intro q hq; cases hq
  | cons _ h2 _ ih =>
    intro q hq
    rcases List.mem_cons.1 hq with rfl | hq
    · exact nth_lt h2
    · exact ih q hq
  | arr _ h2 _ _ ih =>
    intro q hq
    rcases List.mem_cons.1 hq with rfl | hq
    · exact nth_lt h2
    · exact ih q hq

/-- a lent list that is there again -/
theorem fill_arr {z : Z} (hi : IZ z) {b v n cap : Nat} {A : Option Addr} {t : Ty} {y : List t.den} {S1 : List Nat} (hr : z.rho b = some (.s A cap [])) (hb : nth z.h b = some (.held v t n))
    (ht : TR z.im z.w true (.sl true t) y [.slice A n cap] S1) (hp : 0 < t.size) (hn : S1.Nodup) (hf : Free z S1) :
    IZ (z.mk2 (rset z.rho b (.s A cap S1)) (upd z.h b (.arr v t y))) ∧ Ext z (z.mk2 (rset z.rho b (.s A cap S1)) (upd z.h b (.arr v t y))) := by
  have hyl : y.length = n := by
    obtain ⟨A1, cap1, h1, _⟩ := ht
    simp only [List.cons.injEq, and_true, Value.slice.injEq] at h1
    exact h1.2.1.symm
  have hext : Ext z (z.mk2 (rset z.rho b (.s A cap S1)) (upd z.h b (.arr v t y))) := {
    im := fun k hk => ⟨hk, rfl⟩
    le := fun b' => by
      show BlkLe (z.rho b') (rset z.rho b (.s A cap S1) b') (nth z.h b') (nth (upd z.h b (.arr v t y)) b')
      by_cases e : b' = b
      · subst e
        rw [nth_upd_eq hb, hb, hr, rset_same]
        refine ⟨fun _ => rfl, fun h => (by cases h), fun v1 t1 n1 h1 => ?_, fun h => (by rcases h with h | ⟨c, h⟩ <;> cases h)⟩
        simp only [infoO, Blk.info, Option.some.injEq, Prod.mk.injEq] at h1
        obtain ⟨rfl, rfl, rfl⟩ := h1
        refine .inr ⟨v, t, y.length, rfl, .inr ⟨rfl, rfl, hyl, fun A' cap' S' e => ?_⟩⟩
        cases e
        exact ⟨S1, rfl⟩
      · rw [nth_upd_ne (Ne.symm e)]; simp only [rset, if_neg e]; exact BlkLe.refl _ _ }
  have old : ∀ b' d, rset z.rho b (.s A cap S1) b' = some d → live (nth (upd z.h b (.arr v t y)) b') → (b' = b ∧ d = .s A cap S1) ∨ (b' ≠ b ∧ z.rho b' = some d ∧ live (nth z.h b')) := by
    intro b' d h1 h2
    by_cases e : b' = b
    · subst e; rw [rset_same] at h1; cases h1; exact .inl ⟨rfl, rfl⟩
    · simp only [rset, if_neg e] at h1
      rw [nth_upd_ne (Ne.symm e)] at h2
      exact .inr ⟨e, h1, h2⟩
  refine ⟨⟨fun b' d hd => ?_, fun b1 b2 d1 d2 h1 h2 l1 l2 hne k hk hk2 => ?_, fun b1 d1 h1 l1 => ?_, fun b1 d1 h1 l1 k hk => ?_⟩, hext⟩
  · show SimB _ d (nth (upd z.h b (.arr v t y)) b')
    have hd : rset z.rho b (.s A cap S1) b' = some d := hd
    by_cases e : b' = b
    · subst e
      rw [nth_upd_eq hb]
      rw [rset_same] at hd
      cases hd
      exact ⟨A, cap, S1, rfl, by rw [hyl]; exact ht, hp⟩
    · rw [nth_upd_ne (Ne.symm e)]
      simp only [rset, if_neg e] at hd
      exact (hi.sim b' d hd).ext hext (fun _ _ _ => rfl)
  · rcases old b1 d1 h1 l1 with ⟨e0, e⟩ | ⟨_, e1, e2⟩
    · subst e
      rcases old b2 d2 h2 l2 with ⟨f0, _⟩ | ⟨_, f1, f2⟩
      · exact hne (e0.trans f0.symm)
      · exact (hf k hk).2 b2 d2 f1 f2 hk2
    · rcases old b2 d2 h2 l2 with ⟨_, f⟩ | ⟨_, f1, f2⟩
      · subst f; exact (hf k hk2).2 b1 d1 e1 e2 hk
      · exact hi.disj b1 b2 d1 d2 e1 f1 e2 f2 hne k hk hk2
  · rcases old b1 d1 h1 l1 with ⟨_, e⟩ | ⟨_, e1, e2⟩
    · subst e; exact hn
    · exact hi.nodup b1 d1 e1 e2
  · rcases old b1 d1 h1 l1 with ⟨_, e⟩ | ⟨_, e1, e2⟩
    · subst e; exact (hf k hk).1
    · exact hi.sep b1 d1 e1 e2 k hk

theorem boxB_sub {im : Nat → Prop} {w : World} : ∀ (outs : List (List SV)) (blks : List LC) (S2 : List Nat), Outs im w outs blks S2 → ∀ q ∈ boxB blks, q ∈ S2
  | [], [], S2, ho, q, hq => by cases hq
  | [], _ :: _, S2, ho, q, hq => by simp only [Outs] at ho
  | _ :: _, [], S2, ho, q, hq => by simp only [Outs] at ho
  | c :: outs, .box b' :: blks, S2, ho, q, hq => by
    simp only [Outs] at ho
    obtain ⟨cells, e, T1, T2, rfl, _, _, ho⟩ := ho
    rcases List.mem_cons.1 hq with rfl | hq
    · simp
    · have := boxB_sub outs blks T2 ho q hq; simp [this]
  | c :: outs, .arr a t :: blks, S2, ho, q, hq => by
    simp only [Outs] at ho
    obtain ⟨x, T1, T2, _, rfl, _, ho⟩ := ho
    have := boxB_sub outs blks T2 ho q hq; simp [this]

/-- the blocks of lent variables are not free, all others are -/
theorem refill_ok : ∀ (outs : List (List SV)) {z : Z} (_ : IZ z) (bs : List Lnt) (blks : List LC) (S : List Nat) (h' : List Blk), Outs z.im z.w outs blks S → BoxAt z bs blks → (lntN bs).Nodup → S.Nodup →
    (∀ k ∈ S, k ∉ boxB blks → ¬ z.im k ∧ ∀ b d, z.rho b = some d → live (nth z.h b) → k ∉ d.blks) → refill z.h bs outs = some h' →
    ∃ rho', IZ (z.mk2 rho' h') ∧ Ext z (z.mk2 rho' h') ∧ z.h.length ≤ h'.length ∧
      (∀ b d, rho' b = some d → live (nth h' b) → (z.rho b = some d ∧ live (nth z.h b)) ∨ ∀ k ∈ d.blks, k ∈ S)
  | [], z, hi, bs, blks, S, h', ho, hb, _, _, _, hr => by
    cases hb with
    | nil =>
      simp only [refill, Option.some.injEq] at hr
      subst hr
      exact ⟨z.rho, hi, Ext.refl _, Nat.le_refl _, fun b d h1 h2 => .inl ⟨h1, h2⟩⟩
    | cons _ _ _ => simp only [Outs] at ho
    | arr _ _ _ _ => simp only [Outs] at ho
  | c :: outs, z, hi, bs, blks, S, h', ho, hb, hnb, hn, hf, hr => by
    cases hb with
    | nil => simp only [Outs] at ho
    | @arr b v n cap A t bs blks h1 h2 h3 h4 =>
      simp only [Outs] at ho
      obtain ⟨y, S1, S2, rfl, rfl, hty, ho⟩ := ho
      simp only [refill] at hr
      obtain ⟨nb1, nb2⟩ := List.nodup_cons.1 hnb
      obtain ⟨n1, n2, n3⟩ := nodup_parts hn
      have hsub := boxB_sub outs blks S2 ho
      have hfree1 : Free z S1 := fun k hk => hf k (by simp [hk]) (fun hm => n3 k hk (hsub k hm))
      cases hts : toS (.sl true t) (.sl true t) y with
      | none => rw [hts] at hr; cases hr
      | some y' =>
        rw [hts] at hr
        simp only at hr
        obtain ⟨e1, e2⟩ := toS_ok hts
        have e2 : y = y' := by cases e1; exact e2
        subst e2
        obtain ⟨i2, e2⟩ := fill_arr hi h1 h2 hty h3 n1 hfree1
        have hlive : ∀ q, live (nth (upd z.h b (.arr v t y)) q) → live (nth z.h q) := by
          intro q hl
          by_cases eq : q = b
          · subst eq; rw [h2]; trivial
          · rwa [nth_upd_ne (Ne.symm eq)] at hl
        have hkeep : BoxAt (z.mk2 (rset z.rho b (.s A cap S1)) (upd z.h b (.arr v t y))) bs blks := h4.keep (fun q hq => by
          have hqb : b ≠ q := fun e => nb1 (by rw [show Lnt.n (.arr b v t) = q from e]; exact hq)
          exact ⟨by show rset _ _ _ q = _; simp only [rset, if_neg (Ne.symm hqb)], nth_upd_ne hqb⟩)
        obtain ⟨r2, j1, j2, j3, j5⟩ := refill_ok outs (z := z.mk2 (rset z.rho b (.s A cap S1)) (upd z.h b (.arr v t y))) i2 bs blks S2 h' ho hkeep nb2 n2 (by
          intro k hk hkb
          have hfk := hf k (by simp [hk]) hkb
          refine ⟨hfk.1, fun q d hr hl hm => ?_⟩
          have hr : rset z.rho b (.s A cap S1) q = some d := hr
          by_cases eq : q = b
          · subst eq
            rw [rset_same] at hr
            cases hr
            exact n3 k hm hk
          · simp only [rset, if_neg eq] at hr
            exact hfk.2 q d hr (hlive q hl) hm) hr
        refine ⟨r2, j1, e2.trans j2, ?_, fun q d hq hl => ?_⟩
        · have j3' : (upd z.h b (.arr v t y)).length ≤ h'.length := j3
          rwa [upd_length] at j3'
        · rcases j5 q d hq hl with ⟨k1, k2⟩ | k
          · have k1 : rset z.rho b (.s A cap S1) q = some d := k1
            by_cases eq : q = b
            · subst eq
              rw [rset_same] at k1
              cases k1
              exact .inr (fun m hm => List.mem_append.2 (.inl hm))
            · simp only [rset, if_neg eq] at k1
              exact .inl ⟨k1, hlive q k2⟩
          · exact .inr (fun m hm => by have := k m hm; simp [this])
    | @cons b blk bs blks h1 h2 h4 =>
      simp only [Outs] at ho
      obtain ⟨cells, e, S1, S2, rfl, hh, hv, ho⟩ := ho
      simp only [refill] at hr
      obtain ⟨h3, nb2⟩ := List.nodup_cons.1 hnb
      obtain ⟨hnb, hn12⟩ := List.nodup_cons.1 hn
      obtain ⟨n1, n2, n3⟩ := nodup_parts hn12
      have hsub := boxB_sub outs blks S2 ho
      have hfree1 : Free z S1 := fun k hk => hf k (by simp [hk]) (by
        intro hm
        rcases List.mem_cons.1 hm with rfl | hm
        · exact hnb (by simp [hk])
        · exact n3 k hk (hsub k hm))
      obtain ⟨r1, g1, v1⟩ := thawL_ok c hi cells S1 hv n1 hfree1
      have hblt : b < z.h.length := nth_lt h2
      have hb1 : nth (thawL z.h c).2 b = some .lent := ((g1.old b hblt).1).trans h2
      have hr1 : r1 b = some (.v blk) := ((g1.old b hblt).2).trans h1
      obtain ⟨i2, e2⟩ := fill_box (z := z.mk2 r1 (thawL z.h c).2) g1.iz hr1 hb1 hh v1
      have hkeep : BoxAt ((z.mk2 r1 (thawL z.h c).2).withH (upd (thawL z.h c).2 b (.vars (thawL z.h c).1))) bs blks := h4.keep (fun q hq => by
        have hql := h4.lt q hq
        have hqb : b ≠ q := fun e => h3 (by rw [show Lnt.n (.box b) = q from e]; exact hq)
        refine ⟨(g1.old q hql).2, ?_⟩
        show nth (upd (thawL z.h c).2 b _) q = _
        rw [nth_upd_ne hqb]
        exact (g1.old q hql).1)
      have hlive : ∀ q, live (nth (upd (thawL z.h c).2 b (.vars (thawL z.h c).1)) q) → live (nth (thawL z.h c).2 q) := by
        intro q hl
        by_cases eq : q = b
        · subst eq; rw [hb1]; trivial
        · rwa [nth_upd_ne (Ne.symm eq)] at hl
      obtain ⟨r2, j1, j2, j3, j5⟩ := refill_ok outs (z := (z.mk2 r1 (thawL z.h c).2).withH (upd (thawL z.h c).2 b (.vars (thawL z.h c).1))) i2 bs blks S2 h' ho hkeep nb2 n2 (by
        intro k hk hkb
        have hk0 : k ≠ blk := fun e => hnb (by simp [← e, hk])
        have hfk := hf k (by simp [hk]) (by
          intro hm
          rcases List.mem_cons.1 hm with e | hm
          · exact hk0 e
          · exact hkb hm)
        refine ⟨hfk.1, fun q d hr hl hm => ?_⟩
        have hl := hlive q hl
        rcases Nat.lt_or_ge q z.h.length with hlt | hge
        · have ho := g1.old q hlt
          have hr' : r1 q = some d := hr
          rw [ho.2] at hr'
          rw [ho.1] at hl
          exact hfk.2 q d hr' hl hm
        · exact n3 k (g1.new q d hge hr hl k hm) hk) hr
      refine ⟨r2, j1, (g1.ext.trans e2).trans j2, ?_, ?_⟩
      · have j3' : (upd (thawL z.h c).2 b (.vars (thawL z.h c).1)).length ≤ h'.length := j3
        rw [upd_length] at j3'
        exact Nat.le_trans g1.len j3'
      · intro q d hq hl
        rcases j5 q d hq hl with ⟨k1, k2⟩ | k
        · have k2 := hlive q k2
          rcases Nat.lt_or_ge q z.h.length with hlt | hge
          · have ho := g1.old q hlt
            have k1' : r1 q = some d := k1
            rw [ho.2] at k1'
            rw [ho.1] at k2
            exact .inl ⟨k1', k2⟩
          · exact .inr (fun k hk => by have := g1.new q d hge k1 k2 k hk; simp [this])
        · exact .inr (fun m hm => by have := k m hm; simp [this])

end Go.Sx

namespace Go.Sx
open Go

mutual
theorem pub_lent : ∀ (v : SV) {h h' : List Blk} {v' : SV}, pub h v = some (v', h') → ∀ b, lentO (nth h' b) → lentO (nth h b)
  | .val t x, h, h', v', hp, b, hb => by simp only [pub, Option.some.injEq, Prod.mk.injEq] at hp; rwa [hp.2]
  | .nil, h, h', v', hp, b, hb => by simp only [pub, Option.some.injEq, Prod.mk.injEq] at hp; rwa [hp.2]
  | .own c u, h, h', v', hp, b, hb => by
    simp only [pub] at hp
    split at hp
    · split at hp
      · simp only [Option.some.injEq, Prod.mk.injEq] at hp
        rw [← hp.2] at hb
        rcases nth_upd_cases h c b Blk.gone with ⟨_, h2, _⟩ | h2
        · rw [h2] at hb; exact absurd hb lentO_gone
        · rwa [h2] at hb
      · cases hp
    · cases hp
  | .sub c u off n, h, h', v', hp, b, hb => by
    simp only [pub] at hp
    split at hp
    · split at hp
      · rename_i t _ _ _
        cases hnu : t.noUq with
        | false => rw [hnu] at hp; cases hp
        | true =>
          rw [hnu] at hp
          simp only [cond_true, Option.some.injEq, Prod.mk.injEq] at hp
          rw [← hp.2] at hb
          rcases nth_upd_cases h c b Blk.gone with ⟨_, h2, _⟩ | h2
          · rw [h2] at hb; exact absurd hb lentO_gone
          · rwa [h2] at hb
      · cases hp
    · cases hp
  | .agg l, h, h', v', hp, b, hb => by
    simp only [pub] at hp
    split at hp
    · rename_i l' h1 hl
      simp only [Option.some.injEq, Prod.mk.injEq] at hp
      exact pubL_lent l hl b (hp.2 ▸ hb)
    · cases hp
  | .tup l, h, h', v', hp, b, hb => by
    simp only [pub] at hp
    split at hp
    · rename_i l' h1 hl
      simp only [Option.some.injEq, Prod.mk.injEq] at hp
      exact pubL_lent l hl b (hp.2 ▸ hb)
    · cases hp
  | .ptr _ _, _, _, _, hp, _, _ => by simp [pub] at hp
  | .eptr _ _ _ _, _, _, _, hp, _, _ => by simp [pub] at hp
  | .rptr _ _ _, _, _, _, hp, _, _ => by simp [pub] at hp
  | .fn _ _, _, _, _, hp, _, _ => by simp [pub] at hp
  | .fr _ _, _, _, _, hp, _, _ => by simp [pub] at hp
  | .fv _ _, _, _, _, hp, _, _ => by simp [pub] at hp
  | .io _ _, _, _, _, hp, _, _ => by simp [pub] at hp
  | .mr _, _, _, _, hp, _, _ => by simp [pub] at hp
  | .dead, _, _, _, hp, _, _ => by simp [pub] at hp
theorem pubL_lent : ∀ (l : List SV) {h h' : List Blk} {l' : List SV}, pubL h l = some (l', h') → ∀ b, lentO (nth h' b) → lentO (nth h b)
  | [], h, h', v', hp, b, hb => by simp only [pubL, Option.some.injEq, Prod.mk.injEq] at hp; rwa [hp.2]
  | x :: l, h, h', v', hp, b, hb => by
    simp only [pubL] at hp
    split at hp
    · rename_i x' h1 hx
      split at hp
      · rename_i l1 h2 hl
        simp only [Option.some.injEq, Prod.mk.injEq] at hp
        exact pub_lent x hx b (pubL_lent l hl b (hp.2 ▸ hb))
      · cases hp
    · cases hp
end

theorem prepIoC_lent (v : SV) {h : List Blk} {p : Prep} (hp : prepIoC h v = some p) (b : Nat) (hb : lentO (nth p.heap b)) : lentO (nth h b) ∨ b ∈ lntN p.boxes := by
  cases v with
  | own b0 u =>
    simp only [prepIoC] at hp
    split at hp
    · split at hp
      · simp only [Option.some.injEq] at hp
        subst hp
        rename_i v1 t x _ _
        rcases nth_upd_cases h b0 b (Blk.held u t x.length) with ⟨e, _, _⟩ | h2
        · right; simp [lntN, Lnt.n, e]
        · left; exact h2 ▸ hb
      · cases hp
    · cases hp
  | nil => simp only [prepIoC, Option.some.injEq] at hp; subst hp; exact .inl hb
  | val t x =>
    simp only [prepIoC] at hp
    cases hsl : t.hasSl with
    | true => rw [hsl] at hp; cases hp
    | false => rw [hsl] at hp; simp only [cond_false, Option.some.injEq] at hp; subst hp; exact .inl hb
  | _ => simp [prepIoC] at hp
theorem prepIoL_lent : ∀ (l : List SV) {h : List Blk} {p : Prep}, prepIoL h l = some p → ∀ b, lentO (nth p.heap b) → lentO (nth h b) ∨ b ∈ lntN p.boxes
  | [], h, p, hp, b, hb => by simp only [prepIoL, Option.some.injEq] at hp; subst hp; exact .inl hb
  | v :: l, h, p, hp, b, hb => by
    simp only [prepIoL] at hp
    split at hp
    · cases hp
    · rename_i p1 hp1
      split at hp
      · cases hp
      · rename_i q hq
        simp only [Option.some.injEq] at hp
        subst hp
        rcases prepIoL_lent l hq b hb with k | k
        · rcases prepIoC_lent v hp1 b k with k | k
          · exact .inl k
          · exact .inr (by simp only [lntN, List.map_append, List.mem_append]; exact .inl k)
        · exact .inr (by simp only [lntN, List.map_append, List.mem_append]; exact .inr k)

mutual
theorem prep_lent : ∀ (m : Mode) (v : SV) {h : List Blk} {p : Prep}, prep m v h = some p → ∀ b, lentO (nth p.heap b) → lentO (nth h b) ∨ b ∈ lntN p.boxes
  | .ro t, v, h, p, hp, b, hb => by
    simp only [prep] at hp
    split at hp
    · simp only [Option.some.injEq] at hp; subst hp; exact .inl hb
    · cases hp
  | .mv, v, h, p, hp, b, hb => by
    simp only [prep] at hp
    split at hp
    · rename_i v' h' hx
      simp only [Option.some.injEq] at hp
      subst hp
      exact .inl (pub_lent v hx b hb)
    · cases hp
  | .mref, v, h, p, hp, b, hb => by
    simp only [prep] at hp
    split at hp
    · rename_i b0
      split at hp
      · rename_i cells hb0
        split at hp
        · rename_i c' h' hx
          simp only [Option.some.injEq] at hp
          subst hp
          have := pubL_lent cells hx b hb
          rcases nth_upd_cases h b0 b Blk.lent with ⟨e, _, _⟩ | h2
          · right; simp [lntN, Lnt.n, e]
          · left; rwa [h2] at this
        · cases hp
      · cases hp
    · cases hp
  | .io, v, h, p, hp, b, hb => by
    simp only [prep] at hp
    split at hp
    · split at hp
      · rename_i q hq
        simp only [Option.some.injEq] at hp
        subst hp
        exact prepIoL_lent _ hq b hb
      · cases hp
    · exact prepIoC_lent v hp b hb
  | .fnm ms, v, h, p, hp, b, hb => by
    simp only [prep] at hp
    split at hp
    · rename_i f cap
      split at hp
      · rename_i q hq
        simp only [Option.some.injEq] at hp
        subst hp
        exact prepL_lent ms cap hq b hb
      · cases hp
    · cases hp
theorem prepL_lent : ∀ (ms : List Mode) (vs : List SV) {h : List Blk} {p : Prep}, prepL ms vs h = some p → ∀ b, lentO (nth p.heap b) → lentO (nth h b) ∨ b ∈ lntN p.boxes
  | [], vs, h, p, hp, b, hb => by
    simp only [prepL] at hp
    split at hp
    · simp only [Option.some.injEq] at hp; subst hp; exact .inl hb
    · cases hp
  | m :: ms, vs, h, p, hp, b, hb => by
    simp only [prepL] at hp
    split at hp
    · cases hp
    · rename_i v vs'
      split at hp
      · cases hp
      · rename_i p1 hp1
        split at hp
        · cases hp
        · rename_i q hq
          simp only [Option.some.injEq] at hp
          subst hp
          rcases prepL_lent ms vs' hq b hb with k | k
          · rcases prep_lent m v hp1 b k with k | k
            · exact .inl k
            · exact .inr (by simp only [lntN, List.map_append, List.mem_append]; first | exact .inl k | exact .inr k)
          · exact .inr (by simp only [lntN, List.map_append, List.mem_append]; first | exact .inl k | exact .inr k)
end

theorem boxB_append : ∀ (a b : List LC), boxB (a ++ b) = boxB a ++ boxB b
  | [], b => rfl
  | .box _ :: a, b => by simp [boxB, boxB_append a b]
  | .arr _ _ :: a, b => by simp [boxB, boxB_append a b]

mutual
theorem CV.sub {im : Nat → Prop} {w : World} : ∀ (v : SV) (c : Value) (S : List Nat) (B : List LC), CV im w v c S B → (boxB B).Sublist S
  | .val t x, c, S, B, h => by simp only [CV] at h; rw [h.1, h.2.1]; exact List.Sublist.refl _
  | .nil, c, S, B, h => by simp only [CV] at h; rw [h.1, h.2.1]; exact List.Sublist.refl _
  | .fr t x, c, S, B, h => by simp only [CV] at h; rw [h.1]; exact List.nil_sublist _
  | .fv t x, c, S, B, h => by simp only [CV] at h; rw [h.1]; exact List.nil_sublist _
  | .io t x, c, S, B, h => by simp only [CV] at h; rw [h.1]; exact List.nil_sublist _
  | .agg l, c, S, B, h => by simp only [CV] at h; obtain ⟨cs, _, h2⟩ := h; exact CVL.sub l cs S B h2
  | .tup l, c, S, B, h => by simp only [CV] at h; obtain ⟨cs, _, h2⟩ := h; exact CVL.sub l cs S B h2
  | .fn f l, c, S, B, h => by simp only [CV] at h; obtain ⟨cs, _, h2⟩ := h; exact CVL.sub l cs S B h2
  | .mr l, c, S, B, h => by
    simp only [CV] at h
    obtain ⟨blk, cs, e, S', h1, h2, h3, h4, h5⟩ := h
    rw [h2, h3]
    exact (List.nil_sublist _).cons_cons _
  | .own _ _, _, _, _, h => by simp only [CV] at h
  | .sub _ _ _ _, _, _, _, h => by simp only [CV] at h
  | .ptr _ _, _, _, _, h => by simp only [CV] at h
  | .eptr _ _ _ _, _, _, _, h => by simp only [CV] at h
  | .rptr _ _ _, _, _, _, h => by simp only [CV] at h
  | .dead, _, _, _, h => by simp only [CV] at h; rw [h.1, h.2]; exact List.Sublist.refl _
theorem CVL.sub {im : Nat → Prop} {w : World} : ∀ (l : List SV) (c : List Value) (S : List Nat) (B : List LC), CVL im w l c S B → (boxB B).Sublist S
  | [], c, S, B, h => by simp only [CVL] at h; rw [h.2.1, h.2.2]; exact List.Sublist.refl _
  | x :: l, c, S, B, h => by
    simp only [CVL] at h
    obtain ⟨c1, r, S1, S2, B1, B2, h1, h2, h3, h4, h5⟩ := h
    rw [h2, h3, boxB_append]
    exact (CV.sub x c1 S1 B1 h4).append (CVL.sub l r S2 B2 h5)
end

theorem Outs.noRo {im im' : Nat → Prop} {w : World} : ∀ (cs : List (List SV)) (bs : List LC) (S : List Nat), cs.any hasRoL = false → Outs im w cs bs S → Outs im' w cs bs S
  | [], [], S, _, h => h
  | [], _ :: _, S, _, h => h
  | _ :: _, [], S, _, h => h
  | c :: cs, .box b :: bs, S, hn, h => by
    simp only [List.any_cons, Bool.or_eq_false_iff] at hn
    simp only [Outs] at h ⊢
    obtain ⟨cells, e, S1, S2, h1, h2, h3, h4⟩ := h
    exact ⟨cells, e, S1, S2, h1, h2, CVL.noRo c cells S1 [] hn.1 h3, Outs.noRo cs bs S2 hn.2 h4⟩
  | c :: cs, .arr a t :: bs, S, hn, h => by
    simp only [List.any_cons, Bool.or_eq_false_iff] at hn
    simp only [Outs] at h ⊢
    obtain ⟨x, S1, S2, rfl, h2, h3, h4⟩ := h
    refine ⟨x, S1, S2, rfl, h2, h3.noRo ?_, Outs.noRo cs bs S2 hn.2 h4⟩
    have := hn.1
    simp only [hasRoL, hasRo, Bool.or_false] at this
    simp [Ty.hasRo, this]

def dropS (l : List Nat) (rho : Rho) : Rho := fun b => if b ∈ l then (match rho b with | some (.s A cap _) => some (.s A cap []) | o => o) else rho b
theorem dropS_some {l : List Nat} {rho : Rho} {b : Nat} {d : D} (h : dropS l rho b = some d) : ∃ d0, rho b = some d0 ∧ (d = d0 ∨ (b ∈ l ∧ ∃ A cap S, d0 = .s A cap S ∧ d = .s A cap [])) := by
  unfold dropS at h
  split at h
  · rename_i hm
    split at h
    · rename_i A cap S hr
      cases h
      exact ⟨_, hr, .inr ⟨hm, A, cap, S, rfl, rfl⟩⟩
    · exact ⟨d, h, .inl rfl⟩
  · exact ⟨d, h, .inl rfl⟩
theorem dropS_sub {l : List Nat} {rho : Rho} {b : Nat} {d : D} (h : dropS l rho b = some d) : ∃ d0, rho b = some d0 ∧ ∀ k ∈ d.blks, k ∈ d0.blks := by
  obtain ⟨d0, h1, h2 | ⟨_, A, cap, S, _, h3⟩⟩ := dropS_some h
  · exact ⟨d0, h1, fun k hk => h2 ▸ hk⟩
  · exact ⟨d0, h1, fun k hk => by subst h3; cases hk⟩
theorem dropS_same {l : List Nat} {rho : Rho} {b : Nat} : sameD (rho b) (dropS l rho b) := by
  intro A cap S e
  unfold dropS
  split
  · rw [e]; exact ⟨[], rfl⟩
  · exact ⟨S, e⟩
theorem dropS_v {l : List Nat} {rho : Rho} {b blk : Nat} (h : rho b = some (.v blk)) : dropS l rho b = some (.v blk) := by
  unfold dropS
  split
  · rw [h]
  · exact h
theorem dropS_not {l : List Nat} {rho : Rho} {b : Nat} (h : b ∉ l) : dropS l rho b = rho b := by
  unfold dropS
  rw [if_neg h]

def arrN : List Lnt → List Nat
  | [] => []
  | .box _ :: l => arrN l
  | .arr b _ _ :: l => b :: arrN l

theorem BoxOk.at {z : Z} {h h' h1 : List Blk} {im : Nat → Prop} {w : World} {bs : List Lnt} {blks : List LC} {L : List Nat} (hb : BoxOk z.rho h h' bs blks) (hL : ∀ b ∈ arrN bs, b ∈ L) (hs : ∀ b, lentO (nth h' b) → nth h1 b = nth h' b) : BoxAt ⟨im, w, dropS L z.rho, h1⟩ bs blks := by
  induction hb with
  | nil => exact .nil
  | cons k1 k2 k3 k4 ih => exact .cons (dropS_v k1) ((hs _ (.inl k3)).trans k3) (ih hL)
  | arr k1 k2 k3 k4 k5 ih =>
    refine .arr ?_ ((hs _ (.inr ⟨_, _, _, k3⟩)).trans k3) k4 (ih (fun b hb => hL b (List.mem_cons_of_mem _ hb)))
    show dropS L z.rho _ = _
    unfold dropS
    rw [if_pos (hL _ (List.mem_cons_self ..)), k1]

theorem BoxOk.mem {rho : Rho} {h h' : List Blk} {bs : List Lnt} {blks : List LC} (hb : BoxOk rho h h' bs blks) : ∀ b ∈ lntN bs, (∃ blk, blk ∈ boxB blks ∧ rho b = some (.v blk)) ∨ (b ∈ arrN bs ∧ ∃ v t x, nth h b = some (.arr v t x)) := by
  induction hb with
  | nil => intro b hb; cases hb
  | @cons b blk bs blks k1 _ _ _ ih =>
    intro c hc
    rcases List.mem_cons.1 hc with rfl | hc
    · exact .inl ⟨blk, by simp [boxB], k1⟩
    · rcases ih c hc with ⟨blk', h1, h2⟩ | h1
      · exact .inl ⟨blk', by simp [boxB, h1], h2⟩
      · exact .inr h1
  | @arr b v cap A S t x bs blks k1 k2 _ _ _ ih =>
    intro c hc
    rcases List.mem_cons.1 hc with rfl | hc
    · exact .inr ⟨by simp [arrN], v, t, x, k2⟩
    · rcases ih c hc with ⟨blk', h1, h2⟩ | ⟨h1, h2⟩
      · exact .inl ⟨blk', by simpa [boxB] using h1, h2⟩
      · exact .inr ⟨by simp [arrN, h1], h2⟩
theorem arrN_sub : ∀ (bs : List Lnt), ∀ b ∈ arrN bs, b ∈ lntN bs
  | [], b, h => by cases h
  | .box _ :: l, b, h => List.mem_cons_of_mem _ (arrN_sub l b h)
  | .arr _ _ _ :: l, b, h => by
    rcases List.mem_cons.1 h with rfl | h
    · exact List.mem_cons_self ..
    · exact List.mem_cons_of_mem _ (arrN_sub l b h)

theorem BlkLe.re {r r' r'' : Option D} {o o' : Option Blk} (h : BlkLe r r' o o') (hs : sameD r r'') (hv : (o = some .lent ∨ ∃ c, o = some (.vars c)) → r'' = r) : BlkLe r r'' o o' := by
  refine ⟨h.1, h.2.1, fun v t n hi => ?_, fun hx => ?_⟩
  · rcases h.2.2.1 v t n hi with e | ⟨v', t', n', e, hh⟩
    · exact .inl e
    · refine .inr ⟨v', t', n', e, ?_⟩
      rcases hh with hh | ⟨h1, h2, h3, _⟩
      · exact .inl hh
      · exact .inr ⟨h1, h2, h3, hs⟩
  · rcases h.2.2.2 hx with e | ⟨_, e⟩
    · exact .inl e
    · exact .inr ⟨hv hx, e⟩

theorem after_call {g : G} {rho : Rho} {h : List Blk} {w : World} (hi : Inv g rho h w) {p : Prep} {cs : List Value} {S : List Nat} {B : List LC} (hp : PrepOk (zOf g rho h w) p cs S B)
    (hbox : ∀ b, lentO (nth p.heap b) → lentO (nth h b) ∨ b ∈ lntN p.boxes) (hlent : p.lent.all (fun b => isLive (nth p.heap b)) = true)
    {w' : World} {cr : Value} {S1 S2 : List Nat} {sv : SV} {outs : List (List SV)} (hnd : (S1 ++ S2).Nodup) (hrange : ∀ k ∈ S1 ++ S2, (k ∈ S ∨ w.heap.size ≤ k) ∧ k < w'.heap.size) (hk : Kept w w' S)
    (hcv : CV (after (LI (zOf g rho h w) p.lent) S (S1 ++ S2) w w') w' sv cr S1 []) (hout : Outs (after (LI (zOf g rho h w) p.lent) S (S1 ++ S2) w w') w' outs B S2)
    {h' : List Blk} (hr : refill (bif hasRo sv || outs.any hasRoL then kill p.heap p.lent else p.heap) p.boxes outs = some h') :
    ∃ rho', Inv g rho' (thaw h' sv).2 w' ∧ Ext (zOf g rho h w) (zOf g rho' (thaw h' sv).2 w') ∧ V (zOf g rho' (thaw h' sv).2 w') (thaw h' sv).1 cr := by
  have hiz := hi.iz
  -- the lists that are read from now on
  obtain ⟨L, hL, hLs, hcv, hout⟩ : ∃ L : List Nat, (bif hasRo sv || outs.any hasRoL then kill p.heap p.lent else p.heap) = kill p.heap L ∧ (∀ b ∈ L, b ∈ p.lent) ∧
      CV (after (LI (zOf g rho h w) L) S (S1 ++ S2) w w') w' sv cr S1 [] ∧ Outs (after (LI (zOf g rho h w) L) S (S1 ++ S2) w w') w' outs B S2 := by
    cases hro : (hasRo sv || outs.any hasRoL) with
    | true => exact ⟨p.lent, rfl, fun _ h => h, hcv, hout⟩
    | false =>
      simp only [Bool.or_eq_false_iff] at hro
      exact ⟨[], rfl, by simp, CV.noRo _ _ _ _ hro.1 hcv, Outs.noRo _ _ _ hro.2 hout⟩
  rw [hL] at hr
  have hLlive : ∀ b ∈ L, isLive (nth p.heap b) = true := fun b hb => by
    have := List.all_eq_true.1 hlent b (hLs b hb)
    exact this
  have h1live : ∀ b, live (nth (kill p.heap L) b) → b ∉ L ∧ nth (kill p.heap L) b = nth p.heap b ∧ live (nth p.heap b) ∧ live (nth h b) := by
    intro b hl
    by_cases hb : b ∈ L
    · exact absurd hl (kill_gone L _ hb)
    · have e := nth_kill L p.heap hb
      rw [e] at hl
      exact ⟨hb, e, hl, off_live hp.off hl⟩
  have hSrange : ∀ k ∈ S, k < w.heap.size ∧ (k ∈ g.S0 ∨ g.w0.heap.size ≤ k) := by
    intro k hks
    obtain ⟨b, d, k1, k2, _, _, k5⟩ := hp.went k hks
    exact hi.range b d k1 k2 k k5
  -- a block that went out and lies behind a live slot lies behind a box
  have harr : ∀ b ∈ arrN p.boxes, ∃ v t x, nth h b = some (.arr v t x) := by
    intro b hb
    rcases hp.boxes.mem b (arrN_sub _ b hb) with ⟨blk, _, h2⟩ | ⟨_, h2⟩
    · exfalso
      have h1 := (hp.boxes.was b (arrN_sub _ b hb)).1
      have hh : ∀ (bs : List Lnt) (B : List LC), BoxOk (zOf g rho h w).rho (zOf g rho h w).h p.heap bs B → b ∈ arrN bs → ∃ A cap S, rho b = some (.s A cap S) := by
        intro bs B hx
        induction hx with
        | nil => intro h; cases h
        | cons _ _ _ _ ih => exact ih
        | arr k1 _ _ _ _ ih =>
          intro h
          rcases List.mem_cons.1 h with rfl | h
          · exact ⟨_, _, _, k1⟩
          · exact ih h
      obtain ⟨A, cap, S', e⟩ := hh _ _ hp.boxes hb
      have h2 : rho b = some (.v blk) := h2
      rw [h2] at e
      cases e
    · exact h2
  have hSbox : ∀ b d, dropS (arrN p.boxes) rho b = some d → live (nth (kill p.heap L) b) → ∀ k ∈ d.blks, k ∈ S → k ∈ boxB B := by
    intro b d hd hl k hkd hks
    obtain ⟨d00, hd0, hdd⟩ := dropS_some hd
    have hdd : d = d00 ∧ b ∉ arrN p.boxes := by
      by_cases hm : b ∈ arrN p.boxes
      · exfalso
        obtain ⟨v, t, x, hx⟩ := harr b hm
        obtain ⟨A, cap, S', e, _⟩ := hi.sim b d00 hd0 |> fun q => by rw [hx] at q; exact q
        subst e
        unfold dropS at hd
        rw [if_pos hm, hd0] at hd
        cases hd
        cases hkd
      · rcases hdd with e | ⟨hm', _⟩
        · exact ⟨e, hm⟩
        · exact absurd hm' hm
    obtain ⟨rfl, hnm⟩ := hdd
    replace hd := hd0
    obtain ⟨q1, q2, q3, q4⟩ := h1live b hl
    obtain ⟨b', d', k1, k2, k3, k4, k5⟩ := hp.went k hks
    have hbb : b = b' := by
      rcases Nat.decEq b b' with hne | e
      · exact absurd k5 (hi.disj b b' d d' hd k1 q4 k2 hne k hkd)
      · exact e
    subst hbb
    rcases k3 with k3 | k3
    · rw [k3] at q3; exact q3.elim
    · rcases hbox b k3 with hb | hb
      · exact absurd hb k4
      · rcases hp.boxes.mem b hb with ⟨blk, m1, m2⟩ | ⟨m1, _⟩
        · have m2 : rho b = some (.v blk) := m2
          rw [hd] at m2
          cases m2
          simp only [D.blks, List.mem_singleton] at hkd
          subst hkd
          exact m1
        · exact absurd m1 hnm
  have hBS2 := boxB_sub _ _ _ hout
  obtain ⟨nd1, nd2, nd3⟩ := nodup_parts hnd
  let im1 : Nat → Prop := after (LI (zOf g rho h w) L) S (S1 ++ S2) w w'
  let z1 : Z := ⟨im1, w', dropS (arrN p.boxes) rho, kill p.heap L⟩
  have hext : Ext (zOf g rho h w) z1 := by
    refine ⟨fun k hkm => ?_, fun b => ?_⟩
    · have hnS : k ∉ S := by
        intro hks
        obtain ⟨b, d, k1, k2, _, _, k5⟩ := hp.went k hks
        exact hkm.2.2 ⟨b, d, k1, k2, k5⟩
      refine ⟨⟨.inl (.inl hkm), Nat.lt_of_lt_of_le hkm.2.1 hk.1, fun hm => ?_⟩, hk.2 k hkm.2.1 hnS⟩
      rcases (hrange k hm).1 with q | q
      · exact hnS q
      · exact Nat.not_le_of_lt hkm.2.1 q
    · refine (((off_ext hp.off).le b).trans ((kill_ext (g := g) (rho := rho) (w := w) L p.heap).le b)).re dropS_same (fun hx => dropS_not (fun hm => ?_))
      obtain ⟨v, t, x, hh⟩ := harr b hm
      have hx : nth h b = some .lent ∨ ∃ c, nth h b = some (.vars c) := hx
      rw [hh] at hx
      rcases hx with hx | ⟨c, hx⟩ <;> cases hx
  have hiz1 : IZ z1 := by
    refine ⟨fun b d hd => ?_, fun b b' d d' a1 a2 l1 l2 hne k hk1 hk2 => ?_, fun b d a1 l1 => ?_, ?_⟩
    · show SimB z1 d (nth (kill p.heap L) b)
      have hd : dropS (arrN p.boxes) rho b = some d := hd
      obtain ⟨d0, hd0, hdd⟩ := dropS_some hd
      by_cases hl : live (nth (kill p.heap L) b)
      · obtain ⟨q1, q2, q3, q4⟩ := h1live b hl
        by_cases hlt : lentO (nth (kill p.heap L) b)
        · have hs := (off_iz hiz hp.off).sim b d0 hd0
          have hs : SimB _ d0 (nth p.heap b) := hs
          rw [← q2] at hs
          rcases hlt with hlt | ⟨v, t, n, hlt⟩
          · rw [hlt] at hs ⊢
            obtain ⟨blk, rfl⟩ := hs
            rcases hdd with e | ⟨_, A, cap, S', e, _⟩
            · exact ⟨blk, e⟩
            · cases e
          · rw [hlt] at hs ⊢
            obtain ⟨A, cap, S', rfl⟩ := hs
            rcases hdd with e | ⟨_, A', cap', S'', e, e'⟩
            · exact ⟨A, cap, S', e⟩
            · exact ⟨A', cap', [], e'⟩
        · rw [q2] at hlt
          have hnh : nth p.heap b = nth h b := by
            rcases hp.off.2 b with e | ⟨e, _⟩ | e
            · exact e
            · rw [e] at q3; exact q3.elim
            · exact absurd e.lent hlt
          have hnm : b ∉ arrN p.boxes := fun hm => hlt ((hp.boxes.was b (arrN_sub _ b hm)).2)
          rw [dropS_not hnm] at hd
          rw [q2, hnh]
          refine (hi.sim b d hd).ext hext (fun _ k hkd => ?_)
          refine hk.2 k (hi.range b d hd q4 k hkd).1 (fun hks => ?_)
          obtain ⟨b', d', k1, k2, k3, k4, k5⟩ := hp.went k hks
          have hbb : b = b' := by
            rcases Nat.decEq b b' with hne | e
            · exact absurd k5 (hi.disj b b' d d' hd k1 q4 k2 hne k hkd)
            · exact e
          subst hbb
          rcases k3 with k3 | k3
          · rw [k3] at q3; exact q3
          · exact hlt k3
      · cases hx : nth (kill p.heap L) b with
        | none => trivial
        | some x =>
          cases x with
          | gone => trivial
          | vars c => exact absurd (by rw [hx]; trivial) hl
          | arr v t x => exact absurd (by rw [hx]; trivial) hl
          | held v t n => exact absurd (by rw [hx]; trivial) hl
          | lent => exact absurd (by rw [hx]; trivial) hl
    · obtain ⟨d1, e1, e2⟩ := dropS_sub (show dropS (arrN p.boxes) rho b = some d from a1)
      obtain ⟨d2, e3, e4⟩ := dropS_sub (show dropS (arrN p.boxes) rho b' = some d' from a2)
      exact hi.disj b b' d1 d2 e1 e3 (h1live b l1).2.2.2 (h1live b' l2).2.2.2 hne k (e2 k hk1) (e4 k hk2)
    · obtain ⟨d1, e1, e2 | ⟨_, A, cap, S', _, e3⟩⟩ := dropS_some (show dropS (arrN p.boxes) rho b = some d from a1)
      · subst e2; exact hi.nodup b d e1 (h1live b l1).2.2.2
      · subst e3; exact List.nodup_nil
    · intro b d hd hl k hkd hm
      have hl : live (nth (kill p.heap L) b) := hl
      obtain ⟨d0, hd0, hds⟩ := dropS_sub (show dropS (arrN p.boxes) rho b = some d from hd)
      obtain ⟨q1, q2, q3, q4⟩ := h1live b hl
      obtain ⟨m1, m2, m3⟩ := hm
      rcases m1 with m1 | m1 | m1
      · rcases m1 with m1 | ⟨r, hrL, d', e1, e2, e3⟩
        · exact m1.2.2 ⟨b, d0, hd0, q4, hds k hkd⟩
        · have hne : b ≠ r := fun e => q1 (e ▸ hrL)
          exact hi.disj b r d0 d' hd0 e1 q4 e2 hne k (hds k hkd) e3
      · exact m3 (List.mem_append.2 (.inr (hBS2 k (hSbox b d hd hl k hkd m1))))
      · exact Nat.not_le_of_lt (hi.range b d0 hd0 q4 k (hds k hkd)).1 m1
  have hlentkeep : ∀ b, lentO (nth p.heap b) → nth (kill p.heap L) b = nth p.heap b := by
    intro b hb
    have : b ∉ L := fun hm => by
      have := hLlive b hm
      rcases hb with hb | ⟨v, t, n, hb⟩ <;> (rw [hb] at this; cases this)
    rw [nth_kill L _ this]
  have hba : BoxAt z1 p.boxes B := BoxOk.at (z := zOf g rho h w) hp.boxes (fun _ h => h) hlentkeep
  obtain ⟨rho2, i2, e2, l2, f2⟩ := refill_ok outs (z := z1) hiz1 p.boxes B S2 h' hout hba hp.nd nd2 (by
    intro k hk2 hkB
    refine ⟨fun hm => hm.2.2 (List.mem_append.2 (.inr hk2)), fun b d hd hl hkd => ?_⟩
    obtain ⟨d0, hd0, hds⟩ := dropS_sub (show dropS (arrN p.boxes) rho b = some d from hd)
    rcases (hrange k (List.mem_append.2 (.inr hk2))).1 with q | q
    · exact hkB (hSbox b d hd hl k hkd q)
    · exact Nat.not_le_of_lt (hi.range b d0 hd0 (h1live b hl).2.2.2 k (hds k hkd)).1 q) hr
  obtain ⟨rho3, g3, v3⟩ := thaw_ok sv (z := z1.mk2 rho2 h') i2 cr S1 hcv nd1 (by
    intro k hk1
    refine ⟨fun hm => hm.2.2 (List.mem_append.2 (.inl hk1)), fun b d hd hl hkd => ?_⟩
    rcases f2 b d hd hl with ⟨a1, a2⟩ | a
    · obtain ⟨d0, hd0, hds⟩ := dropS_sub (show dropS (arrN p.boxes) rho b = some d from a1)
      rcases (hrange k (List.mem_append.2 (.inl hk1))).1 with q | q
      · exact nd3 k hk1 (hBS2 k (hSbox b d a1 a2 k hkd q))
      · exact Nat.not_le_of_lt (hi.range b d0 hd0 (h1live b a2).2.2.2 k (hds k hkd)).1 q
    · exact nd3 k hk1 (a k hkd))
  have hrange3 : ∀ b d, rho3 b = some d → live (nth (thaw h' sv).2 b) → ∀ k ∈ d.blks, k < w'.heap.size ∧ (k ∈ g.S0 ∨ g.w0.heap.size ≤ k) := by
    have fromS : ∀ k ∈ S1 ++ S2, k < w'.heap.size ∧ (k ∈ g.S0 ∨ g.w0.heap.size ≤ k) := by
      intro k hm
      refine ⟨(hrange k hm).2, ?_⟩
      rcases (hrange k hm).1 with q | q
      · exact (hSrange k q).2
      · exact .inr (Nat.le_trans hi.kept.1 q)
    intro b d hd hl k hkd
    rcases Nat.lt_or_ge b h'.length with hlt | hge
    · have ho := g3.old b hlt
      have ho1 : nth (thaw h' sv).2 b = nth h' b := ho.1
      have ho2 : rho3 b = rho2 b := ho.2
      rw [ho1] at hl
      rw [ho2] at hd
      rcases f2 b d hd hl with ⟨a1, a2⟩ | a
      · obtain ⟨d0, hd0, hds⟩ := dropS_sub (show dropS (arrN p.boxes) rho b = some d from a1)
        have := hi.range b d0 hd0 (h1live b a2).2.2.2 k (hds k hkd)
        exact ⟨Nat.lt_of_lt_of_le this.1 hk.1, this.2⟩
      · exact fromS k (List.mem_append.2 (.inr (a k hkd)))
    · exact fromS k (List.mem_append.2 (.inl (g3.new b d hge hd hl k hkd)))
  have hto : Ext (z1.mk2 rho3 (thaw h' sv).2) (zOf g rho3 (thaw h' sv).2 w') := by
    refine ⟨fun k hm => ⟨⟨?_, hm.2.1, fun ho => ?_⟩, rfl⟩, fun b => BlkLe.refl _ _⟩
    · rcases hm.1 with m | m | m
      · rcases m with m | ⟨r, _, d', e1, e2, e3⟩
        · exact m.1
        · rcases (hi.range r d' e1 e2 k e3).2 with q | q
          · exact .inr (.inl q)
          · exact .inr (.inr q)
      · rcases (hSrange k m).2 with q | q
        · exact .inr (.inl q)
        · exact .inr (.inr q)
      · exact .inr (.inr (Nat.le_trans hi.kept.1 m))
    · obtain ⟨b, d, o1, o2, o3⟩ := ho
      exact g3.iz.sep b d o1 o2 k o3 hm
  refine ⟨rho3, ⟨fun b d hd => ?_, g3.iz.disj, g3.iz.nodup, hrange3, hi.kept.trans hk (fun k hks => (hSrange k hks).2)⟩, ((hext.trans e2).trans g3.ext).trans hto, V.ext hto _ _ v3⟩
  exact (g3.iz.sim b d hd).ext hto (fun _ _ _ => rfl)

theorem run_callFunc {P : Program} {f : FuncId} {args : Array Value} {w : World} (h : Callable P f) : (callFunc f args).run P w = .ok (.enter f args) w := by
  obtain ⟨fn, h1, h2, h3⟩ := h
  show ((program >>= fun p => _) : Sem Next).run P w = _
  rw [Sx.run_bind_ok (a := P) (w' := w) rfl, h1]
  have h2' : fn.body.isNone = false := by cases hb : fn.body <;> simp_all
  simp only [h3, h2', Bool.false_eq_true, if_false]
  rfl

theorem call_ok {R : Type} {P : Program} {E : Env} (hE : EnvOk P E) {o : Oper} {c : Call} {fv : Operand} {gt : Operand → SV} {h : List Blk} {f : FuncId} {cap : List SV} {K : SV → List Blk → Option R} {r : R} (ho : o.op = .call c) (hc : c.callee = .value fv)
    (hf : gt fv = .fn f cap) (he : callS E f (c.args.toList.map gt ++ cap) h K = some r) : ∃ v h', StepOk P o gt h v h' ∧ K v h' = some r := by
  unfold callS at he
  split at he
  · cases he
  · rename_i con hcon
    split at he
    · cases he
    · rename_i p hp
      cases hl : p.lent.all (fun b => isLive (nth p.heap b)) with
      | false => rw [hl] at he; cases he
      | true =>
        rw [hl] at he
        simp only [cond_true] at he
        have hok := hE.tbl f con hcon
        obtain ⟨sv, outs, hco, hfin⟩ := hok.ok _ _ _ _ he
        unfold finishCall at hfin
        cases hgd : (clean sv && outs.all cleanL && !(con.fresh && (hasRo sv || outs.any hasRoL))) with
        | false => rw [hgd] at hfin; cases hfin
        | true =>
        rw [hgd] at hfin
        simp only [cond_true] at hfin
        split at hfin
        · rename_i h' hr
          refine ⟨_, _, ?_, hfin⟩
          intro g a w rho hi hv next Q hn
          have hvf := hv fv (by rw [ho]; simp [Op.operands, Call.operands, hc])
          rw [hf] at hvf
          simp only [V] at hvf
          obtain ⟨capc, h1, h2⟩ := hvf
          have hva : VL (zOf g rho h w) (c.args.toList.map gt ++ cap) (c.args.toList.map a.eval ++ capc) :=
            (VL_map (l := c.args.toList) (fun x hx => hv x (by rw [ho]; simp [Op.operands, Call.operands, hc, Array.mem_toList_iff.1 hx]))).append h2
          obtain ⟨S, B, hpo⟩ := prepL_ok con.modes hi.iz _ _ p hva hp
          have hrun : (execOp a.eval o).run P w = .ok (.enter f (c.args.toList.map a.eval ++ capc).toArray) w := by
            unfold execOp
            rw [ho]
            dsimp only
            unfold resolve
            rw [hc]
            dsimp only
            rw [h1]
            show ((invoke (.fn (.func f) capc.toArray) (#[] ++ c.args.map a.eval)) : Sem Next).run P w = _
            show (callFunc f ((#[] ++ c.args.map a.eval) ++ capc.toArray)).run P w = _
            rw [run_callFunc hok.call]
            congr 2
            apply Array.toList_inj.1
            simp
          unfold Oper.wp
          rw [hrun, Oper.upon_enter]
          have hcall := hco (LI (zOf g rho h w) p.lent) w _ S B hpo.args hpo.nodup (fun k hks => by
            obtain ⟨b, d, k1, k2, k3, k4, k5⟩ := hpo.went k hks
            refine ⟨?_, (hi.range b d k1 k2 k k5).1⟩
            rintro (m | ⟨b', hb', d', e1, e2, e3⟩)
            · exact m.2.2 ⟨b, d, k1, k2, k5⟩
            · have hbb : b = b' := by
                rcases Nat.decEq b b' with hne | e
                · exact absurd e3 (hi.disj b b' d d' k1 e1 k2 e2 hne k k5)
                · exact e
              subst hbb
              have := List.all_eq_true.1 hl b hb'
              rcases k3 with k3 | k3 | ⟨v, t, n, k3⟩ <;> (rw [k3] at this; cases this)) (fun k hm => by
            rcases hm with m | ⟨b', hb', d', e1, e2, e3⟩
            · exact m.2.1
            · exact (hi.range b' d' e1 e2 k e3).1)
          refine hcall.mono ?_
          rintro e w' ⟨cr, S1, S2, rfl, q1, q2, q3, q4, q5⟩
          obtain ⟨rho', i', e', v'⟩ := after_call hi hpo (prepL_lent _ _ hp) hl q1 q2 q3 q4 q5 hr
          exact hn cr w' rho' i' v' e'
        · cases hfin

end Go.Sx

namespace Go.Sx
open Go

/-- a variable that the caller has lent lies where it lay -/
def Bx (rho : Rho) (h : List Blk) (b blk : Nat) : Prop :=
  nth h b = some .gone ∨ (rho b = some (.v blk) ∧ ((∃ c, nth h b = some (.vars c)) ∨ nth h b = some .lent))

theorem Bx.le {rho rho' : Rho} {h h' : List Blk} {b blk : Nat} (x : Bx rho h b blk) (hl : BlkLe (rho b) (rho' b) (nth h b) (nth h' b)) : Bx rho' h' b blk := by
  rcases x with e | ⟨e, hx⟩
  · exact .inl (hl.2.1 e)
  · rcases hl.2.2.2 (hx.elim (fun q => .inr q) .inl) with f | ⟨f1, f2⟩
    · exact .inl f
    · exact .inr ⟨f1.trans e, f2.elim .inr .inl⟩

/-- a list that the caller has lent lies where it lay, as long as it has not grown -/
def Ax (rho : Rho) (h : List Blk) (b : Nat) (c : Value) (t : Ty) : Prop :=
  nth h b = some .gone ∨ ((nth h b).isSome = true ∧ ∃ v t' n, infoO (nth h b) = some (v, t', n) ∧ (v = 0 → t' = t ∧ ∃ A cap S, rho b = some (.s A cap S) ∧ c = .slice A n cap))

theorem Ax.le {rho rho' : Rho} {h h' : List Blk} {b : Nat} {c : Value} {t : Ty} (x : Ax rho h b c t) (hl : BlkLe (rho b) (rho' b) (nth h b) (nth h' b)) : Ax rho' h' b c t := by
  rcases x with e | ⟨hs, v, t', n, hi, hv⟩
  · exact .inl (hl.2.1 e)
  · rcases hl.2.2.1 v t' n hi with e | ⟨v2, t2, n2, e, hh⟩
    · exact .inl e
    · refine .inr ⟨hl.1 hs, v2, t2, n2, e, fun h0 => ?_⟩
      rcases hh with hh | ⟨rfl, rfl, rfl, k⟩
      · omega
      · obtain ⟨h1, A, cap, S, h2, h3⟩ := hv h0
        obtain ⟨S', h4⟩ := k A cap S h2
        exact ⟨h1, A, cap, S', h4, h3⟩

structure Sim (g : G) (rho : Rho) (s : St) (a : Act) (w : World) : Prop where
  inv : Inv g rho s.heap w
  slots : VL (zOf g rho s.heap w) s.slots a.tmps.toList
  defers : a.defers = []
  bx : ∀ q ∈ g.bx, Bx rho s.heap q.1 q.2
  ax : ∀ q ∈ g.ax, Ax rho s.heap q.1 q.2.1 q.2.2

theorem ofC1_V {z : Z} (v : Value) : V z (ofC1 v) v := by
  unfold ofC1
  split
  · exact V_int _ _
  · exact V_bool _
  · exact V_str _
  · simp only [V]
  · simp only [V]

theorem ofC1_VL {z : Z} : ∀ l : List Value, VL z (l.map ofC1) l
  | [] => by simp [VL]
  | v :: l => by simp only [List.map_cons, VL]; exact ⟨v, l, rfl, ofC1_V v, ofC1_VL l⟩

theorem ofC_V {z : Z} (v : Value) : V z (ofC v) v := by
  unfold ofC
  split
  · rename_i cs
    simp only [V]
    exact ⟨cs.toList, by simp, ofC1_VL _⟩
  · exact ofC1_V v

theorem get_ok {g : G} {rho : Rho} {s : St} {a : Act} {w : World} (hs : Sim g rho s a w) (x : Operand) : V (zOf g rho s.heap w) (s.get x) (a.eval x) := by
  cases x with
  | tmp t =>
    simp only [St.get, Act.eval]
    cases hn : nth s.slots t with
    | none => simp only [Option.getD_none, V]
    | some v =>
      obtain ⟨u, h1, h2⟩ := VL.get hs.slots hn
      simp only [Option.getD_some]
      have : a.tmps.getD t undef = u := by
        have h1' : a.tmps[t]? = some u := by simpa using h1
        simp [h1']
      rw [this]; exact h2
  | const v => exact ofC_V v
  | func f => simp only [St.get, Act.eval, V]; exact ⟨[], rfl, by simp [VL]⟩
  | «global» g => simp only [St.get, V]

theorem VL.upd {z : Z} {v : SV} {c : Value} (hv : V z v c) : ∀ {l : List SV} {cs : List Value} (n : Nat), VL z l cs → VL z (Sx.upd l n v) (cs.set n c)
  | [], cs, n, h => by simp only [VL] at h; subst h; simp [Sx.upd, VL]
  | x :: l, cs, n, h => by
    simp only [VL] at h
    obtain ⟨c0, r, rfl, h2, h3⟩ := h
    cases n with
    | zero => simp only [Sx.upd, List.set_cons_zero, VL]; exact ⟨c, r, rfl, hv, h3⟩
    | succ n => simp only [Sx.upd, List.set_cons_succ, VL]; exact ⟨c0, _, rfl, h2, VL.upd hv n h3⟩

theorem put_VL {z : Z} {slots : List SV} {h : List Blk} {a : Act} {dst : Option Tmp} {v : SV} {c : Value} (hs : VL z slots a.tmps.toList) (hv : V z v c) : VL z (St.put ⟨slots, h⟩ dst v).slots (a.put dst c).tmps.toList := by
  cases dst with
  | none => exact hs
  | some d =>
    simp only [St.put, Act.put, Array.toList_setIfInBounds]
    exact VL.upd hv d hs

theorem put_heap {s : St} {dst : Option Tmp} {v : SV} : (St.put s dst v).heap = s.heap := by cases dst <;> rfl
theorem put_defers {a : Act} {dst : Option Tmp} {c : Value} : (a.put dst c).defers = a.defers := by cases dst <;> rfl

theorem Sim.put {g : G} {rho : Rho} {s : St} {a : Act} {w : World} (hs : Sim g rho s a w) {dst : Option Tmp} {v : SV} {c : Value} (hv : V (zOf g rho s.heap w) v c) : Sim g rho (s.put dst v) (a.put dst c) w := by
  refine ⟨?_, ?_, ?_, ?_, ?_⟩
  · rw [put_heap]; exact hs.inv
  · rw [put_heap]; exact put_VL (h := s.heap) hs.slots hv
  · rw [put_defers]; exact hs.defers
  · rw [put_heap]; exact hs.bx
  · rw [put_heap]; exact hs.ax

theorem Sim.step {g : G} {rho rho' : Rho} {s : St} {a : Act} {w w' : World} (hs : Sim g rho s a w) {dst : Option Tmp} {v : SV} {c : Value} {h' : List Blk} (hi : Inv g rho' h' w') (hv : V (zOf g rho' h' w') v c)
    (he : Ext (zOf g rho s.heap w) (zOf g rho' h' w')) : Sim g rho' (St.put ⟨s.slots, h'⟩ dst v) (a.put dst c) w' := by
  refine ⟨?_, ?_, ?_, ?_, ?_⟩
  · rw [put_heap]; exact hi
  · rw [put_heap]; exact put_VL (h := h') (VL.ext he _ _ hs.slots) hv
  · rw [put_defers]; exact hs.defers
  · rw [put_heap]; exact fun q hq => (hs.bx q hq).le (he.le q.1)
  · rw [put_heap]; exact fun q hq => (hs.ax q hq).le (he.le q.1)

section
variable {R : Type} {P : Program} {E : Env} {s : St} {o : Oper} {r : R}

theorem execG_ok (hE : EnvOk P E) {gt : Operand → SV} {h : List Blk} {K : SV → List Blk → Option R} (he : execG E o gt h K = some r) : StepOkR P o gt h K r := by
  have h0 := hE.toEnvOk0
  have one : (∃ v, StepOk P o gt h v h ∧ K v h = some r) → StepOkR P o gt h K r := fun ⟨v, h1, h2⟩ => h1.toR h2
  have two : (∃ v h', StepOk P o gt h v h' ∧ K v h' = some r) → StepOkR P o gt h K r := fun ⟨v, h', h1, h2⟩ => h1.toR h2
  unfold execG at he
  dsimp only at he
  split at he
  · rename_i x ho; exact one ⟨_, move_ok (.inl ho), he⟩
  · rename_i x ho; exact one ⟨_, move_ok (.inr ho), he⟩
  · rename_i c a b ho
    split at he
    · rename_i t ht
      refine one ⟨_, pick_ok ho ht, ?_⟩
      cases t <;> exact he
    · cases he
  · rename_i t ho
    split at he
    · rename_i ty ht; exact (alloc_ok h0 ho ht).toR he
    · cases he
  · rename_i t x ho
    split at he
    · rename_i ty c ht hf
      cases hl : Nat.beq c.length ty.size with
      | false => rw [hl] at he; cases he
      | true => rw [hl] at he; exact (box_ok ho hf).toR he
    · cases he
  · rename_i t ps ho; exact one (build_ok h0 ho he)
  · rename_i t n ps ho; exact two (buildSlice_ok h0 ho he)
  · rename_i t x ho
    split at he
    · rename_i ty ht; exact one (load_ok h0 ho ht he)
    · cases he
  · rename_i t p x ho
    split at he
    · rename_i ty ht
      obtain ⟨h', h1, h2⟩ := store_ok h0 ho ht he
      exact h1.toR h2
    · cases he
  · rename_i op t x y t' ho
    unfold binOpS at he
    cases hc : (isNilC (gt y) && okList E t) with
    | true =>
      rw [hc] at he
      simp only [Bool.and_eq_true] at hc
      exact nilOp_ok h0 ho hc.1 hc.2 he
    | false =>
      rw [hc] at he
      exact one (binOp_ok h0 ho he)
  · rename_i op t x ho; exact one (unOp_ok ho he)
  · rename_i src dst x ho; exact one (conv_ok h0 ho he)
  · rename_i f fs cs ho
    cases hf : fs.toList.isEmpty with
    | false => rw [hf] at he; cases he
    | true => rw [hf] at he; exact one ⟨_, makeFunc_ok ho hf, he⟩
  · rename_i t n c ho; exact two (makeSlice_ok h0 ho he)
  · rename_i t x lo hi ho; exact one (slice_ok h0 ho he)
  · rename_i t x f ho; exact one (fieldAddr_ok h0 ho he)
  · rename_i t x f ho; exact one (field_ok h0 ho he)
  · rename_i t x i ho; exact one (indexAddr_ok h0 ho he)
  · rename_i t x i ho; exact one (index_ok h0 ho he)
  · rename_i x i ho
    split at he
    · rename_i l hx
      split at he
      · rename_i v hn; exact one ⟨v, extract_ok ho hx hn, he⟩
      · cases he
    · cases he
  · rename_i c ho
    split at he
    · rename_i f hc
      split at he
      · rename_i g cap hg; exact two (call_ok hE ho hc hg he)
      · cases he
    · rename_i hc
      split at he
      · rename_i x t ha hat; exact one (len_ok h0 ho hc ha hat he)
      · cases he
    · rename_i hc
      split at he
      · rename_i x y t t' ha hat; exact two (append_ok h0 ho hc ha hat he)
      · cases he
    · rename_i hc
      split at he
      · rename_i x y ha
        split at he
        · rename_i k a k' b hx hy; exact one ⟨_, (mm_ok ho ha hx hy).1 hc, he⟩
        · cases he
      · cases he
    · rename_i hc
      split at he
      · rename_i x y ha
        split at he
        · rename_i k a k' b hx hy; exact one ⟨_, (mm_ok ho ha hx hy).2 hc, he⟩
        · cases he
      · cases he
    · cases he
  · cases he

theorem upd_same {α : Type} : ∀ {l : List α} {n : Nat} {x : α}, nth l n = some x → upd l n x = l
  | [], _, _, h => by simp [nth] at h
  | _ :: _, 0, _, h => by simp only [nth, Option.some.injEq] at h; subst h; rfl
  | x :: l, n + 1, y, h => by simp only [upd]; rw [upd_same (l := l) (n := n) h]

/-- the operations at these places -/
inductive At (ops : Array Oper) : List Nat → List Oper → Prop
  | nil : At ops [] []
  | cons {i : Nat} {o : Oper} {is : List Nat} {os : List Oper} : ops[i]? = some o → At ops is os → At ops (i :: is) (o :: os)

theorem At.range (ops : Array Oper) : At ops (List.range ops.size) ops.toList := by
  have : ∀ (pre l : List Oper), ops.toList = pre ++ l → At ops ((List.range l.length).map (pre.length + ·)) l := by
    intro pre l
    induction l generalizing pre with
    | nil => intro _; exact .nil
    | cons o l ih =>
      intro h
      rw [List.length_cons, List.range_succ_eq_map, List.map_cons, List.map_map]
      refine .cons ?_ ?_
      · rw [← Array.getElem?_toList, h]; simp
      · have := ih (pre ++ [o]) (by rw [h]; simp)
        rw [show ((pre.length + ·) ∘ Nat.succ) = ((pre ++ [o]).length + ·) by funext n; simp; omega]
        exact this
  have := this [] ops.toList rfl
  simpa using this

theorem dstOf_eq {ops : Array Oper} {j : Nat} {d : Tmp} (h : dstOf ops.toList j = some d) : (ops[j]?).bind (·.dst) = some d := by
  unfold dstOf at h
  rw [nth_eq] at h
  simpa using h

theorem step1_ok (hE : EnvOk P E) {ops : Array Oper} {i : Nat} (ho : ops[i]? = some o) {s : St} {K : St → Option R} (he : step1 E ops.toList o s K = some r)
    {g : G} {rho : Rho} {a : Act} {w : World} {Q : Exit → Act → World → Prop} {next : Act → World → Prop} (hs : Sim g rho s a w) (hn : ∀ s' rho' a' w', K s' = some r → Sim g rho' s' a' w' → next a' w') : wpOp P ops Q i next a w := by
  have take : ∀ (s1 : St), Sim g rho s1 a w → exec E o s1 K = some r → Region.wanted o (yielded ops a.tmps) = true → wpOp P ops Q i next a w := by
    intro s1 hs1 h1 hw
    simp only [wpOp, ho, hw, if_true]
    left
    exact execG_ok hE h1 g a w rho hs1.inv (fun x _ => get_ok hs1 x) _ Q (fun v h' cv w' rho' hk hi hv hx => hn _ rho' _ w' hk (hs1.step hi hv hx))
  have skip : ∀ (s1 : St), Sim g rho s1 a w → K (s1.put o.dst (.tup [])) = some r → Region.wanted o (yielded ops a.tmps) = false → wpOp P ops Q i next a w := by
    intro s1 hs1 h1 hw
    simp only [wpOp, ho, hw, Bool.false_eq_true, if_false]
    exact hn _ rho _ w h1 (hs1.put V_undef)
  unfold step1 at he
  split at he
  · rename_i hg
    exact take s hs he (by simp [Region.wanted, hg])
  · rename_i j want hg
    split at he
    · cases he
    · rename_i d hd
      have hd' := dstOf_eq hd
      split at he
      · rename_i b hb
        obtain ⟨u, h1, h2⟩ := VL.get hs.slots hb
        have h1' : a.tmps[d]? = some u := by simpa using h1
        have hu := asB_V h2 (b := b) rfl
        subst hu
        have hy : yielded ops a.tmps j = some b := by simp only [yielded, hd', Option.bind_some, h1']
        have hwd : Region.wanted o (yielded ops a.tmps) = (some b == some want) := by simp [Region.wanted, hg, hy]
        have hput : s.put (some d) (.val .bool b) = s := by
          simp only [St.put]; rw [upd_same hb]
        have hb2 : b = true ∨ b = false := by cases b <;> simp
        rcases hb2 with e | e
        · subst e
          dsimp only [cond_true] at he
          rw [hput] at he
          cases want with
          | true => exact take s hs he (by rw [hwd]; rfl)
          | false => exact skip s hs he (by rw [hwd]; rfl)
        · subst e
          dsimp only [cond_false] at he
          rw [hput] at he
          cases want with
          | true => exact skip s hs he (by rw [hwd]; rfl)
          | false => exact take s hs he (by rw [hwd]; rfl)
      · rename_i hb
        obtain ⟨u, h1, h2⟩ := VL.get hs.slots hb
        have h1' : a.tmps[d]? = some u := by simpa using h1
        simp only [V] at h2
        obtain ⟨cs, h3, h4⟩ := h2
        have hy : yielded ops a.tmps j = none := by simp only [yielded, hd', Option.bind_some, h1', h3]
        exact skip s hs he (by simp [Region.wanted, hg, hy])
      · cases he

theorem runOps_ok (hE : EnvOk P E) {ops : Array Oper} : ∀ (os : List Oper) (is : List Nat) (s : St) {K : St → Option R}, At ops is os → runOps E ops.toList os s K = some r →
    ∀ (g : G) (rho : Rho) (a : Act) (w : World) (Q : Exit → Act → World → Prop), Sim g rho s a w → (∀ s' rho' a' w', K s' = some r → Sim g rho' s' a' w' → Q .normal a' w') → wpOps P ops Q is a w
  | [], _, s, K, .nil, he, g, rho, a, w, Q, hs, hq => by
    simp only [runOps] at he
    exact hq s rho a w he hs
  | o :: os, _, s, K, .cons (i := i) (is := is) ho hat, he, g, rho, a, w, Q, hs, hq => by
    rw [wpOps_cons]
    simp only [runOps] at he
    exact step1_ok hE ho he hs (fun s' rho' a' w' hk hs' => runOps_ok hE os is s' hat hk g rho' a' w' Q hs' hq)

end

end Go.Sx
