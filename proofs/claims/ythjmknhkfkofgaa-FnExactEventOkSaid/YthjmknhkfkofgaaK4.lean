/- Contracts: what goes into a call and what comes out of it. -/
import Derived.Test.YthjmknhkfkofgaaK3
set_option linter.unusedVariables false
namespace Go.Sx
open Go

mutual
/-- a value at a call's border: the blocks that go along with it; the variables that are lent -/
def CV (im : Nat → Prop) (w : World) : SV → Value → List Nat → List Nat → Prop
  | .val t x, c, S, B => S = [] ∧ B = [] ∧ ∃ cs, TR im w false t x cs [] ∧ c = mkV t cs
  | .nil, c, S, B => S = [] ∧ B = [] ∧ c = .slice none 0 0
  | .fr t x, c, S, B => B = [] ∧ 0 < t.size ∧ TR im w true (.sl true t) x [c] S
  | .agg l, c, S, B => ∃ cs : List Value, c = .agg cs.toArray ∧ CVL im w l cs S B
  | .tup l, c, S, B => ∃ cs : List Value, c = .tuple cs.toArray ∧ CVL im w l cs S B
  | .fn f cap, c, S, B => ∃ cs : List Value, c = .func (.func f) #[] cs.toArray ∧ CVL im w cap cs S B
  | .mr l, c, S, B => ∃ (blk : Nat) (cs : List Value) (e : TypeId) (S' : List Nat), c = .pointer (some ⟨blk, 0, none⟩) ∧ S = blk :: S' ∧ B = [blk] ∧
      w.heap[blk]? = some (.cells cs.toArray e (0, 0)) ∧ CVL im w l cs S' []
  | _, _, _, _ => False
def CVL (im : Nat → Prop) (w : World) : List SV → List Value → List Nat → List Nat → Prop
  | [], cs, S, B => cs = [] ∧ S = [] ∧ B = []
  | x :: l, cs, S, B => ∃ c r S1 S2 B1 B2, cs = c :: r ∧ S = S1 ++ S2 ∧ B = B1 ++ B2 ∧ CV im w x c S1 B1 ∧ CVL im w l r S2 B2
end

/-- what the lent variables hold behind the call -/
def Outs (im : Nat → Prop) (w : World) : List (List SV) → List Nat → List Nat → Prop
  | [], [], S => S = []
  | c :: cs, b :: bs, S => ∃ (cells : List Value) (e : TypeId) (S1 S2 : List Nat), S = b :: (S1 ++ S2) ∧ w.heap[b]? = some (.cells cells.toArray e (0, 0)) ∧ CVL im w c cells S1 [] ∧ Outs im w cs bs S2
  | _, _, _ => False

def after (p : Nat → Prop) (S S' : List Nat) (w w' : World) (k : Nat) : Prop := (p k ∨ k ∈ S ∨ w.heap.size ≤ k) ∧ k < w'.heap.size ∧ k ∉ S'

def CallOk (P : Program) (f : FuncId) (args : List SV) (sv : SV) (outs : List (List SV)) : Prop :=
  ∀ (p : Nat → Prop) (w : World) (cargs : List Value) (S B : List Nat), CVL p w args cargs S B → S.Nodup → (∀ k ∈ S, ¬ p k ∧ k < w.heap.size) → (∀ k, p k → k < w.heap.size) →
    Calls P f cargs.toArray w fun e w' => ∃ cr S1 S2, e = .returned cr ∧ (S1 ++ S2).Nodup ∧ (∀ k ∈ S1 ++ S2, (k ∈ S ∨ w.heap.size ≤ k) ∧ k < w'.heap.size) ∧ Kept w w' S ∧
      CV (after p S (S1 ++ S2) w w') w' sv cr S1 [] ∧ Outs (after p S (S1 ++ S2) w w') w' outs B S2

def Callable (P : Program) (f : FuncId) : Prop := ∃ fn, P.funcs[f]? = some fn ∧ fn.body.isSome = true ∧ (fn.name == "runtime.NumGoroutine") = false

structure ConOk (P : Program) (f : FuncId) (c : Con) : Prop where
  call : Callable P f
  ok : ∀ (R : Type) (args : List SV) (K : SV → List (List SV) → Option R) (r : R), c.run R args K = some r → ∃ sv outs, CallOk P f args sv outs ∧ K sv outs = some r

structure EnvOk (P : Program) (E : Env) : Prop extends EnvOk0 P E where
  tbl : ∀ f c, E.tbl f = some c → ConOk P f c

/-! ### The state without its history -/
structure IZ (z : Z) : Prop where
  sim : ∀ b d, z.rho b = some d → SimB z d (nth z.h b)
  disj : ∀ b b' d d', z.rho b = some d → z.rho b' = some d' → live (nth z.h b) → live (nth z.h b') → b ≠ b' → ∀ k ∈ d.blks, k ∉ d'.blks
  nodup : ∀ b d, z.rho b = some d → live (nth z.h b) → d.blks.Nodup
  sep : ∀ b d, z.rho b = some d → live (nth z.h b) → ∀ k ∈ d.blks, ¬ z.im k

def Z.withH (z : Z) (h : List Blk) : Z := ⟨z.im, z.w, z.rho, h⟩

theorem Inv.iz {g : G} {rho : Rho} {h : List Blk} {w : World} (hi : Inv g rho h w) : IZ (zOf g rho h w) :=
  ⟨hi.sim, hi.disj, hi.nodup, fun b d h1 h2 k hk hm => hm.2.2 ⟨b, d, h1, h2, hk⟩⟩

/-- a block is let go, or lent -/
def Off (h h' : List Blk) : Prop := h'.length = h.length ∧ ∀ b, nth h' b = nth h b ∨ (nth h' b = some .gone ∧ nth h b ≠ some .lent) ∨ (nth h' b = some .lent ∧ ∃ c, nth h b = some (.vars c))

theorem Off.refl (h : List Blk) : Off h h := ⟨rfl, fun _ => .inl rfl⟩

theorem off_ext {z : Z} {h' : List Blk} (ho : Off z.h h') : Ext z (z.withH h') where
  im := fun k hk => ⟨hk, rfl⟩
  le := fun b => by
    show BlkLe (z.rho b) (z.rho b) (nth z.h b) (nth h' b)
    rcases ho.2 b with e | ⟨e, _⟩ | ⟨e, c, hc⟩
    · rw [e]; exact BlkLe.refl _ _
    · rw [e]
      cases hx : nth z.h b with
      | none => trivial
      | some x => cases x <;> first | exact .inl rfl | rfl
    · rw [e, hc]; exact .inr ⟨rfl, .inl rfl⟩

theorem off_live {h h' : List Blk} (ho : Off h h') {b : Nat} (hl : live (nth h' b)) : live (nth h b) := by
  rcases ho.2 b with e | ⟨e, _⟩ | ⟨_, c, hc⟩
  · rwa [e] at hl
  · rw [e] at hl; exact hl.elim
  · rw [hc]; trivial

theorem off_iz {z : Z} {h' : List Blk} (hi : IZ z) (ho : Off z.h h') : IZ (z.withH h') := by
  have he := off_ext ho
  refine ⟨fun b d hd => ?_, fun b b' d d' h1 h2 l1 l2 => hi.disj b b' d d' h1 h2 (off_live ho l1) (off_live ho l2), fun b d h1 l1 => hi.nodup b d h1 (off_live ho l1),
    fun b d h1 l1 => hi.sep b d h1 (off_live ho l1)⟩
  show SimB (z.withH h') d (nth h' b)
  rcases ho.2 b with e | ⟨e, _⟩ | ⟨e, c, hc⟩
  · rw [e]; exact (hi.sim b d hd).ext he (fun _ _ _ => rfl)
  · rw [e]; trivial
  · have := hi.sim b d hd
    rw [hc] at this
    obtain ⟨blk, cs, e', h1, _⟩ := this
    rw [e]
    exact ⟨blk, h1⟩

theorem Off.trans {h h' h'' : List Blk} (a : Off h h') (b : Off h' h'') : Off h h'' := by
  refine ⟨b.1.trans a.1, fun k => ?_⟩
  rcases b.2 k with e | ⟨e, e2⟩ | ⟨e, c, hc⟩
  · rcases a.2 k with f | ⟨f, f2⟩ | ⟨f, c, hc⟩
    · exact .inl (e.trans f)
    · exact .inr (.inl ⟨e.trans f, f2⟩)
    · exact .inr (.inr ⟨e.trans f, c, hc⟩)
  · refine .inr (.inl ⟨e, ?_⟩)
    rcases a.2 k with f | ⟨_, f2⟩ | ⟨f, _⟩
    · rw [← f]; exact e2
    · exact f2
    · exact absurd f e2
  · rcases a.2 k with f | ⟨f, _⟩ | ⟨f, _, _⟩
    · exact .inr (.inr ⟨e, c, f ▸ hc⟩)
    · rw [f] at hc; cases hc
    · rw [f] at hc; cases hc

theorem off_gone {h : List Blk} {b : Nat} (hb : nth h b ≠ some .lent) : Off h (upd h b .gone) := by
  refine ⟨upd_length _ _ _, fun k => ?_⟩
  rcases nth_upd_cases h b k Blk.gone with ⟨e, h2, _⟩ | h2
  · subst e; exact .inr (.inl ⟨h2, hb⟩)
  · exact .inl h2
theorem off_lent {h : List Blk} {b : Nat} {c : List SV} (hb : nth h b = some (.vars c)) : Off h (upd h b .lent) := by
  refine ⟨upd_length _ _ _, fun k => ?_⟩
  rcases nth_upd_cases h b k Blk.lent with ⟨e, h2, _⟩ | h2
  · subst e; exact .inr (.inr ⟨h2, c, hb⟩)
  · exact .inl h2
theorem Off.lent {h h' : List Blk} (a : Off h h') {b : Nat} (hb : nth h b = some .lent) : nth h' b = some .lent := by
  rcases a.2 b with f | ⟨_, f2⟩ | ⟨f, _⟩
  · exact f.trans hb
  · exact absurd hb f2
  · exact f

/-- the blocks that have gone out -/
def Went (rho : Rho) (h h' : List Blk) (S : List Nat) : Prop :=
  ∀ k ∈ S, ∃ b d, rho b = some d ∧ live (nth h b) ∧ (nth h' b = some .gone ∨ nth h' b = some .lent) ∧ nth h b ≠ some .lent ∧ k ∈ d.blks

theorem Went.later {rho : Rho} {h h' h'' : List Blk} {S : List Nat} (hw : Went rho h h' S) (ho : Off h' h'') : Went rho h h'' S := by
  intro k hk
  obtain ⟨b, d, h1, h2, h3, h4, h5⟩ := hw k hk
  refine ⟨b, d, h1, h2, ?_, h4, h5⟩
  rcases ho.2 b with e | ⟨e, _⟩ | ⟨e, _⟩
  · rw [e]; exact h3
  · exact .inl e
  · exact .inr e
theorem Went.earlier {rho : Rho} {h h' h'' : List Blk} {S : List Nat} (ho : Off h h') (hw : Went rho h' h'' S) : Went rho h h'' S := by
  intro k hk
  obtain ⟨b, d, h1, h2, h3, h4, h5⟩ := hw k hk
  refine ⟨b, d, h1, off_live ho h2, h3, ?_, h5⟩
  intro hl
  rcases ho.2 b with e | ⟨e, _⟩ | ⟨e, _⟩
  · exact h4 (e.trans hl)
  · rw [e] at h2; exact h2
  · exact h4 e

theorem Went.apart {z : Z} (hi : IZ z) {h' h'' : List Blk} {S S' : List Nat} (ho : Off z.h h') (hw : Went z.rho z.h h' S) (hw' : Went z.rho h' h'' S') : ∀ k ∈ S, k ∉ S' := by
  intro k hk hk'
  obtain ⟨b, d, h1, h2, h3, h4, h5⟩ := hw k hk
  obtain ⟨b', d', k1, k2, k3, k4, k5⟩ := hw' k hk'
  by_cases e : b = b'
  · subst e
    rcases h3 with h3 | h3
    · rw [h3] at k2; exact k2
    · exact k4 h3
  · exact hi.disj b b' d d' h1 k1 h2 (off_live ho k2) e k h5 k5

mutual
theorem CV.mono {im im' : Nat → Prop} {w : World} (hi : ∀ k, im k → im' k) : ∀ (v : SV) (c : Value) (S B : List Nat), CV im w v c S B → CV im' w v c S B
  | .val t x, c, S, B, h => by
    simp only [CV] at h ⊢
    obtain ⟨h1, h2, cs, h3, h4⟩ := h
    exact ⟨h1, h2, cs, h3.im hi, h4⟩
  | .nil, c, S, B, h => by simp only [CV] at h ⊢; exact h
  | .fr t x, c, S, B, h => by
    simp only [CV] at h ⊢
    exact ⟨h.1, h.2.1, h.2.2.mono (fun k hk => ⟨hi k hk, rfl⟩) _ _ _ _ _ (fun _ _ => rfl)⟩
  | .agg l, c, S, B, h => by simp only [CV] at h ⊢; obtain ⟨cs, h1, h2⟩ := h; exact ⟨cs, h1, CVL.mono hi l cs S B h2⟩
  | .tup l, c, S, B, h => by simp only [CV] at h ⊢; obtain ⟨cs, h1, h2⟩ := h; exact ⟨cs, h1, CVL.mono hi l cs S B h2⟩
  | .fn f l, c, S, B, h => by simp only [CV] at h ⊢; obtain ⟨cs, h1, h2⟩ := h; exact ⟨cs, h1, CVL.mono hi l cs S B h2⟩
  | .mr l, c, S, B, h => by
    simp only [CV] at h ⊢
    obtain ⟨blk, cs, e, S', h1, h2, h3, h4, h5⟩ := h
    exact ⟨blk, cs, e, S', h1, h2, h3, h4, CVL.mono hi l cs S' [] h5⟩
  | .own _ _, _, _, _, h => by simp only [CV] at h
  | .sub _ _ _ _, _, _, _, h => by simp only [CV] at h
  | .ptr _ _, _, _, _, h => by simp only [CV] at h
  | .eptr _ _ _ _, _, _, _, h => by simp only [CV] at h
  | .rptr _ _ _, _, _, _, h => by simp only [CV] at h
  | .dead, _, _, _, h => by simp only [CV] at h
theorem CVL.mono {im im' : Nat → Prop} {w : World} (hi : ∀ k, im k → im' k) : ∀ (l : List SV) (c : List Value) (S B : List Nat), CVL im w l c S B → CVL im' w l c S B
  | [], c, S, B, h => by simp only [CVL] at h ⊢; exact h
  | x :: l, c, S, B, h => by
    simp only [CVL] at h ⊢
    obtain ⟨c1, r, S1, S2, B1, B2, h1, h2, h3, h4, h5⟩ := h
    exact ⟨c1, r, S1, S2, B1, B2, h1, h2, h3, CV.mono hi x c1 S1 B1 h4, CVL.mono hi l r S2 B2 h5⟩
end

/-- no list that is not owned: the promise about such lists does not matter -/
theorem TR.noRo {im im' : Nat → Prop} {w : World} : ∀ {t : Ty} {x : t.den} {cs : List Value} {S : List Nat}, t.hasRo = false → TR im w true t x cs S → TR im' w true t x cs S := by
  intro t
  induction t with
  | int k => intro x cs S _ h; exact h
  | bool => intro x cs S _ h; exact h
  | str => intro x cs S _ h; exact h
  | unit => intro x cs S _ h; exact h
  | pair a b iha ihb =>
    intro x cs S hn h
    simp only [Ty.hasRo, Bool.or_eq_false_iff] at hn
    obtain ⟨c1, c2, S1, S2, h1, h2, h3, h4⟩ := h
    exact ⟨c1, c2, S1, S2, h1, h2, iha hn.1 h3, ihb hn.2 h4⟩
  | sl u a iha =>
    intro x cs S hn h
    simp only [Ty.hasRo, Bool.or_eq_false_iff, Bool.not_eq_false'] at hn
    obtain ⟨A, cap, h1, h2, h3⟩ := h
    refine ⟨A, cap, h1, h2, ?_⟩
    rw [hn.1] at h3 ⊢
    simp only [Bool.and_self, if_true] at h3 ⊢
    cases A with
    | none => exact h3
    | some ad =>
      obtain ⟨q1, inner, S', q2, q3, q4⟩ := h3
      exact ⟨q1, inner, S', q2, q3, q4.imp (fun x c S1 _ hr => iha hn.2 hr)⟩

mutual
theorem CV.noRo {im im' : Nat → Prop} {w : World} : ∀ (v : SV) (c : Value) (S B : List Nat), hasRo v = false → CV im w v c S B → CV im' w v c S B
  | .val t x, c, S, B, hn, h => by
    simp only [CV] at h ⊢
    obtain ⟨h1, h2, cs, h3, h4⟩ := h
    exact ⟨h1, h2, cs, h3.noSl hn, h4⟩
  | .nil, c, S, B, _, h => by simp only [CV] at h ⊢; exact h
  | .fr t x, c, S, B, hn, h => by
    simp only [CV] at h ⊢
    refine ⟨h.1, h.2.1, h.2.2.noRo ?_⟩
    simp only [hasRo] at hn
    simp [Ty.hasRo, hn]
  | .agg l, c, S, B, hn, h => by simp only [hasRo] at hn; simp only [CV] at h ⊢; obtain ⟨cs, h1, h2⟩ := h; exact ⟨cs, h1, CVL.noRo l cs S B hn h2⟩
  | .tup l, c, S, B, hn, h => by simp only [hasRo] at hn; simp only [CV] at h ⊢; obtain ⟨cs, h1, h2⟩ := h; exact ⟨cs, h1, CVL.noRo l cs S B hn h2⟩
  | .fn f l, c, S, B, hn, h => by simp only [hasRo] at hn; simp only [CV] at h ⊢; obtain ⟨cs, h1, h2⟩ := h; exact ⟨cs, h1, CVL.noRo l cs S B hn h2⟩
  | .mr l, c, S, B, hn, h => by
    simp only [hasRo] at hn
    simp only [CV] at h ⊢
    obtain ⟨blk, cs, e, S', h1, h2, h3, h4, h5⟩ := h
    exact ⟨blk, cs, e, S', h1, h2, h3, h4, CVL.noRo l cs S' [] hn h5⟩
  | .own _ _, _, _, _, _, h => by simp only [CV] at h
  | .sub _ _ _ _, _, _, _, _, h => by simp only [CV] at h
  | .ptr _ _, _, _, _, _, h => by simp only [CV] at h
  | .eptr _ _ _ _, _, _, _, _, h => by simp only [CV] at h
  | .rptr _ _ _, _, _, _, _, h => by simp only [CV] at h
  | .dead, _, _, _, _, h => by simp only [CV] at h
theorem CVL.noRo {im im' : Nat → Prop} {w : World} : ∀ (l : List SV) (c : List Value) (S B : List Nat), hasRoL l = false → CVL im w l c S B → CVL im' w l c S B
  | [], c, S, B, _, h => by simp only [CVL] at h ⊢; exact h
  | x :: l, c, S, B, hn, h => by
    simp only [hasRoL, Bool.or_eq_false_iff] at hn
    simp only [CVL] at h ⊢
    obtain ⟨c1, r, S1, S2, B1, B2, h1, h2, h3, h4, h5⟩ := h
    exact ⟨c1, r, S1, S2, B1, B2, h1, h2, h3, CV.noRo x c1 S1 B1 hn.1 h4, CVL.noRo l r S2 B2 hn.2 h5⟩
end

/-! ### Values that go out -/
mutual
theorem pub_ok {im0 : Nat → Prop} {z : Z} (hi : IZ z) (him : z.im = im0) : ∀ (v : SV) (c : Value) (v' : SV) (h' : List Blk), V z v c → pub z.h v = some (v', h') →
    ∃ S, CV z.im z.w v' c S [] ∧ S.Nodup ∧ Off z.h h' ∧ Went z.rho z.h h' S
  | .val t x, c, v', h', hv, hp => by
    simp only [pub, Option.some.injEq, Prod.mk.injEq] at hp
    obtain ⟨rfl, rfl⟩ := hp
    simp only [V] at hv
    exact ⟨[], by simp only [CV]; exact ⟨trivial, trivial, hv⟩, by simp, Off.refl _, by intro k hk; simp at hk⟩
  | .nil, c, v', h', hv, hp => by
    simp only [pub, Option.some.injEq, Prod.mk.injEq] at hp
    obtain ⟨rfl, rfl⟩ := hp
    simp only [V] at hv
    exact ⟨[], by simp only [CV]; exact ⟨trivial, trivial, hv⟩, by simp, Off.refl _, by intro k hk; simp at hk⟩
  | .own b v, c, v', h', hv, hp => by
    simp only [pub] at hp
    split at hp
    · rename_i v1 t x hb
      split at hp
      · rename_i e
        simp only [Option.some.injEq, Prod.mk.injEq] at hp
        obtain ⟨rfl, rfl⟩ := hp
        obtain ⟨A, cap, S, h1, h2⟩ := V_own hv hb e
        have hs := hi.sim b _ h1
        rw [hb] at hs
        obtain ⟨A1, cap1, S1, k1, k2, k3⟩ := hs
        cases k1
        refine ⟨S, ?_, hi.nodup b _ h1 (by rw [hb]; trivial), off_gone (by rw [hb]; simp), ?_⟩
        · simp only [CV]
          exact ⟨trivial, k3, by rw [h2]; exact k2⟩
        · intro k hk
          exact ⟨b, _, h1, by rw [hb]; trivial, .inl (nth_upd_eq hb), by rw [hb]; simp, hk⟩
      · cases hp
    · cases hp
  | .sub b v off n, c, v', h', hv, hp => by
    simp only [pub] at hp
    split at hp
    · rename_i v1 t x hb
      split at hp
      · rename_i e
        cases hnu : t.noUq with
        | false => rw [hnu] at hp; cases hp
        | true =>
          rw [hnu] at hp
          simp only [cond_true, Option.some.injEq, Prod.mk.injEq] at hp
          obtain ⟨rfl, rfl⟩ := hp
          obtain ⟨h0, A, cap, S, o, cap', h1, h2, h3, h4, h5⟩ := V_sub hv hb e
          have hs := hi.sim b _ h1
          rw [hb] at hs
          obtain ⟨A1, cap1, S1, k1, k2, k3⟩ := hs
          cases k1
          obtain ⟨A2, cap2, m1, m2, m3⟩ := k2
          simp only [List.cons.injEq, and_true, Value.slice.injEq] at m1
          obtain ⟨rfl, _, rfl⟩ := m1
          simp only [Bool.and_self, if_true] at m3
          have hlen : ((x.drop off).take n).length = n := by simp; omega
          refine ⟨S, ?_, hi.nodup b _ h1 (by rw [hb]; trivial), off_gone (by rw [hb]; simp), ?_⟩
          · simp only [CV]
            refine ⟨trivial, k3, ?_⟩
            rw [h2]
            refine ⟨moved A o, cap', by rw [hlen], by rw [hlen]; exact h3, ?_⟩
            simp only [Bool.and_self, if_true]
            cases A with
            | none =>
              obtain ⟨rfl, rfl, rfl⟩ := m3
              have : cap' = 0 := by
                have : cap' * t.size ≤ 0 := by omega
                rcases Nat.eq_zero_or_pos cap' with q | q
                · exact q
                · have := Nat.mul_pos q k3; omega
              exact ⟨by simp, this, rfl⟩
            | some ad =>
              obtain ⟨q1, inner, S', q2, ⟨all, e', q3, q4, q5⟩, q6⟩ := m3
              obtain ⟨q7, q8⟩ := q6.noUq hnu
              subst q7
              refine ⟨rfl, (inner.drop (off * t.size)).take (n * t.size), [], q2, ⟨all, e', q3, by simp only; omega, ?_⟩, Reps.ofRo hnu (Reps.take (fun _ _ _ hr => hr.len) n (Reps.drop (fun _ _ _ hr => hr.len) off q8))⟩
              intro j u hj
              rw [List.getElem?_take] at hj
              split at hj
              · rename_i hjn
                have hn0 : 0 < n := by
                  rcases Nat.eq_zero_or_pos n with q | q
                  · subst q; simp at hjn
                  · exact q
                rw [List.getElem?_drop] at hj
                have := q5 _ u hj
                simp only
                rw [h5 hn0, show ad.off + off * t.size + j = ad.off + (off * t.size + j) by omega]
                exact this
              · cases hj
          · intro k hk
            exact ⟨b, _, h1, by rw [hb]; trivial, .inl (nth_upd_eq hb), by rw [hb]; simp, hk⟩
      · cases hp
    · cases hp
  | .agg l, c, v', h', hv, hp => by
    simp only [pub] at hp
    split at hp
    · rename_i l' h1 hl
      simp only [Option.some.injEq, Prod.mk.injEq] at hp
      obtain ⟨rfl, rfl⟩ := hp
      simp only [V] at hv
      obtain ⟨cs, h2, h3⟩ := hv
      obtain ⟨S, k1, k2, k3, k4⟩ := pubL_ok hi him l cs l' h1 h3 hl
      exact ⟨S, by simp only [CV]; exact ⟨cs, h2, k1⟩, k2, k3, k4⟩
    · cases hp
  | .tup l, c, v', h', hv, hp => by
    simp only [pub] at hp
    split at hp
    · rename_i l' h1 hl
      simp only [Option.some.injEq, Prod.mk.injEq] at hp
      obtain ⟨rfl, rfl⟩ := hp
      simp only [V] at hv
      obtain ⟨cs, h2, h3⟩ := hv
      obtain ⟨S, k1, k2, k3, k4⟩ := pubL_ok hi him l cs l' h1 h3 hl
      exact ⟨S, by simp only [CV]; exact ⟨cs, h2, k1⟩, k2, k3, k4⟩
    · cases hp
  | .ptr _ _, _, _, _, _, hp => by simp [pub] at hp
  | .eptr _ _ _ _, _, _, _, _, hp => by simp [pub] at hp
  | .rptr _ _ _, _, _, _, _, hp => by simp [pub] at hp
  | .fn _ _, _, _, _, _, hp => by simp [pub] at hp
  | .fr _ _, _, _, _, _, hp => by simp [pub] at hp
  | .mr _, _, _, _, _, hp => by simp [pub] at hp
  | .dead, _, _, _, _, hp => by simp [pub] at hp
theorem pubL_ok {im0 : Nat → Prop} {z : Z} (hi : IZ z) (him : z.im = im0) : ∀ (l : List SV) (cs : List Value) (l' : List SV) (h' : List Blk), VL z l cs → pubL z.h l = some (l', h') →
    ∃ S, CVL z.im z.w l' cs S [] ∧ S.Nodup ∧ Off z.h h' ∧ Went z.rho z.h h' S
  | [], cs, l', h', hv, hp => by
    simp only [pubL, Option.some.injEq, Prod.mk.injEq] at hp
    obtain ⟨rfl, rfl⟩ := hp
    simp only [VL] at hv
    exact ⟨[], by simp only [CVL]; exact ⟨hv, trivial, trivial⟩, by simp, Off.refl _, by intro k hk; simp at hk⟩
  | x :: l, cs, l', h', hv, hp => by
    simp only [pubL] at hp
    split at hp
    · rename_i x' h1 hx
      split at hp
      · rename_i l1 h2 hl
        simp only [Option.some.injEq, Prod.mk.injEq] at hp
        obtain ⟨rfl, rfl⟩ := hp
        simp only [VL] at hv
        obtain ⟨c, r, e1, e2, e3⟩ := hv
        obtain ⟨S1, k1, k2, k3, k4⟩ := pub_ok hi him x c x' h1 e2 hx
        have hi2 := off_iz hi k3
        obtain ⟨S2, m1, m2, m3, m4⟩ := pubL_ok (z := z.withH h1) hi2 him l r l1 h2 (VL.ext (off_ext k3) l r e3) hl
        have hap := Went.apart hi k3 k4 m4
        refine ⟨S1 ++ S2, ?_, List.nodup_append.2 ⟨k2, m2, fun a ha b hb e => hap a ha (e ▸ hb)⟩, k3.trans m3, ?_⟩
        · simp only [CVL]
          exact ⟨c, r, S1, S2, [], [], e1, rfl, rfl, k1, m1⟩
        · intro k hk
          rcases List.mem_append.1 hk with q | q
          · exact (k4.later m3) k q
          · exact (m4.earlier k3) k q
      · cases hp
    · cases hp
end

/-- blocks that are read while they stay -/
def LI (z : Z) (lent : List Nat) (k : Nat) : Prop := z.im k ∨ ∃ r ∈ lent, ∃ d, z.rho r = some d ∧ live (nth z.h r) ∧ k ∈ d.blks

theorem LI.mono {z : Z} {l l' : List Nat} (h : ∀ r ∈ l, r ∈ l') {k : Nat} (hk : LI z l k) : LI z l' k := by
  rcases hk with hk | ⟨r, h1, h2⟩
  · exact .inl hk
  · exact .inr ⟨r, h r h1, h2⟩
theorem LI.back {z : Z} {h' : List Blk} (ho : Off z.h h') {l : List Nat} {k : Nat} (hk : LI (z.withH h') l k) : LI z l k := by
  rcases hk with hk | ⟨r, h1, d, h2, h3, h4⟩
  · exact .inl hk
  · exact .inr ⟨r, h1, d, h2, off_live ho h3, h4⟩

inductive BoxOk (rho : Rho) (h h' : List Blk) : List Nat → List Nat → Prop
  | nil : BoxOk rho h h' [] []
  | cons {b blk : Nat} {bs blks : List Nat} : rho b = some (.v blk) → (∃ c, nth h b = some (.vars c)) → nth h' b = some .lent → BoxOk rho h h' bs blks → BoxOk rho h h' (b :: bs) (blk :: blks)

theorem BoxOk.later {rho : Rho} {h h' h'' : List Blk} (ho : Off h' h'') {bs blks : List Nat} (hb : BoxOk rho h h' bs blks) : BoxOk rho h h'' bs blks := by
  induction hb with
  | nil => exact .nil
  | cons h1 h2 h3 _ ih => exact .cons h1 h2 (ho.lent h3) ih
theorem BoxOk.earlier {rho : Rho} {h h' h'' : List Blk} (ho : Off h h') {bs blks : List Nat} (hb : BoxOk rho h' h'' bs blks) : BoxOk rho h h'' bs blks := by
  induction hb with
  | nil => exact .nil
  | cons h1 h2 h3 _ ih =>
    refine .cons h1 ?_ h3 ih
    obtain ⟨c, hc⟩ := h2
    rename_i b _ _ _ _
    rcases ho.2 b with f | ⟨f, _⟩ | ⟨f, c', hc'⟩
    · exact ⟨c, f ▸ hc⟩
    · rw [f] at hc; cases hc
    · exact ⟨c', hc'⟩
theorem BoxOk.append {rho : Rho} {h h' : List Blk} {bs cs blks clks : List Nat} (a : BoxOk rho h h' bs blks) (b : BoxOk rho h h' cs clks) : BoxOk rho h h' (bs ++ cs) (blks ++ clks) := by
  induction a with
  | nil => exact b
  | cons h1 h2 h3 _ ih => exact .cons h1 h2 h3 ih

theorem CVL.append {im : Nat → Prop} {w : World} : ∀ {l l' : List SV} {c c' : List Value} {S S' B B' : List Nat}, CVL im w l c S B → CVL im w l' c' S' B' → CVL im w (l ++ l') (c ++ c') (S ++ S') (B ++ B')
  | [], _, _, _, _, _, _, _, h, h' => by simp only [CVL] at h; obtain ⟨rfl, rfl, rfl⟩ := h; simpa using h'
  | x :: l, l', c, c', S, S', B, B', h, h' => by
    simp only [CVL] at h
    obtain ⟨c1, r, S1, S2, B1, B2, rfl, rfl, rfl, h4, h5⟩ := h
    simp only [List.cons_append, CVL]
    exact ⟨c1, r ++ c', S1, S2 ++ S', B1, B2 ++ B', rfl, by simp, by simp, h4, CVL.append h5 h'⟩

structure PrepOk (z : Z) (p : Prep) (cs : List Value) (S B : List Nat) : Prop where
  args : CVL (LI z p.lent) z.w p.args cs S B
  nodup : S.Nodup
  off : Off z.h p.heap
  went : Went z.rho z.h p.heap S
  boxes : BoxOk z.rho z.h p.heap p.boxes B

mutual
theorem prep_ok : ∀ (m : Mode) {z : Z} (_ : IZ z) (v : SV) (c : Value) (p : Prep), V z v c → prep m v z.h = some p → ∃ S B, PrepOk z p [c] S B
  | .ro t, z, hi, v, c, p, hv, hp => by
    simp only [prep] at hp
    split at hp
    · rename_i x hx
      simp only [Option.some.injEq] at hp
      subst hp
      obtain ⟨cs, h1, h2⟩ := toTy_ok hi.sim hv hx
      refine ⟨[], [], ?_, by simp, Off.refl _, by intro k hk; simp at hk, .nil⟩
      simp only [CVL, CV]
      refine ⟨c, [], [], [], [], [], rfl, rfl, rfl, ⟨rfl, rfl, cs, h1.im (fun k hk => ?_), h2⟩, rfl, rfl, rfl⟩
      rcases hk with hk | ⟨_, hk⟩
      · exact .inl hk
      · exact .inr hk
    · cases hp
  | .mv, z, hi, v, c, p, hv, hp => by
    simp only [prep] at hp
    split at hp
    · rename_i v' h' hx
      simp only [Option.some.injEq] at hp
      subst hp
      obtain ⟨S, h1, h2, h3, h4⟩ := pub_ok hi rfl v c v' h' hv hx
      refine ⟨S, [], ?_, h2, h3, h4, .nil⟩
      simp only [CVL]
      exact ⟨c, [], S, [], [], [], rfl, by simp, rfl, CV.mono (fun k hk => .inl hk) _ _ _ _ h1, rfl, rfl, rfl⟩
    · cases hp
  | .mref, z, hi, v, c, p, hv, hp => by
    simp only [prep] at hp
    split at hp
    · rename_i b
      split at hp
      · rename_i cells hb
        split at hp
        · rename_i c' h' hx
          simp only [Option.some.injEq] at hp
          subst hp
          obtain ⟨blk, h1, h2⟩ := V_ptr hv hb
          have hs := hi.sim b _ h1
          rw [hb] at hs
          obtain ⟨blk', cs, e, k1, k2, k3⟩ := hs
          cases k1
          have hol := off_lent hb
          have hi2 := off_iz hi hol
          obtain ⟨S, m1, m2, m3, m4⟩ := pubL_ok (z := z.withH (upd z.h b .lent)) hi2 rfl cells cs c' h' (VL.ext (off_ext hol) _ _ k3) hx
          have hbl : nth (upd z.h b .lent) b = some .lent := nth_upd_eq hb
          have hnot : blk ∉ S := by
            intro hm
            obtain ⟨b', d', q1, q2, q3, q4, q5⟩ := m4 blk hm
            by_cases eb : b' = b
            · subst eb; exact q4 hbl
            · exact hi2.disj b' b d' _ q1 h1 q2 (by show live (nth (upd z.h b .lent) b); rw [hbl]; trivial) eb blk q5 (by simp [D.blks])
          refine ⟨blk :: S, [blk], ?_, List.nodup_cons.2 ⟨hnot, m2⟩, hol.trans m3, ?_, .cons h1 ⟨cells, hb⟩ (m3.lent hbl) .nil⟩
          · simp only [CVL, CV]
            exact ⟨c, [], blk :: S, [], [blk], [], rfl, by simp, rfl, ⟨blk, cs, e, S, h2, rfl, rfl, k2, CVL.mono (fun k hk => .inl hk) _ _ _ _ m1⟩, rfl, rfl, rfl⟩
          · intro k hk
            rcases List.mem_cons.1 hk with q | q
            · subst q
              exact ⟨b, _, h1, by rw [hb]; trivial, .inr (m3.lent hbl), by rw [hb]; simp, by simp [D.blks]⟩
            · exact (m4.earlier hol) k q
        · cases hp
      · cases hp
    · cases hp
  | .fnm ms, z, hi, v, c, p, hv, hp => by
    simp only [prep] at hp
    split at hp
    · rename_i f cap
      split at hp
      · rename_i q hq
        simp only [Option.some.injEq] at hp
        subst hp
        simp only [V] at hv
        obtain ⟨cs, h1, h2⟩ := hv
        obtain ⟨S, B, k⟩ := prepL_ok ms hi cap cs q h2 hq
        refine ⟨S, B, ?_, k.nodup, k.off, k.went, k.boxes⟩
        simp only [CVL, CV]
        exact ⟨c, [], S, [], B, [], rfl, by simp, by simp, ⟨cs, h1, k.args⟩, rfl, rfl, rfl⟩
      · cases hp
    · cases hp
theorem prepL_ok : ∀ (ms : List Mode) {z : Z} (_ : IZ z) (vs : List SV) (cs : List Value) (p : Prep), VL z vs cs → prepL ms vs z.h = some p → ∃ S B, PrepOk z p cs S B
  | [], z, hi, vs, cs, p, hv, hp => by
    simp only [prepL] at hp
    split at hp
    · simp only [Option.some.injEq] at hp
      subst hp
      simp only [VL] at hv
      exact ⟨[], [], by simp only [CVL]; exact ⟨hv, trivial, trivial⟩, by simp, Off.refl _, by intro k hk; simp at hk, .nil⟩
    · cases hp
  | m :: ms, z, hi, vs, cs, p, hv, hp => by
    simp only [prepL] at hp
    split at hp
    · cases hp
    · rename_i v vs'
      split at hp
      · cases hp
      · rename_i p1 hp1
        split at hp
        · cases hp
        · rename_i q hq
          simp only [Option.some.injEq] at hp
          subst hp
          simp only [VL] at hv
          obtain ⟨c, r, rfl, h2, h3⟩ := hv
          obtain ⟨S1, B1, k1⟩ := prep_ok m hi v c p1 h2 hp1
          have hi2 := off_iz hi k1.off
          obtain ⟨S2, B2, k2⟩ := prepL_ok ms (z := z.withH p1.heap) hi2 vs' r q (VL.ext (off_ext k1.off) _ _ h3) hq
          have hap := Went.apart hi k1.off k1.went k2.went
          refine ⟨S1 ++ S2, B1 ++ B2, ?_, List.nodup_append.2 ⟨k1.nodup, k2.nodup, fun a ha b hb e => hap a ha (e ▸ hb)⟩, k1.off.trans k2.off, ?_, (k1.boxes.later k2.off).append (k2.boxes.earlier k1.off)⟩
          · have a1 := CVL.mono (im' := LI z (p1.lent ++ q.lent)) (fun k hk => LI.mono (fun r hr => by simp [hr]) hk) _ _ _ _ k1.args
            have a2 := CVL.mono (im' := LI z (p1.lent ++ q.lent)) (fun k hk => LI.mono (fun r hr => by simp [hr]) (LI.back k1.off hk)) _ _ _ _ k2.args
            exact CVL.append a1 a2
          · intro k hk
            rcases List.mem_append.1 hk with q' | q'
            · exact (k1.went.later k2.off) k q'
            · exact (k2.went.earlier k1.off) k q'
end

end Go.Sx

namespace Go.Sx
open Go

def Z.mk2 (z : Z) (rho : Rho) (h : List Blk) : Z := ⟨z.im, z.w, rho, h⟩

/-- no block of these is owned or promised -/
def Free (z : Z) (S : List Nat) : Prop := ∀ k ∈ S, ¬ z.im k ∧ ∀ b d, z.rho b = some d → live (nth z.h b) → k ∉ d.blks

structure Grew (z : Z) (rho' : Rho) (h' : List Blk) (S : List Nat) : Prop where
  iz : IZ (z.mk2 rho' h')
  ext : Ext z (z.mk2 rho' h')
  len : z.h.length ≤ h'.length
  old : ∀ b, b < z.h.length → nth h' b = nth z.h b ∧ rho' b = z.rho b
  new : ∀ b d, z.h.length ≤ b → rho' b = some d → live (nth h' b) → ∀ k ∈ d.blks, k ∈ S

theorem Grew.refl {z : Z} (hi : IZ z) : Grew z z.rho z.h [] :=
  ⟨hi, Ext.refl _, Nat.le_refl _, fun _ _ => ⟨rfl, rfl⟩, fun b d hb hr hl => by rw [nth_none.2 hb] at hl; exact hl.elim⟩

theorem Grew.trans {z : Z} {r1 r2 : Rho} {h1 h2 : List Blk} {S S' : List Nat} (a : Grew z r1 h1 S) (b : Grew (z.mk2 r1 h1) r2 h2 S') : Grew z r2 h2 (S ++ S') where
  iz := b.iz
  ext := a.ext.trans b.ext
  len := Nat.le_trans a.len b.len
  old := fun k hk => by
    have h1' := a.old k hk
    have h2' := b.old k (Nat.lt_of_lt_of_le hk a.len)
    exact ⟨h2'.1.trans h1'.1, h2'.2.trans h1'.2⟩
  new := fun k d hk hr hl q hq => by
    rcases Nat.lt_or_ge k h1.length with hlt | hge
    · have h2' := b.old k hlt
      rw [h2'.1] at hl
      rw [h2'.2] at hr
      exact List.mem_append.2 (.inl (a.new k d hk hr hl q hq))
    · exact List.mem_append.2 (.inr (b.new k d hge hr hl q hq))

theorem Free.step {z : Z} {r1 : Rho} {h1 : List Blk} {S S' : List Nat} (a : Grew z r1 h1 S) (hf : Free z S') (hd : ∀ k ∈ S, k ∉ S') : Free (z.mk2 r1 h1) S' := by
  intro k hk
  refine ⟨(hf k hk).1, fun b d hr hl hm => ?_⟩
  rcases Nat.lt_or_ge b z.h.length with hlt | hge
  · have h := a.old b hlt
    have hl' : live (nth h1 b) := hl
    rw [h.1] at hl'
    have hr' : r1 b = some d := hr
    rw [h.2] at hr'
    exact (hf k hk).2 b d hr' hl' hm
  · exact hd k (a.new b d hge hr hl k hm) hk

theorem add_arr {z : Z} (hi : IZ z) {t : Ty} {x : List t.den} {c : Value} {S : List Nat} (ht : TR z.im z.w true (.sl true t) x [c] S) (hp : 0 < t.size) (hn : S.Nodup) (hf : Free z S) :
    ∃ rho', Grew z rho' (z.h ++ [.arr 0 t x]) S ∧ V (z.mk2 rho' (z.h ++ [.arr 0 t x])) (.own z.h.length 0) c := by
  obtain ⟨A, cap, h1, h2, h3⟩ := ht
  simp only [List.cons.injEq, and_true] at h1
  subst h1
  refine ⟨rset z.rho z.h.length (.s A cap S), ?_, ?_⟩
  · have old : ∀ b d', rset z.rho z.h.length (.s A cap S) b = some d' → live (nth (z.h ++ [Blk.arr 0 t x]) b) → (b = z.h.length ∧ d' = .s A cap S) ∨ (b < z.h.length ∧ z.rho b = some d' ∧ live (nth z.h b)) := by
      intro b d' h1 h2
      rcases nth_snoc_cases z.h (Blk.arr 0 t x) b with ⟨e, _⟩ | ⟨e, h4⟩ | ⟨_, h4, _⟩
      · subst e; simp only [rset, if_pos] at h1; cases h1; exact .inl ⟨rfl, rfl⟩
      · have : b ≠ z.h.length := by omega
        simp only [rset, if_neg this] at h1
        rw [h4] at h2
        exact .inr ⟨e, h1, h2⟩
      · rw [h4] at h2; exact h2.elim
    have hext : Ext z (z.mk2 (rset z.rho z.h.length (.s A cap S)) (z.h ++ [.arr 0 t x])) := {
      im := fun k hk => ⟨hk, rfl⟩
      le := fun b => by
        show BlkLe (z.rho b) (rset z.rho z.h.length (.s A cap S) b) (nth z.h b) (nth (z.h ++ [Blk.arr 0 t x]) b)
        rcases nth_snoc_cases z.h (Blk.arr 0 t x) b with ⟨e, h4⟩ | ⟨e, h4⟩ | ⟨_, h4, h5⟩
        · subst e; rw [nth_none.2 (Nat.le_refl _)]; trivial
        · have : b ≠ z.h.length := by omega
          rw [h4]; simp only [rset, if_neg this]; exact BlkLe.refl _ _
        · rw [h5]; trivial }
    refine ⟨⟨?_, ?_, ?_, ?_⟩, hext, by simp, ?_, ?_⟩
    · intro b d' h1
      show SimB _ d' (nth (z.h ++ [Blk.arr 0 t x]) b)
      have h1 : rset z.rho z.h.length (.s A cap S) b = some d' := h1
      rcases nth_snoc_cases z.h (Blk.arr 0 t x) b with ⟨e, h4⟩ | ⟨e, h4⟩ | ⟨_, h4, _⟩
      · subst e; simp only [rset, if_pos] at h1; cases h1; rw [h4]
        exact ⟨A, cap, S, rfl, ⟨A, cap, rfl, h2, h3⟩, hp⟩
      · have hne : b ≠ z.h.length := by omega
        simp only [rset, if_neg hne] at h1
        rw [h4]
        exact (hi.sim b d' h1).ext hext (fun _ _ _ => rfl)
      · rw [h4]; trivial
    · intro b1 b2 d1 d2 h1 h2 l1 l2 hne k hk hk2
      rcases old b1 d1 h1 l1 with ⟨e0, e⟩ | ⟨_, e1, e2⟩
      · subst e
        rcases old b2 d2 h2 l2 with ⟨f0, _⟩ | ⟨_, f1, f2⟩
        · exact hne (e0.trans f0.symm)
        · exact (hf k hk).2 b2 d2 f1 f2 hk2
      · rcases old b2 d2 h2 l2 with ⟨_, f⟩ | ⟨_, f1, f2⟩
        · subst f; exact (hf k hk2).2 b1 d1 e1 e2 hk
        · exact hi.disj b1 b2 d1 d2 e1 f1 e2 f2 hne k hk hk2
    · intro b1 d1 h1 l1
      rcases old b1 d1 h1 l1 with ⟨_, e⟩ | ⟨_, e1, e2⟩
      · subst e; exact hn
      · exact hi.nodup b1 d1 e1 e2
    · intro b1 d1 h1 l1 k hk
      rcases old b1 d1 h1 l1 with ⟨_, e⟩ | ⟨_, e1, e2⟩
      · subst e; exact (hf k hk).1
      · exact hi.sep b1 d1 e1 e2 k hk
    · intro b hb
      exact ⟨nth_append_lt hb, by simp only [rset]; rw [if_neg (by omega)]⟩
    · intro b d hb hr hl k hk
      rcases old b d hr hl with ⟨_, e⟩ | ⟨e, _⟩
      · subst e; exact hk
      · omega
  · exact own_at (z := z.mk2 (rset z.rho z.h.length (.s A cap S)) (z.h ++ [Blk.arr 0 t x])) (b := z.h.length) (v := 0) (a := t) (x := x) (show nth (z.h ++ [Blk.arr 0 t x]) z.h.length = _ from nth_snoc _ _) rset_same rfl

theorem nodup_parts {S1 S2 : List Nat} (h : (S1 ++ S2).Nodup) : S1.Nodup ∧ S2.Nodup ∧ ∀ k ∈ S1, k ∉ S2 := by
  obtain ⟨h1, h2, h3⟩ := List.nodup_append.1 h
  exact ⟨h1, h2, fun k hk hk2 => h3 k hk k hk2 rfl⟩

mutual
theorem thaw_ok : ∀ (v : SV) {z : Z} (_ : IZ z) (c : Value) (S : List Nat), CV z.im z.w v c S [] → S.Nodup → Free z S →
    ∃ rho', Grew z rho' (thaw z.h v).2 S ∧ V (z.mk2 rho' (thaw z.h v).2) (thaw z.h v).1 c
  | .val t x, z, hi, c, S, hv, _, _ => by
    simp only [CV] at hv
    obtain ⟨rfl, _, cs, h1, h2⟩ := hv
    refine ⟨z.rho, Grew.refl hi, ?_⟩
    simp only [thaw, V]
    exact ⟨cs, h1, h2⟩
  | .nil, z, hi, c, S, hv, _, _ => by
    simp only [CV] at hv
    obtain ⟨rfl, _, rfl⟩ := hv
    exact ⟨z.rho, Grew.refl hi, by simp only [thaw, V]⟩
  | .fr t x, z, hi, c, S, hv, hn, hf => by
    simp only [CV] at hv
    obtain ⟨_, h1, h2⟩ := hv
    simp only [thaw]
    exact add_arr hi h2 h1 hn hf
  | .agg l, z, hi, c, S, hv, hn, hf => by
    simp only [CV] at hv
    obtain ⟨cs, rfl, h2⟩ := hv
    obtain ⟨rho', g1, g2⟩ := thawL_ok l hi cs S h2 hn hf
    simp only [thaw]
    refine ⟨rho', g1, ?_⟩
    simp only [V]
    exact ⟨cs, rfl, g2⟩
  | .tup l, z, hi, c, S, hv, hn, hf => by
    simp only [CV] at hv
    obtain ⟨cs, rfl, h2⟩ := hv
    obtain ⟨rho', g1, g2⟩ := thawL_ok l hi cs S h2 hn hf
    simp only [thaw]
    refine ⟨rho', g1, ?_⟩
    simp only [V]
    exact ⟨cs, rfl, g2⟩
  | .fn f l, z, hi, c, S, hv, hn, hf => by
    simp only [CV] at hv
    obtain ⟨cs, rfl, h2⟩ := hv
    obtain ⟨rho', g1, g2⟩ := thawL_ok l hi cs S h2 hn hf
    simp only [thaw]
    refine ⟨rho', g1, ?_⟩
    simp only [V]
    exact ⟨cs, rfl, g2⟩
  | .mr l, z, hi, c, S, hv, _, _ => by
    simp only [CV] at hv
    obtain ⟨_, _, _, _, _, _, h, _⟩ := hv
    cases h
  | .own _ _, _, _, _, _, h, _, _ => by simp only [CV] at h
  | .sub _ _ _ _, _, _, _, _, h, _, _ => by simp only [CV] at h
  | .ptr _ _, _, _, _, _, h, _, _ => by simp only [CV] at h
  | .eptr _ _ _ _, _, _, _, _, h, _, _ => by simp only [CV] at h
  | .rptr _ _ _, _, _, _, _, h, _, _ => by simp only [CV] at h
  | .dead, _, _, _, _, h, _, _ => by simp only [CV] at h
theorem thawL_ok : ∀ (l : List SV) {z : Z} (_ : IZ z) (cs : List Value) (S : List Nat), CVL z.im z.w l cs S [] → S.Nodup → Free z S →
    ∃ rho', Grew z rho' (thawL z.h l).2 S ∧ VL (z.mk2 rho' (thawL z.h l).2) (thawL z.h l).1 cs
  | [], z, hi, cs, S, hv, _, _ => by
    simp only [CVL] at hv
    obtain ⟨rfl, rfl, _⟩ := hv
    exact ⟨z.rho, Grew.refl hi, by simp only [thawL, VL]⟩
  | x :: l, z, hi, cs, S, hv, hn, hf => by
    simp only [CVL] at hv
    obtain ⟨c, r, S1, S2, B1, B2, rfl, rfl, hB, h4, h5⟩ := hv
    have hB' : B1 = [] ∧ B2 = [] := by have := hB.symm; simpa using this
    obtain ⟨rfl, rfl⟩ := hB'
    obtain ⟨n1, n2, n3⟩ := nodup_parts hn
    obtain ⟨r1, g1, v1⟩ := thaw_ok x hi c S1 h4 n1 (fun k hk => hf k (by simp [hk]))
    obtain ⟨r2, g2, v2⟩ := thawL_ok l (z := z.mk2 r1 (thaw z.h x).2) g1.iz r S2 h5 n2 (Free.step g1 (fun k hk => hf k (by simp [hk])) n3)
    simp only [thawL]
    refine ⟨r2, g1.trans g2, ?_⟩
    simp only [VL]
    exact ⟨c, r, rfl, V.ext g2.ext _ _ v1, v2⟩
end

/-- a lent variable that is filled again -/
theorem fill_box {z : Z} (hi : IZ z) {b blk : Nat} {cells : List SV} {cs : List Value} {e : TypeId} (hr : z.rho b = some (.v blk)) (hb : nth z.h b = some .lent) (hh : z.w.heap[blk]? = some (.cells cs.toArray e (0, 0)))
    (hv : VL z cells cs) : IZ (z.withH (upd z.h b (.vars cells))) ∧ Ext z (z.withH (upd z.h b (.vars cells))) := by
  have hext : Ext z (z.withH (upd z.h b (.vars cells))) := {
    im := fun k hk => ⟨hk, rfl⟩
    le := fun b' => by
      show BlkLe (z.rho b') (z.rho b') (nth z.h b') (nth (upd z.h b (.vars cells)) b')
      by_cases e : b' = b
      · subst e; rw [nth_upd_eq hb, hb]; exact .inr ⟨rfl, .inr ⟨_, rfl⟩⟩
      · rw [nth_upd_ne (Ne.symm e)]; exact BlkLe.refl _ _ }
  have hl : ∀ b', live (nth (upd z.h b (.vars cells)) b') → live (nth z.h b') := by
    intro b' hl
    by_cases e : b' = b
    · subst e; rw [hb]; trivial
    · rwa [nth_upd_ne (Ne.symm e)] at hl
  refine ⟨⟨fun b' d hd => ?_, fun b1 b2 d1 d2 h1 h2 l1 l2 => hi.disj b1 b2 d1 d2 h1 h2 (hl _ l1) (hl _ l2), fun b1 d1 h1 l1 => hi.nodup b1 d1 h1 (hl _ l1), fun b1 d1 h1 l1 => hi.sep b1 d1 h1 (hl _ l1)⟩, hext⟩
  show SimB _ d (nth (upd z.h b (.vars cells)) b')
  by_cases e : b' = b
  · subst e
    rw [nth_upd_eq hb]
    have hd : z.rho b' = some d := hd
    rw [hr] at hd
    cases hd
    exact ⟨blk, cs, _, rfl, hh, VL.ext hext _ _ hv⟩
  · rw [nth_upd_ne (Ne.symm e)]
    exact (hi.sim b' d hd).ext hext (fun _ _ _ => rfl)

inductive BoxAt (z : Z) : List Nat → List Nat → Prop
  | nil : BoxAt z [] []
  | cons {b blk : Nat} {bs blks : List Nat} : z.rho b = some (.v blk) → nth z.h b = some .lent → b ∉ bs → BoxAt z bs blks → BoxAt z (b :: bs) (blk :: blks)

theorem BoxAt.keep {z z' : Z} {bs blks : List Nat} (hb : BoxAt z bs blks) (h : ∀ b ∈ bs, z'.rho b = z.rho b ∧ nth z'.h b = nth z.h b) : BoxAt z' bs blks := by
  induction hb with
  | nil => exact .nil
  | cons h1 h2 h3 _ ih =>
    have := h _ (List.mem_cons_self ..)
    exact .cons (this.1.trans h1) (this.2.trans h2) h3 (ih (fun b hb => h b (List.mem_cons_of_mem _ hb)))

/-- the blocks of lent variables are not free, all others are -/
theorem refill_ok : ∀ (outs : List (List SV)) {z : Z} (_ : IZ z) (bs blks : List Nat) (S : List Nat) (h' : List Blk), Outs z.im z.w outs blks S → BoxAt z bs blks → S.Nodup →
    (∀ k ∈ S, k ∉ blks → ¬ z.im k ∧ ∀ b d, z.rho b = some d → live (nth z.h b) → k ∉ d.blks) → refill z.h bs outs = some h' →
    ∃ rho', IZ (z.mk2 rho' h') ∧ Ext z (z.mk2 rho' h') ∧ z.h.length ≤ h'.length ∧ (∀ b, b < z.h.length → rho' b = z.rho b) ∧
      (∀ b d, rho' b = some d → live (nth h' b) → (z.rho b = some d ∧ live (nth z.h b)) ∨ ∀ k ∈ d.blks, k ∈ S)
  | [], z, hi, bs, blks, S, h', ho, hb, _, _, hr => by
    cases hb with
    | nil =>
      simp only [refill, Option.some.injEq] at hr
      subst hr
      exact ⟨z.rho, hi, Ext.refl _, Nat.le_refl _, fun _ _ => rfl, fun b d h1 h2 => .inl ⟨h1, h2⟩⟩
    | cons _ _ _ _ => simp only [Outs] at ho
  | c :: outs, z, hi, bs, blks, S, h', ho, hb, hn, hf, hr => by
    cases hb with
    | nil => simp only [Outs] at ho
    | @cons b blk bs blks h1 h2 h3 h4 =>
      simp only [Outs] at ho
      obtain ⟨cells, e, S1, S2, rfl, hh, hv, ho⟩ := ho
      simp only [refill] at hr
      have hn' := hn
      obtain ⟨hnb, hn12⟩ := List.nodup_cons.1 hn
      obtain ⟨n1, n2, n3⟩ := nodup_parts hn12
      -- the blocks behind the further boxes lie in S2
      have inS2 : ∀ (outs : List (List SV)) (blks : List Nat) (S2 : List Nat), Outs z.im z.w outs blks S2 → ∀ q ∈ blks, q ∈ S2 := by
        intro outs
        induction outs with
        | nil => intro blks S2 ho q hq; cases blks <;> simp_all [Outs]
        | cons c outs ih =>
          intro blks S2 ho q hq
          cases blks with
          | nil => simp at hq
          | cons b' blks =>
            simp only [Outs] at ho
            obtain ⟨cells, e, T1, T2, rfl, _, _, ho⟩ := ho
            rcases List.mem_cons.1 hq with rfl | hq
            · simp
            · have := ih blks T2 ho q hq; simp [this]
      have hsub := inS2 outs blks S2 ho
      have hfree1 : Free z S1 := fun k hk => hf k (by simp [hk]) (by
        intro hm
        rcases List.mem_cons.1 hm with rfl | hm
        · exact hnb (by simp [hk])
        · exact n3 k hk (hsub k hm))
      obtain ⟨r1, g1, v1⟩ := thawL_ok c hi cells S1 hv n1 hfree1
      have hblt : b < z.h.length := nth_lt h2
      have hb1 : nth (thawL z.h c).2 b = some .lent := ((g1.old b hblt).1).trans h2
      have hr1 : r1 b = some (.v blk) := ((g1.old b hblt).2).trans h1
      obtain ⟨i2, e2⟩ := fill_box (z := z.mk2 r1 (thawL z.h c).2) g1.iz hr1 hb1 hh v1
      have bsl : ∀ (bs blks : List Nat), BoxAt z bs blks → ∀ q ∈ bs, q < z.h.length := by
        intro bs blks hb
        induction hb with
        | nil => intro q hq; simp at hq
        | cons _ h2 _ _ ih =>
          intro q hq
          rcases List.mem_cons.1 hq with rfl | hq
          · exact nth_lt h2
          · exact ih q hq
      have hkeep : BoxAt ((z.mk2 r1 (thawL z.h c).2).withH (upd (thawL z.h c).2 b (.vars (thawL z.h c).1))) bs blks := h4.keep (fun q hq => by
        have hql := bsl bs blks h4 q hq
        have hqb : b ≠ q := fun e => h3 (e ▸ hq)
        refine ⟨(g1.old q hql).2, ?_⟩
        show nth (upd (thawL z.h c).2 b _) q = _
        rw [nth_upd_ne hqb]
        exact (g1.old q hql).1)
      have hlive : ∀ q, live (nth (upd (thawL z.h c).2 b (.vars (thawL z.h c).1)) q) → live (nth (thawL z.h c).2 q) := by
        intro q hl
        by_cases eq : q = b
        · subst eq; rw [hb1]; trivial
        · rwa [nth_upd_ne (Ne.symm eq)] at hl
      obtain ⟨r2, j1, j2, j3, j4, j5⟩ := refill_ok outs (z := (z.mk2 r1 (thawL z.h c).2).withH (upd (thawL z.h c).2 b (.vars (thawL z.h c).1))) i2 bs blks S2 h' ho hkeep n2 (by
        intro k hk hkb
        have hk0 : k ≠ blk := fun e => hnb (by simp [← e, hk])
        have hfk := hf k (by simp [hk]) (by
          intro hm
          rcases List.mem_cons.1 hm with e | hm
          · exact hk0 e
          · exact hkb hm)
        refine ⟨hfk.1, fun q d hr hl hm => ?_⟩
        have hl := hlive q hl
        rcases Nat.lt_or_ge q z.h.length with hlt | hge
        · have ho := g1.old q hlt
          have hr' : r1 q = some d := hr
          rw [ho.2] at hr'
          rw [ho.1] at hl
          exact hfk.2 q d hr' hl hm
        · exact n3 k (g1.new q d hge hr hl k hm) hk) hr
      refine ⟨r2, j1, (g1.ext.trans e2).trans j2, ?_, ?_, ?_⟩
      · have j3' : (upd (thawL z.h c).2 b (.vars (thawL z.h c).1)).length ≤ h'.length := j3
        rw [upd_length] at j3'
        exact Nat.le_trans g1.len j3'
      · intro q hq
        have hq2 : q < (upd (thawL z.h c).2 b (.vars (thawL z.h c).1)).length := by rw [upd_length]; exact Nat.lt_of_lt_of_le hq g1.len
        exact (j4 q hq2).trans (g1.old q hq).2
      · intro q d hq hl
        rcases j5 q d hq hl with ⟨k1, k2⟩ | k
        · have k2 := hlive q k2
          rcases Nat.lt_or_ge q z.h.length with hlt | hge
          · have ho := g1.old q hlt
            have k1' : r1 q = some d := k1
            rw [ho.2] at k1'
            rw [ho.1] at k2
            exact .inl ⟨k1', k2⟩
          · exact .inr (fun k hk => by have := g1.new q d hge k1 k2 k hk; simp [this])
        · exact .inr (fun m hm => by have := k m hm; simp [this])

end Go.Sx

namespace Go.Sx
open Go

mutual
theorem pub_lent : ∀ (v : SV) {h h' : List Blk} {v' : SV}, pub h v = some (v', h') → ∀ b, nth h' b = some .lent → nth h b = some .lent
  | .val t x, h, h', v', hp, b, hb => by simp only [pub, Option.some.injEq, Prod.mk.injEq] at hp; rwa [hp.2]
  | .nil, h, h', v', hp, b, hb => by simp only [pub, Option.some.injEq, Prod.mk.injEq] at hp; rwa [hp.2]
  | .own c u, h, h', v', hp, b, hb => by
    simp only [pub] at hp
    split at hp
    · split at hp
      · simp only [Option.some.injEq, Prod.mk.injEq] at hp
        rw [← hp.2] at hb
        rcases nth_upd_cases h c b Blk.gone with ⟨_, h2, _⟩ | h2
        · rw [h2] at hb; cases hb
        · rwa [h2] at hb
      · cases hp
    · cases hp
  | .sub c u off n, h, h', v', hp, b, hb => by
    simp only [pub] at hp
    split at hp
    · split at hp
      · rename_i t _ _ _
        cases hnu : t.noUq with
        | false => rw [hnu] at hp; cases hp
        | true =>
          rw [hnu] at hp
          simp only [cond_true, Option.some.injEq, Prod.mk.injEq] at hp
          rw [← hp.2] at hb
          rcases nth_upd_cases h c b Blk.gone with ⟨_, h2, _⟩ | h2
          · rw [h2] at hb; cases hb
          · rwa [h2] at hb
      · cases hp
    · cases hp
  | .agg l, h, h', v', hp, b, hb => by
    simp only [pub] at hp
    split at hp
    · rename_i l' h1 hl
      simp only [Option.some.injEq, Prod.mk.injEq] at hp
      exact pubL_lent l hl b (hp.2 ▸ hb)
    · cases hp
  | .tup l, h, h', v', hp, b, hb => by
    simp only [pub] at hp
    split at hp
    · rename_i l' h1 hl
      simp only [Option.some.injEq, Prod.mk.injEq] at hp
      exact pubL_lent l hl b (hp.2 ▸ hb)
    · cases hp
  | .ptr _ _, _, _, _, hp, _, _ => by simp [pub] at hp
  | .eptr _ _ _ _, _, _, _, hp, _, _ => by simp [pub] at hp
  | .rptr _ _ _, _, _, _, hp, _, _ => by simp [pub] at hp
  | .fn _ _, _, _, _, hp, _, _ => by simp [pub] at hp
  | .fr _ _, _, _, _, hp, _, _ => by simp [pub] at hp
  | .mr _, _, _, _, hp, _, _ => by simp [pub] at hp
  | .dead, _, _, _, hp, _, _ => by simp [pub] at hp
theorem pubL_lent : ∀ (l : List SV) {h h' : List Blk} {l' : List SV}, pubL h l = some (l', h') → ∀ b, nth h' b = some .lent → nth h b = some .lent
  | [], h, h', v', hp, b, hb => by simp only [pubL, Option.some.injEq, Prod.mk.injEq] at hp; rwa [hp.2]
  | x :: l, h, h', v', hp, b, hb => by
    simp only [pubL] at hp
    split at hp
    · rename_i x' h1 hx
      split at hp
      · rename_i l1 h2 hl
        simp only [Option.some.injEq, Prod.mk.injEq] at hp
        exact pub_lent x hx b (pubL_lent l hl b (hp.2 ▸ hb))
      · cases hp
    · cases hp
end

mutual
theorem prep_lent : ∀ (m : Mode) (v : SV) {h : List Blk} {p : Prep}, prep m v h = some p → ∀ b, nth p.heap b = some .lent → nth h b = some .lent ∨ b ∈ p.boxes
  | .ro t, v, h, p, hp, b, hb => by
    simp only [prep] at hp
    split at hp
    · simp only [Option.some.injEq] at hp; subst hp; exact .inl hb
    · cases hp
  | .mv, v, h, p, hp, b, hb => by
    simp only [prep] at hp
    split at hp
    · rename_i v' h' hx
      simp only [Option.some.injEq] at hp
      subst hp
      exact .inl (pub_lent v hx b hb)
    · cases hp
  | .mref, v, h, p, hp, b, hb => by
    simp only [prep] at hp
    split at hp
    · rename_i b0
      split at hp
      · rename_i cells hb0
        split at hp
        · rename_i c' h' hx
          simp only [Option.some.injEq] at hp
          subst hp
          have := pubL_lent cells hx b hb
          rcases nth_upd_cases h b0 b Blk.lent with ⟨e, _, _⟩ | h2
          · right; simp [e]
          · left; rwa [h2] at this
        · cases hp
      · cases hp
    · cases hp
  | .fnm ms, v, h, p, hp, b, hb => by
    simp only [prep] at hp
    split at hp
    · rename_i f cap
      split at hp
      · rename_i q hq
        simp only [Option.some.injEq] at hp
        subst hp
        exact prepL_lent ms cap hq b hb
      · cases hp
    · cases hp
theorem prepL_lent : ∀ (ms : List Mode) (vs : List SV) {h : List Blk} {p : Prep}, prepL ms vs h = some p → ∀ b, nth p.heap b = some .lent → nth h b = some .lent ∨ b ∈ p.boxes
  | [], vs, h, p, hp, b, hb => by
    simp only [prepL] at hp
    split at hp
    · simp only [Option.some.injEq] at hp; subst hp; exact .inl hb
    · cases hp
  | m :: ms, vs, h, p, hp, b, hb => by
    simp only [prepL] at hp
    split at hp
    · cases hp
    · rename_i v vs'
      split at hp
      · cases hp
      · rename_i p1 hp1
        split at hp
        · cases hp
        · rename_i q hq
          simp only [Option.some.injEq] at hp
          subst hp
          rcases prepL_lent ms vs' hq b hb with k | k
          · rcases prep_lent m v hp1 b k with k | k
            · exact .inl k
            · exact .inr (by simp [k])
          · exact .inr (by simp [k])
end

mutual
theorem CV.sub {im : Nat → Prop} {w : World} : ∀ (v : SV) (c : Value) (S B : List Nat), CV im w v c S B → B.Sublist S
  | .val t x, c, S, B, h => by simp only [CV] at h; rw [h.1, h.2.1]; exact List.Sublist.refl _
  | .nil, c, S, B, h => by simp only [CV] at h; rw [h.1, h.2.1]; exact List.Sublist.refl _
  | .fr t x, c, S, B, h => by simp only [CV] at h; rw [h.1]; exact List.nil_sublist _
  | .agg l, c, S, B, h => by simp only [CV] at h; obtain ⟨cs, _, h2⟩ := h; exact CVL.sub l cs S B h2
  | .tup l, c, S, B, h => by simp only [CV] at h; obtain ⟨cs, _, h2⟩ := h; exact CVL.sub l cs S B h2
  | .fn f l, c, S, B, h => by simp only [CV] at h; obtain ⟨cs, _, h2⟩ := h; exact CVL.sub l cs S B h2
  | .mr l, c, S, B, h => by
    simp only [CV] at h
    obtain ⟨blk, cs, e, S', h1, h2, h3, h4, h5⟩ := h
    rw [h2, h3]
    exact (List.nil_sublist _).cons_cons _
  | .own _ _, _, _, _, h => by simp only [CV] at h
  | .sub _ _ _ _, _, _, _, h => by simp only [CV] at h
  | .ptr _ _, _, _, _, h => by simp only [CV] at h
  | .eptr _ _ _ _, _, _, _, h => by simp only [CV] at h
  | .rptr _ _ _, _, _, _, h => by simp only [CV] at h
  | .dead, _, _, _, h => by simp only [CV] at h
theorem CVL.sub {im : Nat → Prop} {w : World} : ∀ (l : List SV) (c : List Value) (S B : List Nat), CVL im w l c S B → B.Sublist S
  | [], c, S, B, h => by simp only [CVL] at h; rw [h.2.1, h.2.2]; exact List.Sublist.refl _
  | x :: l, c, S, B, h => by
    simp only [CVL] at h
    obtain ⟨c1, r, S1, S2, B1, B2, h1, h2, h3, h4, h5⟩ := h
    rw [h2, h3]
    exact (CV.sub x c1 S1 B1 h4).append (CVL.sub l r S2 B2 h5)
end

theorem Outs.noRo {im im' : Nat → Prop} {w : World} : ∀ (cs : List (List SV)) (bs S : List Nat), cs.any hasRoL = false → Outs im w cs bs S → Outs im' w cs bs S
  | [], [], S, _, h => h
  | [], _ :: _, S, _, h => h
  | _ :: _, [], S, _, h => h
  | c :: cs, b :: bs, S, hn, h => by
    simp only [List.any_cons, Bool.or_eq_false_iff] at hn
    simp only [Outs] at h ⊢
    obtain ⟨cells, e, S1, S2, h1, h2, h3, h4⟩ := h
    exact ⟨cells, e, S1, S2, h1, h2, CVL.noRo c cells S1 [] hn.1 h3, Outs.noRo cs bs S2 hn.2 h4⟩

theorem Outs.sub {im : Nat → Prop} {w : World} : ∀ (cs : List (List SV)) (bs S : List Nat), Outs im w cs bs S → ∀ q ∈ bs, q ∈ S
  | [], [], S, _, q, hq => by simp at hq
  | [], _ :: _, S, h, _, _ => by simp only [Outs] at h
  | _ :: _, [], S, h, _, _ => by simp only [Outs] at h
  | c :: cs, b :: bs, S, h, q, hq => by
    simp only [Outs] at h
    obtain ⟨cells, e, S1, S2, rfl, h2, h3, h4⟩ := h
    rcases List.mem_cons.1 hq with rfl | hq
    · simp
    · have := Outs.sub cs bs S2 h4 q hq; simp [this]

theorem BoxOk.at {z : Z} {h h' h1 : List Blk} {im : Nat → Prop} {w : World} {bs blks : List Nat} (hb : BoxOk z.rho h h' bs blks) (hn : blks.Nodup) (hs : ∀ b, nth h' b = some .lent → nth h1 b = some .lent) : BoxAt ⟨im, w, z.rho, h1⟩ bs blks := by
  induction hb with
  | nil => exact .nil
  | @cons b blk bs blks k1 k2 k3 k4 ih =>
    obtain ⟨n1, n2⟩ := List.nodup_cons.1 hn
    refine .cons k1 (hs b k3) ?_ (ih n2)
    intro hm
    apply n1
    clear ih n1 n2 hn
    induction k4 with
    | nil => simp at hm
    | cons j1 _ _ _ ih =>
      rcases List.mem_cons.1 hm with rfl | hm
      · rw [k1] at j1; cases j1; simp
      · exact List.mem_cons_of_mem _ (ih hm)

theorem BoxOk.mem {rho : Rho} {h h' : List Blk} {bs blks : List Nat} (hb : BoxOk rho h h' bs blks) : ∀ b ∈ bs, ∃ blk, blk ∈ blks ∧ rho b = some (.v blk) := by
  induction hb with
  | nil => intro b hb; simp at hb
  | @cons b blk bs blks k1 _ _ _ ih =>
    intro c hc
    rcases List.mem_cons.1 hc with rfl | hc
    · exact ⟨blk, by simp, k1⟩
    · obtain ⟨blk', h1, h2⟩ := ih c hc
      exact ⟨blk', by simp [h1], h2⟩

theorem after_call {g : G} {rho : Rho} {h : List Blk} {w : World} (hi : Inv g rho h w) {p : Prep} {cs : List Value} {S B : List Nat} (hp : PrepOk (zOf g rho h w) p cs S B)
    (hbox : ∀ b, nth p.heap b = some .lent → nth h b = some .lent ∨ b ∈ p.boxes) (hlent : p.lent.all (fun b => isLive (nth p.heap b)) = true)
    {w' : World} {cr : Value} {S1 S2 : List Nat} {sv : SV} {outs : List (List SV)} (hnd : (S1 ++ S2).Nodup) (hrange : ∀ k ∈ S1 ++ S2, (k ∈ S ∨ w.heap.size ≤ k) ∧ k < w'.heap.size) (hk : Kept w w' S)
    (hcv : CV (after (LI (zOf g rho h w) p.lent) S (S1 ++ S2) w w') w' sv cr S1 []) (hout : Outs (after (LI (zOf g rho h w) p.lent) S (S1 ++ S2) w w') w' outs B S2)
    {h' : List Blk} (hr : refill (bif hasRo sv || outs.any hasRoL then kill p.heap p.lent else p.heap) p.boxes outs = some h') :
    ∃ rho', Inv g rho' (thaw h' sv).2 w' ∧ Ext (zOf g rho h w) (zOf g rho' (thaw h' sv).2 w') ∧ V (zOf g rho' (thaw h' sv).2 w') (thaw h' sv).1 cr := by
  have hiz := hi.iz
  -- the lists that are read from now on
  obtain ⟨L, hL, hLs, hcv, hout⟩ : ∃ L : List Nat, (bif hasRo sv || outs.any hasRoL then kill p.heap p.lent else p.heap) = kill p.heap L ∧ (∀ b ∈ L, b ∈ p.lent) ∧
      CV (after (LI (zOf g rho h w) L) S (S1 ++ S2) w w') w' sv cr S1 [] ∧ Outs (after (LI (zOf g rho h w) L) S (S1 ++ S2) w w') w' outs B S2 := by
    cases hro : (hasRo sv || outs.any hasRoL) with
    | true => exact ⟨p.lent, rfl, fun _ h => h, hcv, hout⟩
    | false =>
      simp only [Bool.or_eq_false_iff] at hro
      exact ⟨[], rfl, by simp, CV.noRo _ _ _ _ hro.1 hcv, Outs.noRo _ _ _ hro.2 hout⟩
  rw [hL] at hr
  have hLlive : ∀ b ∈ L, isLive (nth p.heap b) = true := fun b hb => by
    have := List.all_eq_true.1 hlent b (hLs b hb)
    exact this
  have h1live : ∀ b, live (nth (kill p.heap L) b) → b ∉ L ∧ nth (kill p.heap L) b = nth p.heap b ∧ live (nth p.heap b) ∧ live (nth h b) := by
    intro b hl
    by_cases hb : b ∈ L
    · exact absurd hl (kill_gone L _ hb)
    · have e := nth_kill L p.heap hb
      rw [e] at hl
      exact ⟨hb, e, hl, off_live hp.off hl⟩
  have hSrange : ∀ k ∈ S, k < w.heap.size ∧ (k ∈ g.S0 ∨ g.w0.heap.size ≤ k) := by
    intro k hks
    obtain ⟨b, d, k1, k2, _, _, k5⟩ := hp.went k hks
    exact hi.range b d k1 k2 k k5
  -- a block that went out and lies behind a live slot lies behind a box
  have hSbox : ∀ b d, rho b = some d → live (nth (kill p.heap L) b) → ∀ k ∈ d.blks, k ∈ S → k ∈ B := by
    intro b d hd hl k hkd hks
    obtain ⟨q1, q2, q3, q4⟩ := h1live b hl
    obtain ⟨b', d', k1, k2, k3, k4, k5⟩ := hp.went k hks
    have hbb : b = b' := by
      rcases Nat.decEq b b' with hne | e
      · exact absurd k5 (hi.disj b b' d d' hd k1 q4 k2 hne k hkd)
      · exact e
    subst hbb
    have k3 : nth p.heap b = some .gone ∨ nth p.heap b = some .lent := k3
    rcases k3 with k3 | k3
    · rw [k3] at q3; exact q3.elim
    · rcases hbox b k3 with hb | hb
      · exact absurd hb k4
      · obtain ⟨blk, m1, m2⟩ := hp.boxes.mem b hb
        have m2 : rho b = some (.v blk) := m2
        rw [hd] at m2
        cases m2
        simp only [D.blks, List.mem_singleton] at hkd
        subst hkd
        exact m1
  have hBS2 := Outs.sub _ _ _ hout
  have hBnd : B.Nodup := (CVL.sub _ _ _ _ hp.args).nodup hp.nodup
  obtain ⟨nd1, nd2, nd3⟩ := nodup_parts hnd
  let im1 : Nat → Prop := after (LI (zOf g rho h w) L) S (S1 ++ S2) w w'
  let z1 : Z := ⟨im1, w', rho, kill p.heap L⟩
  have hext : Ext (zOf g rho h w) z1 := by
    refine ⟨fun k hkm => ?_, fun b => ?_⟩
    · have hnS : k ∉ S := by
        intro hks
        obtain ⟨b, d, k1, k2, _, _, k5⟩ := hp.went k hks
        exact hkm.2.2 ⟨b, d, k1, k2, k5⟩
      refine ⟨⟨.inl (.inl hkm), Nat.lt_of_lt_of_le hkm.2.1 hk.1, fun hm => ?_⟩, hk.2 k hkm.2.1 hnS⟩
      rcases (hrange k hm).1 with q | q
      · exact hnS q
      · exact Nat.not_le_of_lt hkm.2.1 q
    · exact ((off_ext hp.off).le b).trans ((kill_ext (g := g) (rho := rho) (w := w) L p.heap).le b)
  have hiz1 : IZ z1 := by
    refine ⟨fun b d hd => ?_, fun b b' d d' a1 a2 l1 l2 => hi.disj b b' d d' a1 a2 (h1live b l1).2.2.2 (h1live b' l2).2.2.2, fun b d a1 l1 => hi.nodup b d a1 (h1live b l1).2.2.2, ?_⟩
    · show SimB z1 d (nth (kill p.heap L) b)
      by_cases hl : live (nth (kill p.heap L) b)
      · obtain ⟨q1, q2, q3, q4⟩ := h1live b hl
        by_cases hlt : nth (kill p.heap L) b = some .lent
        · rw [hlt]
          have := (off_iz hiz hp.off).sim b d hd
          rw [q2] at hlt
          have this : SimB _ d (nth p.heap b) := this
          rw [hlt] at this
          exact this
        · rw [q2] at hlt
          have hnh : nth p.heap b = nth h b := by
            rcases hp.off.2 b with e | ⟨e, _⟩ | ⟨e, _⟩
            · exact e
            · rw [e] at q3; exact q3.elim
            · exact absurd e hlt
          rw [q2, hnh]
          refine (hi.sim b d hd).ext hext (fun _ k hkd => ?_)
          refine hk.2 k (hi.range b d hd q4 k hkd).1 (fun hks => ?_)
          obtain ⟨b', d', k1, k2, k3, k4, k5⟩ := hp.went k hks
          have hbb : b = b' := by
            rcases Nat.decEq b b' with hne | e
            · exact absurd k5 (hi.disj b b' d d' hd k1 q4 k2 hne k hkd)
            · exact e
          subst hbb
          have k3 : nth p.heap b = some .gone ∨ nth p.heap b = some .lent := k3
          rcases k3 with k3 | k3
          · rw [k3] at q3; exact q3
          · exact hlt k3
      · cases hx : nth (kill p.heap L) b with
        | none => trivial
        | some x =>
          cases x with
          | gone => trivial
          | vars c => exact absurd (by rw [hx]; trivial) hl
          | arr v t x => exact absurd (by rw [hx]; trivial) hl
          | lent => exact absurd (by rw [hx]; trivial) hl
    · intro b d hd hl k hkd hm
      have hl : live (nth (kill p.heap L) b) := hl
      obtain ⟨q1, q2, q3, q4⟩ := h1live b hl
      obtain ⟨m1, m2, m3⟩ := hm
      rcases m1 with m1 | m1 | m1
      · rcases m1 with m1 | ⟨r, hrL, d', e1, e2, e3⟩
        · exact m1.2.2 ⟨b, d, hd, q4, hkd⟩
        · have hne : b ≠ r := fun e => q1 (e ▸ hrL)
          exact hi.disj b r d d' hd e1 q4 e2 hne k hkd e3
      · exact m3 (List.mem_append.2 (.inr (hBS2 k (hSbox b d hd hl k hkd m1))))
      · exact Nat.not_le_of_lt (hi.range b d hd q4 k hkd).1 m1
  have hlentkeep : ∀ b, nth p.heap b = some .lent → nth (kill p.heap L) b = some .lent := by
    intro b hb
    have : b ∉ L := fun hm => by have := hLlive b hm; rw [hb] at this; cases this
    rw [nth_kill L _ this, hb]
  have hba : BoxAt z1 p.boxes B := BoxOk.at (z := zOf g rho h w) hp.boxes hBnd hlentkeep
  obtain ⟨rho2, i2, e2, l2, r2, f2⟩ := refill_ok outs (z := z1) hiz1 p.boxes B S2 h' hout hba nd2 (by
    intro k hk2 hkB
    refine ⟨fun hm => hm.2.2 (List.mem_append.2 (.inr hk2)), fun b d hd hl hkd => ?_⟩
    rcases (hrange k (List.mem_append.2 (.inr hk2))).1 with q | q
    · exact hkB (hSbox b d hd hl k hkd q)
    · exact Nat.not_le_of_lt (hi.range b d hd (h1live b hl).2.2.2 k hkd).1 q) hr
  obtain ⟨rho3, g3, v3⟩ := thaw_ok sv (z := z1.mk2 rho2 h') i2 cr S1 hcv nd1 (by
    intro k hk1
    refine ⟨fun hm => hm.2.2 (List.mem_append.2 (.inl hk1)), fun b d hd hl hkd => ?_⟩
    rcases f2 b d hd hl with ⟨a1, a2⟩ | a
    · rcases (hrange k (List.mem_append.2 (.inl hk1))).1 with q | q
      · exact nd3 k hk1 (hBS2 k (hSbox b d a1 a2 k hkd q))
      · exact Nat.not_le_of_lt (hi.range b d a1 (h1live b a2).2.2.2 k hkd).1 q
    · exact nd3 k hk1 (a k hkd))
  have hrange3 : ∀ b d, rho3 b = some d → live (nth (thaw h' sv).2 b) → ∀ k ∈ d.blks, k < w'.heap.size ∧ (k ∈ g.S0 ∨ g.w0.heap.size ≤ k) := by
    have fromS : ∀ k ∈ S1 ++ S2, k < w'.heap.size ∧ (k ∈ g.S0 ∨ g.w0.heap.size ≤ k) := by
      intro k hm
      refine ⟨(hrange k hm).2, ?_⟩
      rcases (hrange k hm).1 with q | q
      · exact (hSrange k q).2
      · exact .inr (Nat.le_trans hi.kept.1 q)
    intro b d hd hl k hkd
    rcases Nat.lt_or_ge b h'.length with hlt | hge
    · have ho := g3.old b hlt
      have ho1 : nth (thaw h' sv).2 b = nth h' b := ho.1
      have ho2 : rho3 b = rho2 b := ho.2
      rw [ho1] at hl
      rw [ho2] at hd
      rcases f2 b d hd hl with ⟨a1, a2⟩ | a
      · have := hi.range b d a1 (h1live b a2).2.2.2 k hkd
        exact ⟨Nat.lt_of_lt_of_le this.1 hk.1, this.2⟩
      · exact fromS k (List.mem_append.2 (.inr (a k hkd)))
    · exact fromS k (List.mem_append.2 (.inl (g3.new b d hge hd hl k hkd)))
  have hto : Ext (z1.mk2 rho3 (thaw h' sv).2) (zOf g rho3 (thaw h' sv).2 w') := by
    refine ⟨fun k hm => ⟨⟨?_, hm.2.1, fun ho => ?_⟩, rfl⟩, fun b => BlkLe.refl _ _⟩
    · rcases hm.1 with m | m | m
      · rcases m with m | ⟨r, _, d', e1, e2, e3⟩
        · exact m.1
        · rcases (hi.range r d' e1 e2 k e3).2 with q | q
          · exact .inr (.inl q)
          · exact .inr (.inr q)
      · rcases (hSrange k m).2 with q | q
        · exact .inr (.inl q)
        · exact .inr (.inr q)
      · exact .inr (.inr (Nat.le_trans hi.kept.1 m))
    · obtain ⟨b, d, o1, o2, o3⟩ := ho
      exact g3.iz.sep b d o1 o2 k o3 hm
  refine ⟨rho3, ⟨fun b d hd => ?_, g3.iz.disj, g3.iz.nodup, hrange3, hi.kept.trans hk (fun k hks => (hSrange k hks).2)⟩, ((hext.trans e2).trans g3.ext).trans hto, V.ext hto _ _ v3⟩
  exact (g3.iz.sim b d hd).ext hto (fun _ _ _ => rfl)

theorem run_callFunc {P : Program} {f : FuncId} {args : Array Value} {w : World} (h : Callable P f) : (callFunc f args).run P w = .ok (.enter f args) w := by
  obtain ⟨fn, h1, h2, h3⟩ := h
  show ((program >>= fun p => _) : Sem Next).run P w = _
  rw [Sx.run_bind_ok (a := P) (w' := w) rfl, h1]
  have h2' : fn.body.isNone = false := by cases hb : fn.body <;> simp_all
  simp only [h3, h2', Bool.false_eq_true, if_false]
  rfl

theorem call_ok {R : Type} {P : Program} {E : Env} (hE : EnvOk P E) {o : Oper} {c : Call} {fv : Operand} {s : St} {dst : Option Tmp} {f : FuncId} {cap : List SV} {K : St → Option R} {r : R} (ho : o.op = .call c) (hc : c.callee = .value fv)
    (hf : s.get fv = .fn f cap) (he : callS E f (c.args.toList.map s.get ++ cap) s dst K = some r) : ∃ v h', StepOk P o s.get s.heap v h' ∧ K (St.put ⟨s.slots, h'⟩ dst v) = some r := by
  unfold callS at he
  split at he
  · cases he
  · rename_i con hcon
    split at he
    · cases he
    · rename_i p hp
      cases hl : p.lent.all (fun b => isLive (nth p.heap b)) with
      | false => rw [hl] at he; cases he
      | true =>
        rw [hl] at he
        simp only [cond_true] at he
        have hok := hE.tbl f con hcon
        obtain ⟨sv, outs, hco, hfin⟩ := hok.ok _ _ _ _ he
        unfold finishCall at hfin
        dsimp only at hfin
        split at hfin
        · rename_i h' hr
          refine ⟨_, _, ?_, hfin⟩
          intro g a w rho hi hv next Q hn
          have hvf := hv fv (by rw [ho]; simp [Op.operands, Call.operands, hc])
          rw [hf] at hvf
          simp only [V] at hvf
          obtain ⟨capc, h1, h2⟩ := hvf
          have hva : VL (zOf g rho s.heap w) (c.args.toList.map s.get ++ cap) (c.args.toList.map a.eval ++ capc) :=
            (VL_map (l := c.args.toList) (fun x hx => hv x (by rw [ho]; simp [Op.operands, Call.operands, hc, Array.mem_toList_iff.1 hx]))).append h2
          obtain ⟨S, B, hpo⟩ := prepL_ok con.modes hi.iz _ _ p hva hp
          have hrun : (execOp a.eval o).run P w = .ok (.enter f (c.args.toList.map a.eval ++ capc).toArray) w := by
            unfold execOp
            rw [ho]
            dsimp only
            unfold resolve
            rw [hc]
            dsimp only
            rw [h1]
            show ((invoke (.fn (.func f) capc.toArray) (#[] ++ c.args.map a.eval)) : Sem Next).run P w = _
            show (callFunc f ((#[] ++ c.args.map a.eval) ++ capc.toArray)).run P w = _
            rw [run_callFunc hok.call]
            congr 2
            apply Array.toList_inj.1
            simp
          unfold Oper.wp
          rw [hrun, Oper.upon_enter]
          have hcall := hco (LI (zOf g rho s.heap w) p.lent) w _ S B hpo.args hpo.nodup (fun k hks => by
            obtain ⟨b, d, k1, k2, k3, k4, k5⟩ := hpo.went k hks
            refine ⟨?_, (hi.range b d k1 k2 k k5).1⟩
            rintro (m | ⟨b', hb', d', e1, e2, e3⟩)
            · exact m.2.2 ⟨b, d, k1, k2, k5⟩
            · have hbb : b = b' := by
                rcases Nat.decEq b b' with hne | e
                · exact absurd e3 (hi.disj b b' d d' k1 e1 k2 e2 hne k k5)
                · exact e
              subst hbb
              have := List.all_eq_true.1 hl b hb'
              rcases k3 with k3 | k3 <;> (rw [k3] at this; cases this)) (fun k hm => by
            rcases hm with m | ⟨b', hb', d', e1, e2, e3⟩
            · exact m.2.1
            · exact (hi.range b' d' e1 e2 k e3).1)
          refine hcall.mono ?_
          rintro e w' ⟨cr, S1, S2, rfl, q1, q2, q3, q4, q5⟩
          obtain ⟨rho', i', e', v'⟩ := after_call hi hpo (prepL_lent _ _ hp) hl q1 q2 q3 q4 q5 hr
          exact hn cr w' rho' i' v' e'
        · cases hfin

end Go.Sx

namespace Go.Sx
open Go

/-- a variable that the caller has lent lies where it lay -/
def Bx (rho : Rho) (h : List Blk) (b blk : Nat) : Prop :=
  nth h b = some .gone ∨ (rho b = some (.v blk) ∧ ((∃ c, nth h b = some (.vars c)) ∨ nth h b = some .lent))

theorem Bx.le {rho rho' : Rho} {h h' : List Blk} {b blk : Nat} (x : Bx rho h b blk) (hl : BlkLe (rho b) (rho' b) (nth h b) (nth h' b)) : Bx rho' h' b blk := by
  rcases x with e | ⟨e, ⟨c, e2⟩ | e2⟩
  · rw [e] at hl; exact .inl hl
  · rw [e2] at hl
    rcases hl with q | ⟨q, q2 | ⟨c', q2⟩⟩
    · exact .inl q
    · exact .inr ⟨q.trans e, .inr q2⟩
    · exact .inr ⟨q.trans e, .inl ⟨c', q2⟩⟩
  · rw [e2] at hl
    rcases hl with q | ⟨q, q2 | ⟨c', q2⟩⟩
    · exact .inl q
    · exact .inr ⟨q.trans e, .inr q2⟩
    · exact .inr ⟨q.trans e, .inl ⟨c', q2⟩⟩

structure Sim (g : G) (rho : Rho) (s : St) (a : Act) (w : World) : Prop where
  inv : Inv g rho s.heap w
  slots : VL (zOf g rho s.heap w) s.slots a.tmps.toList
  defers : a.defers = []
  bx : ∀ q ∈ g.bx, Bx rho s.heap q.1 q.2

theorem ofC1_V {z : Z} (v : Value) : V z (ofC1 v) v := by
  unfold ofC1
  split
  · exact V_int _ _
  · exact V_bool _
  · exact V_str _
  · simp only [V]
  · simp only [V]

theorem ofC1_VL {z : Z} : ∀ l : List Value, VL z (l.map ofC1) l
  | [] => by simp [VL]
  | v :: l => by simp only [List.map_cons, VL]; exact ⟨v, l, rfl, ofC1_V v, ofC1_VL l⟩

theorem ofC_V {z : Z} (v : Value) : V z (ofC v) v := by
  unfold ofC
  split
  · rename_i cs
    simp only [V]
    exact ⟨cs.toList, by simp, ofC1_VL _⟩
  · exact ofC1_V v

theorem get_ok {g : G} {rho : Rho} {s : St} {a : Act} {w : World} (hs : Sim g rho s a w) (x : Operand) : V (zOf g rho s.heap w) (s.get x) (a.eval x) := by
  cases x with
  | tmp t =>
    simp only [St.get, Act.eval]
    cases hn : nth s.slots t with
    | none => simp only [Option.getD_none, V]
    | some v =>
      obtain ⟨u, h1, h2⟩ := VL.get hs.slots hn
      simp only [Option.getD_some]
      have : a.tmps.getD t undef = u := by
        have h1' : a.tmps[t]? = some u := by simpa using h1
        simp [h1']
      rw [this]; exact h2
  | const v => exact ofC_V v
  | func f => simp only [St.get, Act.eval, V]; exact ⟨[], rfl, by simp [VL]⟩
  | «global» g => simp only [St.get, V]

theorem VL.upd {z : Z} {v : SV} {c : Value} (hv : V z v c) : ∀ {l : List SV} {cs : List Value} (n : Nat), VL z l cs → VL z (Sx.upd l n v) (cs.set n c)
  | [], cs, n, h => by simp only [VL] at h; subst h; simp [Sx.upd, VL]
  | x :: l, cs, n, h => by
    simp only [VL] at h
    obtain ⟨c0, r, rfl, h2, h3⟩ := h
    cases n with
    | zero => simp only [Sx.upd, List.set_cons_zero, VL]; exact ⟨c, r, rfl, hv, h3⟩
    | succ n => simp only [Sx.upd, List.set_cons_succ, VL]; exact ⟨c0, _, rfl, h2, VL.upd hv n h3⟩

theorem put_VL {z : Z} {slots : List SV} {h : List Blk} {a : Act} {dst : Option Tmp} {v : SV} {c : Value} (hs : VL z slots a.tmps.toList) (hv : V z v c) : VL z (St.put ⟨slots, h⟩ dst v).slots (a.put dst c).tmps.toList := by
  cases dst with
  | none => exact hs
  | some d =>
    simp only [St.put, Act.put, Array.toList_setIfInBounds]
    exact VL.upd hv d hs

theorem put_heap {s : St} {dst : Option Tmp} {v : SV} : (St.put s dst v).heap = s.heap := by cases dst <;> rfl
theorem put_defers {a : Act} {dst : Option Tmp} {c : Value} : (a.put dst c).defers = a.defers := by cases dst <;> rfl

theorem Sim.put {g : G} {rho : Rho} {s : St} {a : Act} {w : World} (hs : Sim g rho s a w) {dst : Option Tmp} {v : SV} {c : Value} (hv : V (zOf g rho s.heap w) v c) : Sim g rho (s.put dst v) (a.put dst c) w := by
  refine ⟨?_, ?_, ?_, ?_⟩
  · rw [put_heap]; exact hs.inv
  · rw [put_heap]; exact put_VL (h := s.heap) hs.slots hv
  · rw [put_defers]; exact hs.defers
  · rw [put_heap]; exact hs.bx

theorem Sim.step {g : G} {rho rho' : Rho} {s : St} {a : Act} {w w' : World} (hs : Sim g rho s a w) {dst : Option Tmp} {v : SV} {c : Value} {h' : List Blk} (hi : Inv g rho' h' w') (hv : V (zOf g rho' h' w') v c)
    (he : Ext (zOf g rho s.heap w) (zOf g rho' h' w')) : Sim g rho' (St.put ⟨s.slots, h'⟩ dst v) (a.put dst c) w' := by
  refine ⟨?_, ?_, ?_, ?_⟩
  · rw [put_heap]; exact hi
  · rw [put_heap]; exact put_VL (h := h') (VL.ext he _ _ hs.slots) hv
  · rw [put_defers]; exact hs.defers
  · rw [put_heap]; exact fun q hq => (hs.bx q hq).le (he.le q.1)

section
variable {R : Type} {P : Program} {E : Env} {s : St} {o : Oper} {r : R}

theorem exec_ok (hE : EnvOk P E) {K : St → Option R} (he : exec E o s K = some r) : ∃ v h', StepOk P o s.get s.heap v h' ∧ K (St.put ⟨s.slots, h'⟩ o.dst v) = some r := by
  have h0 := hE.toEnvOk0
  have one : (∃ v, StepOk P o s.get s.heap v s.heap ∧ K (s.put o.dst v) = some r) → ∃ v h', StepOk P o s.get s.heap v h' ∧ K (St.put ⟨s.slots, h'⟩ o.dst v) = some r := fun ⟨v, h1, h2⟩ => ⟨v, _, h1, h2⟩
  unfold exec at he
  dsimp only at he
  split at he
  · rename_i x ho; exact one ⟨_, move_ok (.inl ho), he⟩
  · rename_i x ho; exact one ⟨_, move_ok (.inr ho), he⟩
  · rename_i c a b ho
    split at he
    · rename_i t ht
      refine one ⟨_, pick_ok ho ht, ?_⟩
      cases t <;> exact he
    · cases he
  · rename_i t ho
    split at he
    · rename_i ty ht; exact ⟨_, _, alloc_ok h0 ho ht, he⟩
    · cases he
  · rename_i t x ho
    split at he
    · rename_i ty c ht hf
      cases hl : Nat.beq c.length ty.size with
      | false => rw [hl] at he; cases he
      | true => rw [hl] at he; exact ⟨_, _, box_ok ho hf, he⟩
    · cases he
  · rename_i t ps ho; exact one (build_ok h0 ho he)
  · rename_i t n ps ho; exact buildSlice_ok h0 ho he
  · rename_i t x ho
    split at he
    · rename_i ty ht; exact one (load_ok h0 ho ht he)
    · cases he
  · rename_i t p x ho
    split at he
    · rename_i ty ht
      obtain ⟨h', h1, h2⟩ := store_ok h0 ho ht he
      exact ⟨_, h', h1, h2⟩
    · cases he
  · rename_i op t x y t' ho; exact one (binOp_ok h0 ho he)
  · rename_i op t x ho; exact one (unOp_ok ho he)
  · rename_i src dst x ho; exact one (conv_ok h0 ho he)
  · rename_i f fs cs ho
    cases hf : fs.toList.isEmpty with
    | false => rw [hf] at he; cases he
    | true => rw [hf] at he; exact one ⟨_, makeFunc_ok ho hf, he⟩
  · rename_i t n c ho; exact makeSlice_ok h0 ho he
  · rename_i t x lo hi ho; exact one (slice_ok h0 ho he)
  · rename_i t x f ho; exact one (fieldAddr_ok h0 ho he)
  · rename_i t x f ho; exact one (field_ok h0 ho he)
  · rename_i t x i ho; exact one (indexAddr_ok h0 ho he)
  · rename_i t x i ho; exact one (index_ok h0 ho he)
  · rename_i x i ho
    split at he
    · rename_i l hx
      split at he
      · rename_i v hn; exact one ⟨v, extract_ok ho hx hn, he⟩
      · cases he
    · cases he
  · rename_i c ho
    split at he
    · rename_i f hc
      split at he
      · rename_i g cap hg; exact call_ok hE ho hc hg he
      · cases he
    · rename_i hc
      split at he
      · rename_i x t ha hat; exact one (len_ok h0 ho hc ha hat he)
      · cases he
    · rename_i hc
      split at he
      · rename_i x y t t' ha hat; exact append_ok h0 ho hc ha hat he
      · cases he
    · rename_i hc
      split at he
      · rename_i x y ha
        split at he
        · rename_i k a k' b hx hy; exact one ⟨_, (mm_ok ho ha hx hy).1 hc, he⟩
        · cases he
      · cases he
    · rename_i hc
      split at he
      · rename_i x y ha
        split at he
        · rename_i k a k' b hx hy; exact one ⟨_, (mm_ok ho ha hx hy).2 hc, he⟩
        · cases he
      · cases he
    · cases he
  · cases he

theorem upd_same {α : Type} : ∀ {l : List α} {n : Nat} {x : α}, nth l n = some x → upd l n x = l
  | [], _, _, h => by simp [nth] at h
  | _ :: _, 0, _, h => by simp only [nth, Option.some.injEq] at h; subst h; rfl
  | x :: l, n + 1, y, h => by simp only [upd]; rw [upd_same (l := l) (n := n) h]

/-- the operations at these places -/
inductive At (ops : Array Oper) : List Nat → List Oper → Prop
  | nil : At ops [] []
  | cons {i : Nat} {o : Oper} {is : List Nat} {os : List Oper} : ops[i]? = some o → At ops is os → At ops (i :: is) (o :: os)

theorem At.range (ops : Array Oper) : At ops (List.range ops.size) ops.toList := by
  have : ∀ (pre l : List Oper), ops.toList = pre ++ l → At ops ((List.range l.length).map (pre.length + ·)) l := by
    intro pre l
    induction l generalizing pre with
    | nil => intro _; exact .nil
    | cons o l ih =>
      intro h
      rw [List.length_cons, List.range_succ_eq_map, List.map_cons, List.map_map]
      refine .cons ?_ ?_
      · rw [← Array.getElem?_toList, h]; simp
      · have := ih (pre ++ [o]) (by rw [h]; simp)
        rw [show ((pre.length + ·) ∘ Nat.succ) = ((pre ++ [o]).length + ·) by funext n; simp; omega]
        exact this
  have := this [] ops.toList rfl
  simpa using this

theorem dstOf_eq {ops : Array Oper} {j : Nat} {d : Tmp} (h : dstOf ops.toList j = some d) : (ops[j]?).bind (·.dst) = some d := by
  unfold dstOf at h
  rw [nth_eq] at h
  simpa using h

theorem runOps_ok (hE : EnvOk P E) {ops : Array Oper} : ∀ (os : List Oper) (is : List Nat) (s : St) {K : St → Option R}, At ops is os → runOps E ops.toList os s K = some r →
    ∀ (g : G) (rho : Rho) (a : Act) (w : World) (Q : Exit → Act → World → Prop), Sim g rho s a w → (∀ s' rho' a' w', K s' = some r → Sim g rho' s' a' w' → Q .normal a' w') → wpOps P ops Q is a w
  | [], _, s, K, .nil, he, g, rho, a, w, Q, hs, hq => by
    simp only [runOps] at he
    exact hq s rho a w he hs
  | o :: os, _, s, K, .cons (i := i) (is := is) ho hat, he, g, rho, a, w, Q, hs, hq => by
    have take : ∀ (s1 : St), Sim g rho s1 a w → exec E o s1 (fun s' => runOps E ops.toList os s' K) = some r → Region.wanted o (yielded ops a.tmps) = true → wpOps P ops Q (i :: is) a w := by
      intro s1 hs1 h1 hw
      simp only [wpOps, ho, hw, if_true]
      left
      obtain ⟨v, h', h2, h3⟩ := exec_ok hE h1
      refine h2 g a w rho hs1.inv (fun x _ => get_ok hs1 x) _ Q (fun cv w' rho' hi hv hx => ?_)
      exact runOps_ok hE os is _ hat h3 g rho' _ w' Q (hs1.step hi hv hx) hq
    have skip : ∀ (s1 : St), Sim g rho s1 a w → runOps E ops.toList os (s1.put o.dst (.tup [])) K = some r → Region.wanted o (yielded ops a.tmps) = false → wpOps P ops Q (i :: is) a w := by
      intro s1 hs1 h1 hw
      simp only [wpOps, ho, hw, Bool.false_eq_true, if_false]
      exact runOps_ok hE os is _ hat h1 g rho _ w Q (hs1.put V_undef) hq
    simp only [runOps] at he
    split at he
    · rename_i hg
      exact take s hs he (by simp [Region.wanted, hg])
    · rename_i j want hg
      split at he
      · cases he
      · rename_i d hd
        have hd' := dstOf_eq hd
        split at he
        · rename_i b hb
          obtain ⟨u, h1, h2⟩ := VL.get hs.slots hb
          have h1' : a.tmps[d]? = some u := by simpa using h1
          have hu := asB_V h2 (b := b) rfl
          subst hu
          have hy : yielded ops a.tmps j = some b := by simp only [yielded, hd', Option.bind_some, h1']
          have hwd : Region.wanted o (yielded ops a.tmps) = (some b == some want) := by simp [Region.wanted, hg, hy]
          have hput : s.put (some d) (.val .bool b) = s := by
            simp only [St.put]; rw [upd_same hb]
          have hb2 : b = true ∨ b = false := by cases b <;> simp
          rcases hb2 with e | e
          · subst e
            dsimp only [cond_true] at he
            rw [hput] at he
            cases want with
            | true => exact take s hs he (by rw [hwd]; rfl)
            | false => exact skip s hs he (by rw [hwd]; rfl)
          · subst e
            dsimp only [cond_false] at he
            rw [hput] at he
            cases want with
            | true => exact skip s hs he (by rw [hwd]; rfl)
            | false => exact take s hs he (by rw [hwd]; rfl)
        · rename_i hb
          obtain ⟨u, h1, h2⟩ := VL.get hs.slots hb
          have h1' : a.tmps[d]? = some u := by simpa using h1
          simp only [V] at h2
          obtain ⟨cs, h3, h4⟩ := h2
          have hy : yielded ops a.tmps j = none := by simp only [yielded, hd', Option.bind_some, h1', h3]
          exact skip s hs he (by simp [Region.wanted, hg, hy])
        · cases he

end

end Go.Sx
