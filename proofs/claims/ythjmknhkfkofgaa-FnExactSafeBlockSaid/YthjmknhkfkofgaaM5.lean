/- The head of a loop: what is kept there. -/
import Derived.Test.YthjmknhkfkofgaaM4
set_option linter.unusedVariables false
namespace Go.Sx
open Go

def OnlyKill (h h' : List Blk) : Prop := h'.length = h.length ∧ ∀ b, nth h' b = nth h b ∨ nth h' b = some .gone

theorem OnlyKill.refl (h : List Blk) : OnlyKill h h := ⟨rfl, fun _ => .inl rfl⟩
theorem OnlyKill.trans {h h' h'' : List Blk} (a : OnlyKill h h') (b : OnlyKill h' h'') : OnlyKill h h'' := by
  refine ⟨b.1.trans a.1, fun k => ?_⟩
  rcases b.2 k with e | e
  · rw [e]; exact a.2 k
  · exact .inr e
theorem onlyKill1 (h : List Blk) (b : Nat) : OnlyKill h (upd h b .gone) := by
  refine ⟨upd_length _ _ _, fun k => ?_⟩
  rcases nth_upd_cases h b k Blk.gone with ⟨_, h2, _⟩ | h2
  · exact .inr h2
  · exact .inl h2
theorem onlyKill : ∀ (l : List Nat) (h : List Blk), OnlyKill h (kill h l)
  | [], h => OnlyKill.refl h
  | b :: l, h => (onlyKill1 h b).trans (onlyKill l _)
theorem OnlyKill.live {h h' : List Blk} (a : OnlyKill h h') {b : Nat} (hl : Sx.live (nth h' b)) : nth h' b = nth h b ∧ Sx.live (nth h b) := by
  rcases a.2 b with e | e
  · exact ⟨e, e ▸ hl⟩
  · rw [e] at hl; exact hl.elim
theorem OnlyKill.le {h h' : List Blk} (a : OnlyKill h h') (r : Option D) (b : Nat) : BlkLe r r (nth h b) (nth h' b) := by
  rcases a.2 b with e | e
  · rw [e]; exact BlkLe.refl _ _
  · rw [e]; exact BlkLe.gone

theorem isLive_live {b : Option Blk} (h : isLive b = true) : live b := by
  unfold isLive at h; split at h
  · trivial
  · cases h

structure Take (z0 : Z) (L ob : List Nat) (h : List Blk) : Prop where
  only : OnlyKill z0.h h
  was : ∀ b, b ∈ L ∨ b ∈ ob → isLive (nth z0.h b) = true ∧ ¬ live (nth h b)
  sep : ∀ r ∈ L, r ∉ ob
  nodup : ob.Nodup

def zc (z0 : Z) (L : List Nat) (h : List Blk) : Z := ⟨LI z0 L, z0.w, z0.rho, h⟩

theorem Take.ext {z0 : Z} {L L' : List Nat} {h h' : List Blk} (hL : ∀ r ∈ L, r ∈ L') (hk : OnlyKill h h') : Ext (zc z0 L h) (zc z0 L' h') :=
  ⟨fun _ hm => ⟨LI.mono hL hm, rfl⟩, fun b => hk.le _ b⟩
theorem Take.ext0 {z0 : Z} {L : List Nat} {h : List Blk} (hk : OnlyKill z0.h h) : Ext z0 (zc z0 L h) :=
  ⟨fun _ hm => ⟨.inl hm, rfl⟩, fun b => hk.le _ b⟩

theorem Take.iz {z0 : Z} (hz : IZ z0) {L ob : List Nat} {h : List Blk} (t : Take z0 L ob h) : IZ (zc z0 L h) := by
  refine ⟨fun b d hd => ?_, fun b b' d d' a1 a2 l1 l2 => hz.disj b b' d d' a1 a2 (t.only.live l1).2 (t.only.live l2).2, fun b d a1 l1 => hz.nodup b d a1 (t.only.live l1).2, ?_⟩
  · show SimB _ d (nth h b)
    rcases t.only.2 b with e | e
    · rw [e]; exact (hz.sim b d hd).ext (Take.ext0 t.only) (fun _ _ _ => rfl)
    · rw [e]; trivial
  · intro b d hd hl k hk hm
    have hl : live (nth h b) := hl
    rcases hm with hm | ⟨r, hr, d', e1, e2, e3⟩
    · exact hz.sep b d hd (t.only.live hl).2 k hk hm
    · have hne : b ≠ r := fun e => (t.was r (.inl hr)).2 (e ▸ hl)
      exact hz.disj b r d d' hd e1 (t.only.live hl).2 e2 hne k hk e3

/-- what has been taken so, and as what it is owned -/
inductive Srcs (z0 : Z) (im : Nat → Prop) : List Nat → List (Option D) → List Blk → Prop
  | nil : Srcs z0 im [] [] []
  | junk {ob : List Nat} {ds : List (Option D)} {os : List Blk} {t : Ty} {x : List t.den} : Srcs z0 im ob ds os → Srcs z0 im ob (none :: ds) (.arr 0 t x :: os)
  | empty {ob : List Nat} {ds : List (Option D)} {os : List Blk} {t : Ty} : 0 < t.size → Srcs z0 im ob ds os → Srcs z0 im ob (some (.s none 0 []) :: ds) (.arr 0 t [] :: os)
  | cons {b : Nat} {A : Option Addr} {cap : Nat} {S ob : List Nat} {ds : List (Option D)} {os : List Blk} {t : Ty} {x : List t.den} :
      (∀ k ∈ S, ∃ d0, z0.rho b = some d0 ∧ k ∈ d0.blks) → S.Nodup → TR im z0.w true (.sl true t) x [.slice A x.length cap] S → 0 < t.size → Srcs z0 im ob ds os →
      Srcs z0 im (b :: ob) (some (.s A cap S) :: ds) (.arr 0 t x :: os)

theorem Srcs.mono {z0 : Z} {im im' : Nat → Prop} (hi : ∀ k, im k → im' k) {ob : List Nat} {ds : List (Option D)} {os : List Blk} (h : Srcs z0 im ob ds os) : Srcs z0 im' ob ds os := by
  induction h with
  | nil => exact .nil
  | junk _ ih => exact .junk ih
  | empty h1 _ ih => exact .empty h1 ih
  | cons h1 h2 h3 h4 _ ih => exact .cons h1 h2 (h3.mono (fun k hk => ⟨hi k hk, rfl⟩) _ _ _ _ _ (fun _ _ => rfl)) h4 ih

theorem Srcs.append {z0 : Z} {im : Nat → Prop} {ob ob' : List Nat} {ds ds' : List (Option D)} {os os' : List Blk} (h : Srcs z0 im ob ds os) (h' : Srcs z0 im ob' ds' os') : Srcs z0 im (ob ++ ob') (ds ++ ds') (os ++ os') := by
  induction h with
  | nil => exact h'
  | junk _ ih => exact .junk ih
  | empty h1 _ ih => exact .empty h1 ih
  | cons h1 h2 h3 h4 _ ih => exact .cons h1 h2 h3 h4 ih

theorem Srcs.length {z0 : Z} {im : Nat → Prop} {ob : List Nat} {ds : List (Option D)} {os : List Blk} (h : Srcs z0 im ob ds os) : ds.length = os.length := by
  induction h with
  | nil => rfl
  | junk _ ih => simp [ih]
  | empty _ _ ih => simp [ih]
  | cons _ _ _ _ _ ih => simp [ih]

/-- one that is owned, and where it is from -/
theorem Srcs.at {z0 : Z} {im : Nat → Prop} {ob : List Nat} {ds : List (Option D)} {os : List Blk} (h : Srcs z0 im ob ds os) : ∀ (j : Nat) (d : D), nth ds j = some (some d) →
    ∃ A cap S t x, d = .s A cap S ∧ nth os j = some (.arr 0 t x) ∧ S.Nodup ∧ TR im z0.w true (.sl true t) x [.slice A x.length cap] S ∧ 0 < t.size ∧ ∀ k ∈ S, ∃ b ∈ ob, ∃ d0, z0.rho b = some d0 ∧ k ∈ d0.blks := by
  induction h with
  | nil => intro j d hj; simp [nth] at hj
  | junk _ ih =>
    intro j d hj
    cases j with
    | zero => simp [nth] at hj
    | succ j => exact ih j d hj
  | @empty ob ds os t h1 _ ih =>
    intro j d hj
    cases j with
    | zero =>
      simp only [nth, Option.some.injEq] at hj
      subst hj
      exact ⟨none, 0, [], t, [], rfl, rfl, by simp, ⟨none, 0, rfl, by simp, by simp⟩, h1, by simp⟩
    | succ j => exact ih j d hj
  | @cons b A cap S ob ds os t x h1 h2 h3 h4 _ ih =>
    intro j d hj
    cases j with
    | zero =>
      simp only [nth, Option.some.injEq] at hj
      subst hj
      exact ⟨A, cap, S, t, x, rfl, rfl, h2, h3, h4, fun k hk => ⟨b, by simp, h1 k hk⟩⟩
    | succ j =>
      obtain ⟨A', cap', S', t', x', e1, e2, e3, e4, e5, e6⟩ := ih j d hj
      exact ⟨A', cap', S', t', x', e1, e2, e3, e4, e5, fun k hk => by obtain ⟨b', hb', r⟩ := e6 k hk; exact ⟨b', by simp [hb'], r⟩⟩

/-- two of them lie apart -/
theorem Srcs.apart {z0 : Z} {im : Nat → Prop} (hz : IZ z0) {ob : List Nat} {ds : List (Option D)} {os : List Blk} (h : Srcs z0 im ob ds os) (hl : ∀ b ∈ ob, live (nth z0.h b)) (hn : ob.Nodup) :
    ∀ (i j : Nat) (d d' : D), nth ds i = some (some d) → nth ds j = some (some d') → i ≠ j → ∀ k ∈ d.blks, k ∉ d'.blks := by
  induction h with
  | nil => intro i j d d' hi; simp [nth] at hi
  | junk _ ih =>
    intro i j d d' hi hj hne
    cases i with
    | zero => simp [nth] at hi
    | succ i =>
      cases j with
      | zero => simp [nth] at hj
      | succ j => exact ih hl hn i j d d' hi hj (by omega)
  | empty _ _ ih =>
    intro i j d d' hi hj hne k hk hk'
    cases i with
    | zero => simp only [nth, Option.some.injEq] at hi; subst hi; simp [D.blks] at hk
    | succ i =>
      cases j with
      | zero => simp only [nth, Option.some.injEq] at hj; subst hj; simp [D.blks] at hk'
      | succ j => exact ih hl hn i j d d' hi hj (by omega) k hk hk'
  | @cons b A cap S ob ds os t x h1 h2 h3 h4 hs ih =>
    intro i j d d' hi hj hne k hk hk'
    obtain ⟨n1, n2⟩ := List.nodup_cons.1 hn
    have first : ∀ (j : Nat) (d' : D), nth ds j = some (some d') → k ∈ S → k ∈ d'.blks → False := by
      intro j d' hj hkS hk'
      obtain ⟨A', cap', S', t', x', e1, _, _, _, _, e6⟩ := hs.at j d' hj
      subst e1
      obtain ⟨b', hb', d0', r1, r2⟩ := e6 k hk'
      obtain ⟨d0, q1, q2⟩ := h1 k hkS
      have hbb : b ≠ b' := fun e => n1 (e ▸ hb')
      exact hz.disj b b' d0 d0' q1 r1 (hl b (by simp)) (hl b' (by simp [hb'])) hbb k q2 r2
    cases i with
    | zero =>
      simp only [nth, Option.some.injEq] at hi
      subst hi
      cases j with
      | zero => exact hne rfl
      | succ j => exact first j d' hj hk hk'
    | succ i =>
      cases j with
      | zero =>
        simp only [nth, Option.some.injEq] at hj
        subst hj
        exact first i d hi hk' hk
      | succ j => exact ih (fun b hb => hl b (by simp [hb])) n2 i j d d' hi hj (by omega) k hk hk'

theorem Ty.eq_noUq : ∀ {s t : Ty}, s.eqv t = true → s.noUq = true → t.noUq = true → s = t
  | .int k, .int k', h, _, _ => by simp only [Ty.eqv, decide_eq_true_eq] at h; rw [h]
  | .bool, .bool, _, _, _ => rfl
  | .str, .str, _, _, _ => rfl
  | .unit, .unit, _, _, _ => rfl
  | .pair a b, .pair c d, h, h1, h2 => by
    simp only [Ty.eqv, Bool.and_eq_true] at h
    simp only [Ty.noUq, Bool.and_eq_true] at h1 h2
    rw [Ty.eq_noUq h.1 h1.1 h2.1, Ty.eq_noUq h.2 h1.2 h2.2]
  | .sl u a, .sl u' b, h, h1, h2 => by
    simp only [Ty.eqv] at h
    simp only [Ty.noUq, Bool.and_eq_true, Bool.not_eq_true'] at h1 h2
    rw [Ty.eq_noUq h h1.2 h2.2, h1.1, h2.1]

theorem toD_same {t : Ty} {x : t.den} {y : t.den} (h : toD t t x = some y) : y = x := by
  unfold toD at h
  split at h
  · simp only [Option.some.injEq] at h
    rw [← h]; rfl
  · cases h

/-- one owned list taken -/
theorem ownD_live {h : List Blk} {a : Ty} {c : SV} {x : List a.den} (ho : ownD h a c = some x) : c = .nil ∨ ∃ b, refs c = [b] ∧ isLive (nth h b) = true ∧ pub h c = some (.fr a x, upd h b .gone) := by
  rcases ownD_pub ho with ⟨h1, _⟩ | ⟨b, hc, hp⟩
  · exact .inl h1
  · right
    have hl : isLive (nth h b) = true := by
      unfold ownD at ho
      split at ho
      · rcases hc with hc | ⟨_, _, hc⟩ <;> cases hc
      · rename_i b1 v1
        split at ho
        · rename_i v' s y hb
          have : b1 = b := by rcases hc with hc | ⟨_, _, hc⟩ <;> cases hc; rfl
          subst this; rw [hb]; rfl
        · cases ho
      · rename_i b1 v1 o1 n1
        split at ho
        · rename_i v' s y hb
          have : b1 = b := by rcases hc with hc | ⟨_, _, hc⟩ <;> cases hc; rfl
          subst this; rw [hb]; rfl
        · cases ho
      · cases ho
    refine ⟨b, ?_, hl, hp⟩
    rcases hc with hc | ⟨off, n, hc⟩ <;> (rw [hc]; rfl)

theorem own_src {z : Z} (hi : IZ z) {t : Ty} {x : SV} {c : Value} {d : List t.den} (hv : V z x c) (ho : ownD z.h t x = some d) :
    (x = .nil ∧ d = [] ∧ c = .slice none 0 0) ∨ ∃ b A cap S, refs x = [b] ∧ isLive (nth z.h b) = true ∧ c = .slice A d.length cap ∧ (∀ k ∈ S, ∃ d0, z.rho b = some d0 ∧ k ∈ d0.blks) ∧ S.Nodup ∧
      TR z.im z.w true (.sl true t) d [.slice A d.length cap] S ∧ 0 < t.size := by
  rcases ownD_live ho with hn | ⟨b, hr, hl, hp⟩
  · subst hn
    simp only [V] at hv
    simp only [ownD, Option.some.injEq] at ho
    exact .inl ⟨rfl, ho.symm, hv⟩
  · right
    obtain ⟨S, h1, h2, h3, h4⟩ := pub_ok hi rfl x c _ _ hv hp
    simp only [CV] at h1
    obtain ⟨_, h5, h6⟩ := h1
    obtain ⟨A, cap, e1, e2, e3⟩ := h6
    simp only [List.cons.injEq, and_true] at e1
    refine ⟨b, A, cap, S, hr, hl, e1, fun k hk => ?_, h2, ⟨A, cap, rfl, e2, e3⟩, h5⟩
    obtain ⟨b', d0, q1, q2, q3, q4, q5⟩ := h4 k hk
    have : b' = b := by
      rcases nth_upd_cases z.h b b' Blk.gone with ⟨e, _, _⟩ | e
      · exact e.symm
      · rw [e] at q3
        rcases q3 with q3 | q3
        · rw [q3] at q2; exact q2.elim
        · exact absurd q3 q4
    subst this
    exact ⟨d0, q1, q5⟩

theorem takeK_only : ∀ (ks : List Keep) (l : List SV) (h : List Blk) {x : KD ks} {h' : List Blk}, takeK ks l h = some (x, h') → OnlyKill h h'
  | [], [], h, x, h', he => by simp only [takeK] at he; cases Option.some.inj he; exact OnlyKill.refl h
  | [], _ :: _, h, x, h', he => by simp [takeK] at he
  | k :: ks, [], h, x, h', he => by cases k <;> simp [takeK] at he
  | .drop :: ks, _ :: l, h, x, h', he => takeK_only ks l h (x := x) (by simp only [takeK] at he; exact he)
  | .is v :: ks, y :: l, h, x, h', he => by
    simp only [takeK] at he
    cases hs : sameIs v y with
    | false => rw [hs] at he; cases he
    | true => rw [hs] at he; exact takeK_only ks l h he
  | .ro t :: ks, y :: l, h, x, h', he => by
    simp only [takeK] at he
    split at he
    · cases hs : (refs y).all (fun b => isLive (nth h b)) with
      | false => rw [hs] at he; cases he
      | true =>
        rw [hs] at he
        simp only [cond_true] at he
        split at he
        · rename_i r h1 hr
          cases Option.some.inj he
          exact (onlyKill _ h).trans (takeK_only ks l _ hr)
        · cases he
    · cases he
  | .own t :: ks, y :: l, h, x, h', he => by
    simp only [takeK] at he
    split at he
    · split at he
      · rename_i r h1 hr
        cases Option.some.inj he
        exact (onlyKill _ h).trans (takeK_only ks l _ hr)
      · cases he
    · cases he

theorem ownsK_junk {z0 : Z} {im : Nat → Prop} : ∀ (ks : List Keep) (x : KD ks), ∃ ds, Srcs z0 im [] ds (ownsK ks x) ∧ ∀ j d, nth ds j ≠ some (some d)
  | [], _ => ⟨[], .nil, fun j d => by simp [nth]⟩
  | .drop :: ks, x => ownsK_junk ks x
  | .is _ :: ks, x => ownsK_junk ks x
  | .ro _ :: ks, x => ownsK_junk ks x.2
  | .own t :: ks, x => by
    obtain ⟨ds, h1, h2⟩ := ownsK_junk (z0 := z0) (im := im) ks x.2
    refine ⟨none :: ds, .junk h1, fun j d => ?_⟩
    cases j with
    | zero => simp [nth]
    | succ j => exact h2 j d

theorem Take.more {z0 : Z} {L ob : List Nat} {h h' : List Blk} (t : Take z0 L ob h) (hk : OnlyKill h h') : Take z0 L ob h' :=
  ⟨t.only.trans hk, fun b hb => ⟨(t.was b hb).1, fun hl => (t.was b hb).2 (hk.live hl).2⟩, t.sep, t.nodup⟩

/-- how the head's state lies to the state before -/
structure Fits (z0 z' : Z) (L : List Nat) (n : Nat) : Prop where
  w : z'.w = z0.w
  im : ∀ k, LI z0 L k → z'.im k
  ptr : ∀ b off c, b < n → V z0 (.ptr b off) c → V z' (.ptr b off) c
  own : ∀ b v c, b < n → V z0 (.own b v) c → V z' (.own b v) c

theorem samePs_eq : ∀ {l m : List SV}, samePs l m = true → l = m
  | [], [], _ => rfl
  | .ptr b o :: l, .ptr b' o' :: m, h => by
    simp only [samePs, Bool.and_eq_true] at h
    rw [Nat.eq_of_beq_eq_true h.1.1, Nat.eq_of_beq_eq_true h.1.2, samePs_eq h.2]
theorem okPs_V {z0 z' : Z} {n0 : Nat} (hp : ∀ b off c, b < n0 → V z0 (.ptr b off) c → V z' (.ptr b off) c) : ∀ (l : List SV) (cs : List Value), okPs n0 l = true → VL z0 l cs → VL z' l cs
  | [], cs, _, h => by simp only [VL] at h ⊢; exact h
  | x :: l, cs, hk, h => by
    simp only [VL] at h ⊢
    obtain ⟨c, r, rfl, h2, h3⟩ := h
    cases x with
    | ptr b o =>
      simp only [okPs, Bool.and_eq_true, Nat.blt, Nat.ble_eq] at hk
      exact ⟨c, r, rfl, hp b o c (by omega) h2, okPs_V hp l r hk.2 h3⟩
    | _ => simp [okPs] at hk

theorem takeK_ok {z0 : Z} (hz : IZ z0) (n0 : Nat) : ∀ (ks : List Keep) (l : List SV) (h : List Blk) {x : KD ks} {h' : List Blk} (L ob : List Nat) (cs : List Value), Take z0 L ob h → VL z0 l cs → okK n0 ks = true →
    takeK ks l h = some (x, h') → ∃ L' ob' ds, Take z0 L' (ob ++ ob') h' ∧ (∀ r ∈ L, r ∈ L') ∧ Srcs z0 (LI z0 L') ob' ds (ownsK ks x) ∧
      ∀ (z' : Z) (n : Nat), Fits z0 z' L' n0 → (∀ j d, nth ds j = some d → z'.rho (n + j) = d) → (∀ j o, nth (ownsK ks x) j = some o → nth z'.h (n + j) = some o) → VL z' (giveK ks x n) cs
  | [], [], h, x, h', L, ob, cs, t, hv, _, he => by
    simp only [takeK] at he
    cases Option.some.inj he
    simp only [VL] at hv
    exact ⟨L, [], [], by simpa using t, fun _ h => h, .nil, fun z' n _ _ _ => by simp only [giveK, VL]; exact hv⟩
  | [], _ :: _, h, x, h', L, ob, cs, t, hv, _, he => by simp [takeK] at he
  | k :: ks, [], h, x, h', L, ob, cs, t, hv, _, he => by cases k <;> simp [takeK] at he
  | .drop :: ks, y :: l, h, x, h', L, ob, cs, t, hv, hk, he => by
    simp only [VL] at hv
    obtain ⟨c, r, rfl, _, h3⟩ := hv
    obtain ⟨L', ob', ds, a1, a2, a3, a4⟩ := takeK_ok hz n0 ks l h L ob r t h3 (by simpa only [okK] using hk) (x := x) (by simp only [takeK] at he; exact he)
    refine ⟨L', ob', ds, a1, a2, a3, fun z' n f1 f2 f3 => ?_⟩
    simp only [giveK, VL]
    exact ⟨c, r, rfl, by simp only [V], a4 z' n f1 f2 f3⟩
  | .is v :: ks, y :: l, h, x, h', L, ob, cs, t, hv, hk, he => by
    simp only [VL] at hv
    obtain ⟨c, r, rfl, h2, h3⟩ := hv
    simp only [takeK] at he
    cases hs : sameIs v y with
    | false => rw [hs] at he; cases he
    | true =>
      rw [hs] at he
      have he : takeK ks l h = some (x, h') := he
      have hk' : okK n0 ks = true ∧ (∀ b o, v = .ptr b o → b < n0) ∧ (∀ b o, v = .own b o → b < n0) ∧ ∀ f c, v = .fn f c → okPs n0 c = true := by
        unfold sameIs at hs
        split at hs
        · simp only [okK, Bool.and_eq_true] at hk
          exact ⟨hk.2, fun b o e => (by cases e), fun b o e => (by cases e), fun f c e => by cases e; exact hk.1⟩
        · simp only [okK, Bool.and_eq_true] at hk
          exact ⟨hk.2, fun b o e => by cases e; have := hk.1; simp only [Nat.blt, Nat.ble_eq] at this; omega, fun b o e => (by cases e), fun f c e => by cases e⟩
        · simp only [okK, Bool.and_eq_true] at hk
          exact ⟨hk.2, fun b o e => (by cases e), fun b o e => by cases e; have := hk.1; simp only [Nat.blt, Nat.ble_eq] at this; omega, fun f c e => by cases e⟩
        · simp only [okK] at hk
          exact ⟨hk, fun b o e => (by cases e), fun b o e => (by cases e), fun f c e => by cases e⟩
        · cases hs
      obtain ⟨L', ob', ds, a1, a2, a3, a4⟩ := takeK_ok hz n0 ks l h L ob r t h3 hk'.1 he
      refine ⟨L', ob', ds, a1, a2, a3, fun z' n f1 f2 f3 => ?_⟩
      simp only [giveK, VL]
      refine ⟨c, r, rfl, ?_, a4 z' n f1 f2 f3⟩
      unfold sameIs at hs
      split at hs
      · rename_i f l1 g m1
        simp only [Bool.and_eq_true] at hs
        have e1 := Nat.eq_of_beq_eq_true hs.1
        subst e1
        have e2 := samePs_eq hs.2
        subst e2
        simp only [V] at h2 ⊢
        obtain ⟨cs, k1, k2⟩ := h2
        exact ⟨cs, k1, okPs_V f1.ptr _ cs (hk'.2.2.2 _ _ rfl) k2⟩
      · rename_i b o b' o'
        simp only [Bool.and_eq_true] at hs
        have e1 := Nat.eq_of_beq_eq_true hs.1
        have e2 := Nat.eq_of_beq_eq_true hs.2
        subst e1; subst e2
        exact f1.ptr _ _ c (hk'.2.1 _ _ rfl) h2
      · rename_i b o b' o'
        simp only [Bool.and_eq_true] at hs
        have e1 := Nat.eq_of_beq_eq_true hs.1
        have e2 := Nat.eq_of_beq_eq_true hs.2
        subst e1; subst e2
        exact f1.own _ _ c (hk'.2.2.1 _ _ rfl) h2
      · simp only [V] at h2 ⊢; exact h2
      · cases hs
  | .ro ty :: ks, y :: l, h, x, h', L, ob, cs, t, hv, hk, he => by
    simp only [VL] at hv
    obtain ⟨c, r, rfl, h2, h3⟩ := hv
    simp only [takeK] at he
    split at he
    · rename_i d hd
      cases hs : (refs y).all (fun b => isLive (nth h b)) with
      | false => rw [hs] at he; cases he
      | true =>
        rw [hs] at he
        simp only [cond_true] at he
        split at he
        · rename_i q h1 hq
          cases Option.some.inj he
          have hlv : ∀ b ∈ refs y, live (nth h b) := fun b hb => isLive_live (List.all_eq_true.1 hs b hb)
          have hla : ∀ b ∈ refs y, isLive (nth z0.h b) = true := fun b hb => by rw [← (t.only.live (hlv b hb)).1]; exact List.all_eq_true.1 hs b hb
          have t' : Take z0 (L ++ refs y) ob (kill h (refs y)) := by
            refine ⟨t.only.trans (onlyKill _ _), fun b hb => ?_, fun r hr hob => ?_, t.nodup⟩
            · rcases hb with hb | hb
              · rcases List.mem_append.1 hb with hb | hb
                · exact ⟨(t.was b (.inl hb)).1, fun hl => (t.was b (.inl hb)).2 ((onlyKill _ _).live hl).2⟩
                · exact ⟨hla b hb, kill_gone _ _ hb⟩
              · exact ⟨(t.was b (.inr hb)).1, fun hl => (t.was b (.inr hb)).2 ((onlyKill _ _).live hl).2⟩
            · rcases List.mem_append.1 hr with hr | hr
              · exact t.sep r hr hob
              · exact (t.was r (.inr hob)).2 (hlv r hr)
          obtain ⟨L', ob', ds, a1, a2, a3, a4⟩ := takeK_ok hz n0 ks l _ (L ++ refs y) ob r t' h3 (by simpa only [okK] using hk) hq
          refine ⟨L', ob', ds, a1, fun r hr => a2 r (by simp [hr]), a3, fun z' n f1 f2 f3 => ?_⟩
          simp only [giveK, VL]
          refine ⟨c, r, rfl, ?_, a4 z' n f1 f2 f3⟩
          obtain ⟨cs, k1, k2⟩ := toTy_ok (z := zc z0 L h) (t.iz hz).sim (V.ext (Take.ext0 t.only) _ _ h2) hd
          simp only [V]
          refine ⟨cs, ?_, k2⟩
          rw [f1.w]
          refine k1.im (fun k hm => f1.im k ?_)
          rcases hm with hm | ⟨_, r', hr', d', e1, e2, e3⟩
          · exact LI.mono (fun r hr => a2 r (by simp [hr])) hm
          · exact .inr ⟨r', a2 r' (by simp [hr']), d', e1, (t.only.live e2).2, e3⟩
        · cases he
    · cases he
  | .own ty :: ks, y :: l, h, x, h', L, ob, cs, t, hv, hk, he => by
    simp only [VL] at hv
    obtain ⟨c, r, rfl, h2, h3⟩ := hv
    simp only [takeK] at he
    simp only [okK, Bool.and_eq_true] at hk
    split at he
    · rename_i d hd
      split at he
      · rename_i q h1 hq
        cases Option.some.inj he
        have hv' := V.ext (Take.ext0 (L := L) t.only) _ _ h2
        rcases own_src (z := zc z0 L h) (t.iz hz) hv' hd with ⟨e1, e2, e3⟩ | ⟨b, A, cap, S, e1, e2, e3, e4, e5, e6, e7⟩
        · subst e1; subst e2
          have hp : 0 < ty.size := by have := hk.1; simp only [Nat.blt, Nat.ble_eq] at this; omega
          obtain ⟨L', ob', ds, a1, a2, a3, a4⟩ := takeK_ok hz n0 ks l _ L ob r t h3 hk.2 hq
          refine ⟨L', ob', some (.s none 0 []) :: ds, a1, a2, .empty hp a3, fun z' n f1 f2 f3 => ?_⟩
          simp only [giveK, VL]
          refine ⟨c, r, rfl, ?_, a4 z' (n + 1) f1 (fun j d hj => by have := f2 (j + 1) d hj; rwa [show n + (j + 1) = n + 1 + j by omega] at this)
            (fun j o hj => by have := f3 (j + 1) o hj; rwa [show n + (j + 1) = n + 1 + j by omega] at this)⟩
          rw [e3]
          have g1 := f2 0 _ rfl
          have g2 := f3 0 _ rfl
          exact own_at (x := ([] : List ty.den)) g2 g1 rfl
        · have hlv : live (nth h b) := isLive_live e2
          have t' : Take z0 L (ob ++ [b]) (kill h (refs y)) := by
            rw [e1]
            refine ⟨t.only.trans (onlyKill _ _), fun b' hb => ?_, fun r hr hob => ?_, ?_⟩
            · rcases hb with hb | hb
              · exact ⟨(t.was b' (.inl hb)).1, fun hl => (t.was b' (.inl hb)).2 ((onlyKill _ _).live hl).2⟩
              · rcases List.mem_append.1 hb with hb | hb
                · exact ⟨(t.was b' (.inr hb)).1, fun hl => (t.was b' (.inr hb)).2 ((onlyKill _ _).live hl).2⟩
                · simp only [List.mem_singleton] at hb
                  subst hb
                  exact ⟨by rw [← (t.only.live hlv).1]; exact e2, kill_gone _ _ (by simp)⟩
            · rcases List.mem_append.1 hob with hob | hob
              · exact t.sep r hr hob
              · simp only [List.mem_singleton] at hob
                subst hob
                exact (t.was _ (.inl hr)).2 hlv
            · refine List.nodup_append.2 ⟨t.nodup, by simp, fun a ha b' hb' e => ?_⟩
              simp only [List.mem_singleton] at hb'
              subst e; subst hb'
              exact (t.was _ (.inr ha)).2 hlv
          obtain ⟨L', ob', ds, a1, a2, a3, a4⟩ := takeK_ok hz n0 ks l _ L (ob ++ [b]) r t' h3 hk.2 hq
          refine ⟨L', b :: ob', some (.s A cap S) :: ds, by simpa using a1, a2, .cons e4 e5 (e6.mono (fun k hm => ⟨LI.mono a2 hm, rfl⟩) _ _ _ _ _ (fun _ _ => rfl)) e7 a3, fun z' n f1 f2 f3 => ?_⟩
          simp only [giveK, VL]
          refine ⟨c, r, rfl, ?_, a4 z' (n + 1) f1 (fun j d hj => by have := f2 (j + 1) d hj; rwa [show n + (j + 1) = n + 1 + j by omega] at this)
            (fun j o hj => by have := f3 (j + 1) o hj; rwa [show n + (j + 1) = n + 1 + j by omega] at this)⟩
          rw [e3]
          have g1 := f2 0 _ rfl
          have g2 := f3 0 _ rfl
          exact own_at g2 g1 rfl
      · cases he
    · cases he

end Go.Sx

namespace Go.Sx
open Go

theorem nth_left {α : Type} {l r : List α} {j : Nat} {x : α} (h : nth l j = some x) : nth (l ++ r) j = some x := by rw [nth_append_lt (nth_lt h), h]
theorem nth_right {α : Type} : ∀ (l r : List α) (j : Nat), nth (l ++ r) (l.length + j) = nth r j
  | [], r, j => by simp
  | x :: l, r, j => by rw [List.length_cons, show l.length + 1 + j = (l.length + j) + 1 by omega]; exact nth_right l r j

theorem giveB_length : ∀ (bs : List BK) (y : BD bs) (n : Nat), (giveB bs y n).length = bs.length
  | [], _, _ => rfl
  | .drop :: bs, y, n => by simp only [giveB, List.length_cons]; rw [giveB_length bs y n]
  | .vars ks :: bs, y, n => by simp only [giveB, List.length_cons]; rw [giveB_length bs y.2]
  | .arr t :: bs, y, n => by simp only [giveB, List.length_cons]; rw [giveB_length bs y.2]

theorem Take.perm {z0 : Z} {L ob ob' : List Nat} {h : List Blk} (t : Take z0 L ob h) (p : ob.Perm ob') : Take z0 L ob' h :=
  ⟨t.only, fun b hb => t.was b (hb.imp id (fun q => p.mem_iff.2 q)), fun r hr hob => t.sep r hr (p.mem_iff.2 hob), p.nodup_iff.1 t.nodup⟩

theorem takeB_ok {z0 : Z} (hz : IZ z0) (n0 : Nat) : ∀ (bs : List BK) (l : List Blk) (i0 : Nat) (h : List Blk) {y : BD bs} {h' : List Blk} (L ob : List Nat), Take z0 L ob h → (∀ j, nth l j = nth z0.h (i0 + j)) → i0 + l.length = z0.h.length → okBK n0 bs = true →
    takeB bs l h = some (y, h') → ∃ L' ob' ip ds, Take z0 L' (ob ++ (ob' ++ ip)) h' ∧ (∀ r ∈ L, r ∈ L') ∧ Srcs z0 (LI z0 L') ob' ds (ownsB bs y) ∧
      ∀ n, (∀ j b, nth (giveB bs y n) j = some b → b = .gone ∨ (∃ c c' ks, nth bs j = some (.vars ks) ∧ b = .vars c' ∧ nth z0.h (i0 + j) = some (.vars c)) ∨
          ∃ t x, nth bs j = some (.arr t) ∧ b = .arr 0 t x ∧ nth z0.h (i0 + j) = some (.arr 0 t x) ∧ (i0 + j) ∈ ip) ∧
      ∀ (z' : Z), Fits z0 z' L' n0 → (∀ j d, nth ds j = some d → z'.rho (n + j) = d) → (∀ j o, nth (ownsB bs y) j = some o → nth z'.h (n + j) = some o) →
        ∀ j b d, nth (giveB bs y n) j = some b → z0.rho (i0 + j) = some d → SimB z' d (some b)
  | [], l, i0, h, y, h', L, ob, t, hl, hlen, hk, he => by
    simp only [takeB] at he
    cases Option.some.inj he
    exact ⟨L, [], [], [], by simpa using t, fun _ h => h, .nil, fun n => ⟨fun j b hj => by simp [giveB, nth] at hj, fun z' _ _ _ j b d hj => by simp [giveB, nth] at hj⟩⟩
  | .drop :: bs, [], i0, h, y, h', L, ob, t, hl, hlen, hk, he => by simp [takeB] at he
  | .drop :: bs, b0 :: l, i0, h, y, h', L, ob, t, hl, hlen, hk, he => by
    obtain ⟨L', ob', ip, ds, a1, a2, a3, a4⟩ := takeB_ok hz n0 bs l (i0 + 1) h L ob (y := y) (h' := h') t (fun j => by have := hl (j + 1); rwa [show i0 + (j + 1) = i0 + 1 + j by omega] at this) (by simp at hlen; omega) (by simpa only [okBK] using hk) (by simp only [takeB] at he; exact he)
    refine ⟨L', ob', ip, ds, a1, a2, a3, fun n => ⟨fun j b hj => ?_, fun z' f1 f2 f3 j b d hj hd => ?_⟩⟩
    · cases j with
      | zero => simp only [giveB, nth, Option.some.injEq] at hj; exact .inl hj.symm
      | succ j =>
        rcases (a4 n).1 j b hj with e | ⟨c, c', ks, e1, e2, e3⟩ | ⟨t, x, e1, e2, e3, e4⟩
        · exact .inl e
        · exact .inr (.inl ⟨c, c', ks, e1, e2, by rw [show i0 + (j + 1) = i0 + 1 + j by omega]; exact e3⟩)
        · exact .inr (.inr ⟨t, x, e1, e2, by rw [show i0 + (j + 1) = i0 + 1 + j by omega]; exact e3, by rw [show i0 + (j + 1) = i0 + 1 + j by omega]; exact e4⟩)
    · cases j with
      | zero => simp only [giveB, nth, Option.some.injEq] at hj; subst hj; trivial
      | succ j => exact (a4 n).2 z' f1 f2 f3 j b d hj (by rw [show i0 + 1 + j = i0 + (j + 1) by omega]; exact hd)
  | .arr t :: bs, [], i0, h, y, h', L, ob, tk, hl, hlen, hk, he => by simp [takeB] at he
  | .arr t :: bs, b0 :: l, i0, h, y, h', L, ob, tk, hl, hlen, hk, he => by
    have hidx : h.length - (b0 :: l).length = i0 := by rw [tk.only.1]; omega
    simp only [takeB] at he
    rw [hidx] at he
    simp only [okBK, Bool.and_eq_true] at hk
    split at he
    · rename_i v s x hb
      split at he
      · rename_i hv
        subst hv
        split at he
        · rename_i d hd
          split at he
          · rename_i r h2 hr
            cases Option.some.inj he
            obtain ⟨e1, e2⟩ := toS_ok hd
            injection e1 with _ e1
            subst e1
            have e2 : x = d := e2
            subst e2
            have hlv : live (nth h i0) := by rw [hb]; trivial
            have hz0 : nth z0.h i0 = some (.arr 0 s x) := by rw [← (tk.only.live hlv).1]; exact hb
            have t' : Take z0 L (ob ++ [i0]) (upd h i0 .gone) := by
              refine ⟨tk.only.trans (onlyKill1 h i0), fun b' hb' => ?_, fun r1 hr1 hob => ?_, ?_⟩
              · rcases hb' with hb' | hb'
                · exact ⟨(tk.was b' (.inl hb')).1, fun hl => (tk.was b' (.inl hb')).2 ((onlyKill1 h i0).live hl).2⟩
                · rcases List.mem_append.1 hb' with hb' | hb'
                  · exact ⟨(tk.was b' (.inr hb')).1, fun hl => (tk.was b' (.inr hb')).2 ((onlyKill1 h i0).live hl).2⟩
                  · simp only [List.mem_singleton] at hb'
                    subst hb'
                    exact ⟨by rw [hz0]; rfl, by rw [nth_upd_eq hb]; exact fun h => h⟩
              · rcases List.mem_append.1 hob with hob | hob
                · exact tk.sep r1 hr1 hob
                · simp only [List.mem_singleton] at hob
                  subst hob
                  exact (tk.was _ (.inl hr1)).2 hlv
              · refine List.nodup_append.2 ⟨tk.nodup, by simp, fun a ha b' hb' e => ?_⟩
                simp only [List.mem_singleton] at hb'
                subst e; subst hb'
                exact (tk.was _ (.inr ha)).2 hlv
            obtain ⟨L', ob', ip, ds, a1, a2, a3, a4⟩ := takeB_ok hz n0 bs l (i0 + 1) _ L (ob ++ [i0]) (y := r) t' (fun j => by have := hl (j + 1); rwa [show i0 + (j + 1) = i0 + 1 + j by omega] at this) (by simp at hlen; omega) hk.2 hr
            refine ⟨L', ob', i0 :: ip, ds, a1.perm ?_, a2, a3, fun n => ⟨fun j b hj => ?_, fun z' f1 f2 f3 j b d hj hd => ?_⟩⟩
            · rw [List.append_assoc]
              refine List.Perm.append_left ob ?_
              exact (List.perm_middle (l₁ := ob') (a := i0) (l₂ := ip)).symm
            · cases j with
              | zero =>
                simp only [giveB, nth, Option.some.injEq] at hj
                exact .inr (.inr ⟨s, x, rfl, hj.symm, hz0, by simp⟩)
              | succ j =>
                rcases (a4 n).1 j b hj with e | ⟨c, c', ks, e1, e2, e3⟩ | ⟨t, x, e1, e2, e3, e4⟩
                · exact .inl e
                · exact .inr (.inl ⟨c, c', ks, e1, e2, by rw [show i0 + (j + 1) = i0 + 1 + j by omega]; exact e3⟩)
                · exact .inr (.inr ⟨t, x, e1, e2, by rw [show i0 + (j + 1) = i0 + 1 + j by omega]; exact e3, by rw [show i0 + (j + 1) = i0 + 1 + j by omega]; exact List.mem_cons_of_mem _ e4⟩)
            · cases j with
              | zero =>
                simp only [giveB, nth, Option.some.injEq] at hj
                subst hj
                have hs := hz.sim i0 d hd
                rw [hz0] at hs
                obtain ⟨A, cap, S, q1, q2, q3⟩ := hs
                exact ⟨A, cap, S, q1, q2.mono (fun k hm => ⟨f1.im k (.inl hm), by rw [f1.w]⟩) _ _ _ _ _ (fun _ _ => by rw [f1.w]), q3⟩
              | succ j => exact (a4 n).2 z' f1 f2 f3 j b d hj (by rw [show i0 + 1 + j = i0 + (j + 1) by omega]; exact hd)
          · cases he
        · cases he
      · cases he
    · cases he
  | .vars ks :: bs, [], i0, h, y, h', L, ob, t, hl, hlen, hk, he => by simp [takeB] at he
  | .vars ks :: bs, b0 :: l, i0, h, y, h', L, ob, t, hl, hlen, hk, he => by
    cases b0 with
    | arr _ _ _ => simp [takeB] at he
    | held _ _ _ => simp [takeB] at he
    | lent => simp [takeB] at he
    | gone => simp [takeB] at he
    | vars c =>
      simp only [takeB] at he
      simp only [okBK, Bool.and_eq_true] at hk
      split at he
      · rename_i d1 h1 hd1
        split at he
        · rename_i r h2 hr
          cases Option.some.inj he
          have hc : nth z0.h i0 = some (.vars c) := (hl 0).symm
          -- the cells
          have first : ∃ L1 ob1 ds1, Take z0 L1 (ob ++ ob1) h1 ∧ (∀ r ∈ L, r ∈ L1) ∧ Srcs z0 (LI z0 L1) ob1 ds1 (ownsK ks d1) ∧ ∀ n (z' : Z), Fits z0 z' L1 n0 → (∀ j d, nth ds1 j = some d → z'.rho (n + j) = d) →
              (∀ j o, nth (ownsK ks d1) j = some o → nth z'.h (n + j) = some o) → ∀ d, z0.rho i0 = some d → SimB z' d (some (.vars (giveK ks d1 n))) := by
            cases hrho : z0.rho i0 with
            | none =>
              obtain ⟨ds1, j1, j2⟩ := ownsK_junk (z0 := z0) (im := LI z0 L) ks d1
              exact ⟨L, [], ds1, by simpa using t.more (takeK_only _ _ _ hd1), fun _ h => h, j1, fun n z' _ _ _ d hd => by cases hd⟩
            | some d =>
              have hs := hz.sim i0 d hrho
              rw [hc] at hs
              obtain ⟨blk, cs, e, s1, s2, s3⟩ := hs
              obtain ⟨L1, ob1, ds1, a1, a2, a3, a4⟩ := takeK_ok hz n0 ks c h L ob cs t s3 hk.1 hd1
              refine ⟨L1, ob1, ds1, a1, a2, a3, fun n z' f1 f2 f3 d' hd' => ?_⟩
              cases hd'
              exact ⟨blk, cs, e, s1, by rw [f1.w]; exact s2, a4 z' n f1 f2 f3⟩
          obtain ⟨L1, ob1, ds1, a1, a2, a3, a4⟩ := first
          obtain ⟨L2, ob2, ip, ds2, b1, b2, b3, b4⟩ := takeB_ok hz n0 bs l (i0 + 1) h1 L1 (ob ++ ob1) (y := r) a1 (fun j => by have := hl (j + 1); rwa [show i0 + (j + 1) = i0 + 1 + j by omega] at this) (by simp at hlen; omega) hk.2 hr
          have hlen := a3.length
          refine ⟨L2, ob1 ++ ob2, ip, ds1 ++ ds2, by simpa using b1, fun q hq => b2 q (a2 q hq), (a3.mono (fun k hm => LI.mono b2 hm)).append b3, fun n => ⟨fun j b hj => ?_, fun z' f1 f2 f3 j b d hj hd => ?_⟩⟩
          · cases j with
            | zero => simp only [giveB, nth, Option.some.injEq] at hj; exact .inr (.inl ⟨c, _, ks, rfl, hj.symm, hc⟩)
            | succ j =>
              rcases (b4 _).1 j b hj with e | ⟨c, c', ks, e1, e2, e3⟩ | ⟨t, x, e1, e2, e3, e4⟩
              · exact .inl e
              · exact .inr (.inl ⟨c, c', ks, e1, e2, by rw [show i0 + (j + 1) = i0 + 1 + j by omega]; exact e3⟩)
              · exact .inr (.inr ⟨t, x, e1, e2, by rw [show i0 + (j + 1) = i0 + 1 + j by omega]; exact e3, by rw [show i0 + (j + 1) = i0 + 1 + j by omega]; exact e4⟩)
          · have f2' : ∀ j d, nth ds2 j = some d → z'.rho (n + (ownsK ks d1).length + j) = d := fun j d hj => by
              have := f2 (ds1.length + j) d (by rw [nth_right]; exact hj)
              rwa [hlen, ← Nat.add_assoc] at this
            have f3' : ∀ j o, nth (ownsB bs r) j = some o → nth z'.h (n + (ownsK ks d1).length + j) = some o := fun j o hj => by
              have := f3 ((ownsK ks d1).length + j) o (by simp only [ownsB]; rw [nth_right]; exact hj)
              rwa [← Nat.add_assoc] at this
            cases j with
            | zero =>
              simp only [giveB, nth, Option.some.injEq] at hj
              subst hj
              exact a4 n z' ⟨f1.w, fun k hm => f1.im k (LI.mono b2 hm), f1.ptr, f1.own⟩ (fun j d hj => f2 j d (nth_left hj)) (fun j o hj => f3 j o (by simp only [ownsB]; exact nth_left hj)) d hd
            | succ j => exact (b4 _).2 z' f1 f2' f3' j b d hj (by rw [show i0 + 1 + j = i0 + (j + 1) by omega]; exact hd)
        · cases he
      · cases he

theorem atHead_ok {R : Type} {l : Lp R} {g : G} {rho : Rho} {s : St} {a : Act} {w : World} {r : R} (hs : Sim g rho s a w) (hbx : ∀ q ∈ g.bx, q.1 < l.blks.length) (hax : ∀ q ∈ g.ax, q.1 < l.blks.length) (he : atHead l s = some r) :
    ∃ x y rho', l.run x y = some r ∧ Sim g rho' (headSt l x y) a w := by
  unfold atHead at he
  cases hk : (okBK l.blks.length l.blks && okK l.blks.length l.keeps) with
  | false => rw [hk] at he; cases he
  | true =>
    rw [hk] at he
    simp only [cond_true] at he
    simp only [Bool.and_eq_true] at hk
    split at he
    · rename_i y h1 hy
      split at he
      · rename_i x h2 hx
        have hz := hs.inv.iz
        have t0 : Take (zOf g rho s.heap w) [] [] s.heap := ⟨OnlyKill.refl _, fun b hb => by simp at hb, fun r hr => by simp at hr, by simp⟩
        obtain ⟨L1, ob1, ip, ds1, a1, a2, a3, a4⟩ := takeB_ok hz l.blks.length l.blks s.heap 0 s.heap [] [] t0 (fun j => by rw [Nat.zero_add]; rfl) (by rw [Nat.zero_add]; rfl) hk.1 hy
        obtain ⟨L2, ob2, ds2, b1, b2, b3, b4⟩ := takeK_ok hz l.blks.length l.keeps s.slots h1 L1 ([] ++ (ob1 ++ ip)) _ a1 hs.slots hk.2 hx
        let n := l.blks.length
        let ds := ds1 ++ ds2
        let os := ownsB l.blks y ++ ownsK l.keeps x
        have hsrc : Srcs (zOf g rho s.heap w) (LI (zOf g rho s.heap w) L2) (ob1 ++ ob2) ds os := (a3.mono (fun k hm => LI.mono b2 hm)).append b3
        have tk : Take (zOf g rho s.heap w) L2 ((ob1 ++ ip) ++ ob2) h2 := by simpa using b1
        have hin : ∀ b ∈ ob1 ++ ob2, b ∈ (ob1 ++ ip) ++ ob2 := fun b hb => by
          simp only [List.mem_append] at hb ⊢
          rcases hb with hb | hb
          · exact .inl (.inl hb)
          · exact .inr hb
        have hipn : ∀ b ∈ ip, b ∈ (ob1 ++ ip) ++ ob2 ∧ b ∉ ob1 ++ ob2 := fun b hb => by
          refine ⟨by simp [hb], fun hm => ?_⟩
          obtain ⟨n1, _, n3⟩ := List.nodup_append.1 tk.nodup
          obtain ⟨_, _, n6⟩ := List.nodup_append.1 n1
          rcases List.mem_append.1 hm with hm | hm
          · exact n6 b hm b hb rfl
          · exact n3 b (by simp [hb]) b hm rfl
        have obnd : (ob1 ++ ob2).Nodup := by
          obtain ⟨n1, n2, n3⟩ := List.nodup_append.1 tk.nodup
          obtain ⟨n4, _, _⟩ := List.nodup_append.1 n1
          exact List.nodup_append.2 ⟨n4, n2, fun a ha b hb => n3 a (by simp [ha]) b hb⟩
        have hoblive : ∀ b ∈ ob1 ++ ob2, live (nth s.heap b) := fun b hb => isLive_live (tk.was b (.inr (hin b hb))).1
        let rho' : Rho := fun b => if b < n then (match nth l.blks b with | some (.vars _) => rho b | some (.arr _) => rho b | _ => none) else ((nth ds (b - n)).getD none)
        have hh : (headSt l x y).heap = giveB l.blks y n ++ os := by simp only [headSt, headS, os, n, List.append_assoc]
        have hlow : ∀ b, b < n → nth (headSt l x y).heap b = nth (giveB l.blks y n) b := fun b hb => by rw [hh, nth_append_lt (by rw [giveB_length]; exact hb)]
        have hhigh : ∀ j, nth (headSt l x y).heap (n + j) = nth os j := fun j => by
          have := nth_right (giveB l.blks y n) os j
          rw [giveB_length] at this
          rw [hh]; exact this
        have low : ∀ b d, b < n → rho' b = some d → live (nth (headSt l x y).heap b) → rho b = some d ∧ ((∃ c, nth s.heap b = some (.vars c)) ∨ ((∃ t x, nth s.heap b = some (.arr 0 t x)) ∧ b ∈ ip)) := by
          intro b d hb hd hl
          have hd : (if b < n then (match nth l.blks b with | some (.vars _) => rho b | some (.arr _) => rho b | _ => none) else ((nth ds (b - n)).getD none)) = some d := hd
          rw [if_pos hb] at hd
          rw [hlow b hb] at hl
          cases hg : nth (giveB l.blks y n) b with
          | none => rw [hg] at hl; exact hl.elim
          | some bk =>
            rw [hg] at hl
            rcases (a4 n).1 b bk hg with e | ⟨c, c', ks, e1, e2, e3⟩ | ⟨t, x, e1, e2, e3, e4⟩
            · subst e; exact hl.elim
            · rw [e1] at hd
              rw [Nat.zero_add] at e3
              exact ⟨hd, .inl ⟨c, e3⟩⟩
            · rw [e1] at hd
              rw [Nat.zero_add] at e3 e4
              exact ⟨hd, .inr ⟨⟨t, x, e3⟩, e4⟩⟩
        have lowlive : ∀ b, ((∃ c, nth s.heap b = some (.vars c)) ∨ ((∃ t x, nth s.heap b = some (.arr 0 t x)) ∧ b ∈ ip)) → live (nth s.heap b) := by
          rintro b (⟨c, e⟩ | ⟨⟨t, x, e⟩, _⟩) <;> (rw [e]; trivial)
        have lowob : ∀ b, ((∃ c, nth s.heap b = some (.vars c)) ∨ ((∃ t x, nth s.heap b = some (.arr 0 t x)) ∧ b ∈ ip)) → b ∉ ob1 ++ ob2 := by
          rintro b (⟨c, e⟩ | ⟨_, e⟩) hm
          · have this : isLive (nth s.heap b) = true := (tk.was b (.inr (hin b hm))).1
            rw [e] at this; cases this
          · exact (hipn b e).2 hm
        have high : ∀ b d, ¬ b < n → rho' b = some d → nth ds (b - n) = some (some d) := by
          intro b d hb hd
          have hd : (if b < n then (match nth l.blks b with | some (.vars _) => rho b | some (.arr _) => rho b | _ => none) else ((nth ds (b - n)).getD none)) = some d := hd
          rw [if_neg hb] at hd
          cases hn : nth ds (b - n) with
          | none => rw [hn] at hd; cases hd
          | some o => rw [hn] at hd; simp only [Option.getD_some] at hd; rw [hd]
        -- what is owned is from where it was owned
        have from0 : ∀ b d, rho' b = some d → live (nth (headSt l x y).heap b) → ∀ k ∈ d.blks, ∃ b0 d0, rho b0 = some d0 ∧ live (nth s.heap b0) ∧ k ∈ d0.blks ∧ b0 ∉ L2 := by
          intro b d hd hl k hk
          by_cases hb : b < n
          · obtain ⟨e1, e2⟩ := low b d hb hd hl
            refine ⟨b, d, e1, lowlive b e2, hk, fun hm => ?_⟩
            rcases e2 with ⟨c, e2⟩ | ⟨_, e2⟩
            · have this : isLive (nth s.heap b) = true := (tk.was b (.inl hm)).1
              rw [e2] at this; cases this
            · exact tk.sep b hm (hipn b e2).1
          · obtain ⟨A, cap, S, t, x', e1, e2, e3, e4, e5, e6⟩ := hsrc.at _ d (high b d hb hd)
            subst e1
            obtain ⟨b0, hb0, d0, q1, q2⟩ := e6 k hk
            exact ⟨b0, d0, q1, hoblive b0 hb0, q2, fun hm => tk.sep b0 hm (hin b0 hb0)⟩
        have him : ∀ k, LI (zOf g rho s.heap w) L2 k → Im g rho' (headSt l x y).heap w k := by
          intro k hm
          have hbase : (g.p k ∨ k ∈ g.S0 ∨ g.w0.heap.size ≤ k) ∧ k < w.heap.size := by
            rcases hm with hm | ⟨r', _, d', e1, e2, e3⟩
            · exact ⟨hm.1, hm.2.1⟩
            · have := hs.inv.range r' d' e1 e2 k e3
              exact ⟨.inr this.2, this.1⟩
          refine ⟨hbase.1, hbase.2, fun ⟨b, d, o1, o2, o3⟩ => ?_⟩
          obtain ⟨b0, d0, q1, q2, q3, q4⟩ := from0 b d o1 o2 k o3
          rcases hm with hm | ⟨r', hr', d', e1, e2, e3⟩
          · exact hm.2.2 ⟨b0, d0, q1, q2, q3⟩
          · have hne : b0 ≠ r' := fun e => q4 (e ▸ hr')
            exact hs.inv.disj b0 r' d0 d' q1 e1 q2 e2 hne k q3 e3
        have hrlow : ∀ b, b < n → (∃ ks, nth l.blks b = some (.vars ks)) ∨ (∃ t, nth l.blks b = some (.arr t)) → rho' b = rho b := by
          intro b hb h
          show (if b < n then (match nth l.blks b with | some (.vars _) => rho b | some (.arr _) => rho b | _ => none) else ((nth ds (b - n)).getD none)) = _
          rw [if_pos hb]
          rcases h with ⟨ks, h⟩ | ⟨t, h⟩ <;> rw [h]
        have hfit : Fits (zOf g rho s.heap w) (zOf g rho' (headSt l x y).heap w) L2 n := by
          refine ⟨rfl, him, fun b off c hb hv => ?_, fun b v c hb hv => ?_⟩
          · simp only [V] at hv ⊢
            refine ⟨hv.1, ?_⟩
            show match nth (headSt l x y).heap b with | some (.vars _) => _ | some .lent => _ | some _ => True | none => False
            rw [hlow b hb]
            cases hg : nth (giveB l.blks y n) b with
            | none => have := nth_none.1 hg; rw [giveB_length] at this; exact absurd hb (by omega)
            | some bk =>
              rcases (a4 n).1 b bk hg with e | ⟨c1, c', ks, e1, e2, e3⟩ | ⟨t, x, e1, e2, e3, e4⟩
              · subst e; trivial
              · subst e2
                rw [Nat.zero_add] at e3
                have hv2 := hv.2
                rw [e3] at hv2
                obtain ⟨blk, q1, q2⟩ := hv2
                exact ⟨blk, (hrlow b hb (.inl ⟨ks, e1⟩)).trans q1, q2⟩
              · subst e2; trivial
          · simp only [V] at hv ⊢
            obtain ⟨v1, v2, v3⟩ := hv
            refine ⟨v1, ?_⟩
            show (nth (headSt l x y).heap b).isSome = true ∧ ∀ v' t n, infoO (nth (headSt l x y).heap b) = some (v', t, n) → _
            rw [hlow b hb]
            cases hg : nth (giveB l.blks y n) b with
            | none => have := nth_none.1 hg; rw [giveB_length] at this; exact absurd hb (by omega)
            | some bk =>
              refine ⟨rfl, fun v' t n' hi => ?_⟩
              rcases (a4 n).1 b bk hg with e | ⟨c1, c', ks, e1, e2, e3⟩ | ⟨t1, x1, e1, e2, e3, e4⟩
              · subst e; cases hi
              · subst e2; cases hi
              · subst e2
                rw [Nat.zero_add] at e3
                have := v3 v' t n' (by rw [e3]; exact hi)
                refine ⟨this.1, fun e => ?_⟩
                obtain ⟨A, cap, S, q1, q2⟩ := this.2 e
                exact ⟨A, cap, S, (hrlow b hb (.inr ⟨t1, e1⟩)).trans q1, q2⟩
        have hds : ∀ j d, nth ds j = some d → rho' (n + j) = d := fun j d hj => by
          show (if n + j < n then _ else ((nth ds (n + j - n)).getD none)) = d
          rw [if_neg (by omega), show n + j - n = j by omega, hj]; rfl
        have hos : ∀ j o, nth os j = some o → nth (headSt l x y).heap (n + j) = some o := fun j o hj => by rw [hhigh]; exact hj
        have hlen1 := a3.length
        refine ⟨x, y, rho', he, ⟨⟨?_, ?_, ?_, ?_, hs.inv.kept⟩, ?_, hs.defers, fun q hq => ?_, fun q hq => ?_⟩⟩
        · intro b d hd
          by_cases hb : b < n
          · rw [hlow b hb]
            cases hg : nth (giveB l.blks y n) b with
            | none => trivial
            | some bk =>
              have hd' : (if b < n then (match nth l.blks b with | some (.vars _) => rho b | some (.arr _) => rho b | _ => none) else ((nth ds (b - n)).getD none)) = some d := hd
              rw [if_pos hb] at hd'
              have fin : rho b = some d → SimB (zOf g rho' (headSt l x y).heap w) d (some bk) := fun hd' => by
                exact (a4 n).2 _ ⟨hfit.w, fun k hm => hfit.im k (LI.mono b2 hm), hfit.ptr, hfit.own⟩ (fun j d hj => hds j d (nth_left hj)) (fun j o hj => hos j o (nth_left hj)) b bk d hg (by rw [Nat.zero_add]; exact hd')
              rcases (a4 n).1 b bk hg with e | ⟨c1, c', ks, e1, e2, e3⟩ | ⟨t, x, e1, e2, e3, e4⟩
              · subst e; trivial
              · rw [e1] at hd'; exact fin hd'
              · rw [e1] at hd'; exact fin hd'
          · have hds' := high b d hb hd
            obtain ⟨A, cap, S, t, x', e1, e2, e3, e4, e5, e6⟩ := hsrc.at _ d hds'
            have := hhigh (b - n)
            rw [show n + (b - n) = b by omega] at this
            rw [this, e2]
            exact ⟨A, cap, S, e1, e4.mono (fun k hm => ⟨him k hm, rfl⟩) _ _ _ _ _ (fun _ _ => rfl), e5⟩
        · intro b b' d d' q1 q2 l1 l2 hne k hk hk'
          by_cases hb : b < n
          · obtain ⟨u1, u2⟩ := low b d hb q1 l1
            by_cases hb' : b' < n
            · obtain ⟨v1, v2⟩ := low b' d' hb' q2 l2
              exact hs.inv.disj b b' d d' u1 v1 (lowlive b u2) (lowlive b' v2) hne k hk hk'
            · obtain ⟨A, cap, S, t, x', e1, e2, e3, e4, e5, e6⟩ := hsrc.at _ d' (high b' d' hb' q2)
              subst e1
              obtain ⟨b0, hb0, d0, w1, w2⟩ := e6 k hk'
              exact hs.inv.disj b b0 d d0 u1 w1 (lowlive b u2) (hoblive b0 hb0) (fun e => lowob b u2 (by rw [e]; exact hb0)) k hk w2
          · have h1' := high b d hb q1
            by_cases hb' : b' < n
            · obtain ⟨v1, v2⟩ := low b' d' hb' q2 l2
              obtain ⟨A, cap, S, t, x', e1, e2, e3, e4, e5, e6⟩ := hsrc.at _ d h1'
              subst e1
              obtain ⟨b0, hb0, d0, w1, w2⟩ := e6 k hk
              exact hs.inv.disj b' b0 d' d0 v1 w1 (lowlive b' v2) (hoblive b0 hb0) (fun e => lowob b' v2 (by rw [e]; exact hb0)) k hk' w2
            · exact hsrc.apart hz hoblive obnd _ _ d d' h1' (high b' d' hb' q2) (by omega) k hk hk'
        · intro b d q1 l1
          by_cases hb : b < n
          · obtain ⟨u1, u2⟩ := low b d hb q1 l1
            exact hs.inv.nodup b d u1 (lowlive b u2)
          · obtain ⟨A, cap, S, t, x', e1, e2, e3, e4, e5, e6⟩ := hsrc.at _ d (high b d hb q1)
            subst e1; exact e3
        · intro b d q1 l1 k hk
          obtain ⟨b0, d0, w1, w2, w3, _⟩ := from0 b d q1 l1 k hk
          exact hs.inv.range b0 d0 w1 w2 k w3
        · refine b4 _ _ hfit (fun j d hj => ?_) (fun j o hj => ?_)
          · have := hds (ds1.length + j) d (by simp only [ds]; rw [nth_right]; exact hj)
            rwa [hlen1, ← Nat.add_assoc] at this
          · have := hos ((ownsB l.blks y).length + j) o (by simp only [os]; rw [nth_right]; exact hj)
            rwa [← Nat.add_assoc] at this
        · have hb := hbx q hq
          unfold Bx
          rw [hlow q.1 hb]
          cases hg : nth (giveB l.blks y n) q.1 with
          | none => have := nth_none.1 hg; rw [giveB_length] at this; exact absurd hb (by omega)
          | some bk =>
            rcases (a4 n).1 q.1 bk hg with e | ⟨c1, c', ks, e1, e2, e3⟩ | ⟨t, x, e1, e2, e3, e4⟩
            · subst e; exact .inl rfl
            · right
              subst e2
              rw [Nat.zero_add] at e3
              have e3 : nth s.heap q.1 = some (.vars c1) := e3
              refine ⟨(hrlow q.1 hb (.inl ⟨ks, e1⟩)).trans ?_, .inl ⟨c', rfl⟩⟩
              rcases hs.bx q hq with k | ⟨k, _⟩
              · rw [e3] at k; cases k
              · exact k
            · exfalso
              rw [Nat.zero_add] at e3
              have e3 : nth s.heap q.1 = some (.arr 0 t x) := e3
              rcases hs.bx q hq with k | ⟨_, ⟨c, k⟩ | k⟩ <;> (rw [e3] at k; cases k)
        · have hb := hax q hq
          unfold Ax
          rw [hlow q.1 hb]
          cases hg : nth (giveB l.blks y n) q.1 with
          | none => have := nth_none.1 hg; rw [giveB_length] at this; exact absurd hb (by omega)
          | some bk =>
            rcases (a4 n).1 q.1 bk hg with e | ⟨c1, c', ks, e1, e2, e3⟩ | ⟨t, x, e1, e2, e3, e4⟩
            · subst e; exact .inl rfl
            · exfalso
              rw [Nat.zero_add] at e3
              have e3 : nth s.heap q.1 = some (.vars c1) := e3
              rcases hs.ax q hq with k | ⟨_, v, t', n', k, _⟩ <;> (rw [e3] at k; cases k)
            · right
              subst e2
              rw [Nat.zero_add] at e3
              have e3 : nth s.heap q.1 = some (.arr 0 t x) := e3
              rcases hs.ax q hq with k | ⟨k1, v, t', n', k2, k3⟩
              · rw [e3] at k; cases k
              · rw [e3] at k2
                refine ⟨rfl, v, t', n', k2, fun h0 => ?_⟩
                obtain ⟨m1, A, cap, S, m2, m3⟩ := k3 h0
                exact ⟨m1, A, cap, S, (hrlow q.1 hb (.inr ⟨t, e1⟩)).trans m2, m3⟩
      · cases he
    · cases he

end Go.Sx

namespace Go.Sx
open Go

section
variable {R R' : Type} (E : Env)

theorem intOp_nat (op : BinOp) (k : IntKind) (x y : Int) (K : SV → Option R) (J : R → Option R') : (intOp op k x y K).bind J = intOp op k x y fun v => (K v).bind J := by
  cases op <;> first | rfl | (simp only [intOp]; split <;> rfl)
theorem strOp_nat (op : BinOp) (x y : ByteArray) (K : SV → Option R) (J : R → Option R') : (strOp op x y K).bind J = strOp op x y fun v => (K v).bind J := by
  cases op <;> first | rfl | (simp only [strOp]; split <;> rfl)
theorem boundsS_nat (lo hi : Option SV) (n : Nat) (K : Nat → Nat → Option R) (J : R → Option R') : (boundsS lo hi n K).bind J = boundsS lo hi n fun i j => (K i j).bind J := by
  unfold boundsS
  ((try simp only []); repeat' (first | rfl | (split <;> (try simp only [*, Option.bind_none]))))
theorem sliceS_nat (h : List Blk) (t : TypeId) (x : SV) (lo hi : Option SV) (K : SV → Option R) (J : R → Option R') : (sliceS E h t x lo hi K).bind J = sliceS E h t x lo hi fun v => (K v).bind J := by
  unfold sliceS
  cases x <;> (try rfl) <;> simp only [← boundsS_nat] <;> ((try simp only [Bool.cond_eq_ite]); repeat' (first | rfl | (split <;> (try simp only [*, Option.bind_none]))))
theorem lenS_nat (h : List Blk) (t : TypeId) (x : SV) (K : SV → Option R) (J : R → Option R') : (lenS E h t x K).bind J = lenS E h t x fun v => (K v).bind J := by
  unfold lenS
  ((try simp only [Bool.cond_eq_ite]); repeat' (first | rfl | (split <;> (try simp only [*, Option.bind_none]))))
theorem indexAddrS_nat (h : List Blk) (t : TypeId) (x i : SV) (K : SV → Option R) (J : R → Option R') : (indexAddrS E h t x i K).bind J = indexAddrS E h t x i fun v => (K v).bind J := by
  unfold indexAddrS
  ((try simp only [Bool.cond_eq_ite]); repeat' (first | rfl | (split <;> (try simp only [*, Option.bind_none]))))
  exact Option.bind_assoc ..
theorem indexS_nat (t : TypeId) (x i : SV) (K : SV → Option R) (J : R → Option R') : (indexS E t x i K).bind J = indexS E t x i fun v => (K v).bind J := by
  unfold indexS byteS
  ((try simp only [Bool.cond_eq_ite]); repeat' (first | rfl | (split <;> (try simp only [*, Option.bind_none]))))
  exact Option.bind_assoc ..
theorem loadC_nat (h : List Blk) (t : Ty) (c : List SV) (K : SV → Option R) (J : R → Option R') : (loadC h t c K).bind J = loadC h t c fun v => (K v).bind J := by
  unfold loadC
  ((try simp only [Bool.cond_eq_ite]); repeat' (first | rfl | (split <;> (try simp only [*, Option.bind_none]))))
theorem loadR_nat (h : List Blk) (t a : Ty) (y : a.den) (off : Nat) (K : SV → Option R) (J : R → Option R') : (loadR h t a y off K).bind J = loadR h t a y off fun v => (K v).bind J := by
  unfold loadR
  split
  · rfl
  · exact loadC_nat ..
theorem loadS_nat (h : List Blk) (t : Ty) (p : SV) (K : SV → Option R) (J : R → Option R') : (loadS h t p K).bind J = loadS h t p fun v => (K v).bind J := by
  unfold loadS
  cases p with
  | eptr b v i off =>
    simp only [← loadR_nat]
    ((try simp only [Bool.cond_eq_ite]); repeat' (first | rfl | (split <;> (try simp only [*, Option.bind_none]))))
    · exact Option.bind_assoc ..
    · cases nth (α := Ty.den _) _ _ <;> rfl
  | ptr b off => simp only [← loadC_nat]; ((try simp only [Bool.cond_eq_ite]); repeat' (first | rfl | (split <;> (try simp only [*, Option.bind_none]))))
  | rptr a y off => exact loadR_nat ..
  | _ => rfl
theorem binOp0_nat (h : List Blk) (op : BinOp) (t : TypeId) (a b : SV) (K : SV → Option R) (J : R → Option R') : (binOp0 E h op t a b K).bind J = binOp0 E h op t a b fun v => (K v).bind J := by
  unfold binOp0
  simp only [← intOp_nat, ← strOp_nat]
  ((try simp only [Bool.cond_eq_ite]); repeat' (first | rfl | (split <;> (try simp only [*, Option.bind_none]))))
theorem unOpS_nat (op : UnOp) (a : SV) (K : SV → Option R) (J : R → Option R') : (unOpS op a K).bind J = unOpS op a fun v => (K v).bind J := by
  unfold unOpS
  ((try simp only []); repeat' (first | rfl | (split <;> (try simp only [*, Option.bind_none]))))
theorem convS_nat (h : List Blk) (s d : TypeId) (a : SV) (K : SV → Option R) (J : R → Option R') : (convS E h s d a K).bind J = convS E h s d a fun v => (K v).bind J := by
  unfold convS
  ((try simp only []); repeat' (first | rfl | (split <;> (try simp only [*, Option.bind_none]))))
theorem fieldAddrS_nat (h : List Blk) (t : TypeId) (p : SV) (f : Nat) (K : SV → Option R) (J : R → Option R') : (fieldAddrS E h t p f K).bind J = fieldAddrS E h t p f fun v => (K v).bind J := by
  unfold fieldAddrS fieldAt
  ((try simp only []); repeat' (first | rfl | (split <;> (try simp only [*, Option.bind_none]))))
theorem fieldS_nat (h : List Blk) (t : TypeId) (p : SV) (f : Nat) (K : SV → Option R) (J : R → Option R') : (fieldS E h t p f K).bind J = fieldS E h t p f fun v => (K v).bind J := by
  unfold fieldS fieldAt
  simp only [← loadC_nat]
  ((try simp only [Bool.cond_eq_ite]); repeat' (first | rfl | (split <;> (try simp only [*, Option.bind_none]))))
theorem buildS_nat (h : List Blk) (t : TypeId) (p : List (Nat × SV)) (K : SV → Option R) (J : R → Option R') : (buildS E h t p K).bind J = buildS E h t p fun v => (K v).bind J := by
  unfold buildS
  ((try simp only []); repeat' (first | rfl | (split <;> (try simp only [*, Option.bind_none]))))
theorem buildSliceS_nat (h : List Blk) (t : TypeId) (n : Nat) (p : List (Nat × SV)) (K : SV → List Blk → Option R) (J : R → Option R') : (buildSliceS E h t n p K).bind J = buildSliceS E h t n p fun v h => (K v h).bind J := by
  unfold buildSliceS
  ((try simp only [Bool.cond_eq_ite]); repeat' (first | rfl | (split <;> (try simp only [*, Option.bind_none]))))
theorem makeSliceS_nat (h : List Blk) (t : TypeId) (n c : SV) (K : SV → List Blk → Option R) (J : R → Option R') : (makeSliceS E h t n c K).bind J = makeSliceS E h t n c fun v h => (K v h).bind J := by
  unfold makeSliceS
  ((try simp only [Bool.cond_eq_ite]); repeat' (first | rfl | (split <;> (try simp only [*, Option.bind_none]))))
theorem appendS_nat (h : List Blk) (t t' : TypeId) (n c : SV) (K : SV → List Blk → Option R) (J : R → Option R') : (appendS E h t t' n c K).bind J = appendS E h t t' n c fun v h => (K v h).bind J := by
  unfold appendS
  ((try simp only [Bool.cond_eq_ite]); repeat' (first | rfl | (split <;> (try simp only [*, Option.bind_none]))))
theorem storeS_nat (h : List Blk) (t : Ty) (p x : SV) (K : List Blk → Option R) (J : R → Option R') : (storeS h t p x K).bind J = storeS h t p x fun h => (K h).bind J := by
  unfold storeS
  ((try simp only [Bool.cond_eq_ite]); repeat' (first | rfl | (split <;> (try simp only [*, Option.bind_none]))))
  · rw [Option.bind_assoc]
    congr 1
    funext y
    ((try simp only [Bool.cond_eq_ite]); repeat' (first | rfl | (split <;> (try simp only [*, Option.bind_none]))))
  · cases nth (α := Ty.den _) _ _ with
    | none => rfl
    | some y => simp only [Option.bind_some]; ((try simp only [Bool.cond_eq_ite]); repeat' (first | rfl | (split <;> (try simp only [*, Option.bind_none]))))
end
end Go.Sx

namespace Go.Sx
open Go

section
variable {R R' : Type} (E : Env)

def funOp (gt : Operand → SV) : Op → Bool
  | .binOp _ t _ y _ => !(isNilC (gt y) && okList E t)
  | .call c => (match c.callee with | .value _ => false | _ => true)
  | _ => true

theorem execG_nat {o : Oper} {gt : Operand → SV} (hf : funOp E gt o.op = true) (h : List Blk) (K : SV → List Blk → Option R) (J : R → Option R') : (execG E o gt h K).bind J = execG E o gt h fun v h => (K v h).bind J := by
  obtain ⟨dst, op, type, pos, after, guard⟩ := o
  cases op with
  | binOp op t x y t' =>
    simp only [funOp, Bool.not_eq_true'] at hf
    simp only [execG, binOpS, hf, cond_false]
    exact binOp0_nat ..
  | call c =>
    simp only [funOp] at hf
    simp only [execG]
    split
    · rename_i hc; rw [hc] at hf; cases hf
    · ((try simp only [Bool.cond_eq_ite]); repeat' (first | rfl | (split <;> (try simp only [*, Option.bind_none])))); exact lenS_nat ..
    · ((try simp only [Bool.cond_eq_ite]); repeat' (first | rfl | (split <;> (try simp only [*, Option.bind_none])))); exact appendS_nat ..
    · ((try simp only [Bool.cond_eq_ite]); repeat' (first | rfl | (split <;> (try simp only [*, Option.bind_none]))))
    · ((try simp only [Bool.cond_eq_ite]); repeat' (first | rfl | (split <;> (try simp only [*, Option.bind_none]))))
    · rfl
  | build t ps => simp only [execG]; exact buildS_nat ..
  | buildSlice t n ps => simp only [execG]; exact buildSliceS_nat ..
  | load t a =>
    simp only [execG]
    cases E.ty t with
    | none => rfl
    | some ty => exact loadS_nat ..
  | store t a x =>
    simp only [execG]
    cases E.ty t with
    | none => rfl
    | some ty => exact storeS_nat ..
  | convert s d x => simp only [execG]; exact convS_nat ..
  | unOp op t x => simp only [execG]; exact unOpS_nat ..
  | makeSlice t n c => simp only [execG]; exact makeSliceS_nat ..
  | slice t x lo hi mx =>
    cases mx with
    | none => simp only [execG]; exact sliceS_nat ..
    | some _ => rfl
  | fieldAddr t x f => simp only [execG]; exact fieldAddrS_nat ..
  | field t x f => simp only [execG]; exact fieldS_nat ..
  | indexAddr t x i => simp only [execG]; exact indexAddrS_nat ..
  | index t x i => simp only [execG]; exact indexS_nat ..
  | makeFunc fn fs cs => cases fn <;> simp only [execG] <;> ((try simp only [Bool.cond_eq_ite]); repeat' (first | rfl | (split <;> (try simp only [*, Option.bind_none]))))
  | _ => simp only [execG]; ((try simp only [Bool.cond_eq_ite]); repeat' (first | rfl | (split <;> (try simp only [*, Option.bind_none]))))

theorem nilC_mono {α : Type} {xs : List α} {K K' : Bool → Option R} {r : R} (hk : ∀ b, K b = some r → K' b = some r) (he : nilC xs K = some r) : nilC xs K' = some r := by
  cases xs with
  | nil =>
    obtain ⟨h1, h2⟩ := both_some he
    simp only [nilC, hk _ h1, hk _ h2]
    exact both_self _
  | cons _ _ => exact hk _ he
theorem nilC_some {α : Type} {xs : List α} {K : Bool → Option R} {r : R} (he : nilC xs K = some r) : ∃ b, K b = some r := by
  cases xs with
  | nil => exact ⟨true, (both_some he).1⟩
  | cons _ _ => exact ⟨false, he⟩
theorem nilS_mono {h : List Blk} {x : SV} {K K' : Bool → Option R} {r : R} (hk : ∀ b, K b = some r → K' b = some r) (he : nilS h x K = some r) : nilS h x K' = some r := by
  cases x with
  | nil => exact hk _ he
  | val t x => cases t <;> first | exact nilC_mono hk he | cases he
  | own b v =>
    simp only [nilS] at he ⊢
    split at he
    · split at he
      · rename_i h1 h2
        rw [if_pos h2]
        exact nilC_mono hk he
      · cases he
    · cases he
  | _ => cases he
theorem nilS_some {h : List Blk} {x : SV} {K : Bool → Option R} {r : R} (he : nilS h x K = some r) : ∃ b, K b = some r := by
  cases x with
  | nil => exact ⟨_, he⟩
  | val t x => cases t <;> first | exact nilC_some he | cases he
  | own b v =>
    simp only [nilS] at he
    split at he
    · split at he
      · exact nilC_some he
      · cases he
    · cases he
  | _ => cases he
theorem nilOp_mono {h : List Blk} {op : BinOp} {x : SV} {K K' : SV → Option R} {r : R} (hk : ∀ b, K b = some r → K' b = some r) (he : nilOp h op x K = some r) : nilOp h op x K' = some r := by
  unfold nilOp at he ⊢
  cases op <;> first | cases he | exact nilS_mono (fun b hb => hk _ hb) he
theorem nilOp_some {h : List Blk} {op : BinOp} {x : SV} {K : SV → Option R} {r : R} (he : nilOp h op x K = some r) : ∃ v, K v = some r := by
  unfold nilOp at he
  cases op <;> first | cases he | (obtain ⟨b, hb⟩ := nilS_some he; exact ⟨_, hb⟩)

/-- what is told of the table's contracts -/
structure TblM (E : Env) : Prop where
  one : ∀ f c, E.tbl f = some c → ∀ (R : Type) (args : List SV) (K : SV → List (List SV) → Option R) (r : R), c.run R args K = some r → ∃ sv outs, K sv outs = some r
  mono : ∀ f c, E.tbl f = some c → ∀ (R : Type) (args : List SV) (K K' : SV → List (List SV) → Option R) (r : R), (∀ sv outs, K sv outs = some r → K' sv outs = some r) → c.run R args K = some r → c.run R args K' = some r

variable {E}
theorem finishCall_mono {p : Prep} {fr : Bool} {K K' : SV → List Blk → Option R} {r : R} (hk : ∀ v h, K v h = some r → K' v h = some r) {sv : SV} {outs : List (List SV)} (he : finishCall p fr K sv outs = some r) : finishCall p fr K' sv outs = some r := by
  unfold finishCall at he ⊢
  cases hc : (clean sv && outs.all cleanL && !(fr && (hasRo sv || outs.any hasRoL))) with
  | false => rw [hc] at he; cases he
  | true =>
    rw [hc] at he
    simp only [cond_true] at he ⊢
    split at he
    · exact hk _ _ he
    · cases he
theorem finishCall_some {p : Prep} {fr : Bool} {K : SV → List Blk → Option R} {r : R} {sv : SV} {outs : List (List SV)} (he : finishCall p fr K sv outs = some r) : ∃ v h, K v h = some r := by
  unfold finishCall at he
  cases hc : (clean sv && outs.all cleanL && !(fr && (hasRo sv || outs.any hasRoL))) with
  | false => rw [hc] at he; cases he
  | true =>
    rw [hc] at he
    simp only [cond_true] at he
    split at he
    · exact ⟨_, _, he⟩
    · cases he
theorem callS_mono (hE : TblM E) {f : FuncId} {args : List SV} {h : List Blk} {K K' : SV → List Blk → Option R} {r : R} (hk : ∀ v h, K v h = some r → K' v h = some r) (he : callS E f args h K = some r) : callS E f args h K' = some r := by
  unfold callS at he ⊢
  cases hc : E.tbl f with
  | none => rw [hc] at he; cases he
  | some c =>
    rw [hc] at he
    simp only at he ⊢
    cases hp : prepL c.modes args h with
    | none => rw [hp] at he; cases he
    | some p =>
      rw [hp] at he
      simp only at he ⊢
      cases hl : (p.lent.all (fun b => isLive (nth p.heap b))) with
      | false => rw [hl] at he; cases he
      | true =>
        rw [hl] at he
        exact hE.mono f c hc R _ _ _ _ (fun _ _ => finishCall_mono hk) he
theorem callS_some (hE : TblM E) {f : FuncId} {args : List SV} {h : List Blk} {K : SV → List Blk → Option R} {r : R} (he : callS E f args h K = some r) : ∃ v h, K v h = some r := by
  unfold callS at he
  cases hc : E.tbl f with
  | none => rw [hc] at he; cases he
  | some c =>
    rw [hc] at he
    simp only at he
    cases hp : prepL c.modes args h with
    | none => rw [hp] at he; cases he
    | some p =>
      rw [hp] at he
      simp only at he
      cases hl : (p.lent.all (fun b => isLive (nth p.heap b))) with
      | false => rw [hl] at he; cases he
      | true =>
        rw [hl] at he
        obtain ⟨sv, outs, h1⟩ := hE.one f c hc R _ _ _ he
        exact finishCall_some h1

theorem execG_mono (hE : TblM E) {o : Oper} {gt : Operand → SV} {h : List Blk} {K K' : SV → List Blk → Option R} {r : R} (hk : ∀ v h, K v h = some r → K' v h = some r) (he : execG E o gt h K = some r) : execG E o gt h K' = some r := by
  cases hf : funOp E gt o.op with
  | true =>
    have e1 := execG_nat E hf h (fun v h => some (v, h)) (fun q => K q.1 q.2)
    have e2 := execG_nat E hf h (fun v h => some (v, h)) (fun q => K' q.1 q.2)
    simp only [Option.bind_some] at e1 e2
    rw [← e1] at he
    rw [← e2]
    obtain ⟨q, h1, h2⟩ := Option.bind_eq_some_iff.1 he
    exact Option.bind_eq_some_iff.2 ⟨q, h1, hk _ _ h2⟩
  | false =>
    obtain ⟨dst, op, type, pos, after, guard⟩ := o
    cases op with
    | binOp op t x y t' =>
      simp only [funOp, Bool.not_eq_false'] at hf
      simp only [execG, binOpS, hf, cond_true] at he ⊢
      exact nilOp_mono (fun v => hk v h) he
    | call c =>
      simp only [funOp] at hf
      simp only [execG] at he ⊢
      split at hf
      · rename_i hc
        rw [hc] at he ⊢
        dsimp only at he ⊢
        split at he
        · exact callS_mono hE hk he
        · cases he
      · cases hf
    | _ => cases hf
theorem execG_some (hE : TblM E) {o : Oper} {gt : Operand → SV} {h : List Blk} {K : SV → List Blk → Option R} {r : R} (he : execG E o gt h K = some r) : ∃ v h, K v h = some r := by
  cases hf : funOp E gt o.op with
  | true =>
    have e1 := execG_nat E hf h (fun v h => some (v, h)) (fun q => K q.1 q.2)
    simp only [Option.bind_some] at e1
    rw [← e1] at he
    obtain ⟨q, h1, h2⟩ := Option.bind_eq_some_iff.1 he
    exact ⟨_, _, h2⟩
  | false =>
    obtain ⟨dst, op, type, pos, after, guard⟩ := o
    cases op with
    | binOp op t x y t' =>
      simp only [funOp, Bool.not_eq_false'] at hf
      simp only [execG, binOpS, hf, cond_true] at he
      obtain ⟨v, hv⟩ := nilOp_some he
      exact ⟨v, h, hv⟩
    | call c =>
      simp only [funOp] at hf
      simp only [execG] at he
      split at hf
      · rename_i hc
        rw [hc] at he
        dsimp only at he
        split at he
        · exact callS_some hE he
        · cases he
      · cases hf
    | _ => cases hf

theorem map_get_congr {gt gt' : Operand → SV} {l : List (Nat × Operand)} (h : ∀ x ∈ l.map (·.2), gt x = gt' x) : (l.map fun p => (p.1, gt p.2)) = l.map fun p => (p.1, gt' p.2) :=
  List.map_congr_left fun p hp => by rw [h p.2 (List.mem_map.2 ⟨p, hp, rfl⟩)]

/-- an operation sees its operands alone -/
theorem execG_congr {o : Oper} {gt gt' : Operand → SV} (hg : ∀ x ∈ o.op.operands, gt x = gt' x) (h : List Blk) (K : SV → List Blk → Option R) : execG E o gt h K = execG E o gt' h K := by
  obtain ⟨dst, op, type, pos, after, guard⟩ := o
  cases op <;> simp only [Op.operands] at hg <;> simp only [execG]
  case build t ps => rw [map_get_congr fun x hx => hg x (by simpa using hx)]
  case buildSlice t n ps => rw [map_get_congr fun x hx => hg x (by simpa using hx)]
  case makeFunc fn fs cs =>
    cases fn with
    | func f => 
      dsimp only
      rw [List.map_congr_left (l := cs.toList) fun x hx => hg x (by simp [Array.mem_toList_iff.1 hx])]
    | _ => rfl
  case slice t x lo hi mx =>
    cases mx with
    | some _ => rfl
    | none => cases lo <;> cases hi <;> simp_all
  case call c =>
    have ha : ∀ x ∈ c.args.toList, gt x = gt' x := fun x hx => hg x (by simp [Call.operands, Array.mem_toList_iff.1 hx])
    split
    · rename_i f hc
      rw [hg f (by simp [Call.operands, hc]), List.map_congr_left ha]
    · split
      · rename_i hx _; rw [ha _ (by rw [hx]; simp)]
      · rfl
    · split
      · rename_i hx _; rw [ha _ (by rw [hx]; simp), ha _ (by rw [hx]; simp)]
      · rfl
    · split
      · rename_i hx; rw [ha _ (by rw [hx]; simp), ha _ (by rw [hx]; simp)]
      · rfl
    · split
      · rename_i hx; rw [ha _ (by rw [hx]; simp), ha _ (by rw [hx]; simp)]
      · rfl
    · rfl
  all_goals (first | rfl | (simp_all; done))
end
end Go.Sx

namespace Go.Sx
open Go

section
variable {R : Type} {E : Env}

/-- a reading of operands -/
structure Gt (gt : Operand → SV) : Prop where
  const : ∀ c, gt (.const c) = ofC c
  func : ∀ f, gt (.func f) = .fn f []

theorem light_fun {o : Oper} {gt : Operand → SV} (hg : Gt gt) (hl : lightOp E o.op = true) : funOp E gt o.op = true := by
  obtain ⟨dst, op, type, pos, after, guard⟩ := o
  cases op with
  | binOp op t x y t' =>
    simp only [lightOp, Bool.or_eq_true, Bool.not_eq_true'] at hl
    simp only [funOp, Bool.not_eq_true']
    rcases hl with hl | hl
    · rw [hl, Bool.and_false]
    · have : isNilC (gt y) = false := by
        cases y with
        | const c => rw [hg.const]; cases c <;> first | rfl | cases hl
        | _ => cases hl
      rw [this, Bool.false_and]
  | call c =>
    simp only [lightOp] at hl
    simp only [funOp]
    split at hl
    · rename_i hc; rw [hc]
    · cases hl
  | _ => rfl

theorem light_val {o : Oper} {gt : Operand → SV} (hg : Gt gt) (hl : lightOp E o.op = true) (h : List Blk) (K : SV → List Blk → Option R) : execG E o gt h K = (execG E o gt h fun v _ => some v).bind fun v => K v h := by
  rw [execG_nat E (light_fun hg hl)]
  simp only [Option.bind_some]
  obtain ⟨dst, op, type, pos, after, guard⟩ := o
  cases op with
  | slice t x lo hi mx => cases mx <;> first | rfl | cases hl
  | call c =>
    simp only [lightOp] at hl
    split at hl
    · rename_i hc
      simp only [execG, hc]
    · cases hl
  | _ => first | rfl | cases hl

theorem cellD_false (h h' : List Blk) (t : Ty) (c : SV) : cellD false h t c = cellD false h' t c := by
  cases c <;> cases t <;> rfl
theorem packC_false (h h' : List Blk) (t : Ty) (l : List SV) : packC false h t l = packC false h' t l := by
  cases l with
  | nil => rfl
  | cons c r => simp only [packC]; rw [cellD_false h h']
theorem pack_false (h h' : List Blk) : ∀ (t : Ty) (l : List SV), pack false h t l = pack false h' t l
  | .unit, l => rfl
  | .pair a b, l => by
    simp only [pack]
    rw [pack_false h h' a l]
    cases pack false h' a l with
    | none => rfl
    | some q => dsimp only; rw [pack_false h h' b q.2]
  | .int k, l => packC_false ..
  | .bool, l => packC_false ..
  | .str, l => packC_false ..
  | .sl u a, l => packC_false ..
theorem packAll_false (h h' : List Blk) (t : Ty) (l : List SV) : packAll false h t l = packAll false h' t l := by
  unfold packAll; rw [pack_false h h']
theorem regroup_any (h h' : List Blk) (t : Ty) (l : List SV) : regroup h t l = regroup h' t l := by
  unfold regroup; rw [packAll_false h h']
theorem toTy_false (h h' : List Blk) (t : Ty) (c : SV) : toTy false h t c = toTy false h' t c := by
  cases c with
  | agg l => simp only [toTy]; rw [packAll_false h h']
  | _ => simp only [toTy]; exact cellD_false ..
theorem loadC_any (h h' : List Blk) (t : Ty) (c : List SV) (K : SV → Option R) : loadC h t c K = loadC h' t c K := by
  unfold loadC; rw [regroup_any h h']
theorem loadR_any (h h' : List Blk) (t a : Ty) (y : a.den) (off : Nat) (K : SV → Option R) : loadR h t a y off K = loadR h' t a y off K := by
  unfold loadR; simp only [loadC_any h h']

theorem cellD_more {h t : List Blk} {ty : Ty} {c : SV} {x : ty.den} (he : cellD true h ty c = some x) : cellD true (h ++ t) ty c = some x := by
  cases c with
  | own b v =>
    cases ty with
    | sl u a =>
      simp only [cellD, cond_true] at he ⊢
      split at he
      · rename_i hb
        rw [nth_left hb]
        exact he
      · cases he
    | _ => cases he
  | sub b v off n =>
    cases ty with
    | sl u a =>
      simp only [cellD, cond_true] at he ⊢
      split at he
      · rename_i hb
        rw [nth_left hb]
        exact he
      · cases he
    | _ => cases he
  | val s x => exact he
  | nil => exact he
  | _ => cases he
theorem packC_more {h t : List Blk} {ty : Ty} {l : List SV} {q : ty.den × List SV} (he : packC true h ty l = some q) : packC true (h ++ t) ty l = some q := by
  cases l with
  | nil => cases he
  | cons c r =>
    simp only [packC] at he ⊢
    split at he
    · rename_i x hx
      rw [cellD_more hx]; exact he
    · cases he
theorem pack_more {h t : List Blk} : ∀ {ty : Ty} {l : List SV} {q : ty.den × List SV}, pack true h ty l = some q → pack true (h ++ t) ty l = some q
  | .unit, l, q, he => he
  | .pair a b, l, q, he => by
    simp only [pack] at he ⊢
    split at he
    · rename_i x l' hx
      rw [pack_more hx]
      dsimp only
      split at he
      · rename_i y l'' hy
        rw [pack_more hy]
        exact he
      · cases he
    · cases he
  | .int k, l, q, he => packC_more (ty := .int k) he
  | .bool, l, q, he => packC_more (ty := .bool) he
  | .str, l, q, he => packC_more (ty := .str) he
  | .sl u a, l, q, he => packC_more (ty := .sl u a) he
theorem toTy_more {h t : List Blk} {ty : Ty} {c : SV} {x : ty.den} (he : toTy true h ty c = some x) : toTy true (h ++ t) ty c = some x := by
  cases c with
  | agg l =>
    simp only [toTy] at he ⊢
    cases hi : ty.isAgg with
    | false => rw [hi] at he; cases he
    | true =>
      rw [hi] at he
      simp only [cond_true, packAll] at he ⊢
      split at he
      · rename_i y hy
        rw [pack_more hy]
        exact he
      · cases he
  | _ => simp only [toTy] at he ⊢; exact cellD_more he

theorem nth_more {h t : List Blk} {b : Nat} {x : Blk} (hb : nth h b = some x) : nth (h ++ t) b = some x := nth_left hb

theorem light_more {o : Oper} {gt : Operand → SV} (hg : Gt gt) (hl : lightOp E o.op = true) {h t : List Blk} {v : SV} (he : execG E o gt h (fun v _ => some v) = some v) : execG E o gt (h ++ t) (fun v _ => some v) = some v := by
  have hf := light_fun hg hl
  obtain ⟨dst, op, type, pos, after, guard⟩ := o
  cases op with
  | load ty a =>
    simp only [execG] at he ⊢
    cases ht : E.ty ty with
    | none => rw [ht] at he; cases he
    | some T =>
      rw [ht] at he
      dsimp only at he ⊢
      cases ha : gt a with
      | ptr b off =>
        rw [ha] at he
        simp only [loadS] at he ⊢
        split at he
        · rename_i c hb
          rw [nth_more hb]
          dsimp only
          rw [loadC_any (h ++ t) h]; exact he
        · cases he
      | rptr A y off =>
        rw [ha] at he
        simp only [loadS] at he ⊢
        rw [loadR_any (h ++ t) h]; exact he
      | eptr b v i off =>
        rw [ha] at he
        simp only [loadS] at he ⊢
        split at he
        · rename_i v' A xs hb
          rw [nth_more hb]
          dsimp only
          simp only [loadR_any (h ++ t) h]; exact he
        · cases he
      | _ => rw [ha] at he; cases he
  | fieldAddr ty x f =>
    simp only [execG, fieldAddrS] at he ⊢
    split at he
    · rename_i fs _
      unfold fieldAt at he ⊢
      split at he
      · rename_i q o ty' hq
        dsimp only at he ⊢
        cases ha : gt x with
        | ptr b off =>
          rw [ha] at he
          simp only at he ⊢
          split at he
          · rename_i c hb
            rw [nth_more hb]; exact he
          · cases he
        | rptr A y off => rw [ha] at he; exact he
        | eptr b v i off =>
          rw [ha] at he
          simp only at he ⊢
          split at he
          · rename_i v' A xs hb
            rw [nth_more hb]; exact he
          · cases he
        | _ => rw [ha] at he; cases he
      · cases he
    · cases he
  | indexAddr ty x i =>
    simp only [execG, indexAddrS] at he ⊢
    split at he
    · cases he
    · skip
      cases ha : gt x with
      | val s y => rw [ha] at he; cases s <;> first | exact he | cases he
      | own b v =>
        rw [ha] at he
        simp only at he ⊢
        split at he
        · rename_i v' A xs hb
          rw [nth_more hb]; exact he
        · cases he
      | sub b v off n =>
        rw [ha] at he
        simp only at he ⊢
        split at he
        · rename_i v' A xs hb
          rw [nth_more hb]; exact he
        · cases he
      | _ => rw [ha] at he; cases he
  | slice ty x lo hi mx =>
    cases mx with
    | some _ => cases hl
    | none =>
      simp only [execG, sliceS] at he ⊢
      cases ha : gt x with
      | val s y => rw [ha] at he; cases s <;> first | exact he | cases he
      | nil => rw [ha] at he; exact he
      | own b v =>
        rw [ha] at he
        simp only at he ⊢
        split at he
        · rename_i v' A xs hb
          rw [nth_more hb]; exact he
        · cases he
      | sub b v off n =>
        rw [ha] at he
        simp only at he ⊢
        split at he
        · rename_i v' A xs hb
          rw [nth_more hb]; exact he
        · cases he
      | _ => rw [ha] at he; cases he
  | call c =>
    simp only [lightOp] at hl
    split at hl
    · rename_i hc
      simp only [execG, hc] at he ⊢
      split at he
      · rename_i x ty hx hy
        simp only [lenS] at he ⊢
        cases ha : gt x with
        | val s y => rw [ha] at he; cases s <;> first | exact he | cases he
        | nil => rw [ha] at he; exact he
        | own b v =>
          rw [ha] at he
          simp only at he ⊢
          split at he
          · rename_i v' A xs hb
            rw [nth_more hb]; exact he
          · cases he
        | sub b v off n =>
          rw [ha] at he
          simp only at he ⊢
          split at he
          · rename_i v' A xs hb
            rw [nth_more hb]; exact he
          · cases he
        | _ => rw [ha] at he; cases he
      · cases he
    · cases hl
  | field ty x f =>
    simp only [execG, fieldS, loadC_any (h ++ t) h] at he ⊢
    exact he
  | build ty ps =>
    simp only [execG, buildS, regroup_any (h ++ t) h] at he ⊢
    exact he
  | binOp op ty x y ty' =>
    simp only [funOp, Bool.not_eq_true'] at hf
    simp only [execG, binOpS, hf, cond_false, binOp0, toTy_false (h ++ t) h] at he ⊢
    exact he
  | convert s d x =>
    simp only [execG, convS] at he ⊢
    split at he
    · exact he
    · skip
      split at he
      · exact he
      · split at he
        · rename_i hx
          rw [toTy_more hx]; exact he
        · cases he
      · cases he
    · cases he
  | _ => first | exact he | cases hl

theorem pure_light {o : Oper} (hp : pureSlot o.op = true) : lightOp E o.op = true := by
  obtain ⟨dst, op, type, pos, after, guard⟩ := o
  cases op <;> first | rfl | cases hp
theorem pure_any {o : Oper} {gt : Operand → SV} (hp : pureSlot o.op = true) (h h' : List Blk) : execG E o gt h (fun v _ => some v) = execG E o gt h' (fun v _ => some v) := by
  obtain ⟨dst, op, type, pos, after, guard⟩ := o
  cases op <;> first | rfl | cases hp

mutual
theorem thaw_grow : ∀ (h : List Blk) (v : SV), ∃ t, (thaw h v).2 = h ++ t
  | h, .fr t x => ⟨_, rfl⟩
  | h, .fv t x => by
    obtain ⟨e, he⟩ := openC_grow t x h
    exact ⟨e, he⟩
  | h, .agg l => thawL_grow h l
  | h, .tup l => thawL_grow h l
  | h, .fn f l => thawL_grow h l
  | h, .val _ _ => ⟨[], by simp [thaw]⟩
  | h, .own _ _ => ⟨[], by simp [thaw]⟩
  | h, .sub _ _ _ _ => ⟨[], by simp [thaw]⟩
  | h, .nil => ⟨[], by simp [thaw]⟩
  | h, .ptr _ _ => ⟨[], by simp [thaw]⟩
  | h, .eptr _ _ _ _ => ⟨[], by simp [thaw]⟩
  | h, .rptr _ _ _ => ⟨[], by simp [thaw]⟩
  | h, .io _ _ => ⟨[], by simp [thaw]⟩
  | h, .mr _ => ⟨[], by simp [thaw]⟩
  | h, .dead => ⟨[], by simp [thaw]⟩
theorem thawL_grow : ∀ (h : List Blk) (l : List SV), ∃ t, (thawL h l).2 = h ++ t
  | h, [] => ⟨[], by simp [thawL]⟩
  | h, x :: l => by
    obtain ⟨t1, e1⟩ := thaw_grow h x
    obtain ⟨t2, e2⟩ := thawL_grow (thaw h x).2 l
    refine ⟨t1 ++ t2, ?_⟩
    show (thawL (thaw h x).2 l).2 = _
    rw [e2, e1, List.append_assoc]
theorem openC_grow : ∀ (t : Ty) (x : t.den) (h : List Blk), ∃ e, (openC t x h).2 = h ++ e
  | .unit, _, h => ⟨[], by simp [openC]⟩
  | .pair a b, x, h => by
    obtain ⟨t1, e1⟩ := openC_grow a x.1 h
    obtain ⟨t2, e2⟩ := openC_grow b x.2 (openC a x.1 h).2
    refine ⟨t1 ++ t2, ?_⟩
    show (openC b x.2 (openC a x.1 h).2).2 = _
    rw [e2, e1, List.append_assoc]
  | .int _, _, h => ⟨[], by simp [openC]⟩
  | .bool, _, h => ⟨[], by simp [openC]⟩
  | .str, _, h => ⟨[], by simp [openC]⟩
  | .sl true a, x, h => ⟨_, rfl⟩
  | .sl false a, x, h => ⟨[], by simp [openC]⟩
end

theorem prepL_ro : ∀ (ms : List Mode) (vs : List SV) {h : List Blk} {p : Prep}, ms.all isRoM = true → prepL ms vs h = some p → p.heap = h ∧ p.boxes = []
  | [], vs, h, p, _, hp => by
    cases vs with
    | nil => simp only [prepL, Option.some.injEq] at hp; subst hp; exact ⟨rfl, rfl⟩
    | cons _ _ => simp [prepL] at hp
  | m :: ms, [], h, p, _, hp => by simp [prepL] at hp
  | m :: ms, v :: vs, h, p, ha, hp => by
    simp only [List.all_cons, Bool.and_eq_true] at ha
    simp only [prepL] at hp
    split at hp
    · cases hp
    · rename_i p1 hp1
      split at hp
      · cases hp
      · rename_i q hq
        simp only [Option.some.injEq] at hp
        subst hp
        have h1 : p1.heap = h ∧ p1.boxes = [] := by
          cases m with
          | ro t =>
            simp only [prep] at hp1
            split at hp1
            · simp only [Option.some.injEq] at hp1; subst hp1; exact ⟨rfl, rfl⟩
            · cases hp1
          | _ => simp [isRoM] at ha
        obtain ⟨h2, h3⟩ := prepL_ro ms vs ha.2 hq
        exact ⟨h2.trans h1.1, by simp [h1.2, h3]⟩

theorem grow_post (hE : TblM E) {o : Oper} {gt : Operand → SV} (hg : Gt gt) (hl : growOp E o.op = true) {h : List Blk} {K K' : SV → List Blk → Option R} {r : R} (hk : ∀ v t, K v (h ++ t) = some r → K' v (h ++ t) = some r)
    (he : execG E o gt h K = some r) : execG E o gt h K' = some r := by
  obtain ⟨dst, op, type, pos, after, guard⟩ := o
  cases op with
  | alloc t =>
    simp only [execG] at he ⊢
    split at he
    · exact hk _ _ he
    · cases he
  | box t x =>
    simp only [execG] at he ⊢
    split at he
    · rename_i ty c _ _
      cases hb : Nat.beq c.length ty.size with
      | false => rw [hb] at he; cases he
      | true =>
        rw [hb] at he
        exact hk _ _ he
    · cases he
  | call c =>
    simp only [growOp] at hl
    split at hl
    · rename_i f hc
      simp only [execG, hc, hg.func] at he ⊢
      unfold callS at he ⊢
      cases ht : E.tbl f with
      | none => rw [ht] at hl; cases hl
      | some con =>
        rw [ht] at hl he
        simp only [Bool.and_eq_true] at hl
        simp only at he ⊢
        cases hp : prepL con.modes (c.args.toList.map gt ++ []) h with
        | none => rw [hp] at he; cases he
        | some p =>
          rw [hp] at he
          obtain ⟨e1, e2⟩ := prepL_ro _ _ hl.2 hp
          simp only at he ⊢
          cases hlv : (p.lent.all (fun b => isLive (nth p.heap b))) with
          | false => rw [hlv] at he; cases he
          | true =>
            rw [hlv] at he
            simp only [cond_true] at he ⊢
            refine hE.mono f con ht R _ _ _ _ (fun sv outs hx => ?_) he
            unfold finishCall at hx ⊢
            rw [hl.1] at hx ⊢
            cases hc : (clean sv && outs.all cleanL && !(true && (hasRo sv || outs.any hasRoL))) with
            | false => rw [hc] at hx; cases hx
            | true =>
              have hro : (hasRo sv || outs.any hasRoL) = false := by
                simp only [Bool.and_eq_true, Bool.true_and, Bool.not_eq_true'] at hc
                exact hc.2
              rw [hc] at hx
              rw [hro, e1, e2] at hx ⊢
              simp only [cond_true, cond_false] at hx ⊢
              cases outs with
              | cons _ _ => simp [refill] at hx
              | nil =>
                simp only [refill] at hx ⊢
                obtain ⟨t, ht⟩ := thaw_grow h sv
                rw [ht] at hx ⊢
                exact hk _ _ hx
    · cases hl
  | _ => cases hl
end
end Go.Sx

namespace Go.Sx
open Go

noncomputable section
variable {R : Type} {E : Env}

def getL (sl : List SV) : Operand → SV := (⟨sl, []⟩ : St).get
theorem get_getL (s : St) : s.get = getL s.slots := by funext x; cases x <;> rfl
theorem gt_getL (sl : List SV) : Gt (getL sl) := ⟨fun _ => rfl, fun _ => rfl⟩
def putL (sl : List SV) (d : Option Tmp) (v : SV) : List SV := match d with
  | some t => upd sl t v
  | none => sl
theorem put_putL (sl : List SV) (h : List Blk) (d : Option Tmp) (v : SV) : St.put ⟨sl, h⟩ d v = ⟨putL sl d v, h⟩ := by cases d <;> rfl

theorem upd_comm {α : Type} : ∀ (l : List α) {n m : Nat} (x y : α), n ≠ m → upd (upd l n x) m y = upd (upd l m y) n x
  | [], _, _, _, _, _ => rfl
  | z :: l, 0, 0, _, _, h => absurd rfl h
  | z :: l, 0, m + 1, _, _, _ => rfl
  | z :: l, n + 1, 0, _, _, _ => rfl
  | z :: l, n + 1, m + 1, x, y, h => by simp only [upd]; rw [upd_comm l x y (by omega)]
theorem putL_comm (sl : List SV) {a b : Option Tmp} (x y : SV) (h : ∀ d, a = some d → b ≠ some d) : putL (putL sl a x) b y = putL (putL sl b y) a x := by
  cases a with
  | none => rfl
  | some d =>
    cases b with
    | none => rfl
    | some e => exact upd_comm sl x y (fun q => h d rfl (by rw [q]))
theorem nth_putL {sl : List SV} {d : Option Tmp} {v : SV} {t : Nat} (h : d ≠ some t) : nth (putL sl d v) t = nth sl t := by
  cases d with
  | none => rfl
  | some e => exact nth_upd_ne (fun q => h (by rw [q]))

/-- is it to be done? -/
def gate (ops : Array Oper) (o : Oper) (sl : List SV) : Option Bool :=
  match o.guard with
  | none => some true
  | some (j, want) => match dstOf ops.toList j with
    | none => none
    | some d => match nth sl d with
      | some (.val .bool b) => some ((b : Bool) == want)
      | some (.tup []) => some false
      | _ => none

def stepG (E : Env) (ops : Array Oper) (o : Oper) (sl : List SV) (h : List Blk) (K : SV → List Blk → Option R) : Option R :=
  match gate ops o sl with
  | none => none
  | some true => execG E o (getL sl) h K
  | some false => K (.tup []) h

theorem step1_eq (ops : Array Oper) (o : Oper) (s : St) (K : St → Option R) : step1 E ops.toList o s K = stepG E ops o s.slots s.heap fun v h => K ⟨putL s.slots o.dst v, h⟩ := by
  unfold step1 stepG gate
  cases hg : o.guard with
  | none => simp only [exec, get_getL, put_putL]
  | some q =>
    obtain ⟨j, want⟩ := q
    dsimp only
    cases hd : dstOf ops.toList j with
    | none => rfl
    | some d =>
      dsimp only
      cases hn : nth s.slots d with
      | none => rfl
      | some v =>
        cases v with
        | val t b =>
          cases t with
          | bool =>
            have hp : ∀ c : Bool, b = c → s.put (some d) (.val .bool c) = s := by
              intro c hc
              show (⟨upd s.slots d (.val .bool c), s.heap⟩ : St) = s
              rw [upd_same (by rw [← hc]; exact hn)]
            have hq : ∀ v, s.put o.dst v = ⟨putL s.slots o.dst v, s.heap⟩ := fun v => put_putL s.slots s.heap _ _
            have b0 : Bool := b
            rcases Bool.eq_false_or_eq_true (b : Bool) with hb | hb
            · rw [hp true hb, hb]
              cases want <;> simp only [cond_true, cond_false, exec, get_getL, put_putL, hq] <;> rfl
            · rw [hp false hb, hb]
              cases want <;> simp only [cond_true, cond_false, exec, get_getL, put_putL, hq] <;> rfl
          | _ => rfl
        | tup l =>
          cases l with
          | nil => exact congrArg K (put_putL s.slots s.heap _ _)
          | cons _ _ => rfl
        | _ => rfl

theorem nth_toList {α : Type} (a : Array α) (i : Nat) : nth a.toList i = a[i]? := by
  have : ∀ (l : List α) (i : Nat), nth l i = l[i]? := by
    intro l
    induction l with
    | nil => intro i; cases i <;> rfl
    | cons x l ih => intro i; cases i with
      | zero => rfl
      | succ i => simp only [nth]; rw [ih]; simp
  rw [this, Array.getElem?_toList]

theorem stepG_congr {ops : Array Oper} {o : Oper} {sl sl' : List SV} (hs : ∀ t ∈ o.looksAt ops, nth sl t = nth sl' t) (h : List Blk) (K : SV → List Blk → Option R) : stepG E ops o sl h K = stepG E ops o sl' h K := by
  have hg : gate ops o sl = gate ops o sl' := by
    unfold gate
    cases hg : o.guard with
    | none => rfl
    | some q =>
      obtain ⟨j, want⟩ := q
      dsimp only
      cases hd : dstOf ops.toList j with
      | none => rfl
      | some d =>
        dsimp only
        rw [hs d]
        unfold Oper.looksAt
        rw [hg]
        refine List.mem_append_right _ ?_
        unfold dstOf at hd
        rw [nth_toList] at hd
        simp [hd]
  have he : execG E o (getL sl) h K = execG E o (getL sl') h K := execG_congr (fun x hx => by
    cases x with
    | tmp t =>
      show (nth sl t).getD .dead = (nth sl' t).getD .dead
      rw [hs t]
      unfold Oper.looksAt
      exact List.mem_append_left _ (List.mem_filterMap.2 ⟨.tmp t, Array.mem_toList_iff.2 hx, rfl⟩)
    | _ => rfl) h K
  unfold stepG
  rw [hg, he]

theorem stepG_mono (hE : TblM E) {ops : Array Oper} {o : Oper} {sl : List SV} {h : List Blk} {K K' : SV → List Blk → Option R} {r : R} (hk : ∀ v h, K v h = some r → K' v h = some r) (he : stepG E ops o sl h K = some r) : stepG E ops o sl h K' = some r := by
  unfold stepG at he ⊢
  split at he
  · cases he
  · exact execG_mono hE hk he
  · exact hk _ _ he
theorem stepG_some (hE : TblM E) {ops : Array Oper} {o : Oper} {sl : List SV} {h : List Blk} {K : SV → List Blk → Option R} {r : R} (he : stepG E ops o sl h K = some r) : ∃ v h, K v h = some r := by
  unfold stepG at he
  split at he
  · cases he
  · exact execG_some hE he
  · exact ⟨_, _, he⟩

/-- the answer of a light operation -/
def lval (E : Env) (ops : Array Oper) (o : Oper) (sl : List SV) (h : List Blk) : Option SV :=
  match gate ops o sl with
  | none => none
  | some true => execG E o (getL sl) h fun v _ => some v
  | some false => some (.tup [])
theorem stepG_light {ops : Array Oper} {o : Oper} (hl : lightOp E o.op = true) (sl : List SV) (h : List Blk) (K : SV → List Blk → Option R) : stepG E ops o sl h K = (lval E ops o sl h).bind fun v => K v h := by
  unfold stepG lval
  split
  · rfl
  · exact light_val (gt_getL sl) hl h K
  · rfl
theorem lval_more {ops : Array Oper} {o : Oper} (hl : lightOp E o.op = true) {sl : List SV} {h t : List Blk} {v : SV} (he : lval E ops o sl h = some v) : lval E ops o sl (h ++ t) = some v := by
  unfold lval at he ⊢
  split at he
  · cases he
  · exact light_more (gt_getL sl) hl he
  · exact he
theorem lval_pure {ops : Array Oper} {o : Oper} (hl : pureSlot o.op = true) (sl : List SV) (h h' : List Blk) : lval E ops o sl h = lval E ops o sl h' := by
  unfold lval
  split
  · rfl
  · exact pure_any hl h h'
  · rfl

/-- the first one put off behind the second one -/
theorem stepG_swap (hE : TblM E) {ops : Array Oper} {a b : Oper} {sl : List SV} {h : List Blk} {K : SV → SV → List Blk → Option R} {r : R} (hh : hoist1 E a.op b.op = true)
    (he : (stepG E ops a sl h fun v h1 => stepG E ops b sl h1 fun u h2 => K v u h2) = some r) : (stepG E ops b sl h fun u h1 => stepG E ops a sl h1 fun v h2 => K v u h2) = some r := by
  simp only [hoist1, Bool.or_eq_true, Bool.and_eq_true] at hh
  have first : pureSlot a.op = true → (stepG E ops b sl h fun u h1 => stepG E ops a sl h1 fun v h2 => K v u h2) = some r := fun ha => by
    rw [stepG_light (pure_light ha)] at he
    obtain ⟨v, h1, h2⟩ := Option.bind_eq_some_iff.1 he
    refine stepG_mono hE (fun u h' hk => ?_) h2
    rw [stepG_light (pure_light ha), lval_pure ha sl h' h, h1]
    exact hk
  rcases hh with (ha | hb) | ⟨ha, hb⟩
  · exact first ha
  · simp only [stepG_light (o := b) (pure_light hb)] at he ⊢
    obtain ⟨v, h1, hx⟩ := stepG_some hE he
    obtain ⟨u, hu, _⟩ := Option.bind_eq_some_iff.1 hx
    rw [lval_pure hb sl h1 h] at hu
    rw [hu]
    refine stepG_mono hE (fun v' h' hk => ?_) he
    rw [lval_pure hb sl h' h, hu] at hk
    exact hk
  · rw [stepG_light ha] at he
    obtain ⟨v, h1, h2⟩ := Option.bind_eq_some_iff.1 he
    rcases hb with hb | hb
    · rw [stepG_light hb] at h2 ⊢
      obtain ⟨u, h3, h4⟩ := Option.bind_eq_some_iff.1 h2
      rw [h3]
      simp only [Option.bind_some]
      rw [stepG_light ha, h1]
      exact h4
    · unfold stepG at h2 ⊢
      cases hgb : gate ops b sl with
      | none => rw [hgb] at h2; cases h2
      | some q =>
        rw [hgb] at h2
        cases q with
        | false =>
          show stepG E ops a sl h _ = some r
          rw [stepG_light ha, h1]
          exact h2
        | true =>
          refine grow_post hE (gt_getL sl) hb (fun u t hk => ?_) h2
          show stepG E ops a sl (h ++ t) _ = some r
          rw [stepG_light ha, lval_more ha h1]
          exact hk

/-- so many operations, each by its number -/
def runIdx (E : Env) (ops : Array Oper) : List Nat → St → (St → Option R) → Option R
  | [], s, K => K s
  | i :: l, s, K => match nth ops.toList i with
    | some o => step1 E ops.toList o s fun s' => runIdx E ops l s' K
    | none => none

theorem step1_mono (hE : TblM E) {ops : Array Oper} {o : Oper} {s : St} {K K' : St → Option R} {r : R} (hk : ∀ s, K s = some r → K' s = some r) (he : step1 E ops.toList o s K = some r) : step1 E ops.toList o s K' = some r := by
  rw [step1_eq] at he ⊢
  exact stepG_mono hE (fun _ _ => hk _) he

theorem swap_idx (hE : TblM E) {ops : Array Oper} {c q : Nat} {l : List Nat} {s : St} {K : St → Option R} {r : R} (hh : hoist E ops c q = true) (he : runIdx E ops (c :: q :: l) s K = some r) : runIdx E ops (q :: c :: l) s K = some r := by
  unfold hoist at hh
  simp only [runIdx] at he ⊢
  split at hh
  · rename_i a b ha hb
    rw [ha, hb] at he
    rw [ha, hb]
    simp only [Bool.and_eq_true] at hh
    obtain ⟨h1, h2, h3⟩ := Oper.apart_spec hh.1
    dsimp only at he ⊢
    simp only [step1_eq] at he ⊢
    have ea : ∀ (u : SV) (h : List Blk) (J : SV → List Blk → Option R), stepG E ops a (putL s.slots b.dst u) h J = stepG E ops a s.slots h J := fun u h J =>
      stepG_congr (fun t ht => nth_putL (fun e => h3 t e ht)) h J
    have eb : ∀ (u : SV) (h : List Blk) (J : SV → List Blk → Option R), stepG E ops b (putL s.slots a.dst u) h J = stepG E ops b s.slots h J := fun u h J =>
      stepG_congr (fun t ht => nth_putL (fun e => h1 t e ht)) h J
    simp only [eb] at he
    simp only [ea]
    have := stepG_swap hE (K := fun v u h2 => runIdx E ops l ⟨putL (putL s.slots a.dst v) b.dst u, h2⟩ K) hh.2 he
    simp only [putL_comm s.slots _ _ h2] at this
    exact this
  · cases hh

theorem runIdx_mono (hE : TblM E) {ops : Array Oper} : ∀ (l : List Nat) {s : St} {K K' : St → Option R} {r : R}, (∀ s, K s = some r → K' s = some r) → runIdx E ops l s K = some r → runIdx E ops l s K' = some r
  | [], s, K, K', r, hk, he => hk _ he
  | i :: l, s, K, K', r, hk, he => by
    simp only [runIdx] at he ⊢
    split at he
    · exact step1_mono hE (fun s' hs => runIdx_mono hE l hk hs) he
    · cases he

theorem hoist_idx (hE : TblM E) {ops : Array Oper} {c : Nat} {l2 : List Nat} {K : St → Option R} {r : R} : ∀ (l1 : List Nat) {s : St}, (∀ q ∈ l1, hoist E ops c q = true) → runIdx E ops (c :: (l1 ++ l2)) s K = some r → runIdx E ops (l1 ++ c :: l2) s K = some r
  | [], s, _, he => he
  | q :: l1, s, hh, he => by
    have := swap_idx hE (hh q (by simp)) he
    show runIdx E ops (q :: (l1 ++ c :: l2)) s K = some r
    have this : runIdx E ops (q :: c :: (l1 ++ l2)) s K = some r := this
    simp only [runIdx] at this ⊢
    split at this
    · exact step1_mono hE (fun s' hs => hoist_idx hE l1 (fun q hq => hh q (by simp [hq])) hs) this
    · cases this

theorem memN_iff {l : List Nat} {x : Nat} : memN l x = true ↔ x ∈ l := by
  unfold memN
  rw [List.any_eq_true]
  constructor
  · rintro ⟨y, h1, h2⟩; rw [Nat.eq_of_beq_eq_true h2]; exact h1
  · intro h; exact ⟨x, h, Nat.beq_refl x⟩
theorem mem_delN {l : List Nat} {x y : Nat} : y ∈ delN l x ↔ y ∈ l ∧ y ≠ x := by
  unfold delN
  rw [List.mem_filter]
  constructor
  · rintro ⟨h1, h2⟩
    refine ⟨h1, fun e => ?_⟩
    subst e
    rw [Nat.beq_refl] at h2; cases h2
  · rintro ⟨h1, h2⟩
    refine ⟨h1, ?_⟩
    cases hb : Nat.beq x y with
    | false => rfl
    | true => exact absurd (Nat.eq_of_beq_eq_true hb).symm h2

theorem bothAll_all {α : Type} {f : α → Option R} {r : R} : ∀ {l : List α}, bothAll f l = some r → ∀ x ∈ l, f x = some r
  | [], h, _, _ => by cases h
  | [x], h, y, hy => by simp only [List.mem_singleton] at hy; subst hy; exact h
  | x :: z :: l, h, y, hy => by
    obtain ⟨h1, h2⟩ := both_some h
    rcases List.mem_cons.1 hy with e | hy
    · subst e; exact h1
    · exact bothAll_all (l := z :: l) h2 y hy

theorem bothAll_ne {α : Type} {f : α → Option R} {r : R} {l : List α} (h : bothAll f l = some r) : ∃ x, x ∈ l := by
  cases l with
  | nil => cases h
  | cons x l => exact ⟨x, by simp⟩

/-- the first of some in a list -/
theorem first_of {p : Nat → Prop} [DecidablePred p] : ∀ {l : List Nat}, (∃ x ∈ l, p x) → ∃ l1 c l2, l = l1 ++ c :: l2 ∧ p c ∧ ∀ q ∈ l1, ¬ p q
  | [], h => by obtain ⟨x, hx, _⟩ := h; cases hx
  | x :: l, h => by
    by_cases hp : p x
    · exact ⟨[], x, l, rfl, hp, by simp⟩
    · obtain ⟨l1, c, l2, e, h1, h2⟩ := first_of (l := l) (by
        obtain ⟨y, hy, hpy⟩ := h
        rcases List.mem_cons.1 hy with e | hy
        · subst e; exact absurd hpy hp
        · exact ⟨y, hy, hpy⟩)
      refine ⟨x :: l1, c, l2, by rw [e]; rfl, h1, fun q hq => ?_⟩
      rcases List.mem_cons.1 hq with e | hq
      · subst e; exact hp
      · exact h2 q hq

theorem runD_ok (hE : TblM E) {ops : Array Oper} {tab : List (List Nat)} {K : St → Option R} {r : R} : ∀ (n : Nat) (rem : List Nat) (s : St), runD E ops tab n rem s K = some r →
    ∀ (ord : List Nat), ord.Nodup → (∀ x, x ∈ ord ↔ x ∈ rem) → ord.Pairwise (fun a b => b ∉ tabAtN tab a) → runIdx E ops ord s K = some r := by
  intro n
  induction n with
  | zero =>
    intro rem s he ord hn hp hw
    cases rem with
    | cons _ _ => simp [runD] at he
    | nil =>
      have : ord = [] := List.eq_nil_iff_forall_not_mem.2 fun x hx => by have := (hp x).1 hx; cases this
      subst this
      simpa [runD, runIdx] using he
  | succ n ih =>
    intro rem s he ord hn hp hw
    cases rem with
    | nil =>
      have : ord = [] := List.eq_nil_iff_forall_not_mem.2 fun x hx => by have := (hp x).1 hx; cases this
      subst this
      simpa [runD, runIdx] using he
    | cons f rest =>
      simp only [runD] at he
      cases hc : clusterOk E ops tab (pickC E ops tab (f :: rest)) (f :: rest) with
      | false => rw [hc] at he; cases he
      | true =>
        rw [hc] at he
        simp only [cond_true] at he
        generalize pickC E ops tab (f :: rest) = cs at he hc
        generalize f :: rest = rem at *
        simp only [clusterOk, Bool.and_eq_true, List.all_eq_true, Bool.or_eq_true, List.any_eq_true, memN_iff] at hc
        obtain ⟨hc1, hc2⟩ := hc
        obtain ⟨x0, hx0⟩ := bothAll_ne he
        obtain ⟨l1, c, l2, e, k1, k2⟩ := first_of (p := fun x => x ∈ cs) (l := ord) ⟨x0, (hp x0).2 (hc1 x0 hx0), hx0⟩
        subst e
        have hcc := bothAll_all he c k1
        have hnd := List.nodup_append.1 hn
        obtain ⟨n1, n2⟩ := List.nodup_cons.1 hnd.2.1
        refine hoist_idx hE l1 (fun q hq => ?_) ?_
        · rcases hc2 q ((hp q).1 (by simp [hq])) with (h | ⟨c', h1, h2⟩) | h
          · exact absurd h (k2 q hq)
          · exfalso
            have hm : c' ∈ l1 ++ c :: l2 := (hp c').2 (hc1 c' h1)
            rcases List.mem_append.1 hm with hm | hm
            · exact k2 c' hm h1
            · exact (List.pairwise_append.1 hw).2.2 q hq c' hm h2
          · exact h c k1
        · simp only [runIdx]
          split at hcc
          · rename_i o ho
            rw [ho]
            refine step1_mono hE (fun s' hs => ?_) hcc
            refine ih _ s' hs _ ?_ (fun x => ?_) ?_
            · exact List.nodup_append.2 ⟨hnd.1, n2, fun a ha b hb => hnd.2.2 a ha b (by simp [hb])⟩
            · rw [mem_delN, ← hp x]
              simp only [List.mem_append, List.mem_cons]
              constructor
              · rintro (h | h)
                · exact ⟨.inl h, fun e => hnd.2.2 x h c (by simp) e⟩
                · exact ⟨.inr (.inr h), fun e => n1 (e ▸ h)⟩
              · rintro ⟨h | h | h, h2⟩
                · exact .inl h
                · exact absurd h h2
                · exact .inr h
            · exact hw.sublist (List.Sublist.append (List.Sublist.refl _) (List.sublist_cons_self ..))
          · cases hcc

end
end Go.Sx

namespace Go.Sx
open Go

noncomputable section
variable {R : Type} {E : Env}

theorem mem_rangeL : ∀ {n k x : Nat}, x ∈ rangeL k n ↔ k ≤ x ∧ x < k + n
  | 0, k, x => by simp only [rangeL, List.not_mem_nil, false_iff]; omega
  | n + 1, k, x => by
    simp only [rangeL, List.mem_cons, mem_rangeL (n := n) (k := k + 1)]
    omega

theorem chkT_at {m : Region.Mode} {ops : List Oper} : ∀ {T1 : List Nat} {acc : List Nat} {c : Nat} {T2 : List Nat}, chkT m ops acc (T1 ++ c :: T2) = true → ∃ o, nth ops c = some o ∧ ∀ p ∈ preds m o, p ∈ acc ∨ p ∈ T1
  | [], acc, c, T2, h => by
    simp only [List.nil_append, chkT, Bool.and_eq_true] at h
    obtain ⟨h, _⟩ := h
    split at h
    · rename_i o ho
      refine ⟨o, ho, fun p hp => .inl ?_⟩
      exact memN_iff.1 (List.all_eq_true.1 h p hp)
    · cases h
  | x :: T1, acc, c, T2, h => by
    simp only [List.cons_append, chkT, Bool.and_eq_true] at h
    obtain ⟨o, h1, h2⟩ := chkT_at (T1 := T1) (acc := x :: acc) h.2
    refine ⟨o, h1, fun p hp => ?_⟩
    rcases h2 p hp with q | q
    · rcases List.mem_cons.1 q with e | q
      · subst e; exact .inr (by simp)
      · exact .inl q
    · exact .inr (by simp [q])

theorem mem_preds {m : Region.Mode} {o : Oper} {p : Nat} : p ∈ preds m o ↔ ∃ e ∈ o.after, Region.binds m e = true ∧ e.on = p := by
  unfold preds
  simp only [List.mem_map, List.mem_filter]
  constructor
  · rintro ⟨e, ⟨h1, h2⟩, h3⟩; exact ⟨e, Array.mem_toList_iff.1 h1, h2, h3⟩
  · rintro ⟨e, h1, h2, h3⟩; exact ⟨e, ⟨Array.mem_toList_iff.2 h1, h2⟩, h3⟩

/-- there is an order -/
structure HasT (m : Region.Mode) (ops : Array Oper) (T : List Nat) : Prop where
  chk : chkT m ops.toList [] T = true
  all : ∀ i, i < ops.size → i ∈ T

theorem topoOk_has {m : Region.Mode} {ops : Array Oper} (h : topoOk m ops.toList = true) : ∃ T, HasT m ops T := by
  simp only [topoOk, Bool.and_eq_true] at h
  refine ⟨_, h.1, fun i hi => ?_⟩
  exact memN_iff.1 (List.all_eq_true.1 h.2 i (mem_rangeL.2 ⟨Nat.zero_le _, by simpa using hi⟩))

/-- no one behind it is bound to be ahead of it -/
def Dir (m : Region.Mode) (ops : Array Oper) (a b : Nat) : Prop := ∀ o, nth ops.toList a = some o → b ∉ preds m o

theorem lin_ok {m : Region.Mode} {ops : Array Oper} {T : List Nat} (hT : HasT m ops T) : ∀ (fuel t : Nat) (listed : Array Bool) (U : List Nat), listed.size = ops.size → U.Nodup → U.length = fuel → (∀ x, x ∈ U ↔ listed.getD x true = false) →
    ∃ L, Region.linearise.go m ops fuel t listed [] = L ∧ L.Nodup ∧ (∀ x, x ∈ L ↔ x ∈ U) ∧ L.Pairwise (Dir m ops) := by
  intro fuel
  induction fuel with
  | zero =>
    intro t listed U hs hn hl hu
    refine ⟨[], rfl, by simp, fun x => ?_, .nil⟩
    have : U = [] := List.length_eq_zero_iff.1 hl
    simp [this]
  | succ fuel ih =>
    intro t listed U hs hn hl hu
    have hlt : ∀ x, listed.getD x true = false → x < ops.size := by
      intro x hx
      rw [← hs]
      rcases Nat.lt_or_ge x listed.size with h | h
      · exact h
      · simp [h] at hx
    -- someone is ready
    have hready : ∃ c, c ∈ Region.ready m ops listed := by
      obtain ⟨u, hu1⟩ : ∃ u, u ∈ U := by
        cases U with
        | nil => simp at hl
        | cons u _ => exact ⟨u, by simp⟩
      have hu2 := (hu u).1 hu1
      obtain ⟨T1, c, T2, e, k1, k2⟩ := first_of (p := fun x => listed.getD x true = false) (l := T) ⟨u, hT.all u (hlt u hu2), hu2⟩
      have hc := hT.chk
      rw [e] at hc
      obtain ⟨o, o1, o2⟩ := chkT_at hc
      refine ⟨c, mem_ready.2 ⟨k1, o, by rw [← nth_toList]; exact o1, fun ed he hb => ?_⟩⟩
      have hp := o2 ed.on (mem_preds.2 ⟨ed, he, hb, rfl⟩)
      rcases hp with hp | hp
      · cases hp
      · have hnot := k2 _ hp
        have hlt2 : ed.on < listed.size := by
          rw [hs]
          obtain ⟨X1, X2, eX⟩ := List.append_of_mem hp
          rw [eX, List.append_assoc, List.cons_append] at hc
          obtain ⟨o', o1', _⟩ := chkT_at hc
          rw [nth_toList] at o1'
          exact (Array.getElem?_eq_some_iff.1 o1').1
        have : listed.getD ed.on true = true := by
          cases h : listed.getD ed.on true with
          | true => rfl
          | false => exact absurd h hnot
        simpa [hlt2] using this
    obtain ⟨c0, hc0⟩ := hready
    have hpos : 0 < (Region.ready m ops listed).length := List.length_pos_of_mem hc0
    have hmod : t % (Region.ready m ops listed).length < (Region.ready m ops listed).length := Nat.mod_lt _ hpos
    simp only [Region.linearise.go]
    change ∃ L, (match (Region.ready m ops listed)[t % (Region.ready m ops listed).length]? with
      | some i => Region.linearise.go m ops fuel (t / (Region.ready m ops listed).length) (listed.setIfInBounds i true) [i]
      | none => [].reverse) = L ∧ _
    rw [List.getElem?_eq_getElem hmod]
    generalize hi : (Region.ready m ops listed)[t % (Region.ready m ops listed).length] = i
    have hmem : i ∈ Region.ready m ops listed := hi ▸ List.getElem_mem hmod
    obtain ⟨i1, o, i2, i3⟩ := mem_ready.1 hmem
    have hilt := hlt i i1
    have hiU := (hu i).2 i1
    dsimp only
    rw [linearise_go_acc]
    obtain ⟨L, l1, l2, l3, l4⟩ := ih (t / (Region.ready m ops listed).length) (listed.setIfInBounds i true) (U.erase i) (by simpa using hs) (hn.erase i) (by rw [List.length_erase_of_mem hiU, hl]; rfl) (fun x => by
      rw [List.Nodup.mem_erase_iff hn, hu x]
      by_cases e : i = x
      · subst e
        have hsz : i < listed.size := by rw [hs]; exact hilt
        simp [hsz]
      · rw [getD_set_ne true e]
        constructor
        · exact fun h => h.2
        · exact fun h => ⟨Ne.symm e, h⟩)
    refine ⟨i :: L, by rw [l1]; rfl, ?_, fun x => ?_, ?_⟩
    · refine List.nodup_cons.2 ⟨fun h => ?_, l2⟩
      have := (l3 i).1 h
      rw [List.Nodup.mem_erase_iff hn] at this
      exact this.1 rfl
    · rw [List.mem_cons, l3 x, List.Nodup.mem_erase_iff hn]
      constructor
      · rintro (e | h)
        · subst e; exact hiU
        · exact h.2
      · intro h
        by_cases e : x = i
        · exact .inl e
        · exact .inr ⟨e, h⟩
    · refine List.pairwise_cons.2 ⟨fun b hb o' ho' hp => ?_, l4⟩
      rw [nth_toList] at ho'
      rw [i2] at ho'
      cases ho'
      obtain ⟨ed, e1, e2, e3⟩ := mem_preds.1 hp
      have h1 := i3 ed e1 e2
      have h2 := (l3 b).1 hb
      rw [List.Nodup.mem_erase_iff hn, hu b] at h2
      rw [e3] at h1
      have hbs : b < listed.size := by rw [hs]; exact hlt b h2.2
      simp [hbs] at h1 h2
      rw [h1] at h2
      cases h2.2

theorem linearise_ok {m : Region.Mode} {ops : Array Oper} {T : List Nat} (hT : HasT m ops T) (t : Nat) : (Region.linearise m ops t).Nodup ∧ (∀ x, x ∈ Region.linearise m ops t ↔ x < ops.size) ∧ (Region.linearise m ops t).Pairwise (Dir m ops) := by
  obtain ⟨L, h1, h2, h3, h4⟩ := lin_ok hT ops.size t (Array.replicate ops.size false) (List.range ops.size) (by simp) List.nodup_range (by simp) (fun x => by
    rw [List.mem_range]
    rcases Nat.lt_or_ge x ops.size with h | h
    · simp [h]
    · simp [h])
  unfold Region.linearise
  rw [h1]
  exact ⟨h2, fun x => by rw [h3 x, List.mem_range], h4⟩

/-! ### The table of those ahead -/
theorem mem_unionN {l r : List Nat} {b : Nat} (h : b ∈ unionN l r) : b ∈ l ∨ b ∈ r := by
  unfold unionN at h
  rcases List.mem_append.1 h with h | h
  · exact .inl h
  · exact .inr (List.mem_filter.1 h).1
theorem mem_foldU {X : Nat → List Nat} {b : Nat} : ∀ {ps s : List Nat}, b ∈ ps.foldl (fun s e => unionN s (e :: X e)) s → b ∈ s ∨ ∃ e ∈ ps, b = e ∨ b ∈ X e
  | [], s, h => .inl h
  | e :: ps, s, h => by
    rcases mem_foldU (ps := ps) h with h | ⟨e', h1, h2⟩
    · rcases mem_unionN h with h | h
      · exact .inl h
      · rcases List.mem_cons.1 h with h | h
        · exact .inr ⟨e, by simp, .inl h⟩
        · exact .inr ⟨e, by simp, .inr h⟩
    · exact .inr ⟨e', by simp [h1], h2⟩

def GoodT (ops : List Oper) (acc : List (List Nat)) : Prop :=
  ∀ a b, b ∈ tabAtN acc a → ∃ o, nth ops a = some o ∧ (b ∈ preds .any o ∨ ∃ e ∈ preds .any o, e < a ∧ b ∈ tabAtN acc e)

theorem tabP_good {ops : List Oper} : ∀ (l pre : List Oper) (acc : List (List Nat)), ops = pre ++ l → acc.length = pre.length → GoodT ops acc → GoodT ops (tabP l acc)
  | [], pre, acc, _, _, hg => hg
  | o :: l, pre, acc, he, hl, hg => by
    refine tabP_good l (pre ++ [o]) _ (by rw [he]; simp) (by simp [hl]) ?_
    intro a b hb
    have hat : ∀ e, e < acc.length → ∀ x, tabAtN (acc ++ [x]) e = tabAtN acc e := fun e h x => by unfold tabAtN; rw [nth_append_lt h]
    rcases Nat.lt_trichotomy a acc.length with h | h | h
    · rw [hat a h] at hb
      obtain ⟨o', h1, h2⟩ := hg a b hb
      refine ⟨o', h1, h2.imp id fun ⟨e, k1, k2, k3⟩ => ⟨e, k1, k2, ?_⟩⟩
      rw [hat e (by omega)]; exact k3
    · subst h
      have hx : tabAtN (acc ++ [(preds .any o).foldl (fun s e => unionN s (e :: (nth acc e).getD [])) []]) acc.length = (preds .any o).foldl (fun s e => unionN s (e :: tabAtN acc e)) [] := by
        unfold tabAtN
        have := nth_right acc [(preds .any o).foldl (fun s e => unionN s (e :: (nth acc e).getD [])) []] 0
        rw [Nat.add_zero] at this
        rw [this]
        rfl
      rw [hx] at hb
      refine ⟨o, ?_, ?_⟩
      · rw [he, hl]
        have := nth_right pre (o :: l) 0
        rw [Nat.add_zero] at this
        exact this
      · rcases mem_foldU hb with h | ⟨e, h1, h2⟩
        · cases h
        · rcases h2 with h2 | h2
          · subst h2; exact .inl h1
          · refine .inr ⟨e, h1, ?_, ?_⟩
            · rcases Nat.lt_or_ge e acc.length with k | k
              · exact k
              · unfold tabAtN at h2
                rw [nth_none.2 k] at h2
                cases h2
            · have : e < acc.length := by
                rcases Nat.lt_or_ge e acc.length with k | k
                · exact k
                · unfold tabAtN at h2
                  rw [nth_none.2 k] at h2
                  cases h2
              rw [hat e this]; exact h2
    · exfalso
      unfold tabAtN at hb
      rw [nth_none.2 (by simp; omega)] at hb
      cases hb

theorem binds_any {m : Region.Mode} {e : Edge} (h : Region.binds .any e = true) : Region.binds m e = true := by
  unfold Region.binds at h ⊢
  cases hg : e.ground <;> rw [hg] at h <;> first | rfl | cases h

theorem pw_tab {m : Region.Mode} {ops : Array Oper} {L : List Nat} (hall : ∀ x, x ∈ L ↔ x < ops.size) (hd : L.Pairwise (Dir m ops)) : L.Pairwise (fun a b => b ∉ tabAtN (tabP ops.toList []) a) := by
  have hg : GoodT ops.toList (tabP ops.toList []) := tabP_good ops.toList [] [] rfl rfl (fun a b hb => by unfold tabAtN nth at hb; cases a <;> cases hb)
  rw [List.pairwise_iff_getElem] at hd ⊢
  have key : ∀ a, ∀ i j (hi : i < L.length) (hj : j < L.length), i < j → L[i] = a → L[j] ∉ tabAtN (tabP ops.toList []) a := by
    intro a
    induction a using Nat.strongRecOn with
    | _ a ih =>
      intro i j hi hj hij hia hm
      obtain ⟨o, h1, h2⟩ := hg a _ hm
      have sub : ∀ p, p ∈ preds .any o → p ∈ preds m o := fun p hp => by
        obtain ⟨e, e1, e2, e3⟩ := mem_preds.1 hp
        exact mem_preds.2 ⟨e, e1, binds_any e2, e3⟩
      have dir : ∀ k (hk : k < L.length), i < k → L[k] ∉ preds .any o := fun k hk hik hp => hd i k hi hk hik o (by rw [hia]; exact h1) (sub _ hp)
      rcases h2 with h2 | ⟨e, k1, k2, k3⟩
      · exact dir j hj hij h2
      · have hasz : a < ops.size := by rw [← hia]; exact (hall _).1 (List.getElem_mem hi)
        obtain ⟨k, hk, hke⟩ := List.mem_iff_getElem.1 ((hall e).2 (by omega))
        rcases Nat.lt_trichotomy k i with h | h | h
        · exact ih e k2 k j hk hj (by omega) hke k3
        · subst h; omega
        · exact dir k hk h (by rw [hke]; exact k1)
  exact fun i j hi hj hij => key _ i j hi hj hij rfl

theorem at_of {ops : Array Oper} : ∀ {is : List Nat}, (∀ i ∈ is, i < ops.size) → ∃ os, At ops is os
  | [], _ => ⟨[], .nil⟩
  | i :: is, h => by
    obtain ⟨os, ho⟩ := at_of (is := is) (fun j hj => h j (by simp [hj]))
    exact ⟨ops[i]'(h i (by simp)) :: os, .cons (Array.getElem?_eq_getElem (h i (by simp))) ho⟩

theorem runIdx_ops {ops : Array Oper} {is : List Nat} {os : List Oper} (ha : At ops is os) : ∀ {s : St} {K : St → Option R}, runIdx E ops is s K = runOps E ops.toList os s K := by
  induction ha with
  | nil => intro s K; rfl
  | cons h1 _ ih =>
    intro s K
    simp only [runIdx, runOps, nth_toList, h1]
    congr 1
    funext s'
    exact ih

theorem EnvOk.tblM {P : Program} (hE : EnvOk P E) : TblM E where
  one := fun f c hc R args K r h => by
    obtain ⟨sv, outs, _, h2⟩ := (hE.tbl f c hc).ok R args K r h
    exact ⟨sv, outs, h2⟩
  mono := fun f c hc => (hE.tbl f c hc).mono

theorem Sim.drew {g : G} {rho : Rho} {s : St} {a : Act} {w : World} (hs : Sim g rho s a w) (n : Nat) : Sim g rho s a { w with drawn := n } := by
  have he : Ext (zOf g rho s.heap w) (zOf g rho s.heap { w with drawn := n }) := ⟨fun k hk => ⟨hk, rfl⟩, fun _ => BlkLe.refl _ _⟩
  exact ⟨⟨fun b d hd => (hs.inv.sim b d hd).ext he (fun _ _ _ => rfl), hs.inv.disj, hs.inv.nodup, hs.inv.range, ⟨hs.inv.kept.1, hs.inv.kept.2, ⟨hs.inv.kept.3.obj, hs.inv.kept.3.os, hs.inv.kept.3.out⟩⟩⟩, VL.ext he _ _ hs.slots, hs.defers, hs.bx, hs.ax⟩


theorem runDraw_ok {P : Program} (hE : EnvOk P E) {ops : Array Oper} {s : St} {K : St → Option R} {r : R} (he : runDraw E ops s K = some r) (g : G) (rho : Rho) (a : Act) (w : World) (Q : Exit → Act → World → Prop) (hs : Sim g rho s a w)
    (hq : ∀ s' rho' a' w', K s' = some r → Sim g rho' s' a' w' → Q .normal a' w') (t : Nat) : wpOps P ops Q (Region.schedule (P.follows .mixedOrders) ops t) a { w with drawn := w.drawn + 1 } := by
  unfold runDraw at he
  cases hc : (topoOk .any ops.toList && (!Region.departs ops || (topoOk .text ops.toList && topoOk .gc ops.toList))) with
  | false => rw [hc] at he; cases he
  | true =>
    rw [hc] at he
    simp only [cond_true] at he
    simp only [Bool.and_eq_true, Bool.or_eq_true, Bool.not_eq_true'] at hc
    have any : ∀ (m : Region.Mode) (t : Nat), topoOk m ops.toList = true → wpOps P ops Q (Region.linearise m ops t) a { w with drawn := w.drawn + 1 } := by
      intro m t hm
      obtain ⟨T, hT⟩ := topoOk_has hm
      obtain ⟨h1, h2, h3⟩ := linearise_ok hT t
      obtain ⟨os, ho⟩ := at_of (ops := ops) (is := Region.linearise m ops t) (fun i hi => (h2 i).1 hi)
      have hr := runD_ok hE.tblM _ _ s he _ h1 (fun x => by rw [h2 x, mem_rangeL]; simp) (pw_tab h2 h3)
      rw [runIdx_ops ho] at hr
      exact runOps_ok hE os _ s ho hr g rho a _ Q (hs.drew _) hq
    unfold Region.schedule
    split
    · exact any _ _ hc.1
    · rename_i hx
      simp only [Bool.or_eq_true, Bool.not_eq_true', not_or] at hx
      rcases hc.2 with h | h
      · exact absurd h hx.2
      · split
        · exact any _ _ h.1
        · exact any _ _ h.2
end
end Go.Sx

namespace Go.Sx
open Go

def Ex.out : Ex → Exit
  | .normal => .normal
  | .exit id => .exit id
  | .ret => .ret

noncomputable section
variable {R : Type} (P : Program) (E : Env)

/-- the loops of a function: what is kept, and where each goes on -/
structure Lpf (R : Type) where
  keeps : List Keep
  blks : List BK
  run : Nat → KD keeps → BD blks → Option R

def Lpf.at {R : Type} (l : Lpf R) (n : Nat) : Lp R := ⟨l.keeps, l.blks, l.run n⟩

variable (tab : Nat → Option (Lpf R))

def tabAt (n i : Nat) : Option (Lp R) := (tab i).map fun l => l.at n

def seqK (b : Code) (K : Nat → Ex → St → Option R) (n : Nat) : Ex → St → Option R := fun e s' => match e with
  | .normal => ev E (tabAt tab n) b s' (K n)
  | e => K n e s'
def blockK (id : Nat) (K : Nat → Ex → St → Option R) (n : Nat) : Ex → St → Option R := fun e s' => match e with
  | .exit id' => bif Nat.beq id' id then K n .normal s' else K n (.exit id') s'
  | e => K n e s'
def bodyK (l : Lpf R) (K : Nat → Ex → St → Option R) (n : Nat) : Ex → St → Option R := fun e s' => match e with
  | .normal => atHead (l.at n) s'
  | e => K n e s'

/-- each loop's run is one round of its body, then the rest -/
def LoopsEq : Code → (Nat → Ex → St → Option R) → Prop
  | .seq a b, K => LoopsEq a (seqK E tab b K) ∧ LoopsEq b K
  | .cond _ a b, K => LoopsEq a K ∧ LoopsEq b K
  | .block id c, K => LoopsEq c (blockK id K)
  | .loop c, K => ∀ i l, firstId c = some i → tab i = some l →
      ((∀ x y, l.run 0 x y = none) ∧ ∀ n x y, l.run (n + 1) x y = ev E (tabAt tab n) c (headSt (l.at n) x y) (bodyK l K n)) ∧ LoopsEq c (bodyK l K)
  | _, _ => True

def Fit (g : G) (r : R) (n : Nat) (K : Nat → Ex → St → Option R) (Q : Exit → Act → World → Prop) : Prop :=
  ∀ m, m ≤ n → ∀ e s', K m e s' = some r → ∀ rho a w, Sim g rho s' a w → Q e.out a w

def wpIn (c : Code) (Q : Exit → Act → World → Prop) (a : Act) (w : World) : Prop :=
  ∀ (b : Frame) (k : List Item) (cs : List Frame), ∃ e a' w', Q e a' w' ∧ Arrives P (lone (b.at a (.code c :: .inLoop c :: k)) cs w) b k cs e a' w'

variable {P} {E} {tab}

theorem wp_of_in {c : Code} {Q : Exit → Act → World → Prop} {a : Act} {w : World} (h : wpIn P c Q a w) : (Code.loop c).wp P Q a w := by
  intro b k cs
  obtain ⟨e, a', w', hq, harr⟩ := h b k cs
  exact ⟨e, a', w', hq, .of_steps (.one step_loop) harr⟩

theorem in_of_wp {c : Code} {Q : Exit → Act → World → Prop} {a : Act} {w : World} (h : c.wp P (Exit.then (wpIn P c Q) Q) a w) : wpIn P c Q a w := by
  intro b k cs
  obtain ⟨e, a₁, w₁, hq, harr⟩ := h b (.inLoop c :: k) cs
  cases e with
  | normal =>
    obtain ⟨e₂, a₂, w₂, hq₂, harr₂⟩ := hq b k cs
    exact ⟨e₂, a₂, w₂, hq₂, .of_steps (Steps.trans harr (.one step_inLoop)) harr₂⟩
  | exit id => exact ⟨_, a₁, w₁, hq, .pass (x := .inLoop c) rfl (fun _ _ => .inl (by simp)) harr⟩
  | goto l => exact ⟨_, a₁, w₁, hq, .pass (x := .inLoop c) rfl (fun _ _ => .inl (by simp)) harr⟩
  | ret => exact ⟨_, a₁, w₁, hq, .pass (x := .inLoop c) rfl (fun _ _ => .inl (by simp)) harr⟩
  | panic ch => exact ⟨_, a₁, w₁, hq, .pass (x := .inLoop c) rfl (fun _ _ => .inl (by simp)) harr⟩
  | outgrown => exact ⟨_, a₁, w₁, hq, .pass (x := .inLoop c) rfl (fun _ _ => .inl (by simp)) harr⟩

theorem ev_ok (hE : EnvOk P E) {g : G} (hB : ∀ i l, tab i = some l → (∀ q ∈ g.bx, q.1 < l.blks.length) ∧ ∀ q ∈ g.ax, q.1 < l.blks.length) {r : R} : ∀ (c : Code) (K : Nat → Ex → St → Option R) (Q : Exit → Act → World → Prop) (n : Nat) (s : St) (rho : Rho) (a : Act) (w : World),
    LoopsEq E tab c K → Fit g r n K Q → ev E (tabAt tab n) c s (K n) = some r → Sim g rho s a w → c.wp P Q a w
  | .skip, K, Q, n, s, rho, a, w, _, hf, he, hs => wp_skip (hf n (Nat.le_refl _) .normal s he rho a w hs)
  | .label l, K, Q, n, s, rho, a, w, _, hf, he, hs => wp_label (hf n (Nat.le_refl _) .normal s he rho a w hs)
  | .exit id, K, Q, n, s, rho, a, w, _, hf, he, hs => wp_exit (hf n (Nat.le_refl _) (.exit id) s he rho a w hs)
  | .ret, K, Q, n, s, rho, a, w, _, hf, he, hs => wp_ret (hf n (Nat.le_refl _) .ret s he rho a w hs)
  | .region id ops draw, K, Q, n, s, rho, a, w, _, hf, he, hs => by
    simp only [ev] at he
    cases draw with
    | false =>
      simp only [cond_false] at he
      refine wp_region ?_
      exact runOps_ok hE _ _ s (At.range ops) he g rho a w Q hs (fun s' rho' a' w' hk hs' => hf n (Nat.le_refl _) .normal s' hk rho' a' w' hs')
    | true =>
      simp only [cond_true] at he
      refine wp_region_draw (fun t => ?_)
      exact runDraw_ok hE he g rho a w Q hs (fun s' rho' a' w' hk hs' => hf n (Nat.le_refl _) .normal s' hk rho' a' w' hs') t
  | .seq x y, K, Q, n, s, rho, a, w, hl, hf, he, hs => by
    refine wp_seq ?_
    refine ev_ok hE hB (r := r) x (seqK E tab y K) _ n s rho a w hl.1 (fun m hm e s' hk rho' a' w' hs' => ?_) ?_ hs
    · cases e with
      | normal => exact ev_ok hE hB y K Q m s' rho' a' w' hl.2 (fun m' hm' => hf m' (Nat.le_trans hm' hm)) hk hs'
      | exit id => exact hf m hm _ s' hk rho' a' w' hs'
      | ret => exact hf m hm _ s' hk rho' a' w' hs'
    · simp only [ev] at he
      exact he
  | .cond c x y, K, Q, n, s, rho, a, w, hl, hf, he, hs => by
    simp only [ev] at he
    split at he
    · rename_i b hb
      have hc := asB_V (get_ok hs c) hb
      refine wp_cond hc ?_
      cases b with
      | true => exact ev_ok hE hB x K Q n s rho a w hl.1 hf he hs
      | false => exact ev_ok hE hB y K Q n s rho a w hl.2 hf he hs
    · cases he
  | .block id c, K, Q, n, s, rho, a, w, hl, hf, he, hs => by
    refine wp_block ?_
    refine ev_ok hE hB (r := r) c (blockK id K) _ n s rho a w hl (fun m hm e s' hk rho' a' w' hs' => ?_) ?_ hs
    · cases e with
      | normal => exact hf m hm .normal s' hk rho' a' w' hs'
      | exit id' =>
        simp only [blockK] at hk
        simp only [Ex.out, Exit.inBlock]
        cases hb : Nat.beq id' id with
        | true =>
          rw [hb] at hk
          rw [if_pos (Nat.eq_of_beq_eq_true hb)]
          exact hf m hm .normal s' hk rho' a' w' hs'
        | false =>
          rw [hb] at hk
          rw [if_neg (Nat.ne_of_beq_eq_false hb)]
          exact hf m hm (.exit id') s' hk rho' a' w' hs'
      | ret => exact hf m hm .ret s' hk rho' a' w' hs'
    · simp only [ev] at he
      exact he
  | .loop c, K, Q, n, s, rho, a, w, hl, hf, he, hs => by
    simp only [ev] at he
    split at he
    · rename_i i hi
      split at he
      · rename_i l0 hl0
        unfold tabAt at hl0
        cases ht : tab i with
        | none => rw [ht] at hl0; cases hl0
        | some l =>
          rw [ht] at hl0
          simp only [Option.map_some, Option.some.injEq] at hl0
          subst hl0
          obtain ⟨⟨h0, h1⟩, h2⟩ := hl i l hi ht
          refine wp_of_in ?_
          have key : ∀ m, m ≤ n → ∀ s rho a w, Sim g rho s a w → atHead (l.at m) s = some r → wpIn P c Q a w := by
            intro m
            induction m using Nat.strongRecOn with
            | _ m ih =>
              intro hm s rho a w hs he
              obtain ⟨x, y, rho', hr, hs'⟩ := atHead_ok hs (hB i l ht).1 (hB i l ht).2 he
              cases m with
              | zero =>
                have := (h0 x y).symm.trans hr
                cases this
              | succ m =>
                have hr := (h1 m x y).symm.trans hr
                refine in_of_wp ?_
                refine ev_ok hE hB (r := r) c (bodyK l K) _ m _ rho' a w h2 (fun q hq e s' hk rho2 a2 w2 hs2 => ?_) hr hs'
                cases e with
                | normal => exact ih q (by omega) (by omega) s' rho2 a2 w2 hs2 hk
                | exit id => exact hf q (by omega) _ s' hk rho2 a2 w2 hs2
                | ret => exact hf q (by omega) _ s' hk rho2 a2 w2 hs2
          exact key n (Nat.le_refl _) s rho a w hs he
      · cases he
    · cases he
  | .scope _, K, Q, n, s, rho, a, w, _, _, he, _ => by simp [ev] at he
  | .goto _, K, Q, n, s, rho, a, w, _, _, he, _ => by simp [ev] at he
  | .rangeFunc _ _ _ _, K, Q, n, s, rho, a, w, _, _, he, _ => by simp [ev] at he
  | .refuse _, K, Q, n, s, rho, a, w, _, _, he, _ => by simp [ev] at he

end

end Go.Sx
