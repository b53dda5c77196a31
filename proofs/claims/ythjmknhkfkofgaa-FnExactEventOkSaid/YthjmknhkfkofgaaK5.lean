/- The head of a loop: what is kept there. -/
import Derived.Test.YthjmknhkfkofgaaK4
import Derived.Laws.Sem
set_option linter.unusedVariables false
namespace Go.Sx
open Go

def OnlyKill (h h' : List Blk) : Prop := h'.length = h.length ∧ ∀ b, nth h' b = nth h b ∨ nth h' b = some .gone

theorem OnlyKill.refl (h : List Blk) : OnlyKill h h := ⟨rfl, fun _ => .inl rfl⟩
theorem OnlyKill.trans {h h' h'' : List Blk} (a : OnlyKill h h') (b : OnlyKill h' h'') : OnlyKill h h'' := by
  refine ⟨b.1.trans a.1, fun k => ?_⟩
  rcases b.2 k with e | e
  · rw [e]; exact a.2 k
  · exact .inr e
theorem onlyKill1 (h : List Blk) (b : Nat) : OnlyKill h (upd h b .gone) := by
  refine ⟨upd_length _ _ _, fun k => ?_⟩
  rcases nth_upd_cases h b k Blk.gone with ⟨_, h2, _⟩ | h2
  · exact .inr h2
  · exact .inl h2
theorem onlyKill : ∀ (l : List Nat) (h : List Blk), OnlyKill h (kill h l)
  | [], h => OnlyKill.refl h
  | b :: l, h => (onlyKill1 h b).trans (onlyKill l _)
theorem OnlyKill.live {h h' : List Blk} (a : OnlyKill h h') {b : Nat} (hl : Sx.live (nth h' b)) : nth h' b = nth h b ∧ Sx.live (nth h b) := by
  rcases a.2 b with e | e
  · exact ⟨e, e ▸ hl⟩
  · rw [e] at hl; exact hl.elim
theorem OnlyKill.le {h h' : List Blk} (a : OnlyKill h h') (r : Option D) (b : Nat) : BlkLe r r (nth h b) (nth h' b) := by
  rcases a.2 b with e | e
  · rw [e]; exact BlkLe.refl _ _
  · rw [e]
    cases hx : nth h b with
    | none => trivial
    | some x => cases x <;> first | exact .inl rfl | rfl

theorem isLive_live {b : Option Blk} (h : isLive b = true) : live b := by
  unfold isLive at h; split at h
  · trivial
  · cases h

structure Take (z0 : Z) (L ob : List Nat) (h : List Blk) : Prop where
  only : OnlyKill z0.h h
  was : ∀ b, b ∈ L ∨ b ∈ ob → isLive (nth z0.h b) = true ∧ ¬ live (nth h b)
  sep : ∀ r ∈ L, r ∉ ob
  nodup : ob.Nodup

def zc (z0 : Z) (L : List Nat) (h : List Blk) : Z := ⟨LI z0 L, z0.w, z0.rho, h⟩

theorem Take.ext {z0 : Z} {L L' : List Nat} {h h' : List Blk} (hL : ∀ r ∈ L, r ∈ L') (hk : OnlyKill h h') : Ext (zc z0 L h) (zc z0 L' h') :=
  ⟨fun _ hm => ⟨LI.mono hL hm, rfl⟩, fun b => hk.le _ b⟩
theorem Take.ext0 {z0 : Z} {L : List Nat} {h : List Blk} (hk : OnlyKill z0.h h) : Ext z0 (zc z0 L h) :=
  ⟨fun _ hm => ⟨.inl hm, rfl⟩, fun b => hk.le _ b⟩

theorem Take.iz {z0 : Z} (hz : IZ z0) {L ob : List Nat} {h : List Blk} (t : Take z0 L ob h) : IZ (zc z0 L h) := by
  refine ⟨fun b d hd => ?_, fun b b' d d' a1 a2 l1 l2 => hz.disj b b' d d' a1 a2 (t.only.live l1).2 (t.only.live l2).2, fun b d a1 l1 => hz.nodup b d a1 (t.only.live l1).2, ?_⟩
  · show SimB _ d (nth h b)
    rcases t.only.2 b with e | e
    · rw [e]; exact (hz.sim b d hd).ext (Take.ext0 t.only) (fun _ _ _ => rfl)
    · rw [e]; trivial
  · intro b d hd hl k hk hm
    have hl : live (nth h b) := hl
    rcases hm with hm | ⟨r, hr, d', e1, e2, e3⟩
    · exact hz.sep b d hd (t.only.live hl).2 k hk hm
    · have hne : b ≠ r := fun e => (t.was r (.inl hr)).2 (e ▸ hl)
      exact hz.disj b r d d' hd e1 (t.only.live hl).2 e2 hne k hk e3

/-- what has been taken so, and as what it is owned -/
inductive Srcs (z0 : Z) (im : Nat → Prop) : List Nat → List (Option D) → List Blk → Prop
  | nil : Srcs z0 im [] [] []
  | junk {ob : List Nat} {ds : List (Option D)} {os : List Blk} {t : Ty} {x : List t.den} : Srcs z0 im ob ds os → Srcs z0 im ob (none :: ds) (.arr 0 t x :: os)
  | empty {ob : List Nat} {ds : List (Option D)} {os : List Blk} {t : Ty} : 0 < t.size → Srcs z0 im ob ds os → Srcs z0 im ob (some (.s none 0 []) :: ds) (.arr 0 t [] :: os)
  | cons {b : Nat} {A : Option Addr} {cap : Nat} {S ob : List Nat} {ds : List (Option D)} {os : List Blk} {t : Ty} {x : List t.den} :
      (∀ k ∈ S, ∃ d0, z0.rho b = some d0 ∧ k ∈ d0.blks) → S.Nodup → TR im z0.w true (.sl true t) x [.slice A x.length cap] S → 0 < t.size → Srcs z0 im ob ds os →
      Srcs z0 im (b :: ob) (some (.s A cap S) :: ds) (.arr 0 t x :: os)

theorem Srcs.mono {z0 : Z} {im im' : Nat → Prop} (hi : ∀ k, im k → im' k) {ob : List Nat} {ds : List (Option D)} {os : List Blk} (h : Srcs z0 im ob ds os) : Srcs z0 im' ob ds os := by
  induction h with
  | nil => exact .nil
  | junk _ ih => exact .junk ih
  | empty h1 _ ih => exact .empty h1 ih
  | cons h1 h2 h3 h4 _ ih => exact .cons h1 h2 (h3.mono (fun k hk => ⟨hi k hk, rfl⟩) _ _ _ _ _ (fun _ _ => rfl)) h4 ih

theorem Srcs.append {z0 : Z} {im : Nat → Prop} {ob ob' : List Nat} {ds ds' : List (Option D)} {os os' : List Blk} (h : Srcs z0 im ob ds os) (h' : Srcs z0 im ob' ds' os') : Srcs z0 im (ob ++ ob') (ds ++ ds') (os ++ os') := by
  induction h with
  | nil => exact h'
  | junk _ ih => exact .junk ih
  | empty h1 _ ih => exact .empty h1 ih
  | cons h1 h2 h3 h4 _ ih => exact .cons h1 h2 h3 h4 ih

theorem Srcs.length {z0 : Z} {im : Nat → Prop} {ob : List Nat} {ds : List (Option D)} {os : List Blk} (h : Srcs z0 im ob ds os) : ds.length = os.length := by
  induction h with
  | nil => rfl
  | junk _ ih => simp [ih]
  | empty _ _ ih => simp [ih]
  | cons _ _ _ _ _ ih => simp [ih]

/-- one that is owned, and where it is from -/
theorem Srcs.at {z0 : Z} {im : Nat → Prop} {ob : List Nat} {ds : List (Option D)} {os : List Blk} (h : Srcs z0 im ob ds os) : ∀ (j : Nat) (d : D), nth ds j = some (some d) →
    ∃ A cap S t x, d = .s A cap S ∧ nth os j = some (.arr 0 t x) ∧ S.Nodup ∧ TR im z0.w true (.sl true t) x [.slice A x.length cap] S ∧ 0 < t.size ∧ ∀ k ∈ S, ∃ b ∈ ob, ∃ d0, z0.rho b = some d0 ∧ k ∈ d0.blks := by
  induction h with
  | nil => intro j d hj; simp [nth] at hj
  | junk _ ih =>
    intro j d hj
    cases j with
    | zero => simp [nth] at hj
    | succ j => exact ih j d hj
  | @empty ob ds os t h1 _ ih =>
    intro j d hj
    cases j with
    | zero =>
      simp only [nth, Option.some.injEq] at hj
      subst hj
      exact ⟨none, 0, [], t, [], rfl, rfl, by simp, ⟨none, 0, rfl, by simp, by simp⟩, h1, by simp⟩
    | succ j => exact ih j d hj
  | @cons b A cap S ob ds os t x h1 h2 h3 h4 _ ih =>
    intro j d hj
    cases j with
    | zero =>
      simp only [nth, Option.some.injEq] at hj
      subst hj
      exact ⟨A, cap, S, t, x, rfl, rfl, h2, h3, h4, fun k hk => ⟨b, by simp, h1 k hk⟩⟩
    | succ j =>
      obtain ⟨A', cap', S', t', x', e1, e2, e3, e4, e5, e6⟩ := ih j d hj
      exact ⟨A', cap', S', t', x', e1, e2, e3, e4, e5, fun k hk => by obtain ⟨b', hb', r⟩ := e6 k hk; exact ⟨b', by simp [hb'], r⟩⟩

/-- two of them lie apart -/
theorem Srcs.apart {z0 : Z} {im : Nat → Prop} (hz : IZ z0) {ob : List Nat} {ds : List (Option D)} {os : List Blk} (h : Srcs z0 im ob ds os) (hl : ∀ b ∈ ob, live (nth z0.h b)) (hn : ob.Nodup) :
    ∀ (i j : Nat) (d d' : D), nth ds i = some (some d) → nth ds j = some (some d') → i ≠ j → ∀ k ∈ d.blks, k ∉ d'.blks := by
  induction h with
  | nil => intro i j d d' hi; simp [nth] at hi
  | junk _ ih =>
    intro i j d d' hi hj hne
    cases i with
    | zero => simp [nth] at hi
    | succ i =>
      cases j with
      | zero => simp [nth] at hj
      | succ j => exact ih hl hn i j d d' hi hj (by omega)
  | empty _ _ ih =>
    intro i j d d' hi hj hne k hk hk'
    cases i with
    | zero => simp only [nth, Option.some.injEq] at hi; subst hi; simp [D.blks] at hk
    | succ i =>
      cases j with
      | zero => simp only [nth, Option.some.injEq] at hj; subst hj; simp [D.blks] at hk'
      | succ j => exact ih hl hn i j d d' hi hj (by omega) k hk hk'
  | @cons b A cap S ob ds os t x h1 h2 h3 h4 hs ih =>
    intro i j d d' hi hj hne k hk hk'
    obtain ⟨n1, n2⟩ := List.nodup_cons.1 hn
    have first : ∀ (j : Nat) (d' : D), nth ds j = some (some d') → k ∈ S → k ∈ d'.blks → False := by
      intro j d' hj hkS hk'
      obtain ⟨A', cap', S', t', x', e1, _, _, _, _, e6⟩ := hs.at j d' hj
      subst e1
      obtain ⟨b', hb', d0', r1, r2⟩ := e6 k hk'
      obtain ⟨d0, q1, q2⟩ := h1 k hkS
      have hbb : b ≠ b' := fun e => n1 (e ▸ hb')
      exact hz.disj b b' d0 d0' q1 r1 (hl b (by simp)) (hl b' (by simp [hb'])) hbb k q2 r2
    cases i with
    | zero =>
      simp only [nth, Option.some.injEq] at hi
      subst hi
      cases j with
      | zero => exact hne rfl
      | succ j => exact first j d' hj hk hk'
    | succ i =>
      cases j with
      | zero =>
        simp only [nth, Option.some.injEq] at hj
        subst hj
        exact first i d hi hk' hk
      | succ j => exact ih (fun b hb => hl b (by simp [hb])) n2 i j d d' hi hj (by omega) k hk hk'

theorem Ty.eq_noUq : ∀ {s t : Ty}, s.eqv t = true → s.noUq = true → t.noUq = true → s = t
  | .int k, .int k', h, _, _ => by simp only [Ty.eqv, decide_eq_true_eq] at h; rw [h]
  | .bool, .bool, _, _, _ => rfl
  | .str, .str, _, _, _ => rfl
  | .unit, .unit, _, _, _ => rfl
  | .pair a b, .pair c d, h, h1, h2 => by
    simp only [Ty.eqv, Bool.and_eq_true] at h
    simp only [Ty.noUq, Bool.and_eq_true] at h1 h2
    rw [Ty.eq_noUq h.1 h1.1 h2.1, Ty.eq_noUq h.2 h1.2 h2.2]
  | .sl u a, .sl u' b, h, h1, h2 => by
    simp only [Ty.eqv] at h
    simp only [Ty.noUq, Bool.and_eq_true, Bool.not_eq_true'] at h1 h2
    rw [Ty.eq_noUq h h1.2 h2.2, h1.1, h2.1]

theorem toD_same {t : Ty} {x : t.den} {y : t.den} (h : toD t t x = some y) : y = x := by
  unfold toD at h
  split at h
  · simp only [Option.some.injEq] at h
    rw [← h]; rfl
  · cases h

/-- one owned list taken -/
theorem own_src {z : Z} (hi : IZ z) {t : Ty} {x : SV} {c : Value} {d : List t.den} (hv : V z x c) (ho : ownD z.h t x = some d) :
    (x = .nil ∧ d = [] ∧ c = .slice none 0 0) ∨ ∃ b A cap S, refs x = [b] ∧ isLive (nth z.h b) = true ∧ c = .slice A d.length cap ∧ (∀ k ∈ S, ∃ d0, z.rho b = some d0 ∧ k ∈ d0.blks) ∧ S.Nodup ∧
      TR z.im z.w true (.sl true t) d [.slice A d.length cap] S ∧ 0 < t.size := by
  have fin : ∀ (b : Nat) (v' : SV), refs x = [b] → isLive (nth z.h b) = true → pub z.h x = some (.fr t d, upd z.h b .gone) →
      ∃ b A cap S, refs x = [b] ∧ isLive (nth z.h b) = true ∧ c = .slice A d.length cap ∧ (∀ k ∈ S, ∃ d0, z.rho b = some d0 ∧ k ∈ d0.blks) ∧ S.Nodup ∧
      TR z.im z.w true (.sl true t) d [.slice A d.length cap] S ∧ 0 < t.size := by
    intro b _ hr hl hp
    obtain ⟨S, h1, h2, h3, h4⟩ := pub_ok hi rfl x c _ _ hv hp
    simp only [CV] at h1
    obtain ⟨_, h5, h6⟩ := h1
    obtain ⟨A, cap, e1, e2, e3⟩ := h6
    simp only [List.cons.injEq, and_true] at e1
    refine ⟨b, A, cap, S, hr, hl, e1, fun k hk => ?_, h2, ⟨A, cap, rfl, e2, e3⟩, h5⟩
    obtain ⟨b', d0, q1, q2, q3, q4, q5⟩ := h4 k hk
    have : b' = b := by
      rcases nth_upd_cases z.h b b' Blk.gone with ⟨e, _, _⟩ | e
      · exact e.symm
      · rw [e] at q3
        rcases q3 with q3 | q3
        · rw [q3] at q2; exact q2.elim
        · exact absurd q3 q4
    subst this
    exact ⟨d0, q1, q5⟩
  unfold ownD at ho
  split at ho
  · simp only [Option.some.injEq] at ho
    subst ho
    simp only [V] at hv
    exact .inl ⟨rfl, rfl, hv⟩
  · rename_i b v
    right
    split at ho
    · rename_i v' s xs hb
      split at ho
      · rename_i e
        cases hu : s.noUq && t.noUq with
        | false => rw [hu] at ho; cases ho
        | true =>
          rw [hu] at ho
          simp only [cond_true] at ho
          simp only [Bool.and_eq_true] at hu
          have he : (Ty.sl true s).eqv (Ty.sl true t) = true := by
            unfold toD at ho; split at ho
            · assumption
            · cases ho
          have est : s = t := Ty.eq_noUq he hu.1 hu.2
          subst est
          have := toD_same (t := .sl true s) ho
          subst this
          refine fin b .nil rfl (by rw [hb]; rfl) ?_
          simp only [pub, hb, e, if_true]
      · cases ho
    · cases ho
  · rename_i b v off n
    right
    split at ho
    · rename_i v' s xs hb
      split at ho
      · rename_i e
        cases hu : s.noUq && t.noUq with
        | false => rw [hu] at ho; cases ho
        | true =>
          rw [hu] at ho
          simp only [cond_true] at ho
          simp only [Bool.and_eq_true] at hu
          have he : (Ty.sl true s).eqv (Ty.sl true t) = true := by
            unfold toD at ho; split at ho
            · assumption
            · cases ho
          have est : s = t := Ty.eq_noUq he hu.1 hu.2
          subst est
          have := toD_same (t := .sl true s) ho
          subst this
          refine fin b .nil rfl (by rw [hb]; rfl) ?_
          simp only [pub, hb, e, if_true, hu.1, cond_true]
      · cases ho
    · cases ho
  · cases ho

theorem takeK_only : ∀ (ks : List Keep) (l : List SV) (h : List Blk) {x : KD ks} {h' : List Blk}, takeK ks l h = some (x, h') → OnlyKill h h'
  | [], [], h, x, h', he => by simp only [takeK] at he; cases Option.some.inj he; exact OnlyKill.refl h
  | [], _ :: _, h, x, h', he => by simp [takeK] at he
  | k :: ks, [], h, x, h', he => by cases k <;> simp [takeK] at he
  | .drop :: ks, _ :: l, h, x, h', he => takeK_only ks l h (x := x) (by simp only [takeK] at he; exact he)
  | .is v :: ks, y :: l, h, x, h', he => by
    simp only [takeK] at he
    cases hs : sameIs v y with
    | false => rw [hs] at he; cases he
    | true => rw [hs] at he; exact takeK_only ks l h he
  | .ro t :: ks, y :: l, h, x, h', he => by
    simp only [takeK] at he
    split at he
    · cases hs : (refs y).all (fun b => isLive (nth h b)) with
      | false => rw [hs] at he; cases he
      | true =>
        rw [hs] at he
        simp only [cond_true] at he
        split at he
        · rename_i r h1 hr
          cases Option.some.inj he
          exact (onlyKill _ h).trans (takeK_only ks l _ hr)
        · cases he
    · cases he
  | .own t :: ks, y :: l, h, x, h', he => by
    simp only [takeK] at he
    split at he
    · split at he
      · rename_i r h1 hr
        cases Option.some.inj he
        exact (onlyKill _ h).trans (takeK_only ks l _ hr)
      · cases he
    · cases he

theorem ownsK_junk {z0 : Z} {im : Nat → Prop} : ∀ (ks : List Keep) (x : KD ks), ∃ ds, Srcs z0 im [] ds (ownsK ks x) ∧ ∀ j d, nth ds j ≠ some (some d)
  | [], _ => ⟨[], .nil, fun j d => by simp [nth]⟩
  | .drop :: ks, x => ownsK_junk ks x
  | .is _ :: ks, x => ownsK_junk ks x
  | .ro _ :: ks, x => ownsK_junk ks x.2
  | .own t :: ks, x => by
    obtain ⟨ds, h1, h2⟩ := ownsK_junk (z0 := z0) (im := im) ks x.2
    refine ⟨none :: ds, .junk h1, fun j d => ?_⟩
    cases j with
    | zero => simp [nth]
    | succ j => exact h2 j d

theorem Take.more {z0 : Z} {L ob : List Nat} {h h' : List Blk} (t : Take z0 L ob h) (hk : OnlyKill h h') : Take z0 L ob h' :=
  ⟨t.only.trans hk, fun b hb => ⟨(t.was b hb).1, fun hl => (t.was b hb).2 (hk.live hl).2⟩, t.sep, t.nodup⟩

/-- how the head's state lies to the state before -/
structure Fits (z0 z' : Z) (L : List Nat) (n : Nat) : Prop where
  w : z'.w = z0.w
  im : ∀ k, LI z0 L k → z'.im k
  ptr : ∀ b off c, b < n → V z0 (.ptr b off) c → V z' (.ptr b off) c

theorem takeK_ok {z0 : Z} (hz : IZ z0) (n0 : Nat) : ∀ (ks : List Keep) (l : List SV) (h : List Blk) {x : KD ks} {h' : List Blk} (L ob : List Nat) (cs : List Value), Take z0 L ob h → VL z0 l cs → okK n0 ks = true →
    takeK ks l h = some (x, h') → ∃ L' ob' ds, Take z0 L' (ob ++ ob') h' ∧ (∀ r ∈ L, r ∈ L') ∧ Srcs z0 (LI z0 L') ob' ds (ownsK ks x) ∧
      ∀ (z' : Z) (n : Nat), Fits z0 z' L' n0 → (∀ j d, nth ds j = some d → z'.rho (n + j) = d) → (∀ j o, nth (ownsK ks x) j = some o → nth z'.h (n + j) = some o) → VL z' (giveK ks x n) cs
  | [], [], h, x, h', L, ob, cs, t, hv, _, he => by
    simp only [takeK] at he
    cases Option.some.inj he
    simp only [VL] at hv
    exact ⟨L, [], [], by simpa using t, fun _ h => h, .nil, fun z' n _ _ _ => by simp only [giveK, VL]; exact hv⟩
  | [], _ :: _, h, x, h', L, ob, cs, t, hv, _, he => by simp [takeK] at he
  | k :: ks, [], h, x, h', L, ob, cs, t, hv, _, he => by cases k <;> simp [takeK] at he
  | .drop :: ks, y :: l, h, x, h', L, ob, cs, t, hv, hk, he => by
    simp only [VL] at hv
    obtain ⟨c, r, rfl, _, h3⟩ := hv
    obtain ⟨L', ob', ds, a1, a2, a3, a4⟩ := takeK_ok hz n0 ks l h L ob r t h3 (by simpa only [okK] using hk) (x := x) (by simp only [takeK] at he; exact he)
    refine ⟨L', ob', ds, a1, a2, a3, fun z' n f1 f2 f3 => ?_⟩
    simp only [giveK, VL]
    exact ⟨c, r, rfl, by simp only [V], a4 z' n f1 f2 f3⟩
  | .is v :: ks, y :: l, h, x, h', L, ob, cs, t, hv, hk, he => by
    simp only [VL] at hv
    obtain ⟨c, r, rfl, h2, h3⟩ := hv
    simp only [takeK] at he
    cases hs : sameIs v y with
    | false => rw [hs] at he; cases he
    | true =>
      rw [hs] at he
      have he : takeK ks l h = some (x, h') := he
      have hk' : okK n0 ks = true ∧ ∀ b o, v = .ptr b o → b < n0 := by
        unfold sameIs at hs
        split at hs
        · simp only [okK, Bool.and_eq_true] at hk
          exact ⟨hk.2, fun b o e => by cases e; have := hk.1; simp only [Nat.blt, Nat.ble_eq] at this; omega⟩
        · simp only [okK] at hk
          exact ⟨hk, fun b o e => by cases e⟩
        · cases hs
      obtain ⟨L', ob', ds, a1, a2, a3, a4⟩ := takeK_ok hz n0 ks l h L ob r t h3 hk'.1 he
      refine ⟨L', ob', ds, a1, a2, a3, fun z' n f1 f2 f3 => ?_⟩
      simp only [giveK, VL]
      refine ⟨c, r, rfl, ?_, a4 z' n f1 f2 f3⟩
      unfold sameIs at hs
      split at hs
      · rename_i b o b' o'
        simp only [Bool.and_eq_true] at hs
        have e1 := Nat.eq_of_beq_eq_true hs.1
        have e2 := Nat.eq_of_beq_eq_true hs.2
        subst e1; subst e2
        exact f1.ptr _ _ c (hk'.2 _ _ rfl) h2
      · simp only [V] at h2 ⊢; exact h2
      · cases hs
  | .ro ty :: ks, y :: l, h, x, h', L, ob, cs, t, hv, hk, he => by
    simp only [VL] at hv
    obtain ⟨c, r, rfl, h2, h3⟩ := hv
    simp only [takeK] at he
    split at he
    · rename_i d hd
      cases hs : (refs y).all (fun b => isLive (nth h b)) with
      | false => rw [hs] at he; cases he
      | true =>
        rw [hs] at he
        simp only [cond_true] at he
        split at he
        · rename_i q h1 hq
          cases Option.some.inj he
          have hlv : ∀ b ∈ refs y, live (nth h b) := fun b hb => isLive_live (List.all_eq_true.1 hs b hb)
          have hla : ∀ b ∈ refs y, isLive (nth z0.h b) = true := fun b hb => by rw [← (t.only.live (hlv b hb)).1]; exact List.all_eq_true.1 hs b hb
          have t' : Take z0 (L ++ refs y) ob (kill h (refs y)) := by
            refine ⟨t.only.trans (onlyKill _ _), fun b hb => ?_, fun r hr hob => ?_, t.nodup⟩
            · rcases hb with hb | hb
              · rcases List.mem_append.1 hb with hb | hb
                · exact ⟨(t.was b (.inl hb)).1, fun hl => (t.was b (.inl hb)).2 ((onlyKill _ _).live hl).2⟩
                · exact ⟨hla b hb, kill_gone _ _ hb⟩
              · exact ⟨(t.was b (.inr hb)).1, fun hl => (t.was b (.inr hb)).2 ((onlyKill _ _).live hl).2⟩
            · rcases List.mem_append.1 hr with hr | hr
              · exact t.sep r hr hob
              · exact (t.was r (.inr hob)).2 (hlv r hr)
          obtain ⟨L', ob', ds, a1, a2, a3, a4⟩ := takeK_ok hz n0 ks l _ (L ++ refs y) ob r t' h3 (by simpa only [okK] using hk) hq
          refine ⟨L', ob', ds, a1, fun r hr => a2 r (by simp [hr]), a3, fun z' n f1 f2 f3 => ?_⟩
          simp only [giveK, VL]
          refine ⟨c, r, rfl, ?_, a4 z' n f1 f2 f3⟩
          obtain ⟨cs, k1, k2⟩ := toTy_ok (z := zc z0 L h) (t.iz hz).sim (V.ext (Take.ext0 t.only) _ _ h2) hd
          simp only [V]
          refine ⟨cs, ?_, k2⟩
          rw [f1.w]
          refine k1.im (fun k hm => f1.im k ?_)
          rcases hm with hm | ⟨_, r', hr', d', e1, e2, e3⟩
          · exact LI.mono (fun r hr => a2 r (by simp [hr])) hm
          · exact .inr ⟨r', a2 r' (by simp [hr']), d', e1, (t.only.live e2).2, e3⟩
        · cases he
    · cases he
  | .own ty :: ks, y :: l, h, x, h', L, ob, cs, t, hv, hk, he => by
    simp only [VL] at hv
    obtain ⟨c, r, rfl, h2, h3⟩ := hv
    simp only [takeK] at he
    simp only [okK, Bool.and_eq_true] at hk
    split at he
    · rename_i d hd
      split at he
      · rename_i q h1 hq
        cases Option.some.inj he
        have hv' := V.ext (Take.ext0 (L := L) t.only) _ _ h2
        rcases own_src (z := zc z0 L h) (t.iz hz) hv' hd with ⟨e1, e2, e3⟩ | ⟨b, A, cap, S, e1, e2, e3, e4, e5, e6, e7⟩
        · subst e1; subst e2
          have hp : 0 < ty.size := by have := hk.1.1; simp only [Nat.blt, Nat.ble_eq] at this; omega
          obtain ⟨L', ob', ds, a1, a2, a3, a4⟩ := takeK_ok hz n0 ks l _ L ob r t h3 hk.2 hq
          refine ⟨L', ob', some (.s none 0 []) :: ds, a1, a2, .empty hp a3, fun z' n f1 f2 f3 => ?_⟩
          simp only [giveK, VL]
          refine ⟨c, r, rfl, ?_, a4 z' (n + 1) f1 (fun j d hj => by have := f2 (j + 1) d hj; rwa [show n + (j + 1) = n + 1 + j by omega] at this)
            (fun j o hj => by have := f3 (j + 1) o hj; rwa [show n + (j + 1) = n + 1 + j by omega] at this)⟩
          rw [e3]
          have g1 := f2 0 _ rfl
          have g2 := f3 0 _ rfl
          exact own_at (x := ([] : List ty.den)) g2 g1 rfl
        · have hlv : live (nth h b) := isLive_live e2
          have t' : Take z0 L (ob ++ [b]) (kill h (refs y)) := by
            rw [e1]
            refine ⟨t.only.trans (onlyKill _ _), fun b' hb => ?_, fun r hr hob => ?_, ?_⟩
            · rcases hb with hb | hb
              · exact ⟨(t.was b' (.inl hb)).1, fun hl => (t.was b' (.inl hb)).2 ((onlyKill _ _).live hl).2⟩
              · rcases List.mem_append.1 hb with hb | hb
                · exact ⟨(t.was b' (.inr hb)).1, fun hl => (t.was b' (.inr hb)).2 ((onlyKill _ _).live hl).2⟩
                · simp only [List.mem_singleton] at hb
                  subst hb
                  exact ⟨by rw [← (t.only.live hlv).1]; exact e2, kill_gone _ _ (by simp)⟩
            · rcases List.mem_append.1 hob with hob | hob
              · exact t.sep r hr hob
              · simp only [List.mem_singleton] at hob
                subst hob
                exact (t.was _ (.inl hr)).2 hlv
            · refine List.nodup_append.2 ⟨t.nodup, by simp, fun a ha b' hb' e => ?_⟩
              simp only [List.mem_singleton] at hb'
              subst e; subst hb'
              exact (t.was _ (.inr ha)).2 hlv
          obtain ⟨L', ob', ds, a1, a2, a3, a4⟩ := takeK_ok hz n0 ks l _ L (ob ++ [b]) r t' h3 hk.2 hq
          refine ⟨L', b :: ob', some (.s A cap S) :: ds, by simpa using a1, a2, .cons e4 e5 (e6.mono (fun k hm => ⟨LI.mono a2 hm, rfl⟩) _ _ _ _ _ (fun _ _ => rfl)) e7 a3, fun z' n f1 f2 f3 => ?_⟩
          simp only [giveK, VL]
          refine ⟨c, r, rfl, ?_, a4 z' (n + 1) f1 (fun j d hj => by have := f2 (j + 1) d hj; rwa [show n + (j + 1) = n + 1 + j by omega] at this)
            (fun j o hj => by have := f3 (j + 1) o hj; rwa [show n + (j + 1) = n + 1 + j by omega] at this)⟩
          rw [e3]
          have g1 := f2 0 _ rfl
          have g2 := f3 0 _ rfl
          exact own_at g2 g1 rfl
      · cases he
    · cases he

end Go.Sx

namespace Go.Sx
open Go

theorem nth_left {α : Type} {l r : List α} {j : Nat} {x : α} (h : nth l j = some x) : nth (l ++ r) j = some x := by rw [nth_append_lt (nth_lt h), h]
theorem nth_right {α : Type} : ∀ (l r : List α) (j : Nat), nth (l ++ r) (l.length + j) = nth r j
  | [], r, j => by simp
  | x :: l, r, j => by rw [List.length_cons, show l.length + 1 + j = (l.length + j) + 1 by omega]; exact nth_right l r j

theorem giveB_length : ∀ (bs : List (Option (List Keep))) (y : BD bs) (n : Nat), (giveB bs y n).length = bs.length
  | [], _, _ => rfl
  | none :: bs, y, n => by simp only [giveB, List.length_cons]; rw [giveB_length bs y n]
  | some ks :: bs, y, n => by simp only [giveB, List.length_cons]; rw [giveB_length bs y.2]

theorem takeB_ok {z0 : Z} (hz : IZ z0) (n0 : Nat) : ∀ (bs : List (Option (List Keep))) (l : List Blk) (i0 : Nat) (h : List Blk) {y : BD bs} {h' : List Blk} (L ob : List Nat), Take z0 L ob h → (∀ j, nth l j = nth z0.h (i0 + j)) → okBK n0 bs = true →
    takeB bs l h = some (y, h') → ∃ L' ob' ds, Take z0 L' (ob ++ ob') h' ∧ (∀ r ∈ L, r ∈ L') ∧ Srcs z0 (LI z0 L') ob' ds (ownsB bs y) ∧
      ∀ n, (∀ j b, nth (giveB bs y n) j = some b → b = .gone ∨ ∃ c c' ks, nth bs j = some (some ks) ∧ b = .vars c' ∧ nth z0.h (i0 + j) = some (.vars c)) ∧
      ∀ (z' : Z), Fits z0 z' L' n0 → (∀ j d, nth ds j = some d → z'.rho (n + j) = d) → (∀ j o, nth (ownsB bs y) j = some o → nth z'.h (n + j) = some o) →
        ∀ j b d, nth (giveB bs y n) j = some b → z0.rho (i0 + j) = some d → SimB z' d (some b)
  | [], l, i0, h, y, h', L, ob, t, hl, hk, he => by
    simp only [takeB] at he
    cases Option.some.inj he
    exact ⟨L, [], [], by simpa using t, fun _ h => h, .nil, fun n => ⟨fun j b hj => by simp [giveB, nth] at hj, fun z' _ _ _ j b d hj => by simp [giveB, nth] at hj⟩⟩
  | none :: bs, [], i0, h, y, h', L, ob, t, hl, hk, he => by simp [takeB] at he
  | none :: bs, b0 :: l, i0, h, y, h', L, ob, t, hl, hk, he => by
    obtain ⟨L', ob', ds, a1, a2, a3, a4⟩ := takeB_ok hz n0 bs l (i0 + 1) h L ob (y := y) (h' := h') t (fun j => by have := hl (j + 1); rwa [show i0 + (j + 1) = i0 + 1 + j by omega] at this) (by simpa only [okBK] using hk) (by simp only [takeB] at he; exact he)
    refine ⟨L', ob', ds, a1, a2, a3, fun n => ⟨fun j b hj => ?_, fun z' f1 f2 f3 j b d hj hd => ?_⟩⟩
    · cases j with
      | zero => simp only [giveB, nth, Option.some.injEq] at hj; exact .inl hj.symm
      | succ j =>
        rcases (a4 n).1 j b hj with e | ⟨c, c', ks, e1, e2, e3⟩
        · exact .inl e
        · exact .inr ⟨c, c', ks, e1, e2, by rw [show i0 + (j + 1) = i0 + 1 + j by omega]; exact e3⟩
    · cases j with
      | zero => simp only [giveB, nth, Option.some.injEq] at hj; subst hj; trivial
      | succ j => exact (a4 n).2 z' f1 f2 f3 j b d hj (by rw [show i0 + 1 + j = i0 + (j + 1) by omega]; exact hd)
  | some ks :: bs, [], i0, h, y, h', L, ob, t, hl, hk, he => by simp [takeB] at he
  | some ks :: bs, b0 :: l, i0, h, y, h', L, ob, t, hl, hk, he => by
    cases b0 with
    | arr _ _ _ => simp [takeB] at he
    | lent => simp [takeB] at he
    | gone => simp [takeB] at he
    | vars c =>
      simp only [takeB] at he
      simp only [okBK, Bool.and_eq_true] at hk
      split at he
      · rename_i d1 h1 hd1
        split at he
        · rename_i r h2 hr
          cases Option.some.inj he
          have hc : nth z0.h i0 = some (.vars c) := (hl 0).symm
          -- the cells
          have first : ∃ L1 ob1 ds1, Take z0 L1 (ob ++ ob1) h1 ∧ (∀ r ∈ L, r ∈ L1) ∧ Srcs z0 (LI z0 L1) ob1 ds1 (ownsK ks d1) ∧ ∀ n (z' : Z), Fits z0 z' L1 n0 → (∀ j d, nth ds1 j = some d → z'.rho (n + j) = d) →
              (∀ j o, nth (ownsK ks d1) j = some o → nth z'.h (n + j) = some o) → ∀ d, z0.rho i0 = some d → SimB z' d (some (.vars (giveK ks d1 n))) := by
            cases hrho : z0.rho i0 with
            | none =>
              obtain ⟨ds1, j1, j2⟩ := ownsK_junk (z0 := z0) (im := LI z0 L) ks d1
              exact ⟨L, [], ds1, by simpa using t.more (takeK_only _ _ _ hd1), fun _ h => h, j1, fun n z' _ _ _ d hd => by cases hd⟩
            | some d =>
              have hs := hz.sim i0 d hrho
              rw [hc] at hs
              obtain ⟨blk, cs, e, s1, s2, s3⟩ := hs
              obtain ⟨L1, ob1, ds1, a1, a2, a3, a4⟩ := takeK_ok hz n0 ks c h L ob cs t s3 hk.1 hd1
              refine ⟨L1, ob1, ds1, a1, a2, a3, fun n z' f1 f2 f3 d' hd' => ?_⟩
              cases hd'
              exact ⟨blk, cs, e, s1, by rw [f1.w]; exact s2, a4 z' n f1 f2 f3⟩
          obtain ⟨L1, ob1, ds1, a1, a2, a3, a4⟩ := first
          obtain ⟨L2, ob2, ds2, b1, b2, b3, b4⟩ := takeB_ok hz n0 bs l (i0 + 1) h1 L1 (ob ++ ob1) (y := r) a1 (fun j => by have := hl (j + 1); rwa [show i0 + (j + 1) = i0 + 1 + j by omega] at this) hk.2 hr
          have hlen := a3.length
          refine ⟨L2, ob1 ++ ob2, ds1 ++ ds2, by simpa using b1, fun q hq => b2 q (a2 q hq), (a3.mono (fun k hm => LI.mono b2 hm)).append b3, fun n => ⟨fun j b hj => ?_, fun z' f1 f2 f3 j b d hj hd => ?_⟩⟩
          · cases j with
            | zero => simp only [giveB, nth, Option.some.injEq] at hj; exact .inr ⟨c, _, ks, rfl, hj.symm, hc⟩
            | succ j =>
              rcases (b4 _).1 j b hj with e | ⟨c, c', ks, e1, e2, e3⟩
              · exact .inl e
              · exact .inr ⟨c, c', ks, e1, e2, by rw [show i0 + (j + 1) = i0 + 1 + j by omega]; exact e3⟩
          · have f2' : ∀ j d, nth ds2 j = some d → z'.rho (n + (ownsK ks d1).length + j) = d := fun j d hj => by
              have := f2 (ds1.length + j) d (by rw [nth_right]; exact hj)
              rwa [hlen, ← Nat.add_assoc] at this
            have f3' : ∀ j o, nth (ownsB bs r) j = some o → nth z'.h (n + (ownsK ks d1).length + j) = some o := fun j o hj => by
              have := f3 ((ownsK ks d1).length + j) o (by simp only [ownsB]; rw [nth_right]; exact hj)
              rwa [← Nat.add_assoc] at this
            cases j with
            | zero =>
              simp only [giveB, nth, Option.some.injEq] at hj
              subst hj
              exact a4 n z' ⟨f1.w, fun k hm => f1.im k (LI.mono b2 hm), f1.ptr⟩ (fun j d hj => f2 j d (nth_left hj)) (fun j o hj => f3 j o (by simp only [ownsB]; exact nth_left hj)) d hd
            | succ j => exact (b4 _).2 z' f1 f2' f3' j b d hj (by rw [show i0 + 1 + j = i0 + (j + 1) by omega]; exact hd)
        · cases he
      · cases he

theorem atHead_ok {R : Type} {l : Lp R} {g : G} {rho : Rho} {s : St} {a : Act} {w : World} {r : R} (hs : Sim g rho s a w) (hbx : ∀ q ∈ g.bx, q.1 < l.blks.length) (he : atHead l s = some r) :
    ∃ x y rho', l.run x y = some r ∧ Sim g rho' (headSt l x y) a w := by
  unfold atHead at he
  cases hk : (okBK l.blks.length l.blks && okK l.blks.length l.keeps) with
  | false => rw [hk] at he; cases he
  | true =>
    rw [hk] at he
    simp only [cond_true] at he
    simp only [Bool.and_eq_true] at hk
    split at he
    · rename_i y h1 hy
      split at he
      · rename_i x h2 hx
        have hz := hs.inv.iz
        have t0 : Take (zOf g rho s.heap w) [] [] s.heap := ⟨OnlyKill.refl _, fun b hb => by simp at hb, fun r hr => by simp at hr, by simp⟩
        obtain ⟨L1, ob1, ds1, a1, a2, a3, a4⟩ := takeB_ok hz l.blks.length l.blks s.heap 0 s.heap [] [] t0 (fun j => by rw [Nat.zero_add]; rfl) hk.1 hy
        obtain ⟨L2, ob2, ds2, b1, b2, b3, b4⟩ := takeK_ok hz l.blks.length l.keeps s.slots h1 L1 ([] ++ ob1) _ a1 hs.slots hk.2 hx
        let n := l.blks.length
        let ds := ds1 ++ ds2
        let os := ownsB l.blks y ++ ownsK l.keeps x
        have hsrc : Srcs (zOf g rho s.heap w) (LI (zOf g rho s.heap w) L2) (ob1 ++ ob2) ds os := (a3.mono (fun k hm => LI.mono b2 hm)).append b3
        have tk : Take (zOf g rho s.heap w) L2 (ob1 ++ ob2) h2 := by simpa using b1
        have hoblive : ∀ b ∈ ob1 ++ ob2, live (nth s.heap b) := fun b hb => isLive_live (tk.was b (.inr hb)).1
        let rho' : Rho := fun b => if b < n then (match nth l.blks b with | some (some _) => rho b | _ => none) else ((nth ds (b - n)).getD none)
        have hh : (headSt l x y).heap = giveB l.blks y n ++ os := by simp only [headSt, headS, os, n, List.append_assoc]
        have hlow : ∀ b, b < n → nth (headSt l x y).heap b = nth (giveB l.blks y n) b := fun b hb => by rw [hh, nth_append_lt (by rw [giveB_length]; exact hb)]
        have hhigh : ∀ j, nth (headSt l x y).heap (n + j) = nth os j := fun j => by
          have := nth_right (giveB l.blks y n) os j
          rw [giveB_length] at this
          rw [hh]; exact this
        have low : ∀ b d, b < n → rho' b = some d → live (nth (headSt l x y).heap b) → rho b = some d ∧ (∃ c, nth s.heap b = some (.vars c)) := by
          intro b d hb hd hl
          have hd : (if b < n then (match nth l.blks b with | some (some _) => rho b | _ => none) else ((nth ds (b - n)).getD none)) = some d := hd
          rw [if_pos hb] at hd
          rw [hlow b hb] at hl
          cases hg : nth (giveB l.blks y n) b with
          | none => rw [hg] at hl; exact hl.elim
          | some bk =>
            rw [hg] at hl
            rcases (a4 n).1 b bk hg with e | ⟨c, c', ks, e1, e2, e3⟩
            · subst e; exact hl.elim
            · rw [e1] at hd
              rw [Nat.zero_add] at e3
              exact ⟨hd, c, e3⟩
        have high : ∀ b d, ¬ b < n → rho' b = some d → nth ds (b - n) = some (some d) := by
          intro b d hb hd
          have hd : (if b < n then (match nth l.blks b with | some (some _) => rho b | _ => none) else ((nth ds (b - n)).getD none)) = some d := hd
          rw [if_neg hb] at hd
          cases hn : nth ds (b - n) with
          | none => rw [hn] at hd; cases hd
          | some o => rw [hn] at hd; simp only [Option.getD_some] at hd; rw [hd]
        -- what is owned is from where it was owned
        have from0 : ∀ b d, rho' b = some d → live (nth (headSt l x y).heap b) → ∀ k ∈ d.blks, ∃ b0 d0, rho b0 = some d0 ∧ live (nth s.heap b0) ∧ k ∈ d0.blks ∧ b0 ∉ L2 := by
          intro b d hd hl k hk
          by_cases hb : b < n
          · obtain ⟨e1, c, e2⟩ := low b d hb hd hl
            refine ⟨b, d, e1, by rw [e2]; trivial, hk, fun hm => ?_⟩
            have := (tk.was b (.inl hm)).1
            have this : isLive (nth s.heap b) = true := this
            rw [e2] at this; cases this
          · obtain ⟨A, cap, S, t, x', e1, e2, e3, e4, e5, e6⟩ := hsrc.at _ d (high b d hb hd)
            subst e1
            obtain ⟨b0, hb0, d0, q1, q2⟩ := e6 k hk
            exact ⟨b0, d0, q1, hoblive b0 hb0, q2, fun hm => tk.sep b0 hm hb0⟩
        have him : ∀ k, LI (zOf g rho s.heap w) L2 k → Im g rho' (headSt l x y).heap w k := by
          intro k hm
          have hbase : (g.p k ∨ k ∈ g.S0 ∨ g.w0.heap.size ≤ k) ∧ k < w.heap.size := by
            rcases hm with hm | ⟨r', _, d', e1, e2, e3⟩
            · exact ⟨hm.1, hm.2.1⟩
            · have := hs.inv.range r' d' e1 e2 k e3
              exact ⟨.inr this.2, this.1⟩
          refine ⟨hbase.1, hbase.2, fun ⟨b, d, o1, o2, o3⟩ => ?_⟩
          obtain ⟨b0, d0, q1, q2, q3, q4⟩ := from0 b d o1 o2 k o3
          rcases hm with hm | ⟨r', hr', d', e1, e2, e3⟩
          · exact hm.2.2 ⟨b0, d0, q1, q2, q3⟩
          · have hne : b0 ≠ r' := fun e => q4 (e ▸ hr')
            exact hs.inv.disj b0 r' d0 d' q1 e1 q2 e2 hne k q3 e3
        have hfit : Fits (zOf g rho s.heap w) (zOf g rho' (headSt l x y).heap w) L2 n := by
          refine ⟨rfl, him, fun b off c hb hv => ?_⟩
          simp only [V] at hv ⊢
          refine ⟨hv.1, ?_⟩
          show match nth (headSt l x y).heap b with | some (.vars _) => _ | some .lent => _ | some _ => True | none => False
          rw [hlow b hb]
          cases hg : nth (giveB l.blks y n) b with
          | none => have := nth_none.1 hg; rw [giveB_length] at this; exact absurd hb (by omega)
          | some bk =>
            rcases (a4 n).1 b bk hg with e | ⟨c1, c', ks, e1, e2, e3⟩
            · subst e; trivial
            · subst e2
              rw [Nat.zero_add] at e3
              have hv2 := hv.2
              rw [e3] at hv2
              obtain ⟨blk, q1, q2⟩ := hv2
              refine ⟨blk, ?_, q2⟩
              show (if b < n then (match nth l.blks b with | some (some _) => rho b | _ => none) else ((nth ds (b - n)).getD none)) = _
              rw [if_pos hb, e1]; exact q1
        have hds : ∀ j d, nth ds j = some d → rho' (n + j) = d := fun j d hj => by
          show (if n + j < n then _ else ((nth ds (n + j - n)).getD none)) = d
          rw [if_neg (by omega), show n + j - n = j by omega, hj]; rfl
        have hos : ∀ j o, nth os j = some o → nth (headSt l x y).heap (n + j) = some o := fun j o hj => by rw [hhigh]; exact hj
        have hlen1 := a3.length
        refine ⟨x, y, rho', he, ⟨⟨?_, ?_, ?_, ?_, hs.inv.kept⟩, ?_, hs.defers, fun q hq => ?_⟩⟩
        · intro b d hd
          by_cases hb : b < n
          · rw [hlow b hb]
            cases hg : nth (giveB l.blks y n) b with
            | none => trivial
            | some bk =>
              have hd' : (if b < n then (match nth l.blks b with | some (some _) => rho b | _ => none) else ((nth ds (b - n)).getD none)) = some d := hd
              rw [if_pos hb] at hd'
              rcases (a4 n).1 b bk hg with e | ⟨c1, c', ks, e1, e2, e3⟩
              · subst e; trivial
              · rw [e1] at hd'
                exact (a4 n).2 _ ⟨hfit.w, fun k hm => hfit.im k (LI.mono b2 hm), hfit.ptr⟩ (fun j d hj => hds j d (nth_left hj)) (fun j o hj => hos j o (nth_left hj)) b bk d hg (by rw [Nat.zero_add]; exact hd')
          · have hds' := high b d hb hd
            obtain ⟨A, cap, S, t, x', e1, e2, e3, e4, e5, e6⟩ := hsrc.at _ d hds'
            have := hhigh (b - n)
            rw [show n + (b - n) = b by omega] at this
            rw [this, e2]
            exact ⟨A, cap, S, e1, e4.mono (fun k hm => ⟨him k hm, rfl⟩) _ _ _ _ _ (fun _ _ => rfl), e5⟩
        · intro b b' d d' q1 q2 l1 l2 hne k hk hk'
          by_cases hb : b < n
          · obtain ⟨u1, c, u2⟩ := low b d hb q1 l1
            by_cases hb' : b' < n
            · obtain ⟨v1, c', v2⟩ := low b' d' hb' q2 l2
              exact hs.inv.disj b b' d d' u1 v1 (by rw [u2]; trivial) (by rw [v2]; trivial) hne k hk hk'
            · obtain ⟨A, cap, S, t, x', e1, e2, e3, e4, e5, e6⟩ := hsrc.at _ d' (high b' d' hb' q2)
              subst e1
              obtain ⟨b0, hb0, d0, w1, w2⟩ := e6 k hk'
              refine hs.inv.disj b b0 d d0 u1 w1 (by rw [u2]; trivial) (hoblive b0 hb0) (fun e => ?_) k hk w2
              have := (tk.was b0 (.inr hb0)).1
              have this : isLive (nth s.heap b0) = true := this
              rw [← e, u2] at this; cases this
          · have h1' := high b d hb q1
            by_cases hb' : b' < n
            · obtain ⟨v1, c', v2⟩ := low b' d' hb' q2 l2
              obtain ⟨A, cap, S, t, x', e1, e2, e3, e4, e5, e6⟩ := hsrc.at _ d h1'
              subst e1
              obtain ⟨b0, hb0, d0, w1, w2⟩ := e6 k hk
              refine hs.inv.disj b' b0 d' d0 v1 w1 (by rw [v2]; trivial) (hoblive b0 hb0) (fun e => ?_) k hk' w2
              have := (tk.was b0 (.inr hb0)).1
              have this : isLive (nth s.heap b0) = true := this
              rw [← e, v2] at this; cases this
            · exact hsrc.apart hz hoblive tk.nodup _ _ d d' h1' (high b' d' hb' q2) (by omega) k hk hk'
        · intro b d q1 l1
          by_cases hb : b < n
          · obtain ⟨u1, c, u2⟩ := low b d hb q1 l1
            exact hs.inv.nodup b d u1 (by rw [u2]; trivial)
          · obtain ⟨A, cap, S, t, x', e1, e2, e3, e4, e5, e6⟩ := hsrc.at _ d (high b d hb q1)
            subst e1; exact e3
        · intro b d q1 l1 k hk
          obtain ⟨b0, d0, w1, w2, w3, _⟩ := from0 b d q1 l1 k hk
          exact hs.inv.range b0 d0 w1 w2 k w3
        · refine b4 _ _ hfit (fun j d hj => ?_) (fun j o hj => ?_)
          · have := hds (ds1.length + j) d (by simp only [ds]; rw [nth_right]; exact hj)
            rwa [hlen1, ← Nat.add_assoc] at this
          · have := hos ((ownsB l.blks y).length + j) o (by simp only [os]; rw [nth_right]; exact hj)
            rwa [← Nat.add_assoc] at this
        · have hb := hbx q hq
          unfold Bx
          rw [hlow q.1 hb]
          cases hg : nth (giveB l.blks y n) q.1 with
          | none => have := nth_none.1 hg; rw [giveB_length] at this; exact absurd hb (by omega)
          | some bk =>
            rcases (a4 n).1 q.1 bk hg with e | ⟨c1, c', ks, e1, e2, e3⟩
            · subst e; exact .inl rfl
            · right
              subst e2
              rw [Nat.zero_add] at e3
              have e3 : nth s.heap q.1 = some (.vars c1) := e3
              refine ⟨?_, .inl ⟨c', rfl⟩⟩
              show (if q.1 < n then (match nth l.blks q.1 with | some (some _) => rho q.1 | _ => none) else ((nth ds (q.1 - n)).getD none)) = _
              rw [if_pos hb, e1]
              rcases hs.bx q hq with k | ⟨k, _⟩
              · rw [e3] at k; cases k
              · exact k
      · cases he
    · cases he

end Go.Sx

namespace Go.Sx
open Go

def Ex.out : Ex → Exit
  | .normal => .normal
  | .exit id => .exit id
  | .ret => .ret

section
variable {R : Type} (P : Program) (E : Env) (drawn : Array Oper → Bool)

/-- the loops of a function: what is kept, and where each goes on -/
structure Lpf (R : Type) where
  keeps : List Keep
  blks : List (Option (List Keep))
  run : Nat → KD keeps → BD blks → Option R

def Lpf.at {R : Type} (l : Lpf R) (n : Nat) : Lp R := ⟨l.keeps, l.blks, l.run n⟩

variable (tab : Nat → Option (Lpf R))

def tabAt (n i : Nat) : Option (Lp R) := (tab i).map fun l => l.at n

def seqK (b : Code) (K : Nat → Ex → St → Option R) (n : Nat) : Ex → St → Option R := fun e s' => match e with
  | .normal => ev E (tabAt tab n) drawn b s' (K n)
  | e => K n e s'
def blockK (id : Nat) (K : Nat → Ex → St → Option R) (n : Nat) : Ex → St → Option R := fun e s' => match e with
  | .exit id' => bif Nat.beq id' id then K n .normal s' else K n (.exit id') s'
  | e => K n e s'
def bodyK (l : Lpf R) (K : Nat → Ex → St → Option R) (n : Nat) : Ex → St → Option R := fun e s' => match e with
  | .normal => atHead (l.at n) s'
  | e => K n e s'

/-- each loop's run is one round of its body, then the rest -/
def LoopsEq : Code → (Nat → Ex → St → Option R) → Prop
  | .seq a b, K => LoopsEq a (seqK E drawn tab b K) ∧ LoopsEq b K
  | .cond _ a b, K => LoopsEq a K ∧ LoopsEq b K
  | .block id c, K => LoopsEq c (blockK id K)
  | .loop c, K => ∀ i l, firstId c = some i → tab i = some l →
      ((∀ x y, l.run 0 x y = none) ∧ ∀ n x y, l.run (n + 1) x y = ev E (tabAt tab n) drawn c (headSt (l.at n) x y) (bodyK l K n)) ∧ LoopsEq c (bodyK l K)
  | _, _ => True

/-- a region whose order is drawn gives what the order of the text gives -/
def DrawnOk : Prop := ∀ (ops : Array Oper), drawn ops = true → ∀ (R : Type) (s : St) (K : St → Option R) (r : R), runOps E ops.toList ops.toList s K = some r →
  ∀ (g : G) (rho : Rho) (a : Act) (w : World) (Q : Exit → Act → World → Prop), Sim g rho s a w → (∀ s' rho' a' w', K s' = some r → Sim g rho' s' a' w' → Q .normal a' w') →
    ∀ t, wpOps P ops Q (Region.schedule (P.follows .mixedOrders) ops t) a { w with drawn := w.drawn + 1 }

def Fit (g : G) (r : R) (n : Nat) (K : Nat → Ex → St → Option R) (Q : Exit → Act → World → Prop) : Prop :=
  ∀ m, m ≤ n → ∀ e s', K m e s' = some r → ∀ rho a w, Sim g rho s' a w → Q e.out a w

def wpIn (c : Code) (Q : Exit → Act → World → Prop) (a : Act) (w : World) : Prop :=
  ∀ (b : Frame) (k : List Item) (cs : List Frame), ∃ e a' w', Q e a' w' ∧ Arrives P (lone (b.at a (.code c :: .inLoop c :: k)) cs w) b k cs e a' w'

variable {P} {E} {drawn} {tab}

theorem wp_of_in {c : Code} {Q : Exit → Act → World → Prop} {a : Act} {w : World} (h : wpIn P c Q a w) : (Code.loop c).wp P Q a w := by
  intro b k cs
  obtain ⟨e, a', w', hq, harr⟩ := h b k cs
  exact ⟨e, a', w', hq, .of_steps (.one step_loop) harr⟩

theorem in_of_wp {c : Code} {Q : Exit → Act → World → Prop} {a : Act} {w : World} (h : c.wp P (Exit.then (wpIn P c Q) Q) a w) : wpIn P c Q a w := by
  intro b k cs
  obtain ⟨e, a₁, w₁, hq, harr⟩ := h b (.inLoop c :: k) cs
  cases e with
  | normal =>
    obtain ⟨e₂, a₂, w₂, hq₂, harr₂⟩ := hq b k cs
    exact ⟨e₂, a₂, w₂, hq₂, .of_steps (Steps.trans harr (.one step_inLoop)) harr₂⟩
  | exit id => exact ⟨_, a₁, w₁, hq, .pass (x := .inLoop c) rfl (fun _ _ => .inl (by simp)) harr⟩
  | goto l => exact ⟨_, a₁, w₁, hq, .pass (x := .inLoop c) rfl (fun _ _ => .inl (by simp)) harr⟩
  | ret => exact ⟨_, a₁, w₁, hq, .pass (x := .inLoop c) rfl (fun _ _ => .inl (by simp)) harr⟩
  | panic ch => exact ⟨_, a₁, w₁, hq, .pass (x := .inLoop c) rfl (fun _ _ => .inl (by simp)) harr⟩
  | outgrown => exact ⟨_, a₁, w₁, hq, .pass (x := .inLoop c) rfl (fun _ _ => .inl (by simp)) harr⟩

theorem Sim.drew {g : G} {rho : Rho} {s : St} {a : Act} {w : World} (hs : Sim g rho s a w) (n : Nat) : Sim g rho s a { w with drawn := n } := by
  have he : Ext (zOf g rho s.heap w) (zOf g rho s.heap { w with drawn := n }) := ⟨fun k hk => ⟨hk, rfl⟩, fun _ => BlkLe.refl _ _⟩
  exact ⟨⟨fun b d hd => (hs.inv.sim b d hd).ext he (fun _ _ _ => rfl), hs.inv.disj, hs.inv.nodup, hs.inv.range, ⟨hs.inv.kept.1, hs.inv.kept.2, ⟨hs.inv.kept.3.obj, hs.inv.kept.3.os, hs.inv.kept.3.out⟩⟩⟩, VL.ext he _ _ hs.slots, hs.defers, hs.bx⟩

theorem ev_ok (hE : EnvOk P E) (hD : DrawnOk P E drawn) {g : G} (hB : ∀ i l, tab i = some l → ∀ q ∈ g.bx, q.1 < l.blks.length) {r : R} : ∀ (c : Code) (K : Nat → Ex → St → Option R) (Q : Exit → Act → World → Prop) (n : Nat) (s : St) (rho : Rho) (a : Act) (w : World),
    LoopsEq E drawn tab c K → Fit g r n K Q → ev E (tabAt tab n) drawn c s (K n) = some r → Sim g rho s a w → c.wp P Q a w
  | .skip, K, Q, n, s, rho, a, w, _, hf, he, hs => wp_skip (hf n (Nat.le_refl _) .normal s he rho a w hs)
  | .label l, K, Q, n, s, rho, a, w, _, hf, he, hs => wp_label (hf n (Nat.le_refl _) .normal s he rho a w hs)
  | .exit id, K, Q, n, s, rho, a, w, _, hf, he, hs => wp_exit (hf n (Nat.le_refl _) (.exit id) s he rho a w hs)
  | .ret, K, Q, n, s, rho, a, w, _, hf, he, hs => wp_ret (hf n (Nat.le_refl _) .ret s he rho a w hs)
  | .region id ops draw, K, Q, n, s, rho, a, w, _, hf, he, hs => by
    simp only [ev] at he
    cases draw with
    | false =>
      simp only [Bool.not_false, Bool.true_or, cond_true] at he
      refine wp_region ?_
      exact runOps_ok hE _ _ s (At.range ops) he g rho a w Q hs (fun s' rho' a' w' hk hs' => hf n (Nat.le_refl _) .normal s' hk rho' a' w' hs')
    | true =>
      cases hd : drawn ops with
      | false => rw [hd] at he; cases he
      | true =>
        rw [hd] at he
        simp only [Bool.or_true, cond_true] at he
        refine wp_region_draw (fun t => ?_)
        exact hD ops hd _ s _ r he g rho a w Q hs (fun s' rho' a' w' hk hs' => hf n (Nat.le_refl _) .normal s' hk rho' a' w' hs') t
  | .seq x y, K, Q, n, s, rho, a, w, hl, hf, he, hs => by
    refine wp_seq ?_
    refine ev_ok hE hD hB (r := r) x (seqK E drawn tab y K) _ n s rho a w hl.1 (fun m hm e s' hk rho' a' w' hs' => ?_) ?_ hs
    · cases e with
      | normal => exact ev_ok hE hD hB y K Q m s' rho' a' w' hl.2 (fun m' hm' => hf m' (Nat.le_trans hm' hm)) hk hs'
      | exit id => exact hf m hm _ s' hk rho' a' w' hs'
      | ret => exact hf m hm _ s' hk rho' a' w' hs'
    · simp only [ev] at he
      exact he
  | .cond c x y, K, Q, n, s, rho, a, w, hl, hf, he, hs => by
    simp only [ev] at he
    split at he
    · rename_i b hb
      have hc := asB_V (get_ok hs c) hb
      refine wp_cond hc ?_
      cases b with
      | true => exact ev_ok hE hD hB x K Q n s rho a w hl.1 hf he hs
      | false => exact ev_ok hE hD hB y K Q n s rho a w hl.2 hf he hs
    · cases he
  | .block id c, K, Q, n, s, rho, a, w, hl, hf, he, hs => by
    refine wp_block ?_
    refine ev_ok hE hD hB (r := r) c (blockK id K) _ n s rho a w hl (fun m hm e s' hk rho' a' w' hs' => ?_) ?_ hs
    · cases e with
      | normal => exact hf m hm .normal s' hk rho' a' w' hs'
      | exit id' =>
        simp only [blockK] at hk
        simp only [Ex.out, Exit.inBlock]
        cases hb : Nat.beq id' id with
        | true =>
          rw [hb] at hk
          rw [if_pos (Nat.eq_of_beq_eq_true hb)]
          exact hf m hm .normal s' hk rho' a' w' hs'
        | false =>
          rw [hb] at hk
          rw [if_neg (Nat.ne_of_beq_eq_false hb)]
          exact hf m hm (.exit id') s' hk rho' a' w' hs'
      | ret => exact hf m hm .ret s' hk rho' a' w' hs'
    · simp only [ev] at he
      exact he
  | .loop c, K, Q, n, s, rho, a, w, hl, hf, he, hs => by
    simp only [ev] at he
    split at he
    · rename_i i hi
      split at he
      · rename_i l0 hl0
        unfold tabAt at hl0
        cases ht : tab i with
        | none => rw [ht] at hl0; cases hl0
        | some l =>
          rw [ht] at hl0
          simp only [Option.map_some, Option.some.injEq] at hl0
          subst hl0
          obtain ⟨⟨h0, h1⟩, h2⟩ := hl i l hi ht
          refine wp_of_in ?_
          have key : ∀ m, m ≤ n → ∀ s rho a w, Sim g rho s a w → atHead (l.at m) s = some r → wpIn P c Q a w := by
            intro m
            induction m using Nat.strongRecOn with
            | _ m ih =>
              intro hm s rho a w hs he
              obtain ⟨x, y, rho', hr, hs'⟩ := atHead_ok hs (hB i l ht) he
              cases m with
              | zero =>
                have := (h0 x y).symm.trans hr
                cases this
              | succ m =>
                have hr := (h1 m x y).symm.trans hr
                refine in_of_wp ?_
                refine ev_ok hE hD hB (r := r) c (bodyK l K) _ m _ rho' a w h2 (fun q hq e s' hk rho2 a2 w2 hs2 => ?_) hr hs'
                cases e with
                | normal => exact ih q (by omega) (by omega) s' rho2 a2 w2 hs2 hk
                | exit id => exact hf q (by omega) _ s' hk rho2 a2 w2 hs2
                | ret => exact hf q (by omega) _ s' hk rho2 a2 w2 hs2
          exact key n (Nat.le_refl _) s rho a w hs he
      · cases he
    · cases he
  | .scope _, K, Q, n, s, rho, a, w, _, _, he, _ => by simp [ev] at he
  | .goto _, K, Q, n, s, rho, a, w, _, _, he, _ => by simp [ev] at he
  | .rangeFunc _ _ _ _, K, Q, n, s, rho, a, w, _, _, he, _ => by simp [ev] at he
  | .refuse _, K, Q, n, s, rho, a, w, _, _, he, _ => by simp [ev] at he

end

end Go.Sx

namespace Go.Sx
open Go

mutual
/-- what a function is given, as its own -/
def enter (h : List Blk) : SV → SV × List Blk × List Nat
  | .fr t x => (.own h.length 0, h ++ [.arr 0 t x], [])
  | .mr l => match thawL h l with | (l', h') => (.ptr h'.length 0, h' ++ [.vars l'], [h'.length])
  | .fn f l => match enterL h l with | (l', h', b) => (.fn f l', h', b)
  | .agg l => match thawL h l with | (l', h') => (.agg l', h', [])
  | .tup l => match thawL h l with | (l', h') => (.tup l', h', [])
  | v => (v, h, [])
def enterL (h : List Blk) : List SV → List SV × List Blk × List Nat
  | [] => ([], h, [])
  | x :: l => match enter h x with | (x', h', b) => (match enterL h' l with | (l', h'', b') => (x' :: l', h'', b ++ b'))
end

/-- what the lent variables hold in the end -/
def finB (h : List Blk) : List Nat → Option (List (List SV))
  | [] => some []
  | b :: bs => match nth h b with
    | some (.vars c) => (match pubL (upd h b .gone) c with
      | some (c', h') => (match finB h' bs with | some r => some (c' :: r) | none => none)
      | none => none)
    | _ => none

def cellRes (E : Env) (s : St) (a : Tmp) (t : TypeId) : Option SV :=
  match E.ty t with
  | some ty => (match s.get (.tmp a) with
    | .ptr b off => (match nth s.heap b with
      | some (.vars c) => loadC s.heap ty (cut c off ty.size) some
      | _ => none)
    | _ => none)
  | none => none

def resS (E : Env) (s : St) : List ResultVar → Option (List SV)
  | [] => some []
  | .tmp t :: l => match resS E s l with | some r => some (s.get (.tmp t) :: r) | none => none
  | .cell a t :: l => match cellRes E s a t with
    | some v => (match resS E s l with | some r => some (v :: r) | none => none)
    | none => none

def oneOrTup : List SV → SV
  | [x] => x
  | l => .tup l

def fin (E : Env) (res : List ResultVar) (boxes : List Nat) (s : St) : Option (SV × List (List SV)) :=
  match resS E s res with
  | none => none
  | some l => match pub s.heap (oneOrTup l) with
    | none => none
    | some (v, h) => match finB h boxes with
      | none => none
      | some o => some (v, o)

abbrev Res : Type := SV × List (List SV)

def finK (E : Env) (res : List ResultVar) (boxes : List Nat) : Ex → St → Option Res := fun e s => match e with
  | .normal => fin E res boxes s
  | .ret => fin E res boxes s
  | .exit _ => none

/-! ### The loops of a body -/
section
variable {R : Type} (E : Env) (drawn : Array Oper → Bool) (kp : List (Nat × (List Keep × List (Option (List Keep)))))

def loopsOf (Ln : Nat → Option (Lp R)) : Code → (Ex → St → Option R) → List (Nat × (Code × (Ex → St → Option R)))
  | .seq a b, K => loopsOf Ln a (fun e s' => match e with | .normal => ev E Ln drawn b s' K | e => K e s') ++ loopsOf Ln b K
  | .cond _ a b, K => loopsOf Ln a K ++ loopsOf Ln b K
  | .block id c, K => loopsOf Ln c (fun e s' => match e with | .exit id' => bif Nat.beq id' id then K .normal s' else K (.exit id') s' | e => K e s')
  | .loop c, K => match firstId c with
    | some i => (match Ln i with
      | some l => (i, c, fun e s' => match e with | .normal => atHead l s' | e => K e s') :: loopsOf Ln c (fun e s' => match e with | .normal => atHead l s' | e => K e s')
      | none => [])
    | none => []
  | _, _ => []

def idsOf : Code → List Nat
  | .seq a b => idsOf a ++ idsOf b
  | .cond _ a b => idsOf a ++ idsOf b
  | .block _ c => idsOf c
  | .loop c => match firstId c with
    | some i => (match assoc kp i with | some _ => i :: idsOf c | none => [])
    | none => []
  | _ => []

variable (body : Code) (K0 : Ex → St → Option R)

def mkLp (k : List Keep × List (Option (List Keep))) (run : KD k.1 → BD k.2 → Option R) : Lp R := ⟨k.1, k.2, run⟩

def runOf (Ln : Nat → Option (Lp R)) (i : Nat) (ks : List Keep) (bs : List (Option (List Keep))) (x : KD ks) (y : BD bs) : Option R :=
  match assoc (loopsOf E drawn Ln body K0) i with
  | some (c, K) => ev E Ln drawn c (headS ks bs x y) K
  | none => none

def rounds : Nat → (i : Nat) → (k : List Keep × List (Option (List Keep))) → KD k.1 → BD k.2 → Option R
  | 0, _, _, _, _ => none
  | n + 1, i, k, x, y => runOf E drawn body K0 (fun i => match assoc kp i with | some k => some (mkLp k (rounds n i k)) | none => none) i k.1 k.2 x y

def Lr (n i : Nat) : Option (Lp R) := match assoc kp i with | some k => some (mkLp k (rounds E drawn kp body K0 n i k)) | none => none

def tabR (i : Nat) : Option (Lpf R) := match assoc kp i with | some k => some ⟨k.1, k.2, fun n => rounds E drawn kp body K0 n i k⟩ | none => none

theorem tabR_at (n : Nat) : tabAt (tabR E drawn kp body K0) n = Lr E drawn kp body K0 n := by
  funext i
  unfold tabAt tabR Lr
  cases assoc kp i with
  | none => rfl
  | some k => rfl

def noDup : List Nat → Bool
  | [] => true
  | x :: l => !(l.any (Nat.beq x)) && noDup l

theorem noDup_ok : ∀ {l : List Nat}, noDup l = true → l.Nodup
  | [], _ => by simp
  | x :: l, h => by
    simp only [noDup, Bool.and_eq_true, Bool.not_eq_true'] at h
    refine List.nodup_cons.2 ⟨fun hm => ?_, noDup_ok h.2⟩
    have := List.any_eq_false.1 h.1 x hm
    exact this (Nat.beq_refl x)

theorem assoc_of_mem {β : Type _} : ∀ {l : List (Nat × β)}, (l.map (·.1)).Nodup → ∀ {i : Nat} {b : β}, (i, b) ∈ l → assoc l i = some b
  | [], _, i, b, h => by simp at h
  | (j, c) :: l, hn, i, b, h => by
    simp only [List.map_cons] at hn
    obtain ⟨n1, n2⟩ := List.nodup_cons.1 hn
    rcases List.mem_cons.1 h with e | h
    · cases e
      simp [assoc]
    · have : j ≠ i := fun e => n1 (e ▸ List.mem_map.2 ⟨_, h, rfl⟩)
      simp only [assoc]
      rw [show Nat.beq j i = false from by
        cases hb : Nat.beq j i with
        | false => rfl
        | true => exact absurd (Nat.eq_of_beq_eq_true hb) this]
      exact assoc_of_mem n2 h

theorem loopsOf_ids (n : Nat) : ∀ (c : Code) (K : Ex → St → Option R), (loopsOf E drawn (Lr E drawn kp body K0 n) c K).map (·.1) = idsOf kp c
  | .seq a b, K => by simp only [loopsOf, idsOf, List.map_append]; rw [loopsOf_ids n a, loopsOf_ids n b]
  | .cond _ a b, K => by simp only [loopsOf, idsOf, List.map_append]; rw [loopsOf_ids n a, loopsOf_ids n b]
  | .block _ c, K => by simp only [loopsOf, idsOf]; rw [loopsOf_ids n c]
  | .loop c, K => by
    simp only [loopsOf, idsOf]
    cases firstId c with
    | none => rfl
    | some i =>
      dsimp only
      have : Lr E drawn kp body K0 n i = none ↔ assoc kp i = none := by
        unfold Lr; cases assoc kp i <;> simp
      cases hk : assoc kp i with
      | none => rw [this.2 hk]; rfl
      | some k =>
        cases hl : Lr E drawn kp body K0 n i with
        | none => rw [this.1 hl] at hk; cases hk
        | some l => simp only [List.map_cons]; rw [loopsOf_ids n c]
  | .skip, _ => rfl
  | .region _ _ _, _ => rfl
  | .rangeFunc _ _ _ _, _ => rfl
  | .exit _, _ => rfl
  | .scope _, _ => rfl
  | .label _, _ => rfl
  | .goto _, _ => rfl
  | .ret, _ => rfl
  | .refuse _, _ => rfl

theorem loopsEq_part (hn : (idsOf kp body).Nodup) : ∀ (c : Code) (K : Nat → Ex → St → Option R),
    (∀ n, ∀ q ∈ loopsOf E drawn (Lr E drawn kp body K0 n) c (K n), q ∈ loopsOf E drawn (Lr E drawn kp body K0 n) body K0) → LoopsEq E drawn (tabR E drawn kp body K0) c K
  | .seq a b, K, h => by
    refine ⟨loopsEq_part hn a _ (fun n q hq => h n q ?_), loopsEq_part hn b _ (fun n q hq => h n q (by simp only [loopsOf]; exact List.mem_append.2 (.inr hq)))⟩
    simp only [loopsOf]
    refine List.mem_append.2 (.inl ?_)
    unfold seqK at hq
    rw [tabR_at] at hq
    exact hq
  | .cond _ a b, K, h => ⟨loopsEq_part hn a _ (fun n q hq => h n q (by simp only [loopsOf]; exact List.mem_append.2 (.inl hq))), loopsEq_part hn b _ (fun n q hq => h n q (by simp only [loopsOf]; exact List.mem_append.2 (.inr hq)))⟩
  | .block id c, K, h => loopsEq_part hn c (blockK id K) (fun n q hq => h n q (by simp only [loopsOf]; exact hq))
  | .loop c, K, h => by
    intro i l hi hl
    have ht : tabR E drawn kp body K0 i = some l := hl
    unfold tabR at ht
    cases hk : assoc kp i with
    | none => rw [hk] at ht; cases ht
    | some k =>
      rw [hk] at ht
      simp only [Option.some.injEq] at ht
      have hLr : ∀ n, Lr E drawn kp body K0 n i = some (l.at n) := fun n => by
        rw [← tabR_at]; unfold tabAt; rw [hl]; rfl
      have hmem : ∀ n, ∀ q, q ∈ (i, c, bodyK l K n) :: loopsOf E drawn (Lr E drawn kp body K0 n) c (bodyK l K n) → q ∈ loopsOf E drawn (Lr E drawn kp body K0 n) body K0 := by
        intro n q hq
        refine h n q ?_
        simp only [loopsOf, hi, hLr]
        exact hq
      refine ⟨⟨fun x y => by subst ht; rfl, fun n x y => ?_⟩, loopsEq_part hn c (bodyK l K) (fun n q hq => hmem n q (List.mem_cons_of_mem _ hq))⟩
      have ha := assoc_of_mem (by rw [loopsOf_ids]; exact hn) (hmem n (i, c, bodyK l K n) (List.mem_cons_self ..))
      subst ht
      rw [tabR_at]
      show runOf E drawn body K0 (Lr E drawn kp body K0 n) i k.1 k.2 x y = _
      unfold runOf
      rw [ha]
      rfl
  | .skip, _, _ => trivial
  | .region _ _ _, _, _ => trivial
  | .rangeFunc _ _ _ _, _, _ => trivial
  | .exit _, _, _ => trivial
  | .scope _, _, _ => trivial
  | .label _, _, _ => trivial
  | .goto _, _, _ => trivial
  | .ret, _, _ => trivial
  | .refuse _, _, _ => trivial

theorem loopsEq (hn : (idsOf kp body).Nodup) : LoopsEq E drawn (tabR E drawn kp body K0) body (fun _ => K0) :=
  loopsEq_part E drawn kp body K0 hn body _ (fun _ _ hq => hq)
end

end Go.Sx

namespace Go.Sx
open Go

theorem add_vars {z : Z} (hi : IZ z) {l : List SV} {cs : List Value} {e : TypeId} {blk : Nat} (hh : z.w.heap[blk]? = some (.cells cs.toArray e (0, 0))) (hv : VL z l cs) (hf : Free z [blk]) :
    ∃ rho', Grew z rho' (z.h ++ [.vars l]) [blk] ∧ rho' z.h.length = some (.v blk) := by
  refine ⟨rset z.rho z.h.length (.v blk), ?_, rset_same⟩
  have old : ∀ b d', rset z.rho z.h.length (.v blk) b = some d' → live (nth (z.h ++ [Blk.vars l]) b) → (b = z.h.length ∧ d' = .v blk) ∨ (b < z.h.length ∧ z.rho b = some d' ∧ live (nth z.h b)) := by
    intro b d' h1 h2
    rcases nth_snoc_cases z.h (Blk.vars l) b with ⟨e, _⟩ | ⟨e, h4⟩ | ⟨_, h4, _⟩
    · subst e; simp only [rset, if_pos] at h1; cases h1; exact .inl ⟨rfl, rfl⟩
    · have : b ≠ z.h.length := by omega
      simp only [rset, if_neg this] at h1
      rw [h4] at h2
      exact .inr ⟨e, h1, h2⟩
    · rw [h4] at h2; exact h2.elim
  have hext : Ext z (z.mk2 (rset z.rho z.h.length (.v blk)) (z.h ++ [.vars l])) := {
    im := fun k hk => ⟨hk, rfl⟩
    le := fun b => by
      show BlkLe (z.rho b) (rset z.rho z.h.length (.v blk) b) (nth z.h b) (nth (z.h ++ [Blk.vars l]) b)
      rcases nth_snoc_cases z.h (Blk.vars l) b with ⟨e, h4⟩ | ⟨e, h4⟩ | ⟨_, h4, h5⟩
      · subst e; rw [nth_none.2 (Nat.le_refl _)]; trivial
      · have : b ≠ z.h.length := by omega
        rw [h4]; simp only [rset, if_neg this]; exact BlkLe.refl _ _
      · rw [h5]; trivial }
  refine ⟨⟨?_, ?_, ?_, ?_⟩, hext, by simp, ?_, ?_⟩
  · intro b d' h1
    show SimB _ d' (nth (z.h ++ [Blk.vars l]) b)
    have h1 : rset z.rho z.h.length (.v blk) b = some d' := h1
    rcases nth_snoc_cases z.h (Blk.vars l) b with ⟨e', h4⟩ | ⟨e', h4⟩ | ⟨_, h4, _⟩
    · subst e'; simp only [rset, if_pos] at h1; cases h1; rw [h4]
      exact ⟨blk, cs, e, rfl, hh, VL.ext hext _ _ hv⟩
    · have hne : b ≠ z.h.length := by omega
      simp only [rset, if_neg hne] at h1
      rw [h4]
      exact (hi.sim b d' h1).ext hext (fun _ _ _ => rfl)
    · rw [h4]; trivial
  · intro b1 b2 d1 d2 h1 h2 l1 l2 hne k hk hk2
    rcases old b1 d1 h1 l1 with ⟨e0, e⟩ | ⟨_, e1, e2⟩
    · subst e
      rcases old b2 d2 h2 l2 with ⟨f0, _⟩ | ⟨_, f1, f2⟩
      · exact hne (e0.trans f0.symm)
      · exact (hf k hk).2 b2 d2 f1 f2 hk2
    · rcases old b2 d2 h2 l2 with ⟨_, f⟩ | ⟨_, f1, f2⟩
      · subst f; exact (hf k hk2).2 b1 d1 e1 e2 hk
      · exact hi.disj b1 b2 d1 d2 e1 f1 e2 f2 hne k hk hk2
  · intro b1 d1 h1 l1
    rcases old b1 d1 h1 l1 with ⟨_, e⟩ | ⟨_, e1, e2⟩
    · subst e; simp [D.blks]
    · exact hi.nodup b1 d1 e1 e2
  · intro b1 d1 h1 l1 k hk
    rcases old b1 d1 h1 l1 with ⟨_, e⟩ | ⟨_, e1, e2⟩
    · subst e; exact (hf k hk).1
    · exact hi.sep b1 d1 e1 e2 k hk
  · intro b hb
    exact ⟨nth_append_lt hb, by simp only [rset]; rw [if_neg (by omega)]⟩
  · intro b d hb hr hl k hk
    rcases old b d hr hl with ⟨_, e⟩ | ⟨e, _⟩
    · subst e; exact hk
    · omega

theorem Grew.more {z : Z} {r : Rho} {h : List Blk} {S S' : List Nat} (a : Grew z r h S) (hs : ∀ k ∈ S, k ∈ S') : Grew z r h S' :=
  ⟨a.iz, a.ext, a.len, a.old, fun b d h1 h2 h3 k hk => hs k (a.new b d h1 h2 h3 k hk)⟩

/-- boxes and the blocks behind them -/
inductive Bxs (rho : Rho) (h : List Blk) : List Nat → List Nat → Prop
  | nil : Bxs rho h [] []
  | cons {b blk : Nat} {bs blks : List Nat} : rho b = some (.v blk) → (∃ c, nth h b = some (.vars c)) → Bxs rho h bs blks → Bxs rho h (b :: bs) (blk :: blks)

theorem Bxs.append {rho : Rho} {h : List Blk} {bs cs blks clks : List Nat} (a : Bxs rho h bs blks) (b : Bxs rho h cs clks) : Bxs rho h (bs ++ cs) (blks ++ clks) := by
  induction a with
  | nil => exact b
  | cons h1 h2 _ ih => exact .cons h1 h2 ih

theorem Bxs.later {z : Z} {r : Rho} {h : List Blk} {S bs blks : List Nat} (a : Bxs z.rho z.h bs blks) (g : Grew z r h S) : Bxs r h bs blks := by
  induction a with
  | nil => exact .nil
  | cons h1 h2 _ ih =>
    obtain ⟨c, hc⟩ := h2
    have := g.old _ (nth_lt hc)
    exact .cons (this.2.trans h1) ⟨c, this.1.trans hc⟩ ih

theorem CV_noB {im : Nat → Prop} {w : World} : ∀ (v : SV) (c : Value) (S : List Nat), CV im w v c S [] → CV im w v c S [] := fun _ _ _ h => h

theorem enterL_cons (h : List Blk) (x : SV) (l : List SV) : enterL h (x :: l) = ((enter h x).1 :: (enterL (enter h x).2.1 l).1, (enterL (enter h x).2.1 l).2.1, (enter h x).2.2 ++ (enterL (enter h x).2.1 l).2.2) := rfl

mutual
theorem enter_ok : ∀ (v : SV) {z : Z} (_ : IZ z) (c : Value) (S B : List Nat), CV z.im z.w v c S B → S.Nodup → Free z S → (enter z.h v).2.2.length = B.length →
    ∃ rho', Grew z rho' (enter z.h v).2.1 S ∧ V (z.mk2 rho' (enter z.h v).2.1) (enter z.h v).1 c ∧ Bxs rho' (enter z.h v).2.1 (enter z.h v).2.2 B
  | .val t x, z, hi, c, S, B, hv, _, _, _ => by
    simp only [CV] at hv
    obtain ⟨rfl, rfl, cs, h1, h2⟩ := hv
    refine ⟨z.rho, Grew.refl hi, ?_, .nil⟩
    simp only [enter, V]
    exact ⟨cs, h1, h2⟩
  | .nil, z, hi, c, S, B, hv, _, _, _ => by
    simp only [CV] at hv
    obtain ⟨rfl, rfl, rfl⟩ := hv
    exact ⟨z.rho, Grew.refl hi, by simp only [enter, V], .nil⟩
  | .fr t x, z, hi, c, S, B, hv, hn, hf, _ => by
    simp only [CV] at hv
    obtain ⟨rfl, h1, h2⟩ := hv
    simp only [enter]
    obtain ⟨r, g, v⟩ := add_arr hi h2 h1 hn hf
    exact ⟨r, g, v, .nil⟩
  | .agg l, z, hi, c, S, B, hv, hn, hf, hl => by
    simp only [CV] at hv
    obtain ⟨cs, rfl, h2⟩ := hv
    simp only [enter, List.length_nil] at hl
    have hB : B = [] := List.length_eq_zero_iff.1 hl.symm
    subst hB
    obtain ⟨rho', g1, g2⟩ := thawL_ok l hi cs S h2 hn hf
    simp only [enter]
    refine ⟨rho', g1, ?_, .nil⟩
    simp only [V]
    exact ⟨cs, rfl, g2⟩
  | .tup l, z, hi, c, S, B, hv, hn, hf, hl => by
    simp only [CV] at hv
    obtain ⟨cs, rfl, h2⟩ := hv
    simp only [enter, List.length_nil] at hl
    have hB : B = [] := List.length_eq_zero_iff.1 hl.symm
    subst hB
    obtain ⟨rho', g1, g2⟩ := thawL_ok l hi cs S h2 hn hf
    simp only [enter]
    refine ⟨rho', g1, ?_, .nil⟩
    simp only [V]
    exact ⟨cs, rfl, g2⟩
  | .fn f l, z, hi, c, S, B, hv, hn, hf, hl => by
    simp only [CV] at hv
    obtain ⟨cs, rfl, h2⟩ := hv
    simp only [enter] at hl
    obtain ⟨rho', g1, g2, g3⟩ := enterL_ok l hi cs S B h2 hn hf hl
    simp only [enter]
    refine ⟨rho', g1, ?_, g3⟩
    simp only [V]
    exact ⟨cs, rfl, g2⟩
  | .mr l, z, hi, c, S, B, hv, hn, hf, _ => by
    simp only [CV] at hv
    obtain ⟨blk, cs, e, S', rfl, rfl, rfl, h4, h5⟩ := hv
    obtain ⟨n1, n2⟩ := List.nodup_cons.1 hn
    obtain ⟨r1, g1, v1⟩ := thawL_ok l hi cs S' h5 n2 (fun k hk => hf k (by simp [hk]))
    obtain ⟨r2, g2, v2⟩ := add_vars (z := z.mk2 r1 (thawL z.h l).2) g1.iz h4 v1 (Free.step g1 (fun k hk => hf k (by simp only [List.mem_singleton] at hk; simp [hk])) (fun k hk hb => by
      simp only [List.mem_singleton] at hb; subst hb; exact n1 hk))
    simp only [enter]
    refine ⟨r2, (g1.trans g2).more (fun k hk => ?_), ?_, .cons v2 ⟨_, nth_snoc _ _⟩ .nil⟩
    · rcases List.mem_append.1 hk with q | q
      · simp [q]
      · simp only [List.mem_singleton] at q; simp [q]
    · simp only [V]
      refine ⟨⟨_, rfl⟩, ?_⟩
      show match nth ((thawL z.h l).2 ++ [Blk.vars (thawL z.h l).1]) (thawL z.h l).2.length with | some (.vars _) => _ | some .lent => _ | some _ => True | none => False
      rw [nth_snoc]
      exact ⟨blk, v2, rfl⟩
  | .own _ _, _, _, _, _, _, h, _, _, _ => by simp only [CV] at h
  | .sub _ _ _ _, _, _, _, _, _, h, _, _, _ => by simp only [CV] at h
  | .ptr _ _, _, _, _, _, _, h, _, _, _ => by simp only [CV] at h
  | .eptr _ _ _ _, _, _, _, _, _, h, _, _, _ => by simp only [CV] at h
  | .rptr _ _ _, _, _, _, _, _, h, _, _, _ => by simp only [CV] at h
  | .dead, _, _, _, _, _, h, _, _, _ => by simp only [CV] at h
theorem enterL_ok : ∀ (l : List SV) {z : Z} (_ : IZ z) (cs : List Value) (S B : List Nat), CVL z.im z.w l cs S B → S.Nodup → Free z S → (enterL z.h l).2.2.length = B.length →
    ∃ rho', Grew z rho' (enterL z.h l).2.1 S ∧ VL (z.mk2 rho' (enterL z.h l).2.1) (enterL z.h l).1 cs ∧ Bxs rho' (enterL z.h l).2.1 (enterL z.h l).2.2 B
  | [], z, hi, cs, S, B, hv, _, _, _ => by
    simp only [CVL] at hv
    obtain ⟨rfl, rfl, rfl⟩ := hv
    exact ⟨z.rho, Grew.refl hi, by simp only [enterL, VL], .nil⟩
  | x :: l, z, hi, cs, S, B, hv, hn, hf, hl => by
    simp only [CVL] at hv
    obtain ⟨c, r, S1, S2, B1, B2, rfl, rfl, rfl, h4, h5⟩ := hv
    obtain ⟨n1, n2, n3⟩ := nodup_parts hn
    rw [enterL_cons] at hl ⊢
    simp only [List.length_append] at hl
    have hge1 := enter_boxes x h4 (h := z.h)
    have hge2 := enterL_boxes l h5 (h := (enter z.h x).2.1)
    obtain ⟨r1, g1, v1, x1⟩ := enter_ok x hi c S1 B1 h4 n1 (fun k hk => hf k (by simp [hk])) (by omega)
    obtain ⟨r2, g2, v2, x2⟩ := enterL_ok l (z := z.mk2 r1 (enter z.h x).2.1) g1.iz r S2 B2 h5 n2 (Free.step g1 (fun k hk => hf k (by simp [hk])) n3) (by
      show (enterL (enter z.h x).2.1 l).2.2.length = _
      omega)
    refine ⟨r2, g1.trans g2, ?_, (x1.later (z := z.mk2 r1 (enter z.h x).2.1) g2).append x2⟩
    simp only [VL]
    exact ⟨c, r, rfl, V.ext g2.ext _ _ v1, v2⟩
/-- no more boxes than blocks that are lent -/
theorem enter_boxes {im : Nat → Prop} {w : World} : ∀ (v : SV) {c : Value} {S B : List Nat} (_ : CV im w v c S B) {h : List Blk}, (enter h v).2.2.length ≤ B.length
  | .val t x, _, _, _, _, _ => by simp [enter]
  | .nil, _, _, _, _, _ => by simp [enter]
  | .fr t x, _, _, _, _, _ => by simp [enter]
  | .agg l, _, _, _, _, _ => by simp [enter]
  | .tup l, _, _, _, _, _ => by simp [enter]
  | .fn f l, c, S, B, hv, h => by
    simp only [CV] at hv
    obtain ⟨cs, _, h2⟩ := hv
    simp only [enter]
    exact enterL_boxes l h2
  | .mr l, c, S, B, hv, h => by
    simp only [CV] at hv
    obtain ⟨blk, cs, e, S', _, _, rfl, _, _⟩ := hv
    simp [enter]
  | .own _ _, _, _, _, h, _ => by simp only [CV] at h
  | .sub _ _ _ _, _, _, _, h, _ => by simp only [CV] at h
  | .ptr _ _, _, _, _, h, _ => by simp only [CV] at h
  | .eptr _ _ _ _, _, _, _, h, _ => by simp only [CV] at h
  | .rptr _ _ _, _, _, _, h, _ => by simp only [CV] at h
  | .dead, _, _, _, h, _ => by simp only [CV] at h
theorem enterL_boxes {im : Nat → Prop} {w : World} : ∀ (l : List SV) {cs : List Value} {S B : List Nat} (_ : CVL im w l cs S B) {h : List Blk}, (enterL h l).2.2.length ≤ B.length
  | [], _, _, _, _, _ => by simp [enterL]
  | x :: l, cs, S, B, hv, h => by
    simp only [CVL] at hv
    obtain ⟨c, r, S1, S2, B1, B2, _, _, rfl, h4, h5⟩ := hv
    rw [enterL_cons]
    simp only [List.length_append]
    have := enter_boxes x h4 (h := h)
    have := enterL_boxes l h5 (h := (enter h x).2.1)
    omega
end

end Go.Sx

namespace Go.Sx
open Go

theorem cellRes_ok {P : Program} {E : Env} (hE : EnvOk0 P E) {g : G} {rho : Rho} {s : St} {a : Act} {w : World} (hs : Sim g rho s a w) {x : Tmp} {t : TypeId} {v : SV} (h : cellRes E s x t = some v) :
    ∃ cv, ((do loadVar t (← asAddr (a.tmps.getD x undef))) : Sem Value).run P w = .ok cv w ∧ V (zOf g rho s.heap w) v cv := by
  unfold cellRes at h
  split at h
  · rename_i ty ht
    split at h
    · rename_i b off hg
      split at h
      · rename_i c hb
        obtain ⟨v', h1, h2, h3⟩ := loadC_ok h
        cases h1
        have hv := get_ok hs (.tmp x)
        rw [hg] at hv
        obtain ⟨blk, h4, h5⟩ := V_ptr (z := zOf g rho s.heap w) hv hb
        have hsim := hs.inv.sim b _ h4
        rw [hb] at hsim
        obtain ⟨blk', cs, e, k1, k2, k3⟩ := hsim
        cases k1
        have hcut := k3.cut off ty.size
        have h5 : a.tmps.getD x undef = .pointer (some ⟨blk, off, none⟩) := h5
        rw [h5]
        refine ⟨_, run_loadAt hE ht rfl (by rw [← hcut.length]; exact h2) ?_, h3 g w rho _ hs.inv hcut⟩
        have : Reads w ⟨blk, 0, none⟩ cs := by
          intro j c' hj
          have hk2 : w.heap[blk]? = _ := k2
          simp only [World.cell?, hk2, Option.isSome_none, Bool.false_eq_true, if_false, Nat.zero_add]
          simpa using hj
        simpa using this.part off ty.size
      · cases h
    · cases h
  · cases h

theorem resS_ok {P : Program} {E : Env} (hE : EnvOk0 P E) {g : G} {rho : Rho} {s : St} {a : Act} {w : World} (hs : Sim g rho s a w) (f : ResultVar → Sem Value) (f1 : ∀ t, f (.tmp t) = pure (a.tmps.getD t undef)) (f2 : ∀ x t, f (.cell x t) = (do loadVar t (← asAddr (a.tmps.getD x undef)))) :
    ∀ (l : List ResultVar) {vs : List SV}, resS E s l = some vs → ∃ cvs, (l.mapM f : Sem (List Value)).run P w = .ok cvs w ∧ VL (zOf g rho s.heap w) vs cvs
  | [], vs, h => by simp only [resS, Option.some.injEq] at h; subst h; exact ⟨[], rfl, by simp [VL]⟩
  | .tmp t :: l, vs, h => by
    simp only [resS] at h
    split at h
    · rename_i r hr
      simp only [Option.some.injEq] at h
      subst h
      obtain ⟨cvs, h1, h2⟩ := resS_ok hE hs f f1 f2 l hr
      refine ⟨a.tmps.getD t undef :: cvs, ?_, ?_⟩
      · rw [List.mapM_cons, f1, Sx.run_bind_ok (a := a.tmps.getD t undef) (w' := w) rfl, Sx.run_bind_ok h1]
        rfl
      · simp only [VL]
        exact ⟨a.tmps.getD t undef, _, rfl, get_ok hs (.tmp t), h2⟩
    · cases h
  | .cell x t :: l, vs, h => by
    simp only [resS] at h
    split at h
    · rename_i v hv
      split at h
      · rename_i r hr
        simp only [Option.some.injEq] at h
        subst h
        obtain ⟨cv, k1, k2⟩ := cellRes_ok hE hs hv
        obtain ⟨cvs, h1, h2⟩ := resS_ok hE hs f f1 f2 l hr
        refine ⟨cv :: cvs, ?_, ?_⟩
        · rw [List.mapM_cons, f2, Sx.run_bind_ok k1, Sx.run_bind_ok h1]
          rfl
        · simp only [VL]
          exact ⟨_, _, rfl, k2, h2⟩
      · cases h
    · cases h

def oneOrTupV : List Value → Value
  | [x] => x
  | l => .tuple l.toArray

theorem results_run {P : Program} {E : Env} (hE : EnvOk0 P E) {g : G} {rho : Rho} {s : St} {a : Act} {w : World} (hs : Sim g rho s a w) {fn : Func} {vs : List SV} (h : resS E s fn.results.toList = some vs) :
    ∃ cvs, (results fn a.tmps).run P w = .ok (oneOrTupV cvs) w ∧ VL (zOf g rho s.heap w) vs cvs := by
  have conv : ∀ (x : Sem (List Value)) (f : Array Value → Sem Value) (l : List Value), x.run P w = .ok l w → ((List.toArray <$> x) >>= f).run P w = (f l.toArray).run P w := by
    intro x f l hx
    rw [show (List.toArray <$> x) = (x >>= fun a => pure a.toArray) from (bind_pure_comp _ _).symm, bind_assoc, Sx.run_bind_ok hx]
    rfl
  unfold results
  rw [Array.mapM_eq_mapM_toList]
  obtain ⟨cvs, h1, h2⟩ := resS_ok hE hs (fun | .tmp t => pure (a.tmps.getD t undef) | .cell x t => do loadVar t (← asAddr (a.tmps.getD x undef))) (fun _ => rfl) (fun _ _ => rfl) fn.results.toList h
  refine ⟨cvs, ?_, h2⟩
  refine (conv _ _ _ h1).trans ?_
  match cvs with
  | [] => rfl
  | [x] => rfl
  | x :: y :: l => rfl

theorem oneOrTup_V {z : Z} {vs : List SV} {cs : List Value} (h : VL z vs cs) : V z (oneOrTup vs) (oneOrTupV cs) := by
  match vs, cs, h with
  | [], cs, h =>
    have := h.length
    have hc : cs = [] := List.length_eq_zero_iff.1 this.symm
    subst hc
    simp only [oneOrTup, V]
    exact ⟨[], rfl, h⟩
  | [v], cs, h =>
    simp only [VL] at h
    obtain ⟨c, r, rfl, h2, rfl⟩ := h
    exact h2
  | v :: v' :: l, cs, h =>
    have h0 := h
    simp only [VL] at h
    obtain ⟨c, r, rfl, h2, c', r', rfl, h3, h4⟩ := h
    simp only [oneOrTup, V]
    exact ⟨_, rfl, h0⟩

theorem finB_ok {im : Nat → Prop} {w : World} {rho : Rho} : ∀ (boxes B : List Nat) (h : List Blk) {outs : List (List SV)}, IZ ⟨im, w, rho, h⟩ → (∀ q ∈ boxes.zip B, Bx rho h q.1 q.2) → boxes.length = B.length → finB h boxes = some outs →
    ∃ S, Outs im w outs B S ∧ S.Nodup ∧ ∀ k ∈ S, ∃ b d, rho b = some d ∧ live (nth h b) ∧ k ∈ d.blks
  | [], [], h, outs, hi, hb, hl, he => by
    simp only [finB, Option.some.injEq] at he
    subst he
    exact ⟨[], by simp only [Outs], by simp, by simp⟩
  | [], _ :: _, h, outs, hi, hb, hl, he => by simp at hl
  | _ :: _, [], h, outs, hi, hb, hl, he => by simp at hl
  | b :: bs, blk :: B, h, outs, hi, hb, hl, he => by
    simp only [finB] at he
    split at he
    · rename_i c hc
      split at he
      · rename_i c' h' hp
        split at he
        · rename_i r hr
          simp only [Option.some.injEq] at he
          subst he
          have hrho : rho b = some (.v blk) := by
            rcases hb (b, blk) (by simp) with q | ⟨q, _⟩
            · have q : nth h b = some .gone := q
              rw [hc] at q; cases q
            · exact q
          have hs := hi.sim b _ hrho
          have hs : SimB _ (.v blk) (nth h b) := hs
          rw [hc] at hs
          obtain ⟨blk', cs, e, k1, k2, k3⟩ := hs
          cases k1
          have hog := off_gone (h := h) (b := b) (by rw [hc]; simp)
          have hi2 := off_iz (z := ⟨im, w, rho, h⟩) hi hog
          obtain ⟨S1, m1, m2, m3, m4⟩ := pubL_ok (z := ⟨im, w, rho, upd h b .gone⟩) hi2 rfl c cs c' h' (VL.ext (off_ext (z := ⟨im, w, rho, h⟩) hog) _ _ k3) hp
          have hi3 := off_iz (z := ⟨im, w, rho, upd h b .gone⟩) hi2 m3
          have hb3 : ∀ q ∈ bs.zip B, Bx rho h' q.1 q.2 := by
            intro q hq
            have h0 := hb q (by simp only [List.zip_cons_cons]; exact List.mem_cons_of_mem _ hq)
            exact (h0.le ((off_ext (z := ⟨im, w, rho, h⟩) hog).le q.1)).le ((off_ext (z := ⟨im, w, rho, upd h b .gone⟩) m3).le q.1)
          obtain ⟨S2, n1, n2, n3⟩ := finB_ok bs B h' hi3 hb3 (by simpa using hl) hr
          have hgone : nth (upd h b .gone) b = some .gone := nth_upd_eq hc
          have live1 : ∀ b', live (nth (upd h b .gone) b') → b' ≠ b ∧ live (nth h b') := by
            intro b' hl'
            refine ⟨fun e => ?_, off_live hog hl'⟩
            subst e; rw [hgone] at hl'; exact hl'
          have live2 : ∀ b', live (nth h' b') → live (nth (upd h b .gone) b') := fun b' hl' => off_live m3 hl'
          have hbl : live (nth h b) := by rw [hc]; trivial
          refine ⟨blk :: (S1 ++ S2), ?_, ?_, ?_⟩
          · simp only [Outs]
            exact ⟨cs, e, S1, S2, rfl, k2, m1, n1⟩
          · refine List.nodup_cons.2 ⟨fun hm => ?_, List.nodup_append.2 ⟨m2, n2, fun x hx y hy e => ?_⟩⟩
            · rcases List.mem_append.1 hm with hm | hm
              · obtain ⟨b', d', q1, q2, _, _, q5⟩ := m4 blk hm
                have := live1 b' q2
                exact hi.disj b' b d' _ q1 hrho this.2 hbl this.1 blk q5 (by simp [D.blks])
              · obtain ⟨b', d', q1, q2, q5⟩ := n3 blk hm
                have := live1 b' (live2 b' q2)
                exact hi.disj b' b d' _ q1 hrho this.2 hbl this.1 blk q5 (by simp [D.blks])
            · subst e
              obtain ⟨b1, d1, q1, q2, q3, q4, q5⟩ := m4 x hx
              obtain ⟨b2, d2, r1, r2, r5⟩ := n3 x hy
              have hne : b1 ≠ b2 := by
                intro e
                subst e
                have q3 : nth h' b1 = some .gone ∨ nth h' b1 = some .lent := q3
                rcases q3 with q3 | q3
                · rw [q3] at r2; exact r2
                · exact q4 (pubL_lent c hp b1 q3)
              exact hi.disj b1 b2 d1 d2 q1 r1 (live1 b1 q2).2 (live1 b2 (live2 b2 r2)).2 hne x q5 r5
          · intro k hk
            rcases List.mem_cons.1 hk with e | hk
            · subst e
              exact ⟨b, _, hrho, hbl, by simp [D.blks]⟩
            · rcases List.mem_append.1 hk with hk | hk
              · obtain ⟨b', d', q1, q2, _, _, q5⟩ := m4 k hk
                exact ⟨b', d', q1, (live1 b' q2).2, q5⟩
              · obtain ⟨b', d', q1, q2, q5⟩ := n3 k hk
                exact ⟨b', d', q1, (live1 b' (live2 b' q2)).2, q5⟩
        · cases he
      · cases he
    · cases he

mutual
def mrs : SV → Nat
  | .mr _ => 1
  | .fn _ l => mrsL l
  | .agg l => mrsL l
  | .tup l => mrsL l
  | _ => 0
def mrsL : List SV → Nat
  | [] => 0
  | x :: l => mrs x + mrsL l
end

mutual
theorem CV.mrs {im : Nat → Prop} {w : World} : ∀ (v : SV) {c : Value} {S B : List Nat}, CV im w v c S B → B.length = Sx.mrs v
  | .val t x, _, _, _, h => by simp only [CV] at h; rw [h.2.1]; rfl
  | .nil, _, _, _, h => by simp only [CV] at h; rw [h.2.1]; rfl
  | .fr t x, _, _, _, h => by simp only [CV] at h; rw [h.1]; rfl
  | .agg l, _, _, _, h => by simp only [CV] at h; obtain ⟨cs, _, h2⟩ := h; exact CVL.mrs l h2
  | .tup l, _, _, _, h => by simp only [CV] at h; obtain ⟨cs, _, h2⟩ := h; exact CVL.mrs l h2
  | .fn f l, _, _, _, h => by simp only [CV] at h; obtain ⟨cs, _, h2⟩ := h; exact CVL.mrs l h2
  | .mr l, _, _, _, h => by
    simp only [CV] at h
    obtain ⟨blk, cs, e, S', _, _, h3, _, _⟩ := h
    rw [h3]; rfl
  | .own _ _, _, _, _, h => by simp only [CV] at h
  | .sub _ _ _ _, _, _, _, h => by simp only [CV] at h
  | .ptr _ _, _, _, _, h => by simp only [CV] at h
  | .eptr _ _ _ _, _, _, _, h => by simp only [CV] at h
  | .rptr _ _ _, _, _, _, h => by simp only [CV] at h
  | .dead, _, _, _, h => by simp only [CV] at h
theorem CVL.mrs {im : Nat → Prop} {w : World} : ∀ (l : List SV) {c : List Value} {S B : List Nat}, CVL im w l c S B → B.length = Sx.mrsL l
  | [], _, _, _, h => by simp only [CVL] at h; rw [h.2.2]; rfl
  | x :: l, _, _, _, h => by
    simp only [CVL] at h
    obtain ⟨c1, r, S1, S2, B1, B2, h1, h2, h3, h4, h5⟩ := h
    rw [h3, List.length_append, CV.mrs x h4, CVL.mrs l h5]; rfl
end

/-- where a function begins -/
def startSt (ntmps : Nat) (args : List SV) : St := ⟨(enterL [] args).1 ++ List.replicate (ntmps - args.length) (.tup []), (enterL [] args).2.1⟩

def boxesOk (args : List SV) (kp : List (Nat × (List Keep × List (Option (List Keep))))) : Bool :=
  Nat.beq (enterL [] args).2.2.length (mrsL args) && (enterL [] args).2.2.all fun b => kp.all fun q => Nat.blt b q.2.2.length

theorem VL_replicate {z : Z} : ∀ n, VL z (List.replicate n (.tup [])) (List.replicate n undef)
  | 0 => by simp [VL]
  | n + 1 => by simp only [List.replicate_succ, VL]; exact ⟨_, _, rfl, V_undef, VL_replicate n⟩

theorem assoc_mem {β : Type _} : ∀ {l : List (Nat × β)} {i : Nat} {b : β}, assoc l i = some b → (i, b) ∈ l
  | [], _, _, h => by simp [assoc] at h
  | (j, c) :: l, i, b, h => by
    simp only [assoc] at h
    cases hb : Nat.beq j i with
    | true =>
      rw [hb] at h
      simp only [cond_true, Option.some.injEq] at h
      subst h
      rw [Nat.eq_of_beq_eq_true hb]; simp
    | false => rw [hb] at h; exact List.mem_cons_of_mem _ (assoc_mem h)

theorem CVL_length {im : Nat → Prop} {w : World} : ∀ (l : List SV) {c : List Value} {S B : List Nat}, CVL im w l c S B → l.length = c.length
  | [], _, _, _, h => by simp only [CVL] at h; rw [h.1]; rfl
  | x :: l, _, _, _, h => by
    simp only [CVL] at h
    obtain ⟨c1, r, S1, S2, B1, B2, h1, h2, h3, h4, h5⟩ := h
    rw [h1, List.length_cons, List.length_cons, CVL_length l h5]

theorem Outs.mono {im im' : Nat → Prop} {w : World} (hi : ∀ k, im k → im' k) : ∀ (cs : List (List SV)) (bs S : List Nat), Outs im w cs bs S → Outs im' w cs bs S
  | [], [], S, h => h
  | [], _ :: _, S, h => h
  | _ :: _, [], S, h => h
  | c :: cs, b :: bs, S, h => by
    simp only [Outs] at h ⊢
    obtain ⟨cells, e, S1, S2, h1, h2, h3, h4⟩ := h
    exact ⟨cells, e, S1, S2, h1, h2, CVL.mono hi c cells S1 [] h3, Outs.mono hi cs bs S2 h4⟩

theorem fn_ok {P : Program} {E : Env} {drawn : Array Oper → Bool} {kp : List (Nat × (List Keep × List (Option (List Keep))))} (hE : EnvOk P E) (hD : DrawnOk P E drawn) {f : FuncId} {fn : Func} {body : Code}
    (hf : P.funcs[f]? = some fn) (hb : fn.body = some body) (hn : noDup (idsOf kp body) = true) {args : List SV} (hbx : boxesOk args kp = true) (N : Nat) {sv : SV} {outs : List (List SV)}
    (hev : ev E (Lr E drawn kp body (finK E fn.results.toList (enterL [] args).2.2) N) drawn body (startSt fn.ntmps args) (finK E fn.results.toList (enterL [] args).2.2) = some (sv, outs)) : CallOk P f args sv outs := by
  intro p w cargs S B hcv hnd hS hp
  simp only [boxesOk, Bool.and_eq_true] at hbx
  have hlen : (enterL [] args).2.2.length = B.length := (Nat.eq_of_beq_eq_true hbx.1).trans (CVL.mrs args hcv).symm
  have hz0 : IZ (⟨p, w, fun _ => none, []⟩ : Z) := ⟨fun b d h => (by cases h), fun b b' d d' h => (by cases h), fun b d h => (by cases h), fun b d h => (by cases h)⟩
  obtain ⟨rho1, g1, v1, x1⟩ := enterL_ok args (z := ⟨p, w, fun _ => none, []⟩) hz0 cargs S B hcv hnd (fun k hk => ⟨(hS k hk).1, fun b d h => (by cases h)⟩) hlen
  let g : G := ⟨p, S, w, (enterL [] args).2.2.zip B⟩
  let h0 : List Blk := (enterL [] args).2.1
  have hto : Ext (⟨p, w, rho1, h0⟩ : Z) (zOf g rho1 h0 w) := by
    refine ⟨fun k hk => ⟨⟨.inl hk, hp k hk, fun ⟨b, d, o1, o2, o3⟩ => g1.iz.sep b d o1 o2 k o3 hk⟩, rfl⟩, fun b => BlkLe.refl _ _⟩
  have hinv : Inv g rho1 h0 w := by
    refine ⟨fun b d hd => (g1.iz.sim b d hd).ext hto (fun _ _ _ => rfl), g1.iz.disj, g1.iz.nodup, fun b d hd hl k hk => ?_, Kept.refl _ _⟩
    have := g1.new b d (Nat.zero_le _) hd hl k hk
    exact ⟨(hS k this).2, .inl this⟩
  have hszc : cargs.toArray.size = args.length := by simpa using (CVL_length args hcv).symm
  have hsim : Sim g rho1 (startSt fn.ntmps args) { tmps := cargs.toArray ++ Array.replicate (fn.ntmps - cargs.toArray.size) undef, defers := [] } w := by
    refine ⟨hinv, ?_, rfl, fun q hq => ?_⟩
    · rw [hszc]
      simp only [startSt, Array.toList_append, Array.toList_replicate]
      exact (VL.ext hto _ _ v1).append (VL_replicate _)
    · have : ∀ {bs blks : List Nat}, Bxs rho1 h0 bs blks → ∀ q ∈ bs.zip blks, Bx rho1 h0 q.1 q.2 := by
        intro bs blks hx
        induction hx with
        | nil => intro q hq; simp at hq
        | cons h1 h2 _ ih =>
          intro q hq
          simp only [List.zip_cons_cons] at hq
          rcases List.mem_cons.1 hq with e | hq
          · subst e; exact .inr ⟨h1, .inl h2⟩
          · exact ih q hq
      exact this x1 q hq
  have hB : ∀ i l, tabR E drawn kp body (finK E fn.results.toList (enterL [] args).2.2) i = some l → ∀ q ∈ g.bx, q.1 < l.blks.length := by
    intro i l hl q hq
    unfold tabR at hl
    cases hk : assoc kp i with
    | none => rw [hk] at hl; cases hl
    | some k =>
      rw [hk] at hl
      simp only [Option.some.injEq] at hl
      subst hl
      have h1 := List.all_eq_true.1 hbx.2 q.1 (List.of_mem_zip hq).1
      have h2 := List.all_eq_true.1 h1 (i, k) (assoc_mem hk)
      simp only [Nat.blt, Nat.ble_eq] at h2
      show q.1 < k.2.length
      omega
  refine calls_of_wp hf hb ?_
  refine ev_ok hE hD hB (r := (sv, outs)) body (fun _ => finK E fn.results.toList (enterL [] args).2.2) _ N (startSt fn.ntmps args) rho1 _ w (loopsEq E drawn kp body _ (noDup_ok hn)) ?_ (by rw [tabR_at]; exact hev) hsim
  intro m _ e s' he rho a w' hs
  have hfin : (e = .normal ∨ e = .ret) ∧ fin E fn.results.toList (enterL [] args).2.2 s' = some (sv, outs) := by
    cases e with
    | normal => exact ⟨.inl rfl, he⟩
    | ret => exact ⟨.inr rfl, he⟩
    | exit id => cases he
  obtain ⟨hee, hfin⟩ := hfin
  have post : a.defers = [] ∧ ∃ v, (results fn a.tmps).run P w' = .ok v w' ∧ ∃ cr S1 S2, Ending.returned v = .returned cr ∧ (S1 ++ S2).Nodup ∧ (∀ k ∈ S1 ++ S2, (k ∈ S ∨ w.heap.size ≤ k) ∧ k < w'.heap.size) ∧ Kept w w' S ∧
      CV (after p S (S1 ++ S2) w w') w' sv cr S1 [] ∧ Outs (after p S (S1 ++ S2) w w') w' outs B S2 := by
    refine ⟨hs.defers, ?_⟩
    unfold fin at hfin
    split at hfin
    · cases hfin
    · rename_i vs hvs
      split at hfin
      · cases hfin
      · rename_i v' h1 hpub
        split at hfin
        · cases hfin
        · rename_i o ho
          simp only [Option.some.injEq, Prod.mk.injEq] at hfin
          obtain ⟨rfl, rfl⟩ := hfin
          obtain ⟨cvs, t1, hvl⟩ := results_run hE.toEnvOk0 hs hvs
          have hv := oneOrTup_V hvl
          have hiz := hs.inv.iz
          obtain ⟨S1, m1, m2, m3, m4⟩ := pub_ok hiz rfl _ _ v' h1 hv hpub
          have hi1 := off_iz hiz m3
          obtain ⟨S2, n1, n2, n3⟩ := finB_ok (im := Im g rho s'.heap w') (w := w') (rho := rho) _ B h1 hi1 (fun q hq => (hs.bx q hq).le ((off_ext m3).le q.1)) hlen ho
          have hlive1 : ∀ b, live (nth h1 b) → live (nth s'.heap b) := fun b hl => off_live m3 hl
          have hsub : ∀ k ∈ S1 ++ S2, ∃ b d, rho b = some d ∧ live (nth s'.heap b) ∧ k ∈ d.blks := by
            intro k hk
            rcases List.mem_append.1 hk with hk | hk
            · obtain ⟨b, d, q1, q2, _, _, q5⟩ := m4 k hk
              exact ⟨b, d, q1, q2, q5⟩
            · obtain ⟨b, d, q1, q2, q5⟩ := n3 k hk
              exact ⟨b, d, q1, hlive1 b q2, q5⟩
          have him : ∀ k, Im g rho s'.heap w' k → after p S (S1 ++ S2) w w' k := by
            intro k hk
            refine ⟨hk.1, hk.2.1, fun hm => ?_⟩
            obtain ⟨b, d, q1, q2, q3⟩ := hsub k hm
            exact hk.2.2 ⟨b, d, q1, q2, q3⟩
          refine ⟨_, t1, _, S1, S2, rfl, ?_, fun k hk => ?_, hs.inv.kept, CV.mono him _ _ _ _ m1, ?_⟩
          · refine List.nodup_append.2 ⟨m2, n2, fun x hx y hy e => ?_⟩
            subst e
            obtain ⟨b1, d1, q1, q2, q3, q4, q5⟩ := m4 x hx
            obtain ⟨b2, d2, r1, r2, r5⟩ := n3 x hy
            have hne : b1 ≠ b2 := by
              intro e
              subst e
              have q3 : nth h1 b1 = some .gone ∨ nth h1 b1 = some .lent := q3
              rcases q3 with q3 | q3
              · rw [q3] at r2; exact r2
              · exact q4 (pub_lent _ hpub b1 q3)
            exact hs.inv.disj b1 b2 d1 d2 q1 r1 q2 (hlive1 b2 r2) hne x q5 r5
          · obtain ⟨b, d, q1, q2, q3⟩ := hsub k hk
            have := hs.inv.range b d q1 q2 k q3
            exact ⟨this.2, this.1⟩
          · exact Outs.mono him _ _ _ n1
  rcases hee with e1 | e1 <;> (subst e1; exact post)

end Go.Sx
