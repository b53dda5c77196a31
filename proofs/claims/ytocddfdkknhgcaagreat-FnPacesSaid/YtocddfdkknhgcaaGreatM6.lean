/- The head of a loop: what is kept there. -/
import Derived.Test.YtocddfdkknhgcaaGreatM5
set_option linter.unusedVariables false
set_option linter.unusedSimpArgs false
namespace Go.Sx
open Go
def Y2 (h h' : List Blk) : Prop := h'.length = h.length ∧ ∀ b, nth h' b = nth h b ∨ nth h' b = some .gone
theorem Y2.refl (h : List Blk) : Y2 h h := ⟨rfl, fun _ => .inl rfl⟩
theorem Y2.trans {h h' h'' : List Blk} (a : Y2 h h') (b : Y2 h' h'') : Y2 h h'' := by
 refine ⟨b.1.trans a.1, fun k => ?_⟩
 rcases b.2 k with e | e
 ·rw [e]; exact a.2 k
 ·exact .inr e
theorem Ze9 (h : List Blk) (b : Nat) : Y2 h (upd h b .gone) := by
 refine ⟨Z0 _ _ _, fun k => ?_⟩
 rcases Z5 h b k Blk.gone with ⟨_, h2, _⟩ | h2
 ·exact .inr h2
 ·exact .inl h2
theorem Qe : ∀ (l : List Nat) (h : List Blk), Y2 h (UP h l)
 | [], h => Y2.refl h
 | b :: l, h => (Ze9 h b).trans (Qe l _)
theorem Y2.live {h h' : List Blk} (a : Y2 h h') {b : Nat} (hl : Sx.live (nth h' b)) : nth h' b = nth h b ∧ Sx.live (nth h b) := by
 rcases a.2 b with e | e
 ·exact ⟨e, e ▸ hl⟩
 ·rw [e] at hl; exact hl.elim
theorem Y2.le {h h' : List Blk} (a : Y2 h h') (r : Option D) (b : Nat) : Yc r r (nth h b) (nth h' b) := by
 rcases a.2 b with e | e
 ·rw [e]; exact Yc.refl _ _
 ·rw [e]; exact Yc.gone
theorem Zeb {b : Option Blk} (h : WD b = true) : live b := by
 unfold WD at h; split at h
 ·trivial
 ·cases h
structure Zkc (z0 : Z) (L ob : List Nat) (h : List Blk) : Prop where
 only : Y2 z0.h h
 was : ∀ b, b ∈ L ∨ b ∈ ob → WD (nth z0.h b) = true ∧ ¬ live (nth h b)
 sep : ∀ r ∈ L, r ∉ ob
 nodup : ob.Nodup
def zc (z0 : Z) (L : List Nat) (h : List Blk) : Z := ⟨LI z0 L, z0.w, z0.rho, h⟩
theorem Zkc.ext {z0 : Z} {L L' : List Nat} {h h' : List Blk} (hL : ∀ r ∈ L, r ∈ L') (hk : Y2 h h') : Ext (zc z0 L h) (zc z0 L' h') :=
 ⟨fun _ hm => ⟨LI.mono hL hm, rfl⟩, fun b => hk.le _ b⟩
theorem Zkc.ext0 {z0 : Z} {L : List Nat} {h : List Blk} (hk : Y2 z0.h h) : Ext z0 (zc z0 L h) :=
 ⟨fun _ hm => ⟨.inl hm, rfl⟩, fun b => hk.le _ b⟩
theorem Zkc.iz {z0 : Z} (hz : IZ z0) {L ob : List Nat} {h : List Blk} (t : Zkc z0 L ob h) : IZ (zc z0 L h) := by
 refine ⟨fun b d hd => ?_, fun b b' d d' a1 a2 l1 l2 => hz.disj b b' d d' a1 a2 (t.only.live l1).2 (t.only.live l2).2, fun b d a1 l1 => hz.nodup b d a1 (t.only.live l1).2, ?_⟩
 ·show Zdl _ d (nth h b)
  rcases t.only.2 b with e | e
  ·rw [e]; exact (hz.sim b d hd).ext (Zkc.ext0 t.only) (fun _ _ _ => rfl)
  ·rw [e]; trivial
 ·intro b d hd hl k hk hm
  have hl : live (nth h b) := hl
  rcases hm with hm | ⟨r, hr, d', e1, e2, e3⟩
  ·exact hz.sep b d hd (t.only.live hl).2 k hk hm
  ·have hne : b ≠ r := fun e => (t.was r (.inl hr)).2 (e ▸ hl)
   exact hz.disj b r d d' hd e1 (t.only.live hl).2 e2 hne k hk e3
inductive Zi2 (z0 : Z) (im : Nat → Prop) : List Nat → List (Option D) → List Blk → Prop
 | nil : Zi2 z0 im [] [] []
 | junk {ob : List Nat} {ds : List (Option D)} {os : List Blk} {t : Ty} {x : List t.den} : Zi2 z0 im ob ds os → Zi2 z0 im ob (none :: ds) (.arr 0 t x :: os)
 | empty {ob : List Nat} {ds : List (Option D)} {os : List Blk} {t : Ty} : 0 < t.size → Zi2 z0 im ob ds os → Zi2 z0 im ob (some (.s none 0 []) :: ds) (.arr 0 t [] :: os)
 | cons {b : Nat} {A : Option Addr} {cap : Nat} {S ob : List Nat} {ds : List (Option D)} {os : List Blk} {t : Ty} {x : List t.den} :
   (∀ k ∈ S, ∃ d0, z0.rho b = some d0 ∧ k ∈ d0.blks) → S.Nodup → TR im z0.w true (.sl true t) x [.slice A x.length cap] S → 0 < t.size → Zi2 z0 im ob ds os →
   Zi2 z0 im (b :: ob) (some (.s A cap S) :: ds) (.arr 0 t x :: os)
theorem Zi2.mono {z0 : Z} {im im' : Nat → Prop} (hi : ∀ k, im k → im' k) {ob : List Nat} {ds : List (Option D)} {os : List Blk} (h : Zi2 z0 im ob ds os) : Zi2 z0 im' ob ds os := by
 induction h with
 | nil => exact .nil
 | junk _ ih => exact .junk ih
 | empty h1 _ ih => exact .empty h1 ih
 | cons h1 h2 h3 h4 _ ih => exact .cons h1 h2 (h3.mono (fun k hk => ⟨hi k hk, rfl⟩) _ _ _ _ _ (fun _ _ => rfl)) h4 ih
theorem Zi2.append {z0 : Z} {im : Nat → Prop} {ob ob' : List Nat} {ds ds' : List (Option D)} {os os' : List Blk} (h : Zi2 z0 im ob ds os) (h' : Zi2 z0 im ob' ds' os') : Zi2 z0 im (ob ++ ob') (ds ++ ds') (os ++ os') := by
 induction h with
 | nil => exact h'
 | junk _ ih => exact .junk ih
 | empty h1 _ ih => exact .empty h1 ih
 | cons h1 h2 h3 h4 _ ih => exact .cons h1 h2 h3 h4 ih
theorem Zi2.length {z0 : Z} {im : Nat → Prop} {ob : List Nat} {ds : List (Option D)} {os : List Blk} (h : Zi2 z0 im ob ds os) : ds.length = os.length := by
 induction h with
 | nil => rfl
 | junk _ ih => simp [ih]
 | empty _ _ ih => simp [ih]
 | cons _ _ _ _ _ ih => simp [ih]
theorem Zi2.at {z0 : Z} {im : Nat → Prop} {ob : List Nat} {ds : List (Option D)} {os : List Blk} (h : Zi2 z0 im ob ds os) : ∀ (j : Nat) (d : D), nth ds j = some (some d) →
  ∃ A cap S t x, d = .s A cap S ∧ nth os j = some (.arr 0 t x) ∧ S.Nodup ∧ TR im z0.w true (.sl true t) x [.slice A x.length cap] S ∧ 0 < t.size ∧ ∀ k ∈ S, ∃ b ∈ ob, ∃ d0, z0.rho b = some d0 ∧ k ∈ d0.blks := by
 induction h with
 | nil => intro j d hj; simp [nth] at hj
 | junk _ ih =>
  intro j d hj
  cases j with
  | zero => simp [nth] at hj
  | succ j => exact ih j d hj
 | @empty ob ds os t h1 _ ih =>
  intro j d hj
  cases j with
  | zero =>
   simp only [nth, Option.some.injEq] at hj
   subst hj
   exact ⟨none, 0, [], t, [], rfl, rfl, by simp, ⟨none, 0, rfl, by simp, by simp⟩, h1, by simp⟩
  | succ j => exact ih j d hj
 | @cons b A cap S ob ds os t x h1 h2 h3 h4 _ ih =>
  intro j d hj
  cases j with
  | zero =>
   simp only [nth, Option.some.injEq] at hj
   subst hj
   exact ⟨A, cap, S, t, x, rfl, rfl, h2, h3, h4, fun k hk => ⟨b, by simp, h1 k hk⟩⟩
  | succ j =>
   obtain ⟨A', cap', S', t', x', e1, e2, e3, e4, e5, e6⟩ := ih j d hj
   exact ⟨A', cap', S', t', x', e1, e2, e3, e4, e5, fun k hk => by obtain ⟨b', hb', r⟩ := e6 k hk; exact ⟨b', by simp [hb'], r⟩⟩
theorem Zi2.apart {z0 : Z} {im : Nat → Prop} (hz : IZ z0) {ob : List Nat} {ds : List (Option D)} {os : List Blk} (h : Zi2 z0 im ob ds os) (hl : ∀ b ∈ ob, live (nth z0.h b)) (hn : ob.Nodup) :
  ∀ (i j : Nat) (d d' : D), nth ds i = some (some d) → nth ds j = some (some d') → i ≠ j → ∀ k ∈ d.blks, k ∉ d'.blks := by
 induction h with
 | nil => intro i j d d' hi; simp [nth] at hi
 | junk _ ih =>
  intro i j d d' hi hj hne
  cases i with
  | zero => simp [nth] at hi
  | succ i =>
   cases j with
   | zero => simp [nth] at hj
   | succ j => exact ih hl hn i j d d' hi hj (by omega)
 | empty _ _ ih =>
  intro i j d d' hi hj hne k hk hk'
  cases i with
  | zero => simp only [nth, Option.some.injEq] at hi; subst hi; simp [D.blks] at hk
  | succ i =>
   cases j with
   | zero => simp only [nth, Option.some.injEq] at hj; subst hj; simp [D.blks] at hk'
   | succ j => exact ih hl hn i j d d' hi hj (by omega) k hk hk'
 | @cons b A cap S ob ds os t x h1 h2 h3 h4 hs ih =>
  intro i j d d' hi hj hne k hk hk'
  obtain ⟨n1, n2⟩ := List.nodup_cons.1 hn
  have first : ∀ (j : Nat) (d' : D), nth ds j = some (some d') → k ∈ S → k ∈ d'.blks → False := by
   intro j d' hj hkS hk'
   obtain ⟨A', cap', S', t', x', e1, _, _, _, _, e6⟩ := hs.at j d' hj
   subst e1
   obtain ⟨b', hb', d0', r1, r2⟩ := e6 k hk'
   obtain ⟨d0, q1, q2⟩ := h1 k hkS
   have hbb : b ≠ b' := fun e => n1 (e ▸ hb')
   exact hz.disj b b' d0 d0' q1 r1 (hl b (by simp)) (hl b' (by simp [hb'])) hbb k q2 r2
  cases i with
  | zero =>
   simp only [nth, Option.some.injEq] at hi
   subst hi
   cases j with
   | zero => exact hne rfl
   | succ j => exact first j d' hj hk hk'
  | succ i =>
   cases j with
   | zero =>
    simp only [nth, Option.some.injEq] at hj
    subst hj
    exact first i d hi hk' hk
   | succ j => exact ih (fun b hb => hl b (by simp [hb])) n2 i j d d' hi hj (by omega) k hk hk'
theorem Ty.eq_noUq : ∀ {s t : Ty}, s.eqv t = true → s.noUq = true → t.noUq = true → s = t
 | .int k, .int k', h, _, _ => by simp only [Ty.eqv, decide_eq_true_eq] at h; rw [h]
 | .bool, .bool, _, _, _ => rfl
 | .str, .str, _, _, _ => rfl
 | .unit, .unit, _, _, _ => rfl
 | .pair a b, .pair c d, h, h1, h2 => by
  simp only [Ty.eqv, Bool.and_eq_true] at h
  simp only [Ty.noUq, Bool.and_eq_true] at h1 h2
  rw [Ty.eq_noUq h.1 h1.1 h2.1, Ty.eq_noUq h.2 h1.2 h2.2]
 | .sl u a, .sl u' b, h, h1, h2 => by
  simp only [Ty.eqv] at h
  simp only [Ty.noUq, Bool.and_eq_true, Bool.not_eq_true'] at h1 h2
  rw [Ty.eq_noUq h h1.2 h2.2, h1.1, h2.1]
theorem ZAk {h : List Blk} {a : Ty} {c : SV} {x : List a.den} (ho : Zwt h a c = some x) : c = .nil ∨ ∃ b, VJ c = [b] ∧ WD (nth h b) = true ∧ pub h c = some (.fr a x, upd h b .gone) := by
 rcases ZrE ho with ⟨h1, _⟩ | ⟨b, hc, hp⟩
 ·exact .inl h1
 ·right
  have hl : WD (nth h b) = true := by
   unfold Zwt at ho
   split at ho
   ·rcases hc with hc | ⟨_, _, hc⟩ <;> cases hc
   ·rename_i b1 v1
    split at ho
    ·rename_i v' s y hb
     have : b1 = b := by rcases hc with hc | ⟨_, _, hc⟩ <;> cases hc; rfl
     subst this; rw [hb]; rfl
    ·cases ho
   ·rename_i b1 v1 o1 n1
    split at ho
    ·rename_i v' s y hb
     have : b1 = b := by rcases hc with hc | ⟨_, _, hc⟩ <;> cases hc; rfl
     subst this; rw [hb]; rfl
    ·cases ho
   ·cases ho
  refine ⟨b, ?_, hl, hp⟩
  rcases hc with hc | ⟨off, n, hc⟩ <;> (rw [hc]; rfl)
theorem ZDB {z : Z} (hi : IZ z) {t : Ty} {x : SV} {c : Value} {d : List t.den} (hv : V z x c) (ho : Zwt z.h t x = some d) :
  (x = .nil ∧ d = [] ∧ c = .slice none 0 0) ∨ ∃ b A cap S, VJ x = [b] ∧ WD (nth z.h b) = true ∧ c = .slice A d.length cap ∧ (∀ k ∈ S, ∃ d0, z.rho b = some d0 ∧ k ∈ d0.blks) ∧ S.Nodup ∧
   TR z.im z.w true (.sl true t) d [.slice A d.length cap] S ∧ 0 < t.size := by
 rcases ZAk ho with hn | ⟨b, hr, hl, hp⟩
 ·subst hn
  simp only [V] at hv
  simp only [Zwt, Option.some.injEq] at ho
  exact .inl ⟨rfl, ho.symm, hv⟩
 ·right
  obtain ⟨S, h1, h2, h3, h4⟩ := Zp5 hi rfl x c _ _ hv hp
  simp only [CV] at h1
  obtain ⟨_, h5, h6⟩ := h1
  obtain ⟨A, cap, e1, e2, e3⟩ := h6
  simp only [List.cons.injEq, and_true] at e1
  refine ⟨b, A, cap, S, hr, hl, e1, fun k hk => ?_, h2, ⟨A, cap, rfl, e2, e3⟩, h5⟩
  obtain ⟨b', d0, q1, q2, q3, q4, q5⟩ := h4 k hk
  have : b' = b := by
   rcases Z5 z.h b b' Blk.gone with ⟨e, _, _⟩ | e
   ·exact e.symm
   ·rw [e] at q3
    rcases q3 with q3 | q3
    ·rw [q3] at q2; exact q2.elim
    ·exact absurd q3 q4
  subst this
  exact ⟨d0, q1, q5⟩
theorem JA : ∀ (ks : List Wa) (l : List SV) (h : List Blk) {x : KD ks} {h' : List Blk}, QV ks l h = some (x, h') → Y2 h h'
 | [], [], h, x, h', he => by simp only [QV] at he; cases Option.some.inj he; exact Y2.refl h
 | [], _ :: _, h, x, h', he => by simp [QV] at he
 | k :: ks, [], h, x, h', he => by cases k <;> simp [QV] at he
 | .drop :: ks, _ :: l, h, x, h', he => JA ks l h (x := x) (by simp only [QV] at he; exact he)
 | .is v :: ks, y :: l, h, x, h', he => by
  simp only [QV] at he
  cases hs : ZtM v y with
  | false => rw [hs] at he; cases he
  | true => rw [hs] at he; exact JA ks l h he
 | .ro t :: ks, y :: l, h, x, h', he => by
  simp only [QV] at he
  split at he
  ·cases hs : (VJ y).all (fun b => WD (nth h b)) with
   | false => rw [hs] at he; cases he
   | true =>
    rw [hs] at he
    simp only [cond_true] at he
    split at he
    ·rename_i r h1 hr
     cases Option.some.inj he
     exact (Qe _ h).trans (JA ks l _ hr)
    ·cases he
  ·cases he
 | .own t :: ks, y :: l, h, x, h', he => by
  simp only [QV] at he
  split at he
  ·split at he
   ·rename_i r h1 hr
    cases Option.some.inj he
    exact (Qe _ h).trans (JA ks l _ hr)
   ·cases he
  ·cases he
theorem JB {z0 : Z} {im : Nat → Prop} : ∀ (ks : List Wa) (x : KD ks), ∃ ds, Zi2 z0 im [] ds (Zc9 ks x) ∧ ∀ j d, nth ds j ≠ some (some d)
 | [], _ => ⟨[], .nil, fun j d => by simp [nth]⟩
 | .drop :: ks, x => JB ks x
 | .is _ :: ks, x => JB ks x
 | .ro _ :: ks, x => JB ks x.2
 | .own t :: ks, x => by
  obtain ⟨ds, h1, h2⟩ := JB (z0 := z0) (im := im) ks x.2
  refine ⟨none :: ds, .junk h1, fun j d => ?_⟩
  cases j with
  | zero => simp [nth]
  | succ j => exact h2 j d
theorem Zkc.more {z0 : Z} {L ob : List Nat} {h h' : List Blk} (t : Zkc z0 L ob h) (hk : Y2 h h') : Zkc z0 L ob h' :=
 ⟨t.only.trans hk, fun b hb => ⟨(t.was b hb).1, fun hl => (t.was b hb).2 (hk.live hl).2⟩, t.sep, t.nodup⟩
structure ZFs (z0 z' : Z) (L : List Nat) (n : Nat) : Prop where
 w : z'.w = z0.w
 im : ∀ k, LI z0 L k → z'.im k
 ptr : ∀ b off c, b < n → V z0 (.ptr b off) c → V z' (.ptr b off) c
 own : ∀ b v c, b < n → V z0 (.own b v) c → V z' (.own b v) c
theorem Zue : ∀ {l m : List SV}, ZxO l m = true → l = m
 | [], [], _ => rfl
 | .ptr b o :: l, .ptr b' o' :: m, h => by
  simp only [ZxO, Bool.and_eq_true] at h
  rw [Nat.eq_of_beq_eq_true h.1.1, Nat.eq_of_beq_eq_true h.1.2, Zue h.2]
theorem ZC1 {z0 z' : Z} {n0 : Nat} (hp : ∀ b off c, b < n0 → V z0 (.ptr b off) c → V z' (.ptr b off) c) : ∀ (l : List SV) (cs : List Value), ZEo n0 l = true → VL z0 l cs → VL z' l cs
 | [], cs, _, h => by simp only [VL] at h ⊢; exact h
 | x :: l, cs, hk, h => by
  simp only [VL] at h ⊢
  obtain ⟨c, r, rfl, h2, h3⟩ := h
  cases x with
  | ptr b o =>
   simp only [ZEo, Bool.and_eq_true, Nat.blt, Nat.ble_eq] at hk
   exact ⟨c, r, rfl, hp b o c (by omega) h2, ZC1 hp l r hk.2 h3⟩
  | _ => simp [ZEo] at hk
theorem J4 {z0 : Z} (hz : IZ z0) (n0 : Nat) : ∀ (ks : List Wa) (l : List SV) (h : List Blk) {x : KD ks} {h' : List Blk} (L ob : List Nat) (cs : List Value), Zkc z0 L ob h → VL z0 l cs → okK n0 ks = true →
  QV ks l h = some (x, h') → ∃ L' ob' ds, Zkc z0 L' (ob ++ ob') h' ∧ (∀ r ∈ L, r ∈ L') ∧ Zi2 z0 (LI z0 L') ob' ds (Zc9 ks x) ∧
   ∀ (z' : Z) (n : Nat), ZFs z0 z' L' n0 → (∀ j d, nth ds j = some d → z'.rho (n + j) = d) → (∀ j o, nth (Zc9 ks x) j = some o → nth z'.h (n + j) = some o) → VL z' (ZeS ks x n) cs
 | [], [], h, x, h', L, ob, cs, t, hv, _, he => by
  simp only [QV] at he
  cases Option.some.inj he
  simp only [VL] at hv
  exact ⟨L, [], [], by simpa using t, fun _ h => h, .nil, fun z' n _ _ _ => by simp only [ZeS, VL]; exact hv⟩
 | [], _ :: _, h, x, h', L, ob, cs, t, hv, _, he => by simp [QV] at he
 | k :: ks, [], h, x, h', L, ob, cs, t, hv, _, he => by cases k <;> simp [QV] at he
 | .drop :: ks, y :: l, h, x, h', L, ob, cs, t, hv, hk, he => by
  simp only [VL] at hv
  obtain ⟨c, r, rfl, _, h3⟩ := hv
  obtain ⟨L', ob', ds, a1, a2, a3, a4⟩ := J4 hz n0 ks l h L ob r t h3 (by simpa only [okK] using hk) (x := x) (by simp only [QV] at he; exact he)
  refine ⟨L', ob', ds, a1, a2, a3, fun z' n f1 f2 f3 => ?_⟩
  simp only [ZeS, VL]
  exact ⟨c, r, rfl, by simp only [V], a4 z' n f1 f2 f3⟩
 | .is v :: ks, y :: l, h, x, h', L, ob, cs, t, hv, hk, he => by
  simp only [VL] at hv
  obtain ⟨c, r, rfl, h2, h3⟩ := hv
  simp only [QV] at he
  cases hs : ZtM v y with
  | false => rw [hs] at he; cases he
  | true =>
   rw [hs] at he
   have he : QV ks l h = some (x, h') := he
   have hk' : okK n0 ks = true ∧ (∀ b o, v = .ptr b o → b < n0) ∧ (∀ b o, v = .own b o → b < n0) ∧ ∀ f c, v = .fn f c → ZEo n0 c = true := by
    unfold ZtM at hs
    split at hs
    ·simp only [okK, Bool.and_eq_true] at hk
     exact ⟨hk.2, fun b o e => (by cases e), fun b o e => (by cases e), fun f c e => by cases e; exact hk.1⟩
    ·simp only [okK, Bool.and_eq_true] at hk
     exact ⟨hk.2, fun b o e => by cases e; have := hk.1; simp only [Nat.blt, Nat.ble_eq] at this; omega, fun b o e => (by cases e), fun f c e => by cases e⟩
    ·simp only [okK, Bool.and_eq_true] at hk
     exact ⟨hk.2, fun b o e => (by cases e), fun b o e => by cases e; have := hk.1; simp only [Nat.blt, Nat.ble_eq] at this; omega, fun f c e => by cases e⟩
    ·simp only [okK] at hk
     exact ⟨hk, fun b o e => (by cases e), fun b o e => (by cases e), fun f c e => by cases e⟩
    ·cases hs
   obtain ⟨L', ob', ds, a1, a2, a3, a4⟩ := J4 hz n0 ks l h L ob r t h3 hk'.1 he
   refine ⟨L', ob', ds, a1, a2, a3, fun z' n f1 f2 f3 => ?_⟩
   simp only [ZeS, VL]
   refine ⟨c, r, rfl, ?_, a4 z' n f1 f2 f3⟩
   unfold ZtM at hs
   split at hs
   ·rename_i f l1 g m1
    simp only [Bool.and_eq_true] at hs
    have e1 := Nat.eq_of_beq_eq_true hs.1
    subst e1
    have e2 := Zue hs.2
    subst e2
    simp only [V] at h2 ⊢
    obtain ⟨cs, k1, k2⟩ := h2
    exact ⟨cs, k1, ZC1 f1.ptr _ cs (hk'.2.2.2 _ _ rfl) k2⟩
   ·rename_i b o b' o'
    simp only [Bool.and_eq_true] at hs
    have e1 := Nat.eq_of_beq_eq_true hs.1
    have e2 := Nat.eq_of_beq_eq_true hs.2
    subst e1; subst e2
    exact f1.ptr _ _ c (hk'.2.1 _ _ rfl) h2
   ·rename_i b o b' o'
    simp only [Bool.and_eq_true] at hs
    have e1 := Nat.eq_of_beq_eq_true hs.1
    have e2 := Nat.eq_of_beq_eq_true hs.2
    subst e1; subst e2
    exact f1.own _ _ c (hk'.2.2.1 _ _ rfl) h2
   ·simp only [V] at h2 ⊢; exact h2
   ·cases hs
 | .ro ty :: ks, y :: l, h, x, h', L, ob, cs, t, hv, hk, he => by
  simp only [VL] at hv
  obtain ⟨c, r, rfl, h2, h3⟩ := hv
  simp only [QV] at he
  split at he
  ·rename_i d hd
   cases hs : (VJ y).all (fun b => WD (nth h b)) with
   | false => rw [hs] at he; cases he
   | true =>
    rw [hs] at he
    simp only [cond_true] at he
    split at he
    ·rename_i q h1 hq
     cases Option.some.inj he
     have hlv : ∀ b ∈ VJ y, live (nth h b) := fun b hb => Zeb (List.all_eq_true.1 hs b hb)
     have hla : ∀ b ∈ VJ y, WD (nth z0.h b) = true := fun b hb => by rw [← (t.only.live (hlv b hb)).1]; exact List.all_eq_true.1 hs b hb
     have t' : Zkc z0 (L ++ VJ y) ob (UP h (VJ y)) := by
      refine ⟨t.only.trans (Qe _ _), fun b hb => ?_, fun r hr hob => ?_, t.nodup⟩
      ·rcases hb with hb | hb
       ·rcases List.mem_append.1 hb with hb | hb
        ·exact ⟨(t.was b (.inl hb)).1, fun hl => (t.was b (.inl hb)).2 ((Qe _ _).live hl).2⟩
        ·exact ⟨hla b hb, Js _ _ hb⟩
       ·exact ⟨(t.was b (.inr hb)).1, fun hl => (t.was b (.inr hb)).2 ((Qe _ _).live hl).2⟩
      ·rcases List.mem_append.1 hr with hr | hr
       ·exact t.sep r hr hob
       ·exact (t.was r (.inr hob)).2 (hlv r hr)
     obtain ⟨L', ob', ds, a1, a2, a3, a4⟩ := J4 hz n0 ks l _ (L ++ VJ y) ob r t' h3 (by simpa only [okK] using hk) hq
     refine ⟨L', ob', ds, a1, fun r hr => a2 r (by simp [hr]), a3, fun z' n f1 f2 f3 => ?_⟩
     simp only [ZeS, VL]
     refine ⟨c, r, rfl, ?_, a4 z' n f1 f2 f3⟩
     obtain ⟨cs, k1, k2⟩ := Zd1 (z := zc z0 L h) (t.iz hz).sim (V.ext (Zkc.ext0 t.only) _ _ h2) hd
     simp only [V]
     refine ⟨cs, ?_, k2⟩
     rw [f1.w]
     refine k1.im (fun k hm => f1.im k ?_)
     rcases hm with hm | ⟨_, r', hr', d', e1, e2, e3⟩
     ·exact LI.mono (fun r hr => a2 r (by simp [hr])) hm
     ·exact .inr ⟨r', a2 r' (by simp [hr']), d', e1, (t.only.live e2).2, e3⟩
    ·cases he
  ·cases he
 | .own ty :: ks, y :: l, h, x, h', L, ob, cs, t, hv, hk, he => by
  simp only [VL] at hv
  obtain ⟨c, r, rfl, h2, h3⟩ := hv
  simp only [QV] at he
  simp only [okK, Bool.and_eq_true] at hk
  split at he
  ·rename_i d hd
   split at he
   ·rename_i q h1 hq
    cases Option.some.inj he
    have hv' := V.ext (Zkc.ext0 (L := L) t.only) _ _ h2
    rcases ZDB (z := zc z0 L h) (t.iz hz) hv' hd with ⟨e1, e2, e3⟩ | ⟨b, A, cap, S, e1, e2, e3, e4, e5, e6, e7⟩
    ·subst e1; subst e2
     have hp : 0 < ty.size := by have := hk.1; simp only [Nat.blt, Nat.ble_eq] at this; omega
     obtain ⟨L', ob', ds, a1, a2, a3, a4⟩ := J4 hz n0 ks l _ L ob r t h3 hk.2 hq
     refine ⟨L', ob', some (.s none 0 []) :: ds, a1, a2, .empty hp a3, fun z' n f1 f2 f3 => ?_⟩
     simp only [ZeS, VL]
     refine ⟨c, r, rfl, ?_, a4 z' (n + 1) f1 (fun j d hj => by have := f2 (j + 1) d hj; rwa [show n + (j + 1) = n + 1 + j by omega] at this)
      (fun j o hj => by have := f3 (j + 1) o hj; rwa [show n + (j + 1) = n + 1 + j by omega] at this)⟩
     rw [e3]
     have g1 := f2 0 _ rfl
     have g2 := f3 0 _ rfl
     exact Kt (x := ([] : List ty.den)) g2 g1 rfl
    ·have hlv : live (nth h b) := Zeb e2
     have t' : Zkc z0 L (ob ++ [b]) (UP h (VJ y)) := by
      rw [e1]
      refine ⟨t.only.trans (Qe _ _), fun b' hb => ?_, fun r hr hob => ?_, ?_⟩
      ·rcases hb with hb | hb
       ·exact ⟨(t.was b' (.inl hb)).1, fun hl => (t.was b' (.inl hb)).2 ((Qe _ _).live hl).2⟩
       ·rcases List.mem_append.1 hb with hb | hb
        ·exact ⟨(t.was b' (.inr hb)).1, fun hl => (t.was b' (.inr hb)).2 ((Qe _ _).live hl).2⟩
        ·simp only [List.mem_singleton] at hb
         subst hb
         exact ⟨by rw [← (t.only.live hlv).1]; exact e2, Js _ _ (by simp)⟩
      ·rcases List.mem_append.1 hob with hob | hob
       ·exact t.sep r hr hob
       ·simp only [List.mem_singleton] at hob
        subst hob
        exact (t.was _ (.inl hr)).2 hlv
      ·refine List.nodup_append.2 ⟨t.nodup, by simp, fun a ha b' hb' e => ?_⟩
       simp only [List.mem_singleton] at hb'
       subst e; subst hb'
       exact (t.was _ (.inr ha)).2 hlv
     obtain ⟨L', ob', ds, a1, a2, a3, a4⟩ := J4 hz n0 ks l _ L (ob ++ [b]) r t' h3 hk.2 hq
     refine ⟨L', b :: ob', some (.s A cap S) :: ds, by simpa using a1, a2, .cons e4 e5 (e6.mono (fun k hm => ⟨LI.mono a2 hm, rfl⟩) _ _ _ _ _ (fun _ _ => rfl)) e7 a3, fun z' n f1 f2 f3 => ?_⟩
     simp only [ZeS, VL]
     refine ⟨c, r, rfl, ?_, a4 z' (n + 1) f1 (fun j d hj => by have := f2 (j + 1) d hj; rwa [show n + (j + 1) = n + 1 + j by omega] at this)
      (fun j o hj => by have := f3 (j + 1) o hj; rwa [show n + (j + 1) = n + 1 + j by omega] at this)⟩
     rw [e3]
     have g1 := f2 0 _ rfl
     have g2 := f3 0 _ rfl
     exact Kt g2 g1 rfl
   ·cases he
  ·cases he
end Go.Sx
namespace Go.Sx
open Go
theorem J5 {α : Type} {l r : List α} {j : Nat} {x : α} (h : nth l j = some x) : nth (l ++ r) j = some x := by rw [Wq (Zbq h), h]
theorem Uu {α : Type} : ∀ (l r : List α) (j : Nat), nth (l ++ r) (l.length + j) = nth r j
 | [], r, j => by simp
 | x :: l, r, j => by rw [List.length_cons, show l.length + 1 + j = (l.length + j) + 1 by omega]; exact Uu l r j
theorem Xo : ∀ (bs : List BK) (y : BD bs) (n : Nat), (VM bs y n).length = bs.length
 | [], _, _ => rfl
 | .drop :: bs, y, n => by simp only [VM, List.length_cons]; rw [Xo bs y n]
 | .vars ks :: bs, y, n => by simp only [VM, List.length_cons]; rw [Xo bs y.2]
 | .arr t :: bs, y, n => by simp only [VM, List.length_cons]; rw [Xo bs y.2]
theorem Zkc.perm {z0 : Z} {L ob ob' : List Nat} {h : List Blk} (t : Zkc z0 L ob h) (p : ob.Perm ob') : Zkc z0 L ob' h :=
 ⟨t.only, fun b hb => t.was b (hb.imp id (fun q => p.mem_iff.2 q)), fun r hr hob => t.sep r hr (p.mem_iff.2 hob), p.nodup_iff.1 t.nodup⟩
theorem ZjE {z0 : Z} (hz : IZ z0) (n0 : Nat) : ∀ (bs : List BK) (l : List Blk) (i0 : Nat) (h : List Blk) {y : BD bs} {h' : List Blk} (L ob : List Nat), Zkc z0 L ob h → (∀ j, nth l j = nth z0.h (i0 + j)) → i0 + l.length = z0.h.length → ZBS n0 bs = true →
  Zbp bs l h = some (y, h') → ∃ L' ob' ip ds, Zkc z0 L' (ob ++ (ob' ++ ip)) h' ∧ (∀ r ∈ L, r ∈ L') ∧ Zi2 z0 (LI z0 L') ob' ds (ZjP bs y) ∧
   ∀ n, (∀ j b, nth (VM bs y n) j = some b → b = .gone ∨ (∃ c c' ks, nth bs j = some (.vars ks) ∧ b = .vars c' ∧ nth z0.h (i0 + j) = some (.vars c)) ∨
     ∃ t x, nth bs j = some (.arr t) ∧ b = .arr 0 t x ∧ nth z0.h (i0 + j) = some (.arr 0 t x) ∧ (i0 + j) ∈ ip) ∧
   ∀ (z' : Z), ZFs z0 z' L' n0 → (∀ j d, nth ds j = some d → z'.rho (n + j) = d) → (∀ j o, nth (ZjP bs y) j = some o → nth z'.h (n + j) = some o) →
    ∀ j b d, nth (VM bs y n) j = some b → z0.rho (i0 + j) = some d → Zdl z' d (some b)
 | [], l, i0, h, y, h', L, ob, t, hl, hlen, hk, he => by
  simp only [Zbp] at he
  cases Option.some.inj he
  exact ⟨L, [], [], [], by simpa using t, fun _ h => h, .nil, fun n => ⟨fun j b hj => by simp [VM, nth] at hj, fun z' _ _ _ j b d hj => by simp [VM, nth] at hj⟩⟩
 | .drop :: bs, [], i0, h, y, h', L, ob, t, hl, hlen, hk, he => by simp [Zbp] at he
 | .drop :: bs, b0 :: l, i0, h, y, h', L, ob, t, hl, hlen, hk, he => by
  obtain ⟨L', ob', ip, ds, a1, a2, a3, a4⟩ := ZjE hz n0 bs l (i0 + 1) h L ob (y := y) (h' := h') t (fun j => by have := hl (j + 1); rwa [show i0 + (j + 1) = i0 + 1 + j by omega] at this) (by simp at hlen; omega) (by simpa only [ZBS] using hk) (by simp only [Zbp] at he; exact he)
  refine ⟨L', ob', ip, ds, a1, a2, a3, fun n => ⟨fun j b hj => ?_, fun z' f1 f2 f3 j b d hj hd => ?_⟩⟩
  ·cases j with
   | zero => simp only [VM, nth, Option.some.injEq] at hj; exact .inl hj.symm
   | succ j =>
    rcases (a4 n).1 j b hj with e | ⟨c, c', ks, e1, e2, e3⟩ | ⟨t, x, e1, e2, e3, e4⟩
    ·exact .inl e
    ·exact .inr (.inl ⟨c, c', ks, e1, e2, by rw [show i0 + (j + 1) = i0 + 1 + j by omega]; exact e3⟩)
    ·exact .inr (.inr ⟨t, x, e1, e2, by rw [show i0 + (j + 1) = i0 + 1 + j by omega]; exact e3, by rw [show i0 + (j + 1) = i0 + 1 + j by omega]; exact e4⟩)
  ·cases j with
   | zero => simp only [VM, nth, Option.some.injEq] at hj; subst hj; trivial
   | succ j => exact (a4 n).2 z' f1 f2 f3 j b d hj (by rw [show i0 + 1 + j = i0 + (j + 1) by omega]; exact hd)
 | .arr t :: bs, [], i0, h, y, h', L, ob, tk, hl, hlen, hk, he => by simp [Zbp] at he
 | .arr t :: bs, b0 :: l, i0, h, y, h', L, ob, tk, hl, hlen, hk, he => by
  have hidx : h.length - (b0 :: l).length = i0 := by rw [tk.only.1]; omega
  simp only [Zbp] at he
  rw [hidx] at he
  simp only [ZBS, Bool.and_eq_true] at hk
  split at he
  ·rename_i v s x hb
   split at he
   ·rename_i hv
    subst hv
    split at he
    ·rename_i d hd
     split at he
     ·rename_i r h2 hr
      cases Option.some.inj he
      obtain ⟨e1, e2⟩ := Zdo hd
      injection e1 with _ e1
      subst e1
      have e2 : x = d := e2
      subst e2
      have hlv : live (nth h i0) := by rw [hb]; trivial
      have hz0 : nth z0.h i0 = some (.arr 0 s x) := by rw [← (tk.only.live hlv).1]; exact hb
      have t' : Zkc z0 L (ob ++ [i0]) (upd h i0 .gone) := by
       refine ⟨tk.only.trans (Ze9 h i0), fun b' hb' => ?_, fun r1 hr1 hob => ?_, ?_⟩
       ·rcases hb' with hb' | hb'
        ·exact ⟨(tk.was b' (.inl hb')).1, fun hl => (tk.was b' (.inl hb')).2 ((Ze9 h i0).live hl).2⟩
        ·rcases List.mem_append.1 hb' with hb' | hb'
         ·exact ⟨(tk.was b' (.inr hb')).1, fun hl => (tk.was b' (.inr hb')).2 ((Ze9 h i0).live hl).2⟩
         ·simp only [List.mem_singleton] at hb'
          subst hb'
          exact ⟨by rw [hz0]; rfl, by rw [Yb hb]; exact fun h => h⟩
       ·rcases List.mem_append.1 hob with hob | hob
        ·exact tk.sep r1 hr1 hob
        ·simp only [List.mem_singleton] at hob
         subst hob
         exact (tk.was _ (.inl hr1)).2 hlv
       ·refine List.nodup_append.2 ⟨tk.nodup, by simp, fun a ha b' hb' e => ?_⟩
        simp only [List.mem_singleton] at hb'
        subst e; subst hb'
        exact (tk.was _ (.inr ha)).2 hlv
      obtain ⟨L', ob', ip, ds, a1, a2, a3, a4⟩ := ZjE hz n0 bs l (i0 + 1) _ L (ob ++ [i0]) (y := r) t' (fun j => by have := hl (j + 1); rwa [show i0 + (j + 1) = i0 + 1 + j by omega] at this) (by simp at hlen; omega) hk.2 hr
      refine ⟨L', ob', i0 :: ip, ds, a1.perm ?_, a2, a3, fun n => ⟨fun j b hj => ?_, fun z' f1 f2 f3 j b d hj hd => ?_⟩⟩
      ·rw [List.append_assoc]
       refine List.Perm.append_left ob ?_
       exact (List.perm_middle (l₁ := ob') (a := i0) (l₂ := ip)).symm
      ·cases j with
       | zero =>
        simp only [VM, nth, Option.some.injEq] at hj
        exact .inr (.inr ⟨s, x, rfl, hj.symm, hz0, by simp⟩)
       | succ j =>
        rcases (a4 n).1 j b hj with e | ⟨c, c', ks, e1, e2, e3⟩ | ⟨t, x, e1, e2, e3, e4⟩
        ·exact .inl e
        ·exact .inr (.inl ⟨c, c', ks, e1, e2, by rw [show i0 + (j + 1) = i0 + 1 + j by omega]; exact e3⟩)
        ·exact .inr (.inr ⟨t, x, e1, e2, by rw [show i0 + (j + 1) = i0 + 1 + j by omega]; exact e3, by rw [show i0 + (j + 1) = i0 + 1 + j by omega]; exact List.mem_cons_of_mem _ e4⟩)
      ·cases j with
       | zero =>
        simp only [VM, nth, Option.some.injEq] at hj
        subst hj
        have hs := hz.sim i0 d hd
        rw [hz0] at hs
        obtain ⟨A, cap, S, q1, q2, q3⟩ := hs
        exact ⟨A, cap, S, q1, q2.mono (fun k hm => ⟨f1.im k (.inl hm), by rw [f1.w]⟩) _ _ _ _ _ (fun _ _ => by rw [f1.w]), q3⟩
       | succ j => exact (a4 n).2 z' f1 f2 f3 j b d hj (by rw [show i0 + 1 + j = i0 + (j + 1) by omega]; exact hd)
     ·cases he
    ·cases he
   ·cases he
  ·cases he
 | .vars ks :: bs, [], i0, h, y, h', L, ob, t, hl, hlen, hk, he => by simp [Zbp] at he
 | .vars ks :: bs, b0 :: l, i0, h, y, h', L, ob, t, hl, hlen, hk, he => by
  cases b0 with
  | arr _ _ _ => simp [Zbp] at he
  | held _ _ _ => simp [Zbp] at he
  | opn _ _ _ _ _ => simp [Zbp] at he
  | lent => simp [Zbp] at he
  | gone => simp [Zbp] at he
  | vars c =>
   simp only [Zbp] at he
   simp only [ZBS, Bool.and_eq_true] at hk
   split at he
   ·rename_i d1 h1 hd1
    split at he
    ·rename_i r h2 hr
     cases Option.some.inj he
     have hc : nth z0.h i0 = some (.vars c) := (hl 0).symm
     -- the cells
     have first : ∃ L1 ob1 ds1, Zkc z0 L1 (ob ++ ob1) h1 ∧ (∀ r ∈ L, r ∈ L1) ∧ Zi2 z0 (LI z0 L1) ob1 ds1 (Zc9 ks d1) ∧ ∀ n (z' : Z), ZFs z0 z' L1 n0 → (∀ j d, nth ds1 j = some d → z'.rho (n + j) = d) →
       (∀ j o, nth (Zc9 ks d1) j = some o → nth z'.h (n + j) = some o) → ∀ d, z0.rho i0 = some d → Zdl z' d (some (.vars (ZeS ks d1 n))) := by
      cases hrho : z0.rho i0 with
      | none =>
       obtain ⟨ds1, j1, j2⟩ := JB (z0 := z0) (im := LI z0 L) ks d1
       exact ⟨L, [], ds1, by simpa using t.more (JA _ _ _ hd1), fun _ h => h, j1, fun n z' _ _ _ d hd => by cases hd⟩
      | some d =>
       have hs := hz.sim i0 d hrho
       rw [hc] at hs
       obtain ⟨blk, cs, e, s1, s2, s3⟩ := hs
       obtain ⟨L1, ob1, ds1, a1, a2, a3, a4⟩ := J4 hz n0 ks c h L ob cs t s3 hk.1 hd1
       refine ⟨L1, ob1, ds1, a1, a2, a3, fun n z' f1 f2 f3 d' hd' => ?_⟩
       cases hd'
       exact ⟨blk, cs, e, s1, by rw [f1.w]; exact s2, a4 z' n f1 f2 f3⟩
     obtain ⟨L1, ob1, ds1, a1, a2, a3, a4⟩ := first
     obtain ⟨L2, ob2, ip, ds2, b1, b2, b3, b4⟩ := ZjE hz n0 bs l (i0 + 1) h1 L1 (ob ++ ob1) (y := r) a1 (fun j => by have := hl (j + 1); rwa [show i0 + (j + 1) = i0 + 1 + j by omega] at this) (by simp at hlen; omega) hk.2 hr
     have hlen := a3.length
     refine ⟨L2, ob1 ++ ob2, ip, ds1 ++ ds2, by simpa using b1, fun q hq => b2 q (a2 q hq), (a3.mono (fun k hm => LI.mono b2 hm)).append b3, fun n => ⟨fun j b hj => ?_, fun z' f1 f2 f3 j b d hj hd => ?_⟩⟩
     ·cases j with
      | zero => simp only [VM, nth, Option.some.injEq] at hj; exact .inr (.inl ⟨c, _, ks, rfl, hj.symm, hc⟩)
      | succ j =>
       rcases (b4 _).1 j b hj with e | ⟨c, c', ks, e1, e2, e3⟩ | ⟨t, x, e1, e2, e3, e4⟩
       ·exact .inl e
       ·exact .inr (.inl ⟨c, c', ks, e1, e2, by rw [show i0 + (j + 1) = i0 + 1 + j by omega]; exact e3⟩)
       ·exact .inr (.inr ⟨t, x, e1, e2, by rw [show i0 + (j + 1) = i0 + 1 + j by omega]; exact e3, by rw [show i0 + (j + 1) = i0 + 1 + j by omega]; exact e4⟩)
     ·have f2' : ∀ j d, nth ds2 j = some d → z'.rho (n + (Zc9 ks d1).length + j) = d := fun j d hj => by
       have := f2 (ds1.length + j) d (by rw [Uu]; exact hj)
       rwa [hlen, ← Nat.add_assoc] at this
      have f3' : ∀ j o, nth (ZjP bs r) j = some o → nth z'.h (n + (Zc9 ks d1).length + j) = some o := fun j o hj => by
       have := f3 ((Zc9 ks d1).length + j) o (by simp only [ZjP]; rw [Uu]; exact hj)
       rwa [← Nat.add_assoc] at this
      cases j with
      | zero =>
       simp only [VM, nth, Option.some.injEq] at hj
       subst hj
       exact a4 n z' ⟨f1.w, fun k hm => f1.im k (LI.mono b2 hm), f1.ptr, f1.own⟩ (fun j d hj => f2 j d (J5 hj)) (fun j o hj => f3 j o (by simp only [ZjP]; exact J5 hj)) d hd
      | succ j => exact (b4 _).2 z' f1 f2' f3' j b d hj (by rw [show i0 + 1 + j = i0 + (j + 1) by omega]; exact hd)
    ·cases he
   ·cases he
theorem Zuf {R : Type} {l : Lp R} {g : G} {rho : Rho} {s : St} {a : Act} {w : World} {r : R} (hs : Sim g rho s a w) (hbx : ∀ q ∈ g.bx, q.1 < l.blks.length) (hax : ∀ q ∈ g.ax, q.1 < l.blks.length) (he : Zdh l s = some r) :
  ∃ x y rho', l.run x y = some r ∧ Sim g rho' (UQ l x y) a w := by
 unfold Zdh at he
 cases hk : (ZBS l.blks.length l.blks && okK l.blks.length l.keeps) with
 | false => rw [hk] at he; cases he
 | true =>
  rw [hk] at he
  simp only [cond_true] at he
  simp only [Bool.and_eq_true] at hk
  split at he
  ·rename_i y h1 hy
   split at he
   ·rename_i x h2 hx
    have hz := hs.inv.iz
    have t0 : Zkc (zOf g rho s.heap w) [] [] s.heap := ⟨Y2.refl _, fun b hb => by simp at hb, fun r hr => by simp at hr, by simp⟩
    obtain ⟨L1, ob1, ip, ds1, a1, a2, a3, a4⟩ := ZjE hz l.blks.length l.blks s.heap 0 s.heap [] [] t0 (fun j => by rw [Nat.zero_add]; rfl) (by rw [Nat.zero_add]; rfl) hk.1 hy
    obtain ⟨L2, ob2, ds2, b1, b2, b3, b4⟩ := J4 hz l.blks.length l.keeps s.slots h1 L1 ([] ++ (ob1 ++ ip)) _ a1 hs.slots hk.2 hx
    let n := l.blks.length
    let ds := ds1 ++ ds2
    let os := ZjP l.blks y ++ Zc9 l.keeps x
    have hsrc : Zi2 (zOf g rho s.heap w) (LI (zOf g rho s.heap w) L2) (ob1 ++ ob2) ds os := (a3.mono (fun k hm => LI.mono b2 hm)).append b3
    have tk : Zkc (zOf g rho s.heap w) L2 ((ob1 ++ ip) ++ ob2) h2 := by simpa using b1
    have hin : ∀ b ∈ ob1 ++ ob2, b ∈ (ob1 ++ ip) ++ ob2 := fun b hb => by
     simp only [List.mem_append] at hb ⊢
     rcases hb with hb | hb
     ·exact .inl (.inl hb)
     ·exact .inr hb
    have hipn : ∀ b ∈ ip, b ∈ (ob1 ++ ip) ++ ob2 ∧ b ∉ ob1 ++ ob2 := fun b hb => by
     refine ⟨by simp [hb], fun hm => ?_⟩
     obtain ⟨n1, _, n3⟩ := List.nodup_append.1 tk.nodup
     obtain ⟨_, _, n6⟩ := List.nodup_append.1 n1
     rcases List.mem_append.1 hm with hm | hm
     ·exact n6 b hm b hb rfl
     ·exact n3 b (by simp [hb]) b hm rfl
    have obnd : (ob1 ++ ob2).Nodup := by
     obtain ⟨n1, n2, n3⟩ := List.nodup_append.1 tk.nodup
     obtain ⟨n4, _, _⟩ := List.nodup_append.1 n1
     exact List.nodup_append.2 ⟨n4, n2, fun a ha b hb => n3 a (by simp [ha]) b hb⟩
    have hoblive : ∀ b ∈ ob1 ++ ob2, live (nth s.heap b) := fun b hb => Zeb (tk.was b (.inr (hin b hb))).1
    let rho' : Rho := fun b => if b < n then (match nth l.blks b with | some (.vars _) => rho b | some (.arr _) => rho b | _ => none) else ((nth ds (b - n)).getD none)
    have hh : (UQ l x y).heap = VM l.blks y n ++ os := by simp only [UQ, ZDl, os, n, List.append_assoc]
    have hlow : ∀ b, b < n → nth (UQ l x y).heap b = nth (VM l.blks y n) b := fun b hb => by rw [hh, Wq (by rw [Xo]; exact hb)]
    have hhigh : ∀ j, nth (UQ l x y).heap (n + j) = nth os j := fun j => by
     have := Uu (VM l.blks y n) os j
     rw [Xo] at this
     rw [hh]; exact this
    have low : ∀ b d, b < n → rho' b = some d → live (nth (UQ l x y).heap b) → rho b = some d ∧ ((∃ c, nth s.heap b = some (.vars c)) ∨ ((∃ t x, nth s.heap b = some (.arr 0 t x)) ∧ b ∈ ip)) := by
     intro b d hb hd hl
     have hd : (if b < n then (match nth l.blks b with | some (.vars _) => rho b | some (.arr _) => rho b | _ => none) else ((nth ds (b - n)).getD none)) = some d := hd
     rw [if_pos hb] at hd
     rw [hlow b hb] at hl
     cases hg : nth (VM l.blks y n) b with
     | none => rw [hg] at hl; exact hl.elim
     | some bk =>
      rw [hg] at hl
      rcases (a4 n).1 b bk hg with e | ⟨c, c', ks, e1, e2, e3⟩ | ⟨t, x, e1, e2, e3, e4⟩
      ·subst e; exact hl.elim
      ·rw [e1] at hd
       rw [Nat.zero_add] at e3
       exact ⟨hd, .inl ⟨c, e3⟩⟩
      ·rw [e1] at hd
       rw [Nat.zero_add] at e3 e4
       exact ⟨hd, .inr ⟨⟨t, x, e3⟩, e4⟩⟩
    have lowlive : ∀ b, ((∃ c, nth s.heap b = some (.vars c)) ∨ ((∃ t x, nth s.heap b = some (.arr 0 t x)) ∧ b ∈ ip)) → live (nth s.heap b) := by
     rintro b (⟨c, e⟩ | ⟨⟨t, x, e⟩, _⟩) <;> (rw [e]; trivial)
    have lowob : ∀ b, ((∃ c, nth s.heap b = some (.vars c)) ∨ ((∃ t x, nth s.heap b = some (.arr 0 t x)) ∧ b ∈ ip)) → b ∉ ob1 ++ ob2 := by
     rintro b (⟨c, e⟩ | ⟨_, e⟩) hm
     ·have this : WD (nth s.heap b) = true := (tk.was b (.inr (hin b hm))).1
      rw [e] at this; cases this
     ·exact (hipn b e).2 hm
    have high : ∀ b d, ¬ b < n → rho' b = some d → nth ds (b - n) = some (some d) := by
     intro b d hb hd
     have hd : (if b < n then (match nth l.blks b with | some (.vars _) => rho b | some (.arr _) => rho b | _ => none) else ((nth ds (b - n)).getD none)) = some d := hd
     rw [if_neg hb] at hd
     cases hn : nth ds (b - n) with
     | none => rw [hn] at hd; cases hd
     | some o => rw [hn] at hd; simp only [Option.getD_some] at hd; rw [hd]
    -- what is owned is from where it was owned
    have from0 : ∀ b d, rho' b = some d → live (nth (UQ l x y).heap b) → ∀ k ∈ d.blks, ∃ b0 d0, rho b0 = some d0 ∧ live (nth s.heap b0) ∧ k ∈ d0.blks ∧ b0 ∉ L2 := by
     intro b d hd hl k hk
     by_cases hb : b < n
     ·obtain ⟨e1, e2⟩ := low b d hb hd hl
      refine ⟨b, d, e1, lowlive b e2, hk, fun hm => ?_⟩
      rcases e2 with ⟨c, e2⟩ | ⟨_, e2⟩
      ·have this : WD (nth s.heap b) = true := (tk.was b (.inl hm)).1
       rw [e2] at this; cases this
      ·exact tk.sep b hm (hipn b e2).1
     ·obtain ⟨A, cap, S, t, x', e1, e2, e3, e4, e5, e6⟩ := hsrc.at _ d (high b d hb hd)
      subst e1
      obtain ⟨b0, hb0, d0, q1, q2⟩ := e6 k hk
      exact ⟨b0, d0, q1, hoblive b0 hb0, q2, fun hm => tk.sep b0 hm (hin b0 hb0)⟩
    have him : ∀ k, LI (zOf g rho s.heap w) L2 k → Im g rho' (UQ l x y).heap w k := by
     intro k hm
     have hbase : (g.p k ∨ k ∈ g.S0 ∨ g.w0.heap.size ≤ k) ∧ k < w.heap.size := by
      rcases hm with hm | ⟨r', _, d', e1, e2, e3⟩
      ·exact ⟨hm.1, hm.2.1⟩
      ·have := hs.inv.range r' d' e1 e2 k e3
       exact ⟨.inr this.2, this.1⟩
     refine ⟨hbase.1, hbase.2, fun ⟨b, d, o1, o2, o3⟩ => ?_⟩
     obtain ⟨b0, d0, q1, q2, q3, q4⟩ := from0 b d o1 o2 k o3
     rcases hm with hm | ⟨r', hr', d', e1, e2, e3⟩
     ·exact hm.2.2 ⟨b0, d0, q1, q2, q3⟩
     ·have hne : b0 ≠ r' := fun e => q4 (e ▸ hr')
      exact hs.inv.disj b0 r' d0 d' q1 e1 q2 e2 hne k q3 e3
    have hrlow : ∀ b, b < n → (∃ ks, nth l.blks b = some (.vars ks)) ∨ (∃ t, nth l.blks b = some (.arr t)) → rho' b = rho b := by
     intro b hb h
     show (if b < n then (match nth l.blks b with | some (.vars _) => rho b | some (.arr _) => rho b | _ => none) else ((nth ds (b - n)).getD none)) = _
     rw [if_pos hb]
     rcases h with ⟨ks, h⟩ | ⟨t, h⟩ <;> rw [h]
    have hfit : ZFs (zOf g rho s.heap w) (zOf g rho' (UQ l x y).heap w) L2 n := by
     refine ⟨rfl, him, fun b off c hb hv => ?_, fun b v c hb hv => ?_⟩
     ·simp only [V] at hv ⊢
      refine ⟨hv.1, ?_⟩
      show match nth (UQ l x y).heap b with | some (.vars _) => _ | some .lent => _ | some _ => True | none => False
      rw [hlow b hb]
      cases hg : nth (VM l.blks y n) b with
      | none => have := Xa.1 hg; rw [Xo] at this; exact absurd hb (by omega)
      | some bk =>
       rcases (a4 n).1 b bk hg with e | ⟨c1, c', ks, e1, e2, e3⟩ | ⟨t, x, e1, e2, e3, e4⟩
       ·subst e; trivial
       ·subst e2
        rw [Nat.zero_add] at e3
        have hv2 := hv.2
        rw [e3] at hv2
        obtain ⟨blk, q1, q2⟩ := hv2
        exact ⟨blk, (hrlow b hb (.inl ⟨ks, e1⟩)).trans q1, q2⟩
       ·subst e2; trivial
     ·simp only [V] at hv ⊢
      obtain ⟨v1, v2, v3⟩ := hv
      refine ⟨v1, ?_⟩
      show (nth (UQ l x y).heap b).isSome = true ∧ ∀ v' t n, Jp (nth (UQ l x y).heap b) = some (v', t, n) → _
      rw [hlow b hb]
      cases hg : nth (VM l.blks y n) b with
      | none => have := Xa.1 hg; rw [Xo] at this; exact absurd hb (by omega)
      | some bk =>
       refine ⟨rfl, fun v' t n' hi => ?_⟩
       rcases (a4 n).1 b bk hg with e | ⟨c1, c', ks, e1, e2, e3⟩ | ⟨t1, x1, e1, e2, e3, e4⟩
       ·subst e; cases hi
       ·subst e2; cases hi
       ·subst e2
        rw [Nat.zero_add] at e3
        have := v3 v' t n' (by rw [e3]; exact hi)
        refine ⟨this.1, fun e => ?_⟩
        obtain ⟨A, cap, S, q1, q2⟩ := this.2 e
        exact ⟨A, cap, S, (hrlow b hb (.inr ⟨t1, e1⟩)).trans q1, q2⟩
    have hds : ∀ j d, nth ds j = some d → rho' (n + j) = d := fun j d hj => by
     show (if n + j < n then _ else ((nth ds (n + j - n)).getD none)) = d
     rw [if_neg (by omega), show n + j - n = j by omega, hj]; rfl
    have hos : ∀ j o, nth os j = some o → nth (UQ l x y).heap (n + j) = some o := fun j o hj => by rw [hhigh]; exact hj
    have hlen1 := a3.length
    refine ⟨x, y, rho', he, ⟨⟨?_, ?_, ?_, ?_, hs.inv.kept, fun t ht => ⟨him _ (.inl (hs.inv.tab t ht).1), (hs.inv.tab t ht).2⟩⟩, ?_, hs.defers, fun q hq => ?_, fun q hq => ?_⟩⟩
    ·intro b d hd
     by_cases hb : b < n
     ·rw [hlow b hb]
      cases hg : nth (VM l.blks y n) b with
      | none => trivial
      | some bk =>
       have hd' : (if b < n then (match nth l.blks b with | some (.vars _) => rho b | some (.arr _) => rho b | _ => none) else ((nth ds (b - n)).getD none)) = some d := hd
       rw [if_pos hb] at hd'
       have fin : rho b = some d → Zdl (zOf g rho' (UQ l x y).heap w) d (some bk) := fun hd' => by
        exact (a4 n).2 _ ⟨hfit.w, fun k hm => hfit.im k (LI.mono b2 hm), hfit.ptr, hfit.own⟩ (fun j d hj => hds j d (J5 hj)) (fun j o hj => hos j o (J5 hj)) b bk d hg (by rw [Nat.zero_add]; exact hd')
       rcases (a4 n).1 b bk hg with e | ⟨c1, c', ks, e1, e2, e3⟩ | ⟨t, x, e1, e2, e3, e4⟩
       ·subst e; trivial
       ·rw [e1] at hd'; exact fin hd'
       ·rw [e1] at hd'; exact fin hd'
     ·have hds' := high b d hb hd
      obtain ⟨A, cap, S, t, x', e1, e2, e3, e4, e5, e6⟩ := hsrc.at _ d hds'
      have := hhigh (b - n)
      rw [show n + (b - n) = b by omega] at this
      rw [this, e2]
      exact ⟨A, cap, S, e1, e4.mono (fun k hm => ⟨him k hm, rfl⟩) _ _ _ _ _ (fun _ _ => rfl), e5⟩
    ·intro b b' d d' q1 q2 l1 l2 hne k hk hk'
     by_cases hb : b < n
     ·obtain ⟨u1, u2⟩ := low b d hb q1 l1
      by_cases hb' : b' < n
      ·obtain ⟨v1, v2⟩ := low b' d' hb' q2 l2
       exact hs.inv.disj b b' d d' u1 v1 (lowlive b u2) (lowlive b' v2) hne k hk hk'
      ·obtain ⟨A, cap, S, t, x', e1, e2, e3, e4, e5, e6⟩ := hsrc.at _ d' (high b' d' hb' q2)
       subst e1
       obtain ⟨b0, hb0, d0, w1, w2⟩ := e6 k hk'
       exact hs.inv.disj b b0 d d0 u1 w1 (lowlive b u2) (hoblive b0 hb0) (fun e => lowob b u2 (by rw [e]; exact hb0)) k hk w2
     ·have h1' := high b d hb q1
      by_cases hb' : b' < n
      ·obtain ⟨v1, v2⟩ := low b' d' hb' q2 l2
       obtain ⟨A, cap, S, t, x', e1, e2, e3, e4, e5, e6⟩ := hsrc.at _ d h1'
       subst e1
       obtain ⟨b0, hb0, d0, w1, w2⟩ := e6 k hk
       exact hs.inv.disj b' b0 d' d0 v1 w1 (lowlive b' v2) (hoblive b0 hb0) (fun e => lowob b' v2 (by rw [e]; exact hb0)) k hk' w2
      ·exact hsrc.apart hz hoblive obnd _ _ d d' h1' (high b' d' hb' q2) (by omega) k hk hk'
    ·intro b d q1 l1
     by_cases hb : b < n
     ·obtain ⟨u1, u2⟩ := low b d hb q1 l1
      exact hs.inv.nodup b d u1 (lowlive b u2)
     ·obtain ⟨A, cap, S, t, x', e1, e2, e3, e4, e5, e6⟩ := hsrc.at _ d (high b d hb q1)
      subst e1; exact e3
    ·intro b d q1 l1 k hk
     obtain ⟨b0, d0, w1, w2, w3, _⟩ := from0 b d q1 l1 k hk
     exact hs.inv.range b0 d0 w1 w2 k w3
    ·refine b4 _ _ hfit (fun j d hj => ?_) (fun j o hj => ?_)
     ·have := hds (ds1.length + j) d (by simp only [ds]; rw [Uu]; exact hj)
      rwa [hlen1, ← Nat.add_assoc] at this
     ·have := hos ((ZjP l.blks y).length + j) o (by simp only [os]; rw [Uu]; exact hj)
      rwa [← Nat.add_assoc] at this
    ·have hb := hbx q hq
     unfold Bx
     rw [hlow q.1 hb]
     cases hg : nth (VM l.blks y n) q.1 with
     | none => have := Xa.1 hg; rw [Xo] at this; exact absurd hb (by omega)
     | some bk =>
      rcases (a4 n).1 q.1 bk hg with e | ⟨c1, c', ks, e1, e2, e3⟩ | ⟨t, x, e1, e2, e3, e4⟩
      ·subst e; exact .inl rfl
      ·right
       subst e2
       rw [Nat.zero_add] at e3
       have e3 : nth s.heap q.1 = some (.vars c1) := e3
       refine ⟨(hrlow q.1 hb (.inl ⟨ks, e1⟩)).trans ?_, .inl ⟨c', rfl⟩⟩
       rcases hs.bx q hq with k | ⟨k, _⟩
       ·rw [e3] at k; cases k
       ·exact k
      ·exfalso
       rw [Nat.zero_add] at e3
       have e3 : nth s.heap q.1 = some (.arr 0 t x) := e3
       rcases hs.bx q hq with k | ⟨_, ⟨c, k⟩ | k⟩ <;> (rw [e3] at k; cases k)
    ·have hb := hax q hq
     unfold Ax
     rw [hlow q.1 hb]
     cases hg : nth (VM l.blks y n) q.1 with
     | none => have := Xa.1 hg; rw [Xo] at this; exact absurd hb (by omega)
     | some bk =>
      rcases (a4 n).1 q.1 bk hg with e | ⟨c1, c', ks, e1, e2, e3⟩ | ⟨t, x, e1, e2, e3, e4⟩
      ·subst e; exact .inl rfl
      ·exfalso
       rw [Nat.zero_add] at e3
       have e3 : nth s.heap q.1 = some (.vars c1) := e3
       rcases hs.ax q hq with k | ⟨_, v, t', n', k, _⟩ <;> (rw [e3] at k; cases k)
      ·right
       subst e2
       rw [Nat.zero_add] at e3
       have e3 : nth s.heap q.1 = some (.arr 0 t x) := e3
       rcases hs.ax q hq with k | ⟨k1, v, t', n', k2, k3⟩
       ·rw [e3] at k; cases k
       ·rw [e3] at k2
        refine ⟨rfl, v, t', n', k2, fun h0 => ?_⟩
        obtain ⟨m1, A, cap, S, m2, m3⟩ := k3 h0
        exact ⟨m1, A, cap, S, (hrlow q.1 hb (.inr ⟨t, e1⟩)).trans m2, m3⟩
   ·cases he
  ·cases he
end Go.Sx
namespace Go.Sx
open Go
section
variable {R R' : Type} (E : Env)
theorem ZAl (op : BinOp) (k : IntKind) (x y : Int) (K : SV → Option R) (J : R → Option R') : (Zwx op k x y K).bind J = Zwx op k x y fun v => (K v).bind J := by
 cases op <;> first | rfl | (simp only [Zwx]; split <;> rfl)
theorem ZAm (op : BinOp) (x y : ByteArray) (K : SV → Option R) (J : R → Option R') : (ZyB op x y K).bind J = ZyB op x y fun v => (K v).bind J := by
 cases op <;> first | rfl | (simp only [ZyB]; split <;> rfl)
theorem Zec (lo hi : Option SV) (n : Nat) (K : Nat → Nat → Option R) (J : R → Option R') : (Vf lo hi n K).bind J = Vf lo hi n fun i j => (K i j).bind J := by
 unfold Vf
 ((try simp only []); repeat' (first | rfl | (split <;> (try simp only [*, Option.bind_none]))))
theorem Zp8 (h : List Blk) (t : TypeId) (x : SV) (lo hi : Option SV) (K : SV → Option R) (J : R → Option R') : (Zhi E h t x lo hi K).bind J = Zhi E h t x lo hi fun v => (K v).bind J := by
 unfold Zhi
 cases x <;> (try rfl) <;> simp only [← Zec] <;> ((try simp only [Bool.cond_eq_ite]); repeat' (first | rfl | (split <;> (try simp only [*, Option.bind_none]))))
theorem ZCk (h : List Blk) (t : TypeId) (x : SV) (K : SV → Option R) (J : R → Option R') : (ZDm E h t x K).bind J = ZDm E h t x fun v => (K v).bind J := by
 unfold ZDm
 ((try simp only [Bool.cond_eq_ite]); repeat' (first | rfl | (split <;> (try simp only [*, Option.bind_none]))))
theorem Zn4 (h : List Blk) (t : TypeId) (x i : SV) (K : SV → Option R) (J : R → Option R') : (VN E h t x i K).bind J = VN E h t x i fun v => (K v).bind J := by
 unfold VN
 ((try simp only [Bool.cond_eq_ite]); repeat' (first | rfl | (split <;> (try simp only [*, Option.bind_none]))))
 exact Option.bind_assoc ..
theorem ZyV (t : TypeId) (x i : SV) (K : SV → Option R) (J : R → Option R') : (ZpU E t x i K).bind J = ZpU E t x i fun v => (K v).bind J := by
 unfold ZpU ZDn
 ((try simp only [Bool.cond_eq_ite]); repeat' (first | rfl | (split <;> (try simp only [*, Option.bind_none]))))
 exact Option.bind_assoc ..
theorem Q2 (h : List Blk) (t : Ty) (c : List SV) (K : SV → Option R) (J : R → Option R') : (Zda h t c K).bind J = Zda h t c fun v => (K v).bind J := by
 unfold Zda
 ((try simp only [Bool.cond_eq_ite]); repeat' (first | rfl | (split <;> (try simp only [*, Option.bind_none]))))
theorem Zug (h : List Blk) (t a : Ty) (y : a.den) (off : Nat) (K : SV → Option R) (J : R → Option R') : (ZnW h t a y off K).bind J = ZnW h t a y off fun v => (K v).bind J := by
 unfold ZnW
 split
 ·rfl
 ·exact Q2 ..
theorem Zbw (h : List Blk) (t : Ty) (p : SV) (K : SV → Option R) (J : R → Option R') : (UX h t p K).bind J = UX h t p fun v => (K v).bind J := by
 unfold UX
 cases p with
 | eptr b v i off =>
  simp only [← Zug]
  ((try simp only [Bool.cond_eq_ite]); repeat' (first | rfl | (split <;> (try simp only [*, Option.bind_none]))))
  ·exact Option.bind_assoc ..
  ·cases nth (α := Ty.den _) _ _ with
   | none => rfl
   | some y =>
    simp only [Option.bind_some]
    split
    ·exact Q2 ..
    ·rfl
 | ptr b off => simp only [← Q2]; ((try simp only [Bool.cond_eq_ite]); repeat' (first | rfl | (split <;> (try simp only [*, Option.bind_none]))))
 | rptr a y off => exact Zug ..
 | _ => rfl
theorem ZyW (h : List Blk) (op : BinOp) (t : TypeId) (a b : SV) (K : SV → Option R) (J : R → Option R') : (ZjR E h op t a b K).bind J = ZjR E h op t a b fun v => (K v).bind J := by
 unfold ZjR
 simp only [← ZAl, ← ZAm]
 ((try simp only [Bool.cond_eq_ite]); repeat' (first | rfl | (split <;> (try simp only [*, Option.bind_none]))))
theorem ZAn (op : UnOp) (a : SV) (K : SV → Option R) (J : R → Option R') : (ZyC op a K).bind J = ZyC op a fun v => (K v).bind J := by
 unfold ZyC
 ((try simp only []); repeat' (first | rfl | (split <;> (try simp only [*, Option.bind_none]))))
theorem ZrL (h : List Blk) (a : SV) (K : SV → Option R) (J : R → Option R') : (Vg h a K).bind J = Vg h a fun v => (K v).bind J := by
 unfold Vg
 ((try simp only []); repeat' (first | rfl | (split <;> (try simp only [*, Option.bind_none]))))
theorem ZAo (h : List Blk) (s d : TypeId) (a : SV) (K : SV → Option R) (J : R → Option R') : (Zwy E h s d a K).bind J = Zwy E h s d a fun v => (K v).bind J := by
 unfold Zwy
 ((try simp only []); repeat' (first | rfl | (split <;> (try simp only [*, Option.bind_none]))))
theorem Zn5 (h : List Blk) (t : TypeId) (p : SV) (f : Nat) (K : SV → Option R) (J : R → Option R') : (Wp E h t p f K).bind J = Wp E h t p f fun v => (K v).bind J := by
 unfold Wp fieldAt
 ((try simp only []); repeat' (first | rfl | (split <;> (try simp only [*, Option.bind_none]))))
theorem ZyX (h : List Blk) (t : TypeId) (p : SV) (f : Nat) (K : SV → Option R) (J : R → Option R') : (ZjS E h t p f K).bind J = ZjS E h t p f fun v => (K v).bind J := by
 unfold ZjS fieldAt
 simp only [← Q2]
 ((try simp only [Bool.cond_eq_ite]); repeat' (first | rfl | (split <;> (try simp only [*, Option.bind_none]))))
theorem ZyY (h : List Blk) (t : TypeId) (p : List (Nat × SV)) (K : SV → Option R) (J : R → Option R') : (ZjT E h t p K).bind J = ZjT E h t p fun v => (K v).bind J := by
 unfold ZjT
 ((try simp only []); repeat' (first | rfl | (split <;> (try simp only [*, Option.bind_none]))))
theorem Zbx (h : List Blk) (t : TypeId) (n : Nat) (p : List (Nat × SV)) (K : SV → List Blk → Option R) (J : R → Option R') : (XI E h t n p K).bind J = XI E h t n p fun v h => (K v h).bind J := by
 unfold XI
 ((try simp only [Bool.cond_eq_ite]); repeat' (first | rfl | (split <;> (try simp only [*, Option.bind_none]))))
theorem Zn6 (h : List Blk) (t : TypeId) (n c : SV) (K : SV → List Blk → Option R) (J : R → Option R') : (WY E h t n c K).bind J = WY E h t n c fun v h => (K v h).bind J := by
 unfold WY
 ((try simp only [Bool.cond_eq_ite]); repeat' (first | rfl | (split <;> (try simp only [*, Option.bind_none]))))
theorem Zkd (L : Nat) (h : List Blk) (t t' : TypeId) (n c : SV) (K : SV → List Blk → Option R) (J : R → Option R') : (JZ E L h t t' n c K).bind J = JZ E L h t t' n c fun v h => (K v h).bind J := by
 unfold JZ
 ((try simp only [Bool.cond_eq_ite]); repeat' (first | rfl | (split <;> (try simp only [*, Option.bind_none]))))
theorem J6 (h : List Blk) (t t' : TypeId) (n c : SV) (K : SV → List Blk → Option R) (J : R → Option R') : (QX E h t t' n c K).bind J = QX E h t t' n c fun v h => (K v h).bind J := Zkd E lim h t t' n c K J
theorem ZgI (h : List Blk) (t : Ty) (p x : SV) (K : List Blk → Option R) (J : R → Option R') : (Zhj h t p x K).bind J = Zhj h t p x fun h => (K h).bind J := by
 unfold Zhj
 ((try simp only [Bool.cond_eq_ite]); repeat' (first | rfl | (split <;> (try simp only [*, Option.bind_none]))))
 ·rw [Option.bind_assoc]
  congr 1
  funext y
  ((try simp only [Bool.cond_eq_ite]); repeat' (first | rfl | (split <;> (try simp only [*, Option.bind_none]))))
  exact Option.bind_assoc ..
 ·cases nth (α := Ty.den _) _ _ with
  | none => rfl
  | some y => simp only [Option.bind_some]; ((try simp only [Bool.cond_eq_ite]); repeat' (first | rfl | (split <;> (try simp only [*, Option.bind_none]))))
theorem ZAp (h : List Blk) (t : Ty) (p : SV) (K : SV → List Blk → Option R) (J : R → Option R') : (ZwB h t p K).bind J = ZwB h t p fun v h => (K v h).bind J := by
 unfold ZwB
 cases p with
 | eptr b v i off =>
  dsimp only
  split
  ·split
   ·rename_i v' a xs _ _
    cases a.noUq with
    | true => simp only [cond_true]; exact Zbw ..
    | false =>
     simp only [cond_false]
     cases a.okU with
     | false => rfl
     | true =>
      simp only [cond_true]
      cases nth (α := Ty.den _) _ _ with
      | none => rfl
      | some y => simp only [Option.bind_some]; exact Q2 ..
   ·rfl
  ·split
   ·split
    ·exact Q2 ..
    ·rfl
   ·rfl
  ·rfl
 | _ => exact Zbw ..
theorem ZAq (h : List Blk) (t : Ty) (p : SV) (K : SV → List Blk → Option R) (J : R → Option R') : (Zgx h t p K).bind J = Zgx h t p fun v h => (K v h).bind J := by
 unfold Zgx
 cases t.hasSl with
 | true => exact ZAp ..
 | false => exact Zbw ..
theorem ZyZ (h : List Blk) (b : Nat) (K : List Blk → Option R) (J : R → Option R') : (Jq h b K).bind J = Jq h b fun h => (K h).bind J := by
 unfold Jq
 split
 ·split
  ·exact Option.bind_assoc ..
  ·rfl
 ·rfl
theorem ZwT (lz : Bool) (h : List Blk) (b : Nat) (K : List Blk → Option R) (J : R → Option R') : (Zrt lz h b K).bind J = Zrt lz h b fun h => (K h).bind J := by
 cases lz with
 | true => rfl
 | false => exact ZyZ ..
theorem Zp9 (lz : Bool) (h : List Blk) (b v : Nat) (a : Ty) (xs : List a.den) (i : Nat) (c : List SV) (off : Nat) (d : List SV) (K : List Blk → Option R) (J : R → Option R') : (ZjY lz h b v a xs i c off d K).bind J = ZjY lz h b v a xs i c off d fun h => (K h).bind J := by
 unfold ZjY
 cases Nat.ble (off + d.length) c.length with
 | false => rfl
 | true => exact ZwT ..
theorem Zy0 (lz : Bool) (h : List Blk) (t : Ty) (p x : SV) (K : List Blk → Option R) (J : R → Option R') : (ZpV lz h t p x K).bind J = ZpV lz h t p x fun h => (K h).bind J := by
 unfold ZpV
 cases p with
 | eptr b v i off =>
  dsimp only
  split
  ·split
   ·rename_i v' a xs _ _
    cases a.noUq with
    | true => simp only [cond_true]; exact ZgI ..
    | false =>
     simp only [cond_false]
     split
     ·rfl
     ·rename_i d _
      cases (Nat.beq d.length t.size && a.okU) with
      | false => rfl
      | true =>
       simp only [cond_true]
       cases nth (α := Ty.den _) _ _ with
       | none => rfl
       | some y => simp only [Option.bind_some]; exact Zp9 ..
   ·rfl
  ·split
   ·split
    ·split
     ·rfl
     ·rename_i d _
      cases Nat.beq d.length t.size with
      | false => rfl
      | true => simp only [cond_true]; exact Zp9 ..
    ·rfl
   ·rfl
  ·rfl
 | _ => exact ZgI ..
theorem Zke (h : List Blk) (t : TypeId) (n : Nat) (p : List (Nat × SV)) (K : SV → List Blk → Option R) (J : R → Option R') : (Wc E h t n p K).bind J = Wc E h t n p fun v h => (K v h).bind J := by
 unfold Wc
 split
 ·split
  ·rename_i a _
   cases a.hasSl with
   | false => exact Zbx ..
   | true =>
    simp only [cond_true]
    cases (Nat.beq p.length n && Nat.ble n 4096 && Nat.ble a.size 1024) with
    | false => rfl
    | true => simp only [cond_true]; split <;> rfl
  ·rfl
 ·rfl
theorem Zkf (h : List Blk) (t t' : TypeId) (n c : SV) (K : SV → List Blk → Option R) (J : R → Option R') : (Jg E h t t' n c K).bind J = Jg E h t t' n c fun v h => (K v h).bind J := by
 unfold Jg
 split
 ·split
  ·rename_i a _
   cases (a.hasSl && Zgv E t' a) with
   | false => exact J6 ..
   | true =>
    simp only [cond_true]
    split
    ·split
     ·split <;> rfl
     ·rfl
    ·split
     ·rename_i v' a' xs _
      cases a'.noUq with
      | true => simp only [cond_true]; exact J6 ..
      | false =>
       simp only [cond_false]
       split
       ·cases a.eqv a' with
        | false => rfl
        | true =>
         simp only [cond_true]
         split
         ·split
          ·split <;> rfl
          ·rfl
         ·rfl
       ·rfl
     ·rfl
    ·rfl
  ·rfl
 ·rfl
theorem ZwU (h : List Blk) (t : TypeId) (x : SV) (lo : Option SV) (hi mx : SV) (K : SV → Option R) (J : R → Option R') : (Zgw E h t x lo hi mx K).bind J = Zgw E h t x lo hi mx fun v => (K v).bind J := by
 unfold Zgw
 split <;> (try simp only [← Zec]) <;> ((try simp only [Bool.cond_eq_ite]); repeat' (first | rfl | (split <;> (try simp only [*, Option.bind_none]))))
theorem Zy1 (h : List Blk) (t : TypeId) (x : SV) (lo hi : Option SV) (K : SV → Option R) (J : R → Option R') : (ZpT E h t x lo hi K).bind J = ZpT E h t x lo hi fun v => (K v).bind J := by
 unfold ZpT
 split
 ·simp only [← Zec]
  ((try simp only [Bool.cond_eq_ite]); repeat' (first | rfl | (split <;> (try simp only [*, Option.bind_none]))))
 ·exact Zp8 ..
theorem ZwV (h : List Blk) (t t' : TypeId) (n c : SV) (K : SV → List Blk → Option R) (J : R → Option R') : (ZdZ E h t t' n c K).bind J = ZdZ E h t t' n c fun v h => (K v h).bind J := by
 unfold ZdZ
 split
 ·((try simp only [Bool.cond_eq_ite]); repeat' (first | rfl | (split <;> (try simp only [*, Option.bind_none]))))
 ·cases E.nest with
  | true => exact Zkf ..
  | false => exact J6 ..
theorem Zy2 (h : List Blk) (t : TypeId) (x : SV) (K : SV → List Blk → Option R) (J : R → Option R') : (ZpW E h t x K).bind J = ZpW E h t x fun v h => (K v h).bind J := by
 unfold ZpW
 ((try simp only [Bool.cond_eq_ite]); repeat' (first | rfl | (split <;> (try simp only [*, Option.bind_none]))))
end
end Go.Sx
namespace Go.Sx
open Go
section
variable {R R' : Type} (E : Env)
def Zed (gt : Operand → SV) : Op → Bool
 | .binOp _ t _ y _ => !(ZjQ (gt y) && Ve E t)
 | .call c => (match c.callee with | .value _ => false | _ => true)
 | _ => true
theorem JC {o : Oper} {gt : Operand → SV} (hf : Zed E gt o.op = true) (h : List Blk) (K : SV → List Blk → Option R) (J : R → Option R') : (Yd E o gt h K).bind J = Yd E o gt h fun v h => (K v h).bind J := by
 obtain ⟨dst, op, type, pos, after, guard⟩ := o
 cases op with
 | binOp op t x y t' =>
  simp only [Zed, Bool.not_eq_true'] at hf
  simp only [Yd, ZpS, hf, cond_false]
  exact ZyW ..
 | call c =>
  simp only [Zed] at hf
  simp only [Yd]
  split
  ·rename_i hc; rw [hc] at hf; cases hf
  ·((try simp only [Bool.cond_eq_ite]); repeat' (first | rfl | (split <;> (try simp only [*, Option.bind_none])))); exact ZCk ..
  ·split
   ·cases E.far with
    | true => exact ZwV ..
    | false =>
     cases E.wide with
     | true =>
      cases ZjV E _ with
      | true => exact Zkd ..
      | false => rfl
     | false =>
      cases E.nest with
      | true => exact Zkf ..
      | false => exact J6 ..
   ·rfl
  ·split
   ·cases E.far with
    | true => exact Zy2 ..
    | false => rfl
   ·rfl
  ·((try simp only [Bool.cond_eq_ite]); repeat' (first | rfl | (split <;> (try simp only [*, Option.bind_none]))))
  ·((try simp only [Bool.cond_eq_ite]); repeat' (first | rfl | (split <;> (try simp only [*, Option.bind_none]))))
  ·rfl
 | build t ps => simp only [Yd]; exact ZyY ..
 | buildSlice t n ps =>
  simp only [Yd]
  cases E.nest with
  | true => exact Zke ..
  | false => exact Zbx ..
 | load t a =>
  simp only [Yd]
  cases E.ty t with
  | none => rfl
  | some ty =>
   cases Zi1 E a (gt a) with
   | false => rfl
   | true =>
   cases E.opens with
   | true => exact ZAq ..
   | false => exact Zbw ..
 | store t a x =>
  simp only [Yd]
  cases E.ty t with
  | none => rfl
  | some ty =>
   cases E.nest with
   | true => exact Zy0 ..
   | false => exact ZgI ..
 | convert s d x => simp only [Yd]; exact ZAo ..
 | unOp op t x => simp only [Yd]; exact ZAn ..
 | nilCheck x =>
  simp only [Yd]
  cases Zi1 E x (gt x) with
  | false => rfl
  | true => simp only [cond_true]; exact ZrL ..
 | makeSlice t n c => simp only [Yd]; exact Zn6 ..
 | slice t x lo hi mx =>
  cases mx with
  | none =>
   simp only [Yd]
   cases E.far with
   | true => simp only [cond_true]; exact Zy1 ..
   | false => simp only [cond_false]; exact Zp8 ..
  | some _ =>
   cases hi with
   | none => rfl
   | some _ =>
    simp only [Yd]
    cases E.far with
    | true => simp only [cond_true]; exact ZwU ..
    | false => rfl
 | fieldAddr t x f =>
  simp only [Yd]
  cases Zi1 E x (gt x) with
  | false => rfl
  | true => simp only [cond_true]; exact Zn5 ..
 | field t x f => simp only [Yd]; exact ZyX ..
 | indexAddr t x i => simp only [Yd]; exact Zn4 ..
 | index t x i => simp only [Yd]; exact ZyV ..
 | makeFunc fn fs cs => cases fn <;> simp only [Yd] <;> ((try simp only [Bool.cond_eq_ite]); repeat' (first | rfl | (split <;> (try simp only [*, Option.bind_none]))))
 | _ => simp only [Yd]; ((try simp only [Bool.cond_eq_ite]); repeat' (first | rfl | (split <;> (try simp only [*, Option.bind_none]))))
theorem Zuh {α : Type} {xs : List α} {K K' : Bool → Option R} {r : R} (hk : ∀ b, K b = some r → K' b = some r) (he : ZxP xs K = some r) : ZxP xs K' = some r := by
 cases xs with
 | nil =>
  obtain ⟨h1, h2⟩ := ZeT he
  simp only [ZxP, hk _ h1, hk _ h2]
  exact Xm _
 | cons _ _ => exact hk _ he
theorem Zui {α : Type} {xs : List α} {K : Bool → Option R} {r : R} (he : ZxP xs K = some r) : ∃ b, K b = some r := by
 cases xs with
 | nil => exact ⟨true, (ZeT he).1⟩
 | cons _ _ => exact ⟨false, he⟩
theorem ZAr {h : List Blk} {x : SV} {K K' : Bool → Option R} {r : R} (hk : ∀ b, K b = some r → K' b = some r) (he : ZzP h x K = some r) : ZzP h x K' = some r := by
 cases x with
 | nil => exact hk _ he
 | val t x => cases t <;> first | exact Zuh hk he | cases he
 | own b v =>
  simp only [ZzP] at he ⊢
  split at he
  ·split at he
   ·rename_i h1 h2
    rw [if_pos h2]
    exact Zuh hk he
   ·cases he
  ·cases he
 | _ => cases he
theorem ZAs {h : List Blk} {x : SV} {K : Bool → Option R} {r : R} (he : ZzP h x K = some r) : ∃ b, K b = some r := by
 cases x with
 | nil => exact ⟨_, he⟩
 | val t x => cases t <;> first | exact Zui he | cases he
 | own b v =>
  simp only [ZzP] at he
  split at he
  ·split at he
   ·exact Zui he
   ·cases he
  ·cases he
 | _ => cases he
theorem Zy3 {h : List Blk} {op : BinOp} {x : SV} {K K' : SV → Option R} {r : R} (hk : ∀ b, K b = some r → K' b = some r) (he : ZtN h op x K = some r) : ZtN h op x K' = some r := by
 unfold ZtN at he ⊢
 cases op <;> first | cases he | exact ZAr (fun b hb => hk _ hb) he
theorem Zy4 {h : List Blk} {op : BinOp} {x : SV} {K : SV → Option R} {r : R} (he : ZtN h op x K = some r) : ∃ v, K v = some r := by
 unfold ZtN at he
 cases op <;> first | cases he | (obtain ⟨b, hb⟩ := ZAs he; exact ⟨_, hb⟩)
structure Zuj (E : Env) : Prop where
 one : ∀ f c, E.tbl f = some c → ∀ (R : Type) (args : List SV) (K : SV → List (List SV) → Option R) (r : R), c.run R args K = some r → ∃ sv outs, K sv outs = some r
 mono : ∀ f c, E.tbl f = some c → ∀ (R : Type) (args : List SV) (K K' : SV → List (List SV) → Option R) (r : R), (∀ sv outs, K sv outs = some r → K' sv outs = some r) → c.run R args K = some r → c.run R args K' = some r
variable {E}
theorem Zkg {p : ZjO} {fr : Bool} {K K' : SV → List Blk → Option R} {r : R} (hk : ∀ v h, K v h = some r → K' v h = some r) {sv : SV} {outs : List (List SV)} (he : XU p fr K sv outs = some r) : XU p fr K' sv outs = some r := by
 unfold XU at he ⊢
 cases hc : (ZtL sv && outs.all ZaV && !(fr && (hasRo sv || outs.any Xy))) with
 | false => rw [hc] at he; cases he
 | true =>
  rw [hc] at he
  simp only [cond_true] at he ⊢
  split at he
  ·exact hk _ _ he
  ·cases he
theorem Zkh {p : ZjO} {fr : Bool} {K : SV → List Blk → Option R} {r : R} {sv : SV} {outs : List (List SV)} (he : XU p fr K sv outs = some r) : ∃ v h, K v h = some r := by
 unfold XU at he
 cases hc : (ZtL sv && outs.all ZaV && !(fr && (hasRo sv || outs.any Xy))) with
 | false => rw [hc] at he; cases he
 | true =>
  rw [hc] at he
  simp only [cond_true] at he
  split at he
  ·exact ⟨_, _, he⟩
  ·cases he
theorem Zy5 (hE : Zuj E) {f : FuncId} {args : List SV} {h : List Blk} {K K' : SV → List Blk → Option R} {r : R} (hk : ∀ v h, K v h = some r → K' v h = some r) (he : ZdY E f args h K = some r) : ZdY E f args h K' = some r := by
 unfold ZdY at he ⊢
 cases hc : E.tbl f with
 | none => rw [hc] at he; cases he
 | some c =>
  rw [hc] at he
  simp only at he ⊢
  cases hp : Kl c.modes args h with
  | none => rw [hp] at he; cases he
  | some p =>
   rw [hp] at he
   simp only at he ⊢
   cases hl : (p.lent.all (fun b => WD (nth p.heap b))) with
   | false => rw [hl] at he; cases he
   | true =>
    rw [hl] at he
    cases hlf : p.boxes.all (VO E) with
    | false => rw [hlf] at he; cases he
    | true =>
    rw [hlf] at he
    exact hE.mono f c hc R _ _ _ _ (fun _ _ => Zkg fun v h' hx => by
     cases hne : E.opens with
     | false => rw [hne] at hx; exact hk _ _ hx
     | true => rw [hne] at hx; exact ZnX (fun h2 => hk v h2) hx) he
theorem Zy6 (hE : Zuj E) {f : FuncId} {args : List SV} {h : List Blk} {K : SV → List Blk → Option R} {r : R} (he : ZdY E f args h K = some r) : ∃ v h, K v h = some r := by
 unfold ZdY at he
 cases hc : E.tbl f with
 | none => rw [hc] at he; cases he
 | some c =>
  rw [hc] at he
  simp only at he
  cases hp : Kl c.modes args h with
  | none => rw [hp] at he; cases he
  | some p =>
   rw [hp] at he
   simp only at he
   cases hl : (p.lent.all (fun b => WD (nth p.heap b))) with
   | false => rw [hl] at he; cases he
   | true =>
    rw [hl] at he
    simp only [cond_true] at he
    cases hlf : p.boxes.all (VO E) with
    | false => rw [hlf] at he; cases he
    | true =>
    rw [hlf] at he
    obtain ⟨sv, outs, h1⟩ := hE.one f c hc R _ _ _ he
    obtain ⟨v, h2, h3⟩ := Zkh h1
    cases hne : E.opens with
    | false => rw [hne] at h3; exact ⟨v, _, h3⟩
    | true => rw [hne] at h3; exact ⟨v, _, Zdj h3⟩
theorem Zy7 (hE : Zuj E) {o : Oper} {gt : Operand → SV} {h : List Blk} {K K' : SV → List Blk → Option R} {r : R} (hk : ∀ v h, K v h = some r → K' v h = some r) (he : Yd E o gt h K = some r) : Yd E o gt h K' = some r := by
 cases hf : Zed E gt o.op with
 | true =>
  have e1 := JC E hf h (fun v h => some (v, h)) (fun q => K q.1 q.2)
  have e2 := JC E hf h (fun v h => some (v, h)) (fun q => K' q.1 q.2)
  simp only [Option.bind_some] at e1 e2
  rw [← e1] at he
  rw [← e2]
  obtain ⟨q, h1, h2⟩ := Option.bind_eq_some_iff.1 he
  exact Option.bind_eq_some_iff.2 ⟨q, h1, hk _ _ h2⟩
 | false =>
  obtain ⟨dst, op, type, pos, after, guard⟩ := o
  cases op with
  | binOp op t x y t' =>
   simp only [Zed, Bool.not_eq_false'] at hf
   simp only [Yd, ZpS, hf, cond_true] at he ⊢
   exact Zy3 (fun v => hk v h) he
  | call c =>
   simp only [Zed] at hf
   simp only [Yd] at he ⊢
   split at hf
   ·rename_i hc
    rw [hc] at he ⊢
    dsimp only at he ⊢
    split at he
    ·exact Zy5 hE hk he
    ·cases he
   ·cases hf
  | _ => cases hf
theorem Zy8 (hE : Zuj E) {o : Oper} {gt : Operand → SV} {h : List Blk} {K : SV → List Blk → Option R} {r : R} (he : Yd E o gt h K = some r) : ∃ v h, K v h = some r := by
 cases hf : Zed E gt o.op with
 | true =>
  have e1 := JC E hf h (fun v h => some (v, h)) (fun q => K q.1 q.2)
  simp only [Option.bind_some] at e1
  rw [← e1] at he
  obtain ⟨q, h1, h2⟩ := Option.bind_eq_some_iff.1 he
  exact ⟨_, _, h2⟩
 | false =>
  obtain ⟨dst, op, type, pos, after, guard⟩ := o
  cases op with
  | binOp op t x y t' =>
   simp only [Zed, Bool.not_eq_false'] at hf
   simp only [Yd, ZpS, hf, cond_true] at he
   obtain ⟨v, hv⟩ := Zy4 he
   exact ⟨v, h, hv⟩
  | call c =>
   simp only [Zed] at hf
   simp only [Yd] at he
   split at hf
   ·rename_i hc
    rw [hc] at he
    dsimp only at he
    split at he
    ·exact Zy6 hE he
    ·cases he
   ·cases hf
  | _ => cases hf
theorem Zfa {gt gt' : Operand → SV} {l : List (Nat × Operand)} (h : ∀ x ∈ l.map (·.2), gt x = gt' x) : (l.map fun p => (p.1, gt p.2)) = l.map fun p => (p.1, gt' p.2) :=
 List.map_congr_left fun p hp => by rw [h p.2 (List.mem_map.2 ⟨p, hp, rfl⟩)]
theorem ZwW {o : Oper} {gt gt' : Operand → SV} (hg : ∀ x ∈ o.op.operands, gt x = gt' x) (h : List Blk) (K : SV → List Blk → Option R) : Yd E o gt h K = Yd E o gt' h K := by
 obtain ⟨dst, op, type, pos, after, guard⟩ := o
 cases op <;> simp only [Op.operands] at hg <;> simp only [Yd]
 case build t ps => rw [Zfa fun x hx => hg x (by simpa using hx)]
 case buildSlice t n ps => rw [Zfa fun x hx => hg x (by simpa using hx)]
 case makeFunc fn fs cs =>
  cases fn with
  | func f =>
   dsimp only
   rw [List.map_congr_left (l := cs.toList) fun x hx => hg x (by simp [Array.mem_toList_iff.1 hx])]
  | _ => rfl
 case slice t x lo hi mx =>
  cases mx with
  | some _ => cases lo <;> cases hi <;> simp_all
  | none => cases lo <;> cases hi <;> simp_all
 case call c =>
  have ha : ∀ x ∈ c.args.toList, gt x = gt' x := fun x hx => hg x (by simp [Call.operands, Array.mem_toList_iff.1 hx])
  split
  ·rename_i f hc
   rw [hg f (by simp [Call.operands, hc]), List.map_congr_left ha]
  ·split
   ·rename_i hx _; rw [ha _ (by rw [hx]; simp)]
   ·rfl
  ·split
   ·rename_i hx _; rw [ha _ (by rw [hx]; simp), ha _ (by rw [hx]; simp)]
   ·rfl
  ·split
   ·rename_i hx _; rw [ha _ (by rw [hx]; simp)]
   ·rfl
  ·split
   ·rename_i hx; rw [ha _ (by rw [hx]; simp), ha _ (by rw [hx]; simp)]
   ·rfl
  ·split
   ·rename_i hx; rw [ha _ (by rw [hx]; simp), ha _ (by rw [hx]; simp)]
   ·rfl
  ·rfl
 all_goals (first | rfl | (simp_all; done))
end
end Go.Sx
namespace Go.Sx
open Go
section
variable {R : Type} {E : Env}
structure Gt (gt : Operand → SV) : Prop where
 const : ∀ c, gt (.const c) = ofC c
 func : ∀ f, gt (.func f) = .fn f []
theorem Zuk {o : Oper} {gt : Operand → SV} (hg : Gt gt) (hl : XY E o.op = true) : Zed E gt o.op = true := by
 obtain ⟨dst, op, type, pos, after, guard⟩ := o
 cases op with
 | binOp op t x y t' =>
  simp only [XY, Bool.or_eq_true, Bool.not_eq_true'] at hl
  simp only [Zed, Bool.not_eq_true']
  rcases hl with hl | hl
  ·rw [hl, Bool.and_false]
  ·have : ZjQ (gt y) = false := by
    cases y with
    | const c => rw [hg.const]; cases c <;> first | rfl | cases hl
    | _ => cases hl
   rw [this, Bool.false_and]
 | call c =>
  simp only [XY] at hl
  simp only [Zed]
  split at hl
  ·rename_i hc; rw [hc]
  ·rename_i hc; rw [hc]
  ·rename_i hc; rw [hc]
  ·cases hl
 | _ => rfl
theorem JD {t : TypeId} {ty : Ty} {a : Operand} {v : SV} (hl : XY E (.load t a) = true) (ht : E.ty t = some ty) (hv : Zi1 E a v = true) {h : List Blk} {K : SV → List Blk → Option R} :
  (bif E.opens then Zgx h ty v K else UX h ty v fun x => K x h) = UX h ty v fun x => K x h := by
 cases hne : E.opens with
 | false => rfl
 | true =>
  simp only [XY, ht, hne, Bool.true_and, Bool.or_eq_true, Bool.not_eq_true'] at hl
  simp only [cond_true, Zgx]
  rcases hl with hl | hl
  ·have hv := ZCU hl hv
   cases v with
   | ptr b off => cases ty.hasSl <;> rfl
   | _ => cases hv
  ·rw [hl]; rfl
theorem ZAt {o : Oper} {gt : Operand → SV} (hg : Gt gt) (hl : XY E o.op = true) (h : List Blk) (K : SV → List Blk → Option R) : Yd E o gt h K = (Yd E o gt h fun v _ => some v).bind fun v => K v h := by
 rw [JC E (Zuk hg hl)]
 simp only [Option.bind_some]
 obtain ⟨dst, op, type, pos, after, guard⟩ := o
 cases op with
 | slice t x lo hi mx =>
  cases mx with
  | some _ => cases hl
  | none => rfl
 | load t a =>
  simp only [Yd]
  cases ht : E.ty t with
  | none => rfl
  | some ty =>
   cases hv : Zi1 E a (gt a) with
   | false => rfl
   | true =>
   simp only [cond_true]
   rw [JD hl ht hv]
   exact (JD hl ht hv (K := fun v _ => K v h)).symm
 | call c =>
  simp only [XY] at hl
  split at hl
  ·rename_i hc
   simp only [Yd, hc]
  ·rename_i hc
   simp only [Yd, hc]
  ·rename_i hc
   simp only [Yd, hc]
  ·cases hl
 | _ => first | rfl | cases hl
theorem Zki (h h' : List Blk) (t : Ty) (c : SV) : Zbl false h t c = Zbl false h' t c := by
 cases c <;> cases t <;> rfl
theorem J7 (h h' : List Blk) (t : Ty) (l : List SV) : Zc8 false h t l = Zc8 false h' t l := by
 cases l with
 | nil => rfl
 | cons c r => simp only [Zc8]; rw [Zki h h']
theorem ZgJ (h h' : List Blk) : ∀ (t : Ty) (l : List SV), ZtJ false h t l = ZtJ false h' t l
 | .unit, l => rfl
 | .pair a b, l => by
  simp only [ZtJ]
  rw [ZgJ h h' a l]
  cases ZtJ false h' a l with
  | none => rfl
  | some q => dsimp only; rw [ZgJ h h' b q.2]
 | .int k, l => J7 ..
 | .bool, l => J7 ..
 | .str, l => J7 ..
 | .sl u a, l => J7 ..
theorem Zfb (h h' : List Blk) (t : Ty) (l : List SV) : UI false h t l = UI false h' t l := by
 unfold UI; rw [ZgJ h h']
theorem Zkj (h h' : List Blk) (t : Ty) (l : List SV) : ZdW h t l = ZdW h' t l := by
 unfold ZdW; rw [Zfb h h']
theorem Zy9 (h h' : List Blk) (t : Ty) (c : SV) : Zrs false h t c = Zrs false h' t c := by
 cases c with
 | agg l => simp only [Zrs]; rw [Zfb h h']
 | _ => simp only [Zrs]; exact Zki ..
theorem JE (h h' : List Blk) (t : Ty) (c : List SV) (K : SV → Option R) : Zda h t c K = Zda h' t c K := by
 unfold Zda; rw [Zkj h h']
theorem Zul (h h' : List Blk) (t a : Ty) (y : a.den) (off : Nat) (K : SV → Option R) : ZnW h t a y off K = ZnW h' t a y off K := by
 unfold ZnW; simp only [JE h h']
theorem Zqa {h t : List Blk} {ty : Ty} {c : SV} {x : ty.den} (he : Zbl true h ty c = some x) : Zbl true (h ++ t) ty c = some x := by
 cases c with
 | own b v =>
  cases ty with
  | sl u a =>
   simp only [Zbl, cond_true] at he ⊢
   split at he
   ·rename_i hb
    rw [J5 hb]
    exact he
   ·cases he
  | _ => cases he
 | sub b v off n =>
  cases ty with
  | sl u a =>
   simp only [Zbl, cond_true] at he ⊢
   split at he
   ·rename_i hb
    rw [J5 hb]
    exact he
   ·cases he
  | _ => cases he
 | val s x => exact he
 | vl _ s x => exact he
 | nil => exact he
 | _ => cases he
theorem ZcI {h t : List Blk} {ty : Ty} {l : List SV} {q : ty.den × List SV} (he : Zc8 true h ty l = some q) : Zc8 true (h ++ t) ty l = some q := by
 cases l with
 | nil => cases he
 | cons c r =>
  simp only [Zc8] at he ⊢
  split at he
  ·rename_i x hx
   rw [Zqa hx]; exact he
  ·cases he
theorem Zkk {h t : List Blk} : ∀ {ty : Ty} {l : List SV} {q : ty.den × List SV}, ZtJ true h ty l = some q → ZtJ true (h ++ t) ty l = some q
 | .unit, l, q, he => he
 | .pair a b, l, q, he => by
  simp only [ZtJ] at he ⊢
  split at he
  ·rename_i x l' hx
   rw [Zkk hx]
   dsimp only
   split at he
   ·rename_i y l'' hy
    rw [Zkk hy]
    exact he
   ·cases he
  ·cases he
 | .int k, l, q, he => ZcI (ty := .int k) he
 | .bool, l, q, he => ZcI (ty := .bool) he
 | .str, l, q, he => ZcI (ty := .str) he
 | .sl u a, l, q, he => ZcI (ty := .sl u a) he
theorem ZAu {h t : List Blk} {ty : Ty} {c : SV} {x : ty.den} (he : Zrs true h ty c = some x) : Zrs true (h ++ t) ty c = some x := by
 cases c with
 | agg l =>
  simp only [Zrs] at he ⊢
  cases hi : ty.isAgg with
  | false => rw [hi] at he; cases he
  | true =>
   rw [hi] at he
   simp only [cond_true, UI] at he ⊢
   split at he
   ·rename_i y hy
    rw [Zkk hy]
    exact he
   ·cases he
 | _ => simp only [Zrs] at he ⊢; exact Zqa he
theorem X5 {h t : List Blk} {b : Nat} {x : Blk} (hb : nth h b = some x) : nth (h ++ t) b = some x := J5 hb
theorem Zza {o : Oper} {gt : Operand → SV} (hg : Gt gt) (hl : XY E o.op = true) {h t : List Blk} {v : SV} (he : Yd E o gt h (fun v _ => some v) = some v) : Yd E o gt (h ++ t) (fun v _ => some v) = some v := by
 have hf := Zuk hg hl
 obtain ⟨dst, op, type, pos, after, guard⟩ := o
 cases op with
 | load ty a =>
  simp only [Yd] at he ⊢
  cases ht : E.ty ty with
  | none => rw [ht] at he; cases he
  | some T =>
   rw [ht] at he
   dsimp only at he ⊢
   cases hv : Zi1 E a (gt a) with
   | false => rw [hv] at he; cases he
   | true =>
   rw [hv] at he
   simp only [cond_true] at he ⊢
   have key : ∀ h : List Blk, (bif E.opens then Zgx h T (gt a) (fun v _ => some v) else UX h T (gt a) fun v => some v) = UX h T (gt a) fun v => some v := fun h => JD hl ht hv
   rw [key] at he ⊢
   cases ha : gt a with
   | ptr b off =>
    rw [ha] at he
    simp only [UX] at he ⊢
    split at he
    ·rename_i c hb
     rw [X5 hb]
     dsimp only
     rw [JE (h ++ t) h]; exact he
    ·cases he
   | rptr A y off =>
    rw [ha] at he
    simp only [UX] at he ⊢
    rw [Zul (h ++ t) h]; exact he
   | eptr b v i off =>
    rw [ha] at he
    simp only [UX] at he ⊢
    split at he
    ·rename_i v' A xs hb
     rw [X5 hb]
     dsimp only
     simp only [Zul (h ++ t) h, JE (h ++ t) h]; exact he
    ·cases he
   | _ => rw [ha] at he; cases he
 | fieldAddr ty x f =>
  simp only [Yd, Wp] at he ⊢
  cases hv : Zi1 E x (gt x) with
  | false => rw [hv] at he; cases he
  | true =>
  rw [hv] at he
  simp only [cond_true] at he ⊢
  split at he
  ·rename_i fs _
   unfold fieldAt at he ⊢
   split at he
   ·rename_i q o ty' hq
    dsimp only at he ⊢
    cases ha : gt x with
    | ptr b off =>
     rw [ha] at he
     simp only at he ⊢
     split at he
     ·rename_i c hb
      rw [X5 hb]; exact he
     ·cases he
    | rptr A y off => rw [ha] at he; exact he
    | eptr b v i off =>
     rw [ha] at he
     simp only at he ⊢
     split at he
     ·rename_i v' A xs hb
      rw [X5 hb]; exact he
     ·cases he
    | _ => rw [ha] at he; cases he
   ·cases he
  ·cases he
 | nilCheck x =>
  simp only [Yd, Vg] at he ⊢
  cases hv : Zi1 E x (gt x) with
  | false => rw [hv] at he; cases he
  | true =>
  rw [hv] at he
  simp only [cond_true] at he ⊢
  cases ha : gt x with
  | ptr b off =>
   rw [ha] at he
   simp only at he ⊢
   split at he
   ·rename_i c hb
    rw [X5 hb]; exact he
   ·cases he
  | rptr A y off => rw [ha] at he; exact he
  | eptr b v i off =>
   rw [ha] at he
   simp only at he ⊢
   split at he
   ·rename_i v' A xs hb
    rw [X5 hb]; exact he
   ·cases he
  | _ => rw [ha] at he; cases he
 | indexAddr ty x i =>
  simp only [Yd, VN] at he ⊢
  split at he
  ·cases he
  ·skip
   cases ha : gt x with
   | val s y => rw [ha] at he; cases s <;> first | exact he | cases he
   | own b v =>
    rw [ha] at he
    simp only at he ⊢
    split at he
    ·rename_i v' A xs hb
     rw [X5 hb]; exact he
    ·cases he
   | sub b v off n =>
    rw [ha] at he
    simp only at he ⊢
    split at he
    ·rename_i v' A xs hb
     rw [X5 hb]; exact he
    ·cases he
   | _ => rw [ha] at he; cases he
 | slice ty x lo hi mx =>
  cases mx with
  | some _ => cases hl
  | none =>
   have hfar : E.far = false := by simpa only [XY, Bool.not_eq_true'] using hl
   simp only [Yd, Zhi, hfar, cond_false] at he ⊢
   cases ha : gt x with
   | val s y => rw [ha] at he; cases s <;> first | exact he | cases he
   | nil => rw [ha] at he; exact he
   | own b v =>
    rw [ha] at he
    simp only at he ⊢
    split at he
    ·rename_i v' A xs hb
     rw [X5 hb]; exact he
    ·cases he
   | sub b v off n =>
    rw [ha] at he
    simp only at he ⊢
    split at he
    ·rename_i v' A xs hb
     rw [X5 hb]; exact he
    ·cases he
   | _ => rw [ha] at he; cases he
 | call c =>
  simp only [XY] at hl
  split at hl
  ·rename_i hc
   simp only [Yd, hc] at he ⊢
   split at he
   ·rename_i x ty hx hy
    simp only [ZDm] at he ⊢
    cases ha : gt x with
    | val s y => rw [ha] at he; cases s <;> first | exact he | cases he
    | nil => rw [ha] at he; exact he
    | own b v =>
     rw [ha] at he
     simp only at he ⊢
     split at he
     ·rename_i v' A xs hb
      rw [X5 hb]; exact he
     ·cases he
    | sub b v off n =>
     rw [ha] at he
     simp only at he ⊢
     split at he
     ·rename_i v' A xs hb
      rw [X5 hb]; exact he
     ·cases he
    | _ => rw [ha] at he; cases he
   ·cases he
  ·rename_i hc
   simp only [Yd, hc] at he ⊢
   exact he
  ·rename_i hc
   simp only [Yd, hc] at he ⊢
   exact he
  ·cases hl
 | field ty x f =>
  simp only [Yd, ZjS, JE (h ++ t) h] at he ⊢
  exact he
 | build ty ps =>
  simp only [Yd, ZjT, Zkj (h ++ t) h] at he ⊢
  exact he
 | binOp op ty x y ty' =>
  simp only [Zed, Bool.not_eq_true'] at hf
  simp only [Yd, ZpS, hf, cond_false, ZjR, Zy9 (h ++ t) h] at he ⊢
  exact he
 | convert s d x =>
  simp only [Yd, Zwy] at he ⊢
  split at he
  ·exact he
  ·skip
   split at he
   ·exact he
   ·split at he
    ·rename_i hx
     rw [ZAu hx]; exact he
    ·cases he
   ·cases he
  ·cases he
 | _ => first | exact he | cases hl
theorem ZgK {o : Oper} (hp : UY o.op = true) : XY E o.op = true := by
 obtain ⟨dst, op, type, pos, after, guard⟩ := o
 cases op with
 | call c =>
  simp only [UY] at hp
  simp only [XY]
  split at hp
  ·rename_i hc; rw [hc]
  ·rename_i hc; rw [hc]
  ·cases hp
 | _ => first | rfl | cases hp
theorem ZCl {o : Oper} {gt : Operand → SV} (hp : UY o.op = true) (h h' : List Blk) : Yd E o gt h (fun v _ => some v) = Yd E o gt h' (fun v _ => some v) := by
 obtain ⟨dst, op, type, pos, after, guard⟩ := o
 cases op with
 | call c =>
  simp only [UY] at hp
  split at hp
  ·rename_i hc; simp only [Yd, hc]
  ·rename_i hc; simp only [Yd, hc]
  ·cases hp
 | _ => first | rfl | cases hp
mutual
theorem Zfc : ∀ (h : List Blk) (v : SV), ∃ t, (Ur h v).2 = h ++ t
 | h, .fr t x => ⟨_, rfl⟩
 | h, .fv t x => by
  obtain ⟨e, he⟩ := ZcJ t x h
  exact ⟨e, he⟩
 | h, .agg l => QP h l
 | h, .tup l => QP h l
 | h, .fn f l => QP h l
 | h, .val _ _ => ⟨[], by simp [Ur]⟩
 | h, .own _ _ => ⟨[], by simp [Ur]⟩
 | h, .sub _ _ _ _ => ⟨[], by simp [Ur]⟩
 | h, .nil => ⟨[], by simp [Ur]⟩
 | h, .ptr _ _ => ⟨[], by simp [Ur]⟩
 | h, .eptr _ _ _ _ => ⟨[], by simp [Ur]⟩
 | h, .rptr _ _ _ => ⟨[], by simp [Ur]⟩
 | h, .io _ _ => ⟨[], by simp [Ur]⟩
 | h, .mr _ => ⟨[], by simp [Ur]⟩
 | h, .vl _ _ _ => ⟨[], by simp [Ur]⟩
 | h, .fp l => by
  obtain ⟨t, ht⟩ := QP h l
  exact ⟨t ++ [.vars (Xk h l).1], by simp only [Ur]; rw [← List.append_assoc, ← ht]⟩
 | h, .dead => ⟨[], by simp [Ur]⟩
theorem QP : ∀ (h : List Blk) (l : List SV), ∃ t, (Xk h l).2 = h ++ t
 | h, [] => ⟨[], by simp [Xk]⟩
 | h, x :: l => by
  obtain ⟨t1, e1⟩ := Zfc h x
  obtain ⟨t2, e2⟩ := QP (Ur h x).2 l
  refine ⟨t1 ++ t2, ?_⟩
  show (Xk (Ur h x).2 l).2 = _
  rw [e2, e1, List.append_assoc]
theorem ZcJ : ∀ (t : Ty) (x : t.den) (h : List Blk), ∃ e, (Vd t x h).2 = h ++ e
 | .unit, _, h => ⟨[], by simp [Vd]⟩
 | .pair a b, x, h => by
  obtain ⟨t1, e1⟩ := ZcJ a x.1 h
  obtain ⟨t2, e2⟩ := ZcJ b x.2 (Vd a x.1 h).2
  refine ⟨t1 ++ t2, ?_⟩
  show (Vd b x.2 (Vd a x.1 h).2).2 = _
  rw [e2, e1, List.append_assoc]
 | .int _, _, h => ⟨[], by simp [Vd]⟩
 | .bool, _, h => ⟨[], by simp [Vd]⟩
 | .str, _, h => ⟨[], by simp [Vd]⟩
 | .sl true a, x, h => ⟨_, rfl⟩
 | .sl false a, x, h => ⟨[], by simp [Vd]⟩
end
theorem ZrM : ∀ (ms : List Mode) (vs : List SV) {h : List Blk} {p : ZjO}, ms.all ZzV = true → Kl ms vs h = some p → p.heap = h ∧ p.boxes = []
 | [], vs, h, p, _, hp => by
  cases vs with
  | nil => simp only [Kl, Option.some.injEq] at hp; subst hp; exact ⟨rfl, rfl⟩
  | cons _ _ => simp [Kl] at hp
 | m :: ms, [], h, p, _, hp => by simp [Kl] at hp
 | m :: ms, v :: vs, h, p, ha, hp => by
  simp only [List.all_cons, Bool.and_eq_true] at ha
  simp only [Kl] at hp
  split at hp
  ·cases hp
  ·rename_i p1 hp1
   split at hp
   ·cases hp
   ·rename_i q hq
    simp only [Option.some.injEq] at hp
    subst hp
    have h1 : p1.heap = h ∧ p1.boxes = [] := by
     cases m with
     | ro t =>
      simp only [ZpR] at hp1
      split at hp1
      ·simp only [Option.some.injEq] at hp1; subst hp1; exact ⟨rfl, rfl⟩
      ·cases hp1
     | _ => simp [ZzV] at ha
    obtain ⟨h2, h3⟩ := ZrM ms vs ha.2 hq
    exact ⟨h2.trans h1.1, by simp [h1.2, h3]⟩
theorem ZAv (hE : Zuj E) {o : Oper} {gt : Operand → SV} (hg : Gt gt) (hl : ZzW E o.op = true) {h : List Blk} {K K' : SV → List Blk → Option R} {r : R} (hk : ∀ v t, K v (h ++ t) = some r → K' v (h ++ t) = some r)
  (he : Yd E o gt h K = some r) : Yd E o gt h K' = some r := by
 obtain ⟨dst, op, type, pos, after, guard⟩ := o
 cases op with
 | alloc t =>
  simp only [Yd] at he ⊢
  split at he
  ·exact hk _ _ he
  ·cases he
 | box t x =>
  simp only [Yd] at he ⊢
  split at he
  ·rename_i ty c _ _
   cases hb : Nat.beq c.length ty.size with
   | false => rw [hb] at he; cases he
   | true =>
    rw [hb] at he
    exact hk _ _ he
  ·cases he
 | call c =>
  simp only [ZzW] at hl
  split at hl
  ·rename_i f hc
   simp only [Yd, hc, hg.func] at he ⊢
   unfold ZdY at he ⊢
   cases ht : E.tbl f with
   | none => rw [ht] at hl; cases hl
   | some con =>
    rw [ht] at hl he
    simp only [Bool.and_eq_true, Bool.not_eq_true'] at hl
    obtain ⟨hne, hl⟩ := hl
    simp only [hne, cond_false] at he ⊢
    cases hp : Kl con.modes (c.args.toList.map gt ++ []) h with
    | none => rw [hp] at he; cases he
    | some p =>
     rw [hp] at he
     obtain ⟨e1, e2⟩ := ZrM _ _ hl.2 hp
     simp only at he ⊢
     cases hlv : (p.lent.all (fun b => WD (nth p.heap b))) with
     | false => rw [hlv] at he; cases he
     | true =>
      rw [hlv] at he
      simp only [cond_true] at he ⊢
      cases hlf : p.boxes.all (VO E) with
      | false => rw [hlf] at he; cases he
      | true =>
      rw [hlf] at he
      simp only [cond_true] at he ⊢
      refine hE.mono f con ht R _ _ _ _ (fun sv outs hx => ?_) he
      unfold XU at hx ⊢
      rw [hl.1] at hx ⊢
      cases hc : (ZtL sv && outs.all ZaV && !(true && (hasRo sv || outs.any Xy))) with
      | false => rw [hc] at hx; cases hx
      | true =>
       have hro : (hasRo sv || outs.any Xy) = false := by
        simp only [Bool.and_eq_true, Bool.true_and, Bool.not_eq_true'] at hc
        exact hc.2
       rw [hc] at hx
       rw [hro, e1, e2] at hx ⊢
       simp only [cond_true, cond_false] at hx ⊢
       cases outs with
       | cons _ _ => simp [WX] at hx
       | nil =>
        simp only [WX] at hx ⊢
        obtain ⟨t, ht⟩ := Zfc h sv
        rw [ht] at hx ⊢
        exact hk _ _ hx
  ·cases hl
 | _ => cases hl
/-! ### Operations that turn no variable -/
def VK (h h' : List Blk) : Prop := ∀ b c, nth h b = some (.vars c) → nth h' b = some (.vars c)
theorem VK.refl (h : List Blk) : VK h h := fun _ _ h => h
theorem VK.trans {h h' h'' : List Blk} (a : VK h h') (b : VK h' h'') : VK h h'' := fun q c hq => b q c (a q c hq)
theorem Ji (h t : List Blk) : VK h (h ++ t) := fun _ _ hb => X5 hb
theorem Zx2 {h : List Blk} {b : Nat} {nb : Blk} (hb : ∀ c, nth h b ≠ some (.vars c)) : VK h (upd h b nb) := fun q c hq => by
 have hne : b ≠ q := fun e => hb c (e ▸ hq)
 rw [Z2 hne]; exact hq
theorem ZAw {h h1 : List Blk} {b : Nat} {nb : Blk} (hk : VK h h1) (hb : ∃ v t x, nth h b = some (.arr v t x)) : VK h (upd h1 b nb) := fun q c hq => by
 obtain ⟨v, t, x, e⟩ := hb
 have hne : b ≠ q := fun e2 => by rw [← e2, e] at hq; cases hq
 rw [Z2 hne]; exact hk q c hq
theorem ZrN {h : List Blk} {l : List Nat} (hl : ∀ b ∈ l, ∃ v t x, nth h b = some (.arr v t x)) : VK h (UP h l) := fun q c hq => by
 have hne : q ∉ l := fun hm => by
  obtain ⟨v, t, x, e⟩ := hl q hm
  rw [hq] at e; cases e
 rw [Kr l h hne]; exact hq
theorem ZC2 {h h' : List Blk} (ha : ∀ b, nth h' b = nth h b ∨ (nth h' b = some .gone ∧ ∃ v s y, nth h b = some (.arr v s y))) : VK h h' := fun q c hq => by
 rcases ha q with e | ⟨_, v, s, y, e⟩
 ·rw [e]; exact hq
 ·rw [hq] at e; cases e
theorem Zkl {h : List Blk} {t : Ty} {v : SV} {x : t.den} (he : Zbl true h t v = some x) : ∀ b ∈ QT v, ∃ v s y, nth h b = some (.arr v s y) := by
 cases v with
 | own b v =>
  cases t with
  | sl u a =>
   simp only [Zbl, cond_true] at he
   split at he
   ·rename_i hb
    intro q hq
    simp only [QT, List.mem_singleton] at hq
    subst hq
    exact ⟨_, _, _, hb⟩
   ·cases he
  | _ => cases he
 | sub b v off n =>
  cases t with
  | sl u a =>
   simp only [Zbl, cond_true] at he
   split at he
   ·rename_i hb
    intro q hq
    simp only [QT, List.mem_singleton] at hq
    subst hq
    exact ⟨_, _, _, hb⟩
   ·cases he
  | _ => cases he
 | _ => intro q hq; simp [QT] at hq
theorem Zfd {h : List Blk} {t : Ty} {l l' : List SV} {x : t.den} (he : Zc8 true h t l = some (x, l')) : ∃ d, l = d ++ l' ∧ ∀ b ∈ d.flatMap QT, ∃ v s y, nth h b = some (.arr v s y) := by
 cases l with
 | nil => cases he
 | cons c r =>
  simp only [Zc8] at he
  split at he
  ·rename_i y hy
   cases he
   exact ⟨[c], rfl, by simpa using Zkl hy⟩
  ·cases he
theorem ZrO {h : List Blk} : ∀ {t : Ty} {l l' : List SV} {x : t.den}, ZtJ true h t l = some (x, l') → ∃ d, l = d ++ l' ∧ ∀ b ∈ d.flatMap QT, ∃ v s y, nth h b = some (.arr v s y)
 | .unit, l, l', x, he => by cases he; exact ⟨[], rfl, by simp⟩
 | .pair a b, l, l', x, he => by
  simp only [ZtJ] at he
  split at he
  ·rename_i y l1 hy
   split at he
   ·rename_i y2 l2 hy2
    cases he
    obtain ⟨d1, e1, k1⟩ := ZrO hy
    obtain ⟨d2, e2, k2⟩ := ZrO hy2
    refine ⟨d1 ++ d2, by rw [e1, e2]; simp, fun q hq => ?_⟩
    rw [List.flatMap_append] at hq
    rcases List.mem_append.1 hq with m | m
    ·exact k1 q m
    ·exact k2 q m
   ·cases he
  ·cases he
 | .int _, _, _, _, he => Zfd he
 | .bool, _, _, _, he => Zfd he
 | .str, _, _, _, he => Zfd he
 | .sl _ _, _, _, _, he => Zfd he
theorem Zx3 {h : List Blk} {t : Ty} {v : SV} {x : t.den} (he : Zrs true h t v = some x) : ∀ b ∈ VJ v, ∃ v s y, nth h b = some (.arr v s y) := by
 cases v with
 | agg l =>
  simp only [Zrs] at he
  cases ha : t.isAgg with
  | false => rw [ha] at he; cases he
  | true =>
   rw [ha] at he
   simp only [cond_true, UI] at he
   split at he
   ·rename_i y hy
    obtain ⟨d, e, k⟩ := ZrO hy
    rw [List.append_nil] at e
    subst e
    exact k
   ·cases he
 | own b v => exact Zkl (v := .own b v) he
 | sub b v off n => exact Zkl (v := .sub b v off n) he
 | _ => intro q hq; simp [VJ, QT] at hq
theorem Zqb {h : List Blk} {a : Ty} : ∀ (l : List (Nat × SV)) {j : Nat} {xs : List a.den}, ZjU h a j l = some xs → ∀ b ∈ (l.flatMap fun p => VJ p.2), ∃ v s y, nth h b = some (.arr v s y)
 | [], _, _, _, b, hb => by simp at hb
 | (i, v) :: l, j, xs, he, b, hb => by
  simp only [ZjU] at he
  cases hij : Nat.beq i j with
  | false => rw [hij] at he; cases he
  | true =>
   rw [hij] at he
   simp only [cond_true] at he
   split at he
   ·rename_i y hy
    split at he
    ·rename_i ys hys
     rw [List.flatMap_cons] at hb
     rcases List.mem_append.1 hb with m | m
     ·exact Zx3 hy b m
     ·exact Zqb l hys b m
    ·cases he
   ·cases he
theorem Zum {a : Ty} : ∀ (l : List (Nat × SV)) {j : Nat} {xs : List a.den} {h h' : List Blk}, Zhn a j l h = some (xs, h') → VK h h'
 | [], _, _, h, h', he => by simp only [Zhn, Option.some.injEq, Prod.mk.injEq] at he; rw [← he.2]; exact VK.refl h
 | (i, v) :: l, j, xs, h, h', he => by
  simp only [Zhn] at he
  cases hij : Nat.beq i j with
  | false => rw [hij] at he; cases he
  | true =>
   rw [hij] at he
   simp only [cond_true] at he
   split at he
   ·cases he
   ·split at he
    ·rename_i h1 hp
     split at he
     ·rename_i hys
      simp only [Option.some.injEq, Prod.mk.injEq] at he
      rw [← he.2]
      exact (ZC2 (Ze6 _ hp)).trans (Zum l hys)
     ·cases he
    ·cases he
theorem ZAx {h : List Blk} {t : TypeId} {a : Ty} {x : SV} {ys : List a.den} (he : ZyD E h t a x = some ys) : ∀ b ∈ VJ x, ∃ v s y, nth h b = some (.arr v s y) := by
 unfold ZyD at he
 cases hs : ZzS x with
 | true =>
  cases x with
  | val t y => intro q hq; simp [VJ, QT] at hq
  | _ => cases hs
 | false =>
  rw [hs] at he
  simp only [cond_false] at he
  cases ho : Zgv E t a with
  | false => rw [ho] at he; cases he
  | true => rw [ho] at he; exact Zx3 he
theorem ZgL {h : List Blk} {t t' : TypeId} {s x : SV} {v : SV} {h' : List Blk} (he : QX E h t t' s x (fun v h => some (v, h)) = some (v, h')) : VK h h' := by
 unfold QX JZ at he
 split at he
 ·split at he
  ·rename_i a _
   cases hn : a.noUq with
   | false => rw [hn] at he; cases he
   | true =>
    rw [hn] at he
    simp only [cond_true] at he
    split at he
    ·rename_i ys hys
     have hk : VK h (UP h (bif a.hasSl then VJ x else [])) := by
      cases a.hasSl with
      | true => exact ZrN (ZAx hys)
      | false => exact VK.refl h
     split at he
     ·split at he
      ·simp only [Option.some.injEq, Prod.mk.injEq] at he
       rw [← he.2]
       exact hk.trans (Ji _ _)
      ·cases he
     ·split at he
      ·rename_i v' a' xs hb
       split at he
       ·split at he
        ·rename_i zs hzs
         cases hc : (a'.noUq && !((VJ x).any (Nat.beq _))) with
         | false => rw [hc] at he; cases he
         | true =>
          rw [hc] at he
          simp only [cond_true] at he
          split at he
          ·simp only [Option.some.injEq, Prod.mk.injEq] at he
           rw [← he.2]
           exact ZAw hk ⟨_, _, _, hb⟩
          ·cases he
        ·cases he
       ·cases he
      ·cases he
     ·cases he
    ·cases he
  ·cases he
 ·cases he
theorem ZCm {h : List Blk} {a : Ty} {x : SV} {ys : List a.den} (he : Zwt h a x = some ys) {b v : Nat} (hx : x = .own b v) : ∃ v s y, nth h b = some (.arr v s y) := by
 subst hx
 unfold Zwt at he
 dsimp only at he
 split at he
 ·exact ⟨_, _, _, by assumption⟩
 ·cases he
theorem Zx4 {h h' : List Blk} {a : Ty} {x : SV} {ys : List a.den} (he : ZyE h a x = some (ys, h')) : VK h h' := by
 unfold ZyE at he
 split at he
 ·rename_i ho
  split at he
  ·simp only [Option.some.injEq, Prod.mk.injEq] at he
   rw [← he.2]; exact VK.refl h
  ·simp only [Option.some.injEq, Prod.mk.injEq] at he
   rw [← he.2]
   obtain ⟨v, s, y, e⟩ := ZCm ho rfl
   exact Zx2 (fun c hc => by rw [e] at hc; cases hc)
  ·cases he
 ·cases he
theorem Zzb {h : List Blk} {t t' : TypeId} {s x : SV} {v : SV} {h' : List Blk} (he : Jg E h t t' s x (fun v h => some (v, h)) = some (v, h')) : VK h h' := by
 unfold Jg at he
 split at he
 ·split at he
  ·rename_i a _
   cases hc : (a.hasSl && Zgv E t' a) with
   | false => rw [hc] at he; exact ZgL he
   | true =>
    rw [hc] at he
    simp only [cond_true] at he
    split at he
    ·split at he
     ·rename_i htk
      split at he
      ·simp only [Option.some.injEq, Prod.mk.injEq] at he
       rw [← he.2]
       exact (Zx4 htk).trans (Ji _ _)
      ·cases he
     ·cases he
    ·split at he
     ·rename_i v' a' xs hb
      cases hn : a'.noUq with
      | true =>
       rw [hn] at he
       simp only [cond_true] at he
       exact ZgL he
      | false =>
       rw [hn] at he
       simp only [cond_false] at he
       split at he
       ·cases hq : a.eqv a' with
        | false => rw [hq] at he; cases he
        | true =>
         rw [hq] at he
         simp only [cond_true] at he
         split at he
         ·rename_i htk
          split at he
          ·split at he
           ·simp only [Option.some.injEq, Prod.mk.injEq] at he
            rw [← he.2]
            exact ZAw (Zx4 htk) ⟨_, _, _, hb⟩
           ·cases he
          ·cases he
         ·cases he
       ·cases he
     ·cases he
    ·cases he
  ·cases he
 ·cases he
theorem Zdp {h : List Blk} {t : TypeId} {n : Nat} {p : List (Nat × SV)} {v : SV} {h' : List Blk} (he : XI E h t n p (fun v h => some (v, h)) = some (v, h')) : VK h h' := by
 unfold XI at he
 split at he
 ·split at he
  ·rename_i a _
   cases hc : (Nat.beq p.length n && Nat.ble n 4096 && Nat.ble a.size 1024 && a.noUq) with
   | false => rw [hc] at he; cases he
   | true =>
    rw [hc] at he
    simp only [cond_true] at he
    split at he
    ·rename_i xs hxs
     simp only [Option.some.injEq, Prod.mk.injEq] at he
     rw [← he.2]
     exact (ZrN (Zqb p hxs)).trans (Ji _ _)
    ·cases he
  ·cases he
 ·cases he
theorem Zn7 {h : List Blk} {t : TypeId} {n : Nat} {p : List (Nat × SV)} {v : SV} {h' : List Blk} (he : Wc E h t n p (fun v h => some (v, h)) = some (v, h')) : VK h h' := by
 unfold Wc at he
 split at he
 ·split at he
  ·rename_i a _
   cases hs : a.hasSl with
   | false => rw [hs] at he; exact Zdp he
   | true =>
    rw [hs] at he
    simp only [cond_true] at he
    cases hc : (Nat.beq p.length n && Nat.ble n 4096 && Nat.ble a.size 1024) with
    | false => rw [hc] at he; cases he
    | true =>
     rw [hc] at he
     simp only [cond_true] at he
     split at he
     ·rename_i xs h1 hxs
      simp only [Option.some.injEq, Prod.mk.injEq] at he
      rw [← he.2]
      exact (Zum p hxs).trans (Ji _ _)
     ·cases he
  ·cases he
 ·cases he
theorem ZrP {h : List Blk} {t : TypeId} {n c : SV} {v : SV} {h' : List Blk} (he : WY E h t n c (fun v h => some (v, h)) = some (v, h')) : VK h h' := by
 unfold WY at he
 split at he
 ·split at he
  ·rename_i a _ _ _ _ _
   split at he
   ·split at he
    ·split at he
     ·cases hn : a.noUq with
      | false => rw [hn] at he; cases he
      | true =>
       rw [hn] at he
       simp only [cond_true, Option.some.injEq, Prod.mk.injEq] at he
       rw [← he.2]
       exact Ji _ _
     ·cases he
    ·cases he
   ·cases he
  ·cases he
 ·cases he
theorem ZAy {h : List Blk} {b : Nat} {K K' : List Blk → Option R} {r : R} (hk : ∀ h', VK h h' → K h' = some r → K' h' = some r) (he : Jq h b K = some r) : Jq h b K' = some r := by
 unfold Jq at he ⊢
 split at he
 ·rename_i v t xs i c hb
  split at he
  ·rename_i y h1 hp
   obtain ⟨xs', h2, h3⟩ := Option.bind_eq_some_iff.1 he
   refine Option.bind_eq_some_iff.2 ⟨xs', h2, hk _ ?_ h3⟩
   exact fun q c' hq => by
    have hne : b ≠ q := fun e => by rw [← e, hb] at hq; cases hq
    rw [Z2 hne]
    exact ZC2 (Ze6 t hp) q c' hq
  ·exact hk _ (VK.refl h) he
 ·exact hk _ (VK.refl h) he
theorem ZgM : ∀ (l : List Nat) {h : List Blk} {K K' : List Blk → Option R} {r : R}, (∀ h', VK h h' → K h' = some r → K' h' = some r) → ZdX h K l = some r → ZdX h K' l = some r
 | [], h, _, _, _, hk, he => hk _ (VK.refl h) he
 | _ :: l, _, _, _, _, hk, he => ZAy (fun _ v1 h1 => ZgM l (fun _ v2 h2 => hk _ (v1.trans v2) h2) h1) he
theorem Zx5 {h : List Blk} {ty : Ty} {c : List SV} {v : SV} {h' h1 : List Blk} (he : (Zda h1 ty c fun x => (some (x, h1) : Option (SV × List Blk))) = some (v, h')) (hk : VK h h1) : VK h h' := by
 have e := Q2 h1 ty c (fun x => (some x : Option SV)) (fun x => some (x, h1))
 simp only [Option.bind_some] at e
 rw [← e] at he
 obtain ⟨x, _, h3⟩ := Option.bind_eq_some_iff.1 he
 simp only [Option.some.injEq, Prod.mk.injEq] at h3
 rw [← h3.2]; exact hk
theorem ZjF {h : List Blk} {ty : Ty} {p : SV} {v : SV} {h' : List Blk} (he : (UX h ty p fun x => (some (x, h) : Option (SV × List Blk))) = some (v, h')) : VK h h' := by
 have e := Zbw h ty p (fun x => (some x : Option SV)) (fun x => some (x, h))
 simp only [Option.bind_some] at e
 rw [← e] at he
 obtain ⟨x, _, h3⟩ := Option.bind_eq_some_iff.1 he
 simp only [Option.some.injEq, Prod.mk.injEq] at h3
 rw [← h3.2]; exact VK.refl h
theorem ZCn {h : List Blk} {b v : Nat} {a : Ty} {xs : List a.den} {i : Nat} {y : a.den} (hb : nth h b = some (.arr v a xs)) : VK h (ZeU h b v a xs i y).2 := by
 unfold ZeU
 obtain ⟨e, he⟩ := ZcJ a y (upd h b (.opn v a xs i (List.replicate a.size .dead)))
 cases hx : Vd a y (upd h b (.opn v a xs i (List.replicate a.size .dead))) with
 | mk c h' =>
  dsimp only
  rw [hx] at he
  dsimp only at he
  rw [he]
  intro q c' hq
  have hne : b ≠ q := fun e => by rw [← e, hb] at hq; cases hq
  rw [Z2 hne]
  exact X5 (by rw [Z2 hne]; exact hq)
theorem ZCo {h : List Blk} {ty : Ty} {p : SV} {v : SV} {h' : List Blk} (he : Zgx h ty p (fun v h => some (v, h)) = some (v, h')) : VK h h' := by
 unfold Zgx at he
 cases hs : ty.hasSl with
 | false => rw [hs] at he; exact ZjF he
 | true =>
  rw [hs] at he
  simp only [cond_true] at he
  unfold ZwB at he
  split at he
  ·rename_i b vv i off
   split at he
   ·rename_i v' a xs hb
    split at he
    ·cases hn : a.noUq with
     | true => rw [hn] at he; simp only [cond_true] at he; exact ZjF he
     | false =>
      rw [hn] at he
      simp only [cond_false] at he
      cases hu : a.okU with
      | false => rw [hu] at he; cases he
      | true =>
       rw [hu] at he
       simp only [cond_true] at he
       obtain ⟨y, _, h2⟩ := Option.bind_eq_some_iff.1 he
       exact Zx5 h2 (ZCn hb)
    ·cases he
   ·split at he
    ·split at he
     ·exact Zx5 he (VK.refl h)
     ·cases he
    ·cases he
   ·cases he
  ·exact ZjF he
theorem ZCp (hE : Zuj E) {f : FuncId} {con : Con} (ht : E.tbl f = some con) (hm : con.modes.all ZzV = true) {args : List SV} {h : List Blk} {K K' : SV → List Blk → Option R} {r : R} (hk : ∀ v h', VK h h' → K v h' = some r → K' v h' = some r)
  (he : ZdY E f args h K = some r) : ZdY E f args h K' = some r := by
 unfold ZdY at he ⊢
 rw [ht] at he ⊢
 dsimp only at he ⊢
 cases hp : Kl con.modes args h with
 | none => rw [hp] at he; cases he
 | some p =>
  rw [hp] at he
  obtain ⟨e1, e2⟩ := ZrM _ _ hm hp
  dsimp only at he ⊢
  cases hlv : (p.lent.all (fun b => WD (nth p.heap b))) with
  | false => rw [hlv] at he; cases he
  | true =>
   rw [hlv] at he
   simp only [cond_true] at he ⊢
   cases hlf : p.boxes.all (VO E) with
   | false => rw [hlf] at he; cases he
   | true =>
   rw [hlf] at he
   simp only [cond_true] at he ⊢
   have hkl : VK h (UP h p.lent) := ZrN (fun b hb => by
    have := List.all_eq_true.1 hlv b hb
    rw [e1] at this
    cases hx : nth h b with
    | none => rw [hx] at this; cases this
    | some x =>
     rw [hx] at this
     cases x with
     | arr v t y => exact ⟨v, t, y, rfl⟩
     | _ => cases this)
   refine hE.mono f con ht R _ _ _ _ (fun sv outs hx => ?_) he
   unfold XU at hx ⊢
   cases hc : (ZtL sv && outs.all ZaV && !(con.fresh && (hasRo sv || outs.any Xy))) with
   | false => rw [hc] at hx; cases hx
   | true =>
    rw [hc] at hx
    simp only [cond_true] at hx ⊢
    rw [e1, e2] at hx ⊢
    cases outs with
    | cons _ _ => simp [WX] at hx
    | nil =>
     simp only [WX] at hx ⊢
     have hbase : VK h (bif hasRo sv || List.any [] Xy then UP h p.lent else h) := by
      cases (hasRo sv || List.any [] Xy) with
      | true => exact hkl
      | false => exact VK.refl h
     generalize (bif hasRo sv || List.any [] Xy then UP h p.lent else h) = hh at hx hbase ⊢
     obtain ⟨t, ht2⟩ := Zfc hh sv
     have hv2 : VK h (Ur hh sv).2 := by rw [ht2]; exact hbase.trans (Ji _ _)
     cases hne : E.opens with
     | false =>
      rw [hne] at hx
      exact hk _ _ hv2 hx
     | true =>
      rw [hne] at hx
      exact ZgM _ (fun h' v1 h1 => hk _ _ (hv2.trans v1) h1) hx
theorem ZAz (hE : Zuj E) {o : Oper} {gt : Operand → SV} (hg : Gt gt) (hl : ZzX E o.op = true) {h : List Blk} {K K' : SV → List Blk → Option R} {r : R} (hk : ∀ v h', VK h h' → K v h' = some r → K' v h' = some r)
  (he : Yd E o gt h K = some r) : Yd E o gt h K' = some r := by
 have via : Zed E gt o.op = true → (∀ v h', Yd E o gt h (fun v h => some (v, h)) = some (v, h') → VK h h') → Yd E o gt h K' = some r := by
  intro hf hv
  have e1 := JC E hf h (fun v h => some (v, h)) (fun q => K q.1 q.2)
  have e2 := JC E hf h (fun v h => some (v, h)) (fun q => K' q.1 q.2)
  simp only [Option.bind_some] at e1 e2
  rw [← e1] at he
  rw [← e2]
  obtain ⟨q, h1, h2⟩ := Option.bind_eq_some_iff.1 he
  exact Option.bind_eq_some_iff.2 ⟨q, h1, hk _ _ (hv q.1 q.2 h1) h2⟩
 obtain ⟨dst, op, type, pos, after, guard⟩ := o
 cases op with
 | load t a =>
  refine via rfl (fun v h' hx => ?_)
  simp only [Yd] at hx
  cases ht : E.ty t with
  | none => rw [ht] at hx; cases hx
  | some ty =>
   rw [ht] at hx
   dsimp only at hx
   cases hv : Zi1 E a (gt a) with
   | false => rw [hv] at hx; cases hx
   | true =>
    rw [hv] at hx
    simp only [cond_true] at hx
    cases hne : E.opens with
    | true => rw [hne] at hx; exact ZCo hx
    | false => rw [hne] at hx; exact ZjF hx
 | alloc t =>
  refine via rfl (fun v h' hx => ?_)
  simp only [Yd] at hx
  split at hx
  ·simp only [Option.some.injEq, Prod.mk.injEq] at hx
   rw [← hx.2]; exact Ji _ _
  ·cases hx
 | box t x =>
  refine via rfl (fun v h' hx => ?_)
  simp only [Yd] at hx
  split at hx
  ·rename_i ty c _ _
   cases hb : Nat.beq c.length ty.size with
   | false => rw [hb] at hx; cases hx
   | true =>
    rw [hb] at hx
    simp only [cond_true, Option.some.injEq, Prod.mk.injEq] at hx
    rw [← hx.2]; exact Ji _ _
  ·cases hx
 | buildSlice t n ps =>
  refine via rfl (fun v h' hx => ?_)
  simp only [Yd] at hx
  cases hn : E.nest with
  | true => rw [hn] at hx; exact Zn7 hx
  | false => rw [hn] at hx; exact Zdp hx
 | makeSlice t n c =>
  refine via rfl (fun v h' hx => ?_)
  simp only [Yd] at hx
  exact ZrP hx
 | call c =>
  simp only [ZzX] at hl
  split at hl
  ·rename_i hc
   refine via (by simp only [Zed, hc]) (fun v h' hx => ?_)
   simp only [Yd, hc] at hx
   split at hx
   ·simp only [Bool.not_eq_true', Bool.or_eq_false_iff] at hl
    rw [hl.1, hl.2] at hx
    simp only [cond_false] at hx
    cases hn : E.nest with
    | true => rw [hn] at hx; exact Zzb hx
    | false => rw [hn] at hx; exact ZgL hx
   ·cases hx
  ·rename_i f hc
   simp only [Yd, hc, hg.func] at he ⊢
   cases ht : E.tbl f with
   | none => rw [ht] at hl; cases hl
   | some con =>
    rw [ht] at hl
    exact ZCp hE ht hl hk he
  ·cases hl
 | _ => cases hl
/-! ### Variables that no call is lent -/
def VP (E : Env) (h h' : List Blk) : Prop := ∀ b c, pvB E b = true → nth h b = some (.vars c) → nth h' b = some (.vars c)
theorem VK.vp {h h' : List Blk} (hk : VK h h') : VP E h h' := fun b c _ hb => hk b c hb
theorem VP.refl (h : List Blk) : VP E h h := fun _ _ _ h => h
theorem VP.trans {h h' h'' : List Blk} (a : VP E h h') (b : VP E h' h'') : VP E h h'' := fun q c hp hq => b q c hp (a q c hp hq)
theorem ZAA {h : List Blk} {b : Nat} {nb : Blk} (hb : pvB E b = false) : VP E h (upd h b nb) := fun q c hp hq => by
 have hne : b ≠ q := fun e => by rw [e, hp] at hb; cases hb
 rw [Z2 hne]; exact hq
mutual
theorem ZC3 : ∀ (v : SV) {h h' : List Blk} {v' : SV}, pub h v = some (v', h') → VK h h'
 | .val t x, h, h', v', hp => by simp only [pub, Option.some.injEq, Prod.mk.injEq] at hp; rw [hp.2]; exact VK.refl _
 | .vl c0 t x, h, h', v', hp => by simp only [pub, Option.some.injEq, Prod.mk.injEq] at hp; rw [hp.2]; exact VK.refl _
 | .nil, h, h', v', hp => by simp only [pub, Option.some.injEq, Prod.mk.injEq] at hp; rw [hp.2]; exact VK.refl _
 | .own c u, h, h', v', hp => by
  simp only [pub] at hp
  split at hp
  ·rename_i hb
   split at hp
   ·simp only [Option.some.injEq, Prod.mk.injEq] at hp
    rw [← hp.2]
    exact Zx2 (fun c e => by rw [hb] at e; cases e)
   ·cases hp
  ·cases hp
 | .sub c u off n, h, h', v', hp => by
  simp only [pub] at hp
  split at hp
  ·rename_i v1 t x hb
   split at hp
   ·cases hnu : t.noUq with
    | false => rw [hnu] at hp; cases hp
    | true =>
     rw [hnu] at hp
     simp only [cond_true, Option.some.injEq, Prod.mk.injEq] at hp
     rw [← hp.2]
     exact Zx2 (fun c e => by rw [hb] at e; cases e)
   ·cases hp
  ·cases hp
 | .agg l, h, h', v', hp => by
  simp only [pub] at hp
  split at hp
  ·rename_i l' h1 hl
   simp only [Option.some.injEq, Prod.mk.injEq] at hp
   rw [← hp.2]
   exact ZrQ l hl
  ·cases hp
 | .tup l, h, h', v', hp => by
  simp only [pub] at hp
  split at hp
  ·rename_i l' h1 hl
   simp only [Option.some.injEq, Prod.mk.injEq] at hp
   rw [← hp.2]
   exact ZrQ l hl
  ·cases hp
 | .ptr _ _, _, _, _, hp => by simp [pub] at hp
 | .eptr _ _ _ _, _, _, _, hp => by simp [pub] at hp
 | .rptr _ _ _, _, _, _, hp => by simp [pub] at hp
 | .fn _ _, _, _, _, hp => by simp [pub] at hp
 | .fr _ _, _, _, _, hp => by simp [pub] at hp
 | .fv _ _, _, _, _, hp => by simp [pub] at hp
 | .io _ _, _, _, _, hp => by simp [pub] at hp
 | .mr _, _, _, _, hp => by simp [pub] at hp
 | .fp _, _, _, _, hp => by simp [pub] at hp
 | .dead, _, _, _, hp => by simp [pub] at hp
theorem ZrQ : ∀ (l : List SV) {h h' : List Blk} {l' : List SV}, Zww h l = some (l', h') → VK h h'
 | [], h, h', v', hp => by simp only [Zww, Option.some.injEq, Prod.mk.injEq] at hp; rw [hp.2]; exact VK.refl _
 | x :: l, h, h', v', hp => by
  simp only [Zww] at hp
  split at hp
  ·rename_i x' h1 hx
   split at hp
   ·rename_i l1 h2 hl
    simp only [Option.some.injEq, Prod.mk.injEq] at hp
    rw [← hp.2]
    exact (ZC3 x hx).trans (ZrQ l hl)
   ·cases hp
  ·cases hp
end
theorem Zqc (v : SV) {h : List Blk} {p : ZjO} (hp : Wb h v = some p) : VK h p.heap := by
 cases v with
 | own b0 u =>
  simp only [Wb] at hp
  split at hp
  ·rename_i hb
   split at hp
   ·simp only [Option.some.injEq] at hp
    subst hp
    exact Zx2 (fun c e => by rw [hb] at e; cases e)
   ·cases hp
  ·cases hp
 | nil => simp only [Wb, Option.some.injEq] at hp; subst hp; exact VK.refl _
 | val t x =>
  simp only [Wb] at hp
  cases hsl : t.hasSl with
  | true => rw [hsl] at hp; cases hp
  | false => rw [hsl] at hp; simp only [cond_false, Option.some.injEq] at hp; subst hp; exact VK.refl _
 | _ => simp [Wb] at hp
theorem Zqd : ∀ (l : List SV) {h : List Blk} {p : ZjO}, QU h l = some p → VK h p.heap
 | [], h, p, hp => by simp only [QU, Option.some.injEq] at hp; subst hp; exact VK.refl _
 | v :: l, h, p, hp => by
  simp only [QU] at hp
  split at hp
  ·cases hp
  ·rename_i p1 hp1
   split at hp
   ·cases hp
   ·rename_i q hq
    simp only [Option.some.injEq] at hp
    subst hp
    exact (Zqc v hp1).trans (Zqd l (p := q) hq)
mutual
theorem ZDC : ∀ (m : Mode) (v : SV) {h : List Blk} {p : ZjO}, ZpR m v h = some p → p.boxes.all (VO E) = true → VP E h p.heap
 | .ro t, v, h, p, hp, _ => by
  simp only [ZpR] at hp
  split at hp
  ·simp only [Option.some.injEq] at hp; subst hp; exact VP.refl _
  ·cases hp
 | .mv, v, h, p, hp, _ => by
  simp only [ZpR] at hp
  split at hp
  ·rename_i v' h' hx
   simp only [Option.some.injEq] at hp
   subst hp
   exact (ZC3 v hx).vp
  ·cases hp
 | .mref, v, h, p, hp, hf => by
  simp only [ZpR] at hp
  split at hp
  ·rename_i b0
   split at hp
   ·rename_i cells hb0
    split at hp
    ·rename_i c' h' hx
     simp only [Option.some.injEq] at hp
     subst hp
     simp only [List.all_cons, List.all_nil, Bool.and_true, VO, Bool.not_eq_true'] at hf
     exact (ZAA hf).trans (ZrQ cells hx).vp
    ·cases hp
   ·cases hp
  ·cases hp
 | .io, v, h, p, hp, _ => by
  simp only [ZpR] at hp
  split at hp
  ·split at hp
   ·rename_i q hq
    simp only [Option.some.injEq] at hp
    subst hp
    exact (Zqd _ (p := q) hq).vp
   ·cases hp
  ·exact (Zqc v hp).vp
 | .fnm ms, v, h, p, hp, hf => by
  simp only [ZpR] at hp
  split at hp
  ·rename_i f cap
   split at hp
   ·rename_i q hq
    simp only [Option.some.injEq] at hp
    subst hp
    exact ZrR ms cap (p := q) hq hf
   ·cases hp
  ·cases hp
theorem ZrR : ∀ (ms : List Mode) (vs : List SV) {h : List Blk} {p : ZjO}, Kl ms vs h = some p → p.boxes.all (VO E) = true → VP E h p.heap
 | [], vs, h, p, hp, _ => by
  simp only [Kl] at hp
  split at hp
  ·simp only [Option.some.injEq] at hp; subst hp; exact VP.refl _
  ·cases hp
 | m :: ms, vs, h, p, hp, hf => by
  simp only [Kl] at hp
  split at hp
  ·cases hp
  ·rename_i v vs'
   split at hp
   ·cases hp
   ·rename_i p1 hp1
    split at hp
    ·cases hp
    ·rename_i q hq
     simp only [Option.some.injEq] at hp
     subst hp
     simp only [List.all_append, Bool.and_eq_true] at hf
     exact (ZDC m v hp1 hf.1).trans (ZrR ms vs' (p := q) hq hf.2)
end
theorem Zkm : ∀ (bs : List Lnt) (cs : List (List SV)) {h h' : List Blk}, WX h bs cs = some h' → bs.all (VO E) = true → VP E h h'
 | [], [], h, h', hr, _ => by simp only [WX, Option.some.injEq] at hr; subst hr; exact VP.refl _
 | [], _ :: _, h, h', hr, _ => by simp [WX] at hr
 | .box b :: bs, [], h, h', hr, _ => by simp [WX] at hr
 | .arr b v t :: bs, [], h, h', hr, _ => by simp [WX] at hr
 | .box b :: bs, c :: cs, h, h', hr, hf => by
  simp only [WX] at hr
  simp only [List.all_cons, Bool.and_eq_true, VO, Bool.not_eq_true'] at hf
  obtain ⟨t, ht⟩ := QP h c
  have h1 : VP E h (Xk h c).2 := by rw [ht]; exact (Ji _ _).vp
  exact (h1.trans (ZAA hf.1)).trans (Zkm bs cs hr hf.2)
 | .arr b v t :: bs, c :: cs, h, h', hr, hf => by
  simp only [WX] at hr
  simp only [List.all_cons, Bool.and_eq_true, VO, Bool.not_eq_true'] at hf
  split at hr
  ·split at hr
   ·exact (ZAA hf.1).trans (Zkm bs cs hr hf.2)
   ·cases hr
  ·cases hr
theorem ZCq (hE : Zuj E) {f : FuncId} {args : List SV} {h : List Blk} {K K' : SV → List Blk → Option R} {r : R} (hk : ∀ v h', VP E h h' → K v h' = some r → K' v h' = some r)
  (he : ZdY E f args h K = some r) : ZdY E f args h K' = some r := by
 unfold ZdY at he ⊢
 cases ht : E.tbl f with
 | none => rw [ht] at he; cases he
 | some con =>
  rw [ht] at he
  dsimp only at he ⊢
  cases hp : Kl con.modes args h with
  | none => rw [hp] at he; cases he
  | some p =>
   rw [hp] at he
   dsimp only at he ⊢
   cases hlv : (p.lent.all (fun b => WD (nth p.heap b))) with
   | false => rw [hlv] at he; cases he
   | true =>
    rw [hlv] at he
    simp only [cond_true] at he ⊢
    cases hlf : p.boxes.all (VO E) with
    | false => rw [hlf] at he; cases he
    | true =>
     rw [hlf] at he
     simp only [cond_true] at he ⊢
     have h0 := ZrR con.modes args hp hlf
     have hkl : VK p.heap (UP p.heap p.lent) := ZrN (fun b hb => by
      have := List.all_eq_true.1 hlv b hb
      cases hx : nth p.heap b with
      | none => rw [hx] at this; cases this
      | some x =>
       rw [hx] at this
       cases x with
       | arr v t y => exact ⟨v, t, y, rfl⟩
       | _ => cases this)
     refine hE.mono f con ht R _ _ _ _ (fun sv outs hx => ?_) he
     unfold XU at hx ⊢
     cases hc : (ZtL sv && outs.all ZaV && !(con.fresh && (hasRo sv || outs.any Xy))) with
     | false => rw [hc] at hx; cases hx
     | true =>
      rw [hc] at hx
      simp only [cond_true] at hx ⊢
      have hbase : VK p.heap (bif hasRo sv || outs.any Xy then UP p.heap p.lent else p.heap) := by
       cases (hasRo sv || outs.any Xy) with
       | true => exact hkl
       | false => exact VK.refl _
      generalize (bif hasRo sv || outs.any Xy then UP p.heap p.lent else p.heap) = hh at hx hbase ⊢
      cases hr : WX hh p.boxes outs with
      | none => rw [hr] at hx; cases hx
      | some h' =>
       rw [hr] at hx
       dsimp only at hx ⊢
       have h1 := Zkm (E := E) p.boxes outs hr hlf
       obtain ⟨t, ht2⟩ := Zfc h' sv
       have hv2 : VP E h (Ur h' sv).2 := by
        rw [ht2]
        exact ((h0.trans hbase.vp).trans h1).trans (Ji _ _).vp
       cases hne : E.opens with
       | false =>
        rw [hne] at hx
        exact hk _ _ hv2 hx
       | true =>
        rw [hne] at hx
        exact ZgM _ (fun h2 v1 h3 => hk _ _ (hv2.trans v1.vp) h3) hx
theorem ZAB (hE : Zuj E) {o : Oper} {gt : Operand → SV} (hg : Gt gt) (hl : ZzY E o.op = true) {h : List Blk} {K K' : SV → List Blk → Option R} {r : R} (hk : ∀ v h', VP E h h' → K v h' = some r → K' v h' = some r)
  (he : Yd E o gt h K = some r) : Yd E o gt h K' = some r := by
 obtain ⟨dst, op, type, pos, after, guard⟩ := o
 cases op with
 | call c =>
  simp only [ZzY] at hl
  split at hl
  ·rename_i f hc
   simp only [Yd, hc, hg.func] at he ⊢
   exact ZCq hE hk he
  ·cases hl
 | _ => cases hl
theorem Zx6 {o : Op} (hv : ZBO E o = true) : vOp E o = true := by
 cases o with
 | load t a => simp only [ZBO, Bool.and_eq_true] at hv; exact hv.1
 | fieldAddr t a f => simp only [ZBO, Bool.and_eq_true] at hv; exact hv.1
 | nilCheck a => simp only [ZBO, Bool.and_eq_true] at hv; exact hv.1
 | _ => cases hv
theorem JF {o : Op} (hv : vOp E o = true) : XY E o = true := by
 cases o with
 | load t a => simp only [vOp] at hv; simp only [XY, hv, Bool.true_or]
 | fieldAddr t a f => rfl
 | nilCheck a => rfl
 | _ => cases hv
theorem ZED {o : Oper} {gt : Operand → SV} (hv : vOp E o.op = true) {h h' : List Blk} (hk : VK h h') {v : SV} (he : Yd E o gt h (fun v _ => some v) = some v) : Yd E o gt h' (fun v _ => some v) = some v := by
 have hl := JF hv
 obtain ⟨dst, op, type, pos, after, guard⟩ := o
 have ptr : ∀ a, ZzT E a = true → Zi1 E a (gt a) = true → ∃ b off, gt a = .ptr b off := by
  intro a h1 h2
  have h2 := ZCU h1 h2
  cases hx : gt a with
  | ptr b off => exact ⟨b, off, rfl⟩
  | _ => rw [hx] at h2; cases h2
 cases op with
 | load t a =>
  simp only [Yd] at he ⊢
  cases ht : E.ty t with
  | none => rw [ht] at he; cases he
  | some ty =>
   rw [ht] at he
   dsimp only at he ⊢
   cases hvt : Zi1 E a (gt a) with
   | false => rw [hvt] at he; cases he
   | true =>
    rw [hvt] at he
    simp only [cond_true] at he ⊢
    have key : ∀ h : List Blk, (bif E.opens then Zgx h ty (gt a) (fun v _ => some v) else UX h ty (gt a) fun v => some v) = UX h ty (gt a) fun v => some v := fun h => JD hl ht hvt
    rw [key] at he ⊢
    obtain ⟨b, off, hb⟩ := ptr a hv hvt
    rw [hb] at he ⊢
    simp only [UX] at he ⊢
    split at he
    ·rename_i c hc
     rw [hk b c hc]
     dsimp only
     rw [JE h' h]
     exact he
    ·cases he
 | fieldAddr t x f =>
  simp only [Yd, Wp] at he ⊢
  cases hvt : Zi1 E x (gt x) with
  | false => rw [hvt] at he; cases he
  | true =>
   rw [hvt] at he
   simp only [cond_true] at he ⊢
   obtain ⟨b, off, hb⟩ := ptr x hv hvt
   rw [hb] at he ⊢
   split at he
   ·unfold fieldAt at he ⊢
    split at he
    ·dsimp only at he ⊢
     split at he
     ·rename_i c hc
      rw [hk b c hc]; exact he
     ·cases he
    ·cases he
   ·cases he
 | nilCheck x =>
  simp only [Yd, Vg] at he ⊢
  cases hvt : Zi1 E x (gt x) with
  | false => rw [hvt] at he; cases he
  | true =>
   rw [hvt] at he
   simp only [cond_true] at he ⊢
   obtain ⟨b, off, hb⟩ := ptr x hv hvt
   rw [hb] at he ⊢
   dsimp only at he ⊢
   split at he
   ·rename_i c hc
    rw [hk b c hc]; exact he
   ·cases he
 | _ => cases hv
theorem ZDD {o : Oper} {gt : Operand → SV} (hv' : ZBO E o.op = true) {h h' : List Blk} (hk : VP E h h') {v : SV} (he : Yd E o gt h (fun v _ => some v) = some v) : Yd E o gt h' (fun v _ => some v) = some v := by
 have hl := JF (Zx6 hv')
 obtain ⟨dst, op, type, pos, after, guard⟩ := o
 have ptr : ∀ a, ZzT E a = true ∧ ZEv E a = true → Zi1 E a (gt a) = true → ∃ b off, gt a = .ptr b off ∧ pvB E b = true := by
  intro a h1 h2
  unfold Zi1 at h2
  rw [h1.1, h1.2] at h2
  simp only [Bool.not_true, Bool.false_or, Bool.and_eq_true] at h2
  cases hx : gt a with
  | ptr b off => rw [hx] at h2; exact ⟨b, off, rfl, h2.2⟩
  | _ => rw [hx] at h2; cases h2.1
 cases op with
 | load t a =>
  simp only [Yd] at he ⊢
  cases ht : E.ty t with
  | none => rw [ht] at he; cases he
  | some ty =>
   rw [ht] at he
   dsimp only at he ⊢
   cases hvt : Zi1 E a (gt a) with
   | false => rw [hvt] at he; cases he
   | true =>
    rw [hvt] at he
    simp only [cond_true] at he ⊢
    have key : ∀ h : List Blk, (bif E.opens then Zgx h ty (gt a) (fun v _ => some v) else UX h ty (gt a) fun v => some v) = UX h ty (gt a) fun v => some v := fun h => JD hl ht hvt
    rw [key] at he ⊢
    obtain ⟨b, off, hb, hpv⟩ := ptr a (by simpa only [ZBO, Bool.and_eq_true] using hv') hvt
    rw [hb] at he ⊢
    simp only [UX] at he ⊢
    split at he
    ·rename_i c hc
     rw [hk b c hpv hc]
     dsimp only
     rw [JE h' h]
     exact he
    ·cases he
 | fieldAddr t x f =>
  simp only [Yd, Wp] at he ⊢
  cases hvt : Zi1 E x (gt x) with
  | false => rw [hvt] at he; cases he
  | true =>
   rw [hvt] at he
   simp only [cond_true] at he ⊢
   obtain ⟨b, off, hb, hpv⟩ := ptr x (by simpa only [ZBO, Bool.and_eq_true] using hv') hvt
   rw [hb] at he ⊢
   split at he
   ·unfold fieldAt at he ⊢
    split at he
    ·dsimp only at he ⊢
     split at he
     ·rename_i c hc
      rw [hk b c hpv hc]; exact he
     ·cases he
    ·cases he
   ·cases he
 | nilCheck x =>
  simp only [Yd, Vg] at he ⊢
  cases hvt : Zi1 E x (gt x) with
  | false => rw [hvt] at he; cases he
  | true =>
   rw [hvt] at he
   simp only [cond_true] at he ⊢
   obtain ⟨b, off, hb, hpv⟩ := ptr x (by simpa only [ZBO, Bool.and_eq_true] using hv') hvt
   rw [hb] at he ⊢
   dsimp only at he ⊢
   split at he
   ·rename_i c hc
    rw [hk b c hpv hc]; exact he
   ·cases he
 | _ => cases hv'
end
end Go.Sx
