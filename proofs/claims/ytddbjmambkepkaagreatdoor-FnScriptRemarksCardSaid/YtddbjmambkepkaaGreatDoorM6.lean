/- The head of a loop: what is kept there. -/
import Derived.Test.YtddbjmambkepkaaGreatDoorM5
set_option linter.unusedVariables false
set_option linter.unusedSimpArgs false
namespace Go.Sx
open Go
def YZ (h h' : List Blk) : Prop := h'.length = h.length ∧ ∀ b, nth h' b = nth h b ∨ nth h' b = some .gone
theorem YZ.refl (h : List Blk) : YZ h h := ⟨rfl, fun _ => .inl rfl⟩
theorem YZ.trans {h h' h'' : List Blk} (a : YZ h h') (b : YZ h' h'') : YZ h h'' := by
 refine ⟨b.1.trans a.1, fun k => ?_⟩;rcases b.2 k with e | e
 ·rw [e]; exact a.2 k
 ·exact .inr e
theorem HQ (h : List Blk) (b : Nat) : YZ h (upd h b .gone) := by
 refine ⟨ZG _ _ _, fun k => ?_⟩;rcases ZP h b k Blk.gone with ⟨_, h2, _⟩ | h2
 ·exact .inr h2
 ·exact .inl h2
theorem Qa : ∀ (l : List Nat) (h : List Blk), YZ h (UM h l)
 | [], h => YZ.refl h
 | b :: l, h => (HQ h b).trans (Qa l _)
theorem YZ.live {h h' : List Blk} (a : YZ h h') {b : Nat} (hl : Sx.live (nth h' b)) : nth h' b = nth h b ∧ Sx.live (nth h b) := by
 rcases a.2 b with e | e
 ·exact ⟨e, e ▸ hl⟩
 ·rw [e] at hl; exact hl.elim
theorem YZ.le {h h' : List Blk} (a : YZ h h') (r : Option D) (b : Nat) : ZX r r (nth h b) (nth h' b) := by
 rcases a.2 b with e | e
 ·rw [e]; exact ZX.refl _ _
 ·rw [e]; exact ZX.gone
theorem FV {b : Option Blk} (h : WJ b = true) : live b := by
 unfold WJ at h; split at h
 ·trivial
 ·cases h
structure PN (z0 : Z) (L ob : List Nat) (h : List Blk) : Prop where
 only : YZ z0.h h
 was : ∀ b, b ∈ L ∨ b ∈ ob → WJ (nth z0.h b) = true ∧ ¬ live (nth h b)
 sep : ∀ r ∈ L, r ∉ ob
 nodup : ob.Nodup
def zc (z0 : Z) (L : List Nat) (h : List Blk) : Z := ⟨LI z0 L, z0.w, z0.rho, h⟩
theorem PN.ext {z0 : Z} {L L' : List Nat} {h h' : List Blk} (hL : ∀ r ∈ L, r ∈ L') (hk : YZ h h') : Ext (zc z0 L h) (zc z0 L' h') :=
 ⟨fun _ hm => ⟨LI.mono hL hm, rfl⟩, fun b => hk.le _ b⟩
theorem PN.ext0 {z0 : Z} {L : List Nat} {h : List Blk} (hk : YZ z0.h h) : Ext z0 (zc z0 L h) :=
 ⟨fun _ hm => ⟨.inl hm, rfl⟩, fun b => hk.le _ b⟩
theorem PN.iz {z0 : Z} (hz : IZ z0) {L ob : List Nat} {h : List Blk} (t : PN z0 L ob h) : IZ (zc z0 L h) := by
 refine ⟨fun b d hd => ?_, fun b b' d d' a1 a2 l1 l2 => hz.disj b b' d d' a1 a2 (t.only.live l1).2 (t.only.live l2).2, fun b d a1 l1 => hz.nodup b d a1 (t.only.live l1).2, ?_⟩
 ·show Ev _ d (nth h b)
  rcases t.only.2 b with e | e
  ·rw [e]; exact (hz.sim b d hd).ext (PN.ext0 t.only) (fun _ _ _ => rfl)
  ·rw [e]; trivial
 ·intro b d hd hl k hk hm
  have hl : live (nth h b) := hl;rcases hm with hm | ⟨r, hr, d', e1, e2, e3⟩
  ·exact hz.sep b d hd (t.only.live hl).2 k hk hm
  ·have hne : b ≠ r := fun e => (t.was r (.inl hr)).2 (e ▸ hl)
   exact hz.disj b r d d' hd e1 (t.only.live hl).2 e2 hne k hk e3
inductive OD (z0 : Z) (im : Nat → Prop) : List Nat → List (Option D) → List Blk → Prop
 | nil : OD z0 im [] [] []
 | junk {ob : List Nat} {ds : List (Option D)} {os : List Blk} {t : Ty} {x : List t.den} : OD z0 im ob ds os → OD z0 im ob (none :: ds) (.arr 0 t x :: os)
 | empty {ob : List Nat} {ds : List (Option D)} {os : List Blk} {t : Ty} : 0 < t.size → OD z0 im ob ds os → OD z0 im ob (some (.s none 0 []) :: ds) (.arr 0 t [] :: os)
 | cons {b : Nat} {A : Option Addr} {cap : Nat} {S ob : List Nat} {ds : List (Option D)} {os : List Blk} {t : Ty} {x : List t.den} :
   (∀ k ∈ S, ∃ d0, z0.rho b = some d0 ∧ k ∈ d0.blks) → S.Nodup → TR im z0.w true (.sl true t) x [.slice A x.length cap] S → 0 < t.size → OD z0 im ob ds os →
   OD z0 im (b :: ob) (some (.s A cap S) :: ds) (.arr 0 t x :: os)
theorem OD.mono {z0 : Z} {im im' : Nat → Prop} (hi : ∀ k, im k → im' k) {ob : List Nat} {ds : List (Option D)} {os : List Blk} (h : OD z0 im ob ds os) : OD z0 im' ob ds os := by
 induction h with
 | nil => exact .nil
 | junk _ ih => exact .junk ih
 | empty h1 _ ih => exact .empty h1 ih
 | cons h1 h2 h3 h4 _ ih => exact .cons h1 h2 (h3.mono (fun k hk => ⟨hi k hk, rfl⟩) _ _ _ _ _ (fun _ _ => rfl)) h4 ih
theorem OD.append {z0 : Z} {im : Nat → Prop} {ob ob' : List Nat} {ds ds' : List (Option D)} {os os' : List Blk} (h : OD z0 im ob ds os) (h' : OD z0 im ob' ds' os') : OD z0 im (ob ++ ob') (ds ++ ds') (os ++ os') := by
 induction h with
 | nil => exact h'
 | junk _ ih => exact .junk ih
 | empty h1 _ ih => exact .empty h1 ih
 | cons h1 h2 h3 h4 _ ih => exact .cons h1 h2 h3 h4 ih
theorem OD.length {z0 : Z} {im : Nat → Prop} {ob : List Nat} {ds : List (Option D)} {os : List Blk} (h : OD z0 im ob ds os) : ds.length = os.length := by
 induction h with
 | nil => rfl
 | junk _ ih => simp [ih]
 | empty _ _ ih => simp [ih]
 | cons _ _ _ _ _ ih => simp [ih]
theorem OD.at {z0 : Z} {im : Nat → Prop} {ob : List Nat} {ds : List (Option D)} {os : List Blk} (h : OD z0 im ob ds os) : ∀ (j : Nat) (d : D), nth ds j = some (some d) →
  ∃ A cap S t x, d = .s A cap S ∧ nth os j = some (.arr 0 t x) ∧ S.Nodup ∧ TR im z0.w true (.sl true t) x [.slice A x.length cap] S ∧ 0 < t.size ∧ ∀ k ∈ S, ∃ b ∈ ob, ∃ d0, z0.rho b = some d0 ∧ k ∈ d0.blks := by
 induction h with
 | nil => intro j d hj; simp [nth] at hj
 | junk _ ih =>
  intro j d hj;cases j with
  | zero => simp [nth] at hj
  | succ j => exact ih j d hj
 | @empty ob ds os t h1 _ ih =>
  intro j d hj;cases j with
  | zero =>
   simp only [nth, Option.some.injEq] at hj;subst hj;exact ⟨none, 0, [], t, [], rfl, rfl, by simp, ⟨none, 0, rfl, by simp, by simp⟩, h1, by simp⟩
  | succ j => exact ih j d hj
 | @cons b A cap S ob ds os t x h1 h2 h3 h4 _ ih =>
  intro j d hj;cases j with
  | zero =>
   simp only [nth, Option.some.injEq] at hj;subst hj;exact ⟨A, cap, S, t, x, rfl, rfl, h2, h3, h4, fun k hk => ⟨b, by simp, h1 k hk⟩⟩
  | succ j =>
   obtain ⟨A', cap', S', t', x', e1, e2, e3, e4, e5, e6⟩ := ih j d hj;exact ⟨A', cap', S', t', x', e1, e2, e3, e4, e5, fun k hk => by obtain ⟨b', hb', r⟩ := e6 k hk; exact ⟨b', by simp [hb'], r⟩⟩
theorem OD.apart {z0 : Z} {im : Nat → Prop} (hz : IZ z0) {ob : List Nat} {ds : List (Option D)} {os : List Blk} (h : OD z0 im ob ds os) (hl : ∀ b ∈ ob, live (nth z0.h b)) (hn : ob.Nodup) :
  ∀ (i j : Nat) (d d' : D), nth ds i = some (some d) → nth ds j = some (some d') → i ≠ j → ∀ k ∈ d.blks, k ∉ d'.blks := by
 induction h with
 | nil => intro i j d d' hi; simp [nth] at hi
 | junk _ ih =>
  intro i j d d' hi hj hne;cases i with
  | zero => simp [nth] at hi
  | succ i =>
   cases j with
   | zero => simp [nth] at hj
   | succ j => exact ih hl hn i j d d' hi hj (by omega)
 | empty _ _ ih =>
  intro i j d d' hi hj hne k hk hk';cases i with
  | zero => simp only [nth, Option.some.injEq] at hi; subst hi; simp [D.blks] at hk
  | succ i =>
   cases j with
   | zero => simp only [nth, Option.some.injEq] at hj; subst hj; simp [D.blks] at hk'
   | succ j => exact ih hl hn i j d d' hi hj (by omega) k hk hk'
 | @cons b A cap S ob ds os t x h1 h2 h3 h4 hs ih =>
  intro i j d d' hi hj hne k hk hk';obtain ⟨n1, n2⟩ := List.nodup_cons.1 hn;have first : ∀ (j : Nat) (d' : D), nth ds j = some (some d') → k ∈ S → k ∈ d'.blks → False := by
   intro j d' hj hkS hk';obtain ⟨A', cap', S', t', x', e1, _, _, _, _, e6⟩ := hs.at j d' hj;subst e1;obtain ⟨b', hb', d0', r1, r2⟩ := e6 k hk';obtain ⟨d0, q1, q2⟩ := h1 k hkS;have hbb : b ≠ b' := fun e => n1 (e ▸ hb');exact hz.disj b b' d0 d0' q1 r1 (hl b (by simp)) (hl b' (by simp [hb'])) hbb k q2 r2
  cases i with
  | zero =>
   simp only [nth, Option.some.injEq] at hi;subst hi;cases j with
   | zero => exact hne rfl
   | succ j => exact first j d' hj hk hk'
  | succ i =>
   cases j with
   | zero =>
    simp only [nth, Option.some.injEq] at hj;subst hj;exact first i d hi hk' hk
   | succ j => exact ih (fun b hb => hl b (by simp [hb])) n2 i j d d' hi hj (by omega) k hk hk'
theorem Ty.eq_noUq : ∀ {s t : Ty}, s.eqv t = true → s.noUq = true → t.noUq = true → s = t
 | .int k, .int k', h, _, _ => by simp only [Ty.eqv, decide_eq_true_eq] at h; rw [h]
 | .bool, .bool, _, _, _ => rfl
 | .str, .str, _, _, _ => rfl
 | .unit, .unit, _, _, _ => rfl
 | .pair a b, .pair c d, h, h1, h2 => by
  simp only [Ty.eqv, Bool.and_eq_true] at h;simp only [Ty.noUq, Bool.and_eq_true] at h1 h2;rw [Ty.eq_noUq h.1 h1.1 h2.1, Ty.eq_noUq h.2 h1.2 h2.2]
 | .sl u a, .sl u' b, h, h1, h2 => by
  simp only [Ty.eqv] at h;simp only [Ty.noUq, Bool.and_eq_true, Bool.not_eq_true'] at h1 h2;rw [Ty.eq_noUq h h1.2 h2.2, h1.1, h2.1]
theorem ZkZ {h : List Blk} {a : Ty} {c : SV} {x : List a.den} (ho : Zhi h a c = some x) : c = .nil ∨ ∃ b, VN c = [b] ∧ WJ (nth h b) = true ∧ pub h c = some (.fr a x, upd h b .gone) := by
 rcases ZdV ho with ⟨h1, _⟩ | ⟨b, hc, hp⟩
 ·exact .inl h1
 ·right
  have hl : WJ (nth h b) = true := by
   unfold Zhi at ho
   split at ho
   ·rcases hc with hc | ⟨_, _, hc⟩ <;> cases hc
   ·rename_i b1 v1
    split at ho
    ·rename_i v' s y hb
     have : b1 = b := by rcases hc with hc | ⟨_, _, hc⟩ <;> cases hc; rfl
     subst this; rw [hb]; rfl
    ·cases ho
   ·rename_i b1 v1 o1 n1
    split at ho
    ·rename_i v' s y hb
     have : b1 = b := by rcases hc with hc | ⟨_, _, hc⟩ <;> cases hc; rfl
     subst this; rw [hb]; rfl
    ·cases ho
   ·cases ho
  refine ⟨b, ?_, hl, hp⟩;rcases hc with hc | ⟨off, n, hc⟩ <;> (rw [hc]; rfl)
theorem Zow {z : Z} (hi : IZ z) {t : Ty} {x : SV} {c : Value} {d : List t.den} (hv : V z x c) (ho : Zhi z.h t x = some d) :
  (x = .nil ∧ d = [] ∧ c = .slice none 0 0) ∨ ∃ b A cap S, VN x = [b] ∧ WJ (nth z.h b) = true ∧ c = .slice A d.length cap ∧ (∀ k ∈ S, ∃ d0, z.rho b = some d0 ∧ k ∈ d0.blks) ∧ S.Nodup ∧
   TR z.im z.w true (.sl true t) d [.slice A d.length cap] S ∧ 0 < t.size := by
 rcases ZkZ ho with hn | ⟨b, hr, hl, hp⟩
 ·subst hn
  simp only [V] at hv;simp only [Zhi, Option.some.injEq] at ho;exact .inl ⟨rfl, ho.symm, hv⟩
 ·right
  obtain ⟨S, h1, h2, h3, h4⟩ := Zcy hi rfl x c _ _ hv hp;simp only [CV] at h1;obtain ⟨_, h5, h6⟩ := h1;obtain ⟨A, cap, e1, e2, e3⟩ := h6;simp only [List.cons.injEq, and_true] at e1;refine ⟨b, A, cap, S, hr, hl, e1, fun k hk => ?_, h2, ⟨A, cap, rfl, e2, e3⟩, h5⟩;obtain ⟨b', d0, q1, q2, q3, q4, q5⟩ := h4 k hk;have : b' = b := by
   rcases ZP z.h b b' Blk.gone with ⟨e, _, _⟩ | e
   ·exact e.symm
   ·rw [e] at q3
    rcases q3 with q3 | q3
    ·rw [q3] at q2; exact q2.elim
    ·exact absurd q3 q4
  subst this;exact ⟨d0, q1, q5⟩
theorem Jq : ∀ (ks : List OB) (l : List SV) (h : List Blk) {x : KD ks} {h' : List Blk}, Qz ks l h = some (x, h') → YZ h h'
 | [], [], h, x, h', he => by simp only [Qz] at he; cases Option.some.inj he; exact YZ.refl h
 | [], _ :: _, h, x, h', he => by simp [Qz] at he
 | k :: ks, [], h, x, h', he => by cases k <;> simp [Qz] at he
 | .drop :: ks, _ :: l, h, x, h', he => Jq ks l h (x := x) (by simp only [Qz] at he; exact he)
 | .is v :: ks, y :: l, h, x, h', he => by
  simp only [Qz] at he;cases hs : Zfj v y with
  | false => rw [hs] at he; cases he
  | true => rw [hs] at he; exact Jq ks l h he
 | .ro t :: ks, y :: l, h, x, h', he => by
  simp only [Qz] at he
  split at he
  ·cases hs : (VN y).all (fun b => WJ (nth h b)) with
   | false => rw [hs] at he; cases he
   | true =>
    rw [hs] at he;simp only [cond_true] at he
    split at he
    ·rename_i r h1 hr
     cases Option.some.inj he;exact (Qa _ h).trans (Jq ks l _ hr)
    ·cases he
  ·cases he
 | .own t :: ks, y :: l, h, x, h', he => by
  simp only [Qz] at he
  split at he
  ·split at he
   ·rename_i r h1 hr
    cases Option.some.inj he;exact (Qa _ h).trans (Jq ks l _ hr)
   ·cases he
  ·cases he
theorem Jr {z0 : Z} {im : Nat → Prop} : ∀ (ks : List OB) (x : KD ks), ∃ ds, OD z0 im [] ds (Ek ks x) ∧ ∀ j d, nth ds j ≠ some (some d)
 | [], _ => ⟨[], .nil, fun j d => by simp [nth]⟩
 | .drop :: ks, x => Jr ks x
 | .is _ :: ks, x => Jr ks x
 | .ro _ :: ks, x => Jr ks x.2
 | .own t :: ks, x => by
  obtain ⟨ds, h1, h2⟩ := Jr (z0 := z0) (im := im) ks x.2;refine ⟨none :: ds, .junk h1, fun j d => ?_⟩;cases j with
  | zero => simp [nth]
  | succ j => exact h2 j d
theorem PN.more {z0 : Z} {L ob : List Nat} {h h' : List Blk} (t : PN z0 L ob h) (hk : YZ h h') : PN z0 L ob h' :=
 ⟨t.only.trans hk, fun b hb => ⟨(t.was b hb).1, fun hl => (t.was b hb).2 (hk.live hl).2⟩, t.sep, t.nodup⟩
structure ZqW (z0 z' : Z) (L : List Nat) (n : Nat) : Prop where
 w : z'.w = z0.w
 im : ∀ k, LI z0 L k → z'.im k
 ptr : ∀ b off c, b < n → V z0 (.ptr b off) c → V z' (.ptr b off) c
 own : ∀ b v c, b < n → V z0 (.own b v) c → V z' (.own b v) c
theorem ZfK : ∀ {l m : List SV}, Zit l m = true → l = m
 | [], [], _ => rfl
 | .ptr b o :: l, .ptr b' o' :: m, h => by
  simp only [Zit, Bool.and_eq_true] at h;rw [Nat.eq_of_beq_eq_true h.1.1, Nat.eq_of_beq_eq_true h.1.2, ZfK h.2]
theorem ZnN {z0 z' : Z} {n0 : Nat} (hp : ∀ b off c, b < n0 → V z0 (.ptr b off) c → V z' (.ptr b off) c) : ∀ (l : List SV) (cs : List Value), Zpr n0 l = true → VL z0 l cs → VL z' l cs
 | [], cs, _, h => by simp only [VL] at h ⊢; exact h
 | x :: l, cs, hk, h => by
  simp only [VL] at h ⊢;obtain ⟨c, r, rfl, h2, h3⟩ := h;cases x with
  | ptr b o =>
   simp only [Zpr, Bool.and_eq_true, Nat.blt, Nat.ble_eq] at hk;exact ⟨c, r, rfl, hp b o c (by omega) h2, ZnN hp l r hk.2 h3⟩
  | _ => simp [Zpr] at hk
theorem Aa {z0 : Z} (hz : IZ z0) (n0 : Nat) : ∀ (ks : List OB) (l : List SV) (h : List Blk) {x : KD ks} {h' : List Blk} (L ob : List Nat) (cs : List Value), PN z0 L ob h → VL z0 l cs → okK n0 ks = true →
  Qz ks l h = some (x, h') → ∃ L' ob' ds, PN z0 L' (ob ++ ob') h' ∧ (∀ r ∈ L, r ∈ L') ∧ OD z0 (LI z0 L') ob' ds (Ek ks x) ∧
   ∀ (z' : Z) (n : Nat), ZqW z0 z' L' n0 → (∀ j d, nth ds j = some d → z'.rho (n + j) = d) → (∀ j o, nth (Ek ks x) j = some o → nth z'.h (n + j) = some o) → VL z' (Hz ks x n) cs
 | [], [], h, x, h', L, ob, cs, t, hv, _, he => by
  simp only [Qz] at he;cases Option.some.inj he;simp only [VL] at hv;exact ⟨L, [], [], by simpa using t, fun _ h => h, .nil, fun z' n _ _ _ => by simp only [Hz, VL]; exact hv⟩
 | [], _ :: _, h, x, h', L, ob, cs, t, hv, _, he => by simp [Qz] at he
 | k :: ks, [], h, x, h', L, ob, cs, t, hv, _, he => by cases k <;> simp [Qz] at he
 | .drop :: ks, y :: l, h, x, h', L, ob, cs, t, hv, hk, he => by
  simp only [VL] at hv;obtain ⟨c, r, rfl, _, h3⟩ := hv;obtain ⟨L', ob', ds, a1, a2, a3, a4⟩ := Aa hz n0 ks l h L ob r t h3 (by simpa only [okK] using hk) (x := x) (by simp only [Qz] at he; exact he);refine ⟨L', ob', ds, a1, a2, a3, fun z' n f1 f2 f3 => ?_⟩;simp only [Hz, VL];exact ⟨c, r, rfl, by simp only [V], a4 z' n f1 f2 f3⟩
 | .is v :: ks, y :: l, h, x, h', L, ob, cs, t, hv, hk, he => by
  simp only [VL] at hv;obtain ⟨c, r, rfl, h2, h3⟩ := hv;simp only [Qz] at he;cases hs : Zfj v y with
  | false => rw [hs] at he; cases he
  | true =>
   rw [hs] at he;have he : Qz ks l h = some (x, h') := he;have hk' : okK n0 ks = true ∧ (∀ b o, v = .ptr b o → b < n0) ∧ (∀ b o, v = .own b o → b < n0) ∧ ∀ f c, v = .fn f c → Zpr n0 c = true := by
    unfold Zfj at hs
    split at hs
    ·simp only [okK, Bool.and_eq_true] at hk
     exact ⟨hk.2, fun b o e => (by cases e), fun b o e => (by cases e), fun f c e => by cases e; exact hk.1⟩
    ·simp only [okK, Bool.and_eq_true] at hk
     exact ⟨hk.2, fun b o e => by cases e; have := hk.1; simp only [Nat.blt, Nat.ble_eq] at this; omega, fun b o e => (by cases e), fun f c e => by cases e⟩
    ·simp only [okK, Bool.and_eq_true] at hk
     exact ⟨hk.2, fun b o e => (by cases e), fun b o e => by cases e; have := hk.1; simp only [Nat.blt, Nat.ble_eq] at this; omega, fun f c e => by cases e⟩
    ·simp only [okK] at hk
     exact ⟨hk, fun b o e => (by cases e), fun b o e => (by cases e), fun f c e => by cases e⟩
    ·cases hs
   obtain ⟨L', ob', ds, a1, a2, a3, a4⟩ := Aa hz n0 ks l h L ob r t h3 hk'.1 he;refine ⟨L', ob', ds, a1, a2, a3, fun z' n f1 f2 f3 => ?_⟩;simp only [Hz, VL];refine ⟨c, r, rfl, ?_, a4 z' n f1 f2 f3⟩;unfold Zfj at hs
   split at hs
   ·rename_i f l1 g m1
    simp only [Bool.and_eq_true] at hs;have e1 := Nat.eq_of_beq_eq_true hs.1;subst e1;have e2 := ZfK hs.2;subst e2;simp only [V] at h2 ⊢;obtain ⟨cs, k1, k2⟩ := h2;exact ⟨cs, k1, ZnN f1.ptr _ cs (hk'.2.2.2 _ _ rfl) k2⟩
   ·rename_i b o b' o'
    simp only [Bool.and_eq_true] at hs;have e1 := Nat.eq_of_beq_eq_true hs.1;have e2 := Nat.eq_of_beq_eq_true hs.2;subst e1; subst e2;exact f1.ptr _ _ c (hk'.2.1 _ _ rfl) h2
   ·rename_i b o b' o'
    simp only [Bool.and_eq_true] at hs;have e1 := Nat.eq_of_beq_eq_true hs.1;have e2 := Nat.eq_of_beq_eq_true hs.2;subst e1; subst e2;exact f1.own _ _ c (hk'.2.2.1 _ _ rfl) h2
   ·simp only [V] at h2 ⊢; exact h2
   ·cases hs
 | .ro ty :: ks, y :: l, h, x, h', L, ob, cs, t, hv, hk, he => by
  simp only [VL] at hv;obtain ⟨c, r, rfl, h2, h3⟩ := hv;simp only [Qz] at he
  split at he
  ·rename_i d hd
   cases hs : (VN y).all (fun b => WJ (nth h b)) with
   | false => rw [hs] at he; cases he
   | true =>
    rw [hs] at he;simp only [cond_true] at he
    split at he
    ·rename_i q h1 hq
     cases Option.some.inj he;have hlv : ∀ b ∈ VN y, live (nth h b) := fun b hb => FV (List.all_eq_true.1 hs b hb);have hla : ∀ b ∈ VN y, WJ (nth z0.h b) = true := fun b hb => by rw [← (t.only.live (hlv b hb)).1]; exact List.all_eq_true.1 hs b hb
     have t' : PN z0 (L ++ VN y) ob (UM h (VN y)) := by
      refine ⟨t.only.trans (Qa _ _), fun b hb => ?_, fun r hr hob => ?_, t.nodup⟩
      ·rcases hb with hb | hb
       ·rcases List.mem_append.1 hb with hb | hb
        ·exact ⟨(t.was b (.inl hb)).1, fun hl => (t.was b (.inl hb)).2 ((Qa _ _).live hl).2⟩
        ·exact ⟨hla b hb, Ji _ _ hb⟩
       ·exact ⟨(t.was b (.inr hb)).1, fun hl => (t.was b (.inr hb)).2 ((Qa _ _).live hl).2⟩
      ·rcases List.mem_append.1 hr with hr | hr
       ·exact t.sep r hr hob
       ·exact (t.was r (.inr hob)).2 (hlv r hr)
     obtain ⟨L', ob', ds, a1, a2, a3, a4⟩ := Aa hz n0 ks l _ (L ++ VN y) ob r t' h3 (by simpa only [okK] using hk) hq;refine ⟨L', ob', ds, a1, fun r hr => a2 r (by simp [hr]), a3, fun z' n f1 f2 f3 => ?_⟩;simp only [Hz, VL];refine ⟨c, r, rfl, ?_, a4 z' n f1 f2 f3⟩;obtain ⟨cs, k1, k2⟩ := FN (z := zc z0 L h) (t.iz hz).sim (V.ext (PN.ext0 t.only) _ _ h2) hd;simp only [V];refine ⟨cs, ?_, k2⟩;rw [f1.w];refine k1.im (fun k hm => f1.im k ?_);rcases hm with hm | ⟨_, r', hr', d', e1, e2, e3⟩
     ·exact LI.mono (fun r hr => a2 r (by simp [hr])) hm
     ·exact .inr ⟨r', a2 r' (by simp [hr']), d', e1, (t.only.live e2).2, e3⟩
    ·cases he
  ·cases he
 | .own ty :: ks, y :: l, h, x, h', L, ob, cs, t, hv, hk, he => by
  simp only [VL] at hv;obtain ⟨c, r, rfl, h2, h3⟩ := hv;simp only [Qz] at he;simp only [okK, Bool.and_eq_true] at hk
  split at he
  ·rename_i d hd
   split at he
   ·rename_i q h1 hq
    cases Option.some.inj he;have hv' := V.ext (PN.ext0 (L := L) t.only) _ _ h2;rcases Zow (z := zc z0 L h) (t.iz hz) hv' hd with ⟨e1, e2, e3⟩ | ⟨b, A, cap, S, e1, e2, e3, e4, e5, e6, e7⟩
    ·subst e1; subst e2
     have hp : 0 < ty.size := by have := hk.1; simp only [Nat.blt, Nat.ble_eq] at this; omega
     obtain ⟨L', ob', ds, a1, a2, a3, a4⟩ := Aa hz n0 ks l _ L ob r t h3 hk.2 hq;refine ⟨L', ob', some (.s none 0 []) :: ds, a1, a2, .empty hp a3, fun z' n f1 f2 f3 => ?_⟩;simp only [Hz, VL];refine ⟨c, r, rfl, ?_, a4 z' (n + 1) f1 (fun j d hj => by have := f2 (j + 1) d hj; rwa [show n + (j + 1) = n + 1 + j by omega] at this)
      (fun j o hj => by have := f3 (j + 1) o hj; rwa [show n + (j + 1) = n + 1 + j by omega] at this)⟩
     rw [e3];have g1 := f2 0 _ rfl;have g2 := f3 0 _ rfl;exact Ki (x := ([] : List ty.den)) g2 g1 rfl
    ·have hlv : live (nth h b) := FV e2
     have t' : PN z0 L (ob ++ [b]) (UM h (VN y)) := by
      rw [e1];refine ⟨t.only.trans (Qa _ _), fun b' hb => ?_, fun r hr hob => ?_, ?_⟩
      ·rcases hb with hb | hb
       ·exact ⟨(t.was b' (.inl hb)).1, fun hl => (t.was b' (.inl hb)).2 ((Qa _ _).live hl).2⟩
       ·rcases List.mem_append.1 hb with hb | hb
        ·exact ⟨(t.was b' (.inr hb)).1, fun hl => (t.was b' (.inr hb)).2 ((Qa _ _).live hl).2⟩
        ·simp only [List.mem_singleton] at hb
         subst hb;exact ⟨by rw [← (t.only.live hlv).1]; exact e2, Ji _ _ (by simp)⟩
      ·rcases List.mem_append.1 hob with hob | hob
       ·exact t.sep r hr hob
       ·simp only [List.mem_singleton] at hob
        subst hob;exact (t.was _ (.inl hr)).2 hlv
      ·refine List.nodup_append.2 ⟨t.nodup, by simp, fun a ha b' hb' e => ?_⟩
       simp only [List.mem_singleton] at hb';subst e; subst hb';exact (t.was _ (.inr ha)).2 hlv
     obtain ⟨L', ob', ds, a1, a2, a3, a4⟩ := Aa hz n0 ks l _ L (ob ++ [b]) r t' h3 hk.2 hq;refine ⟨L', b :: ob', some (.s A cap S) :: ds, by simpa using a1, a2, .cons e4 e5 (e6.mono (fun k hm => ⟨LI.mono a2 hm, rfl⟩) _ _ _ _ _ (fun _ _ => rfl)) e7 a3, fun z' n f1 f2 f3 => ?_⟩;simp only [Hz, VL];refine ⟨c, r, rfl, ?_, a4 z' (n + 1) f1 (fun j d hj => by have := f2 (j + 1) d hj; rwa [show n + (j + 1) = n + 1 + j by omega] at this)
      (fun j o hj => by have := f3 (j + 1) o hj; rwa [show n + (j + 1) = n + 1 + j by omega] at this)⟩
     rw [e3];have g1 := f2 0 _ rfl;have g2 := f3 0 _ rfl;exact Ki g2 g1 rfl
   ·cases he
  ·cases he
end Go.Sx
namespace Go.Sx
open Go
theorem Ab {α : Type} {l r : List α} {j : Nat} {x : α} (h : nth l j = some x) : nth (l ++ r) j = some x := by rw [Wv (BU h), h]
theorem Um {α : Type} : ∀ (l r : List α) (j : Nat), nth (l ++ r) (l.length + j) = nth r j
 | [], r, j => by simp
 | x :: l, r, j => by rw [List.length_cons, show l.length + 1 + j = (l.length + j) + 1 by omega]; exact Um l r j
theorem Xn : ∀ (bs : List BK) (y : BD bs) (n : Nat), (VO bs y n).length = bs.length
 | [], _, _ => rfl
 | .drop :: bs, y, n => by simp only [VO, List.length_cons]; rw [Xn bs y n]
 | .vars ks :: bs, y, n => by simp only [VO, List.length_cons]; rw [Xn bs y.2]
 | .arr t :: bs, y, n => by simp only [VO, List.length_cons]; rw [Xn bs y.2]
theorem PN.perm {z0 : Z} {L ob ob' : List Nat} {h : List Blk} (t : PN z0 L ob h) (p : ob.Perm ob') : PN z0 L ob' h :=
 ⟨t.only, fun b hb => t.was b (hb.imp id (fun q => p.mem_iff.2 q)), fun r hr hob => t.sep r hr (p.mem_iff.2 hob), p.nodup_iff.1 t.nodup⟩
theorem Pc {z0 : Z} (hz : IZ z0) (n0 : Nat) : ∀ (bs : List BK) (l : List Blk) (i0 : Nat) (h : List Blk) {y : BD bs} {h' : List Blk} (L ob : List Nat), PN z0 L ob h → (∀ j, nth l j = nth z0.h (i0 + j)) → i0 + l.length = z0.h.length → ZmA n0 bs = true →
  BT bs l h = some (y, h') → ∃ L' ob' ip ds, PN z0 L' (ob ++ (ob' ++ ip)) h' ∧ (∀ r ∈ L, r ∈ L') ∧ OD z0 (LI z0 L') ob' ds (Pp bs y) ∧
   ∀ n, (∀ j b, nth (VO bs y n) j = some b → b = .gone ∨ (∃ c c' ks, nth bs j = some (.vars ks) ∧ b = .vars c' ∧ nth z0.h (i0 + j) = some (.vars c)) ∨
     ∃ t x, nth bs j = some (.arr t) ∧ b = .arr 0 t x ∧ nth z0.h (i0 + j) = some (.arr 0 t x) ∧ (i0 + j) ∈ ip) ∧
   ∀ (z' : Z), ZqW z0 z' L' n0 → (∀ j d, nth ds j = some d → z'.rho (n + j) = d) → (∀ j o, nth (Pp bs y) j = some o → nth z'.h (n + j) = some o) →
    ∀ j b d, nth (VO bs y n) j = some b → z0.rho (i0 + j) = some d → Ev z' d (some b)
 | [], l, i0, h, y, h', L, ob, t, hl, hlen, hk, he => by
  simp only [BT] at he;cases Option.some.inj he;exact ⟨L, [], [], [], by simpa using t, fun _ h => h, .nil, fun n => ⟨fun j b hj => by simp [VO, nth] at hj, fun z' _ _ _ j b d hj => by simp [VO, nth] at hj⟩⟩
 | .drop :: bs, [], i0, h, y, h', L, ob, t, hl, hlen, hk, he => by simp [BT] at he
 | .drop :: bs, b0 :: l, i0, h, y, h', L, ob, t, hl, hlen, hk, he => by
  obtain ⟨L', ob', ip, ds, a1, a2, a3, a4⟩ := Pc hz n0 bs l (i0 + 1) h L ob (y := y) (h' := h') t (fun j => by have := hl (j + 1); rwa [show i0 + (j + 1) = i0 + 1 + j by omega] at this) (by simp at hlen; omega) (by simpa only [ZmA] using hk) (by simp only [BT] at he; exact he);refine ⟨L', ob', ip, ds, a1, a2, a3, fun n => ⟨fun j b hj => ?_, fun z' f1 f2 f3 j b d hj hd => ?_⟩⟩
  ·cases j with
   | zero => simp only [VO, nth, Option.some.injEq] at hj; exact .inl hj.symm
   | succ j =>
    rcases (a4 n).1 j b hj with e | ⟨c, c', ks, e1, e2, e3⟩ | ⟨t, x, e1, e2, e3, e4⟩
    ·exact .inl e
    ·exact .inr (.inl ⟨c, c', ks, e1, e2, by rw [show i0 + (j + 1) = i0 + 1 + j by omega]; exact e3⟩)
    ·exact .inr (.inr ⟨t, x, e1, e2, by rw [show i0 + (j + 1) = i0 + 1 + j by omega]; exact e3, by rw [show i0 + (j + 1) = i0 + 1 + j by omega]; exact e4⟩)
  ·cases j with
   | zero => simp only [VO, nth, Option.some.injEq] at hj; subst hj; trivial
   | succ j => exact (a4 n).2 z' f1 f2 f3 j b d hj (by rw [show i0 + 1 + j = i0 + (j + 1) by omega]; exact hd)
 | .arr t :: bs, [], i0, h, y, h', L, ob, tk, hl, hlen, hk, he => by simp [BT] at he
 | .arr t :: bs, b0 :: l, i0, h, y, h', L, ob, tk, hl, hlen, hk, he => by
  have hidx : h.length - (b0 :: l).length = i0 := by rw [tk.only.1]; omega
  simp only [BT] at he;rw [hidx] at he;simp only [ZmA, Bool.and_eq_true] at hk
  split at he
  ·rename_i v s x hb
   split at he
   ·rename_i hv
    subst hv
    split at he
    ·rename_i d hd
     split at he
     ·rename_i r h2 hr
      cases Option.some.inj he;obtain ⟨e1, e2⟩ := Ez hd;injection e1 with _ e1;subst e1;have e2 : x = d := e2;subst e2;have hlv : live (nth h i0) := by rw [hb]; trivial
      have hz0 : nth z0.h i0 = some (.arr 0 s x) := by rw [← (tk.only.live hlv).1]; exact hb
      have t' : PN z0 L (ob ++ [i0]) (upd h i0 .gone) := by
       refine ⟨tk.only.trans (HQ h i0), fun b' hb' => ?_, fun r1 hr1 hob => ?_, ?_⟩
       ·rcases hb' with hb' | hb'
        ·exact ⟨(tk.was b' (.inl hb')).1, fun hl => (tk.was b' (.inl hb')).2 ((HQ h i0).live hl).2⟩
        ·rcases List.mem_append.1 hb' with hb' | hb'
         ·exact ⟨(tk.was b' (.inr hb')).1, fun hl => (tk.was b' (.inr hb')).2 ((HQ h i0).live hl).2⟩
         ·simp only [List.mem_singleton] at hb'
          subst hb';exact ⟨by rw [hz0]; rfl, by rw [ZW hb]; exact fun h => h⟩
       ·rcases List.mem_append.1 hob with hob | hob
        ·exact tk.sep r1 hr1 hob
        ·simp only [List.mem_singleton] at hob
         subst hob;exact (tk.was _ (.inl hr1)).2 hlv
       ·refine List.nodup_append.2 ⟨tk.nodup, by simp, fun a ha b' hb' e => ?_⟩
        simp only [List.mem_singleton] at hb';subst e; subst hb';exact (tk.was _ (.inr ha)).2 hlv
      obtain ⟨L', ob', ip, ds, a1, a2, a3, a4⟩ := Pc hz n0 bs l (i0 + 1) _ L (ob ++ [i0]) (y := r) t' (fun j => by have := hl (j + 1); rwa [show i0 + (j + 1) = i0 + 1 + j by omega] at this) (by simp at hlen; omega) hk.2 hr;refine ⟨L', ob', i0 :: ip, ds, a1.perm ?_, a2, a3, fun n => ⟨fun j b hj => ?_, fun z' f1 f2 f3 j b d hj hd => ?_⟩⟩
      ·rw [List.append_assoc]
       refine List.Perm.append_left ob ?_;exact (List.perm_middle (l₁ := ob') (a := i0) (l₂ := ip)).symm
      ·cases j with
       | zero =>
        simp only [VO, nth, Option.some.injEq] at hj;exact .inr (.inr ⟨s, x, rfl, hj.symm, hz0, by simp⟩)
       | succ j =>
        rcases (a4 n).1 j b hj with e | ⟨c, c', ks, e1, e2, e3⟩ | ⟨t, x, e1, e2, e3, e4⟩
        ·exact .inl e
        ·exact .inr (.inl ⟨c, c', ks, e1, e2, by rw [show i0 + (j + 1) = i0 + 1 + j by omega]; exact e3⟩)
        ·exact .inr (.inr ⟨t, x, e1, e2, by rw [show i0 + (j + 1) = i0 + 1 + j by omega]; exact e3, by rw [show i0 + (j + 1) = i0 + 1 + j by omega]; exact List.mem_cons_of_mem _ e4⟩)
      ·cases j with
       | zero =>
        simp only [VO, nth, Option.some.injEq] at hj;subst hj;have hs := hz.sim i0 d hd;rw [hz0] at hs;obtain ⟨A, cap, S, q1, q2, q3⟩ := hs;exact ⟨A, cap, S, q1, q2.mono (fun k hm => ⟨f1.im k (.inl hm), by rw [f1.w]⟩) _ _ _ _ _ (fun _ _ => by rw [f1.w]), q3⟩
       | succ j => exact (a4 n).2 z' f1 f2 f3 j b d hj (by rw [show i0 + 1 + j = i0 + (j + 1) by omega]; exact hd)
     ·cases he
    ·cases he
   ·cases he
  ·cases he
 | .vars ks :: bs, [], i0, h, y, h', L, ob, t, hl, hlen, hk, he => by simp [BT] at he
 | .vars ks :: bs, b0 :: l, i0, h, y, h', L, ob, t, hl, hlen, hk, he => by
  cases b0 with
  | arr _ _ _ => simp [BT] at he
  | held _ _ _ => simp [BT] at he
  | opn _ _ _ _ _ => simp [BT] at he
  | lent => simp [BT] at he
  | gone => simp [BT] at he
  | vars c =>
   simp only [BT] at he;simp only [ZmA, Bool.and_eq_true] at hk
   split at he
   ·rename_i d1 h1 hd1
    split at he
    ·rename_i r h2 hr
     cases Option.some.inj he;have hc : nth z0.h i0 = some (.vars c) := (hl 0).symm
     -- the cells
     have first : ∃ L1 ob1 ds1, PN z0 L1 (ob ++ ob1) h1 ∧ (∀ r ∈ L, r ∈ L1) ∧ OD z0 (LI z0 L1) ob1 ds1 (Ek ks d1) ∧ ∀ n (z' : Z), ZqW z0 z' L1 n0 → (∀ j d, nth ds1 j = some d → z'.rho (n + j) = d) →
       (∀ j o, nth (Ek ks d1) j = some o → nth z'.h (n + j) = some o) → ∀ d, z0.rho i0 = some d → Ev z' d (some (.vars (Hz ks d1 n))) := by
      cases hrho : z0.rho i0 with
      | none =>
       obtain ⟨ds1, j1, j2⟩ := Jr (z0 := z0) (im := LI z0 L) ks d1;exact ⟨L, [], ds1, by simpa using t.more (Jq _ _ _ hd1), fun _ h => h, j1, fun n z' _ _ _ d hd => by cases hd⟩
      | some d =>
       have hs := hz.sim i0 d hrho;rw [hc] at hs;obtain ⟨blk, cs, e, s1, s2, s3⟩ := hs;obtain ⟨L1, ob1, ds1, a1, a2, a3, a4⟩ := Aa hz n0 ks c h L ob cs t s3 hk.1 hd1;refine ⟨L1, ob1, ds1, a1, a2, a3, fun n z' f1 f2 f3 d' hd' => ?_⟩;cases hd';exact ⟨blk, cs, e, s1, by rw [f1.w]; exact s2, a4 z' n f1 f2 f3⟩
     obtain ⟨L1, ob1, ds1, a1, a2, a3, a4⟩ := first
     obtain ⟨L2, ob2, ip, ds2, b1, b2, b3, b4⟩ := Pc hz n0 bs l (i0 + 1) h1 L1 (ob ++ ob1) (y := r) a1 (fun j => by have := hl (j + 1); rwa [show i0 + (j + 1) = i0 + 1 + j by omega] at this) (by simp at hlen; omega) hk.2 hr;have hlen := a3.length;refine ⟨L2, ob1 ++ ob2, ip, ds1 ++ ds2, by simpa using b1, fun q hq => b2 q (a2 q hq), (a3.mono (fun k hm => LI.mono b2 hm)).append b3, fun n => ⟨fun j b hj => ?_, fun z' f1 f2 f3 j b d hj hd => ?_⟩⟩
     ·cases j with
      | zero => simp only [VO, nth, Option.some.injEq] at hj; exact .inr (.inl ⟨c, _, ks, rfl, hj.symm, hc⟩)
      | succ j =>
       rcases (b4 _).1 j b hj with e | ⟨c, c', ks, e1, e2, e3⟩ | ⟨t, x, e1, e2, e3, e4⟩
       ·exact .inl e
       ·exact .inr (.inl ⟨c, c', ks, e1, e2, by rw [show i0 + (j + 1) = i0 + 1 + j by omega]; exact e3⟩)
       ·exact .inr (.inr ⟨t, x, e1, e2, by rw [show i0 + (j + 1) = i0 + 1 + j by omega]; exact e3, by rw [show i0 + (j + 1) = i0 + 1 + j by omega]; exact e4⟩)
     ·have f2' : ∀ j d, nth ds2 j = some d → z'.rho (n + (Ek ks d1).length + j) = d := fun j d hj => by
       have := f2 (ds1.length + j) d (by rw [Um]; exact hj)
       rwa [hlen, ← Nat.add_assoc] at this
      have f3' : ∀ j o, nth (Pp bs r) j = some o → nth z'.h (n + (Ek ks d1).length + j) = some o := fun j o hj => by
       have := f3 ((Ek ks d1).length + j) o (by simp only [Pp]; rw [Um]; exact hj)
       rwa [← Nat.add_assoc] at this
      cases j with
      | zero =>
       simp only [VO, nth, Option.some.injEq] at hj;subst hj;exact a4 n z' ⟨f1.w, fun k hm => f1.im k (LI.mono b2 hm), f1.ptr, f1.own⟩ (fun j d hj => f2 j d (Ab hj)) (fun j o hj => f3 j o (by simp only [Pp]; exact Ab hj)) d hd
      | succ j => exact (b4 _).2 z' f1 f2' f3' j b d hj (by rw [show i0 + 1 + j = i0 + (j + 1) by omega]; exact hd)
    ·cases he
   ·cases he
theorem ZfL {R : Type} {l : Lp R} {g : G} {rho : Rho} {s : St} {a : Act} {w : World} {r : R} (hs : Sim g rho s a w) (hbx : ∀ q ∈ g.bx, q.1 < l.blks.length) (hax : ∀ q ∈ g.ax, q.1 < l.blks.length) (he : Er l s = some r) :
  ∃ x y rho', l.run x y = some r ∧ Sim g rho' (UN l x y) a w := by
 unfold Er at he;cases hk : (ZmA l.blks.length l.blks && okK l.blks.length l.keeps) with
 | false => rw [hk] at he; cases he
 | true =>
  rw [hk] at he;simp only [cond_true] at he;simp only [Bool.and_eq_true] at hk
  split at he
  ·rename_i y h1 hy
   split at he
   ·rename_i x h2 hx
    have hz := hs.inv.iz;have t0 : PN (zOf g rho s.heap w) [] [] s.heap := ⟨YZ.refl _, fun b hb => by simp at hb, fun r hr => by simp at hr, by simp⟩
    obtain ⟨L1, ob1, ip, ds1, a1, a2, a3, a4⟩ := Pc hz l.blks.length l.blks s.heap 0 s.heap [] [] t0 (fun j => by rw [Nat.zero_add]; rfl) (by rw [Nat.zero_add]; rfl) hk.1 hy;obtain ⟨L2, ob2, ds2, b1, b2, b3, b4⟩ := Aa hz l.blks.length l.keeps s.slots h1 L1 ([] ++ (ob1 ++ ip)) _ a1 hs.slots hk.2 hx
    let n := l.blks.length
    let ds := ds1 ++ ds2
    let os := Pp l.blks y ++ Ek l.keeps x
    have hsrc : OD (zOf g rho s.heap w) (LI (zOf g rho s.heap w) L2) (ob1 ++ ob2) ds os := (a3.mono (fun k hm => LI.mono b2 hm)).append b3;have tk : PN (zOf g rho s.heap w) L2 ((ob1 ++ ip) ++ ob2) h2 := by simpa using b1
    have hin : ∀ b ∈ ob1 ++ ob2, b ∈ (ob1 ++ ip) ++ ob2 := fun b hb => by
     simp only [List.mem_append] at hb ⊢;rcases hb with hb | hb
     ·exact .inl (.inl hb)
     ·exact .inr hb
    have hipn : ∀ b ∈ ip, b ∈ (ob1 ++ ip) ++ ob2 ∧ b ∉ ob1 ++ ob2 := fun b hb => by
     refine ⟨by simp [hb], fun hm => ?_⟩;obtain ⟨n1, _, n3⟩ := List.nodup_append.1 tk.nodup;obtain ⟨_, _, n6⟩ := List.nodup_append.1 n1;rcases List.mem_append.1 hm with hm | hm
     ·exact n6 b hm b hb rfl
     ·exact n3 b (by simp [hb]) b hm rfl
    have obnd : (ob1 ++ ob2).Nodup := by
     obtain ⟨n1, n2, n3⟩ := List.nodup_append.1 tk.nodup;obtain ⟨n4, _, _⟩ := List.nodup_append.1 n1;exact List.nodup_append.2 ⟨n4, n2, fun a ha b hb => n3 a (by simp [ha]) b hb⟩
    have hoblive : ∀ b ∈ ob1 ++ ob2, live (nth s.heap b) := fun b hb => FV (tk.was b (.inr (hin b hb))).1
    let rho' : Rho := fun b => if b < n then (match nth l.blks b with | some (.vars _) => rho b | some (.arr _) => rho b | _ => none) else ((nth ds (b - n)).getD none)
    have hh : (UN l x y).heap = VO l.blks y n ++ os := by simp only [UN, Zod, os, n, List.append_assoc]
    have hlow : ∀ b, b < n → nth (UN l x y).heap b = nth (VO l.blks y n) b := fun b hb => by rw [hh, Wv (by rw [Xn]; exact hb)]
    have hhigh : ∀ j, nth (UN l x y).heap (n + j) = nth os j := fun j => by
     have := Um (VO l.blks y n) os j;rw [Xn] at this;rw [hh]; exact this
    have low : ∀ b d, b < n → rho' b = some d → live (nth (UN l x y).heap b) → rho b = some d ∧ ((∃ c, nth s.heap b = some (.vars c)) ∨ ((∃ t x, nth s.heap b = some (.arr 0 t x)) ∧ b ∈ ip)) := by
     intro b d hb hd hl;have hd : (if b < n then (match nth l.blks b with | some (.vars _) => rho b | some (.arr _) => rho b | _ => none) else ((nth ds (b - n)).getD none)) = some d := hd;rw [if_pos hb] at hd;rw [hlow b hb] at hl;cases hg : nth (VO l.blks y n) b with
     | none => rw [hg] at hl; exact hl.elim
     | some bk =>
      rw [hg] at hl;rcases (a4 n).1 b bk hg with e | ⟨c, c', ks, e1, e2, e3⟩ | ⟨t, x, e1, e2, e3, e4⟩
      ·subst e; exact hl.elim
      ·rw [e1] at hd
       rw [Nat.zero_add] at e3;exact ⟨hd, .inl ⟨c, e3⟩⟩
      ·rw [e1] at hd
       rw [Nat.zero_add] at e3 e4;exact ⟨hd, .inr ⟨⟨t, x, e3⟩, e4⟩⟩
    have lowlive : ∀ b, ((∃ c, nth s.heap b = some (.vars c)) ∨ ((∃ t x, nth s.heap b = some (.arr 0 t x)) ∧ b ∈ ip)) → live (nth s.heap b) := by
     rintro b (⟨c, e⟩ | ⟨⟨t, x, e⟩, _⟩) <;> (rw [e]; trivial)
    have lowob : ∀ b, ((∃ c, nth s.heap b = some (.vars c)) ∨ ((∃ t x, nth s.heap b = some (.arr 0 t x)) ∧ b ∈ ip)) → b ∉ ob1 ++ ob2 := by
     rintro b (⟨c, e⟩ | ⟨_, e⟩) hm
     ·have this : WJ (nth s.heap b) = true := (tk.was b (.inr (hin b hm))).1
      rw [e] at this; cases this
     ·exact (hipn b e).2 hm
    have high : ∀ b d, ¬ b < n → rho' b = some d → nth ds (b - n) = some (some d) := by
     intro b d hb hd;have hd : (if b < n then (match nth l.blks b with | some (.vars _) => rho b | some (.arr _) => rho b | _ => none) else ((nth ds (b - n)).getD none)) = some d := hd;rw [if_neg hb] at hd;cases hn : nth ds (b - n) with
     | none => rw [hn] at hd; cases hd
     | some o => rw [hn] at hd; simp only [Option.getD_some] at hd; rw [hd]
    -- what is owned is from where it was owned
    have from0 : ∀ b d, rho' b = some d → live (nth (UN l x y).heap b) → ∀ k ∈ d.blks, ∃ b0 d0, rho b0 = some d0 ∧ live (nth s.heap b0) ∧ k ∈ d0.blks ∧ b0 ∉ L2 := by
     intro b d hd hl k hk
     by_cases hb : b < n
     ·obtain ⟨e1, e2⟩ := low b d hb hd hl
      refine ⟨b, d, e1, lowlive b e2, hk, fun hm => ?_⟩;rcases e2 with ⟨c, e2⟩ | ⟨_, e2⟩
      ·have this : WJ (nth s.heap b) = true := (tk.was b (.inl hm)).1
       rw [e2] at this; cases this
      ·exact tk.sep b hm (hipn b e2).1
     ·obtain ⟨A, cap, S, t, x', e1, e2, e3, e4, e5, e6⟩ := hsrc.at _ d (high b d hb hd)
      subst e1;obtain ⟨b0, hb0, d0, q1, q2⟩ := e6 k hk;exact ⟨b0, d0, q1, hoblive b0 hb0, q2, fun hm => tk.sep b0 hm (hin b0 hb0)⟩
    have him : ∀ k, LI (zOf g rho s.heap w) L2 k → Im g rho' (UN l x y).heap w k := by
     intro k hm;have hbase : (g.p k ∨ k ∈ g.S0 ∨ g.w0.heap.size ≤ k) ∧ k < w.heap.size := by
      rcases hm with hm | ⟨r', _, d', e1, e2, e3⟩
      ·exact ⟨hm.1, hm.2.1⟩
      ·have := hs.inv.range r' d' e1 e2 k e3
       exact ⟨.inr this.2, this.1⟩
     refine ⟨hbase.1, hbase.2, fun ⟨b, d, o1, o2, o3⟩ => ?_⟩;obtain ⟨b0, d0, q1, q2, q3, q4⟩ := from0 b d o1 o2 k o3
     rcases hm with hm | ⟨r', hr', d', e1, e2, e3⟩
     ·exact hm.2.2 ⟨b0, d0, q1, q2, q3⟩
     ·have hne : b0 ≠ r' := fun e => q4 (e ▸ hr')
      exact hs.inv.disj b0 r' d0 d' q1 e1 q2 e2 hne k q3 e3
    have hrlow : ∀ b, b < n → (∃ ks, nth l.blks b = some (.vars ks)) ∨ (∃ t, nth l.blks b = some (.arr t)) → rho' b = rho b := by
     intro b hb h;show (if b < n then (match nth l.blks b with | some (.vars _) => rho b | some (.arr _) => rho b | _ => none) else ((nth ds (b - n)).getD none)) = _;rw [if_pos hb];rcases h with ⟨ks, h⟩ | ⟨t, h⟩ <;> rw [h]
    have hfit : ZqW (zOf g rho s.heap w) (zOf g rho' (UN l x y).heap w) L2 n := by
     refine ⟨rfl, him, fun b off c hb hv => ?_, fun b v c hb hv => ?_⟩
     ·simp only [V] at hv ⊢
      refine ⟨hv.1, ?_⟩;show match nth (UN l x y).heap b with | some (.vars _) => _ | some .lent => _ | some _ => True | none => False
      rw [hlow b hb];cases hg : nth (VO l.blks y n) b with
      | none => have := Y6.1 hg; rw [Xn] at this; exact absurd hb (by omega)
      | some bk =>
       rcases (a4 n).1 b bk hg with e | ⟨c1, c', ks, e1, e2, e3⟩ | ⟨t, x, e1, e2, e3, e4⟩
       ·subst e; trivial
       ·subst e2
        rw [Nat.zero_add] at e3;have hv2 := hv.2;rw [e3] at hv2;obtain ⟨blk, q1, q2⟩ := hv2;exact ⟨blk, (hrlow b hb (.inl ⟨ks, e1⟩)).trans q1, q2⟩
       ·subst e2; trivial
     ·simp only [V] at hv ⊢
      obtain ⟨v1, v2, v3⟩ := hv;refine ⟨v1, ?_⟩;show (nth (UN l x y).heap b).isSome = true ∧ ∀ v' t n, Kb (nth (UN l x y).heap b) = some (v', t, n) → _;rw [hlow b hb];cases hg : nth (VO l.blks y n) b with
      | none => have := Y6.1 hg; rw [Xn] at this; exact absurd hb (by omega)
      | some bk =>
       refine ⟨rfl, fun v' t n' hi => ?_⟩;rcases (a4 n).1 b bk hg with e | ⟨c1, c', ks, e1, e2, e3⟩ | ⟨t1, x1, e1, e2, e3, e4⟩
       ·subst e; cases hi
       ·subst e2; cases hi
       ·subst e2
        rw [Nat.zero_add] at e3;have := v3 v' t n' (by rw [e3]; exact hi);refine ⟨this.1, fun e => ?_⟩;obtain ⟨A, cap, S, q1, q2⟩ := this.2 e;exact ⟨A, cap, S, (hrlow b hb (.inr ⟨t1, e1⟩)).trans q1, q2⟩
    have hds : ∀ j d, nth ds j = some d → rho' (n + j) = d := fun j d hj => by
     show (if n + j < n then _ else ((nth ds (n + j - n)).getD none)) = d;rw [if_neg (by omega), show n + j - n = j by omega, hj]; rfl
    have hos : ∀ j o, nth os j = some o → nth (UN l x y).heap (n + j) = some o := fun j o hj => by rw [hhigh]; exact hj
    have hlen1 := a3.length;refine ⟨x, y, rho', he, ⟨⟨?_, ?_, ?_, ?_, hs.inv.kept, fun t ht => ⟨him _ (.inl (hs.inv.tab t ht).1), (hs.inv.tab t ht).2⟩⟩, ?_, hs.defers, fun q hq => ?_, fun q hq => ?_⟩⟩
    ·intro b d hd
     by_cases hb : b < n
     ·rw [hlow b hb]
      cases hg : nth (VO l.blks y n) b with
      | none => trivial
      | some bk =>
       have hd' : (if b < n then (match nth l.blks b with | some (.vars _) => rho b | some (.arr _) => rho b | _ => none) else ((nth ds (b - n)).getD none)) = some d := hd;rw [if_pos hb] at hd';have fin : rho b = some d → Ev (zOf g rho' (UN l x y).heap w) d (some bk) := fun hd' => by
        exact (a4 n).2 _ ⟨hfit.w, fun k hm => hfit.im k (LI.mono b2 hm), hfit.ptr, hfit.own⟩ (fun j d hj => hds j d (Ab hj)) (fun j o hj => hos j o (Ab hj)) b bk d hg (by rw [Nat.zero_add]; exact hd')
       rcases (a4 n).1 b bk hg with e | ⟨c1, c', ks, e1, e2, e3⟩ | ⟨t, x, e1, e2, e3, e4⟩
       ·subst e; trivial
       ·rw [e1] at hd'; exact fin hd'
       ·rw [e1] at hd'; exact fin hd'
     ·have hds' := high b d hb hd
      obtain ⟨A, cap, S, t, x', e1, e2, e3, e4, e5, e6⟩ := hsrc.at _ d hds';have := hhigh (b - n);rw [show n + (b - n) = b by omega] at this;rw [this, e2];exact ⟨A, cap, S, e1, e4.mono (fun k hm => ⟨him k hm, rfl⟩) _ _ _ _ _ (fun _ _ => rfl), e5⟩
    ·intro b b' d d' q1 q2 l1 l2 hne k hk hk'
     by_cases hb : b < n
     ·obtain ⟨u1, u2⟩ := low b d hb q1 l1
      by_cases hb' : b' < n
      ·obtain ⟨v1, v2⟩ := low b' d' hb' q2 l2
       exact hs.inv.disj b b' d d' u1 v1 (lowlive b u2) (lowlive b' v2) hne k hk hk'
      ·obtain ⟨A, cap, S, t, x', e1, e2, e3, e4, e5, e6⟩ := hsrc.at _ d' (high b' d' hb' q2)
       subst e1;obtain ⟨b0, hb0, d0, w1, w2⟩ := e6 k hk';exact hs.inv.disj b b0 d d0 u1 w1 (lowlive b u2) (hoblive b0 hb0) (fun e => lowob b u2 (by rw [e]; exact hb0)) k hk w2
     ·have h1' := high b d hb q1
      by_cases hb' : b' < n
      ·obtain ⟨v1, v2⟩ := low b' d' hb' q2 l2
       obtain ⟨A, cap, S, t, x', e1, e2, e3, e4, e5, e6⟩ := hsrc.at _ d h1';subst e1;obtain ⟨b0, hb0, d0, w1, w2⟩ := e6 k hk;exact hs.inv.disj b' b0 d' d0 v1 w1 (lowlive b' v2) (hoblive b0 hb0) (fun e => lowob b' v2 (by rw [e]; exact hb0)) k hk' w2
      ·exact hsrc.apart hz hoblive obnd _ _ d d' h1' (high b' d' hb' q2) (by omega) k hk hk'
    ·intro b d q1 l1
     by_cases hb : b < n
     ·obtain ⟨u1, u2⟩ := low b d hb q1 l1
      exact hs.inv.nodup b d u1 (lowlive b u2)
     ·obtain ⟨A, cap, S, t, x', e1, e2, e3, e4, e5, e6⟩ := hsrc.at _ d (high b d hb q1)
      subst e1; exact e3
    ·intro b d q1 l1 k hk
     obtain ⟨b0, d0, w1, w2, w3, _⟩ := from0 b d q1 l1 k hk
     exact hs.inv.range b0 d0 w1 w2 k w3
    ·refine b4 _ _ hfit (fun j d hj => ?_) (fun j o hj => ?_)
     ·have := hds (ds1.length + j) d (by simp only [ds]; rw [Um]; exact hj)
      rwa [hlen1, ← Nat.add_assoc] at this
     ·have := hos ((Pp l.blks y).length + j) o (by simp only [os]; rw [Um]; exact hj)
      rwa [← Nat.add_assoc] at this
    ·have hb := hbx q hq
     unfold Bx;rw [hlow q.1 hb];cases hg : nth (VO l.blks y n) q.1 with
     | none => have := Y6.1 hg; rw [Xn] at this; exact absurd hb (by omega)
     | some bk =>
      rcases (a4 n).1 q.1 bk hg with e | ⟨c1, c', ks, e1, e2, e3⟩ | ⟨t, x, e1, e2, e3, e4⟩
      ·subst e; exact .inl rfl
      ·right
       subst e2;rw [Nat.zero_add] at e3;have e3 : nth s.heap q.1 = some (.vars c1) := e3;refine ⟨(hrlow q.1 hb (.inl ⟨ks, e1⟩)).trans ?_, .inl ⟨c', rfl⟩⟩;rcases hs.bx q hq with k | ⟨k, _⟩
       ·rw [e3] at k; cases k
       ·exact k
      ·exfalso
       rw [Nat.zero_add] at e3;have e3 : nth s.heap q.1 = some (.arr 0 t x) := e3;rcases hs.bx q hq with k | ⟨_, ⟨c, k⟩ | k⟩ <;> (rw [e3] at k; cases k)
    ·have hb := hax q hq
     unfold Ax;rw [hlow q.1 hb];cases hg : nth (VO l.blks y n) q.1 with
     | none => have := Y6.1 hg; rw [Xn] at this; exact absurd hb (by omega)
     | some bk =>
      rcases (a4 n).1 q.1 bk hg with e | ⟨c1, c', ks, e1, e2, e3⟩ | ⟨t, x, e1, e2, e3, e4⟩
      ·subst e; exact .inl rfl
      ·exfalso
       rw [Nat.zero_add] at e3;have e3 : nth s.heap q.1 = some (.vars c1) := e3;rcases hs.ax q hq with k | ⟨_, v, t', n', k, _⟩ <;> (rw [e3] at k; cases k)
      ·right
       subst e2;rw [Nat.zero_add] at e3;have e3 : nth s.heap q.1 = some (.arr 0 t x) := e3;rcases hs.ax q hq with k | ⟨k1, v, t', n', k2, k3⟩
       ·rw [e3] at k; cases k
       ·rw [e3] at k2
        refine ⟨rfl, v, t', n', k2, fun h0 => ?_⟩;obtain ⟨m1, A, cap, S, m2, m3⟩ := k3 h0;exact ⟨m1, A, cap, S, (hrlow q.1 hb (.inr ⟨t, e1⟩)).trans m2, m3⟩
   ·cases he
  ·cases he
end Go.Sx
namespace Go.Sx
open Go
section
variable {R R' : Type} (E : Env)
theorem Zk0 (op : BinOp) (k : IntKind) (x y : Int) (K : SV → Option R) (J : R → Option R') : (Zhn op k x y K).bind J = Zhn op k x y fun v => (K v).bind J := by
 cases op <;> first | rfl | (simp only [Zhn]; split <;> rfl)
theorem Zk1 (op : BinOp) (x y : ByteArray) (K : SV → Option R) (J : R → Option R') : (Zjl op x y K).bind J = Zjl op x y fun v => (K v).bind J := by
 cases op <;> first | rfl | (simp only [Zjl]; split <;> rfl)
theorem FW (lo hi : Option SV) (n : Nat) (K : Nat → Nat → Option R) (J : R → Option R') : (Vl lo hi n K).bind J = Vl lo hi n fun i j => (K i j).bind J := by
 unfold Vl
 ((try simp only []); repeat' (first | rfl | (split <;> (try simp only [*, Option.bind_none]))))
theorem ZcB (h : List Blk) (t : TypeId) (x : SV) (lo hi : Option SV) (K : SV → Option R) (J : R → Option R') : (MW E h t x lo hi K).bind J = MW E h t x lo hi fun v => (K v).bind J := by
 unfold MW;cases x <;> (try rfl) <;> simp only [← FW] <;> ((try simp only [Bool.cond_eq_ite]); repeat' (first | rfl | (split <;> (try simp only [*, Option.bind_none]))))
theorem Zm0 (h : List Blk) (t : TypeId) (x : SV) (K : SV → Option R) (J : R → Option R') : (Zof E h t x K).bind J = Zof E h t x fun v => (K v).bind J := by
 unfold Zof
 ((try simp only [Bool.cond_eq_ite]); repeat' (first | rfl | (split <;> (try simp only [*, Option.bind_none]))))
theorem ZaK (h : List Blk) (t : TypeId) (x i : SV) (K : SV → Option R) (J : R → Option R') : (VQ E h t x i K).bind J = VQ E h t x i fun v => (K v).bind J := by
 unfold VQ
 ((try simp only [Bool.cond_eq_ite]); repeat' (first | rfl | (split <;> (try simp only [*, Option.bind_none]))))
 exact Option.bind_assoc ..
theorem ZjF (t : TypeId) (x i : SV) (K : SV → Option R) (J : R → Option R') : (Zcn E t x i K).bind J = Zcn E t x i fun v => (K v).bind J := by
 unfold Zcn Zog
 ((try simp only [Bool.cond_eq_ite]); repeat' (first | rfl | (split <;> (try simp only [*, Option.bind_none]))))
 exact Option.bind_assoc ..
theorem QH (h : List Blk) (t : Ty) (c : List SV) (K : SV → Option R) (J : R → Option R') : (El h t c K).bind J = El h t c fun v => (K v).bind J := by
 unfold El
 ((try simp only [Bool.cond_eq_ite]); repeat' (first | rfl | (split <;> (try simp only [*, Option.bind_none]))))
theorem ZfM (h : List Blk) (t a : Ty) (y : a.den) (off : Nat) (K : SV → Option R) (J : R → Option R') : (ZaC h t a y off K).bind J = ZaC h t a y off fun v => (K v).bind J := by
 unfold ZaC
 split
 ·rfl
 ·exact QH ..
theorem B5 (h : List Blk) (t : Ty) (p : SV) (K : SV → Option R) (J : R → Option R') : (UV h t p K).bind J = UV h t p fun v => (K v).bind J := by
 unfold UV;cases p with
 | eptr b v i off =>
  simp only [← ZfM]
  ((try simp only [Bool.cond_eq_ite]); repeat' (first | rfl | (split <;> (try simp only [*, Option.bind_none]))))
  ·exact Option.bind_assoc ..
  ·cases nth (α := Ty.den _) _ _ with
   | none => rfl
   | some y =>
    simp only [Option.bind_some]
    split
    ·exact QH ..
    ·rfl
 | ptr b off => simp only [← QH]; ((try simp only [Bool.cond_eq_ite]); repeat' (first | rfl | (split <;> (try simp only [*, Option.bind_none]))))
 | rptr a y off => exact ZfM ..
 | _ => rfl
theorem ZjG (h : List Blk) (op : BinOp) (t : TypeId) (a b : SV) (K : SV → Option R) (J : R → Option R') : (Pr E h op t a b K).bind J = Pr E h op t a b fun v => (K v).bind J := by
 unfold Pr;simp only [← Zk0, ← Zk1]
 ((try simp only [Bool.cond_eq_ite]); repeat' (first | rfl | (split <;> (try simp only [*, Option.bind_none]))))
theorem Zk2 (op : UnOp) (a : SV) (K : SV → Option R) (J : R → Option R') : (Zjm op a K).bind J = Zjm op a fun v => (K v).bind J := by
 unfold Zjm
 ((try simp only []); repeat' (first | rfl | (split <;> (try simp only [*, Option.bind_none]))))
theorem Zd2 (h : List Blk) (a : SV) (K : SV → Option R) (J : R → Option R') : (Vm h a K).bind J = Vm h a fun v => (K v).bind J := by
 unfold Vm
 ((try simp only []); repeat' (first | rfl | (split <;> (try simp only [*, Option.bind_none]))))
theorem Zk3 (h : List Blk) (s d : TypeId) (a : SV) (K : SV → Option R) (J : R → Option R') : (Zho E h s d a K).bind J = Zho E h s d a fun v => (K v).bind J := by
 unfold Zho
 ((try simp only []); repeat' (first | rfl | (split <;> (try simp only [*, Option.bind_none]))))
theorem ZaL (h : List Blk) (t : TypeId) (p : SV) (f : Nat) (K : SV → Option R) (J : R → Option R') : (Wu E h t p f K).bind J = Wu E h t p f fun v => (K v).bind J := by
 unfold Wu fieldAt
 ((try simp only []); repeat' (first | rfl | (split <;> (try simp only [*, Option.bind_none]))))
theorem ZjH (h : List Blk) (t : TypeId) (p : SV) (f : Nat) (K : SV → Option R) (J : R → Option R') : (Ps E h t p f K).bind J = Ps E h t p f fun v => (K v).bind J := by
 unfold Ps fieldAt;simp only [← QH]
 ((try simp only [Bool.cond_eq_ite]); repeat' (first | rfl | (split <;> (try simp only [*, Option.bind_none]))))
theorem ZjI (h : List Blk) (t : TypeId) (p : List (Nat × SV)) (K : SV → Option R) (J : R → Option R') : (Pt E h t p K).bind J = Pt E h t p fun v => (K v).bind J := by
 unfold Pt
 ((try simp only []); repeat' (first | rfl | (split <;> (try simp only [*, Option.bind_none]))))
theorem B6 (h : List Blk) (t : TypeId) (n : Nat) (p : List (Nat × SV)) (K : SV → List Blk → Option R) (J : R → Option R') : (XI E h t n p K).bind J = XI E h t n p fun v h => (K v h).bind J := by
 unfold XI
 ((try simp only [Bool.cond_eq_ite]); repeat' (first | rfl | (split <;> (try simp only [*, Option.bind_none]))))
theorem ZaM (h : List Blk) (t : TypeId) (n c : SV) (K : SV → List Blk → Option R) (J : R → Option R') : (W9 E h t n c K).bind J = W9 E h t n c fun v h => (K v h).bind J := by
 unfold W9
 ((try simp only [Bool.cond_eq_ite]); repeat' (first | rfl | (split <;> (try simp only [*, Option.bind_none]))))
theorem PO (L : Nat) (h : List Blk) (t t' : TypeId) (n c : SV) (K : SV → List Blk → Option R) (J : R → Option R') : (J2 E L h t t' n c K).bind J = J2 E L h t t' n c fun v h => (K v h).bind J := by
 unfold J2
 ((try simp only [Bool.cond_eq_ite]); repeat' (first | rfl | (split <;> (try simp only [*, Option.bind_none]))))
theorem Ac (h : List Blk) (t t' : TypeId) (n c : SV) (K : SV → List Blk → Option R) (J : R → Option R') : (QB E h t t' n c K).bind J = QB E h t t' n c fun v h => (K v h).bind J := PO E lim h t t' n c K J
theorem LQ (h : List Blk) (t : Ty) (p x : SV) (K : List Blk → Option R) (J : R → Option R') : (MX h t p x K).bind J = MX h t p x fun h => (K h).bind J := by
 unfold MX
 ((try simp only [Bool.cond_eq_ite]); repeat' (first | rfl | (split <;> (try simp only [*, Option.bind_none]))))
 ·rw [Option.bind_assoc]
  congr 1;funext y
  ((try simp only [Bool.cond_eq_ite]); repeat' (first | rfl | (split <;> (try simp only [*, Option.bind_none]))))
  exact Option.bind_assoc ..
 ·cases nth (α := Ty.den _) _ _ with
  | none => rfl
  | some y => simp only [Option.bind_some]; ((try simp only [Bool.cond_eq_ite]); repeat' (first | rfl | (split <;> (try simp only [*, Option.bind_none]))))
theorem Zk4 (h : List Blk) (t : Ty) (p : SV) (K : SV → List Blk → Option R) (J : R → Option R') : (Zhr h t p K).bind J = Zhr h t p fun v h => (K v h).bind J := by
 unfold Zhr;cases p with
 | eptr b v i off =>
  dsimp only
  split
  ·split
   ·rename_i v' a xs _ _
    cases a.noUq with
    | true => simp only [cond_true]; exact B5 ..
    | false =>
     simp only [cond_false];cases a.okU with
     | false => rfl
     | true =>
      simp only [cond_true];cases nth (α := Ty.den _) _ _ with
      | none => rfl
      | some y => simp only [Option.bind_some]; exact QH ..
   ·rfl
  ·split
   ·split
    ·exact QH ..
    ·rfl
   ·rfl
  ·rfl
 | _ => exact B5 ..
theorem Zk5 (h : List Blk) (t : Ty) (p : SV) (K : SV → List Blk → Option R) (J : R → Option R') : (LE h t p K).bind J = LE h t p fun v h => (K v h).bind J := by
 unfold LE;cases t.hasSl with
 | true => exact Zk4 ..
 | false => exact B5 ..
theorem ZjJ (h : List Blk) (b : Nat) (K : List Blk → Option R) (J : R → Option R') : (Jg h b K).bind J = Jg h b fun h => (K h).bind J := by
 unfold Jg
 split
 ·split
  ·exact Option.bind_assoc ..
  ·rfl
 ·rfl
theorem ZhJ (lz : Bool) (h : List Blk) (b : Nat) (K : List Blk → Option R) (J : R → Option R') : (ZdL lz h b K).bind J = ZdL lz h b fun h => (K h).bind J := by
 cases lz with
 | true => rfl
 | false => exact ZjJ ..
theorem ZcC (lz : Bool) (h : List Blk) (b v : Nat) (a : Ty) (xs : List a.den) (i : Nat) (c : List SV) (off : Nat) (d : List SV) (K : List Blk → Option R) (J : R → Option R') : (Py lz h b v a xs i c off d K).bind J = Py lz h b v a xs i c off d fun h => (K h).bind J := by
 unfold Py;cases Nat.ble (off + d.length) c.length with
 | false => rfl
 | true => exact ZhJ ..
theorem ZjK (lz : Bool) (h : List Blk) (t : Ty) (p x : SV) (K : List Blk → Option R) (J : R → Option R') : (Zco lz h t p x K).bind J = Zco lz h t p x fun h => (K h).bind J := by
 unfold Zco;cases p with
 | eptr b v i off =>
  dsimp only
  split
  ·split
   ·rename_i v' a xs _ _
    cases a.noUq with
    | true => simp only [cond_true]; exact LQ ..
    | false =>
     simp only [cond_false]
     split
     ·rfl
     ·rename_i d _
      cases (Nat.beq d.length t.size && a.okU) with
      | false => rfl
      | true =>
       simp only [cond_true];cases nth (α := Ty.den _) _ _ with
       | none => rfl
       | some y => simp only [Option.bind_some]; exact ZcC ..
   ·rfl
  ·split
   ·split
    ·split
     ·rfl
     ·rename_i d _
      cases Nat.beq d.length t.size with
      | false => rfl
      | true => simp only [cond_true]; exact ZcC ..
    ·rfl
   ·rfl
  ·rfl
 | _ => exact LQ ..
theorem PP (h : List Blk) (t : TypeId) (n : Nat) (p : List (Nat × SV)) (K : SV → List Blk → Option R) (J : R → Option R') : (Wg E h t n p K).bind J = Wg E h t n p fun v h => (K v h).bind J := by
 unfold Wg
 split
 ·split
  ·rename_i a _
   cases a.hasSl with
   | false => exact B6 ..
   | true =>
    simp only [cond_true];cases (Nat.beq p.length n && Nat.ble n 4096 && Nat.ble a.size 1024) with
    | false => rfl
    | true => simp only [cond_true]; split <;> rfl
  ·rfl
 ·rfl
theorem PQ (h : List Blk) (t t' : TypeId) (n c : SV) (K : SV → List Blk → Option R) (J : R → Option R') : (KU E h t t' n c K).bind J = KU E h t t' n c fun v h => (K v h).bind J := by
 unfold KU
 split
 ·split
  ·rename_i a _
   cases (a.hasSl && HB E t' a) with
   | false => exact Ac ..
   | true =>
    simp only [cond_true]
    split
    ·split
     ·split <;> rfl
     ·rfl
    ·split
     ·rename_i v' a' xs _
      cases a'.noUq with
      | true => simp only [cond_true]; exact Ac ..
      | false =>
       simp only [cond_false]
       split
       ·cases a.eqv a' with
        | false => rfl
        | true =>
         simp only [cond_true]
         split
         ·split
          ·split <;> rfl
          ·rfl
         ·rfl
       ·rfl
     ·rfl
    ·rfl
  ·rfl
 ·rfl
theorem ZhK (h : List Blk) (t : TypeId) (x : SV) (lo : Option SV) (hi mx : SV) (K : SV → Option R) (J : R → Option R') : (LD E h t x lo hi mx K).bind J = LD E h t x lo hi mx fun v => (K v).bind J := by
 unfold LD
 split <;> (try simp only [← FW]) <;> ((try simp only [Bool.cond_eq_ite]); repeat' (first | rfl | (split <;> (try simp only [*, Option.bind_none]))))
theorem ZjL (h : List Blk) (t : TypeId) (x : SV) (lo hi : Option SV) (K : SV → Option R) (J : R → Option R') : (Zcm E h t x lo hi K).bind J = Zcm E h t x lo hi fun v => (K v).bind J := by
 unfold Zcm
 split
 ·simp only [← FW]
  ((try simp only [Bool.cond_eq_ite]); repeat' (first | rfl | (split <;> (try simp only [*, Option.bind_none]))))
 ·exact ZcB ..
theorem ZhL (h : List Blk) (t t' : TypeId) (n c : SV) (K : SV → List Blk → Option R) (J : R → Option R') : (FK E h t t' n c K).bind J = FK E h t t' n c fun v h => (K v h).bind J := by
 unfold FK
 split
 ·((try simp only [Bool.cond_eq_ite]); repeat' (first | rfl | (split <;> (try simp only [*, Option.bind_none]))))
 ·cases E.nest with
  | true => exact PQ ..
  | false => exact Ac ..
theorem ZjM (h : List Blk) (t : TypeId) (x : SV) (K : SV → List Blk → Option R) (J : R → Option R') : (Zcp E h t x K).bind J = Zcp E h t x fun v h => (K v h).bind J := by
 unfold Zcp
 ((try simp only [Bool.cond_eq_ite]); repeat' (first | rfl | (split <;> (try simp only [*, Option.bind_none]))))
end
end Go.Sx
namespace Go.Sx
open Go
section
variable {R R' : Type} (E : Env)
def FY (gt : Operand → SV) : Op → Bool
 | .binOp _ t _ y _ => !(Pq (gt y) && Vk E t)
 | .call c => (match c.callee with | .value _ => false | _ => true)
 | _ => true
theorem Js {o : Oper} {gt : Operand → SV} (hf : FY E gt o.op = true) (h : List Blk) (K : SV → List Blk → Option R) (J : R → Option R') : (ZY E o gt h K).bind J = ZY E o gt h fun v h => (K v h).bind J := by
 obtain ⟨dst, op, type, pos, after, guard⟩ := o;cases op with
 | binOp op t x y t' =>
  simp only [FY, Bool.not_eq_true'] at hf;simp only [ZY, Zcl, hf, cond_false];exact ZjG ..
 | call c =>
  simp only [FY] at hf;simp only [ZY]
  split
  ·rename_i hc; rw [hc] at hf; cases hf
  ·((try simp only [Bool.cond_eq_ite]); repeat' (first | rfl | (split <;> (try simp only [*, Option.bind_none])))); exact Zm0 ..
  ·split
   ·cases E.far with
    | true => exact ZhL ..
    | false =>
     cases E.wide with
     | true =>
      cases Pv E _ with
      | true => exact PO ..
      | false => rfl
     | false =>
      cases E.nest with
      | true => exact PQ ..
      | false => exact Ac ..
   ·rfl
  ·split
   ·cases E.far with
    | true => exact ZjM ..
    | false => rfl
   ·rfl
  ·((try simp only [Bool.cond_eq_ite]); repeat' (first | rfl | (split <;> (try simp only [*, Option.bind_none]))))
  ·((try simp only [Bool.cond_eq_ite]); repeat' (first | rfl | (split <;> (try simp only [*, Option.bind_none]))))
  ·rfl
 | build t ps => simp only [ZY]; exact ZjI ..
 | buildSlice t n ps =>
  simp only [ZY];cases E.nest with
  | true => exact PP ..
  | false => exact B6 ..
 | load t a =>
  simp only [ZY];cases E.ty t with
  | none => rfl
  | some ty =>
   cases OC E a (gt a) with
   | false => rfl
   | true =>
   cases E.opens with
   | true => exact Zk5 ..
   | false => exact B5 ..
 | store t a x =>
  simp only [ZY];cases E.ty t with
  | none => rfl
  | some ty =>
   cases E.nest with
   | true => exact ZjK ..
   | false => exact LQ ..
 | convert s d x => simp only [ZY]; exact Zk3 ..
 | unOp op t x => simp only [ZY]; exact Zk2 ..
 | nilCheck x =>
  simp only [ZY];cases OC E x (gt x) with
  | false => rfl
  | true => simp only [cond_true]; exact Zd2 ..
 | makeSlice t n c => simp only [ZY]; exact ZaM ..
 | slice t x lo hi mx =>
  cases mx with
  | none =>
   simp only [ZY];cases E.far with
   | true => simp only [cond_true]; exact ZjL ..
   | false => simp only [cond_false]; exact ZcB ..
  | some _ =>
   cases hi with
   | none => rfl
   | some _ =>
    simp only [ZY];cases E.far with
    | true => simp only [cond_true]; exact ZhK ..
    | false => rfl
 | fieldAddr t x f =>
  simp only [ZY];cases OC E x (gt x) with
  | false => rfl
  | true => simp only [cond_true]; exact ZaL ..
 | field t x f => simp only [ZY]; exact ZjH ..
 | indexAddr t x i => simp only [ZY]; exact ZaK ..
 | index t x i => simp only [ZY]; exact ZjF ..
 | makeFunc fn fs cs => cases fn <;> simp only [ZY] <;> ((try simp only [Bool.cond_eq_ite]); repeat' (first | rfl | (split <;> (try simp only [*, Option.bind_none]))))
 | _ => simp only [ZY]; ((try simp only [Bool.cond_eq_ite]); repeat' (first | rfl | (split <;> (try simp only [*, Option.bind_none]))))
theorem ZfN {α : Type} {xs : List α} {K K' : Bool → Option R} {r : R} (hk : ∀ b, K b = some r → K' b = some r) (he : Zoe xs K = some r) : Zoe xs K' = some r := by
 cases xs with
 | nil =>
  obtain ⟨h1, h2⟩ := HA he;simp only [Zoe, hk _ h1, hk _ h2];exact Xe _
 | cons _ _ => exact hk _ he
theorem ZfO {α : Type} {xs : List α} {K : Bool → Option R} {r : R} (he : Zoe xs K = some r) : ∃ b, K b = some r := by
 cases xs with
 | nil => exact ⟨true, (HA he).1⟩
 | cons _ _ => exact ⟨false, he⟩
theorem Zk6 {h : List Blk} {x : SV} {K K' : Bool → Option R} {r : R} (hk : ∀ b, K b = some r → K' b = some r) (he : Zkr h x K = some r) : Zkr h x K' = some r := by
 cases x with
 | nil => exact hk _ he
 | val t x => cases t <;> first | exact ZfN hk he | cases he
 | own b v =>
  simp only [Zkr] at he ⊢
  split at he
  ·split at he
   ·rename_i h1 h2
    rw [if_pos h2];exact ZfN hk he
   ·cases he
  ·cases he
 | _ => cases he
theorem Zk7 {h : List Blk} {x : SV} {K : Bool → Option R} {r : R} (he : Zkr h x K = some r) : ∃ b, K b = some r := by
 cases x with
 | nil => exact ⟨_, he⟩
 | val t x => cases t <;> first | exact ZfO he | cases he
 | own b v =>
  simp only [Zkr] at he
  split at he
  ·split at he
   ·exact ZfO he
   ·cases he
  ·cases he
 | _ => cases he
theorem ZjN {h : List Blk} {op : BinOp} {x : SV} {K K' : SV → Option R} {r : R} (hk : ∀ b, K b = some r → K' b = some r) (he : Zfk h op x K = some r) : Zfk h op x K' = some r := by
 unfold Zfk at he ⊢;cases op <;> first | cases he | exact Zk6 (fun b hb => hk _ hb) he
theorem ZjO {h : List Blk} {op : BinOp} {x : SV} {K : SV → Option R} {r : R} (he : Zfk h op x K = some r) : ∃ v, K v = some r := by
 unfold Zfk at he;cases op <;> first | cases he | (obtain ⟨b, hb⟩ := Zk7 he; exact ⟨_, hb⟩)
structure ZfP (E : Env) : Prop where
 one : ∀ f c, E.tbl f = some c → ∀ (R : Type) (args : List SV) (K : SV → List (List SV) → Option R) (r : R), c.run R args K = some r → ∃ sv outs, K sv outs = some r
 mono : ∀ f c, E.tbl f = some c → ∀ (R : Type) (args : List SV) (K K' : SV → List (List SV) → Option R) (r : R), (∀ sv outs, K sv outs = some r → K' sv outs = some r) → c.run R args K = some r → c.run R args K' = some r
variable {E}
theorem PR {p : Po} {fr : Bool} {K K' : SV → List Blk → Option R} {r : R} (hk : ∀ v h, K v h = some r → K' v h = some r) {sv : SV} {outs : List (List SV)} (he : XX p fr K sv outs = some r) : XX p fr K' sv outs = some r := by
 unfold XX at he ⊢;cases hc : (Zfi sv && outs.all AW && !(fr && (hasRo sv || outs.any Xt))) with
 | false => rw [hc] at he; cases he
 | true =>
  rw [hc] at he;simp only [cond_true] at he ⊢
  split at he
  ·exact hk _ _ he
  ·cases he
theorem PS {p : Po} {fr : Bool} {K : SV → List Blk → Option R} {r : R} {sv : SV} {outs : List (List SV)} (he : XX p fr K sv outs = some r) : ∃ v h, K v h = some r := by
 unfold XX at he;cases hc : (Zfi sv && outs.all AW && !(fr && (hasRo sv || outs.any Xt))) with
 | false => rw [hc] at he; cases he
 | true =>
  rw [hc] at he;simp only [cond_true] at he
  split at he
  ·exact ⟨_, _, he⟩
  ·cases he
theorem ZjP (hE : ZfP E) {f : FuncId} {args : List SV} {h : List Blk} {K K' : SV → List Blk → Option R} {r : R} (hk : ∀ v h, K v h = some r → K' v h = some r) (he : FJ E f args h K = some r) : FJ E f args h K' = some r := by
 unfold FJ at he ⊢;cases hc : E.tbl f with
 | none => rw [hc] at he; cases he
 | some c =>
  rw [hc] at he;simp only at he ⊢;cases hp : Kc c.modes args h with
  | none => rw [hp] at he; cases he
  | some p =>
   rw [hp] at he;simp only at he ⊢;cases hl : (p.lent.all (fun b => WJ (nth p.heap b))) with
   | false => rw [hl] at he; cases he
   | true =>
    rw [hl] at he;cases hlf : p.boxes.all (VR E) with
    | false => rw [hlf] at he; cases he
    | true =>
    rw [hlf] at he;exact hE.mono f c hc R _ _ _ _ (fun _ _ => PR fun v h' hx => by
     cases hne : E.clo c.modes with
     | false => rw [hne] at hx; exact hk _ _ hx
     | true => rw [hne] at hx; exact ZaD (fun h2 => hk v h2) hx) he
theorem ZjQ (hE : ZfP E) {f : FuncId} {args : List SV} {h : List Blk} {K : SV → List Blk → Option R} {r : R} (he : FJ E f args h K = some r) : ∃ v h, K v h = some r := by
 unfold FJ at he;cases hc : E.tbl f with
 | none => rw [hc] at he; cases he
 | some c =>
  rw [hc] at he;simp only at he;cases hp : Kc c.modes args h with
  | none => rw [hp] at he; cases he
  | some p =>
   rw [hp] at he;simp only at he;cases hl : (p.lent.all (fun b => WJ (nth p.heap b))) with
   | false => rw [hl] at he; cases he
   | true =>
    rw [hl] at he;simp only [cond_true] at he;cases hlf : p.boxes.all (VR E) with
    | false => rw [hlf] at he; cases he
    | true =>
    rw [hlf] at he;obtain ⟨sv, outs, h1⟩ := hE.one f c hc R _ _ _ he;obtain ⟨v, h2, h3⟩ := PS h1;cases hne : E.clo c.modes with
    | false => rw [hne] at h3; exact ⟨v, _, h3⟩
    | true => rw [hne] at h3; exact ⟨v, _, Et h3⟩
theorem ZjR (hE : ZfP E) {o : Oper} {gt : Operand → SV} {h : List Blk} {K K' : SV → List Blk → Option R} {r : R} (hk : ∀ v h, K v h = some r → K' v h = some r) (he : ZY E o gt h K = some r) : ZY E o gt h K' = some r := by
 cases hf : FY E gt o.op with
 | true =>
  have e1 := Js E hf h (fun v h => some (v, h)) (fun q => K q.1 q.2);have e2 := Js E hf h (fun v h => some (v, h)) (fun q => K' q.1 q.2);simp only [Option.bind_some] at e1 e2;rw [← e1] at he;rw [← e2];obtain ⟨q, h1, h2⟩ := Option.bind_eq_some_iff.1 he;exact Option.bind_eq_some_iff.2 ⟨q, h1, hk _ _ h2⟩
 | false =>
  obtain ⟨dst, op, type, pos, after, guard⟩ := o;cases op with
  | binOp op t x y t' =>
   simp only [FY, Bool.not_eq_false'] at hf;simp only [ZY, Zcl, hf, cond_true] at he ⊢;exact ZjN (fun v => hk v h) he
  | call c =>
   simp only [FY] at hf;simp only [ZY] at he ⊢
   split at hf
   ·rename_i hc
    rw [hc] at he ⊢;dsimp only at he ⊢
    split at he
    ·exact ZjP hE hk he
    ·cases he
   ·cases hf
  | _ => cases hf
theorem ZjS (hE : ZfP E) {o : Oper} {gt : Operand → SV} {h : List Blk} {K : SV → List Blk → Option R} {r : R} (he : ZY E o gt h K = some r) : ∃ v h, K v h = some r := by
 cases hf : FY E gt o.op with
 | true =>
  have e1 := Js E hf h (fun v h => some (v, h)) (fun q => K q.1 q.2);simp only [Option.bind_some] at e1;rw [← e1] at he;obtain ⟨q, h1, h2⟩ := Option.bind_eq_some_iff.1 he;exact ⟨_, _, h2⟩
 | false =>
  obtain ⟨dst, op, type, pos, after, guard⟩ := o;cases op with
  | binOp op t x y t' =>
   simp only [FY, Bool.not_eq_false'] at hf;simp only [ZY, Zcl, hf, cond_true] at he;obtain ⟨v, hv⟩ := ZjO he;exact ⟨v, h, hv⟩
  | call c =>
   simp only [FY] at hf;simp only [ZY] at he
   split at hf
   ·rename_i hc
    rw [hc] at he;dsimp only at he
    split at he
    ·exact ZjQ hE he
    ·cases he
   ·cases hf
  | _ => cases hf
theorem HR {gt gt' : Operand → SV} {l : List (Nat × Operand)} (h : ∀ x ∈ l.map (·.2), gt x = gt' x) : (l.map fun p => (p.1, gt p.2)) = l.map fun p => (p.1, gt' p.2) :=
 List.map_congr_left fun p hp => by rw [h p.2 (List.mem_map.2 ⟨p, hp, rfl⟩)]
theorem ZhM {o : Oper} {gt gt' : Operand → SV} (hg : ∀ x ∈ o.op.operands, gt x = gt' x) (h : List Blk) (K : SV → List Blk → Option R) : ZY E o gt h K = ZY E o gt' h K := by
 obtain ⟨dst, op, type, pos, after, guard⟩ := o;cases op <;> simp only [Op.operands] at hg <;> simp only [ZY]
 case build t ps => rw [HR fun x hx => hg x (by simpa using hx)]
 case buildSlice t n ps => rw [HR fun x hx => hg x (by simpa using hx)]
 case makeFunc fn fs cs =>
  cases fn with
  | func f =>
   dsimp only;rw [List.map_congr_left (l := cs.toList) fun x hx => hg x (by simp [Array.mem_toList_iff.1 hx])]
  | _ => rfl
 case slice t x lo hi mx =>
  cases mx with
  | some _ => cases lo <;> cases hi <;> simp_all
  | none => cases lo <;> cases hi <;> simp_all
 case call c =>
  have ha : ∀ x ∈ c.args.toList, gt x = gt' x := fun x hx => hg x (by simp [Call.operands, Array.mem_toList_iff.1 hx])
  split
  ·rename_i f hc
   rw [hg f (by simp [Call.operands, hc]), List.map_congr_left ha]
  ·split
   ·rename_i hx _; rw [ha _ (by rw [hx]; simp)]
   ·rfl
  ·split
   ·rename_i hx _; rw [ha _ (by rw [hx]; simp), ha _ (by rw [hx]; simp)]
   ·rfl
  ·split
   ·rename_i hx _; rw [ha _ (by rw [hx]; simp)]
   ·rfl
  ·split
   ·rename_i hx; rw [ha _ (by rw [hx]; simp), ha _ (by rw [hx]; simp)]
   ·rfl
  ·split
   ·rename_i hx; rw [ha _ (by rw [hx]; simp), ha _ (by rw [hx]; simp)]
   ·rfl
  ·rfl
 all_goals (first | rfl | (simp_all; done))
end
end Go.Sx
namespace Go.Sx
open Go
section
variable {R : Type} {E : Env}
structure Gt (gt : Operand → SV) : Prop where
 const : ∀ c, gt (.const c) = ofC c
 func : ∀ f, gt (.func f) = .fn f []
theorem ZfQ {o : Oper} {gt : Operand → SV} (hg : Gt gt) (hl : X4 E o.op = true) : FY E gt o.op = true := by
 obtain ⟨dst, op, type, pos, after, guard⟩ := o;cases op with
 | binOp op t x y t' =>
  simp only [X4, Bool.or_eq_true, Bool.not_eq_true'] at hl;simp only [FY, Bool.not_eq_true'];rcases hl with hl | hl
  ·rw [hl, Bool.and_false]
  ·have : Pq (gt y) = false := by
    cases y with
    | const c => rw [hg.const]; cases c <;> first | rfl | cases hl
    | _ => cases hl
   rw [this, Bool.false_and]
 | call c =>
  simp only [X4] at hl;simp only [FY]
  split at hl
  ·rename_i hc; rw [hc]
  ·rename_i hc; rw [hc]
  ·rename_i hc; rw [hc]
  ·cases hl
 | _ => rfl
theorem Jt {t : TypeId} {ty : Ty} {a : Operand} {v : SV} (hl : X4 E (.load t a) = true) (ht : E.ty t = some ty) (hv : OC E a v = true) {h : List Blk} {K : SV → List Blk → Option R} :
  (bif E.opens then LE h ty v K else UV h ty v fun x => K x h) = UV h ty v fun x => K x h := by
 cases hne : E.opens with
 | false => rfl
 | true =>
  simp only [X4, ht, hne, Bool.true_and, Bool.or_eq_true, Bool.not_eq_true'] at hl;simp only [cond_true, LE];rcases hl with hl | hl
  ·have hv := ZnG hl hv
   cases v with
   | ptr b off => cases ty.hasSl <;> rfl
   | _ => cases hv
  ·rw [hl]; rfl
theorem Zk8 {o : Oper} {gt : Operand → SV} (hg : Gt gt) (hl : X4 E o.op = true) (h : List Blk) (K : SV → List Blk → Option R) : ZY E o gt h K = (ZY E o gt h fun v _ => some v).bind fun v => K v h := by
 rw [Js E (ZfQ hg hl)];simp only [Option.bind_some];obtain ⟨dst, op, type, pos, after, guard⟩ := o;cases op with
 | slice t x lo hi mx =>
  cases mx with
  | some _ => cases hl
  | none => rfl
 | load t a =>
  simp only [ZY];cases ht : E.ty t with
  | none => rfl
  | some ty =>
   cases hv : OC E a (gt a) with
   | false => rfl
   | true =>
   simp only [cond_true];rw [Jt hl ht hv];exact (Jt hl ht hv (K := fun v _ => K v h)).symm
 | call c =>
  simp only [X4] at hl
  split at hl
  ·rename_i hc
   simp only [ZY, hc]
  ·rename_i hc
   simp only [ZY, hc]
  ·rename_i hc
   simp only [ZY, hc]
  ·cases hl
 | _ => first | rfl | cases hl
theorem PT (h h' : List Blk) (t : Ty) (c : SV) : BJ false h t c = BJ false h' t c := by
 cases c <;> cases t <;> rfl
theorem Ad (h h' : List Blk) (t : Ty) (l : List SV) : Ej false h t l = Ej false h' t l := by
 cases l with
 | nil => rfl
 | cons c r => simp only [Ej]; rw [PT h h']
theorem LR (h h' : List Blk) : ∀ (t : Ty) (l : List SV), Zfg false h t l = Zfg false h' t l
 | .unit, l => rfl
 | .pair a b, l => by
  simp only [Zfg];rw [LR h h' a l];cases Zfg false h' a l with
  | none => rfl
  | some q => dsimp only; rw [LR h h' b q.2]
 | .int k, l => Ad ..
 | .bool, l => Ad ..
 | .str, l => Ad ..
 | .sl u a, l => Ad ..
theorem HS (h h' : List Blk) (t : Ty) (l : List SV) : UB false h t l = UB false h' t l := by
 unfold UB; rw [LR h h']
theorem PU (h h' : List Blk) (t : Ty) (l : List SV) : FH h t l = FH h' t l := by
 unfold FH; rw [HS h h']
theorem ZjT (h h' : List Blk) (t : Ty) (c : SV) : ZdK false h t c = ZdK false h' t c := by
 cases c with
 | agg l => simp only [ZdK]; rw [HS h h']
 | _ => simp only [ZdK]; exact PT ..
theorem Ju (h h' : List Blk) (t : Ty) (c : List SV) (K : SV → Option R) : El h t c K = El h' t c K := by
 unfold El; rw [PU h h']
theorem ZfR (h h' : List Blk) (t a : Ty) (y : a.den) (off : Nat) (K : SV → Option R) : ZaC h t a y off K = ZaC h' t a y off K := by
 unfold ZaC; simp only [Ju h h']
theorem ZcD {h t : List Blk} {ty : Ty} {c : SV} {x : ty.den} (he : BJ true h ty c = some x) : BJ true (h ++ t) ty c = some x := by
 cases c with
 | own b v =>
  cases ty with
  | sl u a =>
   simp only [BJ, cond_true] at he ⊢
   split at he
   ·rename_i hb
    rw [Ab hb];exact he
   ·cases he
  | _ => cases he
 | sub b v off n =>
  cases ty with
  | sl u a =>
   simp only [BJ, cond_true] at he ⊢
   split at he
   ·rename_i hb
    rw [Ab hb];exact he
   ·cases he
  | _ => cases he
 | val s x => exact he
 | vl _ s x => exact he
 | nil => exact he
 | _ => cases he
theorem D4 {h t : List Blk} {ty : Ty} {l : List SV} {q : ty.den × List SV} (he : Ej true h ty l = some q) : Ej true (h ++ t) ty l = some q := by
 cases l with
 | nil => cases he
 | cons c r =>
  simp only [Ej] at he ⊢
  split at he
  ·rename_i x hx
   rw [ZcD hx]; exact he
  ·cases he
theorem PV {h t : List Blk} : ∀ {ty : Ty} {l : List SV} {q : ty.den × List SV}, Zfg true h ty l = some q → Zfg true (h ++ t) ty l = some q
 | .unit, l, q, he => he
 | .pair a b, l, q, he => by
  simp only [Zfg] at he ⊢
  split at he
  ·rename_i x l' hx
   rw [PV hx];dsimp only
   split at he
   ·rename_i y l'' hy
    rw [PV hy];exact he
   ·cases he
  ·cases he
 | .int k, l, q, he => D4 (ty := .int k) he
 | .bool, l, q, he => D4 (ty := .bool) he
 | .str, l, q, he => D4 (ty := .str) he
 | .sl u a, l, q, he => D4 (ty := .sl u a) he
theorem Zk9 {h t : List Blk} {ty : Ty} {c : SV} {x : ty.den} (he : ZdK true h ty c = some x) : ZdK true (h ++ t) ty c = some x := by
 cases c with
 | agg l =>
  simp only [ZdK] at he ⊢;cases hi : ty.isAgg with
  | false => rw [hi] at he; cases he
  | true =>
   rw [hi] at he;simp only [cond_true, UB] at he ⊢
   split at he
   ·rename_i y hy
    rw [PV hy];exact he
   ·cases he
 | _ => simp only [ZdK] at he ⊢; exact ZcD he
theorem Xw {h t : List Blk} {b : Nat} {x : Blk} (hb : nth h b = some x) : nth (h ++ t) b = some x := Ab hb
theorem ZjU {o : Oper} {gt : Operand → SV} (hg : Gt gt) (hl : X4 E o.op = true) {h t : List Blk} {v : SV} (he : ZY E o gt h (fun v _ => some v) = some v) : ZY E o gt (h ++ t) (fun v _ => some v) = some v := by
 have hf := ZfQ hg hl;obtain ⟨dst, op, type, pos, after, guard⟩ := o;cases op with
 | load ty a =>
  simp only [ZY] at he ⊢;cases ht : E.ty ty with
  | none => rw [ht] at he; cases he
  | some T =>
   rw [ht] at he;dsimp only at he ⊢;cases hv : OC E a (gt a) with
   | false => rw [hv] at he; cases he
   | true =>
   rw [hv] at he;simp only [cond_true] at he ⊢;have key : ∀ h : List Blk, (bif E.opens then LE h T (gt a) (fun v _ => some v) else UV h T (gt a) fun v => some v) = UV h T (gt a) fun v => some v := fun h => Jt hl ht hv;rw [key] at he ⊢;cases ha : gt a with
   | ptr b off =>
    rw [ha] at he;simp only [UV] at he ⊢
    split at he
    ·rename_i c hb
     rw [Xw hb];dsimp only;rw [Ju (h ++ t) h]; exact he
    ·cases he
   | rptr A y off =>
    rw [ha] at he;simp only [UV] at he ⊢;rw [ZfR (h ++ t) h]; exact he
   | eptr b v i off =>
    rw [ha] at he;simp only [UV] at he ⊢
    split at he
    ·rename_i v' A xs hb
     rw [Xw hb];dsimp only;simp only [ZfR (h ++ t) h, Ju (h ++ t) h]; exact he
    ·cases he
   | _ => rw [ha] at he; cases he
 | fieldAddr ty x f =>
  simp only [ZY, Wu] at he ⊢;cases hv : OC E x (gt x) with
  | false => rw [hv] at he; cases he
  | true =>
  rw [hv] at he;simp only [cond_true] at he ⊢
  split at he
  ·rename_i fs _
   unfold fieldAt at he ⊢
   split at he
   ·rename_i q o ty' hq
    dsimp only at he ⊢;cases ha : gt x with
    | ptr b off =>
     rw [ha] at he;simp only at he ⊢
     split at he
     ·rename_i c hb
      rw [Xw hb]; exact he
     ·cases he
    | rptr A y off => rw [ha] at he; exact he
    | eptr b v i off =>
     rw [ha] at he;simp only at he ⊢
     split at he
     ·rename_i v' A xs hb
      rw [Xw hb]; exact he
     ·rename_i v' A xs j c hb
      rw [Xw hb]; exact he
     ·cases he
    | _ => rw [ha] at he; cases he
   ·cases he
  ·cases he
 | nilCheck x =>
  simp only [ZY, Vm] at he ⊢;cases hv : OC E x (gt x) with
  | false => rw [hv] at he; cases he
  | true =>
  rw [hv] at he;simp only [cond_true] at he ⊢;cases ha : gt x with
  | ptr b off =>
   rw [ha] at he;simp only at he ⊢
   split at he
   ·rename_i c hb
    rw [Xw hb]; exact he
   ·cases he
  | rptr A y off => rw [ha] at he; exact he
  | eptr b v i off =>
   rw [ha] at he;simp only at he ⊢
   split at he
   ·rename_i v' A xs hb
    rw [Xw hb]; exact he
   ·cases he
  | _ => rw [ha] at he; cases he
 | indexAddr ty x i =>
  simp only [ZY, VQ] at he ⊢
  split at he
  ·cases he
  ·skip
   cases ha : gt x with
   | val s y => rw [ha] at he; cases s <;> first | exact he | cases he
   | own b v =>
    rw [ha] at he;simp only at he ⊢
    split at he
    ·rename_i v' A xs hb
     rw [Xw hb]; exact he
    ·rename_i v' A xs j c hb
     rw [Xw hb]; exact he
    ·cases he
   | sub b v off n =>
    rw [ha] at he;simp only at he ⊢
    split at he
    ·rename_i v' A xs hb
     rw [Xw hb]; exact he
    ·cases he
   | _ => rw [ha] at he; cases he
 | slice ty x lo hi mx =>
  cases mx with
  | some _ => cases hl
  | none =>
   have hfar : E.far = false := by simpa only [X4, Bool.not_eq_true'] using hl
   simp only [ZY, MW, hfar, cond_false] at he ⊢;cases ha : gt x with
   | val s y => rw [ha] at he; cases s <;> first | exact he | cases he
   | nil => rw [ha] at he; exact he
   | own b v =>
    rw [ha] at he;simp only at he ⊢
    split at he
    ·rename_i v' A xs hb
     rw [Xw hb]; exact he
    ·cases he
   | sub b v off n =>
    rw [ha] at he;simp only at he ⊢
    split at he
    ·rename_i v' A xs hb
     rw [Xw hb]; exact he
    ·cases he
   | _ => rw [ha] at he; cases he
 | call c =>
  simp only [X4] at hl
  split at hl
  ·rename_i hc
   simp only [ZY, hc] at he ⊢
   split at he
   ·rename_i x ty hx hy
    simp only [Zof] at he ⊢;cases ha : gt x with
    | val s y => rw [ha] at he; cases s <;> first | exact he | cases he
    | nil => rw [ha] at he; exact he
    | own b v =>
     rw [ha] at he;simp only at he ⊢
     split at he
     ·rename_i v' A xs hb
      rw [Xw hb]; exact he
     ·cases he
    | sub b v off n =>
     rw [ha] at he;simp only at he ⊢
     split at he
     ·rename_i v' A xs hb
      rw [Xw hb]; exact he
     ·cases he
    | _ => rw [ha] at he; cases he
   ·cases he
  ·rename_i hc
   simp only [ZY, hc] at he ⊢;exact he
  ·rename_i hc
   simp only [ZY, hc] at he ⊢;exact he
  ·cases hl
 | field ty x f =>
  simp only [ZY, Ps, Ju (h ++ t) h] at he ⊢;exact he
 | build ty ps =>
  simp only [ZY, Pt, PU (h ++ t) h] at he ⊢;exact he
 | binOp op ty x y ty' =>
  simp only [FY, Bool.not_eq_true'] at hf;simp only [ZY, Zcl, hf, cond_false, Pr, ZjT (h ++ t) h] at he ⊢;exact he
 | convert s d x =>
  simp only [ZY, Zho] at he ⊢
  split at he
  ·exact he
  ·skip
   split at he
   ·exact he
   ·split at he
    ·rename_i hx
     rw [Zk9 hx]; exact he
    ·cases he
   ·cases he
  ·cases he
 | _ => first | exact he | cases hl
theorem LS {o : Oper} (hp : UW o.op = true) : X4 E o.op = true := by
 obtain ⟨dst, op, type, pos, after, guard⟩ := o;cases op with
 | call c =>
  simp only [UW] at hp;simp only [X4]
  split at hp
  ·rename_i hc; rw [hc]
  ·rename_i hc; rw [hc]
  ·cases hp
 | _ => first | rfl | cases hp
theorem Zm1 {o : Oper} {gt : Operand → SV} (hp : UW o.op = true) (h h' : List Blk) : ZY E o gt h (fun v _ => some v) = ZY E o gt h' (fun v _ => some v) := by
 obtain ⟨dst, op, type, pos, after, guard⟩ := o;cases op with
 | call c =>
  simp only [UW] at hp
  split at hp
  ·rename_i hc; simp only [ZY, hc]
  ·rename_i hc; simp only [ZY, hc]
  ·cases hp
 | _ => first | rfl | cases hp
mutual
theorem HT : ∀ (h : List Blk) (v : SV), ∃ t, (Uj h v).2 = h ++ t
 | h, .fr t x => ⟨_, rfl⟩
 | h, .fv t x => by
  obtain ⟨e, he⟩ := D5 t x h;exact ⟨e, he⟩
 | h, .agg l => Qu h l
 | h, .tup l => Qu h l
 | h, .fn f l => Qu h l
 | h, .val _ _ => ⟨[], by simp [Uj]⟩
 | h, .own _ _ => ⟨[], by simp [Uj]⟩
 | h, .sub _ _ _ _ => ⟨[], by simp [Uj]⟩
 | h, .nil => ⟨[], by simp [Uj]⟩
 | h, .ptr _ _ => ⟨[], by simp [Uj]⟩
 | h, .eptr _ _ _ _ => ⟨[], by simp [Uj]⟩
 | h, .rptr _ _ _ => ⟨[], by simp [Uj]⟩
 | h, .io _ _ => ⟨[], by simp [Uj]⟩
 | h, .mr _ => ⟨[], by simp [Uj]⟩
 | h, .vl _ _ _ => ⟨[], by simp [Uj]⟩
 | h, .fp l => by
  obtain ⟨t, ht⟩ := Qu h l;exact ⟨t ++ [.vars (Xl h l).1], by simp only [Uj]; rw [← List.append_assoc, ← ht]⟩
 | h, .dead => ⟨[], by simp [Uj]⟩
theorem Qu : ∀ (h : List Blk) (l : List SV), ∃ t, (Xl h l).2 = h ++ t
 | h, [] => ⟨[], by simp [Xl]⟩
 | h, x :: l => by
  obtain ⟨t1, e1⟩ := HT h x;obtain ⟨t2, e2⟩ := Qu (Uj h x).2 l;refine ⟨t1 ++ t2, ?_⟩;show (Xl (Uj h x).2 l).2 = _;rw [e2, e1, List.append_assoc]
theorem D5 : ∀ (t : Ty) (x : t.den) (h : List Blk), ∃ e, (Vj t x h).2 = h ++ e
 | .unit, _, h => ⟨[], by simp [Vj]⟩
 | .pair a b, x, h => by
  obtain ⟨t1, e1⟩ := D5 a x.1 h;obtain ⟨t2, e2⟩ := D5 b x.2 (Vj a x.1 h).2;refine ⟨t1 ++ t2, ?_⟩;show (Vj b x.2 (Vj a x.1 h).2).2 = _;rw [e2, e1, List.append_assoc]
 | .int _, _, h => ⟨[], by simp [Vj]⟩
 | .bool, _, h => ⟨[], by simp [Vj]⟩
 | .str, _, h => ⟨[], by simp [Vj]⟩
 | .sl true a, x, h => ⟨_, rfl⟩
 | .sl false a, x, h => ⟨[], by simp [Vj]⟩
end
theorem Zd3 : ∀ (ms : List Mode) (vs : List SV) {h : List Blk} {p : Po}, ms.all Zky = true → Kc ms vs h = some p → p.heap = h ∧ p.boxes = []
 | [], vs, h, p, _, hp => by
  cases vs with
  | nil => simp only [Kc, Option.some.injEq] at hp; subst hp; exact ⟨rfl, rfl⟩
  | cons _ _ => simp [Kc] at hp
 | m :: ms, [], h, p, _, hp => by simp [Kc] at hp
 | m :: ms, v :: vs, h, p, ha, hp => by
  simp only [List.all_cons, Bool.and_eq_true] at ha;simp only [Kc] at hp
  split at hp
  ·cases hp
  ·rename_i p1 hp1
   split at hp
   ·cases hp
   ·rename_i q hq
    simp only [Option.some.injEq] at hp;subst hp;have h1 : p1.heap = h ∧ p1.boxes = [] := by
     cases m with
     | ro t =>
      simp only [Zck] at hp1
      split at hp1
      ·simp only [Option.some.injEq] at hp1; subst hp1; exact ⟨rfl, rfl⟩
      ·cases hp1
     | _ => simp [Zky] at ha
    obtain ⟨h2, h3⟩ := Zd3 ms vs ha.2 hq;exact ⟨h2.trans h1.1, by simp [h1.2, h3]⟩
theorem Zla (hE : ZfP E) {o : Oper} {gt : Operand → SV} (hg : Gt gt) (hl : Zkz E o.op = true) {h : List Blk} {K K' : SV → List Blk → Option R} {r : R} (hk : ∀ v t, K v (h ++ t) = some r → K' v (h ++ t) = some r)
  (he : ZY E o gt h K = some r) : ZY E o gt h K' = some r := by
 obtain ⟨dst, op, type, pos, after, guard⟩ := o;cases op with
 | alloc t =>
  simp only [ZY] at he ⊢
  split at he
  ·exact hk _ _ he
  ·cases he
 | box t x =>
  simp only [ZY] at he ⊢
  split at he
  ·rename_i ty c _ _
   cases hb : Nat.beq c.length ty.size with
   | false => rw [hb] at he; cases he
   | true =>
    rw [hb] at he;exact hk _ _ he
  ·cases he
 | call c =>
  simp only [Zkz] at hl
  split at hl
  ·rename_i f hc
   simp only [ZY, hc, hg.func] at he ⊢;unfold FJ at he ⊢;cases ht : E.tbl f with
   | none => rw [ht] at hl; cases hl
   | some con =>
    rw [ht] at hl he;simp only [Bool.and_eq_true, Bool.not_eq_true'] at hl;obtain ⟨hne, hl⟩ := hl;have hclo : E.clo con.modes = false := by unfold Env.clo; rw [hne]; rfl
    simp only [hclo, cond_false] at he ⊢;cases hp : Kc con.modes (c.args.toList.map gt ++ []) h with
    | none => rw [hp] at he; cases he
    | some p =>
     rw [hp] at he;obtain ⟨e1, e2⟩ := Zd3 _ _ hl.2 hp;simp only at he ⊢;cases hlv : (p.lent.all (fun b => WJ (nth p.heap b))) with
     | false => rw [hlv] at he; cases he
     | true =>
      rw [hlv] at he;simp only [cond_true] at he ⊢;cases hlf : p.boxes.all (VR E) with
      | false => rw [hlf] at he; cases he
      | true =>
      rw [hlf] at he;simp only [cond_true] at he ⊢;refine hE.mono f con ht R _ _ _ _ (fun sv outs hx => ?_) he;unfold XX at hx ⊢;rw [hl.1] at hx ⊢;cases hc : (Zfi sv && outs.all AW && !(true && (hasRo sv || outs.any Xt))) with
      | false => rw [hc] at hx; cases hx
      | true =>
       have hro : (hasRo sv || outs.any Xt) = false := by
        simp only [Bool.and_eq_true, Bool.true_and, Bool.not_eq_true'] at hc;exact hc.2
       rw [hc] at hx;rw [hro, e1, e2] at hx ⊢;simp only [cond_true, cond_false] at hx ⊢;cases outs with
       | cons _ _ => simp [W8] at hx
       | nil =>
        simp only [W8] at hx ⊢;obtain ⟨t, ht⟩ := HT h sv;rw [ht] at hx ⊢;exact hk _ _ hx
  ·cases hl
 | _ => cases hl
def VK (h h' : List Blk) : Prop := ∀ b c, nth h b = some (.vars c) → nth h' b = some (.vars c)
theorem VK.refl (h : List Blk) : VK h h := fun _ _ h => h
theorem VK.trans {h h' h'' : List Blk} (a : VK h h') (b : VK h' h'') : VK h h'' := fun q c hq => b q c (a q c hq)
theorem KX (h t : List Blk) : VK h (h ++ t) := fun _ _ hb => Xw hb
theorem ZiG {h : List Blk} {b : Nat} {nb : Blk} (hb : ∀ c, nth h b ≠ some (.vars c)) : VK h (upd h b nb) := fun q c hq => by
 have hne : b ≠ q := fun e => hb c (e ▸ hq);rw [ZM hne]; exact hq
theorem Zlb {h h1 : List Blk} {b : Nat} {nb : Blk} (hk : VK h h1) (hb : ∃ v t x, nth h b = some (.arr v t x)) : VK h (upd h1 b nb) := fun q c hq => by
 obtain ⟨v, t, x, e⟩ := hb;have hne : b ≠ q := fun e2 => by rw [← e2, e] at hq; cases hq
 rw [ZM hne]; exact hk q c hq
theorem Zd4 {h : List Blk} {l : List Nat} (hl : ∀ b ∈ l, ∃ v t x, nth h b = some (.arr v t x)) : VK h (UM h l) := fun q c hq => by
 have hne : q ∉ l := fun hm => by
  obtain ⟨v, t, x, e⟩ := hl q hm;rw [hq] at e; cases e
 rw [Kg l h hne]; exact hq
theorem ZnO {h h' : List Blk} (ha : ∀ b, nth h' b = nth h b ∨ (nth h' b = some .gone ∧ ∃ v s y, nth h b = some (.arr v s y))) : VK h h' := fun q c hq => by
 rcases ha q with e | ⟨_, v, s, y, e⟩
 ·rw [e]; exact hq
 ·rw [hq] at e; cases e
theorem PW {h : List Blk} {t : Ty} {v : SV} {x : t.den} (he : BJ true h t v = some x) : ∀ b ∈ Qx v, ∃ v s y, nth h b = some (.arr v s y) := by
 cases v with
 | own b v =>
  cases t with
  | sl u a =>
   simp only [BJ, cond_true] at he
   split at he
   ·rename_i hb
    intro q hq;simp only [Qx, List.mem_singleton] at hq;subst hq;exact ⟨_, _, _, hb⟩
   ·cases he
  | _ => cases he
 | sub b v off n =>
  cases t with
  | sl u a =>
   simp only [BJ, cond_true] at he
   split at he
   ·rename_i hb
    intro q hq;simp only [Qx, List.mem_singleton] at hq;subst hq;exact ⟨_, _, _, hb⟩
   ·cases he
  | _ => cases he
 | _ => intro q hq; simp [Qx] at hq
theorem HU {h : List Blk} {t : Ty} {l l' : List SV} {x : t.den} (he : Ej true h t l = some (x, l')) : ∃ d, l = d ++ l' ∧ ∀ b ∈ d.flatMap Qx, ∃ v s y, nth h b = some (.arr v s y) := by
 cases l with
 | nil => cases he
 | cons c r =>
  simp only [Ej] at he
  split at he
  ·rename_i y hy
   cases he;exact ⟨[c], rfl, by simpa using PW hy⟩
  ·cases he
theorem Zd5 {h : List Blk} : ∀ {t : Ty} {l l' : List SV} {x : t.den}, Zfg true h t l = some (x, l') → ∃ d, l = d ++ l' ∧ ∀ b ∈ d.flatMap Qx, ∃ v s y, nth h b = some (.arr v s y)
 | .unit, l, l', x, he => by cases he; exact ⟨[], rfl, by simp⟩
 | .pair a b, l, l', x, he => by
  simp only [Zfg] at he
  split at he
  ·rename_i y l1 hy
   split at he
   ·rename_i y2 l2 hy2
    cases he;obtain ⟨d1, e1, k1⟩ := Zd5 hy;obtain ⟨d2, e2, k2⟩ := Zd5 hy2;refine ⟨d1 ++ d2, by rw [e1, e2]; simp, fun q hq => ?_⟩;rw [List.flatMap_append] at hq;rcases List.mem_append.1 hq with m | m
    ·exact k1 q m
    ·exact k2 q m
   ·cases he
  ·cases he
 | .int _, _, _, _, he => HU he
 | .bool, _, _, _, he => HU he
 | .str, _, _, _, he => HU he
 | .sl _ _, _, _, _, he => HU he
theorem ZiH {h : List Blk} {t : Ty} {v : SV} {x : t.den} (he : ZdK true h t v = some x) : ∀ b ∈ VN v, ∃ v s y, nth h b = some (.arr v s y) := by
 cases v with
 | agg l =>
  simp only [ZdK] at he;cases ha : t.isAgg with
  | false => rw [ha] at he; cases he
  | true =>
   rw [ha] at he;simp only [cond_true, UB] at he
   split at he
   ·rename_i y hy
    obtain ⟨d, e, k⟩ := Zd5 hy;rw [List.append_nil] at e;subst e;exact k
   ·cases he
 | own b v => exact PW (v := .own b v) he
 | sub b v off n => exact PW (v := .sub b v off n) he
 | _ => intro q hq; simp [VN, Qx] at hq
theorem ZcE {h : List Blk} {a : Ty} : ∀ (l : List (Nat × SV)) {j : Nat} {xs : List a.den}, Pu h a j l = some xs → ∀ b ∈ (l.flatMap fun p => VN p.2), ∃ v s y, nth h b = some (.arr v s y)
 | [], _, _, _, b, hb => by simp at hb
 | (i, v) :: l, j, xs, he, b, hb => by
  simp only [Pu] at he;cases hij : Nat.beq i j with
  | false => rw [hij] at he; cases he
  | true =>
   rw [hij] at he;simp only [cond_true] at he
   split at he
   ·rename_i y hy
    split at he
    ·rename_i ys hys
     rw [List.flatMap_cons] at hb;rcases List.mem_append.1 hb with m | m
     ·exact ZiH hy b m
     ·exact ZcE l hys b m
    ·cases he
   ·cases he
theorem ZfS {a : Ty} : ∀ (l : List (Nat × SV)) {j : Nat} {xs : List a.den} {h h' : List Blk}, M1 a j l h = some (xs, h') → VK h h'
 | [], _, _, h, h', he => by simp only [M1, Option.some.injEq, Prod.mk.injEq] at he; rw [← he.2]; exact VK.refl h
 | (i, v) :: l, j, xs, h, h', he => by
  simp only [M1] at he;cases hij : Nat.beq i j with
  | false => rw [hij] at he; cases he
  | true =>
   rw [hij] at he;simp only [cond_true] at he
   split at he
   ·cases he
   ·split at he
    ·rename_i h1 hp
     split at he
     ·rename_i hys
      simp only [Option.some.injEq, Prod.mk.injEq] at he;rw [← he.2];exact (ZnO (HN _ hp)).trans (ZfS l hys)
     ·cases he
    ·cases he
theorem Zlc {h : List Blk} {t : TypeId} {a : Ty} {x : SV} {ys : List a.den} (he : Zjn E h t a x = some ys) : ∀ b ∈ VN x, ∃ v s y, nth h b = some (.arr v s y) := by
 unfold Zjn at he;cases hs : Zkv x with
 | true =>
  cases x with
  | val t y => intro q hq; simp [VN, Qx] at hq
  | _ => cases hs
 | false =>
  rw [hs] at he;simp only [cond_false] at he;cases ho : HB E t a with
  | false => rw [ho] at he; cases he
  | true => rw [ho] at he; exact ZiH he
theorem LT {h : List Blk} {t t' : TypeId} {s x : SV} {v : SV} {h' : List Blk} (he : QB E h t t' s x (fun v h => some (v, h)) = some (v, h')) : VK h h' := by
 unfold QB J2 at he
 split at he
 ·split at he
  ·rename_i a _
   cases hn : a.noUq with
   | false => rw [hn] at he; cases he
   | true =>
    rw [hn] at he;simp only [cond_true] at he
    split at he
    ·rename_i ys hys
     have hk : VK h (UM h (bif a.hasSl then VN x else [])) := by
      cases a.hasSl with
      | true => exact Zd4 (Zlc hys)
      | false => exact VK.refl h
     split at he
     ·split at he
      ·simp only [Option.some.injEq, Prod.mk.injEq] at he
       rw [← he.2];exact hk.trans (KX _ _)
      ·cases he
     ·split at he
      ·rename_i v' a' xs hb
       split at he
       ·split at he
        ·rename_i zs hzs
         cases hc : (a'.noUq && !((VN x).any (Nat.beq _))) with
         | false => rw [hc] at he; cases he
         | true =>
          rw [hc] at he;simp only [cond_true] at he
          split at he
          ·simp only [Option.some.injEq, Prod.mk.injEq] at he
           rw [← he.2];exact Zlb hk ⟨_, _, _, hb⟩
          ·cases he
        ·cases he
       ·cases he
      ·cases he
     ·cases he
    ·cases he
  ·cases he
 ·cases he
theorem Zm2 {h : List Blk} {a : Ty} {x : SV} {ys : List a.den} (he : Zhi h a x = some ys) {b v : Nat} (hx : x = .own b v) : ∃ v s y, nth h b = some (.arr v s y) := by
 subst hx;unfold Zhi at he;dsimp only at he
 split at he
 ·exact ⟨_, _, _, by assumption⟩
 ·cases he
theorem ZiI {h h' : List Blk} {a : Ty} {x : SV} {ys : List a.den} (he : Zjo h a x = some (ys, h')) : VK h h' := by
 unfold Zjo at he
 split at he
 ·rename_i ho
  split at he
  ·simp only [Option.some.injEq, Prod.mk.injEq] at he
   rw [← he.2]; exact VK.refl h
  ·simp only [Option.some.injEq, Prod.mk.injEq] at he
   rw [← he.2];obtain ⟨v, s, y, e⟩ := Zm2 ho rfl;exact ZiG (fun c hc => by rw [e] at hc; cases hc)
  ·cases he
 ·cases he
theorem ZjV {h : List Blk} {t t' : TypeId} {s x : SV} {v : SV} {h' : List Blk} (he : KU E h t t' s x (fun v h => some (v, h)) = some (v, h')) : VK h h' := by
 unfold KU at he
 split at he
 ·split at he
  ·rename_i a _
   cases hc : (a.hasSl && HB E t' a) with
   | false => rw [hc] at he; exact LT he
   | true =>
    rw [hc] at he;simp only [cond_true] at he
    split at he
    ·split at he
     ·rename_i htk
      split at he
      ·simp only [Option.some.injEq, Prod.mk.injEq] at he
       rw [← he.2];exact (ZiI htk).trans (KX _ _)
      ·cases he
     ·cases he
    ·split at he
     ·rename_i v' a' xs hb
      cases hn : a'.noUq with
      | true =>
       rw [hn] at he;simp only [cond_true] at he;exact LT he
      | false =>
       rw [hn] at he;simp only [cond_false] at he
       split at he
       ·cases hq : a.eqv a' with
        | false => rw [hq] at he; cases he
        | true =>
         rw [hq] at he;simp only [cond_true] at he
         split at he
         ·rename_i htk
          split at he
          ·split at he
           ·simp only [Option.some.injEq, Prod.mk.injEq] at he
            rw [← he.2];exact Zlb (ZiI htk) ⟨_, _, _, hb⟩
           ·cases he
          ·cases he
         ·cases he
       ·cases he
     ·cases he
    ·cases he
  ·cases he
 ·cases he
theorem EA {h : List Blk} {t : TypeId} {n : Nat} {p : List (Nat × SV)} {v : SV} {h' : List Blk} (he : XI E h t n p (fun v h => some (v, h)) = some (v, h')) : VK h h' := by
 unfold XI at he
 split at he
 ·split at he
  ·rename_i a _
   cases hc : (Nat.beq p.length n && Nat.ble n 4096 && Nat.ble a.size 1024 && a.noUq) with
   | false => rw [hc] at he; cases he
   | true =>
    rw [hc] at he;simp only [cond_true] at he
    split at he
    ·rename_i xs hxs
     simp only [Option.some.injEq, Prod.mk.injEq] at he;rw [← he.2];exact (Zd4 (ZcE p hxs)).trans (KX _ _)
    ·cases he
  ·cases he
 ·cases he
theorem ZaN {h : List Blk} {t : TypeId} {n : Nat} {p : List (Nat × SV)} {v : SV} {h' : List Blk} (he : Wg E h t n p (fun v h => some (v, h)) = some (v, h')) : VK h h' := by
 unfold Wg at he
 split at he
 ·split at he
  ·rename_i a _
   cases hs : a.hasSl with
   | false => rw [hs] at he; exact EA he
   | true =>
    rw [hs] at he;simp only [cond_true] at he;cases hc : (Nat.beq p.length n && Nat.ble n 4096 && Nat.ble a.size 1024) with
    | false => rw [hc] at he; cases he
    | true =>
     rw [hc] at he;simp only [cond_true] at he
     split at he
     ·rename_i xs h1 hxs
      simp only [Option.some.injEq, Prod.mk.injEq] at he;rw [← he.2];exact (ZfS p hxs).trans (KX _ _)
     ·cases he
  ·cases he
 ·cases he
theorem Zd6 {h : List Blk} {t : TypeId} {n c : SV} {v : SV} {h' : List Blk} (he : W9 E h t n c (fun v h => some (v, h)) = some (v, h')) : VK h h' := by
 unfold W9 at he
 split at he
 ·split at he
  ·rename_i a _ _ _ _ _
   split at he
   ·split at he
    ·split at he
     ·cases hn : a.noUq with
      | false => rw [hn] at he; cases he
      | true =>
       rw [hn] at he;simp only [cond_true, Option.some.injEq, Prod.mk.injEq] at he;rw [← he.2];exact KX _ _
     ·cases he
    ·cases he
   ·cases he
  ·cases he
 ·cases he
theorem Zld {h : List Blk} {b : Nat} {K K' : List Blk → Option R} {r : R} (hk : ∀ h', VK h h' → K h' = some r → K' h' = some r) (he : Jg h b K = some r) : Jg h b K' = some r := by
 unfold Jg at he ⊢
 split at he
 ·rename_i v t xs i c hb
  split at he
  ·rename_i y h1 hp
   obtain ⟨xs', h2, h3⟩ := Option.bind_eq_some_iff.1 he;refine Option.bind_eq_some_iff.2 ⟨xs', h2, hk _ ?_ h3⟩;exact fun q c' hq => by
    have hne : b ≠ q := fun e => by rw [← e, hb] at hq; cases hq
    rw [ZM hne];exact ZnO (HN t hp) q c' hq
  ·exact hk _ (VK.refl h) he
 ·exact hk _ (VK.refl h) he
theorem LU : ∀ (l : List Nat) {h : List Blk} {K K' : List Blk → Option R} {r : R}, (∀ h', VK h h' → K h' = some r → K' h' = some r) → FI h K l = some r → FI h K' l = some r
 | [], h, _, _, _, hk, he => hk _ (VK.refl h) he
 | _ :: l, _, _, _, _, hk, he => Zld (fun _ v1 h1 => LU l (fun _ v2 h2 => hk _ (v1.trans v2) h2) h1) he
theorem ZiJ {h : List Blk} {ty : Ty} {c : List SV} {v : SV} {h' h1 : List Blk} (he : (El h1 ty c fun x => (some (x, h1) : Option (SV × List Blk))) = some (v, h')) (hk : VK h h1) : VK h h' := by
 have e := QH h1 ty c (fun x => (some x : Option SV)) (fun x => some (x, h1));simp only [Option.bind_some] at e;rw [← e] at he;obtain ⟨x, _, h3⟩ := Option.bind_eq_some_iff.1 he;simp only [Option.some.injEq, Prod.mk.injEq] at h3;rw [← h3.2]; exact hk
theorem Pd {h : List Blk} {ty : Ty} {p : SV} {v : SV} {h' : List Blk} (he : (UV h ty p fun x => (some (x, h) : Option (SV × List Blk))) = some (v, h')) : VK h h' := by
 have e := B5 h ty p (fun x => (some x : Option SV)) (fun x => some (x, h));simp only [Option.bind_some] at e;rw [← e] at he;obtain ⟨x, _, h3⟩ := Option.bind_eq_some_iff.1 he;simp only [Option.some.injEq, Prod.mk.injEq] at h3;rw [← h3.2]; exact VK.refl h
theorem Zm3 {h : List Blk} {b v : Nat} {a : Ty} {xs : List a.den} {i : Nat} {y : a.den} (hb : nth h b = some (.arr v a xs)) : VK h (HC h b v a xs i y).2 := by
 unfold HC;obtain ⟨e, he⟩ := D5 a y (upd h b (.opn v a xs i (List.replicate a.size .dead)));cases hx : Vj a y (upd h b (.opn v a xs i (List.replicate a.size .dead))) with
 | mk c h' =>
  dsimp only;rw [hx] at he;dsimp only at he;rw [he];intro q c' hq;have hne : b ≠ q := fun e => by rw [← e, hb] at hq; cases hq
  rw [ZM hne];exact Xw (by rw [ZM hne]; exact hq)
theorem Zm4 {h : List Blk} {ty : Ty} {p : SV} {v : SV} {h' : List Blk} (he : LE h ty p (fun v h => some (v, h)) = some (v, h')) : VK h h' := by
 unfold LE at he;cases hs : ty.hasSl with
 | false => rw [hs] at he; exact Pd he
 | true =>
  rw [hs] at he;simp only [cond_true] at he;unfold Zhr at he
  split at he
  ·rename_i b vv i off
   split at he
   ·rename_i v' a xs hb
    split at he
    ·cases hn : a.noUq with
     | true => rw [hn] at he; simp only [cond_true] at he; exact Pd he
     | false =>
      rw [hn] at he;simp only [cond_false] at he;cases hu : a.okU with
      | false => rw [hu] at he; cases he
      | true =>
       rw [hu] at he;simp only [cond_true] at he;obtain ⟨y, _, h2⟩ := Option.bind_eq_some_iff.1 he;exact ZiJ h2 (Zm3 hb)
    ·cases he
   ·split at he
    ·split at he
     ·exact ZiJ he (VK.refl h)
     ·cases he
    ·cases he
   ·cases he
  ·exact Pd he
theorem Zm5 (hE : ZfP E) {f : FuncId} {con : Con} (ht : E.tbl f = some con) (hm : con.modes.all Zky = true) {args : List SV} {h : List Blk} {K K' : SV → List Blk → Option R} {r : R} (hk : ∀ v h', VK h h' → K v h' = some r → K' v h' = some r)
  (he : FJ E f args h K = some r) : FJ E f args h K' = some r := by
 unfold FJ at he ⊢;rw [ht] at he ⊢;dsimp only at he ⊢;cases hp : Kc con.modes args h with
 | none => rw [hp] at he; cases he
 | some p =>
  rw [hp] at he;obtain ⟨e1, e2⟩ := Zd3 _ _ hm hp;dsimp only at he ⊢;cases hlv : (p.lent.all (fun b => WJ (nth p.heap b))) with
  | false => rw [hlv] at he; cases he
  | true =>
   rw [hlv] at he;simp only [cond_true] at he ⊢;cases hlf : p.boxes.all (VR E) with
   | false => rw [hlf] at he; cases he
   | true =>
   rw [hlf] at he;simp only [cond_true] at he ⊢;have hkl : VK h (UM h p.lent) := Zd4 (fun b hb => by
    have := List.all_eq_true.1 hlv b hb;rw [e1] at this;cases hx : nth h b with
    | none => rw [hx] at this; cases this
    | some x =>
     rw [hx] at this;cases x with
     | arr v t y => exact ⟨v, t, y, rfl⟩
     | _ => cases this)
   refine hE.mono f con ht R _ _ _ _ (fun sv outs hx => ?_) he;unfold XX at hx ⊢;cases hc : (Zfi sv && outs.all AW && !(con.fresh && (hasRo sv || outs.any Xt))) with
   | false => rw [hc] at hx; cases hx
   | true =>
    rw [hc] at hx;simp only [cond_true] at hx ⊢;rw [e1, e2] at hx ⊢;cases outs with
    | cons _ _ => simp [W8] at hx
    | nil =>
     simp only [W8] at hx ⊢;have hbase : VK h (bif hasRo sv || List.any [] Xt then UM h p.lent else h) := by
      cases (hasRo sv || List.any [] Xt) with
      | true => exact hkl
      | false => exact VK.refl h
     generalize (bif hasRo sv || List.any [] Xt then UM h p.lent else h) = hh at hx hbase ⊢;obtain ⟨t, ht2⟩ := HT hh sv;have hv2 : VK h (Uj hh sv).2 := by rw [ht2]; exact hbase.trans (KX _ _)
     cases hne : E.clo con.modes with
     | false =>
      rw [hne] at hx;exact hk _ _ hv2 hx
     | true =>
      rw [hne] at hx;exact LU _ (fun h' v1 h1 => hk _ _ (hv2.trans v1) h1) hx
theorem Zle (hE : ZfP E) {o : Oper} {gt : Operand → SV} (hg : Gt gt) (hl : ZkA E o.op = true) {h : List Blk} {K K' : SV → List Blk → Option R} {r : R} (hk : ∀ v h', VK h h' → K v h' = some r → K' v h' = some r)
  (he : ZY E o gt h K = some r) : ZY E o gt h K' = some r := by
 have via : FY E gt o.op = true → (∀ v h', ZY E o gt h (fun v h => some (v, h)) = some (v, h') → VK h h') → ZY E o gt h K' = some r := by
  intro hf hv;have e1 := Js E hf h (fun v h => some (v, h)) (fun q => K q.1 q.2);have e2 := Js E hf h (fun v h => some (v, h)) (fun q => K' q.1 q.2);simp only [Option.bind_some] at e1 e2;rw [← e1] at he;rw [← e2];obtain ⟨q, h1, h2⟩ := Option.bind_eq_some_iff.1 he;exact Option.bind_eq_some_iff.2 ⟨q, h1, hk _ _ (hv q.1 q.2 h1) h2⟩
 obtain ⟨dst, op, type, pos, after, guard⟩ := o;cases op with
 | load t a =>
  refine via rfl (fun v h' hx => ?_);simp only [ZY] at hx;cases ht : E.ty t with
  | none => rw [ht] at hx; cases hx
  | some ty =>
   rw [ht] at hx;dsimp only at hx;cases hv : OC E a (gt a) with
   | false => rw [hv] at hx; cases hx
   | true =>
    rw [hv] at hx;simp only [cond_true] at hx;cases hne : E.opens with
    | true => rw [hne] at hx; exact Zm4 hx
    | false => rw [hne] at hx; exact Pd hx
 | alloc t =>
  refine via rfl (fun v h' hx => ?_);simp only [ZY] at hx
  split at hx
  ·simp only [Option.some.injEq, Prod.mk.injEq] at hx
   rw [← hx.2]; exact KX _ _
  ·cases hx
 | box t x =>
  refine via rfl (fun v h' hx => ?_);simp only [ZY] at hx
  split at hx
  ·rename_i ty c _ _
   cases hb : Nat.beq c.length ty.size with
   | false => rw [hb] at hx; cases hx
   | true =>
    rw [hb] at hx;simp only [cond_true, Option.some.injEq, Prod.mk.injEq] at hx;rw [← hx.2]; exact KX _ _
  ·cases hx
 | buildSlice t n ps =>
  refine via rfl (fun v h' hx => ?_);simp only [ZY] at hx;cases hn : E.nest with
  | true => rw [hn] at hx; exact ZaN hx
  | false => rw [hn] at hx; exact EA hx
 | makeSlice t n c =>
  refine via rfl (fun v h' hx => ?_);simp only [ZY] at hx;exact Zd6 hx
 | call c =>
  simp only [ZkA] at hl
  split at hl
  ·rename_i hc
   refine via (by simp only [FY, hc]) (fun v h' hx => ?_);simp only [ZY, hc] at hx
   split at hx
   ·simp only [Bool.not_eq_true', Bool.or_eq_false_iff] at hl
    rw [hl.1, hl.2] at hx;simp only [cond_false] at hx;cases hn : E.nest with
    | true => rw [hn] at hx; exact ZjV hx
    | false => rw [hn] at hx; exact LT hx
   ·cases hx
  ·rename_i f hc
   simp only [ZY, hc, hg.func] at he ⊢;cases ht : E.tbl f with
   | none => rw [ht] at hl; cases hl
   | some con =>
    rw [ht] at hl;exact Zm5 hE ht hl hk he
  ·cases hl
 | _ => cases hl
def VP (E : Env) (h h' : List Blk) : Prop := ∀ b c, pvB E b = true → nth h b = some (.vars c) → nth h' b = some (.vars c)
theorem VK.vp {h h' : List Blk} (hk : VK h h') : VP E h h' := fun b c _ hb => hk b c hb
theorem VP.refl (h : List Blk) : VP E h h := fun _ _ _ h => h
theorem VP.trans {h h' h'' : List Blk} (a : VP E h h') (b : VP E h' h'') : VP E h h'' := fun q c hp hq => b q c hp (a q c hp hq)
theorem Zlf {h : List Blk} {b : Nat} {nb : Blk} (hb : pvB E b = false) : VP E h (upd h b nb) := fun q c hp hq => by
 have hne : b ≠ q := fun e => by rw [e, hp] at hb; cases hb
 rw [ZM hne]; exact hq
mutual
theorem ZnP : ∀ (v : SV) {h h' : List Blk} {v' : SV}, pub h v = some (v', h') → VK h h'
 | .val t x, h, h', v', hp => by simp only [pub, Option.some.injEq, Prod.mk.injEq] at hp; rw [hp.2]; exact VK.refl _
 | .vl c0 t x, h, h', v', hp => by simp only [pub, Option.some.injEq, Prod.mk.injEq] at hp; rw [hp.2]; exact VK.refl _
 | .nil, h, h', v', hp => by simp only [pub, Option.some.injEq, Prod.mk.injEq] at hp; rw [hp.2]; exact VK.refl _
 | .own c u, h, h', v', hp => by
  simp only [pub] at hp
  split at hp
  ·rename_i hb
   split at hp
   ·simp only [Option.some.injEq, Prod.mk.injEq] at hp
    rw [← hp.2];exact ZiG (fun c e => by rw [hb] at e; cases e)
   ·cases hp
  ·cases hp
 | .sub c u off n, h, h', v', hp => by
  simp only [pub] at hp
  split at hp
  ·rename_i v1 t x hb
   split at hp
   ·cases hnu : t.noUq with
    | false => rw [hnu] at hp; cases hp
    | true =>
     rw [hnu] at hp;simp only [cond_true, Option.some.injEq, Prod.mk.injEq] at hp;rw [← hp.2];exact ZiG (fun c e => by rw [hb] at e; cases e)
   ·cases hp
  ·cases hp
 | .agg l, h, h', v', hp => by
  simp only [pub] at hp
  split at hp
  ·rename_i l' h1 hl
   simp only [Option.some.injEq, Prod.mk.injEq] at hp;rw [← hp.2];exact Zd7 l hl
  ·cases hp
 | .tup l, h, h', v', hp => by
  simp only [pub] at hp
  split at hp
  ·rename_i l' h1 hl
   simp only [Option.some.injEq, Prod.mk.injEq] at hp;rw [← hp.2];exact Zd7 l hl
  ·cases hp
 | .ptr _ _, _, _, _, hp => by simp [pub] at hp
 | .eptr _ _ _ _, _, _, _, hp => by simp [pub] at hp
 | .rptr _ _ _, _, _, _, hp => by simp [pub] at hp
 | .fn _ _, _, _, _, hp => by simp [pub] at hp
 | .fr _ _, _, _, _, hp => by simp [pub] at hp
 | .fv _ _, _, _, _, hp => by simp [pub] at hp
 | .io _ _, _, _, _, hp => by simp [pub] at hp
 | .mr _, _, _, _, hp => by simp [pub] at hp
 | .fp _, _, _, _, hp => by simp [pub] at hp
 | .dead, _, _, _, hp => by simp [pub] at hp
theorem Zd7 : ∀ (l : List SV) {h h' : List Blk} {l' : List SV}, Zhm h l = some (l', h') → VK h h'
 | [], h, h', v', hp => by simp only [Zhm, Option.some.injEq, Prod.mk.injEq] at hp; rw [hp.2]; exact VK.refl _
 | x :: l, h, h', v', hp => by
  simp only [Zhm] at hp
  split at hp
  ·rename_i x' h1 hx
   split at hp
   ·rename_i l1 h2 hl
    simp only [Option.some.injEq, Prod.mk.injEq] at hp;rw [← hp.2];exact (ZnP x hx).trans (Zd7 l hl)
   ·cases hp
  ·cases hp
end
theorem ZcF (v : SV) {h : List Blk} {p : Po} (hp : We h v = some p) : VK h p.heap := by
 cases v with
 | own b0 u =>
  simp only [We] at hp
  split at hp
  ·rename_i hb
   split at hp
   ·simp only [Option.some.injEq] at hp
    subst hp;exact ZiG (fun c e => by rw [hb] at e; cases e)
   ·cases hp
  ·cases hp
 | nil => simp only [We, Option.some.injEq] at hp; subst hp; exact VK.refl _
 | val t x =>
  simp only [We] at hp;cases hsl : t.hasSl with
  | true => rw [hsl] at hp; cases hp
  | false => rw [hsl] at hp; simp only [cond_false, Option.some.injEq] at hp; subst hp; exact VK.refl _
 | _ => simp [We] at hp
theorem ZcG : ∀ (l : List SV) {h : List Blk} {p : Po}, Qy h l = some p → VK h p.heap
 | [], h, p, hp => by simp only [Qy, Option.some.injEq] at hp; subst hp; exact VK.refl _
 | v :: l, h, p, hp => by
  simp only [Qy] at hp
  split at hp
  ·cases hp
  ·rename_i p1 hp1
   split at hp
   ·cases hp
   ·rename_i q hq
    simp only [Option.some.injEq] at hp;subst hp;exact (ZcF v hp1).trans (ZcG l (p := q) hq)
mutual
theorem Zox : ∀ (m : Mode) (v : SV) {h : List Blk} {p : Po}, Zck m v h = some p → p.boxes.all (VR E) = true → VP E h p.heap
 | .ro t, v, h, p, hp, _ => by
  simp only [Zck] at hp
  split at hp
  ·simp only [Option.some.injEq] at hp; subst hp; exact VP.refl _
  ·cases hp
 | .mv, v, h, p, hp, _ => by
  simp only [Zck] at hp
  split at hp
  ·rename_i v' h' hx
   simp only [Option.some.injEq] at hp;subst hp;exact (ZnP v hx).vp
  ·cases hp
 | .mref, v, h, p, hp, hf => by
  simp only [Zck] at hp
  split at hp
  ·rename_i b0
   split at hp
   ·rename_i cells hb0
    split at hp
    ·rename_i c' h' hx
     simp only [Option.some.injEq] at hp;subst hp;simp only [List.all_cons, List.all_nil, Bool.and_true, VR, Bool.not_eq_true'] at hf;exact (Zlf hf).trans (Zd7 cells hx).vp
    ·cases hp
   ·cases hp
  ·cases hp
 | .io, v, h, p, hp, _ => by
  simp only [Zck] at hp
  split at hp
  ·split at hp
   ·rename_i q hq
    simp only [Option.some.injEq] at hp;subst hp;exact (ZcG _ (p := q) hq).vp
   ·cases hp
  ·exact (ZcF v hp).vp
 | .fnm ms, v, h, p, hp, hf => by
  simp only [Zck] at hp
  split at hp
  ·rename_i f cap
   split at hp
   ·rename_i q hq
    simp only [Option.some.injEq] at hp;subst hp;exact Zd8 ms cap (p := q) hq hf
   ·cases hp
  ·cases hp
theorem Zd8 : ∀ (ms : List Mode) (vs : List SV) {h : List Blk} {p : Po}, Kc ms vs h = some p → p.boxes.all (VR E) = true → VP E h p.heap
 | [], vs, h, p, hp, _ => by
  simp only [Kc] at hp
  split at hp
  ·simp only [Option.some.injEq] at hp; subst hp; exact VP.refl _
  ·cases hp
 | m :: ms, vs, h, p, hp, hf => by
  simp only [Kc] at hp
  split at hp
  ·cases hp
  ·rename_i v vs'
   split at hp
   ·cases hp
   ·rename_i p1 hp1
    split at hp
    ·cases hp
    ·rename_i q hq
     simp only [Option.some.injEq] at hp;subst hp;simp only [List.all_append, Bool.and_eq_true] at hf;exact (Zox m v hp1 hf.1).trans (Zd8 ms vs' (p := q) hq hf.2)
end
theorem PX : ∀ (bs : List Lnt) (cs : List (List SV)) {h h' : List Blk}, W8 h bs cs = some h' → bs.all (VR E) = true → VP E h h'
 | [], [], h, h', hr, _ => by simp only [W8, Option.some.injEq] at hr; subst hr; exact VP.refl _
 | [], _ :: _, h, h', hr, _ => by simp [W8] at hr
 | .box b :: bs, [], h, h', hr, _ => by simp [W8] at hr
 | .arr b v t :: bs, [], h, h', hr, _ => by simp [W8] at hr
 | .box b :: bs, c :: cs, h, h', hr, hf => by
  simp only [W8] at hr;simp only [List.all_cons, Bool.and_eq_true, VR, Bool.not_eq_true'] at hf;obtain ⟨t, ht⟩ := Qu h c;have h1 : VP E h (Xl h c).2 := by rw [ht]; exact (KX _ _).vp
  exact (h1.trans (Zlf hf.1)).trans (PX bs cs hr hf.2)
 | .arr b v t :: bs, c :: cs, h, h', hr, hf => by
  simp only [W8] at hr;simp only [List.all_cons, Bool.and_eq_true, VR, Bool.not_eq_true'] at hf
  split at hr
  ·split at hr
   ·exact (Zlf hf.1).trans (PX bs cs hr hf.2)
   ·cases hr
  ·cases hr
theorem Zm6 (hE : ZfP E) {f : FuncId} {args : List SV} {h : List Blk} {K K' : SV → List Blk → Option R} {r : R} (hk : ∀ v h', VP E h h' → K v h' = some r → K' v h' = some r)
  (he : FJ E f args h K = some r) : FJ E f args h K' = some r := by
 unfold FJ at he ⊢;cases ht : E.tbl f with
 | none => rw [ht] at he; cases he
 | some con =>
  rw [ht] at he;dsimp only at he ⊢;cases hp : Kc con.modes args h with
  | none => rw [hp] at he; cases he
  | some p =>
   rw [hp] at he;dsimp only at he ⊢;cases hlv : (p.lent.all (fun b => WJ (nth p.heap b))) with
   | false => rw [hlv] at he; cases he
   | true =>
    rw [hlv] at he;simp only [cond_true] at he ⊢;cases hlf : p.boxes.all (VR E) with
    | false => rw [hlf] at he; cases he
    | true =>
     rw [hlf] at he;simp only [cond_true] at he ⊢;have h0 := Zd8 con.modes args hp hlf;have hkl : VK p.heap (UM p.heap p.lent) := Zd4 (fun b hb => by
      have := List.all_eq_true.1 hlv b hb;cases hx : nth p.heap b with
      | none => rw [hx] at this; cases this
      | some x =>
       rw [hx] at this;cases x with
       | arr v t y => exact ⟨v, t, y, rfl⟩
       | _ => cases this)
     refine hE.mono f con ht R _ _ _ _ (fun sv outs hx => ?_) he;unfold XX at hx ⊢;cases hc : (Zfi sv && outs.all AW && !(con.fresh && (hasRo sv || outs.any Xt))) with
     | false => rw [hc] at hx; cases hx
     | true =>
      rw [hc] at hx;simp only [cond_true] at hx ⊢;have hbase : VK p.heap (bif hasRo sv || outs.any Xt then UM p.heap p.lent else p.heap) := by
       cases (hasRo sv || outs.any Xt) with
       | true => exact hkl
       | false => exact VK.refl _
      generalize (bif hasRo sv || outs.any Xt then UM p.heap p.lent else p.heap) = hh at hx hbase ⊢;cases hr : W8 hh p.boxes outs with
      | none => rw [hr] at hx; cases hx
      | some h' =>
       rw [hr] at hx;dsimp only at hx ⊢;have h1 := PX (E := E) p.boxes outs hr hlf;obtain ⟨t, ht2⟩ := HT h' sv;have hv2 : VP E h (Uj h' sv).2 := by
        rw [ht2];exact ((h0.trans hbase.vp).trans h1).trans (KX _ _).vp
       cases hne : E.clo con.modes with
       | false =>
        rw [hne] at hx;exact hk _ _ hv2 hx
       | true =>
        rw [hne] at hx;exact LU _ (fun h2 v1 h3 => hk _ _ (hv2.trans v1.vp) h3) hx
theorem Zlg (hE : ZfP E) {o : Oper} {gt : Operand → SV} (hg : Gt gt) (hl : ZkB E o.op = true) {h : List Blk} {K K' : SV → List Blk → Option R} {r : R} (hk : ∀ v h', VP E h h' → K v h' = some r → K' v h' = some r)
  (he : ZY E o gt h K = some r) : ZY E o gt h K' = some r := by
 obtain ⟨dst, op, type, pos, after, guard⟩ := o;cases op with
 | call c =>
  simp only [ZkB] at hl
  split at hl
  ·rename_i f hc
   simp only [ZY, hc, hg.func] at he ⊢;exact Zm6 hE hk he
  ·cases hl
 | _ => cases hl
theorem ZiK {o : Op} (hv : Zmw E o = true) : vOp E o = true := by
 cases o with
 | load t a => simp only [Zmw, Bool.and_eq_true] at hv; exact hv.1
 | fieldAddr t a f => simp only [Zmw, Bool.and_eq_true] at hv; exact hv.1
 | nilCheck a => simp only [Zmw, Bool.and_eq_true] at hv; exact hv.1
 | _ => cases hv
theorem Jv {o : Op} (hv : vOp E o = true) : X4 E o = true := by
 cases o with
 | load t a => simp only [vOp] at hv; simp only [X4, hv, Bool.true_or]
 | fieldAddr t a f => rfl
 | nilCheck a => rfl
 | _ => cases hv
theorem ZpH {o : Oper} {gt : Operand → SV} (hv : vOp E o.op = true) {h h' : List Blk} (hk : VK h h') {v : SV} (he : ZY E o gt h (fun v _ => some v) = some v) : ZY E o gt h' (fun v _ => some v) = some v := by
 have hl := Jv hv;obtain ⟨dst, op, type, pos, after, guard⟩ := o;have ptr : ∀ a, Zkw E a = true → OC E a (gt a) = true → ∃ b off, gt a = .ptr b off := by
  intro a h1 h2;have h2 := ZnG h1 h2;cases hx : gt a with
  | ptr b off => exact ⟨b, off, rfl⟩
  | _ => rw [hx] at h2; cases h2
 cases op with
 | load t a =>
  simp only [ZY] at he ⊢;cases ht : E.ty t with
  | none => rw [ht] at he; cases he
  | some ty =>
   rw [ht] at he;dsimp only at he ⊢;cases hvt : OC E a (gt a) with
   | false => rw [hvt] at he; cases he
   | true =>
    rw [hvt] at he;simp only [cond_true] at he ⊢;have key : ∀ h : List Blk, (bif E.opens then LE h ty (gt a) (fun v _ => some v) else UV h ty (gt a) fun v => some v) = UV h ty (gt a) fun v => some v := fun h => Jt hl ht hvt;rw [key] at he ⊢;obtain ⟨b, off, hb⟩ := ptr a hv hvt;rw [hb] at he ⊢;simp only [UV] at he ⊢
    split at he
    ·rename_i c hc
     rw [hk b c hc];dsimp only;rw [Ju h' h];exact he
    ·cases he
 | fieldAddr t x f =>
  simp only [ZY, Wu] at he ⊢;cases hvt : OC E x (gt x) with
  | false => rw [hvt] at he; cases he
  | true =>
   rw [hvt] at he;simp only [cond_true] at he ⊢;obtain ⟨b, off, hb⟩ := ptr x hv hvt;rw [hb] at he ⊢
   split at he
   ·unfold fieldAt at he ⊢
    split at he
    ·dsimp only at he ⊢
     split at he
     ·rename_i c hc
      rw [hk b c hc]; exact he
     ·cases he
    ·cases he
   ·cases he
 | nilCheck x =>
  simp only [ZY, Vm] at he ⊢;cases hvt : OC E x (gt x) with
  | false => rw [hvt] at he; cases he
  | true =>
   rw [hvt] at he;simp only [cond_true] at he ⊢;obtain ⟨b, off, hb⟩ := ptr x hv hvt;rw [hb] at he ⊢;dsimp only at he ⊢
   split at he
   ·rename_i c hc
    rw [hk b c hc]; exact he
   ·cases he
 | _ => cases hv
theorem Zoy {o : Oper} {gt : Operand → SV} (hv' : Zmw E o.op = true) {h h' : List Blk} (hk : VP E h h') {v : SV} (he : ZY E o gt h (fun v _ => some v) = some v) : ZY E o gt h' (fun v _ => some v) = some v := by
 have hl := Jv (ZiK hv');obtain ⟨dst, op, type, pos, after, guard⟩ := o;have ptr : ∀ a, Zkw E a = true ∧ Zpy E a = true → OC E a (gt a) = true → ∃ b off, gt a = .ptr b off ∧ pvB E b = true := by
  intro a h1 h2;unfold OC at h2;rw [h1.1, h1.2] at h2;simp only [Bool.not_true, Bool.false_or, Bool.and_eq_true] at h2;cases hx : gt a with
  | ptr b off => rw [hx] at h2; exact ⟨b, off, rfl, h2.2⟩
  | _ => rw [hx] at h2; cases h2.1
 cases op with
 | load t a =>
  simp only [ZY] at he ⊢;cases ht : E.ty t with
  | none => rw [ht] at he; cases he
  | some ty =>
   rw [ht] at he;dsimp only at he ⊢;cases hvt : OC E a (gt a) with
   | false => rw [hvt] at he; cases he
   | true =>
    rw [hvt] at he;simp only [cond_true] at he ⊢;have key : ∀ h : List Blk, (bif E.opens then LE h ty (gt a) (fun v _ => some v) else UV h ty (gt a) fun v => some v) = UV h ty (gt a) fun v => some v := fun h => Jt hl ht hvt;rw [key] at he ⊢;obtain ⟨b, off, hb, hpv⟩ := ptr a (by simpa only [Zmw, Bool.and_eq_true] using hv') hvt;rw [hb] at he ⊢;simp only [UV] at he ⊢
    split at he
    ·rename_i c hc
     rw [hk b c hpv hc];dsimp only;rw [Ju h' h];exact he
    ·cases he
 | fieldAddr t x f =>
  simp only [ZY, Wu] at he ⊢;cases hvt : OC E x (gt x) with
  | false => rw [hvt] at he; cases he
  | true =>
   rw [hvt] at he;simp only [cond_true] at he ⊢;obtain ⟨b, off, hb, hpv⟩ := ptr x (by simpa only [Zmw, Bool.and_eq_true] using hv') hvt;rw [hb] at he ⊢
   split at he
   ·unfold fieldAt at he ⊢
    split at he
    ·dsimp only at he ⊢
     split at he
     ·rename_i c hc
      rw [hk b c hpv hc]; exact he
     ·cases he
    ·cases he
   ·cases he
 | nilCheck x =>
  simp only [ZY, Vm] at he ⊢;cases hvt : OC E x (gt x) with
  | false => rw [hvt] at he; cases he
  | true =>
   rw [hvt] at he;simp only [cond_true] at he ⊢;obtain ⟨b, off, hb, hpv⟩ := ptr x (by simpa only [Zmw, Bool.and_eq_true] using hv') hvt;rw [hb] at he ⊢;dsimp only at he ⊢
   split at he
   ·rename_i c hc
    rw [hk b c hpv hc]; exact he
   ·cases he
 | _ => cases hv'
end
end Go.Sx
