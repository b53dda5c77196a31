/- A function's evaluation is a contract: the end. -/
import Derived.Test.YtjefikelmfdffaaGreatDoorM7
import Derived.Laws.Sem
import Derived.Laws.StructEq
import Derived.KernelRfl
set_option linter.unusedVariables false
set_option linter.unusedSimpArgs false
namespace Go.Sx
open Go

theorem cellRes_ok {P : Program} {E : Env} (hE : EnvOk0 P E) {g : G} {rho : Rho} {s : St} {a : Act} {w : World} (hs : Sim g rho s a w) {x : Tmp} {t : TypeId} {v : SV} (h : cellRes E s x t = some v) :
    ∃ cv, ((do loadVar t (← asAddr (a.tmps.getD x undef))) : Sem Value).run P w = .ok cv w ∧ V (zOf g rho s.heap w) v cv := by
  unfold cellRes at h
  split at h
  · rename_i ty ht
    split at h
    · rename_i b off hg
      split at h
      · rename_i c hb
        obtain ⟨v', h1, h2, h3⟩ := loadC_ok h
        cases h1
        have hv := get_ok hs (.tmp x)
        rw [hg] at hv
        obtain ⟨blk, h4, h5⟩ := V_ptr (z := zOf g rho s.heap w) hv hb
        have hsim := hs.inv.sim b _ h4
        rw [hb] at hsim
        obtain ⟨blk', cs, e, k1, k2, k3⟩ := hsim
        cases k1
        have hcut := k3.cut off ty.size
        have h5 : a.tmps.getD x undef = .pointer (some ⟨blk, off, none⟩) := h5
        rw [h5]
        refine ⟨_, run_loadAt hE ht rfl (by rw [← hcut.length]; exact h2) ?_, h3 g w rho _ hs.inv hcut⟩
        have : Reads w ⟨blk, 0, none⟩ cs := by
          intro j c' hj
          have hk2 : w.heap[blk]? = _ := k2
          simp only [World.cell?, hk2, Option.isSome_none, Bool.false_eq_true, if_false, Nat.zero_add]
          simpa using hj
        simpa using this.part off ty.size
      · cases h
    · cases h
  · cases h

theorem resS_ok {P : Program} {E : Env} (hE : EnvOk0 P E) {g : G} {rho : Rho} {s : St} {a : Act} {w : World} (hs : Sim g rho s a w) (f : ResultVar → Sem Value) (f1 : ∀ t, f (.tmp t) = pure (a.tmps.getD t undef)) (f2 : ∀ x t, f (.cell x t) = (do loadVar t (← asAddr (a.tmps.getD x undef)))) :
    ∀ (l : List ResultVar) {vs : List SV}, resS E s l = some vs → ∃ cvs, (l.mapM f : Sem (List Value)).run P w = .ok cvs w ∧ VL (zOf g rho s.heap w) vs cvs
  | [], vs, h => by simp only [resS, Option.some.injEq] at h; subst h; exact ⟨[], rfl, by simp [VL]⟩
  | .tmp t :: l, vs, h => by
    simp only [resS] at h
    split at h
    · rename_i r hr
      simp only [Option.some.injEq] at h
      subst h
      obtain ⟨cvs, h1, h2⟩ := resS_ok hE hs f f1 f2 l hr
      refine ⟨a.tmps.getD t undef :: cvs, ?_, ?_⟩
      · rw [List.mapM_cons, f1, Sx.run_bind_ok (a := a.tmps.getD t undef) (w' := w) rfl, Sx.run_bind_ok h1]
        rfl
      · simp only [VL]
        exact ⟨a.tmps.getD t undef, _, rfl, get_ok hs (.tmp t), h2⟩
    · cases h
  | .cell x t :: l, vs, h => by
    simp only [resS] at h
    split at h
    · rename_i v hv
      split at h
      · rename_i r hr
        simp only [Option.some.injEq] at h
        subst h
        obtain ⟨cv, k1, k2⟩ := cellRes_ok hE hs hv
        obtain ⟨cvs, h1, h2⟩ := resS_ok hE hs f f1 f2 l hr
        refine ⟨cv :: cvs, ?_, ?_⟩
        · rw [List.mapM_cons, f2, Sx.run_bind_ok k1, Sx.run_bind_ok h1]
          rfl
        · simp only [VL]
          exact ⟨_, _, rfl, k2, h2⟩
      · cases h
    · cases h

def oneOrTupV : List Value → Value
  | [x] => x
  | l => .tuple l.toArray

theorem results_run {P : Program} {E : Env} (hE : EnvOk0 P E) {g : G} {rho : Rho} {s : St} {a : Act} {w : World} (hs : Sim g rho s a w) {fn : Func} {vs : List SV} (h : resS E s fn.results.toList = some vs) :
    ∃ cvs, (results fn a.tmps).run P w = .ok (oneOrTupV cvs) w ∧ VL (zOf g rho s.heap w) vs cvs := by
  have conv : ∀ (x : Sem (List Value)) (f : Array Value → Sem Value) (l : List Value), x.run P w = .ok l w → ((List.toArray <$> x) >>= f).run P w = (f l.toArray).run P w := by
    intro x f l hx
    rw [show (List.toArray <$> x) = (x >>= fun a => pure a.toArray) from (bind_pure_comp _ _).symm, bind_assoc, Sx.run_bind_ok hx]
    rfl
  unfold results
  rw [Array.mapM_eq_mapM_toList]
  obtain ⟨cvs, h1, h2⟩ := resS_ok hE hs (fun | .tmp t => pure (a.tmps.getD t undef) | .cell x t => do loadVar t (← asAddr (a.tmps.getD x undef))) (fun _ => rfl) (fun _ _ => rfl) fn.results.toList h
  refine ⟨cvs, ?_, h2⟩
  refine (conv _ _ _ h1).trans ?_
  match cvs with
  | [] => rfl
  | [x] => rfl
  | x :: y :: l => rfl

theorem oneOrTup_V {z : Z} {vs : List SV} {cs : List Value} (h : VL z vs cs) : V z (oneOrTup vs) (oneOrTupV cs) := by
  match vs, cs, h with
  | [], cs, h =>
    have := h.length
    have hc : cs = [] := List.length_eq_zero_iff.1 this.symm
    subst hc
    simp only [oneOrTup, V]
    exact ⟨[], rfl, h⟩
  | [v], cs, h =>
    simp only [VL] at h
    obtain ⟨c, r, rfl, h2, rfl⟩ := h
    exact h2
  | v :: v' :: l, cs, h =>
    have h0 := h
    simp only [VL] at h
    obtain ⟨c, r, rfl, h2, c', r', rfl, h3, h4⟩ := h
    simp only [oneOrTup, V]
    exact ⟨_, rfl, h0⟩

/-- what was lent lies where it lay -/
inductive BxA (rho : Rho) (h : List Blk) : List Bxk → List LC → Prop
  | nil : BxA rho h [] []
  | box {b blk : Nat} {bs : List Bxk} {blks : List LC} : Bx rho h b blk → BxA rho h bs blks → BxA rho h (.box b :: bs) (.box blk :: blks)
  | arr {b : Nat} {c : Value} {t : Ty} {bs : List Bxk} {blks : List LC} : Ax rho h b c t → BxA rho h bs blks → BxA rho h (.arr b t :: bs) (.arr c t :: blks)

theorem BxA.off {z : Z} {h' : List Blk} {bs : List Bxk} {blks : List LC} (a : BxA z.rho z.h bs blks) (o : Off z.h h') : BxA z.rho h' bs blks := by
  induction a with
  | nil => exact .nil
  | box h1 _ ih => exact .box (h1.le ((off_ext o).le _)) ih
  | arr h1 _ ih => exact .arr (h1.le ((off_ext o).le _)) ih

theorem finB_ok {im : Nat → Prop} {w : World} {rho : Rho} {boxes : List Bxk} {B : List LC} {h0 : List Blk} (hbx : BxA rho h0 boxes B) : ∀ (h : List Blk) {outs : List (List SV)}, IZ ⟨im, w, rho, h⟩ → BxA rho h boxes B → finB h boxes = some outs →
    ∃ S, Outs im w outs B S ∧ S.Nodup ∧ ∀ k ∈ S, ∃ b d, rho b = some d ∧ live (nth h b) ∧ k ∈ d.blks := by
  induction hbx with
  | nil =>
    intro h outs hi _ he
    simp only [finB, Option.some.injEq] at he
    subst he
    exact ⟨[], by simp only [Outs], by simp, by simp⟩
  | @arr b c t bs blks _ _ ih =>
    intro h outs hi ha he
    cases ha with
    | arr hb ha =>
      simp only [finB] at he
      split at he
      · rename_i v s x hc
        split at he
        · rename_i hv
          subst hv
          split at he
          · rename_i y hy
            split at he
            · rename_i r hr
              simp only [Option.some.injEq] at he
              subst he
              obtain ⟨e1, e2⟩ := toS_ok hy
              injection e1 with _ e1
              subst e1
              have e2 : x = y := e2
              subst e2
              rcases hb with hb | ⟨_, v', t', n', q1, q2⟩
              · rw [hc] at hb; cases hb
              · rw [hc] at q1
                simp only [infoO, Blk.info, Option.some.injEq, Prod.mk.injEq] at q1
                obtain ⟨rfl, rfl, rfl⟩ := q1
                obtain ⟨_, A, cap, S, hrho, rfl⟩ := q2 rfl
                have hs : SimB _ (.s A cap S) (nth h b) := hi.sim b _ hrho
                rw [hc] at hs
                obtain ⟨A', cap', S', k1, k2, k3⟩ := hs
                cases k1
                have hog := off_gone (h := h) (b := b) (by rw [hc]; exact lentO_arr)
                have hi2 := off_iz (z := ⟨im, w, rho, h⟩) hi hog
                obtain ⟨S2, n1, n2, n3⟩ := ih (upd h b .gone) hi2 (ha.off (z := ⟨im, w, rho, h⟩) hog) hr
                have hgone : nth (upd h b .gone) b = some .gone := nth_upd_eq hc
                have live1 : ∀ b', live (nth (upd h b .gone) b') → b' ≠ b ∧ live (nth h b') := by
                  intro b' hl'
                  refine ⟨fun e => ?_, off_live hog hl'⟩
                  subst e; rw [hgone] at hl'; exact hl'
                have hbl : live (nth h b) := by rw [hc]; trivial
                refine ⟨S ++ S2, ?_, List.nodup_append.2 ⟨hi.nodup b _ hrho hbl, n2, fun k hk k' hk' e => ?_⟩, fun k hk => ?_⟩
                · simp only [Outs]
                  exact ⟨x, S, S2, rfl, rfl, k2, n1⟩
                · subst e
                  obtain ⟨b', d', q1, q3, q5⟩ := n3 k hk'
                  have := live1 b' q3
                  exact hi.disj b' b d' _ q1 hrho this.2 hbl this.1 k q5 hk
                · rcases List.mem_append.1 hk with hk | hk
                  · exact ⟨b, _, hrho, hbl, hk⟩
                  · obtain ⟨b', d', q1, q3, q5⟩ := n3 k hk
                    exact ⟨b', d', q1, (live1 b' q3).2, q5⟩
            · cases he
          · cases he
        · cases he
      · cases he
  | @box b blk bs blks _ _ ih =>
    intro h outs hi ha he
    cases ha with
    | box hb ha =>
      simp only [finB] at he
      split at he
      · rename_i c hc
        split at he
        · rename_i c' h' hp
          split at he
          · rename_i r hr
            simp only [Option.some.injEq] at he
            subst he
            have hrho : rho b = some (.v blk) := by
              rcases hb with q | ⟨q, _⟩
              · rw [hc] at q; cases q
              · exact q
            have hs : SimB _ (.v blk) (nth h b) := hi.sim b _ hrho
            rw [hc] at hs
            obtain ⟨blk', cs, e, k1, k2, k3⟩ := hs
            cases k1
            have hog := off_gone (h := h) (b := b) (by rw [hc]; exact lentO_vars)
            have hi2 := off_iz (z := ⟨im, w, rho, h⟩) hi hog
            obtain ⟨S1, m1, m2, m3, m4⟩ := pubL_ok (z := ⟨im, w, rho, upd h b .gone⟩) hi2 rfl c cs c' h' (VL.ext (off_ext (z := ⟨im, w, rho, h⟩) hog) _ _ k3) hp
            have hi3 := off_iz (z := ⟨im, w, rho, upd h b .gone⟩) hi2 m3
            have hb3 : BxA rho h' bs blks := BxA.off (z := ⟨im, w, rho, upd h b .gone⟩) (ha.off (z := ⟨im, w, rho, h⟩) hog) m3
            obtain ⟨S2, n1, n2, n3⟩ := ih h' hi3 hb3 hr
            have hgone : nth (upd h b .gone) b = some .gone := nth_upd_eq hc
            have live1 : ∀ b', live (nth (upd h b .gone) b') → b' ≠ b ∧ live (nth h b') := by
              intro b' hl'
              refine ⟨fun e => ?_, off_live hog hl'⟩
              subst e; rw [hgone] at hl'; exact hl'
            have live2 : ∀ b', live (nth h' b') → live (nth (upd h b .gone) b') := fun b' hl' => off_live m3 hl'
            have hbl : live (nth h b) := by rw [hc]; trivial
            refine ⟨blk :: (S1 ++ S2), ?_, ?_, ?_⟩
            · simp only [Outs]
              exact ⟨cs, e, S1, S2, rfl, k2, m1, n1⟩
            · refine List.nodup_cons.2 ⟨fun hm => ?_, List.nodup_append.2 ⟨m2, n2, fun x hx y hy e => ?_⟩⟩
              · rcases List.mem_append.1 hm with hm | hm
                · obtain ⟨b', d', q1, q2, _, _, q5⟩ := m4 blk hm
                  have := live1 b' q2
                  exact hi.disj b' b d' _ q1 hrho this.2 hbl this.1 blk q5 (by simp [D.blks])
                · obtain ⟨b', d', q1, q2, q5⟩ := n3 blk hm
                  have := live1 b' (live2 b' q2)
                  exact hi.disj b' b d' _ q1 hrho this.2 hbl this.1 blk q5 (by simp [D.blks])
              · subst e
                obtain ⟨b1, d1, q1, q2, q3, q4, q5⟩ := m4 x hx
                obtain ⟨b2, d2, r1, r2, r5⟩ := n3 x hy
                have hne : b1 ≠ b2 := by
                  intro e
                  subst e
                  rcases q3 with q3 | q3
                  · rw [show nth h' b1 = some .gone from q3] at r2; exact r2
                  · exact q4 (pubL_lent c hp b1 q3)
                exact hi.disj b1 b2 d1 d2 q1 r1 (live1 b1 q2).2 (live1 b2 (live2 b2 r2)).2 hne x q5 r5
            · intro k hk
              rcases List.mem_cons.1 hk with e | hk
              · subst e
                exact ⟨b, _, hrho, hbl, by simp [D.blks]⟩
              · rcases List.mem_append.1 hk with hk | hk
                · obtain ⟨b', d', q1, q2, _, _, q5⟩ := m4 k hk
                  exact ⟨b', d', q1, (live1 b' q2).2, q5⟩
                · obtain ⟨b', d', q1, q2, q5⟩ := n3 k hk
                  exact ⟨b', d', q1, (live1 b' (live2 b' q2)).2, q5⟩
          · cases he
        · cases he
      · cases he

theorem packO_lent : ∀ (t : Ty) {h h' : List Blk} {l l' : List SV} {x : t.den}, packO h t l = some (x, l', h') → ∀ b, lentO (nth h' b) → lentO (nth h b) := by
  intro t
  have base : ∀ {t : Ty} {h h' : List Blk} {l l' : List SV} {x : t.den}, ((packOC h t l).map fun q => (q.1, q.2, h)) = some (x, l', h') → ∀ b, lentO (nth h' b) → lentO (nth h b) := by
    intro t h h' l l' x hp b hb
    simp only [Option.map_eq_some_iff, Prod.mk.injEq] at hp
    obtain ⟨_, _, _, _, e⟩ := hp
    rwa [e]
  induction t with
  | int k => exact fun hp => base (t := .int k) hp
  | bool => exact fun hp => base (t := .bool) hp
  | str => exact fun hp => base (t := .str) hp
  | unit =>
    intro h h' l l' x hp b hb
    simp only [packO, Option.some.injEq, Prod.mk.injEq] at hp
    rwa [hp.2.2]
  | pair a c iha ihc =>
    intro h h' l l' x hp b hb
    simp only [packO] at hp
    split at hp
    · rename_i y l1 h1 hy
      split at hp
      · rename_i y2 l2 h2 hy2
        simp only [Option.some.injEq, Prod.mk.injEq] at hp
        exact iha hy b (ihc hy2 b (hp.2.2 ▸ hb))
      · cases hp
    · cases hp
  | sl u a _ =>
    cases u with
    | false =>
      intro h h' l l' x hp
      exact base (t := .sl false a) (by simpa only [packO, cond_false] using hp)
    | true =>
      intro h h' l l' x hp b hb
      simp only [packO, cond_true] at hp
      have hg : ∀ c, lentO (nth (upd h c .gone) b) → lentO (nth h b) := fun c hb => by
        rcases nth_upd_cases h c b Blk.gone with ⟨_, h2, _⟩ | h2
        · rw [h2] at hb; exact absurd hb lentO_gone
        · rwa [h2] at hb
      split at hp
      · split at hp
        · split at hp
          · simp only [Option.some.injEq, Prod.mk.injEq] at hp
            rwa [hp.2.2]
          · simp only [Option.some.injEq, Prod.mk.injEq] at hp
            rw [← hp.2.2] at hb
            exact hg _ hb
          · simp only [Option.some.injEq, Prod.mk.injEq] at hp
            rw [← hp.2.2] at hb
            exact hg _ hb
          · cases hp
        · cases hp
      · cases hp

theorem pubT_lent {h h' : List Blk} {t : Ty} {v v' : SV} (hp : pubT h t v = some (v', h')) (b : Nat) (hb : lentO (nth h' b)) : lentO (nth h b) := by
  unfold pubT at hp
  cases hg : ((aggV v == t.isAgg) && t.okU) with
  | false => rw [hg] at hp; cases hp
  | true =>
    rw [hg] at hp
    simp only [cond_true] at hp
    split at hp
    · cases hp
    · split at hp
      · rename_i hx
        simp only [Option.some.injEq, Prod.mk.injEq] at hp
        exact packO_lent t hx b (hp.2 ▸ hb)
      · cases hp

theorem pubR_lent : ∀ (ts : List (Option Ty)) (l : List SV) {h h' : List Blk} {l' : List SV}, pubR h ts l = some (l', h') → ∀ b, lentO (nth h' b) → lentO (nth h b)
  | [], [], h, h', l', hp, b, hb => by simp only [pubR, Option.some.injEq, Prod.mk.injEq] at hp; rwa [hp.2]
  | [], _ :: _, h, h', l', hp, b, hb => by simp [pubR] at hp
  | none :: _, [], h, h', l', hp, b, hb => by simp [pubR] at hp
  | some _ :: _, [], h, h', l', hp, b, hb => by simp [pubR] at hp
  | some t :: ts, v :: l, h, h', l', hp, b, hb => by
    simp only [pubR] at hp
    split at hp
    · rename_i v1 h1 hv
      split at hp
      · rename_i l1 h2 hl
        simp only [Option.some.injEq, Prod.mk.injEq] at hp
        exact pubT_lent hv b (pubR_lent ts l hl b (hp.2 ▸ hb))
      · cases hp
    · cases hp
  | none :: ts, v :: l, h, h', l', hp, b, hb => by
    simp only [pubR] at hp
    split at hp
    · rename_i v1 h1 hv
      split at hp
      · rename_i l1 h2 hl
        simp only [Option.some.injEq, Prod.mk.injEq] at hp
        exact pub_lent v hv b (pubR_lent ts l hl b (hp.2 ▸ hb))
      · cases hp
    · cases hp

theorem pubR_ok : ∀ (ts : List (Option Ty)) (l : List SV) {z : Z} (_ : IZ z) (cs : List Value) (l' : List SV) (h' : List Blk), VL z l cs → pubR z.h ts l = some (l', h') →
    ∃ S, CVL z.im z.w l' cs S [] ∧ S.Nodup ∧ Off z.h h' ∧ Went z.rho z.h h' S
  | [], [], z, hi, cs, l', h', hv, hp => by
    simp only [pubR, Option.some.injEq, Prod.mk.injEq] at hp
    obtain ⟨rfl, rfl⟩ := hp
    simp only [VL] at hv
    exact ⟨[], by simp only [CVL]; exact ⟨hv, trivial, trivial⟩, by simp, Off.refl _, by intro k hk; simp at hk⟩
  | [], _ :: _, z, hi, cs, l', h', hv, hp => by simp [pubR] at hp
  | none :: _, [], z, hi, cs, l', h', hv, hp => by simp [pubR] at hp
  | some _ :: _, [], z, hi, cs, l', h', hv, hp => by simp [pubR] at hp
  | ot :: ts, x :: l, z, hi, cs, l', h', hv, hp => by
    simp only [VL] at hv
    obtain ⟨c, r, rfl, hv1, hv2⟩ := hv
    have first : ∃ x' h1 l1, (∃ S, CV z.im z.w x' c S [] ∧ S.Nodup ∧ Off z.h h1 ∧ Went z.rho z.h h1 S) ∧ pubR h1 ts l = some (l1, h') ∧ l' = x' :: l1 := by
      cases ot with
      | some t =>
        simp only [pubR] at hp
        split at hp
        · rename_i v1 h1 hv
          split at hp
          · rename_i l1 h2 hl
            simp only [Option.some.injEq, Prod.mk.injEq] at hp
            obtain ⟨rfl, rfl⟩ := hp
            exact ⟨v1, h1, l1, pubT_ok hi hv1 hv, hl, rfl⟩
          · cases hp
        · cases hp
      | none =>
        simp only [pubR] at hp
        split at hp
        · rename_i v1 h1 hv
          split at hp
          · rename_i l1 h2 hl
            simp only [Option.some.injEq, Prod.mk.injEq] at hp
            obtain ⟨rfl, rfl⟩ := hp
            exact ⟨v1, h1, l1, pub_ok hi rfl _ _ _ _ hv1 hv, hl, rfl⟩
          · cases hp
        · cases hp
    obtain ⟨x', h1, l1, ⟨S1, a1, a2, a3, a4⟩, hl, rfl⟩ := first
    obtain ⟨S2, b1, b2, b3, b4⟩ := pubR_ok ts l (z := z.withH h1) (off_iz hi a3) r l1 h' (VL.ext (off_ext a3) _ _ hv2) hl
    have hap := Went.apart hi a3 a4 b4
    refine ⟨S1 ++ S2, ?_, List.nodup_append.2 ⟨a2, b2, fun a ha b hb e => hap a ha (e ▸ hb)⟩, a3.trans b3, ?_⟩
    · simp only [CVL]
      exact ⟨c, r, S1, S2, [], [], rfl, rfl, rfl, a1, b1⟩
    · intro k hk
      rcases List.mem_append.1 hk with hk | hk
      · exact (a4.later b3) k hk
      · exact (Went.earlier a3 b4) k hk

theorem oneOrTup_CV {im : Nat → Prop} {w : World} {vs : List SV} {cs : List Value} {S : List Nat} (h : CVL im w vs cs S []) : CV im w (oneOrTup vs) (oneOrTupV cs) S [] := by
  match vs, cs, h with
  | [], cs, h =>
    simp only [CVL] at h
    obtain ⟨rfl, rfl, _⟩ := h
    simp only [oneOrTup, CV]
    exact ⟨[], rfl, by simp only [CVL]; exact ⟨trivial, trivial, trivial⟩⟩
  | [v], cs, h =>
    simp only [CVL] at h
    obtain ⟨c, r, S1, S2, B1, B2, rfl, rfl, hB, h4, rfl, rfl, rfl⟩ := h
    simp only [List.append_nil] at hB ⊢
    subst hB
    exact h4
  | v :: v' :: l, cs, h =>
    have h0 := h
    simp only [CVL] at h
    obtain ⟨c, r, S1, S2, B1, B2, rfl, rfl, hB, h4, c', r', S3, S4, B3, B4, rfl, rfl, hB2, h5, h6⟩ := h
    simp only [oneOrTup, CV]
    exact ⟨_, rfl, h0⟩

mutual
def mrs : SV → Nat
  | .mr _ => 1
  | .io _ _ => 1
  | .fn _ l => mrsL l
  | .agg l => mrsL l
  | .tup l => mrsL l
  | _ => 0
def mrsL : List SV → Nat
  | [] => 0
  | x :: l => mrs x + mrsL l
end

mutual
theorem CV.mrs {im : Nat → Prop} {w : World} : ∀ (v : SV) {c : Value} {S : List Nat} {B : List LC}, CV im w v c S B → B.length = Sx.mrs v
  | .val t x, _, _, _, h => by simp only [CV] at h; rw [h.2.1]; rfl
  | .nil, _, _, _, h => by simp only [CV] at h; rw [h.2.1]; rfl
  | .fr t x, _, _, _, h => by simp only [CV] at h; rw [h.1]; rfl
  | .fv t x, _, _, _, h => by simp only [CV] at h; rw [h.1]; rfl
  | .io t x, _, _, _, h => by simp only [CV] at h; rw [h.1]; rfl
  | .agg l, _, _, _, h => by simp only [CV] at h; obtain ⟨cs, _, h2⟩ := h; exact CVL.mrs l h2
  | .tup l, _, _, _, h => by simp only [CV] at h; obtain ⟨cs, _, h2⟩ := h; exact CVL.mrs l h2
  | .fn f l, _, _, _, h => by simp only [CV] at h; obtain ⟨cs, _, h2⟩ := h; exact CVL.mrs l h2
  | .mr l, _, _, _, h => by
    simp only [CV] at h
    obtain ⟨blk, cs, e, S', _, _, h3, _, _⟩ := h
    rw [h3]; rfl
  | .own _ _, _, _, _, h => by simp only [CV] at h
  | .sub _ _ _ _, _, _, _, h => by simp only [CV] at h
  | .ptr _ _, _, _, _, h => by simp only [CV] at h
  | .eptr _ _ _ _, _, _, _, h => by simp only [CV] at h
  | .rptr _ _ _, _, _, _, h => by simp only [CV] at h
  | .dead, _, _, _, h => by simp only [CV] at h; rw [h.2]; rfl
theorem CVL.mrs {im : Nat → Prop} {w : World} : ∀ (l : List SV) {c : List Value} {S : List Nat} {B : List LC}, CVL im w l c S B → B.length = Sx.mrsL l
  | [], _, _, _, h => by simp only [CVL] at h; rw [h.2.2]; rfl
  | x :: l, _, _, _, h => by
    simp only [CVL] at h
    obtain ⟨c1, r, S1, S2, B1, B2, h1, h2, h3, h4, h5⟩ := h
    rw [h3, List.length_append, CV.mrs x h4, CVL.mrs l h5]; rfl
end

/-- where a function begins -/
def startSt (ntmps : Nat) (args : List SV) : St := ⟨(enterL [] args).1 ++ List.replicate (ntmps - args.length) (.tup []), (enterL [] args).2.1⟩

def boxesOk (args : List SV) (kp : List (Nat × (List Keep × List BK))) : Bool :=
  Nat.beq (enterL [] args).2.2.length (mrsL args) && (enterL [] args).2.2.all fun b => kp.all fun q => Nat.blt b.n q.2.2.length

theorem VL_replicate {z : Z} : ∀ n, VL z (List.replicate n (.tup [])) (List.replicate n undef)
  | 0 => by simp [VL]
  | n + 1 => by simp only [List.replicate_succ, VL]; exact ⟨_, _, rfl, V_undef, VL_replicate n⟩

theorem assoc_mem {β : Type _} : ∀ {l : List (Nat × β)} {i : Nat} {b : β}, assoc l i = some b → (i, b) ∈ l
  | [], _, _, h => by simp [assoc] at h
  | (j, c) :: l, i, b, h => by
    simp only [assoc] at h
    cases hb : Nat.beq j i with
    | true =>
      rw [hb] at h
      simp only [cond_true, Option.some.injEq] at h
      subst h
      rw [Nat.eq_of_beq_eq_true hb]; simp
    | false => rw [hb] at h; exact List.mem_cons_of_mem _ (assoc_mem h)

theorem CVL_length {im : Nat → Prop} {w : World} : ∀ (l : List SV) {c : List Value} {S : List Nat} {B : List LC}, CVL im w l c S B → l.length = c.length
  | [], _, _, _, h => by simp only [CVL] at h; rw [h.1]; rfl
  | x :: l, _, _, _, h => by
    simp only [CVL] at h
    obtain ⟨c1, r, S1, S2, B1, B2, h1, h2, h3, h4, h5⟩ := h
    rw [h1, List.length_cons, List.length_cons, CVL_length l h5]

theorem Outs.mono {im im' : Nat → Prop} {w : World} (hi : ∀ k, im k → im' k) : ∀ (cs : List (List SV)) (bs : List LC) (S : List Nat), Outs im w cs bs S → Outs im' w cs bs S
  | [], [], S, h => h
  | [], _ :: _, S, h => h
  | _ :: _, [], S, h => h
  | c :: cs, .box b :: bs, S, h => by
    simp only [Outs] at h ⊢
    obtain ⟨cells, e, S1, S2, h1, h2, h3, h4⟩ := h
    exact ⟨cells, e, S1, S2, h1, h2, CVL.mono hi c cells S1 [] h3, Outs.mono hi cs bs S2 h4⟩
  | c :: cs, .arr a t :: bs, S, h => by
    simp only [Outs] at h ⊢
    obtain ⟨x, S1, S2, h1, h2, h3, h4⟩ := h
    exact ⟨x, S1, S2, h1, h2, h3.mono (fun k hk => ⟨hi k hk, rfl⟩) _ _ _ _ _ (fun _ _ => rfl), Outs.mono hi cs bs S2 h4⟩

/-- the lent variables, by place -/
def bxG : List Bxk → List LC → List (Nat × Nat)
  | .box b :: bs, .box blk :: B => (b, blk) :: bxG bs B
  | _ :: bs, _ :: B => bxG bs B
  | _, _ => []
/-- the lent lists, by place -/
def axG : List Bxk → List LC → List (Nat × (Value × Ty))
  | .arr b t :: bs, .arr c _ :: B => (b, (c, t)) :: axG bs B
  | _ :: bs, _ :: B => axG bs B
  | _, _ => []

theorem bxG_mem : ∀ (bs : List Bxk) (B : List LC) (q : Nat × Nat), q ∈ bxG bs B → ∃ b ∈ bs, b.n = q.1
  | [], _, q, h => by simp [bxG] at h
  | .box b :: bs, [], q, h => by simp [bxG] at h
  | .arr b t :: bs, [], q, h => by simp [bxG] at h
  | .box b :: bs, .box blk :: B, q, h => by
    simp only [bxG, List.mem_cons] at h
    rcases h with e | h
    · subst e; exact ⟨.box b, by simp, rfl⟩
    · obtain ⟨x, h1, h2⟩ := bxG_mem bs B q h; exact ⟨x, by simp [h1], h2⟩
  | .box b :: bs, .arr _ _ :: B, q, h => by
    simp only [bxG] at h
    obtain ⟨x, h1, h2⟩ := bxG_mem bs B q h; exact ⟨x, by simp [h1], h2⟩
  | .arr b t :: bs, y :: B, q, h => by
    simp only [bxG] at h
    obtain ⟨x, h1, h2⟩ := bxG_mem bs B q h; exact ⟨x, by simp [h1], h2⟩
theorem axG_mem : ∀ (bs : List Bxk) (B : List LC) (q : Nat × (Value × Ty)), q ∈ axG bs B → ∃ b ∈ bs, b.n = q.1
  | [], _, q, h => by simp [axG] at h
  | .box b :: bs, [], q, h => by simp [axG] at h
  | .arr b t :: bs, [], q, h => by simp [axG] at h
  | .arr b t :: bs, .arr c _ :: B, q, h => by
    simp only [axG, List.mem_cons] at h
    rcases h with e | h
    · subst e; exact ⟨.arr b t, by simp, rfl⟩
    · obtain ⟨x, h1, h2⟩ := axG_mem bs B q h; exact ⟨x, by simp [h1], h2⟩
  | .arr b t :: bs, .box _ :: B, q, h => by
    simp only [axG] at h
    obtain ⟨x, h1, h2⟩ := axG_mem bs B q h; exact ⟨x, by simp [h1], h2⟩
  | .box b :: bs, y :: B, q, h => by
    simp only [axG] at h
    obtain ⟨x, h1, h2⟩ := axG_mem bs B q h; exact ⟨x, by simp [h1], h2⟩

theorem Bxs.bxG {rho : Rho} {h : List Blk} {bs : List Bxk} {B : List LC} (a : Bxs rho h bs B) : ∀ q ∈ Sx.bxG bs B, Bx rho h q.1 q.2 := by
  induction a with
  | nil => intro q hq; simp [Sx.bxG] at hq
  | cons h1 h2 _ ih =>
    intro q hq
    simp only [Sx.bxG, List.mem_cons] at hq
    rcases hq with e | hq
    · subst e; exact .inr ⟨h1, .inl h2⟩
    · exact ih q hq
  | arr h1 h2 _ ih => intro q hq; exact ih q (by simpa only [Sx.bxG] using hq)
theorem Bxs.axG {rho : Rho} {h : List Blk} {bs : List Bxk} {B : List LC} (a : Bxs rho h bs B) : ∀ q ∈ Sx.axG bs B, Ax rho h q.1 q.2.1 q.2.2 := by
  induction a with
  | nil => intro q hq; simp [Sx.axG] at hq
  | cons h1 h2 _ ih => intro q hq; exact ih q (by simpa only [Sx.axG] using hq)
  | arr h1 h2 _ ih =>
    intro q hq
    simp only [Sx.axG, List.mem_cons] at hq
    rcases hq with e | hq
    · subst e
      refine .inr ⟨by rw [h2]; rfl, 0, _, _, by rw [h2]; rfl, fun _ => ⟨rfl, _, _, _, h1, rfl⟩⟩
    · exact ih q hq
theorem Bxs.later2 {rho rho' : Rho} {h h' : List Blk} {bs : List Bxk} {B : List LC} (a : Bxs rho h bs B) (hb : ∀ q ∈ Sx.bxG bs B, Bx rho' h' q.1 q.2) (hx : ∀ q ∈ Sx.axG bs B, Ax rho' h' q.1 q.2.1 q.2.2) : BxA rho' h' bs B := by
  induction a with
  | nil => exact .nil
  | cons h1 h2 _ ih => exact .box (hb (_, _) (by simp [Sx.bxG])) (ih (fun q hq => hb q (by simp [Sx.bxG, hq])) (fun q hq => hx q (by simpa only [Sx.axG] using hq)))
  | arr h1 h2 _ ih => exact .arr (hx (_, (_, _)) (by simp [Sx.axG])) (ih (fun q hq => hb q (by simpa only [Sx.bxG] using hq)) (fun q hq => hx q (by simp [Sx.axG, hq])))

/-- what answers as one thing answers as another, too -/
def ResC (r r' : Res) : Prop := (∀ im w c S, CV im w r.1 c S [] → CV im w r'.1 c S []) ∧ ∀ im w B S, Outs im w r.2 B S → Outs im w r'.2 B S
theorem ResC.of_eq {r r' : Res} (h : r = r') : ResC r r' := by subst h; exact ⟨fun _ _ _ _ h => h, fun _ _ _ _ h => h⟩

theorem fn_ok {P : Program} {E : Env} {kp : List (Nat × (List Keep × List BK))} {rt : List (Option Ty)} {X : Type} {K0 : Ex → St → Option X} {x0 : X} (hE : EnvOk P E) {f : FuncId} {fn : Func} {body : Code}
    (hf : P.funcs[f]? = some fn) (hb : fn.body = some body) (hn : noDup (idsOf kp body) = true) {args : List SV} (hbx : boxesOk args kp = true) (N : Nat) {sv : SV} {outs : List (List SV)}
    (hK : ∀ e s, K0 e s = some x0 → ∃ r, finK E rt fn.results.toList (enterL [] args).2.2 e s = some r ∧ ResC r (sv, outs)) (hev : ev E (Lr E kp body K0 N) body (startSt fn.ntmps args) K0 = some x0) : CallOk P f args sv outs := by
  intro p w cargs S B hcv hnd hS hp htb
  simp only [boxesOk, Bool.and_eq_true] at hbx
  have hlen : (enterL [] args).2.2.length = B.length := (Nat.eq_of_beq_eq_true hbx.1).trans (CVL.mrs args hcv).symm
  have hz0 : IZ (⟨p, w, fun _ => none, []⟩ : Z) := ⟨fun b d h => (by cases h), fun b b' d d' h => (by cases h), fun b d h => (by cases h), fun b d h => (by cases h)⟩
  obtain ⟨rho1, g1, v1, x1⟩ := enterL_ok args (z := ⟨p, w, fun _ => none, []⟩) hz0 cargs S B hcv hnd (fun k hk => ⟨(hS k hk).1, fun b d h => (by cases h)⟩) hlen
  let g : G := ⟨p, S, w, bxG (enterL [] args).2.2 B, axG (enterL [] args).2.2 B⟩
  let h0 : List Blk := (enterL [] args).2.1
  have hto : Ext (⟨p, w, rho1, h0⟩ : Z) (zOf g rho1 h0 w) := by
    refine ⟨fun k hk => ⟨⟨.inl hk, hp k hk, fun ⟨b, d, o1, o2, o3⟩ => g1.iz.sep b d o1 o2 k o3 hk⟩, rfl⟩, fun b => BlkLe.refl _ _⟩
  have hinv : Inv g rho1 h0 w := by
    refine ⟨fun b d hd => (g1.iz.sim b d hd).ext hto (fun _ _ _ => rfl), g1.iz.disj, g1.iz.nodup, fun b d hd hl k hk => ?_, Kept.refl _ _, Need.ext (z := ⟨p, w, rho1, h0⟩) htb hto⟩
    have := g1.new b d (Nat.zero_le _) hd hl k hk
    exact ⟨(hS k this).2, .inl this⟩
  have hszc : cargs.toArray.size = args.length := by simpa using (CVL_length args hcv).symm
  have hsim : Sim g rho1 (startSt fn.ntmps args) { tmps := cargs.toArray ++ Array.replicate (fn.ntmps - cargs.toArray.size) undef, defers := [] } w := by
    refine ⟨hinv, ?_, rfl, x1.bxG, x1.axG⟩
    rw [hszc]
    simp only [startSt, Array.toList_append, Array.toList_replicate]
    exact (VL.ext hto _ _ v1).append (VL_replicate _)
  have hall : ∀ b ∈ (enterL [] args).2.2, ∀ i k, assoc kp i = some k → b.n < k.2.length := by
    intro b hb i k hk
    have h2 := List.all_eq_true.1 (List.all_eq_true.1 hbx.2 b hb) (i, k) (assoc_mem hk)
    simp only [Nat.blt, Nat.ble_eq] at h2
    omega
  have hB : ∀ i l, tabR E kp body K0 i = some l → (∀ q ∈ g.bx, q.1 < l.blks.length) ∧ ∀ q ∈ g.ax, q.1 < l.blks.length := by
    intro i l hl
    unfold tabR at hl
    cases hk : assoc kp i with
    | none => rw [hk] at hl; cases hl
    | some k =>
      rw [hk] at hl
      simp only [Option.some.injEq] at hl
      subst hl
      refine ⟨fun q hq => ?_, fun q hq => ?_⟩
      · obtain ⟨b, h1, h2⟩ := bxG_mem _ _ q hq
        rw [← h2]; exact hall b h1 i k hk
      · obtain ⟨b, h1, h2⟩ := axG_mem _ _ q hq
        rw [← h2]; exact hall b h1 i k hk
  refine calls_of_wp hf hb ?_
  refine ev_ok hE hB (r := x0) body (fun _ => K0) _ N (startSt fn.ntmps args) rho1 _ w (loopsEq E kp body _ (noDup_ok hn)) ?_ (by rw [tabR_at]; exact hev) hsim
  intro m _ e s' he0 rho a w' hs
  obtain ⟨⟨sv1, outs1⟩, he, hres⟩ := hK e s' he0
  have hfin : (e = .normal ∨ e = .ret) ∧ fin E rt fn.results.toList (enterL [] args).2.2 s' = some (sv1, outs1) := by
    cases e with
    | normal => exact ⟨.inl rfl, he⟩
    | ret => exact ⟨.inr rfl, he⟩
    | exit id => cases he
  obtain ⟨hee, hfin⟩ := hfin
  have post : a.defers = [] ∧ ∃ v, (results fn a.tmps).run P w' = .ok v w' ∧ ∃ cr S1 S2, Ending.returned v = .returned cr ∧ (S1 ++ S2).Nodup ∧ (∀ k ∈ S1 ++ S2, (k ∈ S ∨ w.heap.size ≤ k) ∧ k < w'.heap.size) ∧ Kept w w' S ∧
      CV (after p S (S1 ++ S2) w w') w' sv cr S1 [] ∧ Outs (after p S (S1 ++ S2) w w') w' outs B S2 := by
    refine ⟨hs.defers, ?_⟩
    unfold fin at hfin
    split at hfin
    · cases hfin
    · rename_i vs hvs
      split at hfin
      · cases hfin
      · rename_i v' h1 hpub
        split at hfin
        · cases hfin
        · rename_i o ho
          simp only [Option.some.injEq, Prod.mk.injEq] at hfin
          obtain ⟨rfl, rfl⟩ := hfin
          obtain ⟨cvs, t1, hvl⟩ := results_run hE.toEnvOk0 hs hvs
          have hiz := hs.inv.iz
          obtain ⟨S1, m1, m2, m3, m4⟩ := pubR_ok rt vs hiz cvs v' h1 hvl hpub
          have hi1 := off_iz hiz m3
          have hbxa : BxA rho s'.heap (enterL [] args).2.2 B := x1.later2 hs.bx hs.ax
          have hbxa1 : BxA rho h1 (enterL [] args).2.2 B := BxA.off (z := zOf g rho s'.heap w') hbxa m3
          obtain ⟨S2, n1, n2, n3⟩ := finB_ok (im := Im g rho s'.heap w') (w := w') (rho := rho) hbxa1 h1 hi1 hbxa1 ho
          have hlive1 : ∀ b, live (nth h1 b) → live (nth s'.heap b) := fun b hl => off_live m3 hl
          have hsub : ∀ k ∈ S1 ++ S2, ∃ b d, rho b = some d ∧ live (nth s'.heap b) ∧ k ∈ d.blks := by
            intro k hk
            rcases List.mem_append.1 hk with hk | hk
            · obtain ⟨b, d, q1, q2, _, _, q5⟩ := m4 k hk
              exact ⟨b, d, q1, q2, q5⟩
            · obtain ⟨b, d, q1, q2, q5⟩ := n3 k hk
              exact ⟨b, d, q1, hlive1 b q2, q5⟩
          have him : ∀ k, Im g rho s'.heap w' k → after p S (S1 ++ S2) w w' k := by
            intro k hk
            refine ⟨hk.1, hk.2.1, fun hm => ?_⟩
            obtain ⟨b, d, q1, q2, q3⟩ := hsub k hm
            exact hk.2.2 ⟨b, d, q1, q2, q3⟩
          refine ⟨_, t1, _, S1, S2, rfl, ?_, fun k hk => ?_, hs.inv.kept, hres.1 _ _ _ _ (CV.mono him _ _ _ _ (oneOrTup_CV m1)), ?_⟩
          · refine List.nodup_append.2 ⟨m2, n2, fun x hx y hy e => ?_⟩
            subst e
            obtain ⟨b1, d1, q1, q2, q3, q4, q5⟩ := m4 x hx
            obtain ⟨b2, d2, r1, r2, r5⟩ := n3 x hy
            have hne : b1 ≠ b2 := by
              intro e
              subst e
              rcases q3 with q3 | q3
              · rw [q3] at r2; exact r2
              · exact q4 (pubR_lent rt vs hpub b1 q3)
            exact hs.inv.disj b1 b2 d1 d2 q1 r1 q2 (hlive1 b2 r2) hne x q5 r5
          · obtain ⟨b, d, q1, q2, q3⟩ := hsub k hk
            have := hs.inv.range b d q1 q2 k q3
            exact ⟨this.2, this.1⟩
          · exact hres.2 _ _ _ _ (Outs.mono him _ _ _ n1)
  rcases hee with e1 | e1 <;> (subst e1; exact post)

end Go.Sx

namespace Go.Sx
open Go

mutual
inductive EqT (P : Program) : Nat → TypeId → Ty → Prop
  | int {d : Nat} {t : TypeId} {k : IntKind} : P.underlying t = some (.int k) → EqT P (d + 1) t (.int k)
  | bool {d : Nat} {t : TypeId} : P.underlying t = some .bool → EqT P (d + 1) t .bool
  | str {d : Nat} {t : TypeId} : P.underlying t = some .string → EqT P (d + 1) t .str
  | struct {d : Nat} {t : TypeId} {ty : Ty} {fs : List Field} : P.underlying t = some (.struct (P.fieldsOf t)) → P.stoodInHeld t = false → ty.isAgg = true → (P.fieldsOf t).toList = fs → EqF P d fs 0 ty → EqT P (d + 1) t ty
inductive EqF (P : Program) : Nat → List Field → Nat → Ty → Prop
  | nil {d off : Nat} : EqF P d [] off .unit
  | cons {d off off' : Nat} {f : Field} {fs : List Field} {a b : Ty} : f.offset = off → f.name ≠ "_" → (∃ inf, P.info? f.type = some inf ∧ inf.size = a.size) → (∃ ds, P.underlying f.type = some ds ∧ descAgg ds = a.isAgg) →
      off' = off + a.size → EqT P d f.type a → EqF P d fs off' b → EqF P d (f :: fs) off (.pair a b)
end

theorem run_part' {P : Program} {t : TypeId} {a : Ty} (h1 : ∃ inf, P.info? t = some inf ∧ inf.size = a.size) (h2 : ∃ ds, P.underlying t = some ds ∧ descAgg ds = a.isAgg) {im : Nat → Prop} {w1 : World} {x : a.den} {pre c r : List Value} {w : World}
    (hx : TR im w1 false a x c []) : (part t (pre ++ (c ++ r)).toArray pre.length).run P w = .ok (mkV a c) w := by
  obtain ⟨inf, i1, i2⟩ := h1
  obtain ⟨ds, u1, u2⟩ := h2
  have hl := hx.len
  unfold part
  rw [Sx.run_bind_ok (Sx.run_isAgg u1), u2]
  cases ha : a.isAgg with
  | true =>
    simp only [if_true]
    rw [Sx.run_bind_ok (Sx.run_sizeOf i1), i2]
    simp only [mkV, ha, if_true]
    rw [Sx.run_pure]
    congr 2
    rw [← Array.toList_inj]
    simp [List.extract_eq_take_drop, hl]
  | false =>
    simp only [Bool.false_eq_true, if_false]
    obtain ⟨u, rfl, _⟩ := hx.scalar ha
    simp only [mkV, ha, Bool.false_eq_true, if_false, List.headD_cons]
    simp only [List.getElem?_toArray]
    rw [List.getElem?_append_right (Nat.le_refl _)]
    simp only [Nat.sub_self, List.cons_append, List.nil_append, List.getElem?_cons_zero]
    rfl

theorem bytes_beq (a b : ByteArray) : (a.toList == b.toList) = decide (a = b) := by
  rw [← Go.beq_toListBytes, Bool.eq_iff_iff]
  obtain ⟨x⟩ := a
  obtain ⟨y⟩ := b
  show (x == y) = true ↔ _
  simp

def RunF (P : Program) (w : World) (d : Nat) (ty : Ty) : Prop :=
  ∀ (im : Nat → Prop) (w1 : World) (n : Nat) (fs : List Field) (off : Nat) (x y : ty.den) (cx cy pre pre' : List Value), pre.length = off → pre'.length = off → EqF P n fs off ty → TR im w1 false ty x cx [] → TR im w1 false ty y cy [] →
    (Op.eqFields (d + n) (pre ++ cx).toArray (pre' ++ cy).toArray fs).run P w = .ok (eqD ty x y) w
def RunT (P : Program) (w : World) (d : Nat) (ty : Ty) : Prop :=
  ∀ (im : Nat → Prop) (w1 : World) (n : Nat) (t : TypeId) (x y : ty.den) (cx cy : List Value), EqT P n t ty → TR im w1 false ty x cx [] → TR im w1 false ty y cy [] → (Op.equalIn (d + n) t (mkV ty cx) (mkV ty cy)).run P w = .ok (eqD ty x y) w

theorem runT_of {P : Program} {w : World} {d : Nat} {ty : Ty} (hF : RunF P w d ty) : RunT P w d ty := by
  intro im w1 n t x y cx cy h hx hy
  cases h with
  | @int n _ k h =>
    rw [hx.1, hy.1]
    exact run_equalIn_int w (d + n) _ k k x y h
  | @bool n _ h =>
    rw [hx.1, hy.1]
    exact run_equalIn_bool' w (d + n) _ x y h
  | @str n _ h =>
    rw [hx.1, hy.1]
    show (Op.equalIn (d + n + 1) _ (.string x) (.string y)).run P w = _
    rw [run_equalIn_string w (d + n) _ x y h, bytes_beq]
    rfl
  | @struct n _ _ fs h1 h2 h3 h4 h5 =>
    have ex : mkV ty cx = .agg cx.toArray := by simp [mkV, h3]
    have ey : mkV ty cy = .agg cy.toArray := by simp [mkV, h3]
    rw [ex, ey]
    show (Op.equalIn (d + n + 1) _ _ _).run P w = _
    rw [run_equalIn_struct w (d + n) _ _ _ h1 h2, h4]
    exact hF im w1 n fs 0 x y cx cy [] [] rfl rfl h5 hx hy

theorem runF_all {P : Program} {w : World} {d : Nat} : ∀ ty : Ty, RunF P w d ty
  | .int _ => fun im w1 n fs off x y cx cy pre pre' _ _ h => by cases h
  | .bool => fun im w1 n fs off x y cx cy pre pre' _ _ h => by cases h
  | .str => fun im w1 n fs off x y cx cy pre pre' _ _ h => by cases h
  | .sl _ _ => fun im w1 n fs off x y cx cy pre pre' _ _ h => by cases h
  | .unit => fun im w1 n fs off x y cx cy pre pre' _ _ h hx hy => by cases h; rfl
  | .pair a b => fun im w1 n fs off x y cx cy pre pre' h1 h2 h hx hy => by
    have hA := runT_of (runF_all (P := P) (w := w) (d := d) a)
    have hB := runF_all (P := P) (w := w) (d := d) b
    cases h with
    | @cons _ _ off' f fs _ _ k1 k2 k3 k4 k5 k6 k7 =>
      obtain ⟨c1, c2, S1, S2, e1, e2, q1, q2⟩ := hx
      obtain ⟨c1', c2', S1', S2', e1', e2', q1', q2'⟩ := hy
      have z1 := (List.append_eq_nil_iff.1 e2.symm)
      have z2 := (List.append_eq_nil_iff.1 e2'.symm)
      obtain ⟨rfl, rfl⟩ := z1
      obtain ⟨rfl, rfl⟩ := z2
      subst e1; subst e1'
      have o1 : f.offset = pre.length := by rw [k1, h1]
      have o2 : f.offset = pre'.length := by rw [k1, h2]
      simp only [Op.eqFields, if_pos k2]
      have r1 := run_part' k3 k4 (pre := pre) (r := c2) (w := w) q1
      have r2 := run_part' k3 k4 (pre := pre') (r := c2') (w := w) q1'
      rw [← o1] at r1
      rw [← o2] at r2
      rw [Sx.run_bind_ok r1, Sx.run_bind_ok r2, Sx.run_bind_ok (hA im w1 n _ _ _ _ _ k6 q1 q1')]
      simp only [eqD]
      cases he : eqD a x.1 y.1 with
      | false => rfl
      | true =>
        simp only [Bool.not_true, Bool.false_eq_true, if_false, Bool.true_and]
        have := hB im w1 n fs off' x.2 y.2 c2 c2' (pre ++ c1) (pre' ++ c1') (by rw [List.length_append, q1.len, h1, k5]) (by rw [List.length_append, q1'.len, h2, k5]) k7 q2 q2'
        rw [List.append_assoc, List.append_assoc] at this
        exact this

theorem eqOk {P : Program} {t : TypeId} {ty : Ty} (n : Nat) (hn : n ≤ 10000) (h : EqT P n t ty) (ha : ty.isAgg = true) (hg : P.eqGuardType P.depth t = false) : EqOk P t ty where
  agg := ha
  guard := hg
  run := fun im w w1 x y cx cy hx hy => by
    have := runT_of (runF_all (P := P) (w := w) (d := 10000 - n) ty) im w1 n t x y cx cy h hx hy
    rw [show 10000 - n + n = 10000 by omega] at this
    simp only [mkV, ha, if_true] at this
    exact this

theorem tis_ok {P : Program} {E : Env} {l : List (Nat × TI)} (h : ∀ q ∈ l, TIok P E q.1 q.2) : ∀ t i, assoc l t = some i → TIok P E t i := fun t i hi => h (t, i) (assoc_mem hi)

theorem all_nil {α : Type _} {p : α → Prop} : ∀ q ∈ ([] : List α), p q := by simp
theorem all_cons {α : Type _} {p : α → Prop} {x : α} {l : List α} (h : p x) (hl : ∀ q ∈ l, p q) : ∀ q ∈ x :: l, p q := by
  intro q hq
  rcases List.mem_cons.1 hq with e | hq
  · subst e; exact h
  · exact hl q hq

def scalarD : Ty → TypeDesc → Prop
  | .int k, d => d = .int k
  | .bool, d => d = .bool
  | .str, d => d = .string
  | _, _ => False

theorem tiok_scalar {P : Program} {E : Env} {t : TypeId} {ty : Ty} {b : Nat} {inf : TypeInfo} {d : TypeDesc} (h : P.info? t = some inf) (h1 : inf.size = ty.size) (h2 : inf.bytes = b) (h3 : inf.zero = some (mkV ty (zeroVals ty))) (h4 : b ≤ 1024) (h5 : P.underlying t = some d)
    (h6 : scalarD ty d) : TIok P E t ⟨ty, b, .scalar⟩ := by
  refine ⟨⟨inf, h, h1, h2, h3⟩, ?_, h4, ⟨d, h5, ?_, ?_⟩⟩
  · show 0 < ty.size
    cases ty <;> first | exact h6.elim | (simp [Ty.size])
  · show descAgg d = ty.isAgg
    cases ty <;> first | exact h6.elim | (cases h6; rfl)
  · clear h1 h3
    cases ty <;> first | exact h6.elim | exact h6
theorem tiok_slice {P : Program} {E : Env} {t e : TypeId} {ie : TI} {b : Nat} {inf : TypeInfo} (h : P.info? t = some inf) (h1 : inf.size = 1) (h2 : inf.bytes = b) (h3 : inf.zero = some (.slice none 0 0)) (h4 : b ≤ 1024) (h5 : P.underlying t = some (.slice e))
    (h6 : E.ti e = some ie) : TIok P E t ⟨.sl false ie.ty, b, .slice e⟩ :=
  ⟨⟨inf, h, h1, h2, h3⟩, by show 0 < 1; omega, h4, ⟨_, h5, rfl, rfl, ie, h6, rfl⟩⟩
theorem tiok_struct {P : Program} {E : Env} {t : TypeId} {ty : Ty} {b : Nat} {fs : List (Nat × TypeId)} {inf : TypeInfo} {fields : Array Field} (h : P.info? t = some inf) (h1 : inf.size = ty.size) (h2 : inf.bytes = b) (h3 : inf.zero = some (mkV ty (zeroVals ty))) (h4 : b ≤ 1024)
    (h0 : 0 < ty.size) (ha : ty.isAgg = true) (h5 : P.underlying t = some (.struct fields)) (h6 : fields.toList.map (fun f => (f.offset, f.type)) = fs) (h7 : ∀ f ∈ fs, ∃ fi, E.ti f.2 = some fi) : TIok P E t ⟨ty, b, .struct fs⟩ :=
  ⟨⟨inf, h, h1, h2, h3⟩, h0, h4, ⟨_, h5, by rw [ha]; rfl, fields, rfl, h6, h7, ha⟩⟩


end Go.Sx

namespace Go.Sx
open Go

abbrev Args : List Ty → Type
  | [] => Unit
  | t :: ts => t.den × Args ts

def encA : (ts : List Ty) → Args ts → List SV
  | [], _ => []
  | t :: ts, x => .val t x.1 :: encA ts x.2

def getA : (ts : List Ty) → List SV → Option (Args ts)
  | [], l => match l with
    | [] => some ()
    | _ => none
  | t :: ts, l => match l with
    | .val s x :: l' => (match toD s t x with
      | some y => (match getA ts l' with | some r => some (y, r) | none => none)
      | none => none)
    | _ => none

def roCon (ts : List Ty) (fr : Bool) (f : Args ts → Option Res) : Con :=
  ⟨ts.map .ro, fun _ args K => match getA ts args with
    | some xs => (match f xs with | some r => K r.1 r.2 | none => none)
    | none => none, fr⟩

theorem getA_ok {im : Nat → Prop} {w : World} : ∀ (ts : List Ty) (l : List SV) {xs : Args ts} {cs : List Value} {S : List Nat} {B : List LC}, getA ts l = some xs → CVL im w l cs S B → CVL im w (encA ts xs) cs S B
  | [], [], xs, cs, S, B, _, h => h
  | [], _ :: _, xs, cs, S, B, h, _ => by simp [getA] at h
  | t :: ts, [], xs, cs, S, B, h, _ => by simp [getA] at h
  | t :: ts, x :: l, xs, cs, S, B, h, hc => by
    cases x with
    | val s x =>
      simp only [getA] at h
      split at h
      · rename_i y hy
        split at h
        · rename_i r hr
          cases Option.some.inj h
          simp only [CVL] at hc
          obtain ⟨c, r', S1, S2, B1, B2, e1, e2, e3, h4, h5⟩ := hc
          simp only [encA, CVL]
          refine ⟨c, r', S1, S2, B1, B2, e1, e2, e3, ?_, getA_ok ts l hr h5⟩
          simp only [CV] at h4 ⊢
          obtain ⟨k1, k2, cs', k3, k4⟩ := h4
          unfold toD at hy
          split at hy
          · rename_i he
            simp only [Option.some.injEq] at hy
            subst hy
            refine ⟨k1, k2, cs', k3.castD he, ?_⟩
            rw [k4]
            unfold mkV
            rw [Ty.eqv_agg he]
          · cases hy
        · cases h
      · cases h
    | _ => simp [getA] at h

theorem roCon_ok {P : Program} {fid : FuncId} {ts : List Ty} {fr : Bool} {f : Args ts → Option Res} (hc : Callable P fid) (h : ∀ xs sv o, f xs = some (sv, o) → CallOk P fid (encA ts xs) sv o) : ConOk P fid (roCon ts fr f) := by
  refine ⟨hc, fun R args K r he => ?_, fun R args K K' r hk he => ?_⟩
  case refine_2 =>
    simp only [roCon] at he ⊢
    split at he
    · split at he
      · exact hk _ _ he
      · cases he
    · cases he
  simp only [roCon] at he
  split at he
  · rename_i xs hx
    split at he
    · rename_i q hq
      refine ⟨q.1, q.2, ?_, he⟩
      intro p w cargs S B h1 h2 h3 h4
      exact h xs q.1 q.2 hq p w cargs S B (getA_ok ts args hx h1) h2 h3 h4
    · cases he
  · cases he

/-- how an answer looks -/
structure Sh (X : Type) where
  sh : X → Res
  un : Res → Option X
  ok : ∀ r x, un r = some x → ResC r (sh x)

theorem toS_at {s t : Ty} {x : s.den} {y : t.den} (h : toS s t x = some y) : SV.val s x = SV.val t y ∧ SV.fv s x = SV.fv t y := by
  obtain ⟨e, h2⟩ := toS_ok h
  subst e; subst h2
  exact ⟨rfl, rfl⟩
/-- data, only to be read -/
def shV (T : Ty) : Sh T.den where
  sh := fun x => (.val T x, [])
  un := fun r => match r with
    | (.val s x, []) => toS s T x
    | _ => none
  ok := fun r x h => by
    refine ResC.of_eq ?_
    split at h
    · rw [(toS_at h).1]
    · cases h
/-- data with lists of its own -/
def shF (T : Ty) : Sh T.den where
  sh := fun x => (.fv T x, [])
  un := fun r => match r with
    | (.fv s x, []) => toS s T x
    | _ => none
  ok := fun r x h => by
    refine ResC.of_eq ?_
    split at h
    · rw [(toS_at h).2]
    · cases h
/-- a contract: what is answered on what is read -/
def roS {X : Type} (ts : List Ty) (fr : Bool) (s : Sh X) (f : Args ts → Option X) : Con :=
  ⟨ts.map .ro, fun _ args K => match getA ts args with
    | some xs => (match f xs with | some v => K (s.sh v).1 (s.sh v).2 | none => none)
    | none => none, fr⟩

theorem roS_ok {P : Program} {fid : FuncId} {X : Type} {ts : List Ty} {fr : Bool} {s : Sh X} {f : Args ts → Option X} (hc : Callable P fid) (h : ∀ xs v, f xs = some v → CallOk P fid (encA ts xs) (s.sh v).1 (s.sh v).2) : ConOk P fid (roS ts fr s f) := by
  refine ⟨hc, fun R args K r he => ?_, fun R args K K' r hk he => ?_⟩
  case refine_2 =>
    simp only [roS] at he ⊢
    split at he
    · split at he
      · exact hk _ _ he
      · cases he
    · cases he
  simp only [roS] at he
  split at he
  · rename_i xs hx
    split at he
    · rename_i q hq
      refine ⟨_, _, ?_, he⟩
      intro p w cargs S B h1 h2 h3 h4
      exact h xs q hq p w cargs S B (getA_ok ts args hx h1) h2 h3 h4
    · cases he
  · cases he

/-- on some arguments only -/
def reads (ts : List Ty) (c : Args ts → Bool) (t : Ty) (v : Args ts → t.den) : Con :=
  ⟨ts.map .ro, fun _ args K => match getA ts args with
    | some xs => bif c xs then K (.val t (v xs)) [] else none
    | none => none, !t.hasSl⟩

theorem reads_ok {P : Program} {fid : FuncId} {ts : List Ty} {c : Args ts → Bool} {t : Ty} {v : Args ts → t.den} (hc : Callable P fid) (h : ∀ xs, c xs = true → CallOk P fid (encA ts xs) (.val t (v xs)) []) : ConOk P fid (reads ts c t v) := by
  refine ⟨hc, fun R args K r he => ?_, fun R args K K' r hk he => ?_⟩
  case refine_2 =>
    simp only [reads] at he ⊢
    split at he
    · rename_i xs hx
      cases hq : c xs with
      | false => rw [hq] at he; cases he
      | true => rw [hq] at he; exact hk _ _ he
    · cases he
  simp only [reads] at he
  split at he
  · rename_i xs hx
    cases hq : c xs with
    | false => rw [hq] at he; cases he
    | true =>
      rw [hq] at he
      refine ⟨.val t (v xs), [], ?_, he⟩
      intro p w cargs S B h1 h2 h3 h4
      exact h xs hq p w cargs S B (getA_ok ts args hx h1) h2 h3 h4
  · cases he

theorem wrap64 {n : Int} (h0 : -9223372036854775808 ≤ n) (h1 : n ≤ 9223372036854775807) : IntKind.wrap .i64 n = n := by
  show (if (true && decide ((n % 18446744073709551616) ≥ 9223372036854775808)) = true then n % 18446744073709551616 - 18446744073709551616 else n % 18446744073709551616) = n
  simp only [Bool.true_and, decide_eq_true_eq]
  split <;> omega

theorem byteS_at {R : Type} {s : ByteArray} {j : Nat} (h : j < s.size) (K : Int → Option R) : ∃ b : UInt8, s.data.toList.drop j = b :: s.data.toList.drop (j + 1) ∧ byteS s (j : Int) K = K (b.toNat : Int) := by
  have hl : j < s.data.toList.length := by simpa using h
  refine ⟨s.data.toList[j], by rw [← List.drop_eq_getElem_cons hl], ?_⟩
  unfold byteS
  rw [if_pos (by omega), show ((j : Int)).toNat = j by omega, nth_eq, List.getElem?_eq_getElem hl]
  rfl

theorem tbl_ok {P : Program} {l : List (Nat × Con)} (h : ∀ q ∈ l, ConOk P q.1 q.2) : ∀ f c, assoc l f = some c → ConOk P f c := fun f c hf => h (f, c) (assoc_mem hf)

abbrev i64 : Ty := .int .i64
def vb (b : Bool) : Option Res := some (.val .bool b, [])
def vi (n : Int) : Option Res := some (.val i64 n, [])
def vt (t : Ty) (x : t.den) : Option Res := some (.val t x, [])

end Go.Sx

namespace Go.Sx
open Go

/-! ### Several answers -/
def DenL : List (Bool × Ty) → Type
  | [] => Unit
  | (_, t) :: l => t.den × DenL l
def toL : (l : List (Bool × Ty)) → DenL l → List SV
  | [], _ => []
  | (u, t) :: l, x => (bif u then .fv t x.1 else .val t x.1) :: toL l x.2
def un1 (u : Bool) (t : Ty) (v : SV) : Option t.den :=
  bif u then (match v with | .fv s x => toS s t x | _ => none) else (match v with | .val s x => toS s t x | _ => none)
def unL : (l : List (Bool × Ty)) → List SV → Option (DenL l)
  | [], [] => some ()
  | [], _ :: _ => none
  | _ :: _, [] => none
  | (u, t) :: l, v :: r => match un1 u t v with
    | some a => (match unL l r with | some b => some (a, b) | none => none)
    | none => none
theorem un1_ok {u : Bool} {t : Ty} {v : SV} {x : t.den} (h : un1 u t v = some x) : v = bif u then .fv t x else .val t x := by
  unfold un1 at h
  cases u with
  | true =>
    simp only [cond_true] at h ⊢
    split at h
    · exact (toS_at h).2
    · cases h
  | false =>
    simp only [cond_false] at h ⊢
    split at h
    · exact (toS_at h).1
    · cases h
theorem unL_ok : ∀ (l : List (Bool × Ty)) (vs : List SV) {x : DenL l}, unL l vs = some x → vs = toL l x
  | [], [], _, _ => rfl
  | [], _ :: _, _, h => by cases h
  | _ :: _, [], _, h => by cases h
  | (u, t) :: l, v :: r, x, h => by
    simp only [unL] at h
    split at h
    · rename_i a ha
      split at h
      · rename_i b hb
        cases h
        simp only [toL]
        rw [un1_ok ha, unL_ok l r hb]
      · cases h
    · cases h
/-- several answers -/
def shT (l : List (Bool × Ty)) : Sh (DenL l) where
  sh := fun x => (.tup (toL l x), [])
  un := fun r => match r with
    | (.tup vs, []) => unL l vs
    | _ => none
  ok := fun r x h => by
    refine ResC.of_eq ?_
    split at h
    · rw [unL_ok l _ h]
    · cases h

/-! ### Arguments: data to be read, variables and lists lent, closures -/
/-- the cells of a value of which the lists go along: lent, or given -/
def cellsM (m : Bool) : (t : Ty) → t.den → List SV
  | .unit, _ => []
  | .pair a b, x => cellsM m a x.1 ++ cellsM m b x.2
  | .int k, x => [.val (.int k) x]
  | .bool, x => [.val .bool x]
  | .str, x => [.val .str x]
  | .sl u a, x => [bif u then (bif m then .io a x else .fr a x) else .val (.sl u a) x]

inductive AP where
  | ro (t : Ty)
  | mr (t : Ty)
  | fn (f : FuncId) (l : List Ty)
  | io (t : Ty)
  | mo (t : Ty)
  | mu (t : Ty)
  | gv (t : Ty)
abbrev AP.den : AP → Type
  | .ro t => t.den
  | .mr t => t.den
  | .fn _ l => Args l
  | .io t => List t.den
  | .mo t => t.den
  | .mu t => t.den
  | .gv t => List t.den
abbrev AP.denL : List AP → Type
  | [] => Unit
  | a :: l => a.den × AP.denL l
def AP.mode : AP → Mode
  | .ro t => .ro t
  | .mr _ => .mref
  | .fn _ l => .fnm (l.map fun _ => .mref)
  | .io _ => .io
  | .mo _ => .io
  | .mu _ => .mref
  | .gv _ => .mv
def encB : (l : List Ty) → Args l → List SV
  | [], _ => []
  | t :: l, x => .mr (cellsOf t x.1) :: encB l x.2
def AP.enc : (a : AP) → a.den → SV
  | .ro t, x => .val t x
  | .mr t, x => .mr (cellsOf t x)
  | .fn f l, x => .fn f (encB l x)
  | .io t, x => .io t x
  | .mo t, x => .agg (cellsM true t x)
  | .mu t, x => .mr (cellsM false t x)
  | .gv t, x => .fr t x
def AP.encL : (l : List AP) → AP.denL l → List SV
  | [], _ => []
  | a :: l, x => a.enc x.1 :: AP.encL l x.2
/-- cells taken for a value -/
def unC : (t : Ty) → List SV → Option (t.den × List SV)
  | .unit, l => some ((), l)
  | .pair a b, l => match unC a l with
    | some (x, l') => (match unC b l' with | some (y, l'') => some ((x, y), l'') | none => none)
    | none => none
  | .int k, l => match l with
    | .val s x :: r => (match toS s (.int k) x with | some y => some (y, r) | none => none)
    | _ => none
  | .bool, l => match l with
    | .val s x :: r => (match toS s .bool x with | some y => some (y, r) | none => none)
    | _ => none
  | .str, l => match l with
    | .val s x :: r => (match toS s .str x with | some y => some (y, r) | none => none)
    | _ => none
  | .sl u a, l => match l with
    | .val s x :: r => (match toS s (.sl u a) x with | some y => some (y, r) | none => none)
    | _ => none
theorem unC_ok : ∀ (t : Ty) (l : List SV) {x : t.den} {r : List SV}, unC t l = some (x, r) → l = cellsOf t x ++ r
  | .unit, l, x, r, h => by cases h; rfl
  | .pair a b, l, x, r, h => by
    simp only [unC] at h
    split at h
    · rename_i y l' hy
      split at h
      · rename_i z l'' hz
        cases h
        rw [unC_ok a l hy, unC_ok b l' hz]
        simp [cellsOf]
      · cases h
    · cases h
  | .int k, l, x, r, h => by
    simp only [unC] at h
    split at h
    · split at h
      · rename_i hs; cases h; rw [(toS_at hs).1]; rfl
      · cases h
    · cases h
  | .bool, l, x, r, h => by
    simp only [unC] at h
    split at h
    · split at h
      · rename_i hs; cases h; rw [(toS_at hs).1]; rfl
      · cases h
    · cases h
  | .str, l, x, r, h => by
    simp only [unC] at h
    split at h
    · split at h
      · rename_i hs; cases h; rw [(toS_at hs).1]; rfl
      · cases h
    · cases h
  | .sl u a, l, x, r, h => by
    simp only [unC] at h
    split at h
    · split at h
      · rename_i hs; cases h; rw [(toS_at hs).1]; rfl
      · cases h
    · cases h
def unAllC (t : Ty) (l : List SV) : Option t.den := match unC t l with
  | some (x, []) => some x
  | _ => none
theorem unAllC_ok {t : Ty} {l : List SV} {x : t.den} (h : unAllC t l = some x) : l = cellsOf t x := by
  unfold unAllC at h
  split at h
  · rename_i hx; cases h; rw [unC_ok t l hx]; simp
  · cases h
def unB : (l : List Ty) → List SV → Option (Args l)
  | [], [] => some ()
  | [], _ :: _ => none
  | _ :: _, [] => none
  | t :: l, v :: r => match v with
    | .mr c => (match unAllC t c with
      | some x => (match unB l r with | some y => some (x, y) | none => none)
      | none => none)
    | _ => none
theorem unB_ok : ∀ (l : List Ty) (vs : List SV) {x : Args l}, unB l vs = some x → vs = encB l x
  | [], [], _, _ => rfl
  | [], _ :: _, _, h => by cases h
  | _ :: _, [], _, h => by cases h
  | t :: l, v :: r, x, h => by
    simp only [unB] at h
    split at h
    · split at h
      · rename_i y hy
        split at h
        · rename_i z hz
          cases h
          simp only [encB]
          rw [unAllC_ok hy, unB_ok l r hz]
        · cases h
      · cases h
    · cases h
/-- a list that goes along -/
def lstM (m : Bool) (a : Ty) : SV → Option (List a.den)
  | .io s x => bif m then toS (.sl true s) (.sl true a) x else none
  | .fr s x => bif m then none else toS (.sl true s) (.sl true a) x
  | _ => none
theorem toS_list {s a : Ty} {x : List s.den} {y : List a.den} (h : toS (.sl true s) (.sl true a) x = some y) : SV.io s x = SV.io a y ∧ SV.fr s x = SV.fr a y := by
  obtain ⟨e, he⟩ := toS_ok h
  cases e
  cases he
  exact ⟨rfl, rfl⟩
theorem lstM_ok {m : Bool} {a : Ty} {v : SV} {y : List a.den} (h : lstM m a v = some y) : v = bif m then .io a y else .fr a y := by
  cases v with
  | io s x =>
    cases m with
    | true => exact (toS_list h).1
    | false => cases h
  | fr s x =>
    cases m with
    | true => cases h
    | false => exact (toS_list h).2
  | _ => cases h
def unM (m : Bool) : (t : Ty) → List SV → Option (t.den × List SV)
  | .unit, l => some ((), l)
  | .pair a b, l => match unM m a l with
    | some (x, l') => (match unM m b l' with | some (y, l'') => some ((x, y), l'') | none => none)
    | none => none
  | .int k, l => unC (.int k) l
  | .bool, l => unC .bool l
  | .str, l => unC .str l
  | .sl u a, l => bif u then (match l with
      | v :: r => (match lstM m a v with | some y => some (y, r) | none => none)
      | [] => none)
    else unC (.sl u a) l
theorem unM_ok {m : Bool} : ∀ (t : Ty) (l : List SV) {x : t.den} {r : List SV}, unM m t l = some (x, r) → l = cellsM m t x ++ r
  | .unit, l, x, r, h => by cases h; rfl
  | .pair a b, l, x, r, h => by
    simp only [unM] at h
    split at h
    · rename_i y l' hy
      split at h
      · rename_i z l'' hz
        cases h
        rw [unM_ok a l hy, unM_ok b l' hz]
        simp [cellsM]
      · cases h
    · cases h
  | .int k, l, x, r, h => unC_ok (.int k) l h
  | .bool, l, x, r, h => unC_ok .bool l h
  | .str, l, x, r, h => unC_ok .str l h
  | .sl u a, l, x, r, h => by
    cases u with
    | false => exact unC_ok (.sl false a) l h
    | true =>
      simp only [unM, cond_true] at h
      split at h
      · split at h
        · rename_i hy
          cases h
          rw [lstM_ok hy]; rfl
        · cases h
      · cases h
def unAllM (m : Bool) (t : Ty) (l : List SV) : Option t.den := match unM m t l with
  | some (x, []) => some x
  | _ => none
theorem unAllM_ok {m : Bool} {t : Ty} {l : List SV} {x : t.den} (h : unAllM m t l = some x) : l = cellsM m t x := by
  unfold unAllM at h
  split at h
  · rename_i hx; cases h; rw [unM_ok t l hx]; simp
  · cases h
def AP.dec : (a : AP) → SV → Option a.den
  | .ro t, v => (match v with | .val s x => toS s t x | _ => none)
  | .mr t, v => (match v with | .mr l => unAllC t l | _ => none)
  | .fn f l, v => (match v with | .fn g c => bif Nat.beq g f then unB l c else none | _ => none)
  | .io t, v => lstM true t v
  | .mo t, v => (match v with | .agg l => unAllM true t l | _ => none)
  | .mu t, v => (match v with | .mr l => unAllM false t l | _ => none)
  | .gv t, v => lstM false t v
def AP.decL : (l : List AP) → List SV → Option (AP.denL l)
  | [], [] => some ()
  | [], _ :: _ => none
  | _ :: _, [] => none
  | a :: l, v :: r => match a.dec v with
    | some x => (match AP.decL l r with | some y => some (x, y) | none => none)
    | none => none
theorem AP.dec_ok : ∀ (a : AP) (v : SV) {x : a.den}, a.dec v = some x → v = a.enc x
  | .ro t, v, x, h => by
    simp only [AP.dec] at h
    split at h
    · simp only [AP.enc]; exact (toS_at h).1
    · cases h
  | .mr t, v, x, h => by
    simp only [AP.dec] at h
    split at h
    · simp only [AP.enc]; rw [unAllC_ok h]
    · cases h
  | .fn f l, v, x, h => by
    simp only [AP.dec] at h
    split at h
    · rename_i g c
      cases hb : Nat.beq g f with
      | false => rw [hb] at h; cases h
      | true =>
        rw [hb] at h
        simp only [AP.enc]
        rw [unB_ok l c h, Nat.eq_of_beq_eq_true hb]
    · cases h
  | .io t, v, x, h => lstM_ok h
  | .mo t, v, x, h => by
    simp only [AP.dec] at h
    split at h
    · simp only [AP.enc]; rw [unAllM_ok h]
    · cases h
  | .mu t, v, x, h => by
    simp only [AP.dec] at h
    split at h
    · simp only [AP.enc]; rw [unAllM_ok h]
    · cases h
  | .gv t, v, x, h => lstM_ok h
theorem AP.decL_ok : ∀ (l : List AP) (vs : List SV) {x : AP.denL l}, AP.decL l vs = some x → vs = AP.encL l x
  | [], [], _, _ => rfl
  | [], _ :: _, _, h => by cases h
  | _ :: _, [], _, h => by cases h
  | a :: l, v :: r, x, h => by
    simp only [AP.decL] at h
    split at h
    · rename_i y hy
      split at h
      · rename_i z hz
        cases h
        simp only [AP.encL]
        rw [AP.dec_ok a v hy, AP.decL_ok l r hz]
      · cases h
    · cases h

/-- a contract on such arguments -/
def apS {X : Type} (ts : List AP) (fr : Bool) (s : Sh X) (f : AP.denL ts → Option X) : Con :=
  ⟨ts.map AP.mode, fun _ args K => match AP.decL ts args with
    | some xs => (match f xs with | some v => K (s.sh v).1 (s.sh v).2 | none => none)
    | none => none, fr⟩

theorem apS_ok {P : Program} {fid : FuncId} {X : Type} {ts : List AP} {fr : Bool} {s : Sh X} {f : AP.denL ts → Option X} (hc : Callable P fid) (h : ∀ xs v, f xs = some v → CallOk P fid (AP.encL ts xs) (s.sh v).1 (s.sh v).2) : ConOk P fid (apS ts fr s f) := by
  refine ⟨hc, fun R args K r he => ?_, fun R args K K' r hk he => ?_⟩
  case refine_2 =>
    simp only [apS] at he ⊢
    split at he
    · split at he
      · exact hk _ _ he
      · cases he
    · cases he
  simp only [apS] at he
  split at he
  · rename_i xs hx
    split at he
    · rename_i q hq
      refine ⟨_, _, ?_, he⟩
      rw [AP.decL_ok ts args hx]
      exact h xs q hq
    · cases he
  · cases he

/-- an answer, and what the variable that was lent holds -/
def shB (T B : Ty) : Sh (T.den × B.den) where
  sh := fun x => (.val T x.1, [cellsOf B x.2])
  un := fun r => match r with
    | (.val s x, [c]) => (match toS s T x with
      | some y => (match unAllC B c with | some z => some (y, z) | none => none)
      | none => none)
    | _ => none
  ok := fun r x h => by
    refine ResC.of_eq ?_
    split at h
    · split at h
      · rename_i hy
        split at h
        · rename_i hz
          cases h
          rw [(toS_at hy).1, unAllC_ok hz]
        · cases h
      · cases h
    · cases h

/-! ### What was lent, as it comes back -/
/-- the lists of a value -/
def Ls : Ty → Type
  | .pair a b => Ls a × Ls b
  | .sl true a => List a.den
  | _ => Unit
def lsE : (t : Ty) → Ls t → List (List SV)
  | .pair a b, x => lsE a x.1 ++ lsE b x.2
  | .sl true a, x => [[.fr a x]]
  | .sl false _, _ => []
  | .int _, _ => []
  | .bool, _ => []
  | .str, _ => []
  | .unit, _ => []
def one1 (a : Ty) : List SV → Option (List a.den)
  | [v] => lstM false a v
  | _ => none
theorem one1_ok {a : Ty} {l : List SV} {y : List a.den} (h : one1 a l = some y) : l = [.fr a y] := by
  unfold one1 at h
  split at h
  · rw [lstM_ok h]; rfl
  · cases h
def lsU : (t : Ty) → List (List SV) → Option (Ls t × List (List SV))
  | .pair a b, l => match lsU a l with
    | some (x, l') => (match lsU b l' with | some (y, l'') => some ((x, y), l'') | none => none)
    | none => none
  | .sl true a, l => (match l with
    | c :: r => (match one1 a c with | some y => some (y, r) | none => none)
    | [] => none)
  | .sl false _, l => some ((), l)
  | .int _, l => some ((), l)
  | .bool, l => some ((), l)
  | .str, l => some ((), l)
  | .unit, l => some ((), l)
theorem lsU_ok : ∀ (t : Ty) (l : List (List SV)) {x : Ls t} {r : List (List SV)}, lsU t l = some (x, r) → l = lsE t x ++ r
  | .pair a b, l, x, r, h => by
    simp only [lsU] at h
    split at h
    · rename_i y l' hy
      split at h
      · rename_i z l'' hz
        cases h
        rw [lsU_ok a l hy, lsU_ok b l' hz]
        simp [lsE]
      · cases h
    · cases h
  | .sl true a, l, x, r, h => by
    simp only [lsU] at h
    split at h
    · split at h
      · rename_i hy
        cases h
        rw [one1_ok hy]; rfl
      · cases h
    · cases h
  | .sl false _, l, x, r, h => by cases h; rfl
  | .int _, l, x, r, h => by cases h; rfl
  | .bool, l, x, r, h => by cases h; rfl
  | .str, l, x, r, h => by cases h; rfl
  | .unit, l, x, r, h => by cases h; rfl
def encO : (l : List Ty) → Args l → List (List SV)
  | [], _ => []
  | t :: l, x => cellsOf t x.1 :: encO l x.2
def unO : (l : List Ty) → List (List SV) → Option (Args l × List (List SV))
  | [], r => some ((), r)
  | _ :: _, [] => none
  | t :: l, c :: r => match unAllC t c with
    | some x => (match unO l r with | some (y, r') => some ((x, y), r') | none => none)
    | none => none
theorem unO_ok : ∀ (l : List Ty) (c : List (List SV)) {x : Args l} {r : List (List SV)}, unO l c = some (x, r) → c = encO l x ++ r
  | [], c, x, r, h => by cases h; rfl
  | _ :: _, [], _, _, h => by cases h
  | t :: l, c :: r, x, r', h => by
    simp only [unO] at h
    split at h
    · rename_i y hy
      split at h
      · rename_i z r2 hz
        cases h
        rw [unAllC_ok hy, unO_ok l r hz]; rfl
      · cases h
    · cases h
/-- what comes back of an argument -/
abbrev AP.od : AP → Type
  | .ro _ => Unit
  | .gv _ => Unit
  | .mr t => t.den
  | .fn _ l => Args l
  | .io t => List t.den
  | .mo t => Ls t
  | .mu t => t.den
/-- a list that is nil, where one of its own is wanted: the empty one -/
def fixM : Ty → List SV → List SV × List SV
  | .unit, l => ([], l)
  | .pair a b, l => match fixM a l with | (x, l') => (match fixM b l' with | (y, l'') => (x ++ y, l''))
  | .sl u a, l => match l with
    | [] => ([], [])
    | v :: r => ([match v with | .nil => bif u && Nat.blt 0 a.size then .fr a [] else .nil | v => v], r)
  | _, l => match l with
    | [] => ([], [])
    | v :: r => ([v], r)
def fixMA (t : Ty) (l : List SV) : List SV := match fixM t l with | (x, r) => x ++ r
theorem CVL.split {im : Nat → Prop} {w : World} : ∀ {l l' : List SV} {cs : List Value} {S : List Nat} {B : List LC}, CVL im w (l ++ l') cs S B → ∃ c1 c2 S1 S2 B1 B2, cs = c1 ++ c2 ∧ S = S1 ++ S2 ∧ B = B1 ++ B2 ∧ CVL im w l c1 S1 B1 ∧ CVL im w l' c2 S2 B2
  | [], l', cs, S, B, h => ⟨[], cs, [], S, [], B, rfl, rfl, rfl, ⟨rfl, rfl, rfl⟩, h⟩
  | x :: l, l', cs, S, B, h => by
    simp only [List.cons_append, CVL] at h
    obtain ⟨c, r, S1, S2, B1, B2, rfl, rfl, rfl, h1, h2⟩ := h
    obtain ⟨c1, c2, T1, T2, D1, D2, rfl, rfl, rfl, k1, k2⟩ := CVL.split h2
    refine ⟨c :: c1, c2, S1 ++ T1, T2, B1 ++ D1, D2, rfl, by simp, by simp, ?_, k2⟩
    simp only [CVL]
    exact ⟨c, c1, S1, T1, B1, D1, rfl, rfl, rfl, h1, k1⟩
theorem fixM_ok : ∀ (t : Ty) (l : List SV), ∃ h, l = h ++ (fixM t l).2 ∧ ∀ (im : Nat → Prop) (w : World) (cs : List Value) (S : List Nat), CVL im w h cs S [] → CVL im w (fixM t l).1 cs S []
  | .unit, l => ⟨[], rfl, fun _ _ _ _ h => h⟩
  | .pair a b, l => by
    obtain ⟨h1, e1, k1⟩ := fixM_ok a l
    obtain ⟨h2, e2, k2⟩ := fixM_ok b (fixM a l).2
    refine ⟨h1 ++ h2, ?_, fun im w cs S h => ?_⟩
    · simp only [fixM]
      rw [List.append_assoc, ← e2, ← e1]
    · obtain ⟨c1, c2, S1, S2, B1, B2, rfl, rfl, hB, q1, q2⟩ := CVL.split h
      obtain ⟨rfl, rfl⟩ := List.append_eq_nil_iff.1 hB.symm
      simp only [fixM]
      exact CVL.append (B := []) (B' := []) (k1 _ _ _ _ q1) (k2 _ _ _ _ q2)
  | .sl u a, l => by
    cases l with
    | nil => exact ⟨[], rfl, fun _ _ _ _ h => h⟩
    | cons v r =>
      refine ⟨[v], rfl, fun im w cs S h => ?_⟩
      simp only [fixM]
      cases v with
      | nil =>
        cases hu : (u && Nat.blt 0 a.size) with
        | false => exact h
        | true =>
          simp only [CVL] at h ⊢
          obtain ⟨c, r', S1, S2, B1, B2, rfl, rfl, hB, h1, rfl, rfl, rfl⟩ := h
          simp only [CV] at h1
          obtain ⟨rfl, rfl, rfl⟩ := h1
          simp only [Bool.and_eq_true, Nat.blt, Nat.ble_eq] at hu
          refine ⟨_, [], [], [], [], [], rfl, rfl, rfl, ?_, rfl, rfl, rfl⟩
          simp only [cond_true, CV]
          exact ⟨trivial, hu.2, none, 0, rfl, Nat.le_refl _, by simp⟩
      | _ => exact h
  | .int k, [] => ⟨[], rfl, fun _ _ _ _ h => h⟩
  | .int k, v :: r => ⟨[v], rfl, fun _ _ _ _ h => h⟩
  | .bool, [] => ⟨[], rfl, fun _ _ _ _ h => h⟩
  | .bool, v :: r => ⟨[v], rfl, fun _ _ _ _ h => h⟩
  | .str, [] => ⟨[], rfl, fun _ _ _ _ h => h⟩
  | .str, v :: r => ⟨[v], rfl, fun _ _ _ _ h => h⟩
theorem fixMA_ok {t : Ty} {l : List SV} {im : Nat → Prop} {w : World} {cs : List Value} {S : List Nat} (h : CVL im w l cs S []) : CVL im w (fixMA t l) cs S [] := by
  obtain ⟨h1, e1, k1⟩ := fixM_ok t l
  unfold fixMA
  rw [e1] at h
  obtain ⟨c1, c2, S1, S2, B1, B2, rfl, rfl, hB, q1, q2⟩ := CVL.split h
  obtain ⟨rfl, rfl⟩ := List.append_eq_nil_iff.1 hB.symm
  exact CVL.append (B := []) (B' := []) (k1 _ _ _ _ q1) q2
def isOneFr : List SV → Bool
  | [.fr _ _] => true
  | _ => false
def AP.oe : (a : AP) → a.od → List (List SV)
  | .ro _, _ => []
  | .gv _, _ => []
  | .mr t, x => [cellsOf t x]
  | .fn _ l, x => encO l x
  | .io t, x => [[.fr t x]]
  | .mo t, x => lsE t x
  | .mu t, x => [cellsM false t x]
def AP.ou : (a : AP) → List (List SV) → Option (a.od × List (List SV))
  | .ro _, l => some ((), l)
  | .gv _, l => some ((), l)
  | .mr t, l => (match l with | c :: r => (match unAllC t c with | some x => some (x, r) | none => none) | [] => none)
  | .fn _ ts, l => unO ts l
  | .io t, l => (match l with | c :: r => (match one1 t c with | some x => some (x, r) | none => none) | [] => none)
  | .mo t, l => lsU t l
  | .mu t, l => (match l with | c :: r => (match unAllM false t (bif isOneFr c then c else fixMA t c) with | some x => some (x, r) | none => none) | [] => none)
def OutsLe (l l' : List (List SV)) : Prop := ∀ (im : Nat → Prop) (w : World) (B : List LC) (S : List Nat), Outs im w l B S → Outs im w l' B S
theorem OutsLe.of_eq {l l' : List (List SV)} (h : l = l') : OutsLe l l' := by subst h; exact fun _ _ _ _ h => h
theorem OutsLe.app : ∀ (a : List (List SV)) {l l' : List (List SV)}, OutsLe l l' → OutsLe (a ++ l) (a ++ l')
  | [], _, _, h => h
  | c :: a, _, _, h => fun im w B S ho => by
    cases B with
    | nil => simp only [List.cons_append, Outs] at ho
    | cons b bs =>
      cases b with
      | box b =>
        simp only [List.cons_append, Outs] at ho ⊢
        obtain ⟨cells, e, S1, S2, q1, q2, q3, q4⟩ := ho
        exact ⟨cells, e, S1, S2, q1, q2, q3, OutsLe.app a h im w bs S2 q4⟩
      | arr v t =>
        simp only [List.cons_append, Outs] at ho ⊢
        obtain ⟨x, S1, S2, q1, q2, q3, q4⟩ := ho
        exact ⟨x, S1, S2, q1, q2, q3, OutsLe.app a h im w bs S2 q4⟩
theorem OutsLe.head {c c' : List SV} {l : List (List SV)} (h : ∀ (im : Nat → Prop) (w : World) (cs : List Value) (S : List Nat), CVL im w c cs S [] → CVL im w c' cs S []) (hf : isOneFr c = false) : OutsLe (c :: l) (c' :: l) := fun im w B S ho => by
  cases B with
  | nil => simp only [Outs] at ho
  | cons b bs =>
    cases b with
    | box b =>
      simp only [Outs] at ho ⊢
      obtain ⟨cells, e, S1, S2, q1, q2, q3, q4⟩ := ho
      exact ⟨cells, e, S1, S2, q1, q2, h _ _ _ _ q3, q4⟩
    | arr v t =>
      simp only [Outs] at ho
      obtain ⟨x, S1, S2, q1, q2, q3, q4⟩ := ho
      rw [q1] at hf
      cases hf
theorem AP.ou_eq : ∀ (a : AP) (l : List (List SV)) {x : a.od} {r : List (List SV)}, (∀ t, a ≠ .mu t) → a.ou l = some (x, r) → l = a.oe x ++ r
  | .ro _, l, x, r, _, h => by cases h; rfl
  | .gv _, l, x, r, _, h => by cases h; rfl
  | .mr t, l, x, r, _, h => by
    simp only [AP.ou] at h
    split at h
    · split at h
      · rename_i hy; cases h; rw [unAllC_ok hy]; rfl
      · cases h
    · cases h
  | .fn _ ts, l, x, r, _, h => unO_ok ts l h
  | .io t, l, x, r, _, h => by
    simp only [AP.ou] at h
    split at h
    · split at h
      · rename_i hy; cases h; rw [one1_ok hy]; rfl
      · cases h
    · cases h
  | .mo t, l, x, r, _, h => lsU_ok t l h
  | .mu t, l, x, r, hn, h => absurd rfl (hn t)
theorem AP.ou_ok : ∀ (a : AP) (l : List (List SV)) {x : a.od} {r : List (List SV)}, a.ou l = some (x, r) → OutsLe l (a.oe x ++ r)
  | .mu t, l, x, r, h => by
    simp only [AP.ou] at h
    split at h
    · rename_i c l'
      split at h
      · rename_i y hy
        cases h
        cases hb : isOneFr c with
        | true =>
          rw [hb] at hy
          simp only [cond_true] at hy
          show OutsLe (c :: r) (cellsM false t x :: r)
          rw [← unAllM_ok hy]
          exact OutsLe.of_eq rfl
        | false =>
          rw [hb] at hy
          simp only [cond_false] at hy
          show OutsLe (c :: r) (cellsM false t x :: r)
          rw [← unAllM_ok hy]
          exact OutsLe.head (fun _ _ _ _ h => fixMA_ok h) hb
      · cases h
    · cases h
  | .ro a, l, x, r, h => OutsLe.of_eq (by cases h; rfl)
  | .gv a, l, x, r, h => OutsLe.of_eq (by cases h; rfl)
  | .mr t, l, x, r, h => OutsLe.of_eq (AP.ou_eq (.mr t) l (fun _ e => by cases e) h)
  | .fn f t, l, x, r, h => OutsLe.of_eq (AP.ou_eq (.fn f t) l (fun _ e => by cases e) h)
  | .io t, l, x, r, h => OutsLe.of_eq (AP.ou_eq (.io t) l (fun _ e => by cases e) h)
  | .mo t, l, x, r, h => OutsLe.of_eq (AP.ou_eq (.mo t) l (fun _ e => by cases e) h)
abbrev AP.odL : List AP → Type
  | [] => Unit
  | a :: l => a.od × AP.odL l
def AP.oeL : (l : List AP) → AP.odL l → List (List SV)
  | [], _ => []
  | a :: l, x => a.oe x.1 ++ AP.oeL l x.2
def AP.ouL : (l : List AP) → List (List SV) → Option (AP.odL l × List (List SV))
  | [], r => some ((), r)
  | a :: l, r => match a.ou r with
    | some (x, r') => (match AP.ouL l r' with | some (y, r'') => some ((x, y), r'') | none => none)
    | none => none
theorem AP.ouL_ok : ∀ (l : List AP) (c : List (List SV)) {x : AP.odL l} {r : List (List SV)}, AP.ouL l c = some (x, r) → OutsLe c (AP.oeL l x ++ r)
  | [], c, x, r, h => by cases h; exact OutsLe.of_eq rfl
  | a :: l, c, x, r, h => by
    simp only [AP.ouL] at h
    split at h
    · rename_i y r1 hy
      split at h
      · rename_i z r2 hz
        cases h
        have h1 := AP.ou_ok a c hy
        have h2 := OutsLe.app (a.oe y) (AP.ouL_ok l r1 hz)
        intro im w B S ho
        have := h2 im w B S (h1 im w B S ho)
        simpa [AP.oeL] using this
      · cases h
    · cases h
/-- an answer, and what comes back of what was lent -/
def shO {X : Type} (s : Sh X) (l : List AP) : Sh (X × AP.odL l) where
  sh := fun x => ((s.sh x.1).1, AP.oeL l x.2)
  un := fun r => match s.un (r.1, []) with
    | some x => (match AP.ouL l r.2 with | some (y, []) => some (x, y) | _ => none)
    | none => none
  ok := fun r x h => by
    split at h
    · rename_i a ha
      split at h
      · rename_i y hy
        cases h
        have h1 := s.ok _ _ ha
        have h2 := AP.ouL_ok l _ hy
        rw [List.append_nil] at h2
        exact ⟨fun im w c S hc => h1.1 im w c S hc, fun im w B S ho => h2 im w B S ho⟩
      · cases h
    · cases h
/-- no answer -/
def shN : Sh Unit where
  sh := fun _ => (.tup [], [])
  un := fun r => match r with
    | (.tup [], []) => some ()
    | _ => none
  ok := fun r x h => by
    refine ResC.of_eq ?_
    split at h
    · rfl
    · cases h

end Go.Sx

set_option maxRecDepth 100000
namespace Go.Sx
open Go

/-- an answer given up -/
def frz1 : SV → Option SV
  | .fr t x => some (.val (.sl true t) x)
  | .fv t x => some (.val t x)
  | .val t x => some (.val t x)
  | .nil => some .nil
  | .dead => some .dead
  | _ => none
def frzL : List SV → Option (List SV)
  | [] => some []
  | v :: l => match frz1 v with
    | some v' => (match frzL l with | some l' => some (v' :: l') | none => none)
    | none => none
def frzLL : List (List SV) → Option (List (List SV))
  | [] => some []
  | v :: l => match frzL v with
    | some v' => (match frzLL l with | some l' => some (v' :: l') | none => none)
    | none => none
def frzA (v : SV) : Option SV := match v with
  | .tup l => (match frzL l with | some l' => some (.tup l') | none => none)
  | v => frz1 v
def frzR (r : SV × List (List SV)) : Option (SV × List (List SV)) := match frzA r.1 with
  | some v => (match frzLL r.2 with | some o => some (v, o) | none => none)
  | none => none
/-- no list is lent as such -/
def noIo : SV → Bool
  | .mr _ => true
  | .val _ _ => true
  | .fr _ _ => true
  | .fv _ _ => true
  | .nil => true
  | _ => false

theorem frz1_CV {im im' : Nat → Prop} {w : World} (hi : ∀ k, im k → im' k) {v v' : SV} {c : Value} {S : List Nat} (h : CV im w v c S []) (hS : ∀ k ∈ S, im' k) (hf : frz1 v = some v') : CV im' w v' c [] [] := by
  cases v with
  | fr t x =>
    cases hf
    simp only [CV] at h ⊢
    obtain ⟨_, _, h3⟩ := h
    exact ⟨trivial, trivial, [c], h3.weak hi _ _ _ _ true hS, rfl⟩
  | fv t x =>
    cases hf
    simp only [CV] at h ⊢
    obtain ⟨_, _, cs, h3, h4⟩ := h
    exact ⟨trivial, trivial, cs, TR.weak hi _ _ _ _ true hS h3, h4⟩
  | val t x =>
    cases hf
    simp only [CV] at h ⊢
    obtain ⟨_, _, cs, h3, h4⟩ := h
    exact ⟨trivial, trivial, cs, h3.im hi, h4⟩
  | nil =>
    cases hf
    simp only [CV] at h ⊢
    exact ⟨trivial, trivial, h.2.2⟩
  | dead =>
    cases hf
    simp only [CV] at h ⊢
    exact ⟨trivial, trivial⟩
  | _ => cases hf
theorem frzL_CV {im im' : Nat → Prop} {w : World} (hi : ∀ k, im k → im' k) : ∀ {l l' : List SV} {cs : List Value} {S : List Nat}, CVL im w l cs S [] → (∀ k ∈ S, im' k) → frzL l = some l' → CVL im' w l' cs [] []
  | [], l', cs, S, h, _, hf => by
    cases hf
    simp only [CVL] at h ⊢
    exact ⟨h.1, trivial, trivial⟩
  | v :: l, l', cs, S, h, hS, hf => by
    simp only [frzL] at hf
    split at hf
    · rename_i v' hv
      split at hf
      · rename_i l2 hl
        cases hf
        simp only [CVL] at h
        obtain ⟨c, r, S1, S2, B1, B2, e1, e2, e3, h1, h2⟩ := h
        obtain ⟨rfl, rfl⟩ := List.append_eq_nil_iff.1 e3.symm
        subst e2
        have k1 := frz1_CV hi h1 (fun k hk => hS k (List.mem_append_left _ hk)) hv
        have k2 := frzL_CV hi h2 (fun k hk => hS k (List.mem_append_right _ hk)) hl
        simp only [CVL]
        exact ⟨c, r, [], [], [], [], e1, rfl, rfl, k1, k2⟩
      · cases hf
    · cases hf
theorem frzA_CV {im im' : Nat → Prop} {w : World} (hi : ∀ k, im k → im' k) {v v' : SV} {c : Value} {S : List Nat} (h : CV im w v c S []) (hS : ∀ k ∈ S, im' k) (hf : frzA v = some v') : CV im' w v' c [] [] := by
  unfold frzA at hf
  split at hf
  · rename_i l
    split at hf
    · rename_i l2 hl
      cases hf
      simp only [CV] at h ⊢
      obtain ⟨cs, h1, h2⟩ := h
      exact ⟨cs, h1, frzL_CV hi h2 hS hl⟩
    · cases hf
  · exact frz1_CV hi h hS hf

/-- the variables that are lent -/
def bks : List LC → List Nat
  | [] => []
  | .box b :: l => b :: bks l
  | .arr _ _ :: l => bks l
def boxesL (B : List LC) : Prop := ∀ q ∈ B, ∃ b, q = .box b
theorem CVL_boxes {p : Nat → Prop} {w : World} : ∀ (l : List SV) {cs : List Value} {S : List Nat} {B : List LC}, CVL p w l cs S B → l.all noIo = true → boxesL B
  | [], cs, S, B, h, _ => by
    simp only [CVL] at h
    rw [h.2.2]
    intro q hq
    cases hq
  | v :: l, cs, S, B, h, ha => by
    simp only [List.all_cons, Bool.and_eq_true] at ha
    simp only [CVL] at h
    obtain ⟨c, r, S1, S2, B1, B2, e1, e2, rfl, h1, h2⟩ := h
    have ih := CVL_boxes l h2 ha.2
    intro q hq
    rcases List.mem_append.1 hq with hq | hq
    · cases v with
      | mr l =>
        simp only [CV] at h1
        obtain ⟨blk, _, _, _, _, _, hb, _⟩ := h1
        rw [hb] at hq
        exact ⟨blk, List.mem_singleton.1 hq⟩
      | val t x => simp only [CV] at h1; rw [h1.2.1] at hq; cases hq
      | fr t x => simp only [CV] at h1; rw [h1.1] at hq; cases hq
      | fv t x => simp only [CV] at h1; rw [h1.1] at hq; cases hq
      | nil => simp only [CV] at h1; rw [h1.2.1] at hq; cases hq
      | _ => cases ha.1
    · exact ih q hq
theorem Outs_bks {im : Nat → Prop} {w : World} : ∀ {outs : List (List SV)} {B : List LC} {S : List Nat}, Outs im w outs B S → ∀ k ∈ bks B, k ∈ S
  | [], [], S, h, k, hk => by cases hk
  | [], _ :: _, S, h, k, hk => by simp only [Outs] at h
  | _ :: _, [], S, h, k, hk => by cases hk
  | c :: cs, .box b :: bs, S, h, k, hk => by
    simp only [Outs] at h
    obtain ⟨cells, e, S1, S2, rfl, h2, h3, h4⟩ := h
    rcases List.mem_cons.1 hk with rfl | hk
    · exact List.mem_cons_self ..
    · exact List.mem_cons_of_mem _ (List.mem_append_right _ (Outs_bks h4 k hk))
  | c :: cs, .arr a t :: bs, S, h, k, hk => by
    simp only [Outs] at h
    obtain ⟨x, S1, S2, _, rfl, h3, h4⟩ := h
    exact List.mem_append_right _ (Outs_bks h4 k hk)
theorem gupO {im im' : Nat → Prop} {w : World} (hi : ∀ k, im k → im' k) : ∀ {outs outs' : List (List SV)} {B : List LC} {S : List Nat}, boxesL B → Outs im w outs B S → S.Nodup → (∀ k ∈ S, k ∉ bks B → im' k) → frzLL outs = some outs' → Outs im' w outs' B (bks B) ∧ (bks B).Nodup
  | [], outs', [], S, hb, h, _, _, hf => by
    cases hf
    simp only [Outs, bks]
    exact ⟨trivial, List.nodup_nil⟩
  | [], outs', _ :: _, S, hb, h, _, _, hf => by simp only [Outs] at h
  | _ :: _, outs', [], S, hb, h, _, _, hf => by simp only [Outs] at h
  | c :: cs, outs', .arr a t :: bs, S, hb, h, _, _, hf => by
    obtain ⟨b, e⟩ := hb _ (List.mem_cons_self ..)
    cases e
  | c :: cs, outs', .box b :: bs, S, hb, h, hn, hS, hf => by
    simp only [frzLL] at hf
    split at hf
    · rename_i c' hc
      split at hf
      · rename_i o' ho
        cases hf
        simp only [Outs] at h
        obtain ⟨cells, e, S1, S2, rfl, h2, h3, h4⟩ := h
        obtain ⟨n1, n2⟩ := List.nodup_cons.1 hn
        obtain ⟨n3, n4, n5⟩ := List.nodup_append.1 n2
        have hbk := Outs_bks h4
        obtain ⟨r1, r2⟩ := gupO hi (fun q hq => hb q (List.mem_cons_of_mem _ hq)) h4 n4 (fun k hk hk2 => hS k (List.mem_cons_of_mem _ (List.mem_append_right _ hk)) (fun hm => by
          rcases List.mem_cons.1 hm with rfl | hm
          · exact n1 (List.mem_append_right _ hk)
          · exact hk2 hm)) ho
        have k1 : CVL im' w c' cells [] [] := frzL_CV hi h3 (fun k hk => hS k (List.mem_cons_of_mem _ (List.mem_append_left _ hk)) (fun hm => by
          rcases List.mem_cons.1 hm with rfl | hm
          · exact n1 (List.mem_append_left _ hk)
          · exact n5 k hk k (hbk k hm) rfl)) hc
        simp only [Outs, bks]
        exact ⟨⟨cells, e, [], bks bs, rfl, h2, k1, r1⟩, List.nodup_cons.2 ⟨fun hm => n1 (List.mem_append_right _ (hbk b hm)), r2⟩⟩
      · cases hf
    · cases hf

theorem frz_post {p : Nat → Prop} {S : List Nat} {w w' : World} {e : Ending} {r : SV × List (List SV)} {sv : SV} {outs : List (List SV)} {B : List LC} {cr : Value} {S1 S2 : List Nat} (hf : frzR r = some (sv, outs)) (hb : boxesL B)
    (h1 : e = .returned cr) (h2 : (S1 ++ S2).Nodup) (h3 : ∀ k ∈ S1 ++ S2, (k ∈ S ∨ w.heap.size ≤ k) ∧ k < w'.heap.size) (h4 : Kept w w' S) (h5 : CV (after p S (S1 ++ S2) w w') w' r.1 cr S1 []) (h6 : Outs (after p S (S1 ++ S2) w w') w' r.2 B S2) :
    ∃ S1 S2, e = .returned cr ∧ (S1 ++ S2).Nodup ∧ (∀ k ∈ S1 ++ S2, (k ∈ S ∨ w.heap.size ≤ k) ∧ k < w'.heap.size) ∧ Kept w w' S ∧ CV (after p S (S1 ++ S2) w w') w' sv cr S1 [] ∧ Outs (after p S (S1 ++ S2) w w') w' outs B S2 := by
  unfold frzR at hf
  split at hf
  · rename_i v hv
    split at hf
    · rename_i o ho
      cases hf
      obtain ⟨n1, n2, n3⟩ := List.nodup_append.1 h2
      have hbk := Outs_bks h6
      have hi : ∀ k, after p S (S1 ++ S2) w w' k → after p S ([] ++ bks B) w w' k := fun k hk => ⟨hk.1, hk.2.1, fun hm => hk.2.2 (List.mem_append_right _ (hbk k (by simpa using hm)))⟩
      have hin : ∀ k ∈ S1 ++ S2, k ∉ bks B → after p S ([] ++ bks B) w w' k := fun k hk hk2 => ⟨.inr (h3 k hk).1, (h3 k hk).2, fun hm => hk2 (by simpa using hm)⟩
      obtain ⟨o1, o2⟩ := gupO hi hb h6 n2 (fun k hk => hin k (List.mem_append_right _ hk)) ho
      have c1 := frzA_CV hi h5 (fun k hk => hin k (List.mem_append_left _ hk) (fun hm => n3 k hk k (hbk k hm) rfl)) hv
      exact ⟨[], bks B, h1, by simpa using o2, fun k hk => h3 k (List.mem_append_right _ (hbk k (by simpa using hk))), h4, c1, o1⟩
    · cases hf
  · cases hf

theorem fn_okW {P : Program} {E : Env} {kp : List (Nat × (List Keep × List BK))} {rt : List (Option Ty)} {X : Type} {K0 : Ex → St → Option X} {x0 : X} (hE : EnvOk P E) {f : FuncId} {fn : Func} {body : Code}
    (hf : P.funcs[f]? = some fn) (hb : fn.body = some body) (hn : noDup (idsOf kp body) = true) {args : List SV} (hbx : boxesOk args kp = true) (N : Nat) {sv : SV} {outs : List (List SV)}
    (hx : args.all noIo = true) (hK : ∀ e s, K0 e s = some x0 → ∃ r, finK E rt fn.results.toList (enterL [] args).2.2 e s = some r ∧ frzR r = some (sv, outs)) (hev : ev E (Lr E kp body K0 N) body (startSt fn.ntmps args) K0 = some x0) : CallOk P f args sv outs := by
  intro p w cargs S B hcv hnd hS hp htb
  simp only [boxesOk, Bool.and_eq_true] at hbx
  have hlen : (enterL [] args).2.2.length = B.length := (Nat.eq_of_beq_eq_true hbx.1).trans (CVL.mrs args hcv).symm
  have hz0 : IZ (⟨p, w, fun _ => none, []⟩ : Z) := ⟨fun b d h => (by cases h), fun b b' d d' h => (by cases h), fun b d h => (by cases h), fun b d h => (by cases h)⟩
  obtain ⟨rho1, g1, v1, x1⟩ := enterL_ok args (z := ⟨p, w, fun _ => none, []⟩) hz0 cargs S B hcv hnd (fun k hk => ⟨(hS k hk).1, fun b d h => (by cases h)⟩) hlen
  let g : G := ⟨p, S, w, bxG (enterL [] args).2.2 B, axG (enterL [] args).2.2 B⟩
  let h0 : List Blk := (enterL [] args).2.1
  have hto : Ext (⟨p, w, rho1, h0⟩ : Z) (zOf g rho1 h0 w) := by
    refine ⟨fun k hk => ⟨⟨.inl hk, hp k hk, fun ⟨b, d, o1, o2, o3⟩ => g1.iz.sep b d o1 o2 k o3 hk⟩, rfl⟩, fun b => BlkLe.refl _ _⟩
  have hinv : Inv g rho1 h0 w := by
    refine ⟨fun b d hd => (g1.iz.sim b d hd).ext hto (fun _ _ _ => rfl), g1.iz.disj, g1.iz.nodup, fun b d hd hl k hk => ?_, Kept.refl _ _, Need.ext (z := ⟨p, w, rho1, h0⟩) htb hto⟩
    have := g1.new b d (Nat.zero_le _) hd hl k hk
    exact ⟨(hS k this).2, .inl this⟩
  have hszc : cargs.toArray.size = args.length := by simpa using (CVL_length args hcv).symm
  have hsim : Sim g rho1 (startSt fn.ntmps args) { tmps := cargs.toArray ++ Array.replicate (fn.ntmps - cargs.toArray.size) undef, defers := [] } w := by
    refine ⟨hinv, ?_, rfl, x1.bxG, x1.axG⟩
    rw [hszc]
    simp only [startSt, Array.toList_append, Array.toList_replicate]
    exact (VL.ext hto _ _ v1).append (VL_replicate _)
  have hall : ∀ b ∈ (enterL [] args).2.2, ∀ i k, assoc kp i = some k → b.n < k.2.length := by
    intro b hb i k hk
    have h2 := List.all_eq_true.1 (List.all_eq_true.1 hbx.2 b hb) (i, k) (assoc_mem hk)
    simp only [Nat.blt, Nat.ble_eq] at h2
    omega
  have hB : ∀ i l, tabR E kp body K0 i = some l → (∀ q ∈ g.bx, q.1 < l.blks.length) ∧ ∀ q ∈ g.ax, q.1 < l.blks.length := by
    intro i l hl
    unfold tabR at hl
    cases hk : assoc kp i with
    | none => rw [hk] at hl; cases hl
    | some k =>
      rw [hk] at hl
      simp only [Option.some.injEq] at hl
      subst hl
      refine ⟨fun q hq => ?_, fun q hq => ?_⟩
      · obtain ⟨b, h1, h2⟩ := bxG_mem _ _ q hq
        rw [← h2]; exact hall b h1 i k hk
      · obtain ⟨b, h1, h2⟩ := axG_mem _ _ q hq
        rw [← h2]; exact hall b h1 i k hk
  refine calls_of_wp hf hb ?_
  refine ev_ok hE hB (r := x0) body (fun _ => K0) _ N (startSt fn.ntmps args) rho1 _ w (loopsEq E kp body _ (noDup_ok hn)) ?_ (by rw [tabR_at]; exact hev) hsim
  intro m _ e s' he0 rho a w' hs
  obtain ⟨r0, he, hfz⟩ := hK e s' he0
  have hfin : (e = .normal ∨ e = .ret) ∧ fin E rt fn.results.toList (enterL [] args).2.2 s' = some r0 := by
    cases e with
    | normal => exact ⟨.inl rfl, he⟩
    | ret => exact ⟨.inr rfl, he⟩
    | exit id => cases he
  obtain ⟨hee, hfin⟩ := hfin
  have hbs := CVL_boxes args hcv hx
  have post : a.defers = [] ∧ ∃ v, (results fn a.tmps).run P w' = .ok v w' ∧ ∃ cr S1 S2, Ending.returned v = .returned cr ∧ (S1 ++ S2).Nodup ∧ (∀ k ∈ S1 ++ S2, (k ∈ S ∨ w.heap.size ≤ k) ∧ k < w'.heap.size) ∧ Kept w w' S ∧
      CV (after p S (S1 ++ S2) w w') w' sv cr S1 [] ∧ Outs (after p S (S1 ++ S2) w w') w' outs B S2 := by
    refine ⟨hs.defers, ?_⟩
    unfold fin at hfin
    split at hfin
    · cases hfin
    · rename_i vs hvs
      split at hfin
      · cases hfin
      · rename_i v' h1 hpub
        split at hfin
        · cases hfin
        · rename_i o ho
          simp only [Option.some.injEq] at hfin
          subst hfin
          obtain ⟨cvs, t1, hvl⟩ := results_run hE.toEnvOk0 hs hvs
          have hiz := hs.inv.iz
          obtain ⟨S1, m1, m2, m3, m4⟩ := pubR_ok rt vs hiz cvs v' h1 hvl hpub
          have hi1 := off_iz hiz m3
          have hbxa : BxA rho s'.heap (enterL [] args).2.2 B := x1.later2 hs.bx hs.ax
          have hbxa1 : BxA rho h1 (enterL [] args).2.2 B := BxA.off (z := zOf g rho s'.heap w') hbxa m3
          obtain ⟨S2, n1, n2, n3⟩ := finB_ok (im := Im g rho s'.heap w') (w := w') (rho := rho) hbxa1 h1 hi1 hbxa1 ho
          have hlive1 : ∀ b, live (nth h1 b) → live (nth s'.heap b) := fun b hl => off_live m3 hl
          have hsub : ∀ k ∈ S1 ++ S2, ∃ b d, rho b = some d ∧ live (nth s'.heap b) ∧ k ∈ d.blks := by
            intro k hk
            rcases List.mem_append.1 hk with hk | hk
            · obtain ⟨b, d, q1, q2, _, _, q5⟩ := m4 k hk
              exact ⟨b, d, q1, q2, q5⟩
            · obtain ⟨b, d, q1, q2, q5⟩ := n3 k hk
              exact ⟨b, d, q1, hlive1 b q2, q5⟩
          have him : ∀ k, Im g rho s'.heap w' k → after p S (S1 ++ S2) w w' k := by
            intro k hk
            refine ⟨hk.1, hk.2.1, fun hm => ?_⟩
            obtain ⟨b, d, q1, q2, q3⟩ := hsub k hm
            exact hk.2.2 ⟨b, d, q1, q2, q3⟩
          refine ⟨_, t1, _, frz_post hfz hbs (S1 := S1) (S2 := S2) rfl ?_ (fun k hk => ?_) hs.inv.kept (CV.mono him _ _ _ _ (oneOrTup_CV m1)) ?_⟩
          · refine List.nodup_append.2 ⟨m2, n2, fun x hx y hy e => ?_⟩
            subst e
            obtain ⟨b1, d1, q1, q2, q3, q4, q5⟩ := m4 x hx
            obtain ⟨b2, d2, r1, r2, r5⟩ := n3 x hy
            have hne : b1 ≠ b2 := by
              intro e
              subst e
              rcases q3 with q3 | q3
              · rw [q3] at r2; exact r2
              · exact q4 (pubR_lent rt vs hpub b1 q3)
            exact hs.inv.disj b1 b2 d1 d2 q1 r1 q2 (hlive1 b2 r2) hne x q5 r5
          · obtain ⟨b, d, q1, q2, q3⟩ := hsub k hk
            have := hs.inv.range b d q1 q2 k q3
            exact ⟨this.2, this.1⟩
          · exact Outs.mono him _ _ _ n1
  rcases hee with e1 | e1 <;> (subst e1; exact post)

end Go.Sx
