/- Single operations are sound, 5: a block that turns; stores; structs written out. -/
import Derived.Test.YthjmknhkfkofgaaK2
import Derived.Laws.Tables
import Derived.Laws.MakeOwn
import Derived.Laws.BytesString
set_option linter.unusedVariables false
namespace Go.Sx
open Go

/-! ### A block that turns -/
structure Turn (rho : Rho) (h : List Blk) (w : World) (b : Nat) (d0 d1 : D) (nb : Blk) (w' : World) : Prop where
  at0 : rho b = some d0
  live0 : live (nth h b)
  live1 : live (some nb)
  size : w.heap.size ≤ w'.heap.size
  same : ∀ k, k < w.heap.size → k ∉ d0.blks → w'.heap[k]? = w.heap[k]?
  sub : ∀ k ∈ d1.blks, k ∈ d0.blks ∨ (w.heap.size ≤ k ∧ k < w'.heap.size)
  nodup : d1.blks.Nodup
  le : BlkLe (some d0) (some d1) (nth h b) (some nb)
  frz : Frz w w'

theorem Turn.some {rho : Rho} {h : List Blk} {w w' : World} {b : Nat} {d0 d1 : D} {nb : Blk} (t : Turn rho h w b d0 d1 nb w') : ∃ ob, nth h b = some ob := by
  have := t.live0
  cases hx : nth h b with
  | none => rw [hx] at this; exact this.elim
  | some x => exact ⟨x, rfl⟩

theorem turn_ext {g : G} {rho : Rho} {h : List Blk} {w w' : World} {b : Nat} {d0 d1 : D} {nb : Blk} (t : Turn rho h w b d0 d1 nb w') :
    Ext (zOf g rho h w) (zOf g (rset rho b d1) (upd h b nb) w') where
  im := fun k hk => by
    have hno : k ∉ d0.blks := fun hc => hk.2.2 ⟨b, d0, t.at0, t.live0, hc⟩
    refine ⟨⟨hk.1, Nat.lt_of_lt_of_le hk.2.1 t.size, ?_⟩, t.same k hk.2.1 hno⟩
    rintro ⟨b', d', h1, h2, h3⟩
    by_cases e : b' = b
    · subst e
      simp only [rset, if_pos] at h1
      cases h1
      rcases t.sub k h3 with h4 | h4
      · exact hno h4
      · have := hk.2.1; omega
    · simp only [rset, if_neg e] at h1
      rw [nth_upd_ne (Ne.symm e)] at h2
      exact hk.2.2 ⟨b', d', h1, h2, h3⟩
  le := fun b' => by
    show BlkLe (rho b') (rset rho b d1 b') (nth h b') (nth (upd h b nb) b')
    by_cases e : b' = b
    · subst e
      obtain ⟨ob, hob⟩ := t.some
      rw [nth_upd_eq hob]
      simp only [rset, if_pos]
      rw [t.at0]
      exact t.le
    · rw [nth_upd_ne (Ne.symm e)]
      simp only [rset, if_neg e]
      exact BlkLe.refl _ _

theorem turn_inv {g : G} {rho : Rho} {h : List Blk} {w w' : World} {b : Nat} {d0 d1 : D} {nb : Blk} (hi : Inv g rho h w) (t : Turn rho h w b d0 d1 nb w')
    (hs : SimB (zOf g (rset rho b d1) (upd h b nb) w') d1 (some nb)) : Inv g (rset rho b d1) (upd h b nb) w' := by
  obtain ⟨ob, hob⟩ := t.some
  have he := turn_ext (g := g) t
  have old : ∀ b' d', rset rho b d1 b' = some d' → live (nth (upd h b nb) b') → (b' = b ∧ d' = d1) ∨ (b' ≠ b ∧ rho b' = some d' ∧ live (nth h b')) := by
    intro b' d' h1 h2
    by_cases e : b' = b
    · subst e; simp only [rset, if_pos] at h1; cases h1; exact .inl ⟨rfl, rfl⟩
    · simp only [rset, if_neg e] at h1
      rw [nth_upd_ne (Ne.symm e)] at h2
      exact .inr ⟨e, h1, h2⟩
  have dis : ∀ b' d', b' ≠ b → rho b' = some d' → live (nth h b') → ∀ k ∈ d'.blks, k ∉ d0.blks := fun b' d' hne h1 h2 k hk =>
    hi.disj b' b d' d0 h1 t.at0 h2 t.live0 hne k hk
  refine ⟨?_, ?_, ?_, ?_, ?_⟩
  · intro b' d' h1
    by_cases e : b' = b
    · subst e
      simp only [rset, if_pos] at h1
      cases h1
      rw [nth_upd_eq hob]
      exact hs
    · simp only [rset, if_neg e] at h1
      rw [nth_upd_ne (Ne.symm e)]
      refine (hi.sim b' d' h1).ext he (fun hl k hk => ?_)
      exact t.same k (hi.range b' d' h1 hl k hk).1 (dis b' d' e h1 hl k hk)
  · intro b1 b2 e1 e2 h1 h2 l1 l2 hne k hk hk2
    rcases old b1 e1 h1 l1 with ⟨f1, f2⟩ | ⟨f1, f2, f3⟩ <;> rcases old b2 e2 h2 l2 with ⟨g1, g2⟩ | ⟨g1, g2, g3⟩
    · exact hne (f1.trans g1.symm)
    · subst f2
      rcases t.sub k hk with h4 | h4
      · exact dis b2 e2 g1 g2 g3 k hk2 h4
      · have := (hi.range b2 e2 g2 g3 k hk2).1; omega
    · subst g2
      rcases t.sub k hk2 with h4 | h4
      · exact dis b1 e1 f1 f2 f3 k hk h4
      · have := (hi.range b1 e1 f2 f3 k hk).1; omega
    · exact hi.disj b1 b2 e1 e2 f2 g2 f3 g3 hne k hk hk2
  · intro b1 e1 h1 l1
    rcases old b1 e1 h1 l1 with ⟨_, f2⟩ | ⟨_, f2, f3⟩
    · subst f2; exact t.nodup
    · exact hi.nodup b1 e1 f2 f3
  · intro b1 e1 h1 l1 k hk
    rcases old b1 e1 h1 l1 with ⟨_, f2⟩ | ⟨_, f2, f3⟩
    · subst f2
      rcases t.sub k hk with h4 | h4
      · have := hi.range b d0 t.at0 t.live0 k h4; exact ⟨Nat.lt_of_lt_of_le this.1 t.size, this.2⟩
      · exact ⟨h4.2, .inr (Nat.le_trans hi.kept.1 h4.1)⟩
    · have := hi.range b1 e1 f2 f3 k hk; exact ⟨Nat.lt_of_lt_of_le this.1 t.size, this.2⟩
  · refine ⟨Nat.le_trans hi.kept.1 t.size, fun k hk hn => ?_, hi.kept.3.trans t.frz⟩
    have hlt := Nat.lt_of_lt_of_le hk hi.kept.1
    refine (t.same k hlt (fun hc => ?_)).trans (hi.kept.2 k hk hn)
    rcases (hi.range b d0 t.at0 t.live0 k hc).2 with h4 | h4
    · exact hn h4
    · omega

section
variable {R : Type} {P : Program} {E : Env} {o : Oper} {gt : Operand → SV} {h : List Blk}

theorem VL.put1 {z : Z} {c d : List SV} {cs ds : List Value} (hc : VL z c cs) (hd : VL z d ds) {off : Nat} : VL z (splice c off d) (put1 cs off ds) := by
  unfold splice Sx.put1
  rw [hd.length]
  exact ((hc.take off).append hd).append (hc.drop _)

theorem run_storeAt (hE : EnvOk0 P E) {t : TypeId} {ty : Ty} (ht : E.ty t = some ty) {ad : Addr} (hs : ad.spot = none) {all ds : List Value} {e : TypeId} {c : Value} {w : World}
    (hb : w.heap[ad.block]? = some (.cells all.toArray e (0, 0))) (hc : c.cells.toList = ds) (hl : ds.length = ty.size) (hr : ad.off + ds.length ≤ all.length) (h1 : ∀ c ∈ ds, one c = true) :
    (Instr.storeAt t (.pointer (some ad)) c).run P w = .ok () (setBlock w ad.block (.cells (put1 all ad.off ds).toArray e (0, 0))) := by
  obtain ⟨inf, d, k1, k2, _, k4, k5, k6, _⟩ := ty_ti hE ht
  unfold Instr.storeAt
  show ((Instr.sureAddr (.pointer (some ad)) >>= fun a => _) : Sem Unit).run P w = _
  rw [run_bind_ok (a := ad) (w' := w) rfl]
  unfold storeVar
  have hsz : c.cells.size = inf.size := by rw [k2, ← hl, ← hc]; simp
  show ((sizeOf t >>= fun n => _) : Sem Unit).run P w = _
  rw [run_bind_ok (run_sizeOf k1)]
  rw [if_neg (by simpa using hsz)]
  have hne : ds ≠ [] := by intro e; rw [e] at hl; simp at hl; omega
  rw [hc]
  have := run_storeCells (P := P) hs rfl ds 0 w all hb (by simpa using hr) h1
  rw [if_neg hne] at this
  simpa using this

/-- a store, step by step: what it does to a block that is turned -/
theorem store_step (ho : ∃ t x y, o.op = .store t x y ∧ True) {a : Act} {w w' : World} {next : Act → World → Prop} {Q : Exit → Act → World → Prop}
    (hrun : ∀ t x y, o.op = .store t x y → (Instr.storeAt t (a.eval x) (a.eval y)).run P w = .ok () w') (hn : next (a.put o.dst undef) w') : o.wp P a w next Q := by
  obtain ⟨t, x, y, ho, _⟩ := ho
  unfold Oper.wp
  have : (execOp a.eval o).run P w = .ok .skip w' := by
    unfold execOp
    rw [ho]
    dsimp only
    show ((Instr.storeAt t (a.eval x) (a.eval y) >>= fun _ => pure .skip) : Sem Next).run P w = _
    rw [run_bind_ok (hrun t x y ho)]
    rfl
  rw [this]
  exact hn

theorem any_false {l : List Nat} {b : Nat} (h : (l.any (Nat.beq b)) = false) : b ∉ l := by
  intro hm
  have : l.any (Nat.beq b) = true := List.any_eq_true.2 ⟨b, hm, by simp⟩
  rw [this] at h
  cases h

theorem lentIm_kill {g : G} {rho : Rho} {w : World} (hi : Inv g rho h w) {rs : List Nat} {k : Nat} (hk : lentIm (zOf g rho h w) true rs k) :
    Im g rho (kill h rs) w k := by
  rcases hk with hk | ⟨_, r, h1, d, h2, h3, h4⟩
  · exact ((kill_ext rs h).im k hk).1
  · have hr := hi.range r d h2 h3 k h4
    refine ⟨?_, hr.1, ?_⟩
    · rcases hr.2 with h5 | h5
      · exact .inr (.inl h5)
      · exact .inr (.inr h5)
    · rintro ⟨b', d', k1, k2, k3⟩
      by_cases e : b' = r
      · subst e; exact kill_gone rs h h1 k2
      · have hl : live (nth h b') := by
          by_cases hm : b' ∈ rs
          · exact absurd k2 (kill_gone rs h hm)
          · rw [nth_kill rs h hm] at k2; exact k2
        exact hi.disj b' r d' d k1 h2 hl h3 e k k3 h4

theorem Reps.upd {α : Type} {R : α → List Value → List Nat → Prop} {n : Nat} (hn : ∀ x c S, R x c S → c.length = n) {y' : α} {c' : List Value} (hy' : R y' c' []) :
    ∀ (i : Nat) {xs : List α} {cs : List Value}, Reps R xs cs [] → i < xs.length → Reps R (Sx.upd xs i y') (Sx.put1 cs (i * n) c') []
  | i, [], _, _, h => by simp at h
  | 0, x :: xs, cs, ⟨c1, c2, S1, S2, h1, h2, h3, h4⟩, _ => by
    have e : S1 = [] ∧ S2 = [] := by have := h2.symm; simpa using this
    obtain ⟨rfl, rfl⟩ := e
    subst h1
    have hl := hn _ _ _ h3
    have hl' := hn _ _ _ hy'
    refine ⟨c', c2, [], [], ?_, rfl, hy', h4⟩
    simp [Sx.put1, hl', ← hl]
  | i + 1, x :: xs, cs, ⟨c1, c2, S1, S2, h1, h2, h3, h4⟩, h => by
    have e : S1 = [] ∧ S2 = [] := by have := h2.symm; simpa using this
    obtain ⟨rfl, rfl⟩ := e
    subst h1
    have hl := hn _ _ _ h3
    have := Reps.upd hn hy' i h4 (by simpa using h)
    refine ⟨c1, _, [], [], ?_, rfl, h3, this⟩
    have e1 : (i + 1) * n = c1.length + i * n := by rw [hl, Nat.add_mul]; omega
    simp only [Sx.put1, e1, List.take_append, List.drop_append]
    rw [List.take_of_length_le (Nat.le_add_right _ _), List.drop_eq_nil_of_le (by omega)]
    simp [Nat.add_assoc]
theorem put1_put1 {cs ds : List Value} {o off n : Nat} (h : off + ds.length ≤ n) (hl : o + n ≤ cs.length) : put1 cs o (put1 ((cs.drop o).take n) off ds) = put1 cs (o + off) ds := by
  have hc : ((cs.drop o).take n).length = n := by simp; omega
  have hp : (put1 ((cs.drop o).take n) off ds).length = n := by rw [put1_length (by omega), hc]
  apply List.ext_getElem?
  intro k
  rw [put1_get (all := cs) (o := o) (cs := put1 ((cs.drop o).take n) off ds) (by omega) k, put1_get (all := cs) (o := o + off) (cs := ds) (by omega) k, hp]
  by_cases h1 : k < o
  · rw [if_pos h1, if_pos (by omega)]
  · rw [if_neg h1]
    by_cases h2 : k < o + n
    · rw [if_pos h2, put1_get (all := (cs.drop o).take n) (o := off) (cs := ds) (by omega) (k - o)]
      by_cases h3 : k - o < off
      · rw [if_pos h3, if_pos (by omega), List.getElem?_take, if_pos (by omega), List.getElem?_drop]
        congr 1; omega
      · rw [if_neg h3, if_neg (show ¬ k < o + off by omega)]
        by_cases h4 : k - o < off + ds.length
        · rw [if_pos h4, if_pos (show k < o + off + ds.length by omega)]; congr 1; omega
        · rw [if_neg h4, if_neg (show ¬ k < o + off + ds.length by omega), List.getElem?_take, if_pos (by omega), List.getElem?_drop]
          congr 1; omega
    · rw [if_neg h2, if_neg (show ¬ k < o + off by omega), if_neg (show ¬ k < o + off + ds.length by omega)]
theorem BlockAt.put {w : World} {ad : Addr} {n o : Nat} {cs ds : List Value} (h : BlockAt w ad n cs) (ho : o + ds.length ≤ cs.length) (hn : cs.length ≤ n) :
    ∃ all e, w.heap[ad.block]? = some (.cells (all : List Value).toArray e (0, 0)) ∧ ad.off + o + ds.length ≤ all.length ∧
      BlockAt (setBlock w ad.block (.cells (put1 all (ad.off + o) ds).toArray e (0, 0))) ad n (put1 cs o ds) := by
  obtain ⟨all, e, h1, h2, h3⟩ := h
  have hsz : all.toList.length = all.size := by simp
  refine ⟨all.toList, e, by rw [h1], by omega, (put1 all.toList (ad.off + o) ds).toArray, e, setBlock_same h1, ?_, ?_⟩
  · simp only [List.size_toArray]; rw [put1_length (by omega)]; omega
  · intro j c hj
    simp only [List.getElem?_toArray]
    rw [put1_get (by omega)] at hj
    rw [put1_get (by omega)]
    by_cases k1 : j < o
    · rw [if_pos k1] at hj
      rw [if_pos (by omega)]
      have := h3 j c hj
      simpa using this
    · rw [if_neg k1] at hj
      by_cases k2 : j < o + ds.length
      · rw [if_pos k2] at hj
        rw [if_neg (by omega), if_pos (by omega)]
        rw [← hj]; congr 1; omega
      · rw [if_neg k2] at hj
        rw [if_neg (by omega), if_neg (by omega)]
        have := h3 j c hj
        simpa using this
theorem cellsOf_refs : ∀ (t : Ty) (x : t.den), (cellsOf t x).flatMap refs1 = []
  | .int _, _ => rfl
  | .bool, _ => rfl
  | .str, _ => rfl
  | .unit, _ => rfl
  | .pair a b, x => by simp only [cellsOf, List.flatMap_append, cellsOf_refs a x.1, cellsOf_refs b x.2]; rfl
  | .sl _ _, _ => rfl
theorem splice_refs {c d : List SV} {off : Nat} (hc : c.flatMap refs1 = []) {r : Nat} (hr : r ∈ (splice c off d).flatMap refs1) : r ∈ d.flatMap refs1 := by
  have hn : ∀ y ∈ c, refs1 y = [] := fun y hy => by
    have := List.flatMap_eq_nil_iff.1 hc y hy
    exact this
  simp only [splice, List.flatMap_append, List.mem_append] at hr
  rcases hr with (hr | hr) | hr
  · obtain ⟨y, h1, h2⟩ := List.mem_flatMap.1 hr
    rw [hn y (List.mem_of_mem_take h1)] at h2; cases h2
  · exact hr
  · obtain ⟨y, h1, h2⟩ := List.mem_flatMap.1 hr
    rw [hn y (List.mem_of_mem_drop h1)] at h2; cases h2
theorem splice_fits {c d : List SV} {off : Nat} (h : (splice c off d).length = c.length) (hd : 0 < d.length) : off + d.length ≤ c.length := by
  simp [splice] at h
  omega
theorem pack_length {deep : Bool} {hh : List Blk} : ∀ {t : Ty} {l l' : List SV} {x : t.den}, pack deep hh t l = some (x, l') → l.length = t.size + l'.length := by
  intro t
  have base : ∀ {t : Ty} {l l' : List SV} {x : t.den}, packC deep hh t l = some (x, l') → l.length = 1 + l'.length := by
    intro t l l' x hp
    unfold packC at hp
    cases l with
    | nil => cases hp
    | cons c r =>
      simp only at hp
      split at hp
      · simp only [Option.some.injEq, Prod.mk.injEq] at hp
        obtain ⟨_, rfl⟩ := hp
        simp; omega
      · cases hp
  induction t with
  | int k => intro l l' x hp; exact base hp
  | bool => intro l l' x hp; exact base hp
  | str => intro l l' x hp; exact base hp
  | unit =>
    intro l l' x hp
    simp only [pack, Option.some.injEq, Prod.mk.injEq] at hp
    rw [hp.2]; simp [Ty.size]
  | pair a b iha ihb =>
    intro l l' x hp
    simp only [pack] at hp
    split at hp
    · rename_i xa la ha
      split at hp
      · rename_i xb lb hb
        simp only [Option.some.injEq, Prod.mk.injEq] at hp
        obtain ⟨_, rfl⟩ := hp
        have := iha ha
        have := ihb hb
        simp only [Ty.size]; omega
      · cases hp
    · cases hp
  | sl u a _ => intro l l' x hp; exact base hp
theorem packAll_length {deep : Bool} {hh : List Blk} {t : Ty} {l : List SV} {x : t.den} (hp : packAll deep hh t l = some x) : l.length = t.size := by
  unfold packAll at hp
  split at hp
  · rename_i y hy
    have := pack_length hy
    simpa using this
  · cases hp

theorem store_ok (hE : EnvOk0 P E) {t : TypeId} {ty : Ty} {p x : Operand} {K : List Blk → Option R} {r : R} (ho : o.op = .store t p x) (ht : E.ty t = some ty)
    (he : storeS h ty (gt p) (gt x) K = some r) : ∃ h', StepOk P o gt h (.tup []) h' ∧ K h' = some r := by
  have hp1 : p ∈ o.op.operands.toList := by rw [ho]; simp [Op.operands]
  have hx1 : x ∈ o.op.operands.toList := by rw [ho]; simp [Op.operands]
  unfold storeS at he
  split at he
  · cases he
  · rename_i d hd
    cases hl : Nat.beq d.length ty.size with
    | false => rw [hl] at he; cases he
    | true =>
      rw [hl] at he
      simp only [cond_true] at he
      have hlen := Nat.eq_of_beq_eq_true hl
      split at he
      · rename_i b off hg
        split at he
        · rename_i c hb
          cases hle : Nat.ble (off + d.length) c.length with
          | false => rw [hle] at he; cases he
          | true =>
            rw [hle] at he
            simp only [cond_true] at he
            have hle := Nat.le_of_ble_eq_true hle
            refine ⟨_, fun g a w rho hi hv next Q hn => ?_, he⟩
            have hvp := hv p hp1
            rw [hg] at hvp
            obtain ⟨blk, h1, h2⟩ := V_ptr (z := zOf g rho h w) hvp hb
            obtain ⟨h3, h4⟩ := flat_ok (hv x hx1) hd
            have hsim := hi.sim b _ h1
            rw [hb] at hsim
            obtain ⟨blk', cs, e, k1, k2, k3⟩ := hsim
            cases k1
            have hds := h3.length
            have hcs := k3.length
            have hblt : blk < w.heap.size := by
              have := (hi.range b _ h1 (by rw [hb]; trivial) blk (by simp [D.blks])).1
              exact this
            have T : Turn rho h w b (.v blk) (.v blk) (.vars (splice c off d)) (setBlock w blk (.cells (put1 cs off (a.eval x).cells.toList).toArray e (0, 0))) := {
              at0 := h1
              live0 := by rw [hb]; trivial
              live1 := trivial
              size := by rw [setBlock_size]; exact Nat.le_refl _
              same := fun k hk hnk => setBlock_ne (by simpa [D.blks] using hnk)
              sub := fun k hk => .inl hk
              nodup := by simp [D.blks]
              le := by rw [hb]; exact .inr ⟨rfl, .inr ⟨_, rfl⟩⟩
              frz := frz_set }
            have hext := turn_ext (g := g) T
            have hinv := turn_inv hi T ⟨blk, _, e, rfl, setBlock_same k2, VL.ext hext _ _ (k3.put1 h3)⟩
            refine store_step ⟨t, p, x, ho, trivial⟩ (fun t' x' y' ho' => ?_) (hn undef _ _ hinv V_undef hext)
            rw [ho] at ho'
            cases ho'
            rw [h2]
            exact run_storeAt (ad := ⟨blk, off, none⟩) hE ht rfl k2 rfl (by rw [← hds]; exact hlen) (by rw [← hds, ← hcs]; exact hle) (VL.one h3 h4)
        · cases he
      · rename_i b v i off hg
        split at he
        · rename_i v' a xs hb
          split at he
          · rename_i e
            subst e
            obtain ⟨y, hy, he⟩ := bind_some he
            split at he
            · rename_i y' hpk
              cases hcond : (a.noUq && !((refs (.agg d)).any (Nat.beq b))) with
              | false => rw [hcond] at he; cases he
              | true =>
                rw [hcond] at he
                simp only [cond_true] at he
                simp only [Bool.and_eq_true, Bool.not_eq_true'] at hcond
                obtain ⟨hno, hnb⟩ := hcond
                have hnb := any_false hnb
                refine ⟨_, fun g ac w rho hi hv next Q hn => ?_, he⟩
                have hvp := hv p hp1
                rw [hg] at hvp
                obtain ⟨hlt, ad, cap, S, h1, h2⟩ := V_eptr (z := zOf g rho h w) hvp hb rfl
                obtain ⟨h3, h4⟩ := flat_ok (hv x hx1) hd
                have hsim := hi.sim b _ h1
                rw [hb] at hsim
                obtain ⟨A1, cap1, S1, k1, k2, kpos⟩ := hsim
                cases k1
                obtain ⟨A2, cap2, m1, m2, m3⟩ := k2
                simp only [List.cons.injEq, and_true, Value.slice.injEq] at m1
                obtain ⟨rfl, _, rfl⟩ := m1
                simp only [Bool.and_self, if_true] at m3
                obtain ⟨hsp, inner, S', mS, m5, m6⟩ := m3
                obtain ⟨mS', m7⟩ := m6.noUq hno
                subst mS'
                have hin : inner.length = xs.length * a.size := Reps.len (fun _ _ _ hr => hr.len) m7
                have hcy := Reps.get (fun _ _ _ hr => hr.len) i m7 hy
                have hcyl := hcy.len
                have hvl : VL (zOf g rho h w) (splice (cellsOf a y) off d) (put1 ((inner.drop (i * a.size)).take a.size) off (ac.eval x).cells.toList) := (hcy.cells_V (z := zOf g rho h w)).put1 h3
                have hty := packAll_ok (z := zOf g rho h w) hi.sim hvl hpk
                have hsl := packAll_length hpk
                have hcl : (cellsOf a y).length = a.size := (hcy.cells_V (z := zOf g rho h w)).length.trans hcyl
                have hds := h3.length
                have hdpos : 0 < d.length := by obtain ⟨_, _, _, _, _, _, _, hp, _⟩ := ty_ti hE ht; omega
                have hfit := splice_fits (hsl.trans hcl.symm) hdpos
                rw [hcl] at hfit
                have hii : i * a.size + a.size ≤ xs.length * a.size := by rw [← Nat.succ_mul]; exact Nat.mul_le_mul_right _ hlt
                have hcapn : inner.length ≤ cap * a.size := by rw [hin]; exact Nat.mul_le_mul_right _ m2
                obtain ⟨all, e, n1, n2, n3⟩ := m5.put (o := i * a.size + off) (ds := (ac.eval x).cells.toList) (by omega) hcapn
                have hkb : nth (kill h (refs (.agg d))) b = some (.arr v' a xs) := by rw [nth_kill _ _ hnb]; exact hb
                have hik := kill_inv (refs (.agg d)) h hi
                have hek := kill_ext (g := g) (rho := rho) (w := w) (refs (.agg d)) h
                have hblk : ad.block < w.heap.size := (hi.range b _ h1 (by rw [hb]; trivial) ad.block (by simp [D.blks, mS])).1
                have T : Turn rho (kill h (refs (.agg d))) w b (.s (some ad) cap S) (.s (some ad) cap S) (.arr v' a (upd xs i y')) (setBlock w ad.block (.cells (put1 all (ad.off + (i * a.size + off)) (ac.eval x).cells.toList).toArray e (0, 0))) := {
                  at0 := h1
                  live0 := by rw [hkb]; trivial
                  live1 := trivial
                  size := by rw [setBlock_size]; exact Nat.le_refl _
                  same := fun k hk hnk => setBlock_ne (by intro ek; subst ek; exact hnk (by simp [D.blks, mS]))
                  sub := fun k hk => .inl hk
                  nodup := hi.nodup b _ h1 (by rw [hb]; trivial)
                  le := by rw [hkb]; exact .inr ⟨_, _, _, rfl, .inr ⟨rfl, rfl, upd_length _ _ _, rfl⟩⟩
                  frz := frz_set }
                have hext := turn_ext (g := g) T
                have hinv := turn_inv hik T (by
                  refine ⟨some ad, cap, S, rfl, ?_, kpos⟩
                  refine ⟨some ad, cap, by rw [upd_length], by rw [upd_length]; exact m2, ?_⟩
                  simp only [Bool.and_self, if_true]
                  refine ⟨hsp, _, [], mS, n3, Reps.ofRo hno ?_⟩
                  have hold : Reps (TR (Im g rho (kill h (refs (.agg d))) w) w false a) xs inner [] := m7.imp (fun y c S1 hs hr => by
                    have : S1 = [] := List.eq_nil_iff_forall_not_mem.2 (fun b hb => by simpa using hs b hb)
                    subst this
                    exact hr.im (fun k hk => (hek.im k hk).1))
                  have hnew : TR (Im g rho (kill h (refs (.agg d))) w) w false a y' (put1 ((inner.drop (i * a.size)).take a.size) off (ac.eval x).cells.toList) [] :=
                    hty.im (fun k hk => lentIm_kill hi (lentIm_mono (fun r hr => splice_refs (cellsOf_refs a y) hr) hk))
                  have hup := Reps.upd (fun _ _ _ hr => hr.len) hnew i hold hlt
                  rw [put1_put1 (by omega) (by omega)] at hup
                  exact hup.imp (fun y c S1 hs hr => by
                    have : S1 = [] := List.eq_nil_iff_forall_not_mem.2 (fun b hb => by simpa using hs b hb)
                    subst this
                    exact hr.mono hext.im _ _ _ _ _ (by simp)))
                refine store_step ⟨t, p, x, ho, trivial⟩ (fun t' x' y2 ho' => ?_) (hn undef _ _ hinv V_undef (hek.trans hext))
                rw [ho] at ho'
                cases ho'
                rw [h2]
                have := run_storeAt (P := P) (ad := ⟨ad.block, ad.off + i * a.size + off, none⟩) (c := ac.eval x) hE ht rfl n1 rfl (by rw [← hds]; exact hlen) (by simp only; omega) (VL.one h3 h4)
                simp only [Nat.add_assoc] at this ⊢
                exact this
            · cases he
          · cases he
        · cases he
      · cases he

end
end Go.Sx

namespace Go.Sx
open Go

section
variable {R : Type} {P : Program} {E : Env} {o : Oper} {gt : Operand → SV} {h : List Blk}

theorem foldl_put (off : Nat) : ∀ (l : List Value) (k : Nat) (arr : Array Value), off + k + l.length ≤ arr.size →
    (l.zipIdx k).foldl (fun cs p => cs.setIfInBounds (off + p.2) p.1) arr = (put1 arr.toList (off + k) l).toArray
  | [], k, arr, _ => by simp [put1]
  | c :: l, k, arr, hl => by
    simp only [List.length_cons] at hl
    simp only [List.zipIdx_cons, List.foldl_cons]
    rw [foldl_put off l (k + 1) _ (by simp; omega)]
    congr 1
    apply List.ext_getElem?
    intro n
    rw [put1_get (all := (arr.setIfInBounds (off + k) c).toList) (o := off + (k + 1)) (cs := l) (by simp; omega) n, put1_get (all := arr.toList) (o := off + k) (cs := c :: l) (by simp; omega) n]
    simp only [Array.toList_setIfInBounds, List.getElem?_set, List.length_cons]
    by_cases h1 : n < off + k
    · rw [if_pos h1, if_pos (by omega), if_neg (by omega)]
    · rw [if_neg h1]
      by_cases h2 : n = off + k
      · subst h2
        rw [if_pos (by omega), if_pos rfl, if_pos (by simp; omega), if_pos (by omega)]
        simp
      · rw [if_neg (by omega)]
        by_cases h3 : n < off + (k + 1) + l.length
        · rw [if_pos h3, if_pos (by omega), show n - (off + k) = (n - (off + (k + 1))) + 1 by omega]
          simp
        · rw [if_neg h3, if_neg (by omega), if_neg (by omega)]

theorem fill_one {place : Nat → Option (Nat × Nat)} {cells : Array Value} {i off size : Nat} {v : Value} {rest : List (Nat × Value)} (hp : place i = some (off, size)) (hs : v.cells.size = size) (hf : off + size ≤ cells.size) :
    Instr.fill place cells ((i, v) :: rest) = Instr.fill place (put1 cells.toList off v.cells.toList).toArray rest := by
  rw [Instr.fill, hp]
  dsimp only
  rw [if_neg (by simp [hs]; omega)]
  congr 1
  rw [← Array.foldl_toList, Array.toList_zipIdx]
  exact foldl_put off v.cells.toList 0 cells (by simp; omega)

theorem fillS_ok (hE : EnvOk0 P E) {z : Z} {fs : List (Nat × TypeId)} {place : Nat → Option (Nat × Nat)}
    (hpl : ∀ i off ft fty, nth fs i = some (off, ft) → E.ty ft = some fty → place i = some (off, fty.size)) (ev : Operand → Value) :
    ∀ (l : List (Nat × Operand)) (c c' : List SV) (cs : List Value), (∀ x ∈ l, V z (gt x.2) (ev x.2)) → VL z c cs → isCellL c = true → fillS E fs (l.map fun p => (p.1, gt p.2)) c = some c' →
      ∃ cs', Instr.fill place cs.toArray (l.map fun p => (p.1, ev p.2)) = some cs'.toArray ∧ VL z c' cs' ∧ isCellL c' = true
  | [], c, c', cs, _, hv, hc, hf => by
    simp only [List.map_nil, fillS, Option.some.injEq] at hf
    subst hf
    exact ⟨cs, rfl, hv, hc⟩
  | (i, x) :: l, c, c', cs, hx, hv, hc, hf => by
    simp only [List.map_cons, fillS] at hf
    split at hf
    · cases hf
    · rename_i off ft hn
      split at hf
      · rename_i fty d hft hd
        cases hcond : (Nat.beq d.length fty.size && Nat.ble (off + d.length) c.length) with
        | false => rw [hcond] at hf; cases hf
        | true =>
          rw [hcond] at hf
          simp only [cond_true] at hf
          simp only [Bool.and_eq_true] at hcond
          have e1 := Nat.eq_of_beq_eq_true hcond.1
          have e2 := Nat.le_of_ble_eq_true hcond.2
          obtain ⟨h1, h2⟩ := flat_ok (hx (i, x) (by simp)) hd
          have e3 := h1.length
          have e4 := hv.length
          simp only [List.map_cons]
          rw [fill_one (hpl i off ft fty hn hft) (by rw [← e1, e3]; simp) (by simp; omega)]
          exact fillS_ok hE hpl ev l _ c' _ (fun y hy => hx y (by simp [hy])) (hv.put1 h1) (isCellL_append (isCellL_append (isCellL_take _ hc) h2) (isCellL_drop _ hc)) hf
      · cases hf

theorem places_ok (hE : EnvOk0 P E) : ∀ (fields : List Field), (∀ f ∈ fields, ∃ fi, E.ti f.type = some fi) →
    ∃ places, fields.mapM (fun f => (P.info? f.type).map fun i => (f.offset, i.size)) = some places ∧ places.length = fields.length ∧
      ∀ (i : Nat) (fd : Field), fields[i]? = some fd → ∀ fty, E.ty fd.type = some fty → places[i]? = some (fd.offset, fty.size)
  | [], _ => ⟨[], by simp, rfl, fun i fd h => by simp at h⟩
  | f :: fields, hf => by
    obtain ⟨fi, hfi⟩ := hf f (by simp)
    obtain ⟨inf, h1, h2, _⟩ := (hE.ti _ fi hfi).info
    obtain ⟨places, h3, h4, h5⟩ := places_ok hE fields (fun g hg => hf g (by simp [hg]))
    refine ⟨(f.offset, inf.size) :: places, by simp [List.mapM_cons, h1, h3], by simp [h4], fun i fd hi fty hty => ?_⟩
    cases i with
    | zero =>
      simp only [List.getElem?_cons_zero, Option.some.injEq] at hi ⊢
      subst hi
      unfold Env.ty at hty
      rw [hfi] at hty
      simp only [Option.map_some, Option.some.injEq] at hty
      rw [h2, hty]
    | succ i =>
      simp only [List.getElem?_cons_succ] at hi ⊢
      exact h5 i fd hi fty hty

theorem map_parts {α : Type} {f : Operand → α} (ps : Array (Nat × Operand)) : (ps.map fun (i, x) => (i, f x)).toList = ps.toList.map fun p => (p.1, f p.2) := by
  rw [Array.toList_map]

theorem build_ok (hE : EnvOk0 P E) {t : TypeId} {ps : Array (Nat × Operand)} {K : SV → Option R} {r : R} (ho : o.op = .build t ps)
    (he : buildS E h t (ps.toList.map fun p => (p.1, gt p.2)) K = some r) : ∃ v, StepOk P o gt h v h ∧ K v = some r := by
  unfold buildS at he
  split at he
  · rename_i ty bs fs hi
    split at he
    · rename_i c hc
      refine ⟨_, stepOk_val (fun rho => Instr.build t (ps.map fun (i, x) => (i, rho x))) (fun rho => by unfold execOp; rw [ho]) (fun g a w rho hinv hv => ?_), he⟩
      obtain ⟨fields, k1, k2, k3, k4⟩ := struct_desc hE hi
      obtain ⟨inf, m1, m2, _, m3⟩ := (hE.ti t _ hi).info
      obtain ⟨places, p1, p2, p3⟩ := places_ok hE fields.toList (fun f hf => by
        obtain ⟨fi, h⟩ := k3 (f.offset, f.type) (by rw [← k2]; exact List.mem_map.2 ⟨f, hf, rfl⟩)
        exact ⟨fi, h⟩)
      have hz : VL (zOf g rho h w) (zeroC ty) (zeroVals ty) := zeroC_VL ty
      obtain ⟨cs', f1, f2, f3⟩ := fillS_ok (P := P) (gt := gt) hE (z := zOf g rho h w) (fs := fs) (place := fun i => places.toArray[i]?) (fun i off ft fty hn hft => by
        obtain ⟨fd, q1, q2, q3⟩ := field_get k2 hn
        have := p3 i fd (by rw [Array.getElem?_toList]; exact q1) fty (by rw [q3]; exact hft)
        simpa [q2] using this) a.eval ps.toList (zeroC ty) c (zeroVals ty) (fun x hx => hv x.2 (by rw [ho]; simp only [Op.operands]; simpa using ⟨x.1, by simpa using hx⟩)) hz (zeroC_isCell ty) hc
      refine ⟨.agg cs'.toArray, ?_, regroup_ok (z := zOf g rho h w) hinv.sim k4 f2⟩
      apply Go.run_build
      unfold Program.built
      rw [m1, k1]
      dsimp only
      rw [m3, p1]
      dsimp only
      rw [map_parts]
      have hcells : (mkV ty (zeroVals ty)).cells = (zeroVals ty).toArray := by
        have := (zeroVals_TR (im := fun _ => False) (w := w) (o := false) ty).cells
        exact Array.toList_inj.1 (by simpa using this)
      rw [hcells]
      exact f1
    · cases he
  · cases he

/-! ### New lists -/
theorem Inv.world {g : G} {rho : Rho} {w w' : World} (hi : Inv g rho h w) (hw : Same w w') : Inv g rho h w' ∧ Ext (zOf g rho h w) (zOf g rho h w') := by
  have he : Ext (zOf g rho h w) (zOf g rho h w') := ⟨fun k hk => ⟨⟨hk.1, by rw [hw.heap]; exact hk.2.1, hk.2.2⟩, by show w'.heap[k]? = _; rw [hw.heap]; rfl⟩, fun _ => BlkLe.refl _ _⟩
  refine ⟨⟨fun b d hd => (hi.sim b d hd).ext he (fun _ k _ => by show w'.heap[k]? = _; rw [hw.heap]; rfl), hi.disj, hi.nodup, fun b d hd hl k hk => by rw [hw.heap]; exact hi.range b d hd hl k hk, ?_⟩, he⟩
  exact ⟨by rw [hw.heap]; exact hi.kept.1, fun k hk hn => by rw [hw.heap]; exact hi.kept.2 k hk hn, hi.kept.3.trans (Frz.of_eq hw)⟩

theorem pushed_arr {g : G} {rho : Rho} {w : World} {a : Ty} {xs : List a.den} {inner : List Value} {all : Array Value} {e : TypeId} {cap : Nat} (hi : Inv g rho h w) (hn : a.noUq = true) (hp : 0 < a.size)
    (hr : Reps (TR (Im g rho h w) w false a) xs inner []) (hall : ∀ (j : Nat) (c : Value), inner[j]? = some c → all[j]? = some c) (hsz : cap * a.size ≤ all.size) (hx : xs.length ≤ cap) (v : Nat) :
    Inv g (rset rho h.length (.s (some ⟨w.heap.size, 0, none⟩) cap [w.heap.size])) (h ++ [.arr v a xs]) (pushW w (.cells all e (0, 0))) ∧
      Ext (zOf g rho h w) (zOf g (rset rho h.length (.s (some ⟨w.heap.size, 0, none⟩) cap [w.heap.size])) (h ++ [.arr v a xs]) (pushW w (.cells all e (0, 0)))) ∧
      V (zOf g (rset rho h.length (.s (some ⟨w.heap.size, 0, none⟩) cap [w.heap.size])) (h ++ [.arr v a xs]) (pushW w (.cells all e (0, 0)))) (.own h.length v) (.slice (some ⟨w.heap.size, 0, none⟩) xs.length cap) := by
  have hext := pushed_ext hi (.cells all e (0, 0)) (.arr v a xs) (.s (some ⟨w.heap.size, 0, none⟩) cap [w.heap.size]) (by simp [D.blks])
  refine ⟨pushed_inv hi _ _ _ (by simp [D.blks]) (by simp [D.blks]) ?_, hext, ?_⟩
  · refine ⟨_, cap, _, rfl, ⟨_, cap, rfl, hx, ?_⟩, hp⟩
    simp only [Bool.and_self, if_true]
    refine ⟨trivial, inner, [], rfl, ⟨all, e, push_new, by simpa using hsz, by simpa using hall⟩, Reps.ofRo hn (hr.imp (fun y c S1 hs hr => ?_))⟩
    have : S1 = [] := List.eq_nil_iff_forall_not_mem.2 (fun b hb => by simpa using hs b hb)
    subst this
    exact hr.mono hext.im _ _ _ _ _ (by simp)
  · simp only [V]
    refine ⟨⟨_, _, _, rfl⟩, ?_⟩
    show match nth (h ++ [Blk.arr v a xs]) h.length with | some (.arr v' t x) => _ | some _ => True | none => False
    rw [nth_snoc]
    exact ⟨Nat.le_refl _, fun _ => ⟨_, _, _, rset_same, rfl⟩⟩

theorem Reps.imIn {im im' : Nat → Prop} {w : World} {a : Ty} {xs : List a.den} {cs : List Value} (hi : ∀ k, im k → im' k) (h : Reps (TR im w false a) xs cs []) : Reps (TR im' w false a) xs cs [] :=
  h.imp (fun y c S1 hs hr => by
    have : S1 = [] := List.eq_nil_iff_forall_not_mem.2 (fun b hb => by simpa using hs b hb)
    subst this
    exact hr.im hi)

theorem Reps.append {α : Type} {T : α → List Value → List Nat → Prop} : ∀ {xs ys : List α} {cs ds : List Value}, Reps T xs cs [] → Reps T ys ds [] → Reps T (xs ++ ys) (cs ++ ds) []
  | [], _, cs, ds, h, h' => by rw [h.1]; exact h'
  | x :: xs, ys, cs, ds, ⟨c1, c2, S1, S2, h1, h2, h3, h4⟩, h' => by
    have e : S1 = [] ∧ S2 = [] := by have := h2.symm; simpa using this
    obtain ⟨rfl, rfl⟩ := e
    subst h1
    exact ⟨c1, c2 ++ ds, [], [], by simp, rfl, h3, Reps.append h4 h'⟩

theorem TR.noSl {im im' : Nat → Prop} {w w' : World} : ∀ {t : Ty} {x : t.den} {cs : List Value}, t.hasSl = false → TR im w false t x cs [] → TR im' w' false t x cs [] := by
  intro t
  induction t with
  | int k => intro x cs _ h; exact h
  | bool => intro x cs _ h; exact h
  | str => intro x cs _ h; exact h
  | unit => intro x cs _ h; exact h
  | pair a b iha ihb =>
    intro x cs hn h
    simp only [Ty.hasSl, Bool.or_eq_false_iff] at hn
    obtain ⟨c1, c2, S1, S2, h1, h2, h3, h4⟩ := h
    have e : S1 = [] ∧ S2 = [] := by have := h2.symm; simpa using this
    obtain ⟨rfl, rfl⟩ := e
    exact ⟨c1, c2, [], [], h1, rfl, iha hn.1 h3, ihb hn.2 h4⟩
  | sl u a _ => intro x cs hn _; cases hn

theorem Reps.noSl {im im' : Nat → Prop} {w w' : World} {t : Ty} (hn : t.hasSl = false) {xs : List t.den} {cs : List Value} (h : Reps (TR im w false t) xs cs []) : Reps (TR im' w' false t) xs cs [] :=
  h.imp (fun y c S1 hs hr => by
    have : S1 = [] := List.eq_nil_iff_forall_not_mem.2 (fun b hb => by simpa using hs b hb)
    subst this
    exact hr.noSl hn)

theorem Reps.one {α : Type} {T : α → List Value → List Nat → Prop} (ho : ∀ x c S, T x c S → ∀ u ∈ c, Sx.one u = true) : ∀ {xs : List α} {cs : List Value} {S : List Nat}, Reps T xs cs S → ∀ u ∈ cs, Sx.one u = true
  | [], _, _, h, u, hu => by rw [h.1] at hu; cases hu
  | _ :: _, _, _, ⟨c1, c2, S1, S2, h1, h2, h3, h4⟩, u, hu => by
    subst h1
    rcases List.mem_append.1 hu with h | h
    · exact ho _ _ _ h3 u h
    · exact Reps.one ho h4 u h

theorem TR.ones {im : Nat → Prop} {w : World} : ∀ {t : Ty} {x : t.den} {cs : List Value} {S : List Nat}, TR im w false t x cs S → ∀ u ∈ cs, Sx.one u = true := by
  intro t
  induction t with
  | pair a b iha ihb =>
    intro x cs S h u hu
    obtain ⟨c1, c2, S1, S2, h1, h2, h3, h4⟩ := h
    subst h1
    rcases List.mem_append.1 hu with h | h
    · exact iha h3 u h
    · exact ihb h4 u h
  | unit => intro x cs S h u hu; rw [h.1] at hu; cases hu
  | int k => intro x cs S h u hu; obtain ⟨c, e, ho⟩ := h.scalar rfl; rw [e] at hu; simp at hu; rw [hu]; exact ho
  | bool => intro x cs S h u hu; obtain ⟨c, e, ho⟩ := h.scalar rfl; rw [e] at hu; simp at hu; rw [hu]; exact ho
  | str => intro x cs S h u hu; obtain ⟨c, e, ho⟩ := h.scalar rfl; rw [e] at hu; simp at hu; rw [hu]; exact ho
  | sl u' a _ => intro x cs S h u hu; obtain ⟨c, e, ho⟩ := h.scalar rfl; rw [e] at hu; simp at hu; rw [hu]; exact ho

/-- the cells behind a list that is read -/
theorem list_cells {im : Nat → Prop} {w : World} {a : Ty} {ys : List a.den} {c : Value} (ht : TR im w false (.sl false a) ys [c] []) :
    ∃ A cap inner, c = .slice A ys.length cap ∧ Reps (TR im w false a) ys inner [] ∧ (∀ (P : Program) (w' : World), w'.heap = w.heap → (Builtin.firstCells a.size ys.length c).run P w' = .ok inner.toArray w') := by
  obtain ⟨A, cap, h1, h2, h3⟩ := ht
  simp only [List.cons.injEq, and_true] at h1
  subst h1
  simp only [Bool.false_and, Bool.false_eq_true, if_false] at h3
  by_cases hy : ys = []
  · subst hy
    refine ⟨A, cap, [], rfl, ⟨rfl, rfl⟩, fun P w' _ => ?_⟩
    cases A with
    | none => rfl
    | some ad => simp [Builtin.firstCells, loadCells, loadCellsFrom]
  · obtain ⟨ad, inner, e1, e2, e3, e4, e5⟩ := h3.2 hy
    subst e1
    refine ⟨some ad, cap, inner, rfl, e5, fun P w' hw => ?_⟩
    have hr : Reads w' ad inner := e4.mono (by rw [hw])
    exact Sx.run_loadCells e2 (Reps.len (fun _ _ _ hr => hr.len) e5) hr

theorem makeSlice_ok (hE : EnvOk0 P E) {t : TypeId} {n c : Operand} {K : SV → List Blk → Option R} {r : R} (ho : o.op = .makeSlice t n c)
    (he : makeSliceS E h t (gt n) (gt c) K = some r) : ∃ v h', StepOk P o gt h v h' ∧ K v h' = some r := by
  unfold makeSliceS at he
  split at he
  · rename_i ty bs e hi
    split at he
    · rename_i a x y ha hx hy
      split at he
      · rename_i h0
        split at he
        · rename_i h1
          split at he
          · rename_i h2
            cases hnu : a.noUq with
            | false => rw [hnu] at he; cases he
            | true =>
              rw [hnu] at he
              simp only [cond_true] at he
              refine ⟨_, _, fun g ac w rho hinv hv next Q hn => ?_, he⟩
              have e1 := asI_V (hv n (by rw [ho]; simp [Op.operands])) hx
              have e2 := asI_V (hv c (by rw [ho]; simp [Op.operands])) hy
              obtain ⟨d, k1, k2, k3⟩ := (hE.ti t _ hi).desc
              obtain ⟨k4, ie, k5, k6⟩ := k3
              obtain ⟨inf, d', m1, m2, m3, m4, m5, m6, m7⟩ := ty_ti hE ha
              have hlim : y ≤ 4294967296 := by unfold lim at h2; omega
              have hmul : (inf.bytes : Int) * y ≤ 281474976710656 := by
                have h3 : (inf.bytes : Int) ≤ 1024 := by omega
                have h4 : (inf.bytes : Int) * y ≤ 1024 * y := Int.mul_le_mul_of_nonneg_right h3 (by omega)
                omega
              have hrun := run_make (P := P) w t e inf _ (by rw [k1, k4]) m1 m3 .i64 .i64 x y h0 h1 hmul (by omega)
              have hz : (mkV a (zeroVals a)).cells = (zeroVals a).toArray := by
                have := (zeroVals_TR (im := fun _ => False) (w := w) (o := false) a).cells
                exact Array.toList_inj.1 (by simpa using this)
              have hzl : (zeroVals a).length = a.size := (zeroVals_TR (im := fun _ => False) (w := w) (o := false) a).len
              rw [hz, m2] at hrun
              have hreps : ∀ m : Nat, Reps (TR (Im g rho h w) w false a) (List.replicate m (zeroD a)) (List.replicate m (zeroVals a)).flatten [] := by
                intro m
                induction m with
                | zero => exact ⟨rfl, rfl⟩
                | succ m ih => exact ⟨zeroVals a, _, [], [], by simp [List.replicate_succ], rfl, zeroVals_TR a, ih⟩
              have hget : ∀ (m j : Nat) (u : Value), (List.replicate m (zeroVals a)).flatten[j]? = some u → (zeroVals a)[j % a.size]? = some u := by
                intro m
                induction m with
                | zero => intro j u hj; simp at hj
                | succ m ih =>
                  intro j u hj
                  simp only [List.replicate_succ, List.flatten_cons] at hj
                  by_cases hjl : j < (zeroVals a).length
                  · rw [List.getElem?_append_left hjl] at hj
                    rw [Nat.mod_eq_of_lt (by omega)]; exact hj
                  · rw [List.getElem?_append_right (by omega)] at hj
                    have := ih _ u hj
                    rw [hzl] at this
                    rw [Nat.mod_eq_sub_mod (by omega)]; exact this
              have hlen : ∀ m : Nat, (List.replicate m (zeroVals a)).flatten.length = m * a.size := by
                intro m
                induction m with
                | zero => simp
                | succ m ih => simp only [List.replicate_succ, List.flatten_cons, List.length_append, ih, hzl, Nat.add_mul]; omega
              have hxy : x.toNat ≤ y.toNat := by omega
              obtain ⟨i1, i2, i3⟩ := pushed_arr (all := madeCells (zeroVals a).toArray (y.toNat * a.size)) (e := e) (cap := y.toNat) hinv hnu m6 (hreps x.toNat) (by
                intro j u hj
                have hjl : j < x.toNat * a.size := by
                  rw [← hlen]
                  exact (List.getElem?_eq_some_iff.1 hj).1
                have hjl2 : j < y.toNat * a.size := Nat.lt_of_lt_of_le hjl (Nat.mul_le_mul_right _ hxy)
                have hu := hget _ j u hj
                simp only [madeCells, Array.getElem?_map, Array.getElem?_range, hjl2, if_true, Option.map_some, List.size_toArray, hzl]
                congr 1
                have hm : j % a.size < (zeroVals a).toArray.size := by simp [hzl]; exact Nat.mod_lt _ m6
                rw [getElem!_pos (zeroVals a).toArray (j % a.size) hm]
                have := List.getElem?_eq_some_iff.1 hu
                obtain ⟨hq, hq2⟩ := this
                simpa using hq2) (by rw [size_madeCells]; exact Nat.le_refl _) (by simpa using hxy) 0
              unfold Oper.wp
              have hexec : (execOp ac.eval o).run P w = .ok (.value (.slice (some ⟨w.heap.size, 0, none⟩) x.toNat y.toNat)) (pushW w (.cells (madeCells (zeroVals a).toArray (y.toNat * a.size)) e (0, 0))) := by
                unfold execOp
                rw [ho]
                dsimp only
                rw [e1, e2]
                show ((Instr.makeSlice t (.int .i64 x) (.int .i64 y) >>= fun v => pure (.value v)) : Sem Next).run P w = _
                rw [Sx.run_bind_ok hrun]
                rfl
              rw [hexec]
              simp only [List.length_replicate] at i3
              exact hn _ _ _ i1 i3 i2
          · cases he
        · cases he
      · cases he
    · cases he
  · cases he

end
end Go.Sx

namespace Go.Sx
open Go

section
variable {R : Type} {P : Program} {E : Env} {o : Oper} {gt : Operand → SV} {h : List Blk}

theorem run_askRoom {n : Nat} {w : World} : (askRoom n).run P w = .ok () w := by
  unfold askRoom
  split <;> rfl

theorem run_choose_cap {need old : Nat} {e : TypeId} {w : World} : ∃ c, (choose (.appendCap need old e)).run P w = .ok c { w with drawn := w.drawn + 1 } ∧ need ≤ c := by
  refine ⟨(Question.appendCap need old e).cut (w.tape w.drawn (.appendCap need old e)), ?_, ?_⟩
  · unfold choose
    simp only [Sem.run, Question.forced, Bool.false_eq_true, if_false]
  · simp only [Question.cut]; omega

theorem nextcap_le {n c : Nat} (h : c < n) (hn : n ≤ 4294967296) : Builtin.nextslicecap n c ≤ 2 * n + 512 := by
  unfold Builtin.nextslicecap
  split
  · omega
  · split
    · omega
    · have grow : ∀ (r c : Nat), c < n → Builtin.growBy n r c ≤ 2 * n + 512 := by
        intro r
        induction r with
        | zero => intro c hc; simp only [Builtin.growBy]; omega
        | succ r ih =>
          intro c hc
          simp only [Builtin.growBy]
          split
          · omega
          · by_cases h2 : c + (c + 768) / 4 < n
            · exact ih _ h2
            · cases r with
              | zero => simp only [Builtin.growBy]; omega
              | succ r => simp only [Builtin.growBy]; rw [if_pos (by omega)]; omega
      exact grow 4 c h

theorem small_room {k : Nat} (h : k ≤ 4294967296) : (2 * k + 512) * 1024 ≤ 281474976710656 := by omega

/-- both arms of 'append' -/
theorem run_append {t t' e ty : TypeId} {d : TypeDesc} {inf : TypeInfo} {z : Value} {sz : Nat} (ht : P.underlying t = some (.slice e)) (ht' : P.underlying t' = some d) (hd : (∃ u, d = .slice u) ∨ d = .string)
    (hi : P.info? e = some inf) (hsz : inf.size = sz) (hz : inf.zero = some z) (hzc : z.cells.size = sz) (hb : inf.bytes ≤ 1024) {base : Option Addr} {n cap : Nat} {x : Value} {m : Nat} {news olds : List Value} {w : World}
    (hl : ∀ w' : World, (Builtin.lenOf x).run P w' = .ok m w') (hnews : ∀ w' : World, w'.heap = w.heap → (Builtin.firstCells sz m x).run P w' = .ok news.toArray w')
    (holds : ∀ w' : World, w'.heap = w.heap → (Builtin.firstCells sz n (.slice base n cap)).run P w' = .ok olds.toArray w') (hlo : olds.length = n * sz) (hln : news.length = m * sz) (hlim : n + m ≤ lim) :
    (n + m ≤ cap → (Builtin.append_ #[t, t'] ty #[.slice base n cap, x]).run P w =
      match base with
      | some a => (match (storeCells (a.add (n * sz)) news).run P w with | .ok _ w' => .ok (.slice base (n + m) cap) w' | .halt h w' => .halt h w')
      | none => .ok (.slice base (n + m) cap) w) ∧
    (cap < n + m → ∃ (newCap : Nat) (rest : List Value) (wd : World), n + m ≤ newCap ∧ Same w wd ∧ rest.length = (newCap - (n + m)) * sz ∧
      (Builtin.append_ #[t, t'] ty #[.slice base n cap, x]).run P w = .ok (.slice (some ⟨w.heap.size, 0, none⟩) (n + m) newCap) (pushW wd (.cells (olds ++ news ++ rest).toArray e (0, 0)))) := by
  rcases hd with ⟨u, rfl⟩ | rfl
  all_goals
    constructor
    · intro hfit
      unfold Builtin.append_
      simp only [List.getElem?_toArray, List.getElem?_cons_zero, List.getElem?_cons_succ]
      rw [Sx.run_bind_ok (Sx.run_underlying ht)]
      dsimp only
      rw [Sx.run_bind_ok (Sx.run_sizeOf hi), Sx.run_bind_ok (Sx.run_underlying ht'), Sx.run_bind_ok (Sx.run_pure P _ _)]
      dsimp only
      simp only [Bool.false_eq_true, if_false]
      rw [Sx.run_bind_ok (hl w), if_pos hfit]
      simp only [Bool.not_false, if_true]
      rw [hsz, Sx.run_bind_ok (hnews w rfl)]
      cases base with
      | none => rfl
      | some a =>
        dsimp only
        rw [Sx.run_bind]
        cases (storeCells (a.add (n * sz)) news).run P w <;> rfl
    · intro hgrow
      unfold lim at hlim
      have hnc := nextcap_le hgrow hlim
      have hby : Builtin.nextslicecap (n + m) cap * inf.bytes ≤ 281474976710656 := by
        exact Nat.le_trans (Nat.mul_le_mul hnc hb) (small_room hlim)
      obtain ⟨newCap, hch, hle⟩ := run_choose_cap (P := P) (need := n + m) (old := cap) (e := e) (w := w)
      have hzz : (Builtin.zeroCells z.cells (newCap - (n + m))).toList.length = (newCap - (n + m)) * sz := by
        simp [Builtin.zeroCells, hzc]
      refine ⟨newCap, (Builtin.zeroCells z.cells (newCap - (n + m))).toList, { w with drawn := w.drawn + 1 }, hle, ⟨rfl, rfl, rfl⟩, hzz, ?_⟩
      unfold Builtin.append_
      simp only [List.getElem?_toArray, List.getElem?_cons_zero, List.getElem?_cons_succ]
      rw [Sx.run_bind_ok (Sx.run_underlying ht)]
      dsimp only
      rw [Sx.run_bind_ok (Sx.run_sizeOf hi), Sx.run_bind_ok (Sx.run_underlying ht'), Sx.run_bind_ok (Sx.run_pure P _ _)]
      dsimp only
      simp only [Bool.false_eq_true, if_false]
      rw [Sx.run_bind_ok (hl w), if_neg (by omega)]
      rw [Sx.run_bind_ok (Sx.run_typeInfo hi)]
      rw [if_neg (by
        rintro ⟨h1, _⟩
        have hmx : IntKind.i64.max = 9223372036854775807 := by decide
        rw [hmx] at h1
        omega)]
      rw [Sx.run_bind_ok (Sx.run_typeInfo hi), if_neg (Nat.not_lt.2 (Nat.le_trans hby (by decide)))]
      rw [Sx.run_bind_ok hch, Sx.run_bind_ok (Sx.run_typeInfo hi), Sx.run_bind_ok run_askRoom, hsz, Sx.run_bind_ok (holds { w with drawn := w.drawn + 1 } rfl)]
      simp only [Bool.not_false, if_true]
      rw [Sx.run_bind_ok (hnews { w with drawn := w.drawn + 1 } rfl), Sx.run_bind_ok (Sx.run_zeroValue hi hz)]
      rw [Sx.run_bind_ok run_newRow]
      have : (olds.toArray ++ news.toArray ++ Builtin.zeroCells z.cells (newCap - (n + m))) = (olds ++ news ++ (Builtin.zeroCells z.cells (newCap - (n + m))).toList).toArray := by
        apply Array.ext'
        simp
      rw [this]
      rfl

theorem byteInts_cells {im : Nat → Prop} {w : World} (s : ByteArray) : Reps (TR im w false (.int .u8)) (byteInts s) (s.data.toList.map fun b => Value.int .u8 b.toNat) [] := by
  unfold byteInts
  induction s.data.toList with
  | nil => exact ⟨rfl, rfl⟩
  | cons b l ih => exact ⟨[.int .u8 b.toNat], _, [], [], rfl, rfl, ⟨rfl, rfl⟩, ih⟩

theorem castReps {im : Nat → Prop} {w : World} {s t : Ty} {xs : List s.den} {ys : List t.den} (h : toD (.sl false s) (.sl false t) xs = some ys) {cs : List Value} (hr : Reps (TR im w false s) xs cs []) :
    Reps (TR im w false t) ys cs [] ∧ ys.length = xs.length ∧ s.eqv t = true := by
  unfold toD at h
  split at h
  · rename_i he
    have he' : s.eqv t = true := he
    simp only [Option.some.injEq] at h
    subst h
    refine ⟨?_, length_cast (Ty.den_eqv he') xs, he'⟩
    have h9 : Reps (fun y c S => S = [] ∧ TR im w false s y c []) xs cs [] := hr.imp (fun y c S1 hs hr => by
      have : S1 = [] := List.eq_nil_iff_forall_not_mem.2 (fun b hb => by simpa using hs b hb)
      subst this; exact ⟨rfl, hr⟩)
    exact reps_cast (Ty.den_eqv he') (fun y c S hy => by obtain ⟨rfl, hy⟩ := hy; exact TR.castD he' hy) h9
  · cases h

/-- what is put behind a list: its cells -/
theorem moreD_ok (hE : EnvOk0 P E) {t' : TypeId} {a : Ty} {x : SV} {ys : List a.den} (hm : moreD E h t' a x = some ys) :
    ∃ d, P.underlying t' = some d ∧ ((∃ u, d = .slice u) ∨ d = .string) ∧ ∀ (g : G) (w : World) (rho : Rho) (c : Value), Inv g rho h w → V (zOf g rho h w) x c →
      ∃ inner, Reps (TR (lentIm (zOf g rho h w) true (refs x)) w false a) ys inner [] ∧ (∀ w' : World, (Builtin.lenOf c).run P w' = .ok ys.length w') ∧
        ∀ w' : World, w'.heap = w.heap → (Builtin.firstCells a.size ys.length c).run P w' = .ok inner.toArray w' := by
  unfold moreD at hm
  cases hsx : isStrV x with
  | true =>
    rw [hsx] at hm
    simp only [cond_true] at hm
    split at hm
    · rename_i s hs
      cases hok : okStr E t' with
      | false => rw [hok] at hm; cases hm
      | true =>
        rw [hok] at hm
        simp only [cond_true] at hm
        refine ⟨.string, okStr_desc hE hok, .inr rfl, fun g w rho c hi hv => ?_⟩
        rw [asS_V hv hs]
        obtain ⟨h1, h2, h3⟩ := castReps hm (byteInts_cells (im := lentIm (zOf g rho h w) true (refs x)) (w := w) s)
        have hlen : ys.length = s.size := by rw [h2]; simp [byteInts]
        refine ⟨_, h1, fun w' => by rw [hlen]; rfl, fun w' _ => ?_⟩
        rw [hlen]
        show (pure ((s.extract 0 s.size).data.map fun b => Value.int .u8 b.toNat) : Sem (Array Value)).run P w' = _
        rw [Sx.run_pure]
        congr 1
        apply Array.ext'
        simp
    · cases hm
  | false =>
    rw [hsx] at hm
    simp only [cond_false] at hm
    cases hok : okEl E t' a with
    | false => rw [hok] at hm; cases hm
    | true =>
      rw [hok] at hm
      simp only [cond_true] at hm
      obtain ⟨e, ie, inf, h1, _⟩ := okEl_desc hE hok
      refine ⟨.slice e, h1, .inl ⟨e, rfl⟩, fun g w rho c hi hv => ?_⟩
      obtain ⟨cs, h2, h3⟩ := toTy_ok (z := zOf g rho h w) hi.sim hv hm
      obtain ⟨c1, h4, _⟩ := h2.scalar rfl
      subst h4
      simp only [mkV, Ty.isAgg, Bool.false_eq_true, if_false, List.headD_cons] at h3
      subst h3
      obtain ⟨A, cap, inner, h5, h6, h7⟩ := list_cells h2
      exact ⟨inner, h6, fun w' => by rw [h5]; rfl, fun w' hw => h7 P w' hw⟩

theorem pushed_none {g : G} {rho : Rho} {w : World} {a : Ty} (hi : Inv g rho h w) (hp : 0 < a.size) (v : Nat) :
    Inv g (rset rho h.length (.s none 0 [])) (h ++ [.arr v a []]) w ∧ Ext (zOf g rho h w) (zOf g (rset rho h.length (.s none 0 [])) (h ++ [.arr v a []]) w) ∧
      V (zOf g (rset rho h.length (.s none 0 [])) (h ++ [.arr v a []]) w) (.own h.length v) (.slice none 0 0) := by
  have old : ∀ b d', rset rho h.length (.s none 0 []) b = some d' → live (nth (h ++ [Blk.arr v a []]) b) → (b = h.length ∧ d' = .s none 0 []) ∨ (b < h.length ∧ rho b = some d' ∧ live (nth h b)) := by
    intro b d' h1 h2
    rcases nth_snoc_cases h (Blk.arr v a []) b with ⟨e, _⟩ | ⟨e, h4⟩ | ⟨_, h4, _⟩
    · subst e; simp only [rset, if_pos] at h1; cases h1; exact .inl ⟨rfl, rfl⟩
    · have : b ≠ h.length := by omega
      simp only [rset, if_neg this] at h1
      rw [h4] at h2
      exact .inr ⟨e, h1, h2⟩
    · rw [h4] at h2; exact h2.elim
  have hext : Ext (zOf g rho h w) (zOf g (rset rho h.length (.s none 0 [])) (h ++ [.arr v a []]) w) := {
    im := fun k hk => by
      refine ⟨⟨hk.1, hk.2.1, ?_⟩, rfl⟩
      rintro ⟨b, d', h1, h2, h3⟩
      rcases old b d' h1 h2 with ⟨_, e⟩ | ⟨_, e1, e2⟩
      · subst e; simp [D.blks] at h3
      · exact hk.2.2 ⟨b, d', e1, e2, h3⟩
    le := fun b => by
      show BlkLe (rho b) (rset rho h.length (.s none 0 []) b) (nth h b) (nth (h ++ [Blk.arr v a []]) b)
      rcases nth_snoc_cases h (Blk.arr v a []) b with ⟨e, h4⟩ | ⟨e, h4⟩ | ⟨_, h4, h5⟩
      · subst e; rw [nth_none.2 (Nat.le_refl _)]; trivial
      · have : b ≠ h.length := by omega
        rw [h4]; simp only [rset, if_neg this]; exact BlkLe.refl _ _
      · rw [h5]; trivial }
  refine ⟨⟨?_, ?_, ?_, ?_, hi.kept⟩, hext, ?_⟩
  · intro b d' h1
    rcases nth_snoc_cases h (Blk.arr v a []) b with ⟨e, h4⟩ | ⟨e, h4⟩ | ⟨_, h4, _⟩
    · subst e; simp only [rset, if_pos] at h1; cases h1; rw [h4]
      exact ⟨none, 0, [], rfl, ⟨none, 0, rfl, Nat.le_refl _, by simp⟩, hp⟩
    · have hne : b ≠ h.length := by omega
      simp only [rset, if_neg hne] at h1
      rw [h4]
      exact (hi.sim b d' h1).ext hext (fun _ _ _ => rfl)
    · rw [h4]; trivial
  · intro b1 b2 d1 d2 h1 h2 l1 l2 hne k hk hk2
    rcases old b1 d1 h1 l1 with ⟨_, e⟩ | ⟨_, e1, e2⟩
    · subst e; simp [D.blks] at hk
    · rcases old b2 d2 h2 l2 with ⟨_, f⟩ | ⟨_, f1, f2⟩
      · subst f; simp [D.blks] at hk2
      · exact hi.disj b1 b2 d1 d2 e1 f1 e2 f2 hne k hk hk2
  · intro b1 d1 h1 l1
    rcases old b1 d1 h1 l1 with ⟨_, e⟩ | ⟨_, e1, e2⟩
    · subst e; simp [D.blks]
    · exact hi.nodup b1 d1 e1 e2
  · intro b1 d1 h1 l1 k hk
    rcases old b1 d1 h1 l1 with ⟨_, e⟩ | ⟨_, e1, e2⟩
    · subst e; simp [D.blks] at hk
    · exact hi.range b1 d1 e1 e2 k hk
  · simp only [V]
    refine ⟨⟨_, _, _, rfl⟩, ?_⟩
    show match nth (h ++ [Blk.arr v a []]) h.length with | some (.arr v' t x) => _ | some _ => True | none => False
    rw [nth_snoc]
    exact ⟨Nat.le_refl _, fun _ => ⟨_, _, _, rset_same, rfl⟩⟩

theorem own_at {z : Z} {b v cap n : Nat} {A : Option Addr} {S : List Nat} {a : Ty} {x : List a.den} (hb : nth z.h b = some (.arr v a x)) (hr : z.rho b = some (.s A cap S)) (hn : n = x.length) : V z (.own b v) (.slice A n cap) := by
  subst hn
  simp only [V]
  rw [hb]
  exact ⟨⟨_, _, _, rfl⟩, Nat.le_refl _, fun _ => ⟨A, cap, S, hr, rfl⟩⟩

theorem exec_builtin2 {c : Call} {x y : Operand} {t t' : TypeId} {a : Act} {w w' : World} {v : Value} (ho : o.op = .call c) (hc : c.callee = .builtin .append) (ha : c.args.toList = [x, y]) (hat : c.argTypes.toList = [t, t'])
    (hr : (Builtin.append_ #[t, t'] o.type #[a.eval x, a.eval y]).run P w = .ok v w') : (execOp a.eval o).run P w = .ok (.value v) w' := by
  have ea : c.args = #[x, y] := by rw [← Array.toList_inj, ha]
  have et : c.argTypes = #[t, t'] := by rw [← Array.toList_inj, hat]
  rw [execCall_builtin ho hc (fun rho => Builtin.append_ #[t, t'] o.type #[rho x, rho y]) (fun rho l => by rw [ea, et, show (#[x, y].map rho) = #[rho x, rho y] by simp]; rfl), Sx.run_bind_ok hr]
  rfl

theorem BlockAt.more {w : World} {ad : Addr} {n : Nat} {cs ds : List Value} (h : BlockAt w ad n cs) (hf : cs.length + ds.length ≤ n) :
    ∃ all e, w.heap[ad.block]? = some (.cells (all : List Value).toArray e (0, 0)) ∧ ad.off + cs.length + ds.length ≤ all.length ∧
      BlockAt (setBlock w ad.block (.cells (put1 all (ad.off + cs.length) ds).toArray e (0, 0))) ad n (cs ++ ds) := by
  obtain ⟨all, e, h1, h2, h3⟩ := h
  have hsz : all.toList.length = all.size := by simp
  refine ⟨all.toList, e, by rw [h1], by omega, (put1 all.toList (ad.off + cs.length) ds).toArray, e, setBlock_same h1, ?_, ?_⟩
  · simp only [List.size_toArray]; rw [put1_length (by omega)]; omega
  · intro j c hj
    simp only [List.getElem?_toArray]
    rw [put1_get (by omega)]
    by_cases k1 : j < cs.length
    · rw [if_pos (by omega)]
      rw [List.getElem?_append_left k1] at hj
      simpa using h3 j c hj
    · rw [if_neg (by omega)]
      rw [List.getElem?_append_right (by omega)] at hj
      have hjl : j - cs.length < ds.length := (List.getElem?_eq_some_iff.1 hj).1
      rw [if_pos (by omega), ← hj]
      congr 1; omega

/-- what comes behind an owned list, where there is room -/
theorem grow_here {g : G} {rho : Rho} {w : World} {b v cap : Nat} {ad : Addr} {S : List Nat} {a : Ty} {xs zs : List a.den} {inner news : List Value} (hi : Inv g rho h w) (hb : nth h b = some (.arr v a xs))
    (hr : rho b = some (.s (some ad) cap S)) (hs : ad.spot = none) (hS : S = [ad.block]) (hba : BlockAt w ad (cap * a.size) inner) (hx : Reps (TR (Im g rho h w) w false a) xs inner []) (hz : Reps (TR (Im g rho h w) w false a) zs news [])
    (hnu : a.noUq = true) (hp : 0 < a.size) (hfit : xs.length + zs.length ≤ cap) :
    ∃ w', (storeCells ⟨ad.block, ad.off + inner.length, none⟩ news).run P w = .ok () w' ∧ Inv g (rset rho b (.s (some ad) cap S)) (upd h b (.arr (v + 1) a (xs ++ zs))) w' ∧
      Ext (zOf g rho h w) (zOf g (rset rho b (.s (some ad) cap S)) (upd h b (.arr (v + 1) a (xs ++ zs))) w') := by
  have e1 := Reps.len (fun _ _ _ hr => hr.len) hx
  have e2 := Reps.len (fun _ _ _ hr => hr.len) hz
  have hroom : inner.length + news.length ≤ cap * a.size := by rw [e1, e2, ← Nat.add_mul]; exact Nat.mul_le_mul_right _ hfit
  obtain ⟨all, e, n1, n2, n3⟩ := hba.more hroom
  have hst := run_storeCells (P := P) (A := ⟨ad.block, ad.off + inner.length, none⟩) rfl rfl news 0 w all n1 (by simpa using n2) (Reps.one (fun _ _ _ hr => hr.ones) hz)
  simp only [Nat.add_zero] at hst
  refine ⟨_, hst, ?_⟩
  have hw : (if news = [] then w else setBlock w ad.block (.cells (put1 all (ad.off + inner.length) news).toArray e (0, 0))).heap.size = w.heap.size := by split; rfl; exact setBlock_size
  have hwk : ∀ k, k ≠ ad.block → (if news = [] then w else setBlock w ad.block (.cells (put1 all (ad.off + inner.length) news).toArray e (0, 0))).heap[k]? = w.heap[k]? := by
    intro k hk; split; rfl; exact setBlock_ne hk
  have hba' : BlockAt (if news = [] then w else setBlock w ad.block (.cells (put1 all (ad.off + inner.length) news).toArray e (0, 0))) ad (cap * a.size) (inner ++ news) := by
    split
    · rename_i hn; subst hn; simpa using hba
    · exact n3
  have T : Turn rho h w b (.s (some ad) cap S) (.s (some ad) cap S) (.arr (v + 1) a (xs ++ zs)) (if news = [] then w else setBlock w ad.block (.cells (put1 all (ad.off + inner.length) news).toArray e (0, 0))) := {
    at0 := hr
    live0 := by rw [hb]; trivial
    live1 := trivial
    size := by rw [hw]; exact Nat.le_refl _
    same := fun k _ hnk => hwk k (by intro ek; subst ek; exact hnk (by simp [D.blks, hS]))
    sub := fun k hk => .inl hk
    nodup := by simp [D.blks, hS]
    le := by rw [hb]; exact .inr ⟨_, _, _, rfl, .inl (by omega)⟩
    frz := by split; exact Frz.refl _; exact frz_set }
  have hext := turn_ext (g := g) T
  refine ⟨turn_inv hi T ?_, hext⟩
  refine ⟨some ad, cap, S, rfl, ⟨some ad, cap, rfl, by simpa using hfit, ?_⟩, hp⟩
  simp only [Bool.and_self, if_true]
  refine ⟨hs, inner ++ news, [], hS, hba', Reps.ofRo hnu ((hx.append hz).imp (fun y c S1 hs hr => ?_))⟩
  have : S1 = [] := List.eq_nil_iff_forall_not_mem.2 (fun b hb => by simpa using hs b hb)
  subst this
  exact hr.mono hext.im _ _ _ _ _ (by simp)

/-- .. and where there is none -/
theorem grow_there {g : G} {rho : Rho} {w wd : World} {b v cap newCap : Nat} {A : Option Addr} {S : List Nat} {a : Ty} {xs zs : List a.den} {inner news rest : List Value} {e : TypeId} (hi : Inv g rho h w) (hb : nth h b = some (.arr v a xs))
    (hr : rho b = some (.s A cap S)) (hx : Reps (TR (Im g rho h w) w false a) xs inner []) (hz : Reps (TR (Im g rho h w) w false a) zs news [])
    (hnu : a.noUq = true) (hp : 0 < a.size) (hfit : xs.length + zs.length ≤ newCap) (hwd : Same w wd) (hrest : rest.length = (newCap - (xs.length + zs.length)) * a.size) :
    Inv g (rset rho b (.s (some ⟨w.heap.size, 0, none⟩) newCap [w.heap.size])) (upd h b (.arr (v + 1) a (xs ++ zs))) (pushW wd (.cells (inner ++ news ++ rest).toArray e (0, 0))) ∧
      Ext (zOf g rho h w) (zOf g (rset rho b (.s (some ⟨w.heap.size, 0, none⟩) newCap [w.heap.size])) (upd h b (.arr (v + 1) a (xs ++ zs))) (pushW wd (.cells (inner ++ news ++ rest).toArray e (0, 0)))) := by
  have e1 := Reps.len (fun _ _ _ hr => hr.len) hx
  have e2 := Reps.len (fun _ _ _ hr => hr.len) hz
  have hsz : (pushW wd (.cells (inner ++ news ++ rest).toArray e (0, 0))).heap.size = w.heap.size + 1 := by simp [pushW, hwd.heap]
  have T : Turn rho h w b (.s A cap S) (.s (some ⟨w.heap.size, 0, none⟩) newCap [w.heap.size]) (.arr (v + 1) a (xs ++ zs)) (pushW wd (.cells (inner ++ news ++ rest).toArray e (0, 0))) := {
    at0 := hr
    live0 := by rw [hb]; trivial
    live1 := trivial
    size := by omega
    same := fun k hk _ => by
      show (wd.heap.push _)[k]? = _
      rw [hwd.heap]
      exact push_get hk
    sub := fun k hk => by
      simp only [D.blks, List.mem_singleton] at hk
      exact .inr ⟨by omega, by omega⟩
    nodup := by simp [D.blks]
    le := by rw [hb]; exact .inr ⟨_, _, _, rfl, .inl (by omega)⟩
    frz := (Frz.of_eq hwd).trans (frz_push wd _ rfl) }
  have hext := turn_ext (g := g) T
  refine ⟨turn_inv hi T ?_, hext⟩
  refine ⟨_, newCap, _, rfl, ⟨_, newCap, rfl, by simpa using hfit, ?_⟩, hp⟩
  simp only [Bool.and_self, if_true]
  refine ⟨trivial, inner ++ news, [], rfl, ⟨(inner ++ news ++ rest).toArray, e, ?_, ?_, ?_⟩, Reps.ofRo hnu ((hx.append hz).imp (fun y c S1 hs hr => ?_))⟩
  · show (wd.heap.push _)[w.heap.size]? = _
    rw [hwd.heap]
    exact push_new
  · simp only [Nat.zero_add, List.size_toArray, List.length_append, e1, e2, hrest, ← Nat.add_mul]
    exact Nat.mul_le_mul_right _ (by omega)
  · intro j c hj
    simp only [Nat.zero_add, List.getElem?_toArray]
    rw [List.getElem?_append_left (List.getElem?_eq_some_iff.1 hj).1]
    exact hj
  · have : S1 = [] := List.eq_nil_iff_forall_not_mem.2 (fun b hb => by simpa using hs b hb)
    subst this
    exact hr.mono hext.im _ _ _ _ _ (by simp)

theorem append_ok (hE : EnvOk0 P E) {c : Call} {x y : Operand} {t t' : TypeId} {K : SV → List Blk → Option R} {r : R} (ho : o.op = .call c) (hc : c.callee = .builtin .append)
    (ha : c.args.toList = [x, y]) (hat : c.argTypes.toList = [t, t']) (he : appendS E h t t' (gt x) (gt y) K = some r) : ∃ v h', StepOk P o gt h v h' ∧ K v h' = some r := by
  have hx1 : x ∈ o.op.operands.toList := by rw [ho]; simp [Op.operands, Call.operands, hc, ha]
  have hy1 : y ∈ o.op.operands.toList := by rw [ho]; simp [Op.operands, Call.operands, hc, ha]
  unfold appendS at he
  split at he
  · rename_i ty bs e hi
    split at he
    · rename_i a hae
      cases hnu : a.noUq with
      | false => rw [hnu] at he; cases he
      | true =>
        rw [hnu] at he
        simp only [cond_true] at he
        split at he
        · rename_i ys hys
          obtain ⟨d', q1, q2, q3⟩ := moreD_ok hE hys
          obtain ⟨d, k1, k2, k3⟩ := (hE.ti t _ hi).desc
          obtain ⟨k4, ie, k5, k6⟩ := k3
          obtain ⟨inf, d2, m1, m2, m3, m4, m5, m6, m7⟩ := ty_ti hE hae
          have hz : (mkV a (zeroVals a)).cells.size = a.size := by
            have h1 := (zeroVals_TR (im := fun _ => False) (w := default) (o := false) a).cells
            have h2 := (zeroVals_TR (im := fun _ => False) (w := default) (o := false) a).len
            rw [← Array.length_toList, h1, h2]
          have conv : ∀ (g : G) (w : World) (rho : Rho) (inner : List Value), Inv g rho h w → Reps (TR (lentIm (zOf g rho h w) true (refs (gt y))) w false a) ys inner [] →
              Reps (TR (Im g rho (kill h (bif a.hasSl then refs (gt y) else [])) w) w false a) ys inner [] := by
            intro g w rho inner hinv hr
            cases hsl : a.hasSl with
            | true => exact hr.imIn (fun k hk => lentIm_kill hinv hk)
            | false => exact hr.noSl hsl
          split at he
          · rename_i hgx
            split at he
            · rename_i hle
              refine ⟨_, _, fun g ac w rho hinv hv next Q hn => ?_, he⟩
              have hvx := hv x hx1
              rw [hgx] at hvx
              simp only [V] at hvx
              obtain ⟨inner, r1, r2, r3⟩ := q3 g w rho _ hinv (hv y hy1)
              have hil := Reps.len (fun _ _ _ hr => hr.len) r1
              have r1' := conv g w rho inner hinv r1
              have hik := kill_inv (bif a.hasSl then refs (gt y) else []) h hinv
              have hek := kill_ext (g := g) (rho := rho) (w := w) (bif a.hasSl then refs (gt y) else []) h
              obtain ⟨fit, grow⟩ := run_append (P := P) (ty := o.type) (base := none) (n := 0) (cap := 0) (olds := []) (by rw [k1, k4]) q1 q2 m1 m2 m3 hz m7 r2 r3 (fun w' _ => rfl) (by simp) hil (by omega)
              by_cases hy0 : ys = []
              · subst hy0
                have := fit (by simp)
                obtain ⟨i1, i2, i3⟩ := pushed_none (a := a) hik m6 0
                rw [kill_length] at i1 i2 i3
                unfold Oper.wp
                rw [exec_builtin2 (P := P) (a := ac) (w := w) (w' := w) (v := .slice none 0 0) ho hc ha hat (by rw [hvx]; simpa using this)]
                exact hn _ _ _ i1 i3 (hek.trans i2)
              · have hpos : 0 < ys.length := List.length_pos_iff.2 hy0
                obtain ⟨newCap, rest, wd, g1, g2, g3, g4⟩ := grow (by omega)
                obtain ⟨j1, j2⟩ := hik.world (w' := wd) g2
                have r1'' : Reps (TR (Im g rho (kill h (bif a.hasSl then refs (gt y) else [])) wd) wd false a) ys inner [] := r1'.imp (fun y' c' S1 hs hr => by
                  have : S1 = [] := List.eq_nil_iff_forall_not_mem.2 (fun b hb => by simpa using hs b hb)
                  subst this
                  exact hr.mono j2.im _ _ _ _ _ (by simp))
                obtain ⟨i1, i2, i3⟩ := pushed_arr (all := ([] ++ inner ++ rest).toArray) (e := e) (cap := newCap) j1 hnu m6 r1'' (by
                  intro j u hj
                  simp only [List.getElem?_toArray, List.nil_append]
                  rw [List.getElem?_append_left (by exact (List.getElem?_eq_some_iff.1 hj).1)]
                  exact hj) (by
                  simp only [List.nil_append, List.size_toArray, List.length_append, hil, g3, ← Nat.add_mul]
                  exact Nat.mul_le_mul_right _ (by omega)) (by omega) 0
                rw [kill_length] at i1 i2 i3
                unfold Oper.wp
                rw [exec_builtin2 (P := P) (a := ac) (w := w) ho hc ha hat (by rw [hvx]; exact g4)]
                rw [g2.heap] at i1 i2 i3
                simp only [Nat.zero_add]
                exact hn _ _ _ i1 i3 (hek.trans (j2.trans i2))
            · cases he
          · rename_i b v hgx
            split at he
            · rename_i v' a' xs hb
              split at he
              · rename_i ev
                subst ev
                split at he
                · rename_i zs hzs
                  cases hcond : (a'.noUq && !((refs (gt y)).any (Nat.beq b))) with
                  | false => rw [hcond] at he; cases he
                  | true =>
                    rw [hcond] at he
                    simp only [cond_true] at he
                    simp only [Bool.and_eq_true, Bool.not_eq_true'] at hcond
                    obtain ⟨hnu', hnb⟩ := hcond
                    have hnb := any_false hnb
                    split at he
                    · rename_i hle
                      refine ⟨_, _, fun g ac w rho hinv hv next Q hn => ?_, he⟩
                      have hvx := hv x hx1
                      rw [hgx] at hvx
                      obtain ⟨A, cap, S, u1, u2⟩ := V_own (z := zOf g rho h w) hvx hb rfl
                      obtain ⟨inner, r1, r2, r3⟩ := q3 g w rho _ hinv (hv y hy1)
                      have hil := Reps.len (fun _ _ _ hr => hr.len) r1
                      have hik := kill_inv (bif a.hasSl then refs (gt y) else []) h hinv
                      have hek := kill_ext (g := g) (rho := rho) (w := w) (bif a.hasSl then refs (gt y) else []) h
                      have hnbk : b ∉ (bif a.hasSl then refs (gt y) else []) := by cases a.hasSl <;> simp [hnb]
                      have hkb : nth (kill h (bif a.hasSl then refs (gt y) else [])) b = some (.arr v' a' xs) := by rw [nth_kill _ _ hnbk]; exact hb
                      obtain ⟨z1, z2, z3⟩ := castReps hzs (conv g w rho inner hinv r1)
                      have hsz' : a'.size = a.size := (Ty.eqv_size z3).symm
                      have hsim := hik.sim b _ u1
                      rw [hkb] at hsim
                      obtain ⟨A1, cap1, S1, w1, w2, wpos⟩ := hsim
                      cases w1
                      obtain ⟨A2, cap2, n1, n2, n3⟩ := w2
                      simp only [List.cons.injEq, and_true, Value.slice.injEq] at n1
                      obtain ⟨rfl, _, rfl⟩ := n1
                      simp only [Bool.and_self, if_true] at n3
                      have hzl : zs.length = ys.length := z2
                      have hkn : nth (upd (kill h (bif a.hasSl then refs (gt y) else [])) b (.arr (v' + 1) a' (xs ++ zs))) b = some (.arr (v' + 1) a' (xs ++ zs)) := nth_upd_eq hkb
                      cases A with
                      | none =>
                        obtain ⟨rfl, rfl, rfl⟩ := n3
                        obtain ⟨fit, grow⟩ := run_append (P := P) (ty := o.type) (w := w) (base := none) (n := 0) (cap := 0) (olds := []) (by rw [k1, k4]) q1 q2 m1 m2 m3 hz m7 r2 r3 (fun w' _ => rfl) (by simp) hil (by simpa using hle)
                        by_cases hy0 : ys = []
                        · have hz0 : zs = [] := List.length_eq_zero_iff.1 (by rw [hzl, hy0]; rfl)
                          subst hz0
                          have hrun := fit (by rw [hy0]; simp)
                          have T : Turn rho (kill h (bif a.hasSl then refs (gt y) else [])) w b (.s none 0 []) (.s none 0 []) (.arr (v' + 1) a' ([] ++ [])) w := {
                            at0 := u1
                            live0 := by rw [hkb]; trivial
                            live1 := trivial
                            size := Nat.le_refl _
                            same := fun _ _ _ => rfl
                            sub := fun k hk => .inl hk
                            nodup := by simp [D.blks]
                            le := by rw [hkb]; exact .inr ⟨_, _, _, rfl, .inl (by omega)⟩
                            frz := Frz.refl _ }
                          have hext := turn_ext (g := g) T
                          have hti := turn_inv hik T ⟨none, 0, [], rfl, ⟨none, 0, rfl, Nat.le_refl _, by simp⟩, wpos⟩
                          unfold Oper.wp
                          rw [exec_builtin2 (P := P) (a := ac) (w := w) (w' := w) (v := .slice none 0 0) ho hc ha hat (by rw [u2]; simpa [hy0] using hrun)]
                          exact hn _ _ _ hti (own_at (z := zOf g _ _ w) hkn rset_same rfl) (hek.trans hext)
                        · have hpos : 0 < ys.length := List.length_pos_iff.2 hy0
                          obtain ⟨newCap, rest, wd, g1, g2, g3, g4⟩ := grow (by omega)
                          obtain ⟨i1, i2⟩ := grow_there (e := e) (newCap := newCap) (rest := rest) hik hkb u1 (inner := []) ⟨rfl, rfl⟩ z1 hnu' wpos (by simpa [hzl] using g1) g2 (by rw [g3, hsz', hzl]; simp)
                          unfold Oper.wp
                          rw [exec_builtin2 (P := P) (a := ac) (w := w) ho hc ha hat (by rw [u2]; exact g4)]
                          exact hn _ _ _ i1 (own_at (z := zOf g _ _ _) hkn rset_same (by simp [hzl])) (hek.trans i2)
                      | some ad =>
                        obtain ⟨hsp, inner0, S', e1, e2, e3⟩ := n3
                        obtain ⟨e4, e5⟩ := e3.noUq hnu'
                        subst e4
                        have hl0 := Reps.len (fun _ _ _ hr => hr.len) e5
                        obtain ⟨fit, grow⟩ := run_append (P := P) (ty := o.type) (w := w) (base := some ad) (n := xs.length) (cap := cap) (olds := inner0) (by rw [k1, k4]) q1 q2 m1 m2 m3 hz m7 r2 r3 (fun w' hw => by
                          have hrd : Reads w' ad inner0 := (Reads.of_block e2).mono (by rw [hw]; rfl)
                          exact Sx.run_loadCells hsp (by rw [hl0, hsz']) hrd) (by rw [hl0, hsz']) hil hle
                        by_cases hfit : xs.length + ys.length ≤ cap
                        · have hrun := fit hfit
                          obtain ⟨w', f1, f2, f3⟩ := grow_here (P := P) hik hkb u1 hsp e1 e2 e5 z1 hnu' wpos (by rw [hzl]; exact hfit)
                          have hadd : ad.add (xs.length * a.size) = ⟨ad.block, ad.off + inner0.length, none⟩ := by rw [addr_add hsp, hl0, hsz']
                          dsimp only at hrun
                          rw [hadd, f1] at hrun
                          unfold Oper.wp
                          rw [exec_builtin2 (P := P) (a := ac) (w := w) ho hc ha hat (by rw [u2]; exact hrun)]
                          exact hn _ _ _ f2 (own_at (z := zOf g _ _ w') hkn rset_same (by simp [hzl])) (hek.trans f3)
                        · obtain ⟨newCap, rest, wd, g1, g2, g3, g4⟩ := grow (by omega)
                          obtain ⟨i1, i2⟩ := grow_there (e := e) (newCap := newCap) (rest := rest) hik hkb u1 e5 z1 hnu' wpos (by rw [hzl]; exact g1) g2 (by rw [g3, hsz', hzl])
                          unfold Oper.wp
                          rw [exec_builtin2 (P := P) (a := ac) (w := w) ho hc ha hat (by rw [u2]; exact g4)]
                          exact hn _ _ _ i1 (own_at (z := zOf g _ _ _) hkn rset_same (by simp [hzl])) (hek.trans i2)
                    · cases he
                · cases he
              · cases he
            · cases he
          · cases he
        · cases he
    · cases he
  · cases he

end
end Go.Sx

namespace Go.Sx
open Go

section
variable {R : Type} {P : Program} {E : Env} {o : Oper} {gt : Operand → SV} {h : List Blk}

theorem put1_more {all c1 c2 : List Value} {k : Nat} (hl : k + c1.length + c2.length ≤ all.length) : put1 (put1 all k c1) (k + c1.length) c2 = put1 all k (c1 ++ c2) := by
  apply List.ext_getElem?
  intro n
  have e0 : (put1 all k c1).length = all.length := put1_length (by omega)
  rw [put1_get (all := put1 all k c1) (o := k + c1.length) (cs := c2) (by omega) n, put1_get (all := all) (o := k) (cs := c1) (by omega) n, put1_get (all := all) (o := k) (cs := c1 ++ c2) (by simp; omega) n]
  simp only [List.length_append]
  by_cases h1 : n < k
  · rw [if_pos (by omega), if_pos h1, if_pos h1]
  · by_cases h2 : n < k + c1.length
    · rw [if_pos h2, if_neg h1, if_pos h2, if_neg h1, if_pos (by omega), List.getElem?_append_left (by omega)]
    · by_cases h3 : n < k + c1.length + c2.length
      · rw [if_neg h2, if_pos h3, if_neg h1, if_pos (by omega), List.getElem?_append_right (by omega)]
        congr 1; omega
      · rw [if_neg h2, if_neg h3, if_neg h1, if_neg h2, if_neg h1, if_neg (by omega)]

theorem elems_fill {g : G} {rho : Rho} {w : World} {a : Ty} (hi : Inv g rho h w) (ev : Operand → Value) : ∀ (l : List (Nat × Operand)) (j : Nat) (xs : List a.den) (arr : List Value), (∀ x ∈ l, V (zOf g rho h w) (gt x.2) (ev x.2)) →
    elemsS h a j (l.map fun p => (p.1, gt p.2)) = some xs → j * a.size + l.length * a.size ≤ arr.length →
      ∃ cs, Instr.fill (fun i => some (i * a.size, a.size)) arr.toArray (l.map fun p => (p.1, ev p.2)) = some (put1 arr (j * a.size) cs).toArray ∧
        Reps (TR (lentIm (zOf g rho h w) true (l.flatMap fun p => refs (gt p.2))) w false a) xs cs [] ∧ xs.length = l.length
  | [], j, xs, arr, _, he, _ => by
    simp only [List.map_nil, elemsS, Option.some.injEq] at he
    subst he
    exact ⟨[], by simp [Instr.fill, put1], ⟨rfl, rfl⟩, rfl⟩
  | (i, x) :: l, j, xs, arr, hv, he, hl => by
    simp only [List.map_cons, elemsS] at he
    cases hij : Nat.beq i j with
    | false => rw [hij] at he; cases he
    | true =>
      rw [hij] at he
      simp only [cond_true] at he
      have e0 := Nat.eq_of_beq_eq_true hij
      subst e0
      split at he
      · rename_i y hy
        split at he
        · rename_i ys hys
          simp only [Option.some.injEq] at he
          subst he
          obtain ⟨c1, h1, h2⟩ := toTy_ok (z := zOf g rho h w) hi.sim (hv (i, x) (by simp)) hy
          have hc1 := h1.len
          have hcells := h1.cells
          simp only [List.length_cons, Nat.add_mul, Nat.one_mul] at hl
          simp only [List.map_cons]
          have hsz : (ev x).cells.size = a.size := by rw [h2, ← Array.length_toList, hcells, hc1]
          rw [fill_one (off := i * a.size) (size := a.size) rfl hsz (by simp; omega)]
          rw [h2, hcells]
          obtain ⟨cs, f1, f2, f3⟩ := elems_fill hi ev l (i + 1) ys (put1 arr (i * a.size) c1) (fun y hy => hv y (by simp [hy])) hys (by
            rw [put1_length (by omega), Nat.add_mul, Nat.one_mul]; omega)
          have hcs := Reps.len (fun _ _ _ hr => hr.len) f2
          refine ⟨c1 ++ cs, ?_, ⟨c1, cs, [], [], rfl, rfl, h1.im (fun k hk => lentIm_mono (fun r hr => by simp only [List.flatMap_cons, List.mem_append]; exact .inl hr) hk),
            f2.imIn (fun k hk => lentIm_mono (fun r hr => by simp only [List.flatMap_cons, List.mem_append]; exact .inr hr) hk)⟩, by simp [f3]⟩
          show Instr.fill _ (put1 arr.toArray.toList (i * a.size) c1).toArray _ = _
          simp only
          rw [f1]
          congr 2
          have e1 : (i + 1) * a.size = i * a.size + c1.length := by rw [Nat.add_mul, Nat.one_mul, hc1]
          rw [e1]
          exact put1_more (by rw [hcs, f3]; omega)
        · cases he
      · cases he

theorem buildSlice_ok (hE : EnvOk0 P E) {t : TypeId} {n : Nat} {ps : Array (Nat × Operand)} {K : SV → List Blk → Option R} {r : R} (ho : o.op = .buildSlice t n ps)
    (he : buildSliceS E h t n (ps.toList.map fun p => (p.1, gt p.2)) K = some r) : ∃ v h', StepOk P o gt h v h' ∧ K v h' = some r := by
  unfold buildSliceS at he
  split at he
  · rename_i ty bs e hi
    split at he
    · rename_i a hae
      cases hcond : (Nat.beq (ps.toList.map fun p => (p.1, gt p.2)).length n && Nat.ble n 4096 && Nat.ble a.size 1024 && a.noUq) with
      | false => rw [hcond] at he; cases he
      | true =>
        rw [hcond] at he
        simp only [cond_true] at he
        simp only [Bool.and_eq_true] at hcond
        obtain ⟨⟨⟨hc1, hc2⟩, hc3⟩, hnu⟩ := hcond
        have hlen : ps.toList.length = n := by simpa using Nat.eq_of_beq_eq_true hc1
        have hn4 := Nat.le_of_ble_eq_true hc2
        have hs1 := Nat.le_of_ble_eq_true hc3
        split at he
        · rename_i xs hxs
          refine ⟨_, _, fun g ac w rho hinv hv next Q hn => ?_, he⟩
          obtain ⟨d, k1, k2, k3⟩ := (hE.ti t _ hi).desc
          obtain ⟨k4, ie, k5, k6⟩ := k3
          obtain ⟨inf, d', m1, m2, m3, m4, m5, m6, m7⟩ := ty_ti hE hae
          have hz : (mkV a (zeroVals a)).cells = (zeroVals a).toArray := by
            have := (zeroVals_TR (im := fun _ => False) (w := w) (o := false) a).cells
            exact Array.toList_inj.1 (by simpa using this)
          have hzl : (zeroVals a).length = a.size := (zeroVals_TR (im := fun _ => False) (w := w) (o := false) a).len
          have hsm : ¬ (n * a.size > 2 ^ 24) := by
            have : n * a.size ≤ 4096 * 1024 := Nat.mul_le_mul hn4 hs1
            omega
          obtain ⟨cs, f1, f2, f3⟩ := elems_fill (gt := gt) hinv ac.eval ps.toList 0 xs ((Array.range (n * a.size)).map ((if n * a.size = 0 then #[] else (zeroVals a).toArray)[· % (if n * a.size = 0 then #[] else (zeroVals a).toArray).size]!)).toList (fun x hx => hv x.2 (by
            rw [ho]; simp only [Op.operands]; simpa using ⟨x.1, by simpa using hx⟩)) hxs (by simp [← hlen])
          have hcs := Reps.len (fun _ _ _ hr => hr.len) f2
          have hput : put1 ((Array.range (n * a.size)).map ((if n * a.size = 0 then #[] else (zeroVals a).toArray)[· % (if n * a.size = 0 then #[] else (zeroVals a).toArray).size]!)).toList (0 * a.size) cs = cs := by
            have hl2 : cs.length = n * a.size := by rw [hcs, f3, hlen]
            simp only [put1, Nat.zero_mul, List.take_zero, List.nil_append, Nat.zero_add]
            rw [List.drop_eq_nil_of_le (by simp [hl2])]
            simp
          rw [hput] at f1
          have hrun : (Instr.buildSlice t n (ps.map fun (i, x) => (i, ac.eval x))).run P w = .ok (.slice (some ⟨w.heap.size, 0, none⟩) n n) (pushW w (.cells cs.toArray e (0, 0))) := by
            unfold Instr.buildSlice
            rw [Sx.run_bind_ok (Sx.run_underlying (by rw [k1, k4]))]
            dsimp only
            rw [Sx.run_bind_ok (Sx.run_sizeOf m1), m2, if_neg hsm]
            simp only [Array.toArray_toList] at f1
            by_cases h0 : n * a.size = 0
            · rw [if_pos h0]
              rw [Sx.run_bind_ok (Sx.run_pure P _ _)]
              simp only [if_pos h0] at f1
              rw [map_parts, f1]
              dsimp only
              rw [Sx.run_bind_ok run_newRow]
              rfl
            · rw [if_neg h0]
              rw [Sx.run_bind_ok (Sx.run_zeroValue m1 m3), Sx.run_bind_ok (Sx.run_pure P _ _), hz]
              simp only [if_neg h0] at f1
              rw [map_parts, f1]
              dsimp only
              rw [Sx.run_bind_ok run_newRow]
              rfl
          have hik := kill_inv ((ps.toList.map fun p => (p.1, gt p.2)).flatMap fun p => refs p.2) h hinv
          have hek := kill_ext (g := g) (rho := rho) (w := w) ((ps.toList.map fun p => (p.1, gt p.2)).flatMap fun p => refs p.2) h
          have hrefs : (ps.toList.flatMap fun p => refs (gt p.2)) = (ps.toList.map fun p => (p.1, gt p.2)).flatMap fun p => refs p.2 := by
            rw [List.flatMap_map]
          obtain ⟨i1, i2, i3⟩ := pushed_arr (all := cs.toArray) (e := e) (cap := n) hik hnu m6 (f2.imIn (fun k hk => by
            rw [hrefs] at hk
            exact lentIm_kill hinv hk)) (by intro j u hj; simpa using hj) (by simp [hcs, f3, hlen]) (by rw [f3, hlen]; exact Nat.le_refl _) 0
          rw [kill_length] at i1 i2 i3
          unfold Oper.wp
          have hexec : (execOp ac.eval o).run P w = .ok (.value (.slice (some ⟨w.heap.size, 0, none⟩) n n)) (pushW w (.cells cs.toArray e (0, 0))) := by
            unfold execOp
            rw [ho]
            dsimp only
            show ((Instr.buildSlice t n (ps.map fun (i, x) => (i, ac.eval x)) >>= fun v => pure (.value v)) : Sem Next).run P w = _
            rw [Sx.run_bind_ok hrun]
            rfl
          rw [hexec]
          rw [f3, hlen] at i3
          exact hn _ _ _ i1 i3 (hek.trans i2)
        · cases he
    · cases he
  · cases he

theorem int_desc (hE : EnvOk0 P E) {t : TypeId} {k : IntKind} (ht : E.ty t = some (.int k)) : P.underlying t = some (.int k) := by
  unfold Env.ty at ht
  cases hi : E.ti t with
  | none => rw [hi] at ht; cases ht
  | some i =>
    rw [hi] at ht
    simp only [Option.map_some, Option.some.injEq] at ht
    obtain ⟨d, h1, h2, h3⟩ := (hE.ti t i hi).desc
    rw [h1]
    cases hk : i.kind with
    | scalar => rw [hk, ht] at h3; rw [h3]
    | slice e => rw [hk] at h3; obtain ⟨_, ie, _, h4⟩ := h3; rw [ht] at h4; cases h4
    | struct fs => rw [hk] at h3; obtain ⟨fields, _, _, _, h4⟩ := h3; rw [ht] at h4; cases h4
theorem str_desc (hE : EnvOk0 P E) {t : TypeId} (ht : E.ty t = some .str) : P.underlying t = some .string := by
  unfold Env.ty at ht
  cases hi : E.ti t with
  | none => rw [hi] at ht; cases ht
  | some i =>
    rw [hi] at ht
    simp only [Option.map_some, Option.some.injEq] at ht
    obtain ⟨d, h1, h2, h3⟩ := (hE.ti t i hi).desc
    rw [h1]
    cases hk : i.kind with
    | scalar => rw [hk, ht] at h3; rw [h3]
    | slice e => rw [hk] at h3; obtain ⟨_, ie, _, h4⟩ := h3; rw [ht] at h4; cases h4
    | struct fs => rw [hk] at h3; obtain ⟨fields, _, _, _, h4⟩ := h3; rw [ht] at h4; cases h4
theorem slice_desc (hE : EnvOk0 P E) {t : TypeId} {u : Bool} {a : Ty} (ht : E.ty t = some (.sl u a)) : ∃ e ie, P.underlying t = some (.slice e) ∧ E.ti e = some ie ∧ ie.ty = a := by
  unfold Env.ty at ht
  cases hi : E.ti t with
  | none => rw [hi] at ht; cases ht
  | some i =>
    rw [hi] at ht
    simp only [Option.map_some, Option.some.injEq] at ht
    obtain ⟨d, h1, h2, h3⟩ := (hE.ti t i hi).desc
    cases hk : i.kind with
    | scalar => rw [hk, ht] at h3; exact h3.elim
    | slice e =>
      rw [hk] at h3
      obtain ⟨e1, ie, e2, e3⟩ := h3
      rw [ht] at e3
      cases e3
      exact ⟨e, ie, by rw [h1, e1], e2, rfl⟩
    | struct fs => rw [hk] at h3; obtain ⟨fields, _, _, _, h4⟩ := h3; rw [ht] at h4; cases h4

theorem push_bytes : ∀ (ns : List Int) (s : ByteArray), ns.foldl (fun r n => r.push (UInt8.ofNat n.toNat)) s = ⟨s.data ++ (ns.map fun n => UInt8.ofNat n.toNat).toArray⟩
  | [], s => by cases s; simp
  | n :: ns, s => by
    simp only [List.foldl_cons]
    rw [push_bytes ns]
    cases s
    simp [ByteArray.push]

theorem conv_ok (hE : EnvOk0 P E) {src dst : TypeId} {x : Operand} {K : SV → Option R} {r : R} (ho : o.op = .convert src dst x)
    (he : convS E h src dst (gt x) K = some r) : ∃ v, StepOk P o gt h v h ∧ K v = some r := by
  have hx1 : x ∈ o.op.operands.toList := by rw [ho]; simp [Op.operands]
  have fin : ∀ (v : SV), (∀ (g : G) (a : Act) (w : World) (rho : Rho), Inv g rho h w → V (zOf g rho h w) (gt x) (a.eval x) →
      ∃ cv, (convert src dst (a.eval x)).run P w = .ok cv w ∧ V (zOf g rho h w) v cv) → StepOk P o gt h v h := by
    intro v hf
    exact stepOk_val (fun rho => convert src dst (rho x)) (fun rho => by unfold execOp; rw [ho]) (fun g a w rho hi' hv => hf g a w rho hi' (hv x hx1))
  unfold convS at he
  split at he
  · rename_i k k' n hd hx
    split at he
    · rename_i k2 hs
      refine ⟨_, fin _ (fun g a w rho hi hv => ?_), he⟩
      rw [asI_V hv hx]
      refine ⟨_, ?_, V_int _ _⟩
      unfold convert
      rw [Sx.run_bind_ok (Sx.run_underlying (int_desc hE hs)), Sx.run_bind_ok (Sx.run_underlying (int_desc hE hd))]
      rfl
    · cases he
  · rename_i hd
    split at he
    · rename_i s hs hx
      refine ⟨_, fin _ (fun g a w rho hi hv => ?_), he⟩
      rw [asS_V hv hx]
      refine ⟨_, ?_, V_str _⟩
      unfold convert
      rw [Sx.run_bind_ok (Sx.run_underlying (str_desc hE hs)), Sx.run_bind_ok (Sx.run_underlying (str_desc hE hd))]
      rfl
    · rename_i hs
      split at he
      · rename_i ns hns
        refine ⟨_, fin _ (fun g a w rho hi hv => ?_), he⟩
        obtain ⟨e, ie, k1, k2, k3⟩ := slice_desc hE hs
        have ke : P.underlying e = some (.int .u8) := int_desc hE (by unfold Env.ty; rw [k2, ← k3]; rfl)
        obtain ⟨cs, h2, h3⟩ := toTy_ok (z := zOf g rho h w) hi.sim hv hns
        obtain ⟨c1, h4, _⟩ := h2.scalar rfl
        subst h4
        simp only [mkV, Ty.isAgg, Bool.false_eq_true, if_false, List.headD_cons] at h3
        subst h3
        obtain ⟨A, cap, h5, h6, h7⟩ := h2
        simp only [List.cons.injEq, and_true] at h5
        rw [h5]
        refine ⟨_, ?_, V_str _⟩
        rw [Go.run_convert_bytes_string w src dst e A _ cap k1 ke (str_desc hE hd)]
        simp only [Bool.false_and, Bool.false_eq_true, if_false] at h7
        have plain : ∀ (l : List Int) (inner : List Value), Reps (TR (lentIm (zOf g rho h w) true (refs (gt x))) w false (.int .u8)) l inner [] → inner = l.map (Value.int .u8) := by
          intro l
          induction l with
          | nil => intro inner hr; exact hr.1
          | cons n l ih =>
            intro inner hr
            obtain ⟨q1, q2, S1, S2, r1, r2, r3, r4⟩ := hr
            have e : S1 = [] ∧ S2 = [] := by have := r2.symm; simpa using this
            obtain ⟨rfl, rfl⟩ := e
            rw [r1, r3.1, ih q2 r4]; rfl
        cases A with
        | none =>
          by_cases hn0 : (ns : List Int) = []
          · rw [hn0]; rfl
          · obtain ⟨ad, inner, q1, _⟩ := h7.2 hn0; cases q1
        | some ad =>
          by_cases hn0 : (ns : List Int) = []
          · have : (loadCells ad 0).run P w = .ok (([] : List Int).map (Value.int .u8)).toArray w := by simp [loadCells, loadCellsFrom]
            have h8 := Go.run_bytesToString (P := P) w ad 0 cap [] this
            rw [hn0]
            exact h8
          · obtain ⟨ad', inner, q1, q2, _, q4, q5⟩ := h7.2 hn0
            cases q1
            have q6 := plain ns inner q5
            have q7 : (loadCells ad (List.length ns)).run P w = .ok ((ns : List Int).map (Value.int .u8)).toArray w := by
              rw [← q6]
              exact Sx.run_loadCells q2 (by rw [q6]; simp) q4
            rw [Go.run_bytesToString (P := P) w ad _ cap ns q7, push_bytes]
            congr 2
            rw [show ByteArray.empty.data = #[] from rfl]
            simp
      · cases he
    · cases he
  · cases he

end
end Go.Sx
