/- From a statement's row to a contract of its law: what is read as data comes in as values that are only read. -/
import Derived.Test.YtjefikelmfdffaaGreatDoorM8
import Derived.ProofKit
import Derived.JoinedOf
import Derived.OpenShut
set_option linter.unusedVariables false
set_option linter.unusedSimpArgs false
namespace Go.Sx
open Go Go.ChangeShapes Go.WideShapes Go.RowKit

/-! ### Layout of types -/
mutual
inductive Lay (P : Program) : TypeId → Ty → Prop
  | int {t : TypeId} {k : IntKind} : P.underlying t = some (.int k) → Lay P t (.int k)
  | bool {t : TypeId} : P.underlying t = some .bool → Lay P t .bool
  | str {t : TypeId} : P.underlying t = some .string → Lay P t .str
  | slice {t e : TypeId} {a : Ty} : P.underlying t = some (.slice e) → P.cellsOf e = a.size → 0 < a.size → Lay P e a → Lay P t (.sl false a)
  | struct {t : TypeId} {ty : Ty} {fs : Array Field} {l : List Field} : P.underlying t = some (.struct fs) → fs.toList = l → P.cellsOf t = ty.size → ty.isAgg = true → LayF P l 0 ty → Lay P t ty
inductive LayF (P : Program) : List Field → Nat → Ty → Prop
  | nil {off : Nat} : LayF P [] off .unit
  | cons {off off' : Nat} {f : Field} {fs : List Field} {a b : Ty} : f.offset = off → P.cellsOf f.type = a.size → off' = off + a.size → Lay P f.type a → LayF P fs off' b → LayF P (f :: fs) off (.pair a b)
end

/-- what every datum that comes in meets -/
def WfD : (t : Ty) → t.den → Prop
  | .int k, x => k.min ≤ x ∧ x ≤ k.max
  | .bool, _ => True
  | .str, s => ByteArray.size s ≤ maxLen
  | .unit, _ => True
  | .pair a b, x => WfD a x.1 ∧ WfD b x.2
  | .sl _ a, x => List.length x ≤ maxLen ∧ ∀ y ∈ (x : List a.den), WfD a y

section
variable {H : Type} {enc : TypeId × Value → H} {P : Program} {w : World}

def imAll (w : World) (k : Nat) : Prop := k < w.heap.size

theorem add_spot {a : Addr} {n : Nat} {v : Value} (h : w.cell? (a.add n) = some v) : (a.add n).spot = none := by
  cases hs : (a.add n).spot with
  | none => rfl
  | some s => simp only [World.cell?] at h; split at h <;> simp [hs] at h

theorem addr_zero {a : Addr} (h : (a.add 0).spot = none) : a.spot = none := by
  cases a; simpa [Addr.add] using h

theorem elems_TR {a : Ty} {e : TypeId} {A : Addr} {n : Nat} (hsp : A.spot = none)
    (ih : ∀ cs x, DataW.trod enc P w 0 (fun _ => true) true n e cs = some x → ∃ y, TR (imAll w) w false a y cs [] ∧ WfD a y) (hc : P.cellsOf e = a.size) :
    ∀ (m k : Nat) {ys : List (DataW H × List MemPlace)}, (List.range' k m).mapM (fun i => (w.cells? 0 (A.add (i * P.cellsOf e)) (P.cellsOf e)).bind (DataW.trod enc P w 0 (fun _ => true) true n e)) = some ys →
      ∃ (xs : List a.den) (inner : List Value), xs.length = m ∧ (∀ j c, inner[j]? = some c → w.cell? ⟨A.block, A.off + k * a.size + j, none⟩ = some c) ∧ Reps (TR (imAll w) w false a) xs inner [] ∧ ∀ y ∈ xs, WfD a y
  | 0, k, ys, _ => ⟨[], [], rfl, fun j c h => by simp at h, ⟨rfl, rfl⟩, fun y h => by cases h⟩
  | m + 1, k, ys, h => by
    rw [List.range'_succ, List.mapM_cons] at h
    cases h1 : (w.cells? 0 (A.add (k * P.cellsOf e)) (P.cellsOf e)).bind (DataW.trod enc P w 0 (fun _ => true) true n e) with
    | none => simp [h1] at h
    | some y =>
      cases h2 : (List.range' (k + 1) m).mapM (fun i => (w.cells? 0 (A.add (i * P.cellsOf e)) (P.cellsOf e)).bind (DataW.trod enc P w 0 (fun _ => true) true n e)) with
      | none => simp [h1, h2] at h
      | some ys' =>
        obtain ⟨xs, inner, g1, g2, g3, g4⟩ := elems_TR hsp ih hc m (k + 1) h2
        simp only [Option.bind_eq_some_iff] at h1
        obtain ⟨cs, hcs, htr⟩ := h1
        obtain ⟨x, hx, hw⟩ := ih cs y htr
        obtain ⟨_, hl, hcell⟩ := World.cells?_some hcs
        refine ⟨x :: xs, cs ++ inner, by simp [g1], fun j c hj => ?_, ⟨cs, inner, [], [], rfl, rfl, hx, g3⟩, fun y hy => ?_⟩
        · rw [List.getElem?_append] at hj
          split at hj
          · rename_i hlt
            have := hcell j (by omega)
            rw [hj] at this
            rw [addr_add hsp, addr_add (by rfl)] at this
            rw [← hc]
            exact this
          · have := g2 _ _ hj
            have e2 : A.off + (k + 1) * a.size + (j - cs.length) = A.off + k * a.size + j := by
              rw [hl, hc, Nat.add_mul]; omega
            rw [e2] at this
            exact this
        · rcases List.mem_cons.1 hy with rfl | hy
          · exact hw
          · exact g4 y hy

/-- data that is read comes in -/
theorem trod_TR : ∀ (n : Nat) {t : TypeId} {ty : Ty}, Lay P t ty → ∀ cs x, DataW.trod enc P w 0 (fun _ => true) true n t cs = some x → ∃ y, TR (imAll w) w false ty y cs [] ∧ WfD ty y
  | 0, _, _, _, cs, x, h => by simp [DataW.trod] at h
  | n + 1, t, ty, hl, cs, x, h => by
    rw [DataW.trod_step] at h
    unfold DataW.trodStep at h
    cases hl with
    | @int _ k hu =>
      rw [hu] at h
      cases cs with
      | nil => simp at h
      | cons c r =>
        cases r with
        | cons _ _ => cases c <;> simp at h
        | nil =>
          cases c with
          | int k' m =>
            simp only at h
            split at h
            · rename_i hk
              obtain ⟨rfl, hwf⟩ := hk
              simp only [Lit.wf, Bool.and_eq_true, decide_eq_true_eq] at hwf
              exact ⟨m, ⟨rfl, rfl⟩, hwf⟩
            · cases h
          | _ => simp at h
    | @bool _ hu =>
      rw [hu] at h
      cases cs with
      | nil => simp at h
      | cons c r =>
        cases r with
        | cons _ _ => cases c <;> simp at h
        | nil =>
          cases c with
          | bool b => exact ⟨b, ⟨rfl, rfl⟩, trivial⟩
          | _ => simp at h
    | @str _ hu =>
      rw [hu] at h
      cases cs with
      | nil => simp at h
      | cons c r =>
        cases r with
        | cons _ _ => cases c <;> simp at h
        | nil =>
          cases c with
          | string s =>
            simp only at h
            split at h
            · rename_i hk; exact ⟨s, ⟨rfl, rfl⟩, hk⟩
            · cases h
          | _ => simp at h
    | @slice _ e a hu hc hp hle =>
      rw [hu] at h
      cases cs with
      | nil => simp at h
      | cons c r =>
        cases r with
        | cons _ _ => cases c <;> simp at h
        | nil =>
          cases c with
          | slice A len cap =>
            cases A with
            | none =>
              cases len with
              | succ _ => simp at h
              | zero =>
                cases cap with
                | succ _ => simp at h
                | zero => exact ⟨[], ⟨none, 0, rfl, Nat.le_refl _, by simp⟩, ⟨Nat.zero_le _, fun y hy => by cases hy⟩⟩
            | some A =>
              simp only at h
              split at h
              · rename_i hk
                simp only [Option.bind_eq_some_iff] at h
                obtain ⟨ys, hys, _⟩ := h
                rw [List.range_eq_range'] at hys
                have hsp : 0 < len → A.spot = none := by
                  intro hpos
                  cases len with
                  | zero => omega
                  | succ m =>
                    rw [List.range'_succ, List.mapM_cons] at hys
                    cases h1 : (w.cells? 0 (A.add (0 * P.cellsOf e)) (P.cellsOf e)).bind (DataW.trod enc P w 0 (fun _ => true) true n e) with
                    | none => simp only [Nat.zero_mul] at h1 hys; simp [h1] at hys
                    | some y =>
                      simp only [Option.bind_eq_some_iff] at h1
                      obtain ⟨cs, hcs, _⟩ := h1
                      obtain ⟨_, hl, hcell⟩ := World.cells?_some hcs
                      have h0 := hcell 0 (by omega)
                      have hg : ∃ c0, cs[0]? = some c0 := by
                        cases cs with
                        | nil => simp at hl; omega
                        | cons c _ => exact ⟨c, rfl⟩
                      obtain ⟨c0, hc0⟩ := hg
                      rw [hc0, Nat.zero_mul] at h0
                      exact addr_zero (addr_zero (add_spot h0))
                by_cases hpos : 0 < len
                · obtain ⟨xs, inner, g1, g2, g3, g4⟩ := elems_TR (a := a) (hsp hpos) (fun cs x hx => trod_TR n hle cs x hx) hc len 0 hys
                  subst g1
                  have hm : cap ≤ maxLen := hk.2.2
                  refine ⟨xs, ⟨some A, cap, rfl, hk.2.1, ?_⟩, ⟨Nat.le_trans hk.2.1 hm, g4⟩⟩
                  simp only [Bool.false_and, Bool.false_eq_true, if_false]
                  refine ⟨trivial, fun _ => ⟨A, inner, rfl, hsp hpos, ?_, ?_, g3⟩⟩
                  · cases xs with
                    | nil => simp at hpos
                    | cons y ys' =>
                      obtain ⟨c1, c2, S1, S2, k1, k2, k3, k4⟩ := g3
                      have hlen := k3.len
                      cases c1 with
                      | nil => simp at hlen; omega
                      | cons c c1' =>
                        have := g2 0 c (by rw [k1]; rfl)
                        simp only [Nat.zero_mul, Nat.add_zero] at this
                        show A.block < w.heap.size
                        have h9 := World.block_lt_of_cell? w _ this
                        exact h9
                  · intro j c hj
                    have := g2 j c hj
                    simpa using this
                · have : len = 0 := by omega
                  subst this
                  exact ⟨[], ⟨some A, cap, rfl, Nat.zero_le _, by simp⟩, ⟨Nat.zero_le _, fun y hy => by cases hy⟩⟩
              · cases h
          | _ => simp at h
    | @struct _ _ fs l hu hfl hsz ha hlf =>
      rw [hu] at h
      simp only at h
      split at h
      · rename_i hlen
        rw [hfl] at h
        simp only [Option.map_eq_some_iff] at h
        obtain ⟨ys, hys, _⟩ := h
        have key : ∀ (l : List Field) (off : Nat) (ty : Ty) (ys : List (DataW H × List MemPlace)), LayF P l off ty → off + ty.size = cs.length →
            l.mapM (fun f => DataW.trod enc P w 0 (fun _ => true) true n f.type ((cs.drop f.offset).take (P.cellsOf f.type))) = some ys → ∃ y, TR (imAll w) w false ty y (cs.drop off) [] ∧ WfD ty y := by
          intro l
          induction l with
          | nil =>
            intro off ty ys hlf hs _
            cases hlf
            refine ⟨(), ⟨?_, rfl⟩, trivial⟩
            simp [Ty.size] at hs
            simp; omega
          | cons f fs ihl =>
            intro off ty ys hlf hs hm
            cases hlf with
            | @cons _ off' _ _ a b h1 h2 h3 h4 h5 =>
              rw [List.mapM_cons] at hm
              cases g1 : DataW.trod enc P w 0 (fun _ => true) true n f.type ((cs.drop f.offset).take (P.cellsOf f.type)) with
              | none => simp [g1] at hm
              | some y0 =>
                cases g2 : fs.mapM (fun f => DataW.trod enc P w 0 (fun _ => true) true n f.type ((cs.drop f.offset).take (P.cellsOf f.type))) with
                | none => simp [g1, g2] at hm
                | some ys' =>
                  simp only [Ty.size] at hs
                  obtain ⟨x1, k1, k2⟩ := trod_TR n h4 _ _ g1
                  obtain ⟨x2, k3, k4⟩ := ihl off' b ys' h5 (by omega) g2
                  refine ⟨(x1, x2), ⟨_, _, [], [], ?_, rfl, k1, k3⟩, ⟨k2, k4⟩⟩
                  rw [h1, h2, h3, ← List.drop_drop, List.take_append_drop]
        have := key l 0 ty ys hlf (by rw [hlen, hsz]; omega) hys
        simpa using this
      · cases h

theorem cells_value {t : TypeId} {ty : Ty} {r : Reach} {b : Nat} {v : Value} {y : ty.den} (hl : Lay P t ty) (hv : Value.okWide P w r b t v) (ht : TR (imAll w) w false ty y v.cells.toList []) : v = mkV ty v.cells.toList := by
  cases hl with
  | int hu => obtain ⟨n, rfl⟩ := okWide_int hu hv; rfl
  | bool hu => obtain ⟨n, rfl⟩ := okWide_bool hu hv; rfl
  | str hu => obtain ⟨n, rfl⟩ := okWide_string hu hv; rfl
  | slice hu => obtain ⟨A, n, c, rfl⟩ := okWide_slice hu hv; rfl
  | struct hu _ _ ha _ => obtain ⟨cs, rfl, _⟩ := okWide_struct hu hv; unfold mkV; rw [if_pos ha]; simp [Value.cells]

theorem mapM_len {α β : Type} {f : α → Option β} : ∀ {l : List α} {r : List β}, l.mapM f = some r → r.length = l.length
  | [], r, h => by simp at h; subst h; rfl
  | x :: l, r, h => by
    rw [List.mapM_cons] at h
    cases h1 : f x with
    | none => simp [h1] at h
    | some y =>
      cases h2 : l.mapM f with
      | none => simp [h1, h2] at h
      | some ys =>
        simp [h1, h2] at h
        subst h
        simp [mapM_len h2]

theorem mapM_congr {α β : Type} {f g : α → Option β} : ∀ {l : List α}, (∀ x ∈ l, f x = g x) → l.mapM f = l.mapM g
  | [], _ => rfl
  | x :: l, h => by rw [List.mapM_cons, List.mapM_cons, h x (by simp), mapM_congr (fun y hy => h y (by simp [hy]))]

/-- the reading behind the call may leave out what was not there before -/
theorem respare {sp : Nat → Bool} : ∀ (n : Nat) {t : TypeId} {ty : Ty}, Lay P t ty → ∀ cs x, DataW.trod enc P w 0 (fun _ => true) true n t cs = some x → (∀ p ∈ x.2, sp p.block = true) →
    DataW.trod enc P w 0 sp true n t cs = some x
  | 0, _, _, _, cs, x, h, _ => by simp [DataW.trod] at h
  | n + 1, t, ty, hl, cs, x, h, hs => by
    rw [DataW.trod_step] at h ⊢
    unfold DataW.trodStep at h ⊢
    cases hl with
    | int hu =>
      rw [hu] at h ⊢
      cases cs with
      | nil => simp at h
      | cons c r =>
        cases r with
        | cons _ _ => cases c <;> simp at h
        | nil => cases c <;> first | exact h | simp at h
    | bool hu =>
      rw [hu] at h ⊢
      cases cs with
      | nil => simp at h
      | cons c r =>
        cases r with
        | cons _ _ => cases c <;> simp at h
        | nil => cases c <;> first | exact h | simp at h
    | str hu =>
      rw [hu] at h ⊢
      cases cs with
      | nil => simp at h
      | cons c r =>
        cases r with
        | cons _ _ => cases c <;> simp at h
        | nil => cases c <;> first | exact h | simp at h
    | @slice _ e a hu hc hp hle =>
      rw [hu] at h ⊢
      cases cs with
      | nil => simp at h
      | cons c r =>
        cases r with
        | cons _ _ => cases c <;> simp at h
        | nil =>
          cases c with
          | slice A len cap =>
            cases A with
            | none => cases len <;> cases cap <;> first | exact h | simp at h
            | some A =>
              simp only at h ⊢
              split at h
              · rename_i hk
                rw [if_pos hk]
                simp only [Option.bind_eq_some_iff, Option.map_eq_some_iff] at h ⊢
                obtain ⟨ys, hys, zs, hzs, hx⟩ := h
                subst hx
                have pl : ∀ y ∈ ys ++ zs, ∀ p ∈ y.2, sp p.block = true := fun y hy p hp => hs p (by simp only [List.mem_append, List.mem_flatMap]; exact .inr ⟨y, List.mem_append.1 hy |>.elim (fun h => by simp [h]) (fun h => by simp [h]), hp⟩)
                refine ⟨ys, mapM_carry hys (fun i y _ hy hiy => ?_), zs, ?_, rfl⟩
                · simp only [Option.bind_eq_some_iff] at hiy ⊢
                  obtain ⟨q, h1, h2⟩ := hiy
                  exact ⟨q, h1, respare n hle _ _ h2 (pl y (by simp [hy]))⟩
                · simp only [if_true] at hzs
                  by_cases hcap : cap - len = 0
                  · rw [hcap] at hzs ⊢
                    simp at hzs
                    subst hzs
                    split <;> simp
                  · have hlz : zs.length = cap - len := by
                      have := mapM_len hzs
                      simpa using this
                    have : sp A.block = true := by
                      refine hs (.cell A.block (A.off + 0)) ?_
                      simp only [List.mem_append]
                      refine .inl (MemPlace.mem_row.2 ⟨0, ?_, rfl⟩)
                      rw [hc, hlz]
                      exact Nat.mul_pos (by omega) hp
                    rw [if_pos this]
                    refine mapM_carry hzs (fun i y _ hy hiy => ?_)
                    simp only [Option.bind_eq_some_iff] at hiy ⊢
                    obtain ⟨q, h1, h2⟩ := hiy
                    exact ⟨q, h1, respare n hle _ _ h2 (pl y (by simp [hy]))⟩
              · cases h
          | _ => simp at h
    | @struct _ _ fs l hu hfl hsz ha hlf =>
      rw [hu] at h ⊢
      simp only at h ⊢
      split at h
      · rename_i hlen
        rw [if_pos hlen]
        rw [hfl] at h ⊢
        simp only [Option.map_eq_some_iff] at h ⊢
        obtain ⟨ys, hys, hx⟩ := h
        subst hx
        refine ⟨ys, ?_, rfl⟩
        have lay : ∀ (l : List Field) (off : Nat) (ty : Ty), LayF P l off ty → ∀ f ∈ l, ∃ a, Lay P f.type a := by
          intro l
          induction l with
          | nil => intro _ _ _ f hf; cases hf
          | cons g gs ih =>
            intro off ty hlf f hf
            cases hlf with
            | @cons _ off' _ _ a b h1 h2 h3 h4 h5 =>
              rcases List.mem_cons.1 hf with rfl | hf
              · exact ⟨a, h4⟩
              · exact ih _ _ h5 f hf
        refine mapM_carry hys (fun f y hf hy hfy => ?_)
        obtain ⟨a, ha'⟩ := lay l 0 ty hlf f hf
        exact respare n ha' _ _ hfy (fun p hp => hs p (by simp only [List.mem_flatMap]; exact ⟨y, hy, hp⟩))
      · cases h

inductive LayAll (P : Program) : List TypeId → List Ty → Prop
  | nil : LayAll P [] []
  | cons {t : TypeId} {ty : Ty} {ts : List TypeId} {tys : List Ty} : Lay P t ty → LayAll P ts tys → LayAll P (t :: ts) (ty :: tys)

def WfA : (ts : List Ty) → Args ts → Prop
  | [], _ => True
  | t :: ts, x => WfD t x.1 ∧ WfA ts x.2

theorem trodAll_TR {r : Reach} {b : Nat} : ∀ {ts : List TypeId} {tys : List Ty}, LayAll P ts tys → ∀ {vs : List Value} {ds : List (DataW H)} {ps : List MemPlace},
    (∀ (j : Nat) t v, ts[j]? = some t → vs[j]? = some v → Value.okWide P w r b t v) → DataW.TrodAll enc P w 0 (fun _ => true) true ts vs ds ps →
      ds.length = tys.length ∧ ∃ xs : Args tys, CVL (imAll w) w (encA tys xs) vs [] [] ∧ WfA tys xs
  | _, _, .nil, vs, ds, ps, hv, h => by
    obtain ⟨rfl, rfl, rfl⟩ := trodAll_nil h
    exact ⟨rfl, (), by simp [encA, CVL], trivial⟩
  | _, _, .cons (t := t) (ty := ty) (ts := ts) (tys := tys) hl hls, vs, ds, ps, hv, h => by
    obtain ⟨v, vs', d, ds', p, q, rfl, rfl, rfl, ⟨n, h1⟩, h2⟩ := trodAll_cons h
    obtain ⟨y, k1, k2⟩ := trod_TR n hl _ _ h1
    obtain ⟨e, xs, k3, k4⟩ := trodAll_TR hls (fun j t v ht hv' => hv (j + 1) t v (by simpa using ht) (by simpa using hv')) h2
    refine ⟨by simp [e], (y, xs), ?_, ⟨k2, k4⟩⟩
    simp only [encA, CVL]
    exact ⟨v, vs', [], [], [], [], rfl, rfl, rfl, by simp only [CV]; exact ⟨trivial, trivial, _, k1, cells_value hl (hv 0 t v rfl rfl) k1⟩, k3⟩

theorem trodAll_same {w' : World} {sp : Nat → Bool} (hsame : ∀ p : MemPlace, p.block < w.heap.size → w.sameAt w' p) : ∀ {ts : List TypeId} {tys : List Ty}, LayAll P ts tys → ∀ {vs : List Value} {ds : List (DataW H)} {ps : List MemPlace},
    DataW.TrodAll enc P w 0 (fun _ => true) true ts vs ds ps → (∀ p ∈ ps, sp p.block = true) → DataW.TrodAll enc P w' 0 sp true ts vs ds ps
  | _, _, .nil, vs, ds, ps, h, _ => by
    obtain ⟨rfl, rfl, rfl⟩ := trodAll_nil h
    rfl
  | _, _, .cons hl hls, vs, ds, ps, h, hs => by
    obtain ⟨v, vs', d, ds', p, q, rfl, rfl, rfl, ⟨n, h1⟩, h2⟩ := trodAll_cons h
    refine ⟨p, q, ⟨n, ?_⟩, trodAll_same hsame hls h2 (fun x hx => hs x (by simp [hx])), rfl⟩
    exact DataW.trod_carry n _ _ _ (respare n hl _ _ h1 (fun x hx => hs x (by simp [hx]))) (fun x hx => hsame x (DataW.trod_lt _ _ _ _ h1 x hx))

theorem frozen_kept {w' : World} (hk : Kept w w' []) (a : Addr) (ha : a.block < w.heap.size) : w'.frozen? a = w.frozen? a := by
  have := hk.same a.block ha (by simp)
  simp only [World.frozen?, this]

/-- a call that leaves all that was there as it was -/
theorem post_kept {f : Func} {s : ChangeSpec} {apart fresh handsOn again : Bool} {w' : World} {args : Array Value} {v : Value} {ds : List (DataW H)} {p : List MemPlace}
    (hW : DataW.Whole enc P f.params.toList s.vars apart w args.toList ds [] p) (hv : s.vars = []) (hk : Kept w w' [])
    (hr : ∀ (b : Nat) (sp : Nat → Bool) (hd : Bool), DataW.TrodAll enc P w' b sp hd f.resultTypes.toList (v.resultList f.resultTypes.size) (s.fn H (ds ++ [])).results [])
    (ha : ∀ sp : Nat → Bool, (∀ x ∈ p, sp x.block = true) → DataW.TrodAll enc P w' 0 sp true f.params.toList args.toList (s.fn H (ds ++ [])).args p)
    (hg : ∀ sp : Nat → Bool, DataW.TrodVars enc P w' sp s.vars (s.fn H (ds ++ [])).vars [])
    (hok : ∀ (j : Nat) (t : TypeId) (r : Value), f.resultTypes[j]? = some t → (v.resultList f.resultTypes.size)[j]? = some r → Value.okWide P w' .any 0 t r) (hb : w.keptBut w' (fun x => x ∈ p)) :
    s.post enc P f apart fresh handsOn again w args v w' := by
  have hlt : ∀ x ∈ p, x.block < w.heap.size := fun x hx => hW.lt x hx
  have h1 := ha (fun b => decide (b < w.heap.size)) (fun x hx => by simpa using hlt x hx)
  have h2 := ha (fun _ => true) (fun _ _ => rfl)
  have hz : ∀ (b off : Nat), MemPlace.cell b off ∈ p → w'.frozen? ⟨b, off, none⟩ = false := fun b off hp => by
    rw [frozen_kept hk ⟨b, off, none⟩ (hlt _ hp)]
    obtain ⟨_, _, _, _, _, hz, _⟩ := hW
    exact hz b off hp
  have hn : apart = true → p.Nodup := by
    obtain ⟨_, _, _, _, _, _, hn⟩ := hW
    exact hn
  have hall := ChangeShapes.trodAll_append h2 (hr 0 (fun _ => true) true)
  refine ⟨ds, [], p, [], p, [], hW, hr _ _ _, h1, hg _, World.keptBut_mono (fun x hx => ⟨hx, .inr (.inl hx)⟩) hb, fun _ => ⟨hok, (s.fn H (ds ++ [])).results ++ (s.fn H (ds ++ [])).args, (s.fn H (ds ++ [])).vars, p, ?_, fun x hx _ => hx⟩⟩
  refine ⟨p, [], ?_, hg _, by simp, fun b off hp => hz b off (by simpa using hp), fun e => by simpa using hn e⟩
  simpa using hall

theorem keptBut_kept {w' : World} (hk : Kept w w' []) (may : MemPlace → Prop) : w.keptBut w' may := by
  refine ⟨hk.frz.os, hk.frz.out, fun i hi => ?_⟩
  rw [hk.same i hi (by simp)]
  exact (World.keptBut_refl w may).2.2 i hi

/-- a law's contract closes its row -/
theorem row_contract {f : FuncId} {fn : Func} {s : ChangeSpec} {tys : List Ty} {tb : TypeId} (hp : LayAll P fn.params.toList tys) (hr : fn.resultTypes = #[tb]) (hb : P.underlying tb = some .bool) (hv : s.vars = [])
    (hs : ∀ (ds : List (DataW H)), ds.length = tys.length → s.fn H (ds ++ []) = { results := [.lit (.bool true)], args := ds })
    (hlaw : ∀ xs : Args tys, WfA tys xs → CallOk P f (encA tys xs) (.val .bool true) [])
    (W : World) (base : Nat) (args : Array Value) (ds gs : List (DataW H)) (before : List MemPlace)
    (hval : ∀ (j : Nat) t v, fn.params[j]? = some t → args[j]? = some v → Value.okWide P W .any base t v)
    (hW : DataW.Whole enc P fn.params.toList s.vars false W args.toList ds gs before) (hneed : Need (imAll W) W) (fresh handsOn again : Bool) :
    Calls P f args W fun e W' => ∃ v, e = .returned v ∧ s.post enc P fn false fresh handsOn again W args v W' := by
  have hW' := hW
  obtain ⟨p, q, hA, hV, rfl, hfz, hnd⟩ := hW
  rw [hv] at hV
  obtain ⟨rfl, rfl⟩ := trodVars_none hV
  obtain ⟨hl, xs, hc, hwf⟩ := trodAll_TR hp (fun j t v h1 h2 => hval j t v (by simpa using h1) (by simpa using h2)) hA
  have hcall := hlaw xs hwf (imAll W) W args.toList [] [] hc List.nodup_nil (fun k hk => by cases hk) (fun k hk => hk) hneed
  rw [Array.toArray_toList] at hcall
  refine hcall.mono ?_
  rintro e W' ⟨cr, S1, S2, he, _, _, hk, hcv, _⟩
  subst he
  refine ⟨cr, rfl, ?_⟩
  simp only [CV] at hcv
  obtain ⟨rfl, _, cs, ⟨rfl, _⟩, hcr⟩ := hcv
  have hcr : cr = .bool true := hcr
  subst hcr
  have hsame : ∀ p : MemPlace, p.block < W.heap.size → W.sameAt W' p := by
    intro p hp
    cases p with
    | cell b o =>
      have := hk.same b hp (by simp)
      simp only [World.sameAt, World.cell?, this]
    | map b => exact hk.same b hp (by simp)
  have hso := hs ds hl
  rw [List.append_nil] at hW'
  refine post_kept hW' hv hk ?_ ?_ ?_ ?_ (keptBut_kept hk _)
  · intro b sp hd
    rw [hso, hr]
    exact trodAll_cons_mk (shut_bool hb _) trodAll_mk0
  · intro sp hsp
    rw [hso]
    exact trodAll_same hsame hp hA (fun x hx => hsp x (by simp [hx]))
  · intro sp
    rw [hso, hv]
    exact rfl
  · intro j t r h1 h2
    rw [hr] at h1 h2
    cases j with
    | succ j => simp at h1
    | zero =>
      simp at h1
      subst h1
      simp [Value.resultList] at h2
      subst h2
      exact okWide_bool_mk hb _
end

/-! ### Layouts out of the table -/
def layB (ti : TypeId → Option TI) : List (Nat × TypeId) → Nat → Ty → Bool
  | [], _, t => match t with
    | .unit => true
    | _ => false
  | (o, ft) :: fs, off, t => match t with
    | .pair a b => Nat.beq o off && (match ti ft with
      | some fi => fi.ty.eqv a && fi.ty.noUq && a.noUq && layB ti fs (off + a.size) b
      | none => false)
    | _ => false
def laysB (l : List (Nat × TI)) : Bool :=
  l.all fun q => match q.2.kind with
    | .struct fs => layB (assoc l) fs 0 q.2.ty
    | _ => true

def Ty.rk : Ty → Nat
  | .pair a b => a.rk + b.rk + 1
  | .sl _ a => a.rk + 1
  | _ => 1

theorem Ty.rk_pos : ∀ t : Ty, 0 < t.rk
  | .pair _ _ => by simp [Ty.rk]
  | .sl _ _ => by simp [Ty.rk]
  | .int _ => by simp [Ty.rk]
  | .bool => by simp [Ty.rk]
  | .str => by simp [Ty.rk]
  | .unit => by simp [Ty.rk]

theorem lay_of {P : Program} {E : Env} (h0 : EnvOk0 P E) {l : List (Nat × TI)} (hE : E.ti = assoc l) (hl : laysB l = true) : ∀ (n : Nat) (t : TypeId) (i : TI), i.ty.rk ≤ n → E.ti t = some i → Lay P t i.ty
  | 0, t, i, hn, _ => by have := Ty.rk_pos i.ty; omega
  | n + 1, t, i, hn, hi => by
    have ok := h0.ti t i hi
    obtain ⟨d, hd, hagg, hk⟩ := ok.desc
    cases hkd : i.kind with
    | scalar =>
      rw [hkd] at hk
      simp only at hk
      cases hty : i.ty with
      | int k => rw [hty] at hk; subst hk; exact .int hd
      | bool => rw [hty] at hk; subst hk; exact .bool hd
      | str => rw [hty] at hk; subst hk; exact .str hd
      | unit => rw [hty] at hk; exact hk.elim
      | pair a b => rw [hty] at hk; exact hk.elim
      | sl u a => rw [hty] at hk; exact hk.elim
    | slice e =>
      rw [hkd] at hk
      simp only at hk
      obtain ⟨rfl, ie, hie, hty⟩ := hk
      have oke := h0.ti e ie hie
      obtain ⟨inf, q1, q2, _⟩ := oke.info
      rw [hty]
      refine .slice hd ?_ oke.pos (lay_of h0 hE hl n e ie (by rw [hty] at hn; simp [Ty.rk] at hn; omega) hie)
      unfold Program.cellsOf
      rw [q1]
      simpa using q2
    | struct fs =>
      rw [hkd] at hk
      simp only at hk
      obtain ⟨fields, rfl, hfs, _, ha⟩ := hk
      have hb : layB (assoc l) fs 0 i.ty = true := by
        rw [hE] at hi
        have := List.all_eq_true.1 hl (t, i) (assoc_mem hi)
        simpa [hkd] using this
      obtain ⟨inf, q1, q2, _⟩ := ok.info
      refine .struct hd rfl (by unfold Program.cellsOf; rw [q1]; simpa using q2) ha ?_
      rw [← hE] at hb
      have key : ∀ (fl : List Field) (fs : List (Nat × TypeId)) (off : Nat) (ty : Ty), ty.rk ≤ n + 1 → fl.map (fun f => (f.offset, f.type)) = fs → layB E.ti fs off ty = true → LayF P fl off ty := by
        intro fl
        induction fl with
        | nil =>
          intro fs off ty _ hf hb
          simp at hf
          subst hf
          cases ty <;> simp [layB] at hb
          exact .nil
        | cons f fl ih =>
          intro fs off ty hr hf hb
          simp only [List.map_cons] at hf
          subst hf
          cases ty with
          | pair a b =>
            simp only [layB, Bool.and_eq_true] at hb
            obtain ⟨h1, h2⟩ := hb
            cases hfi : E.ti f.type with
            | none => rw [hfi] at h2; simp at h2
            | some fi =>
              rw [hfi] at h2
              simp only [Bool.and_eq_true] at h2
              obtain ⟨⟨⟨k1, k2⟩, k3⟩, k4⟩ := h2
              have e := Ty.eq_noUq k1 k2 k3
              subst e
              have okf := h0.ti f.type fi hfi
              obtain ⟨inf, q1, q2, _⟩ := okf.info
              simp only [Ty.rk] at hr
              exact .cons (Nat.eq_of_beq_eq_true h1) (by unfold Program.cellsOf; rw [q1]; simpa using q2) rfl (lay_of h0 hE hl n f.type fi (by omega) hfi) (ih _ _ b (by omega) rfl k4)
          | _ => simp [layB] at hb
      exact key _ fs 0 i.ty hn hfs hb

end Go.Sx

namespace Go.Sx
open Go

theorem nth_at {α : Type} {xs : List α} {k : Nat} (h : k < xs.length) : nth xs k = some xs[k] := by
  rw [nth_eq, List.getElem?_eq_getElem h]

theorem wrap_succ {k : Nat} (h : k ≤ 4611686018427387904) : IntKind.wrap .i64 ((k : Int) + 1) = ((k + 1 : Nat) : Int) := by
  rw [wrap64 (by omega) (by omega)]; omega

theorem upd_take {α : Type} : ∀ {b : List α} {k : Nat} (y : α), k < b.length → (upd b k y).take (k + 1) = b.take k ++ [y]
  | [], k, y, h => by simp at h
  | x :: b, 0, y, _ => by simp [upd]
  | x :: b, k + 1, y, h => by
    simp only [upd, List.take_succ_cons, List.cons_append]
    rw [upd_take y (by simpa using h)]
theorem upd_len {α : Type} (b : List α) (k : Nat) (y : α) : (upd b k y).length = b.length := upd_length b k y

theorem updO_at {α : Type} : ∀ {b : List α} {i : Nat} {y : α}, i < b.length → updO b i y = some (upd b i y)
  | [], _, _, h => by simp at h
  | _ :: _, 0, _, _ => rfl
  | x :: b, i + 1, y, h => by
    simp only [updO]
    rw [updO_at (b := b) (i := i) (by simpa using h)]
    rfl

/-! ### A list copied element by element -/
theorem copy_loop {α β : Type} {g : α → Option β} {f : α → β} {xs : List α} {r : Nat → Int → List β → Option (List β)}
    (hr : ∀ n i b, r (n + 1) i b = bif decide (i < (xs.length : Int)) then (if (0 : Int) ≤ i then (nth xs i.toNat).bind fun y => (g y).bind fun y' => if (0 : Int) ≤ i then (if i < (b.length : Int) then
      (nth b i.toNat).bind fun _ => (updO b i.toNat y').bind fun b' => r n (IntKind.wrap .i64 (i + 1)) b' else none) else none else none) else some b)
    (hg : ∀ y ∈ xs, g y = some (f y)) (hl : xs.length ≤ 4294967296) : ∀ (n k : Nat) (b : List β), xs.length < n + k → k ≤ xs.length → b.length = xs.length → r n k b = some (b.take k ++ (xs.drop k).map f)
  | 0, k, b, h, h2, _ => by omega
  | n + 1, k, b, h, h2, hb => by
    rw [hr]
    rcases Nat.lt_or_ge k xs.length with hk | hk
    · rw [show decide ((k : Int) < (xs.length : Int)) = true by simpa using hk]
      simp only [cond_true, if_pos (Int.natCast_nonneg k), Int.toNat_natCast]
      have hkb : (k : Int) < (b.length : Int) := by rw [hb]; omega
      simp only [if_pos hkb]
      rw [nth_at hk, nth_at (by rw [hb]; exact hk)]
      simp only [Option.bind_some]
      rw [hg _ (List.getElem_mem hk)]
      simp only [Option.bind_some]
      rw [updO_at (by rw [hb]; exact hk)]
      simp only [Option.bind_some]
      rw [wrap_succ (by omega), copy_loop hr hg hl n (k + 1) _ (by omega) (by omega) (by rw [upd_len]; exact hb), upd_take _ (by rw [hb]; exact hk)]
      rw [List.drop_eq_getElem_cons hk]
      simp only [List.append_assoc, List.cons_append, List.nil_append, List.map_cons]
    · have e : k = xs.length := by omega
      rw [show decide ((k : Int) < (xs.length : Int)) = false by simp; omega]
      simp only [cond_false]
      subst e
      rw [List.drop_length, ← hb, List.take_length]
      simp

theorem copy_ok {α β : Type} {g : α → Option β} {f : α → β} {xs : List α} {r : Nat → Int → List β → Option (List β)} {z : β} {n : Nat} {q : Option (List β)}
    (hq : q = if (xs.length : Int) ≤ (xs.length : Int) then (if (xs.length : Int) ≤ (lim : Int) then r n 0 (List.replicate (xs.length : Int).toNat z) else none) else none)
    (hr : ∀ n i b, r (n + 1) i b = bif decide (i < (xs.length : Int)) then (if (0 : Int) ≤ i then (nth xs i.toNat).bind fun y => (g y).bind fun y' => if (0 : Int) ≤ i then (if i < (b.length : Int) then
      (nth b i.toNat).bind fun _ => (updO b i.toNat y').bind fun b' => r n (IntKind.wrap .i64 (i + 1)) b' else none) else none else none) else some b)
    (hg : ∀ y ∈ xs, g y = some (f y)) (hl : xs.length ≤ 16777216) (hn : 16777216 < n) : q = some (xs.map f) := by
  rw [hq, if_pos (Int.le_refl _), if_pos (by unfold lim; omega)]
  have := copy_loop hr hg (by omega) n 0 (List.replicate (xs.length : Int).toNat z) (by omega) (by omega) (by simp)
  rw [Int.natCast_zero] at this
  rw [this]
  simp

/-! ### A list held against itself -/
theorem eq_loop {α : Type} {e : α → α → Option Bool} {xs : List α} {r : Nat → Int → Option Bool}
    (hr : ∀ n i, r (n + 1) i = bif decide (i < (xs.length : Int)) then (if (0 : Int) ≤ i then (nth xs i.toNat).bind fun y => if (0 : Int) ≤ i then (nth xs i.toNat).bind fun y1 => (e y y1).bind fun b =>
      bif !b then some false else r n (IntKind.wrap .i64 (i + 1)) else none else none) else some true)
    (he : ∀ y ∈ xs, e y y = some true) (hl : xs.length ≤ 4294967296) : ∀ (n k : Nat), xs.length < n + k → k ≤ xs.length → r n k = some true
  | 0, k, h, h2 => by omega
  | n + 1, k, h, h2 => by
    rw [hr]
    rcases Nat.lt_or_ge k xs.length with hk | hk
    · rw [show decide ((k : Int) < (xs.length : Int)) = true by simpa using hk]
      simp only [cond_true, if_pos (Int.natCast_nonneg k), Int.toNat_natCast]
      rw [nth_at hk]
      simp only [Option.bind_some]
      rw [he _ (List.getElem_mem hk)]
      simp only [Option.bind_some, Bool.not_true, cond_false]
      rw [wrap_succ (by omega)]
      exact eq_loop hr he hl n (k + 1) (by omega) (by omega)
    · rw [show decide ((k : Int) < (xs.length : Int)) = false by simp; omega]
      rfl

theorem eq_ok {α : Type} {e : α → α → Option Bool} {xs : List α} {r : Nat → Int → Option Bool} {n : Nat} {q : Option Bool}
    (hq : q = bif !decide ((xs.length : Int) = (xs.length : Int)) then some false else r n 0)
    (hr : ∀ n i, r (n + 1) i = bif decide (i < (xs.length : Int)) then (if (0 : Int) ≤ i then (nth xs i.toNat).bind fun y => if (0 : Int) ≤ i then (nth xs i.toNat).bind fun y1 => (e y y1).bind fun b =>
      bif !b then some false else r n (IntKind.wrap .i64 (i + 1)) else none else none) else some true)
    (he : ∀ y ∈ xs, e y y = some true) (hl : xs.length ≤ 16777216) (hn : 16777216 < n) : q = some true := by
  rw [hq, decide_eq_true rfl]
  simp only [Bool.not_true, cond_false]
  have := eq_loop hr he (by omega) n 0 (by omega) (by omega)
  rwa [Int.natCast_zero] at this

/-! ### How large it is -/
/-- all lists are short -/
def Bd : (t : Ty) → t.den → Prop
  | .int _, _ => True
  | .bool, _ => True
  | .str, _ => True
  | .unit, _ => True
  | .pair a b, x => Bd a x.1 ∧ Bd b x.2
  | .sl _ a, x => List.length x ≤ 1048576 ∧ ∀ y ∈ (x : List a.den), Bd a y

theorem Bd_flat : ∀ {t : Ty}, t.hasSl = false → ∀ x : t.den, Bd t x
  | .int _, _, _ => trivial
  | .bool, _, _ => trivial
  | .str, _, _ => trivial
  | .unit, _, _ => trivial
  | .pair a b, h, x => by
    simp only [Ty.hasSl, Bool.or_eq_false_iff] at h
    exact ⟨Bd_flat h.1 x.1, Bd_flat h.2 x.2⟩
  | .sl _ _, h, _ => by cases h

def SzR (q : Option Int) (a : Int) (P : Prop) : Prop := ∃ v, q = some v ∧ v ≤ a ∧ (0 ≤ v → P)

theorem SzR.imp {q : Option Int} {a : Int} {P Q : Prop} (h : SzR q a P) (f : P → Q) : SzR q a Q := by
  obtain ⟨v, h1, h2, h3⟩ := h
  exact ⟨v, h1, h2, fun h => f (h3 h)⟩
theorem szR_bind {A : Option Int} {K : Int → Option Int} {a : Int} {P Q : Prop} (h : SzR A a P) (h0 : 0 ≤ a) (ha : a ≤ 1048576) (hk : ∀ v, 0 ≤ v → v ≤ 1048576 → SzR (K v) v Q) :
    SzR (A.bind fun y => bif decide (y < (0 : Int)) then some (-1 : Int) else K y) a (P ∧ Q) := by
  obtain ⟨v, h1, h2, h3⟩ := h
  rw [h1]
  simp only [Option.bind_some]
  by_cases hv : v < 0
  · rw [decide_eq_true hv]
    exact ⟨-1, rfl, by omega, fun h => by omega⟩
  · rw [decide_eq_false hv]
    obtain ⟨w, k1, k2, k3⟩ := hk v (by omega) (by omega)
    exact ⟨w, k1, by omega, fun h => ⟨h3 (by omega), k3 h⟩⟩
theorem szR_end {v : Int} : SzR (some v) v True := ⟨v, rfl, Int.le_refl _, fun _ => trivial⟩

/-- a length taken off -/
theorem szR_len {n : Nat} {a : Int} {K : Int → Option Int} {Q : Prop} (hn : n ≤ maxLen) (h0 : 0 ≤ a) (h1 : a ≤ 1048576) (hk : ∀ v, 0 ≤ v → v ≤ 1048576 → n ≤ 1048576 → SzR (K v) v Q) :
    SzR (bif decide (IntKind.wrap .i64 (a - (n : Int)) < (0 : Int)) then some (-1 : Int) else K (IntKind.wrap .i64 (a - (n : Int)))) a (n ≤ 1048576 ∧ Q) := by
  unfold maxLen at hn
  have e : IntKind.wrap .i64 (a - (n : Int)) = a - n := wrap64 (by omega) (by omega)
  rw [e]
  by_cases hv : a - (n : Int) < 0
  · rw [decide_eq_true hv]
    exact ⟨-1, rfl, by omega, fun h => by omega⟩
  · rw [decide_eq_false hv]
    obtain ⟨w, k1, k2, k3⟩ := hk (a - n) (by omega) (by omega) (by omega)
    exact ⟨w, k1, by omega, fun h => ⟨by omega, k3 h⟩⟩

theorem szR_loop {α : Type} {P : α → Prop} {qe : α → Int → Option Int} {xs : List α} {r : Nat → Int → Int → Option Int}
    (hr : ∀ n a i, r (n + 1) a i = bif decide (i < (xs.length : Int)) then (if (0 : Int) ≤ i then (nth xs i.toNat).bind fun y => (qe y a).bind fun v => bif decide (v < (0 : Int)) then some (-1 : Int) else
      r n v (IntKind.wrap .i64 (i + 1)) else none) else some a)
    (he : ∀ y ∈ xs, ∀ a, 0 ≤ a → a ≤ 1048576 → SzR (qe y a) a (P y)) (hl : xs.length ≤ 1048576) : ∀ (n k : Nat) (a : Int), 0 ≤ a → a ≤ 1048576 → xs.length < n + k → k ≤ xs.length → SzR (r n a k) a (∀ y ∈ xs.drop k, P y)
  | 0, k, a, _, _, h, h2 => by omega
  | n + 1, k, a, h0, h1, h, h2 => by
    rw [hr]
    rcases Nat.lt_or_ge k xs.length with hk | hk
    · rw [show decide ((k : Int) < (xs.length : Int)) = true by simpa using hk]
      simp only [cond_true, if_pos (Int.natCast_nonneg k), Int.toNat_natCast]
      rw [nth_at hk]
      simp only [Option.bind_some]
      rw [wrap_succ (by omega)]
      refine (szR_bind (he _ (List.getElem_mem hk) a h0 h1) h0 h1 fun v k1 k2 => szR_loop hr he hl n (k + 1) v k1 k2 (by omega) (by omega)).imp fun hpq y hy => ?_
      rw [List.drop_eq_getElem_cons hk] at hy
      rcases List.mem_cons.1 hy with rfl | hy
      · exact hpq.1
      · exact hpq.2 y hy
    · rw [show decide ((k : Int) < (xs.length : Int)) = false by simp; omega]
      refine ⟨a, rfl, Int.le_refl _, fun _ y hy => ?_⟩
      rw [List.drop_eq_nil_of_le hk] at hy
      cases hy

/-- a list and what its elements hold -/
theorem szR_list {α : Type} {P : α → Prop} {qe : α → Int → Option Int} {xs : List α} {r : Nat → Int → Int → Option Int} {n : Nat} {a : Int} {q : Option Int} (hw : xs.length ≤ maxLen) (h0 : 0 ≤ a) (h1 : a ≤ 1048576)
    (hq : q = bif decide (IntKind.wrap .i64 (a - (xs.length : Int)) < (0 : Int)) then some (-1 : Int) else r n (IntKind.wrap .i64 (a - (xs.length : Int))) 0)
    (hr : ∀ n a i, r (n + 1) a i = bif decide (i < (xs.length : Int)) then (if (0 : Int) ≤ i then (nth xs i.toNat).bind fun y => (qe y a).bind fun v => bif decide (v < (0 : Int)) then some (-1 : Int) else
      r n v (IntKind.wrap .i64 (i + 1)) else none) else some a)
    (he : ∀ y ∈ xs, ∀ a, 0 ≤ a → a ≤ 1048576 → SzR (qe y a) a (P y)) (hn : 1048576 < n) : SzR q a (xs.length ≤ 1048576 ∧ ∀ y ∈ xs, P y) := by
  rw [hq]
  refine (szR_len (K := fun v => r n v 0) hw h0 h1 fun v k1 k2 k3 => ?_)
  have := szR_loop hr he k3 n 0 v k1 k2 (by omega) (by omega)
  rw [Int.natCast_zero] at this
  exact this.imp fun h y hy => h y (by simpa using hy)

/-! ### A list run through -/
theorem fold_loop {α β : Type} {g : β → α → Option β} {f : β → α → β} {xs : List α} {r : Nat → Int → β → Option β}
    (hr : ∀ n i b, r (n + 1) i b = bif decide (i < (xs.length : Int)) then (if (0 : Int) ≤ i then (nth xs i.toNat).bind fun y => (g b y).bind fun b' => r n (IntKind.wrap .i64 (i + 1)) b' else none) else some b)
    (hg : ∀ b, ∀ y ∈ xs, g b y = some (f b y)) (hl : xs.length ≤ 16777216) : ∀ (n k : Nat) (b : β), xs.length < n + k → k ≤ xs.length → r n k b = some ((xs.drop k).foldl f b)
  | 0, k, b, h, h2 => by omega
  | n + 1, k, b, h, h2 => by
    rw [hr]
    rcases Nat.lt_or_ge k xs.length with hk | hk
    · rw [show decide ((k : Int) < (xs.length : Int)) = true by simpa using hk]
      simp only [cond_true, if_pos (Int.natCast_nonneg k), Int.toNat_natCast]
      rw [nth_at hk]
      simp only [Option.bind_some]
      rw [hg _ _ (List.getElem_mem hk)]
      simp only [Option.bind_some]
      rw [wrap_succ (by omega), fold_loop hr hg hl n (k + 1) _ (by omega) (by omega), List.drop_eq_getElem_cons hk]
      rfl
    · rw [show decide ((k : Int) < (xs.length : Int)) = false by simp; omega]
      simp only [cond_false]
      rw [List.drop_eq_nil_of_le hk]
      rfl

theorem fold_ok {α β : Type} {g : β → α → Option β} {f : β → α → β} {xs : List α} {r : Nat → Int → β → Option β}
    (hr : ∀ n i b, r (n + 1) i b = bif decide (i < (xs.length : Int)) then (if (0 : Int) ≤ i then (nth xs i.toNat).bind fun y => (g b y).bind fun b' => r n (IntKind.wrap .i64 (i + 1)) b' else none) else some b)
    (hg : ∀ b, ∀ y ∈ xs, g b y = some (f b y)) (hl : xs.length ≤ 16777216) (n : Nat) (b : β) (hn : 16777216 < n) : r n 0 b = some (xs.foldl f b) := by
  have := fold_loop hr hg hl n 0 b (by omega) (by omega)
  rwa [Int.natCast_zero] at this

/-! ### Laws -/
theorem law_sz {q : Option Int} {a : Int} {P : Prop} {K : Int → Option Bool} (h : SzR q a P) (hk : P → ∀ v, K v = some true) : (q.bind fun y => bif decide (y < (0 : Int)) then some true else K y) = some true := by
  obtain ⟨v, h1, h2, h3⟩ := h
  rw [h1]
  simp only [Option.bind_some]
  by_cases hv : v < 0
  · rw [decide_eq_true hv]; rfl
  · rw [decide_eq_false hv]
    exact hk (h3 (by omega)) v
theorem some_cond {α : Type} {c : Bool} {x y : Option α} (hx : ∃ b, x = some b) (hy : ∃ b, y = some b) : ∃ b, (bif c then x else y) = some b := by
  cases c
  · exact hy
  · exact hx
theorem cond_some {α : Type} {c : Bool} {x y : α} : (bif c then some x else some y) = some (bif c then x else y) := by cases c <;> rfl

end Go.Sx

namespace Go.Sx
open Go

def eqL {α : Type} (e : α → α → Bool) : List α → List α → Bool
  | [], [] => true
  | a :: l, b :: m => e a b && eqL e l m
  | _, _ => false
theorem eqL_ne {α : Type} {e : α → α → Bool} : ∀ {l m : List α}, l.length ≠ m.length → eqL e l m = false
  | [], [], h => absurd rfl h
  | [], _ :: _, _ => rfl
  | _ :: _, [], _ => rfl
  | a :: l, b :: m, h => by simp only [eqL]; rw [eqL_ne (by simpa using h), Bool.and_false]

theorem eq2_loop {α : Type} {e : α → α → Option Bool} {f : α → α → Bool} {xs ys : List α} {r : Nat → Int → Option Bool}
    (hr : ∀ n i, r (n + 1) i = bif decide (i < (xs.length : Int)) then (if (0 : Int) ≤ i then (nth xs i.toNat).bind fun y => if (0 : Int) ≤ i then (nth ys i.toNat).bind fun y1 => (e y y1).bind fun b =>
      bif !b then some false else r n (IntKind.wrap .i64 (i + 1)) else none else none) else some true)
    (he : ∀ y ∈ xs, ∀ z ∈ ys, e y z = some (f y z)) (hxy : ys.length = xs.length) (hl : xs.length ≤ 4294967296) : ∀ (n k : Nat), xs.length < n + k → k ≤ xs.length → r n k = some (eqL f (xs.drop k) (ys.drop k))
  | 0, k, h, h2 => by omega
  | n + 1, k, h, h2 => by
    rw [hr]
    rcases Nat.lt_or_ge k xs.length with hk | hk
    · have hky : k < ys.length := by omega
      rw [show decide ((k : Int) < (xs.length : Int)) = true by simpa using hk]
      simp only [cond_true, if_pos (Int.natCast_nonneg k), Int.toNat_natCast]
      rw [nth_at hk, nth_at hky]
      simp only [Option.bind_some]
      rw [he _ (List.getElem_mem hk) _ (List.getElem_mem hky), List.drop_eq_getElem_cons hk, List.drop_eq_getElem_cons hky]
      simp only [Option.bind_some, eqL]
      cases f xs[k] ys[k] with
      | false => rfl
      | true =>
        simp only [Bool.not_true, cond_false, Bool.true_and]
        rw [wrap_succ (by omega)]
        exact eq2_loop hr he hxy hl n (k + 1) (by omega) (by omega)
    · rw [show decide ((k : Int) < (xs.length : Int)) = false by simp; omega, List.drop_eq_nil_of_le hk, List.drop_eq_nil_of_le (by omega)]
      rfl

theorem eq2_ok {α : Type} {e : α → α → Option Bool} {f : α → α → Bool} {xs ys : List α} {r : Nat → Int → Option Bool} {n : Nat} {q : Option Bool}
    (hq : q = bif !decide ((xs.length : Int) = (ys.length : Int)) then some false else r n 0)
    (hr : ∀ n i, r (n + 1) i = bif decide (i < (xs.length : Int)) then (if (0 : Int) ≤ i then (nth xs i.toNat).bind fun y => if (0 : Int) ≤ i then (nth ys i.toNat).bind fun y1 => (e y y1).bind fun b =>
      bif !b then some false else r n (IntKind.wrap .i64 (i + 1)) else none else none) else some true)
    (he : ∀ y ∈ xs, ∀ z ∈ ys, e y z = some (f y z)) (hl : xs.length ≤ 16777216) (hn : 16777216 < n) : q = some (eqL f xs ys) := by
  rw [hq]
  by_cases h : xs.length = ys.length
  · rw [decide_eq_true (show (xs.length : Int) = (ys.length : Int) by omega)]
    simp only [Bool.not_true, cond_false]
    have := eq2_loop hr he h.symm (by omega) n 0 (by omega) (by omega)
    rwa [Int.natCast_zero] at this
  · rw [decide_eq_false (show ¬ (xs.length : Int) = (ys.length : Int) by omega), eqL_ne h]
    rfl

def cost {α : Type} : List (List α) → Nat
  | [] => 0
  | x :: l => x.length + 2 + cost l
theorem cost_le {α : Type} {b : Nat} : ∀ (l : List (List α)), (∀ x ∈ l, x.length ≤ b) → cost l ≤ l.length * (b + 2)
  | [], _ => by simp [cost]
  | x :: l, h => by
    have h1 := h x (by simp)
    have h2 := cost_le l (fun y hy => h y (by simp [hy]))
    simp only [cost, List.length_cons, Nat.add_mul, Nat.one_mul]
    omega

/-- two lists of lists, held against each other in two loops -/
theorem eq2_nest {α : Type} {f : α → α → Bool} {xs ys : List (List α)} {r : Nat → Int → Option Bool} {r' : Nat → Int → Int → Option Bool}
    (hr : ∀ n i, r (n + 1) i = bif decide (i < (xs.length : Int)) then (if (0 : Int) ≤ i then (nth xs i.toNat).bind fun y => if (0 : Int) ≤ i then (nth ys i.toNat).bind fun y1 =>
      bif !decide ((y.length : Int) = (y1.length : Int)) then some false else r' n i 0 else none else none) else some true)
    (hr' : ∀ n i j, r' (n + 1) i j = if (0 : Int) ≤ i then (nth xs i.toNat).bind fun y => bif decide (j < (y.length : Int)) then (if (0 : Int) ≤ i then (nth xs i.toNat).bind fun y => if (0 : Int) ≤ j then (nth y j.toNat).bind fun y =>
      if (0 : Int) ≤ i then (nth ys i.toNat).bind fun y1 => if (0 : Int) ≤ j then (nth y1 j.toNat).bind fun y2 => bif !f y y2 then some false else r' n i (IntKind.wrap .i64 (j + 1)) else none else none else none else none) else r n (IntKind.wrap .i64 (i + 1)) else none)
    (hxy : ys.length = xs.length) (hl : xs.length ≤ 4294967296) (hb : ∀ x ∈ xs, x.length ≤ 4294967296) : ∀ (n : Nat),
      (∀ k : Nat, k ≤ xs.length → cost (xs.drop k) < n → r n k = some (eqL (eqL f) (xs.drop k) (ys.drop k))) ∧
      (∀ (k j : Nat) (hk : k < xs.length) (hky : k < ys.length), j ≤ xs[k].length → ys[k].length = xs[k].length → xs[k].length - j + 1 + cost (xs.drop (k + 1)) < n → r' n k j = some (eqL f (xs[k].drop j) (ys[k].drop j) && eqL (eqL f) (xs.drop (k + 1)) (ys.drop (k + 1))))
  | 0 => ⟨fun _ _ h => by omega, fun _ _ _ _ _ _ h => by omega⟩
  | n + 1 => by
    obtain ⟨ih1, ih2⟩ := eq2_nest hr hr' hxy hl hb n
    refine ⟨fun k hk hc => ?_, fun k j hk hky hj he hc => ?_⟩
    · rw [hr]
      rcases Nat.lt_or_ge k xs.length with hk | hk
      · have hky : k < ys.length := by omega
        rw [show decide ((k : Int) < (xs.length : Int)) = true by simpa using hk]
        simp only [cond_true, if_pos (Int.natCast_nonneg k), Int.toNat_natCast]
        rw [nth_at hk, nth_at hky]
        simp only [Option.bind_some]
        rw [List.drop_eq_getElem_cons hk] at hc ⊢
        rw [List.drop_eq_getElem_cons hky]
        simp only [cost] at hc
        simp only [eqL]
        by_cases h : xs[k].length = ys[k].length
        · rw [decide_eq_true (show (xs[k].length : Int) = (ys[k].length : Int) by omega)]
          simp only [Bool.not_true, cond_false]
          have := ih2 k 0 hk hky (Nat.zero_le _) h.symm (by omega)
          rw [Int.natCast_zero] at this
          rw [this]
          simp
        · rw [decide_eq_false (show ¬ (xs[k].length : Int) = (ys[k].length : Int) by omega), eqL_ne h]
          rfl
      · rw [show decide ((k : Int) < (xs.length : Int)) = false by simp; omega, List.drop_eq_nil_of_le hk, List.drop_eq_nil_of_le (by omega)]
        rfl
    · have hbk := hb _ (List.getElem_mem hk)
      rw [hr']
      simp only [if_pos (Int.natCast_nonneg k), if_pos (Int.natCast_nonneg j), Int.toNat_natCast]
      rw [nth_at hk, nth_at hky]
      simp only [Option.bind_some]
      rcases Nat.lt_or_ge j xs[k].length with hjl | hjl
      · have hjy : j < ys[k].length := by omega
        rw [show decide ((j : Int) < (xs[k].length : Int)) = true by simpa using hjl]
        simp only [cond_true]
        rw [nth_at hjl, nth_at hjy]
        simp only [Option.bind_some]
        rw [List.drop_eq_getElem_cons hjl, List.drop_eq_getElem_cons hjy]
        simp only [eqL]
        cases f xs[k][j] ys[k][j] with
        | false => rfl
        | true =>
          simp only [Bool.not_true, cond_false, Bool.true_and]
          rw [wrap_succ (by omega)]
          exact ih2 k (j + 1) hk hky (by omega) he (by omega)
      · rw [show decide ((j : Int) < (xs[k].length : Int)) = false by simp; omega]
        simp only [cond_false]
        rw [wrap_succ (by omega), ih1 (k + 1) (by omega) (by omega), List.drop_eq_nil_of_le hjl, List.drop_eq_nil_of_le (show ys[k].length ≤ j by omega)]
        rfl

end Go.Sx

namespace Go.Sx
open Go

theorem upd_upd {α : Type} : ∀ (b : List α) (i : Nat) (x y : α), upd (upd b i x) i y = upd b i y
  | [], _, _, _ => rfl
  | _ :: _, 0, _, _ => rfl
  | z :: b, i + 1, x, y => by simp only [upd]; rw [upd_upd b i x y]
theorem nth_upd_at {α : Type} {b : List α} {i : Nat} (h : i < b.length) (y : α) : nth (upd b i y) i = some y := nth_upd_eq (nth_at h)
theorem updO_upd {α : Type} {b : List α} {i : Nat} {x y : α} (h : i < b.length) : updO (upd b i x) i y = some (upd b i y) := by
  rw [updO_at (by rw [upd_length]; exact h), upd_upd]
/-- one store into an element -/
theorem mk1 {α β : Type} {b : List α} {i : Nat} (h : i < b.length) (f : α → α) (K : List α → Option β) :
    (if (0 : Int) ≤ (i : Int) then (if (i : Int) < (b.length : Int) then (nth b (Int.toNat (i : Int))).bind fun y => (updO b (Int.toNat (i : Int)) (f y)).bind K else none) else none) = K (upd b i (f b[i])) := by
  rw [if_pos (Int.natCast_nonneg i), if_pos (by omega), Int.toNat_natCast, nth_at h]
  simp only [Option.bind_some, updO_at h]
/-- and one more -/
theorem mk2 {α β : Type} {b : List α} {i : Nat} (h : i < b.length) (x : α) (f : α → α) (K : List α → Option β) :
    (if (0 : Int) ≤ (i : Int) then (if (i : Int) < ((upd b i x).length : Int) then (nth (upd b i x) (Int.toNat (i : Int))).bind fun y => (updO (upd b i x) (Int.toNat (i : Int)) (f y)).bind K else none) else none) = K (upd b i (f x)) := by
  rw [if_pos (Int.natCast_nonneg i), if_pos (by rw [upd_length]; omega), Int.toNat_natCast, nth_upd_at h]
  simp only [Option.bind_some, updO_upd h]
/-- an element is looked at that has been turned -/
theorem mk3 {α β : Type} {b : List α} {i : Nat} (h : i < b.length) (x : α) (K : α → Option β) :
    (if (0 : Int) ≤ (i : Int) then (if (i : Int) < ((upd b i x).length : Int) then (nth (upd b i x) (Int.toNat (i : Int))).bind K else none) else none) = K x := by
  rw [if_pos (Int.natCast_nonneg i), if_pos (by rw [upd_length]; omega), Int.toNat_natCast, nth_upd_at h]
  rfl
/-- an element is looked at -/
theorem mk4 {α β : Type} {b : List α} {i : Nat} {y : α} (h : nth b i = some y) (K : α → Option β) :
    (if (0 : Int) ≤ (i : Int) then (nth b (Int.toNat (i : Int))).bind K else none) = K y := by
  rw [if_pos (Int.natCast_nonneg i), Int.toNat_natCast, h]
  rfl
theorem upd_drop {α : Type} : ∀ {b : List α} {i : Nat} (y : α), (upd b i y).drop (i + 1) = b.drop (i + 1)
  | [], _, _ => rfl
  | _ :: _, 0, _ => rfl
  | z :: b, i + 1, y => by simp only [upd, List.drop_succ_cons]; exact upd_drop y
theorem upd_take_le {α : Type} : ∀ {b : List α} {i : Nat} (y : α), (upd b i y).take i = b.take i
  | [], _, _ => rfl
  | _ :: _, 0, _ => rfl
  | z :: b, i + 1, y => by simp only [upd, List.take_succ_cons]; rw [upd_take_le y]
theorem nth_of_take {α : Type} {b b' : List α} {i : Nat} {y : α} (h : b'.take (i + 1) = (upd b i y).take (i + 1)) (hi : i < b.length) : nth b' i = some y := by
  have h1 : (b'.take (i + 1))[i]? = ((upd b i y).take (i + 1))[i]? := by rw [h]
  rw [List.getElem?_take_of_lt (Nat.lt_succ_self i), List.getElem?_take_of_lt (Nat.lt_succ_self i)] at h1
  rw [nth_eq, h1, ← nth_eq]
  exact nth_upd_at hi y






/-- all lists are rather short -/
def Bg : (t : Ty) → t.den → Prop
  | .int _, _ => True
  | .bool, _ => True
  | .str, _ => True
  | .unit, _ => True
  | .pair a b, x => Bg a x.1 ∧ Bg b x.2
  | .sl _ a, x => List.length x ≤ 16777216 ∧ ∀ y ∈ (x : List a.den), Bg a y
theorem Bg_flat : ∀ {t : Ty}, t.hasSl = false → ∀ x : t.den, Bg t x
  | .int _, _, _ => trivial
  | .bool, _, _ => trivial
  | .str, _, _ => trivial
  | .unit, _, _ => trivial
  | .pair a b, h, x => by
    simp only [Ty.hasSl, Bool.or_eq_false_iff] at h
    exact ⟨Bg_flat h.1 x.1, Bg_flat h.2 x.2⟩
  | .sl _ _, h, _ => by cases h
theorem Bg_of : ∀ {t : Ty} {x : t.den}, Bd t x → Bg t x
  | .int _, _, _ => trivial
  | .bool, _, _ => trivial
  | .str, _, _ => trivial
  | .unit, _, _ => trivial
  | .pair a b, x, h => ⟨Bg_of (t := a) h.1, Bg_of (t := b) h.2⟩
  | .sl _ a, x, h => ⟨Nat.le_trans h.1 (by decide), fun y hy => Bg_of (t := a) (h.2 y hy)⟩

theorem mh_loop {α : Type} {B : α → Prop} {W : Int} {r : Nat → Int → Int → List α → Option (Int × List α × Unit)} {s : Nat → List α → Int → Int → Option Int} (hW : 0 ≤ W)
    (step : ∀ (k : Int) (i : Nat) (b : List α) (hi : i < b.length), B b[i] → 0 < k → k + W ≤ 4611686018427387904 → i < 16777216 →
      ∃ y k', k ≤ k' ∧ k' ≤ k + W ∧ (∀ n, r (n + 1) k i b = r n k' ((i : Int) + 1) (upd b i y)) ∧ ∀ (m : Nat) (b' : List α), nth b' i = some y → s (m + 1) b' k i = s m b' k' ((i : Int) + 1))
    (rd : ∀ n k (b : List α), r (n + 1) k (b.length : Nat) b = some (k, b, ())) (sd : ∀ n k (b : List α), s (n + 1) b k (b.length : Nat) = some k) :
    ∀ (n i : Nat) (k : Int) (b : List α) (m : Nat), b.length < n + i → b.length < m + i → i ≤ b.length → (∀ x ∈ b.drop i, B x) → 0 < k → k + ((b.length - i : Nat) : Int) * W ≤ 4611686018427387904 → b.length ≤ 16777216 →
      ∃ k' b', r n k i b = some (k', b', ()) ∧ s m b' k i = some k' ∧ k ≤ k' ∧ k' ≤ k + ((b.length - i : Nat) : Int) * W ∧ b'.length = b.length ∧ b'.take i = b.take i
  | 0, i, k, b, m, h1, _, h3, _, _, _, _ => by omega
  | n + 1, i, k, b, 0, _, h2, h3, _, _, _, _ => by omega
  | n + 1, i, k, b, m + 1, h1, h2, h3, h4, h5, h6, h7 => by
    rcases Nat.lt_or_ge i b.length with hi | hi
    · have e : ((b.length - i : Nat) : Int) * W = ((b.length - (i + 1) : Nat) : Int) * W + W := by
        rw [show ((b.length - i : Nat) : Int) = ((b.length - (i + 1) : Nat) : Int) + 1 by omega, Int.add_mul, Int.one_mul]
      have hnn : 0 ≤ ((b.length - (i + 1) : Nat) : Int) * W := Int.mul_nonneg (by omega) hW
      have hB : B b[i] := h4 _ (by rw [List.drop_eq_getElem_cons hi]; exact List.mem_cons_self ..)
      obtain ⟨y, k', a1, a2, a3, a4⟩ := step k i b hi hB h5 (by omega) (by omega)
      obtain ⟨k2, b2, c1, c2, c3, c4, c5, c6⟩ := mh_loop hW step rd sd n (i + 1) k' (upd b i y) m (by rw [upd_length]; omega) (by rw [upd_length]; omega) (by rw [upd_length]; omega)
        (by rw [upd_drop]; intro x hx; exact h4 x (by rw [List.drop_eq_getElem_cons hi]; exact List.mem_cons_of_mem _ hx)) (by omega) (by rw [upd_length]; omega) (by rw [upd_length]; exact h7)
      rw [upd_length] at c4 c5
      have ec : ((i + 1 : Nat) : Int) = (i : Int) + 1 := by omega
      rw [ec] at c1 c2
      refine ⟨k2, b2, by rw [a3 n]; exact c1, by rw [a4 m b2 (nth_of_take c6 hi)]; exact c2, by omega, by omega, c5, ?_⟩
      have := congrArg (List.take i) c6
      rw [List.take_take, List.take_take, Nat.min_eq_left (Nat.le_succ i), upd_take_le] at this
      exact this
    · have e : i = b.length := by omega
      subst e
      exact ⟨k, b, rd n k b, sd m k b, Int.le_refl _, by simp, rfl, rfl⟩

/-- a list marked, and held against its marks -/
theorem mh_list {α : Type} {B : α → Prop} {W : Int} {r : Nat → Int → Int → List α → Option (Int × List α × Unit)} {s : Nat → List α → Int → Int → Option Int} (hW : 0 ≤ W)
    (step : ∀ (k : Int) (i : Nat) (b : List α) (hi : i < b.length), B b[i] → 0 < k → k + W ≤ 4611686018427387904 → i < 16777216 →
      ∃ y k', k ≤ k' ∧ k' ≤ k + W ∧ (∀ n, r (n + 1) k i b = r n k' ((i : Int) + 1) (upd b i y)) ∧ ∀ (m : Nat) (b' : List α), nth b' i = some y → s (m + 1) b' k i = s m b' k' ((i : Int) + 1))
    (rd : ∀ n k (b : List α), r (n + 1) k (b.length : Nat) b = some (k, b, ())) (sd : ∀ n k (b : List α), s (n + 1) b k (b.length : Nat) = some k)
    {n : Nat} (hn : 16777216 < n) {xs : List α} (hl : xs.length ≤ 16777216) (hB : ∀ x ∈ xs, B x) {k : Int} (hk : 0 < k) (hM : k + 16777216 * W ≤ 4611686018427387904) :
      ∃ k' b', r n k 0 xs = some (k', b', ()) ∧ s n b' k 0 = some k' ∧ k ≤ k' ∧ k' ≤ k + 16777216 * W := by
  have hl' : xs.length ≤ 16777216 := hl
  have hle : ((xs.length - 0 : Nat) : Int) * W ≤ 16777216 * W := Int.mul_le_mul_of_nonneg_right (by omega) hW
  obtain ⟨k', b', c1, c2, c3, c4, _, _⟩ := mh_loop hW step rd sd n 0 k xs n (by omega) (by omega) (Nat.zero_le _) (by simpa using hB) hk (by omega) hl
  exact ⟨k', b', c1, c2, c3, by omega⟩
end Go.Sx

namespace Go.Sx
open Go

/-- a loop that ends with one answer at the first element of a kind -/
theorem any_loop {α β : Type} {p : α → Bool} {xs : List α} {b : β} {e : Option β} {r : Nat → Int → Option β}
    (hr : ∀ (n k : Nat) (hk : k < xs.length), r (n + 1) (k : Int) = bif p xs[k] then some b else r n ((k + 1 : Nat) : Int)) (h0 : ∀ n, r (n + 1) ((xs.length : Nat) : Int) = e) :
    ∀ (n k : Nat), xs.length < n + k → k ≤ xs.length → r n (k : Int) = bif (xs.drop k).any p then some b else e
  | 0, k, h, h2 => by omega
  | n + 1, k, h, h2 => by
    rcases Nat.lt_or_ge k xs.length with hk | hk
    · rw [hr n k hk, List.drop_eq_getElem_cons hk, List.any_cons]
      cases p xs[k] with
      | true => rfl
      | false => simp only [cond_false, Bool.false_or]; exact any_loop hr h0 n (k + 1) (by omega) (by omega)
    · have e1 : k = xs.length := by omega
      subst e1
      rw [h0, List.drop_length]; rfl
theorem any_ok {α β : Type} {p : α → Bool} {xs : List α} {b : β} {e : Option β} {r : Nat → Int → Option β} {n : Nat}
    (hr : ∀ (n k : Nat) (hk : k < xs.length), r (n + 1) (k : Int) = bif p xs[k] then some b else r n ((k + 1 : Nat) : Int)) (h0 : ∀ n, r (n + 1) ((xs.length : Nat) : Int) = e)
    (hn : xs.length < n) : r n 0 = bif xs.any p then some b else e := by
  have := any_loop hr h0 n 0 (by omega) (Nat.zero_le _)
  rwa [Int.natCast_zero, List.drop_zero] at this

/-- where the first element of a kind stands, -1 without one -/
def fIdx {α : Type} (p : α → Bool) : List α → Int → Int
  | [], _ => -1
  | x :: l, k => bif p x then k else fIdx p l (k + 1)
theorem fIdx_any {α : Type} {p : α → Bool} : ∀ {l : List α} {k : Int}, 0 ≤ k → decide (0 ≤ fIdx p l k) = l.any p
  | [], _, _ => rfl
  | x :: l, k, h => by
    cases hp : p x with
    | true => simp only [fIdx, List.any_cons, hp, cond_true, Bool.true_or]; exact decide_eq_true h
    | false => simp only [fIdx, List.any_cons, hp, cond_false, Bool.false_or]; exact fIdx_any (by omega)
theorem fIdx_lt {α : Type} {p : α → Bool} : ∀ {l : List α} {k : Int}, 0 ≤ k → fIdx p l k < k + l.length ∧ (0 ≤ fIdx p l k → k ≤ fIdx p l k)
  | [], k, h => ⟨by simp only [fIdx, List.length_nil]; omega, fun h => by simp [fIdx] at h⟩
  | x :: l, k, h => by
    cases hp : p x with
    | true => simp only [fIdx, List.length_cons, hp, cond_true]; exact ⟨by omega, fun _ => Int.le_refl _⟩
    | false =>
      simp only [fIdx, List.length_cons, hp, cond_false]
      have := fIdx_lt (p := p) (l := l) (k := k + 1) (by omega)
      exact ⟨by omega, fun hh => by have := this.2 hh; omega⟩
theorem idx_loop {α C : Type} {p : α → Bool} {xs : List α} {c : C} {r : Nat → Int → Option (Int × C)}
    (hr : ∀ (n k : Nat) (hk : k < xs.length), r (n + 1) (k : Int) = bif p xs[k] then some ((k : Int), c) else r n ((k + 1 : Nat) : Int)) (h0 : ∀ n, r (n + 1) ((xs.length : Nat) : Int) = some (-1, c)) :
    ∀ (n k : Nat), xs.length < n + k → k ≤ xs.length → r n (k : Int) = some (fIdx p (xs.drop k) k, c)
  | 0, k, h, h2 => by omega
  | n + 1, k, h, h2 => by
    rcases Nat.lt_or_ge k xs.length with hk | hk
    · rw [hr n k hk, List.drop_eq_getElem_cons hk]
      simp only [fIdx]
      cases p xs[k] with
      | true => rfl
      | false =>
        simp only [cond_false]
        rw [idx_loop hr h0 n (k + 1) (by omega) (by omega)]
        rfl
    · have e1 : k = xs.length := by omega
      subst e1
      rw [h0, List.drop_length]; rfl
theorem idx_ok {α C : Type} {p : α → Bool} {xs : List α} {c : C} {r : Nat → Int → Option (Int × C)} {n : Nat}
    (hr : ∀ (n k : Nat) (hk : k < xs.length), r (n + 1) (k : Int) = bif p xs[k] then some ((k : Int), c) else r n ((k + 1 : Nat) : Int)) (h0 : ∀ n, r (n + 1) ((xs.length : Nat) : Int) = some (-1, c))
    (hn : xs.length < n) : r n 0 = some (fIdx p xs 0, c) := by
  have := idx_loop hr h0 n 0 (by omega) (Nat.zero_le _)
  rwa [Int.natCast_zero, List.drop_zero] at this

/-! ### Bits -/
theorem bit_one (v : Int) : IntKind.wrap .i64 ((BitVec.ofInt IntKind.i64.bits v &&& BitVec.ofInt IntKind.i64.bits 1).toNat : Int) = v % 2 := by
  have h : (BitVec.ofInt IntKind.i64.bits v &&& BitVec.ofInt IntKind.i64.bits 1).toNat = (v % 2).toNat := by
    have hb : IntKind.i64.bits = 64 := rfl
    rw [hb]
    have h1 : (BitVec.ofInt 64 1) = 1#64 := rfl
    rw [h1, BitVec.toNat_and, BitVec.toNat_ofInt, show (1#64).toNat = 1 from rfl, Nat.and_one_is_mod]
    omega
  rw [h, wrap64 (by omega) (by omega)]
  omega
theorem odd_bit (v : Int) : decide (IntKind.wrap .i64 ((BitVec.ofInt IntKind.i64.bits v &&& BitVec.ofInt IntKind.i64.bits 1).toNat : Int) = 1) = !decide (v.tmod 2 = 0) := by
  rw [bit_one]
  have : (v.tmod 2 = 0) ↔ ¬ (v % 2 = 1) := by
    constructor
    · intro h; have := Int.emod_eq_zero_of_dvd (Int.dvd_of_tmod_eq_zero h); omega
    · intro h; exact Int.tmod_eq_zero_of_dvd (Int.dvd_of_emod_eq_zero (by omega))
  by_cases h : v % 2 = 1
  · rw [decide_eq_true h, decide_eq_false (by rw [this]; simpa using h)]; rfl
  · rw [decide_eq_false h, decide_eq_true (this.2 h)]; rfl
end Go.Sx

namespace Go.Sx
open Go

theorem bl_irrefl : ∀ l : List UInt8, Op.bytesLess l l = false
  | [] => rfl
  | a :: l => by
    simp only [Op.bytesLess, bl_irrefl l, Bool.and_false, Bool.or_false, decide_eq_false_iff_not]
    exact UInt8.lt_irrefl a
theorem bl_trans : ∀ {x y z : List UInt8}, Op.bytesLess x y = true → Op.bytesLess y z = true → Op.bytesLess x z = true
  | _, [], _, h, _ => by cases ‹List UInt8› <;> simp [Op.bytesLess] at h
  | _, _ :: _, [], _, h => by simp [Op.bytesLess] at h
  | [], _ :: _, _ :: _, _, _ => rfl
  | a :: x, b :: y, c :: z, h, h' => by
    simp only [Op.bytesLess, Bool.or_eq_true, Bool.and_eq_true, decide_eq_true_eq, beq_iff_eq] at h h' ⊢
    rcases h with h | ⟨rfl, h⟩
    · rcases h' with h' | ⟨rfl, _⟩
      · exact .inl (UInt8.lt_trans h h')
      · exact .inl h
    · rcases h' with h' | ⟨rfl, h'⟩
      · exact .inl h'
      · exact .inr ⟨rfl, bl_trans h h'⟩
theorem bl_tri : ∀ {x y : List UInt8}, Op.bytesLess x y = false → x ≠ y → Op.bytesLess y x = true
  | [], [], _, h => absurd rfl h
  | _ :: _, [], _, _ => rfl
  | [], _ :: _, h, _ => by simp [Op.bytesLess] at h
  | a :: x, b :: y, h, hn => by
    simp only [Op.bytesLess, Bool.or_eq_false_iff, decide_eq_false_iff_not, Bool.and_eq_false_iff, beq_eq_false_iff_ne] at h
    simp only [Op.bytesLess, Bool.or_eq_true, Bool.and_eq_true, decide_eq_true_eq, beq_iff_eq]
    by_cases e : a = b
    · subst e
      refine .inr ⟨rfl, bl_tri (h.2.resolve_left (fun q => q rfl)) (fun e => hn (by rw [e]))⟩
    · left
      rcases UInt8.lt_or_eq_of_le (UInt8.not_lt.1 h.1) with q | q
      · exact q
      · exact absurd q.symm e

/-- one key lies ahead of another -/
def kl (a b : ByteArray) : Bool := Op.bytesLess a.toList b.toList
theorem kl_irrefl (a : ByteArray) : kl a a = false := bl_irrefl _
theorem kl_trans {a b c : ByteArray} (h : kl a b = true) (h' : kl b c = true) : kl a c = true := bl_trans h h'
theorem toList_ne {a b : ByteArray} (h : a ≠ b) : a.toList ≠ b.toList := fun e => by
  have := bytes_eq a b
  rw [decide_eq_false h, e] at this
  simp at this
theorem kl_tri {a b : ByteArray} (h : kl a b = false) (hn : a ≠ b) : kl b a = true := bl_tri h (toList_ne hn)
theorem kl_asymm {a b : ByteArray} (h : kl a b = true) : kl b a = false := by
  cases hb : kl b a with
  | false => rfl
  | true => have := kl_trans h hb; rw [kl_irrefl] at this; cases this
theorem kl_ne {a b : ByteArray} (h : kl a b = true) : a ≠ b := fun e => by rw [e, kl_irrefl] at h; cases h

abbrev CellT : Type := ByteArray × Int × Unit

/-- a key that may be -/
def keyB (k : ByteArray) : Bool := bif k.data.toList.any (fun y => decide ((y.toNat : Int) < 97) || decide (122 < (y.toNat : Int))) then false else (bif decide ((1 : Int) ≤ (k.size : Int)) then decide ((k.size : Int) ≤ 3) else false)
def numB (n : Int) : Bool := bif decide (0 ≤ n) then decide (n ≤ 1000000000) else false
theorem numB_iff {n : Int} : numB n = true ↔ 0 ≤ n ∧ n ≤ 1000000000 := by
  unfold numB
  by_cases h : 0 ≤ n
  · rw [decide_eq_true h]; simp [h]
  · rw [decide_eq_false h]; simp [h]
def ltO (p : Option ByteArray) (k : ByteArray) : Bool := match p with | none => true | some q => kl q k
/-- cells in order, behind a key -/
def frm : Option ByteArray → List CellT → Bool
  | _, [] => true
  | p, y :: l => keyB y.1 && (numB y.2.1 && (ltO p y.1 && frm (some y.1) l))
theorem frm_cons {p : Option ByteArray} {y : CellT} {l : List CellT} (h : frm p (y :: l) = true) : keyB y.1 = true ∧ numB y.2.1 = true ∧ ltO p y.1 = true ∧ frm (some y.1) l = true := by
  simp only [frm, Bool.and_eq_true] at h
  exact h
theorem frm_gt {q : ByteArray} : ∀ {l : List CellT}, frm (some q) l = true → ∀ z ∈ l, kl q z.1 = true
  | [], _, _, hz => by cases hz
  | y :: l, h, z, hz => by
    obtain ⟨_, _, h3, h4⟩ := frm_cons h
    rcases List.mem_cons.1 hz with e | hz
    · subst e; exact h3
    · exact kl_trans h3 (frm_gt h4 z hz)
theorem frm_key {p : Option ByteArray} : ∀ {l : List CellT}, frm p l = true → ∀ z ∈ l, keyB z.1 = true ∧ numB z.2.1 = true
  | [], _, _, hz => by cases hz
  | y :: l, h, z, hz => by
    obtain ⟨h1, h2, _, h4⟩ := frm_cons h
    rcases List.mem_cons.1 hz with e | hz
    · subst e; exact ⟨h1, h2⟩
    · exact frm_key h4 z hz

/-- a cell put in its place -/
def putC (k : ByteArray) (n : Int) : List CellT → List CellT
  | [] => [(k, n, ())]
  | y :: l => bif kl y.1 k then y :: putC k n l else (bif decide (y.1 = k) then (k, n, ()) :: l else (k, n, ()) :: y :: l)
def hasK (k : ByteArray) (l : List CellT) : Bool := l.any fun y => decide (y.1 = k)

theorem frm_put {k : ByteArray} {n : Int} (hk : keyB k = true) : ∀ {l : List CellT} {p : Option ByteArray}, frm p l = true → ltO p k = true → frm p (putC k n l) = numB n
  | [], p, _, hp => by simp only [putC, frm, hk, hp, Bool.true_and, Bool.and_true]
  | y :: l, p, h, hp => by
    obtain ⟨h1, h2, h3, h4⟩ := frm_cons h
    simp only [putC]
    cases hl : kl y.1 k with
    | true =>
      simp only [cond_true, frm, h1, h2, h3, Bool.true_and]
      exact frm_put hk h4 hl
    | false =>
      simp only [cond_false]
      by_cases e : y.1 = k
      · rw [decide_eq_true e, cond_true]
        simp only [frm, hk, hp, Bool.true_and]
        rw [← e, h4, Bool.and_true]
      · rw [decide_eq_false e, cond_false]
        simp only [frm, hk, hp, Bool.true_and, h1, h2, h4, Bool.and_true]
        rw [show ltO (some k) y.1 = true from kl_tri hl e, Bool.and_true]
theorem put_length {k : ByteArray} {n : Int} : ∀ {l : List CellT} {p : Option ByteArray}, frm p l = true → (putC k n l).length = bif hasK k l then l.length else l.length + 1
  | [], _, _ => rfl
  | y :: l, p, h => by
    obtain ⟨h1, h2, h3, h4⟩ := frm_cons h
    simp only [putC, hasK, List.any_cons]
    cases hl : kl y.1 k with
    | true =>
      rw [decide_eq_false (kl_ne hl), Bool.false_or, cond_true, List.length_cons, put_length h4]
      unfold hasK
      cases l.any fun y => decide (y.1 = k) <;> simp
    | false =>
      by_cases e : y.1 = k
      · rw [decide_eq_true e]; simp
      · rw [decide_eq_false e, cond_false, cond_false, Bool.false_or]
        have hlt := kl_tri hl e
        have : (l.any fun y => decide (y.1 = k)) = false := by
          rw [List.any_eq_false]
          intro z hz
          rw [decide_eq_true_eq]
          exact fun e2 => kl_ne (kl_trans hlt (frm_gt h4 z hz)) e2.symm
        rw [this]; simp
/-- .. as a filter does it -/
theorem filter_gt {k q : ByteArray} {l : List CellT} (h : frm (some q) l = true) (hq : q = k ∨ kl k q = true) : l.filter (fun y => kl y.1 k) = [] ∧ l.filter (fun y => !(kl y.1 k || decide (y.1 = k))) = l := by
  have hz : ∀ z ∈ l, kl k z.1 = true := fun z hz => by
    rcases hq with e | e
    · rw [← e]; exact frm_gt h z hz
    · exact kl_trans e (frm_gt h z hz)
  constructor
  · rw [List.filter_eq_nil_iff]
    intro z hm
    rw [kl_asymm (hz z hm)]; simp
  · rw [List.filter_eq_self]
    intro z hm
    rw [kl_asymm (hz z hm), decide_eq_false (Ne.symm (kl_ne (hz z hm)))]; rfl
theorem put_filter {k : ByteArray} {n : Int} : ∀ {l : List CellT} {p : Option ByteArray}, frm p l = true → l.filter (fun y => kl y.1 k) ++ (k, n, ()) :: l.filter (fun y => !(kl y.1 k || decide (y.1 = k))) = putC k n l
  | [], _, _ => rfl
  | y :: l, p, h => by
    obtain ⟨h1, h2, h3, h4⟩ := frm_cons h
    simp only [putC, List.filter_cons]
    cases hl : kl y.1 k with
    | true =>
      simp only [if_true, Bool.true_or, Bool.not_true, Bool.false_eq_true, if_false, cond_true, List.cons_append]
      rw [put_filter h4]
    | false =>
      by_cases e : y.1 = k
      · obtain ⟨f1, f2⟩ := filter_gt (k := k) h4 (.inl e)
        rw [f1, f2, decide_eq_true e]; simp
      · obtain ⟨f1, f2⟩ := filter_gt (k := k) h4 (.inr (kl_tri hl e))
        rw [f1, f2, decide_eq_false e]; simp
/-- .. as it is set -/
theorem put_upd {k : ByteArray} {n : Int} : ∀ {l : List CellT} {p : Option ByteArray} {i : Nat} {y : CellT}, frm p l = true → nth l i = some y → y.1 = k → putC k n l = upd l i (y.1, n, ())
  | z :: l, p, 0, y, _, hn, e => by
    simp only [nth, Option.some.injEq] at hn
    subst hn
    simp only [putC, upd]
    rw [e, kl_irrefl, decide_eq_true rfl]; rfl
  | z :: l, p, i + 1, y, h, hn, e => by
    obtain ⟨_, _, _, h4⟩ := frm_cons h
    simp only [nth] at hn
    have hm : y ∈ l := by rw [nth_eq] at hn; exact List.mem_of_getElem? hn
    have hlt := frm_gt h4 y hm
    rw [e] at hlt
    simp only [putC, upd, hlt, cond_true]
    rw [put_upd h4 hn e]

/-! ### One command done -/
abbrev CmdT : Type := Int × ByteArray × Int × Unit
def cmdB (c : CmdT) : Bool := bif (bif decide ((1 : Int) ≤ c.1) then decide (c.1 ≤ 3) else false) then (bif keyB c.2.1 then numB c.2.2.1 else false) else false
def okB (l : List CellT) : Bool := bif decide ((l.length : Int) ≤ 12) then frm none l else false
/-- the number that a key has -/
def numAt (k : ByteArray) : List CellT → Option Int
  | [] => none
  | y :: l => bif decide (y.1 = k) then some y.2.1 else numAt k l
/-- the new number -/
def newN (l : List CellT) (c : CmdT) : Option Int :=
  bif decide (c.1 = 1) then some c.2.2.1 else match numAt c.2.1 l with
    | none => none
    | some m => some (bif decide (c.1 = 3) then m - c.2.2.1 else m + c.2.2.1)
def doneC (l : List CellT) (c : CmdT) : List CellT × Int × Unit :=
  bif okB l then (bif cmdB c then (match newN l c with
    | none => (l, 1, ())
    | some n => bif okB (putC c.2.1 n l) then (putC c.2.1 n l, 0, ()) else (l, 2, ())) else (l, 2, ())) else (l, 2, ())

theorem ok_put {l : List CellT} {k : ByteArray} {n : Int} (h : okB l = true) (hk : keyB k = true) : okB (putC k n l) = (numB n && (hasK k l || decide ((l.length : Int) < 12))) := by
  unfold okB at h ⊢
  by_cases hl : (l.length : Int) ≤ 12
  · rw [decide_eq_true hl, cond_true] at h
    rw [put_length h, frm_put hk h rfl]
    cases hh : hasK k l with
    | true => rw [cond_true, decide_eq_true hl]; simp
    | false =>
      rw [cond_false]
      by_cases h2 : (l.length : Int) < 12
      · rw [decide_eq_true (by omega), decide_eq_true h2]; simp
      · rw [decide_eq_false (by omega), decide_eq_false h2]; simp
  · rw [decide_eq_false hl] at h; cases h
theorem done_length {l : List CellT} {c : CmdT} : (doneC l c).1.length ≤ max l.length 12 := by
  have key : ∀ m : List CellT, okB m = true → m.length ≤ 12 := fun m h => by
    unfold okB at h
    by_cases hl : (m.length : Int) ≤ 12
    · omega
    · rw [decide_eq_false hl] at h; cases h
  unfold doneC
  cases okB l with
  | false => simp only [cond_false]; omega
  | true =>
    cases cmdB c with
    | false => simp only [cond_true, cond_false]; omega
    | true =>
      simp only [cond_true]
      split
      · dsimp only; omega
      · rename_i n _
        cases h : okB (putC c.2.1 n l) with
        | true => have := key _ h; simp only [cond_true]; omega
        | false => simp only [cond_false]; omega
/-- all commands done -/
def doneL (l : List CellT) (cs : List CmdT) : List CellT := cs.foldl (fun l c => (doneC l c).1) l
theorem doneL_length : ∀ (cs : List CmdT) {l : List CellT} {m : Nat}, l.length ≤ m → 12 ≤ m → (doneL l cs).length ≤ m
  | [], _, _, h, _ => h
  | c :: cs, l, m, h, h2 => doneL_length cs (l := (doneC l c).1) (by have := done_length (l := l) (c := c); omega) h2

/-- the codes -/
def doneK : List CellT → List CmdT → List Int
  | _, [] => []
  | l, c :: cs => (doneC l c).2.1 :: doneK (doneC l c).1 cs
theorem doneK_length : ∀ (cs : List CmdT) (l : List CellT), (doneK l cs).length = cs.length
  | [], _ => rfl
  | _ :: cs, _ => by simp only [doneK, List.length_cons, doneK_length cs]
end Go.Sx
