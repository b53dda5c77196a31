/- '==' of structs; what a seat's table of types says. -/
import Derived.Test.YthjmknhkfkofgaaK5
import Derived.Laws.StructEq
import Derived.KernelRfl
import Derived.ProofKit
import Derived.JoinedOf
import Derived.OpenShut
set_option linter.unusedVariables false
namespace Go.Sx
open Go

mutual
inductive EqT (P : Program) : Nat → TypeId → Ty → Prop
  | int {d : Nat} {t : TypeId} {k : IntKind} : P.underlying t = some (.int k) → EqT P (d + 1) t (.int k)
  | bool {d : Nat} {t : TypeId} : P.underlying t = some .bool → EqT P (d + 1) t .bool
  | str {d : Nat} {t : TypeId} : P.underlying t = some .string → EqT P (d + 1) t .str
  | struct {d : Nat} {t : TypeId} {ty : Ty} {fs : List Field} : P.underlying t = some (.struct (P.fieldsOf t)) → P.stoodInHeld t = false → ty.isAgg = true → (P.fieldsOf t).toList = fs → EqF P d fs 0 ty → EqT P (d + 1) t ty
inductive EqF (P : Program) : Nat → List Field → Nat → Ty → Prop
  | nil {d off : Nat} : EqF P d [] off .unit
  | cons {d off off' : Nat} {f : Field} {fs : List Field} {a b : Ty} : f.offset = off → f.name ≠ "_" → (∃ inf, P.info? f.type = some inf ∧ inf.size = a.size) → (∃ ds, P.underlying f.type = some ds ∧ descAgg ds = a.isAgg) →
      off' = off + a.size → EqT P d f.type a → EqF P d fs off' b → EqF P d (f :: fs) off (.pair a b)
end

theorem run_part' {P : Program} {t : TypeId} {a : Ty} (h1 : ∃ inf, P.info? t = some inf ∧ inf.size = a.size) (h2 : ∃ ds, P.underlying t = some ds ∧ descAgg ds = a.isAgg) {im : Nat → Prop} {w1 : World} {x : a.den} {pre c r : List Value} {w : World}
    (hx : TR im w1 false a x c []) : (part t (pre ++ (c ++ r)).toArray pre.length).run P w = .ok (mkV a c) w := by
  obtain ⟨inf, i1, i2⟩ := h1
  obtain ⟨ds, u1, u2⟩ := h2
  have hl := hx.len
  unfold part
  rw [Sx.run_bind_ok (Sx.run_isAgg u1), u2]
  cases ha : a.isAgg with
  | true =>
    simp only [if_true]
    rw [Sx.run_bind_ok (Sx.run_sizeOf i1), i2]
    simp only [mkV, ha, if_true]
    rw [Sx.run_pure]
    congr 2
    rw [← Array.toList_inj]
    simp [List.extract_eq_take_drop, hl]
  | false =>
    simp only [Bool.false_eq_true, if_false]
    obtain ⟨u, rfl, _⟩ := hx.scalar ha
    simp only [mkV, ha, Bool.false_eq_true, if_false, List.headD_cons]
    simp only [List.getElem?_toArray]
    rw [List.getElem?_append_right (Nat.le_refl _)]
    simp only [Nat.sub_self, List.cons_append, List.nil_append, List.getElem?_cons_zero]
    rfl

theorem bytes_beq (a b : ByteArray) : (a.toList == b.toList) = decide (a = b) := by
  rw [← Go.beq_toListBytes, Bool.eq_iff_iff]
  obtain ⟨x⟩ := a
  obtain ⟨y⟩ := b
  show (x == y) = true ↔ _
  simp

def RunF (P : Program) (w : World) (d : Nat) (ty : Ty) : Prop :=
  ∀ (im : Nat → Prop) (w1 : World) (n : Nat) (fs : List Field) (off : Nat) (x y : ty.den) (cx cy pre pre' : List Value), pre.length = off → pre'.length = off → EqF P n fs off ty → TR im w1 false ty x cx [] → TR im w1 false ty y cy [] →
    (Op.eqFields (d + n) (pre ++ cx).toArray (pre' ++ cy).toArray fs).run P w = .ok (eqD ty x y) w
def RunT (P : Program) (w : World) (d : Nat) (ty : Ty) : Prop :=
  ∀ (im : Nat → Prop) (w1 : World) (n : Nat) (t : TypeId) (x y : ty.den) (cx cy : List Value), EqT P n t ty → TR im w1 false ty x cx [] → TR im w1 false ty y cy [] → (Op.equalIn (d + n) t (mkV ty cx) (mkV ty cy)).run P w = .ok (eqD ty x y) w

theorem runT_of {P : Program} {w : World} {d : Nat} {ty : Ty} (hF : RunF P w d ty) : RunT P w d ty := by
  intro im w1 n t x y cx cy h hx hy
  cases h with
  | @int n _ k h =>
    rw [hx.1, hy.1]
    exact run_equalIn_int w (d + n) _ k k x y h
  | @bool n _ h =>
    rw [hx.1, hy.1]
    exact run_equalIn_bool' w (d + n) _ x y h
  | @str n _ h =>
    rw [hx.1, hy.1]
    show (Op.equalIn (d + n + 1) _ (.string x) (.string y)).run P w = _
    rw [run_equalIn_string w (d + n) _ x y h, bytes_beq]
    rfl
  | @struct n _ _ fs h1 h2 h3 h4 h5 =>
    have ex : mkV ty cx = .agg cx.toArray := by simp [mkV, h3]
    have ey : mkV ty cy = .agg cy.toArray := by simp [mkV, h3]
    rw [ex, ey]
    show (Op.equalIn (d + n + 1) _ _ _).run P w = _
    rw [run_equalIn_struct w (d + n) _ _ _ h1 h2, h4]
    exact hF im w1 n fs 0 x y cx cy [] [] rfl rfl h5 hx hy

theorem runF_all {P : Program} {w : World} {d : Nat} : ∀ ty : Ty, RunF P w d ty
  | .int _ => fun im w1 n fs off x y cx cy pre pre' _ _ h => by cases h
  | .bool => fun im w1 n fs off x y cx cy pre pre' _ _ h => by cases h
  | .str => fun im w1 n fs off x y cx cy pre pre' _ _ h => by cases h
  | .sl _ _ => fun im w1 n fs off x y cx cy pre pre' _ _ h => by cases h
  | .unit => fun im w1 n fs off x y cx cy pre pre' _ _ h hx hy => by cases h; rfl
  | .pair a b => fun im w1 n fs off x y cx cy pre pre' h1 h2 h hx hy => by
    have hA := runT_of (runF_all (P := P) (w := w) (d := d) a)
    have hB := runF_all (P := P) (w := w) (d := d) b
    cases h with
    | @cons _ _ off' f fs _ _ k1 k2 k3 k4 k5 k6 k7 =>
      obtain ⟨c1, c2, S1, S2, e1, e2, q1, q2⟩ := hx
      obtain ⟨c1', c2', S1', S2', e1', e2', q1', q2'⟩ := hy
      have z1 := (List.append_eq_nil_iff.1 e2.symm)
      have z2 := (List.append_eq_nil_iff.1 e2'.symm)
      obtain ⟨rfl, rfl⟩ := z1
      obtain ⟨rfl, rfl⟩ := z2
      subst e1; subst e1'
      have o1 : f.offset = pre.length := by rw [k1, h1]
      have o2 : f.offset = pre'.length := by rw [k1, h2]
      simp only [Op.eqFields, if_pos k2]
      have r1 := run_part' k3 k4 (pre := pre) (r := c2) (w := w) q1
      have r2 := run_part' k3 k4 (pre := pre') (r := c2') (w := w) q1'
      rw [← o1] at r1
      rw [← o2] at r2
      rw [Sx.run_bind_ok r1, Sx.run_bind_ok r2, Sx.run_bind_ok (hA im w1 n _ _ _ _ _ k6 q1 q1')]
      simp only [eqD]
      cases he : eqD a x.1 y.1 with
      | false => rfl
      | true =>
        simp only [Bool.not_true, Bool.false_eq_true, if_false, Bool.true_and]
        have := hB im w1 n fs off' x.2 y.2 c2 c2' (pre ++ c1) (pre' ++ c1') (by rw [List.length_append, q1.len, h1, k5]) (by rw [List.length_append, q1'.len, h2, k5]) k7 q2 q2'
        rw [List.append_assoc, List.append_assoc] at this
        exact this

theorem eqOk {P : Program} {t : TypeId} {ty : Ty} (n : Nat) (hn : n ≤ 10000) (h : EqT P n t ty) (ha : ty.isAgg = true) (hg : P.eqGuardType P.depth t = false) : EqOk P t ty where
  agg := ha
  guard := hg
  run := fun im w w1 x y cx cy hx hy => by
    have := runT_of (runF_all (P := P) (w := w) (d := 10000 - n) ty) im w1 n t x y cx cy h hx hy
    rw [show 10000 - n + n = 10000 by omega] at this
    simp only [mkV, ha, if_true] at this
    exact this

theorem tis_ok {P : Program} {E : Env} {l : List (Nat × TI)} (h : ∀ q ∈ l, TIok P E q.1 q.2) : ∀ t i, assoc l t = some i → TIok P E t i := fun t i hi => h (t, i) (assoc_mem hi)

theorem all_nil {α : Type _} {p : α → Prop} : ∀ q ∈ ([] : List α), p q := by simp
theorem all_cons {α : Type _} {p : α → Prop} {x : α} {l : List α} (h : p x) (hl : ∀ q ∈ l, p q) : ∀ q ∈ x :: l, p q := by
  intro q hq
  rcases List.mem_cons.1 hq with e | hq
  · subst e; exact h
  · exact hl q hq

def scalarD : Ty → TypeDesc → Prop
  | .int k, d => d = .int k
  | .bool, d => d = .bool
  | .str, d => d = .string
  | _, _ => False

theorem tiok_scalar {P : Program} {E : Env} {t : TypeId} {ty : Ty} {b : Nat} {inf : TypeInfo} {d : TypeDesc} (h : P.info? t = some inf) (h1 : inf.size = ty.size) (h2 : inf.bytes = b) (h3 : inf.zero = some (mkV ty (zeroVals ty))) (h4 : b ≤ 1024) (h5 : P.underlying t = some d)
    (h6 : scalarD ty d) : TIok P E t ⟨ty, b, .scalar⟩ := by
  refine ⟨⟨inf, h, h1, h2, h3⟩, ?_, h4, ⟨d, h5, ?_, ?_⟩⟩
  · show 0 < ty.size
    cases ty <;> first | exact h6.elim | (simp [Ty.size])
  · show descAgg d = ty.isAgg
    cases ty <;> first | exact h6.elim | (cases h6; rfl)
  · clear h1 h3
    cases ty <;> first | exact h6.elim | exact h6
theorem tiok_slice {P : Program} {E : Env} {t e : TypeId} {ie : TI} {b : Nat} {inf : TypeInfo} (h : P.info? t = some inf) (h1 : inf.size = 1) (h2 : inf.bytes = b) (h3 : inf.zero = some (.slice none 0 0)) (h4 : b ≤ 1024) (h5 : P.underlying t = some (.slice e))
    (h6 : E.ti e = some ie) : TIok P E t ⟨.sl false ie.ty, b, .slice e⟩ :=
  ⟨⟨inf, h, h1, h2, h3⟩, by show 0 < 1; omega, h4, ⟨_, h5, rfl, rfl, ie, h6, rfl⟩⟩
theorem tiok_struct {P : Program} {E : Env} {t : TypeId} {ty : Ty} {b : Nat} {fs : List (Nat × TypeId)} {inf : TypeInfo} {fields : Array Field} (h : P.info? t = some inf) (h1 : inf.size = ty.size) (h2 : inf.bytes = b) (h3 : inf.zero = some (mkV ty (zeroVals ty))) (h4 : b ≤ 1024)
    (h0 : 0 < ty.size) (ha : ty.isAgg = true) (h5 : P.underlying t = some (.struct fields)) (h6 : fields.toList.map (fun f => (f.offset, f.type)) = fs) (h7 : ∀ f ∈ fs, ∃ fi, E.ti f.2 = some fi) : TIok P E t ⟨ty, b, .struct fs⟩ :=
  ⟨⟨inf, h, h1, h2, h3⟩, h0, h4, ⟨_, h5, by rw [ha]; rfl, fields, rfl, h6, h7, ha⟩⟩

/-- no region's order is drawn -/
theorem drawn_none {P : Program} {E : Env} : DrawnOk P E (fun _ => false) := fun _ h => by cases h

end Go.Sx

namespace Go.Sx
open Go

abbrev Args : List Ty → Type
  | [] => Unit
  | t :: ts => t.den × Args ts

def encA : (ts : List Ty) → Args ts → List SV
  | [], _ => []
  | t :: ts, x => .val t x.1 :: encA ts x.2

def getA : (ts : List Ty) → List SV → Option (Args ts)
  | [], l => match l with
    | [] => some ()
    | _ => none
  | t :: ts, l => match l with
    | .val s x :: l' => (match toD s t x with
      | some y => (match getA ts l' with | some r => some (y, r) | none => none)
      | none => none)
    | _ => none

def roCon (ts : List Ty) (f : Args ts → Option Res) : Con :=
  ⟨ts.map .ro, fun _ args K => match getA ts args with
    | some xs => (match f xs with | some r => K r.1 r.2 | none => none)
    | none => none⟩

theorem getA_ok {im : Nat → Prop} {w : World} : ∀ (ts : List Ty) (l : List SV) {xs : Args ts} {cs : List Value} {S B : List Nat}, getA ts l = some xs → CVL im w l cs S B → CVL im w (encA ts xs) cs S B
  | [], [], xs, cs, S, B, _, h => h
  | [], _ :: _, xs, cs, S, B, h, _ => by simp [getA] at h
  | t :: ts, [], xs, cs, S, B, h, _ => by simp [getA] at h
  | t :: ts, x :: l, xs, cs, S, B, h, hc => by
    cases x with
    | val s x =>
      simp only [getA] at h
      split at h
      · rename_i y hy
        split at h
        · rename_i r hr
          cases Option.some.inj h
          simp only [CVL] at hc
          obtain ⟨c, r', S1, S2, B1, B2, e1, e2, e3, h4, h5⟩ := hc
          simp only [encA, CVL]
          refine ⟨c, r', S1, S2, B1, B2, e1, e2, e3, ?_, getA_ok ts l hr h5⟩
          simp only [CV] at h4 ⊢
          obtain ⟨k1, k2, cs', k3, k4⟩ := h4
          unfold toD at hy
          split at hy
          · rename_i he
            simp only [Option.some.injEq] at hy
            subst hy
            refine ⟨k1, k2, cs', k3.castD he, ?_⟩
            rw [k4]
            unfold mkV
            rw [Ty.eqv_agg he]
          · cases hy
        · cases h
      · cases h
    | _ => simp [getA] at h

theorem roCon_ok {P : Program} {fid : FuncId} {ts : List Ty} {f : Args ts → Option Res} (hc : Callable P fid) (h : ∀ xs sv o, f xs = some (sv, o) → CallOk P fid (encA ts xs) sv o) : ConOk P fid (roCon ts f) := by
  refine ⟨hc, fun R args K r he => ?_⟩
  simp only [roCon] at he
  split at he
  · rename_i xs hx
    split at he
    · rename_i q hq
      refine ⟨q.1, q.2, ?_, he⟩
      intro p w cargs S B h1 h2 h3 h4
      exact h xs q.1 q.2 hq p w cargs S B (getA_ok ts args hx h1) h2 h3 h4
    · cases he
  · cases he

/-- on some arguments only -/
def reads (ts : List Ty) (c : Args ts → Bool) (t : Ty) (v : Args ts → t.den) : Con :=
  ⟨ts.map .ro, fun _ args K => match getA ts args with
    | some xs => bif c xs then K (.val t (v xs)) [] else none
    | none => none⟩

theorem reads_ok {P : Program} {fid : FuncId} {ts : List Ty} {c : Args ts → Bool} {t : Ty} {v : Args ts → t.den} (hc : Callable P fid) (h : ∀ xs, c xs = true → CallOk P fid (encA ts xs) (.val t (v xs)) []) : ConOk P fid (reads ts c t v) := by
  refine ⟨hc, fun R args K r he => ?_⟩
  simp only [reads] at he
  split at he
  · rename_i xs hx
    cases hq : c xs with
    | false => rw [hq] at he; cases he
    | true =>
      rw [hq] at he
      refine ⟨.val t (v xs), [], ?_, he⟩
      intro p w cargs S B h1 h2 h3 h4
      exact h xs hq p w cargs S B (getA_ok ts args hx h1) h2 h3 h4
  · cases he

theorem wrap64 {n : Int} (h0 : -9223372036854775808 ≤ n) (h1 : n ≤ 9223372036854775807) : IntKind.wrap .i64 n = n := by
  show (if (true && decide ((n % 18446744073709551616) ≥ 9223372036854775808)) = true then n % 18446744073709551616 - 18446744073709551616 else n % 18446744073709551616) = n
  simp only [Bool.true_and, decide_eq_true_eq]
  split <;> omega

theorem byteS_at {R : Type} {s : ByteArray} {j : Nat} (h : j < s.size) (K : Int → Option R) : ∃ b : UInt8, s.data.toList.drop j = b :: s.data.toList.drop (j + 1) ∧ byteS s (j : Int) K = K (b.toNat : Int) := by
  have hl : j < s.data.toList.length := by simpa using h
  refine ⟨s.data.toList[j], by rw [← List.drop_eq_getElem_cons hl], ?_⟩
  unfold byteS
  rw [if_pos (by omega), show ((j : Int)).toNat = j by omega, nth_eq, List.getElem?_eq_getElem hl]
  rfl

theorem tbl_ok {P : Program} {l : List (Nat × Con)} (h : ∀ q ∈ l, ConOk P q.1 q.2) : ∀ f c, assoc l f = some c → ConOk P f c := fun f c hf => h (f, c) (assoc_mem hf)

abbrev i64 : Ty := .int .i64
def vb (b : Bool) : Option Res := some (.val .bool b, [])
def vi (n : Int) : Option Res := some (.val i64 n, [])
def vt (t : Ty) (x : t.den) : Option Res := some (.val t x, [])

end Go.Sx

namespace Go.Sx
open Go Go.ChangeShapes Go.WideShapes Go.RowKit

/-! ### Layout of types -/
mutual
inductive Lay (P : Program) : TypeId → Ty → Prop
  | int {t : TypeId} {k : IntKind} : P.underlying t = some (.int k) → Lay P t (.int k)
  | bool {t : TypeId} : P.underlying t = some .bool → Lay P t .bool
  | str {t : TypeId} : P.underlying t = some .string → Lay P t .str
  | slice {t e : TypeId} {a : Ty} : P.underlying t = some (.slice e) → P.cellsOf e = a.size → 0 < a.size → Lay P e a → Lay P t (.sl false a)
  | struct {t : TypeId} {ty : Ty} {fs : Array Field} {l : List Field} : P.underlying t = some (.struct fs) → fs.toList = l → P.cellsOf t = ty.size → ty.isAgg = true → LayF P l 0 ty → Lay P t ty
inductive LayF (P : Program) : List Field → Nat → Ty → Prop
  | nil {off : Nat} : LayF P [] off .unit
  | cons {off off' : Nat} {f : Field} {fs : List Field} {a b : Ty} : f.offset = off → P.cellsOf f.type = a.size → off' = off + a.size → Lay P f.type a → LayF P fs off' b → LayF P (f :: fs) off (.pair a b)
end

/-- what every datum that comes in meets -/
def WfD : (t : Ty) → t.den → Prop
  | .int k, x => k.min ≤ x ∧ x ≤ k.max
  | .bool, _ => True
  | .str, s => ByteArray.size s ≤ maxLen
  | .unit, _ => True
  | .pair a b, x => WfD a x.1 ∧ WfD b x.2
  | .sl _ a, x => List.length x ≤ maxLen ∧ ∀ y ∈ (x : List a.den), WfD a y

section
variable {H : Type} {enc : TypeId × Value → H} {P : Program} {w : World}

def imAll (w : World) (k : Nat) : Prop := k < w.heap.size

theorem add_spot {a : Addr} {n : Nat} {v : Value} (h : w.cell? (a.add n) = some v) : (a.add n).spot = none := by
  cases hs : (a.add n).spot with
  | none => rfl
  | some s => simp only [World.cell?] at h; split at h <;> simp [hs] at h

theorem addr_zero {a : Addr} (h : (a.add 0).spot = none) : a.spot = none := by
  cases a; simpa [Addr.add] using h

theorem elems_TR {a : Ty} {e : TypeId} {A : Addr} {n : Nat} (hsp : A.spot = none)
    (ih : ∀ cs x, DataW.trod enc P w 0 (fun _ => true) true n e cs = some x → ∃ y, TR (imAll w) w false a y cs [] ∧ WfD a y) (hc : P.cellsOf e = a.size) :
    ∀ (m k : Nat) {ys : List (DataW H × List MemPlace)}, (List.range' k m).mapM (fun i => (w.cells? 0 (A.add (i * P.cellsOf e)) (P.cellsOf e)).bind (DataW.trod enc P w 0 (fun _ => true) true n e)) = some ys →
      ∃ (xs : List a.den) (inner : List Value), xs.length = m ∧ (∀ j c, inner[j]? = some c → w.cell? ⟨A.block, A.off + k * a.size + j, none⟩ = some c) ∧ Reps (TR (imAll w) w false a) xs inner [] ∧ ∀ y ∈ xs, WfD a y
  | 0, k, ys, _ => ⟨[], [], rfl, fun j c h => by simp at h, ⟨rfl, rfl⟩, fun y h => by cases h⟩
  | m + 1, k, ys, h => by
    rw [List.range'_succ, List.mapM_cons] at h
    cases h1 : (w.cells? 0 (A.add (k * P.cellsOf e)) (P.cellsOf e)).bind (DataW.trod enc P w 0 (fun _ => true) true n e) with
    | none => simp [h1] at h
    | some y =>
      cases h2 : (List.range' (k + 1) m).mapM (fun i => (w.cells? 0 (A.add (i * P.cellsOf e)) (P.cellsOf e)).bind (DataW.trod enc P w 0 (fun _ => true) true n e)) with
      | none => simp [h1, h2] at h
      | some ys' =>
        obtain ⟨xs, inner, g1, g2, g3, g4⟩ := elems_TR hsp ih hc m (k + 1) h2
        simp only [Option.bind_eq_some_iff] at h1
        obtain ⟨cs, hcs, htr⟩ := h1
        obtain ⟨x, hx, hw⟩ := ih cs y htr
        obtain ⟨_, hl, hcell⟩ := World.cells?_some hcs
        refine ⟨x :: xs, cs ++ inner, by simp [g1], fun j c hj => ?_, ⟨cs, inner, [], [], rfl, rfl, hx, g3⟩, fun y hy => ?_⟩
        · rw [List.getElem?_append] at hj
          split at hj
          · rename_i hlt
            have := hcell j (by omega)
            rw [hj] at this
            rw [addr_add hsp, addr_add (by rfl)] at this
            rw [← hc]
            exact this
          · have := g2 _ _ hj
            have e2 : A.off + (k + 1) * a.size + (j - cs.length) = A.off + k * a.size + j := by
              rw [hl, hc, Nat.add_mul]; omega
            rw [e2] at this
            exact this
        · rcases List.mem_cons.1 hy with rfl | hy
          · exact hw
          · exact g4 y hy

/-- data that is read comes in -/
theorem trod_TR : ∀ (n : Nat) {t : TypeId} {ty : Ty}, Lay P t ty → ∀ cs x, DataW.trod enc P w 0 (fun _ => true) true n t cs = some x → ∃ y, TR (imAll w) w false ty y cs [] ∧ WfD ty y
  | 0, _, _, _, cs, x, h => by simp [DataW.trod] at h
  | n + 1, t, ty, hl, cs, x, h => by
    rw [DataW.trod_step] at h
    unfold DataW.trodStep at h
    cases hl with
    | @int _ k hu =>
      rw [hu] at h
      cases cs with
      | nil => simp at h
      | cons c r =>
        cases r with
        | cons _ _ => cases c <;> simp at h
        | nil =>
          cases c with
          | int k' m =>
            simp only at h
            split at h
            · rename_i hk
              obtain ⟨rfl, hwf⟩ := hk
              simp only [Lit.wf, Bool.and_eq_true, decide_eq_true_eq] at hwf
              exact ⟨m, ⟨rfl, rfl⟩, hwf⟩
            · cases h
          | _ => simp at h
    | @bool _ hu =>
      rw [hu] at h
      cases cs with
      | nil => simp at h
      | cons c r =>
        cases r with
        | cons _ _ => cases c <;> simp at h
        | nil =>
          cases c with
          | bool b => exact ⟨b, ⟨rfl, rfl⟩, trivial⟩
          | _ => simp at h
    | @str _ hu =>
      rw [hu] at h
      cases cs with
      | nil => simp at h
      | cons c r =>
        cases r with
        | cons _ _ => cases c <;> simp at h
        | nil =>
          cases c with
          | string s =>
            simp only at h
            split at h
            · rename_i hk; exact ⟨s, ⟨rfl, rfl⟩, hk⟩
            · cases h
          | _ => simp at h
    | @slice _ e a hu hc hp hle =>
      rw [hu] at h
      cases cs with
      | nil => simp at h
      | cons c r =>
        cases r with
        | cons _ _ => cases c <;> simp at h
        | nil =>
          cases c with
          | slice A len cap =>
            cases A with
            | none =>
              cases len with
              | succ _ => simp at h
              | zero =>
                cases cap with
                | succ _ => simp at h
                | zero => exact ⟨[], ⟨none, 0, rfl, Nat.le_refl _, by simp⟩, ⟨Nat.zero_le _, fun y hy => by cases hy⟩⟩
            | some A =>
              simp only at h
              split at h
              · rename_i hk
                simp only [Option.bind_eq_some_iff] at h
                obtain ⟨ys, hys, _⟩ := h
                rw [List.range_eq_range'] at hys
                have hsp : 0 < len → A.spot = none := by
                  intro hpos
                  cases len with
                  | zero => omega
                  | succ m =>
                    rw [List.range'_succ, List.mapM_cons] at hys
                    cases h1 : (w.cells? 0 (A.add (0 * P.cellsOf e)) (P.cellsOf e)).bind (DataW.trod enc P w 0 (fun _ => true) true n e) with
                    | none => simp only [Nat.zero_mul] at h1 hys; simp [h1] at hys
                    | some y =>
                      simp only [Option.bind_eq_some_iff] at h1
                      obtain ⟨cs, hcs, _⟩ := h1
                      obtain ⟨_, hl, hcell⟩ := World.cells?_some hcs
                      have h0 := hcell 0 (by omega)
                      have hg : ∃ c0, cs[0]? = some c0 := by
                        cases cs with
                        | nil => simp at hl; omega
                        | cons c _ => exact ⟨c, rfl⟩
                      obtain ⟨c0, hc0⟩ := hg
                      rw [hc0, Nat.zero_mul] at h0
                      exact addr_zero (addr_zero (add_spot h0))
                by_cases hpos : 0 < len
                · obtain ⟨xs, inner, g1, g2, g3, g4⟩ := elems_TR (a := a) (hsp hpos) (fun cs x hx => trod_TR n hle cs x hx) hc len 0 hys
                  subst g1
                  have hm : cap ≤ maxLen := hk.2.2
                  refine ⟨xs, ⟨some A, cap, rfl, hk.2.1, ?_⟩, ⟨Nat.le_trans hk.2.1 hm, g4⟩⟩
                  simp only [Bool.false_and, Bool.false_eq_true, if_false]
                  refine ⟨trivial, fun _ => ⟨A, inner, rfl, hsp hpos, ?_, ?_, g3⟩⟩
                  · cases xs with
                    | nil => simp at hpos
                    | cons y ys' =>
                      obtain ⟨c1, c2, S1, S2, k1, k2, k3, k4⟩ := g3
                      have hlen := k3.len
                      cases c1 with
                      | nil => simp at hlen; omega
                      | cons c c1' =>
                        have := g2 0 c (by rw [k1]; rfl)
                        simp only [Nat.zero_mul, Nat.add_zero] at this
                        show A.block < w.heap.size
                        have h9 := World.block_lt_of_cell? w _ this
                        exact h9
                  · intro j c hj
                    have := g2 j c hj
                    simpa using this
                · have : len = 0 := by omega
                  subst this
                  exact ⟨[], ⟨some A, cap, rfl, Nat.zero_le _, by simp⟩, ⟨Nat.zero_le _, fun y hy => by cases hy⟩⟩
              · cases h
          | _ => simp at h
    | @struct _ _ fs l hu hfl hsz ha hlf =>
      rw [hu] at h
      simp only at h
      split at h
      · rename_i hlen
        rw [hfl] at h
        simp only [Option.map_eq_some_iff] at h
        obtain ⟨ys, hys, _⟩ := h
        have key : ∀ (l : List Field) (off : Nat) (ty : Ty) (ys : List (DataW H × List MemPlace)), LayF P l off ty → off + ty.size = cs.length →
            l.mapM (fun f => DataW.trod enc P w 0 (fun _ => true) true n f.type ((cs.drop f.offset).take (P.cellsOf f.type))) = some ys → ∃ y, TR (imAll w) w false ty y (cs.drop off) [] ∧ WfD ty y := by
          intro l
          induction l with
          | nil =>
            intro off ty ys hlf hs _
            cases hlf
            refine ⟨(), ⟨?_, rfl⟩, trivial⟩
            simp [Ty.size] at hs
            simp; omega
          | cons f fs ihl =>
            intro off ty ys hlf hs hm
            cases hlf with
            | @cons _ off' _ _ a b h1 h2 h3 h4 h5 =>
              rw [List.mapM_cons] at hm
              cases g1 : DataW.trod enc P w 0 (fun _ => true) true n f.type ((cs.drop f.offset).take (P.cellsOf f.type)) with
              | none => simp [g1] at hm
              | some y0 =>
                cases g2 : fs.mapM (fun f => DataW.trod enc P w 0 (fun _ => true) true n f.type ((cs.drop f.offset).take (P.cellsOf f.type))) with
                | none => simp [g1, g2] at hm
                | some ys' =>
                  simp only [Ty.size] at hs
                  obtain ⟨x1, k1, k2⟩ := trod_TR n h4 _ _ g1
                  obtain ⟨x2, k3, k4⟩ := ihl off' b ys' h5 (by omega) g2
                  refine ⟨(x1, x2), ⟨_, _, [], [], ?_, rfl, k1, k3⟩, ⟨k2, k4⟩⟩
                  rw [h1, h2, h3, ← List.drop_drop, List.take_append_drop]
        have := key l 0 ty ys hlf (by rw [hlen, hsz]; omega) hys
        simpa using this
      · cases h

theorem cells_value {t : TypeId} {ty : Ty} {r : Reach} {b : Nat} {v : Value} {y : ty.den} (hl : Lay P t ty) (hv : Value.okWide P w r b t v) (ht : TR (imAll w) w false ty y v.cells.toList []) : v = mkV ty v.cells.toList := by
  cases hl with
  | int hu => obtain ⟨n, rfl⟩ := okWide_int hu hv; rfl
  | bool hu => obtain ⟨n, rfl⟩ := okWide_bool hu hv; rfl
  | str hu => obtain ⟨n, rfl⟩ := okWide_string hu hv; rfl
  | slice hu => obtain ⟨A, n, c, rfl⟩ := okWide_slice hu hv; rfl
  | struct hu _ _ ha _ => obtain ⟨cs, rfl, _⟩ := okWide_struct hu hv; unfold mkV; rw [if_pos ha]; simp [Value.cells]

theorem mapM_len {α β : Type} {f : α → Option β} : ∀ {l : List α} {r : List β}, l.mapM f = some r → r.length = l.length
  | [], r, h => by simp at h; subst h; rfl
  | x :: l, r, h => by
    rw [List.mapM_cons] at h
    cases h1 : f x with
    | none => simp [h1] at h
    | some y =>
      cases h2 : l.mapM f with
      | none => simp [h1, h2] at h
      | some ys =>
        simp [h1, h2] at h
        subst h
        simp [mapM_len h2]

theorem mapM_congr {α β : Type} {f g : α → Option β} : ∀ {l : List α}, (∀ x ∈ l, f x = g x) → l.mapM f = l.mapM g
  | [], _ => rfl
  | x :: l, h => by rw [List.mapM_cons, List.mapM_cons, h x (by simp), mapM_congr (fun y hy => h y (by simp [hy]))]

/-- the reading behind the call may leave out what was not there before -/
theorem respare {sp : Nat → Bool} : ∀ (n : Nat) {t : TypeId} {ty : Ty}, Lay P t ty → ∀ cs x, DataW.trod enc P w 0 (fun _ => true) true n t cs = some x → (∀ p ∈ x.2, sp p.block = true) →
    DataW.trod enc P w 0 sp true n t cs = some x
  | 0, _, _, _, cs, x, h, _ => by simp [DataW.trod] at h
  | n + 1, t, ty, hl, cs, x, h, hs => by
    rw [DataW.trod_step] at h ⊢
    unfold DataW.trodStep at h ⊢
    cases hl with
    | int hu =>
      rw [hu] at h ⊢
      cases cs with
      | nil => simp at h
      | cons c r =>
        cases r with
        | cons _ _ => cases c <;> simp at h
        | nil => cases c <;> first | exact h | simp at h
    | bool hu =>
      rw [hu] at h ⊢
      cases cs with
      | nil => simp at h
      | cons c r =>
        cases r with
        | cons _ _ => cases c <;> simp at h
        | nil => cases c <;> first | exact h | simp at h
    | str hu =>
      rw [hu] at h ⊢
      cases cs with
      | nil => simp at h
      | cons c r =>
        cases r with
        | cons _ _ => cases c <;> simp at h
        | nil => cases c <;> first | exact h | simp at h
    | @slice _ e a hu hc hp hle =>
      rw [hu] at h ⊢
      cases cs with
      | nil => simp at h
      | cons c r =>
        cases r with
        | cons _ _ => cases c <;> simp at h
        | nil =>
          cases c with
          | slice A len cap =>
            cases A with
            | none => cases len <;> cases cap <;> first | exact h | simp at h
            | some A =>
              simp only at h ⊢
              split at h
              · rename_i hk
                rw [if_pos hk]
                simp only [Option.bind_eq_some_iff, Option.map_eq_some_iff] at h ⊢
                obtain ⟨ys, hys, zs, hzs, hx⟩ := h
                subst hx
                have pl : ∀ y ∈ ys ++ zs, ∀ p ∈ y.2, sp p.block = true := fun y hy p hp => hs p (by simp only [List.mem_append, List.mem_flatMap]; exact .inr ⟨y, List.mem_append.1 hy |>.elim (fun h => by simp [h]) (fun h => by simp [h]), hp⟩)
                refine ⟨ys, mapM_carry hys (fun i y _ hy hiy => ?_), zs, ?_, rfl⟩
                · simp only [Option.bind_eq_some_iff] at hiy ⊢
                  obtain ⟨q, h1, h2⟩ := hiy
                  exact ⟨q, h1, respare n hle _ _ h2 (pl y (by simp [hy]))⟩
                · simp only [if_true] at hzs
                  by_cases hcap : cap - len = 0
                  · rw [hcap] at hzs ⊢
                    simp at hzs
                    subst hzs
                    split <;> simp
                  · have hlz : zs.length = cap - len := by
                      have := mapM_len hzs
                      simpa using this
                    have : sp A.block = true := by
                      refine hs (.cell A.block (A.off + 0)) ?_
                      simp only [List.mem_append]
                      refine .inl (MemPlace.mem_row.2 ⟨0, ?_, rfl⟩)
                      rw [hc, hlz]
                      exact Nat.mul_pos (by omega) hp
                    rw [if_pos this]
                    refine mapM_carry hzs (fun i y _ hy hiy => ?_)
                    simp only [Option.bind_eq_some_iff] at hiy ⊢
                    obtain ⟨q, h1, h2⟩ := hiy
                    exact ⟨q, h1, respare n hle _ _ h2 (pl y (by simp [hy]))⟩
              · cases h
          | _ => simp at h
    | @struct _ _ fs l hu hfl hsz ha hlf =>
      rw [hu] at h ⊢
      simp only at h ⊢
      split at h
      · rename_i hlen
        rw [if_pos hlen]
        rw [hfl] at h ⊢
        simp only [Option.map_eq_some_iff] at h ⊢
        obtain ⟨ys, hys, hx⟩ := h
        subst hx
        refine ⟨ys, ?_, rfl⟩
        have lay : ∀ (l : List Field) (off : Nat) (ty : Ty), LayF P l off ty → ∀ f ∈ l, ∃ a, Lay P f.type a := by
          intro l
          induction l with
          | nil => intro _ _ _ f hf; cases hf
          | cons g gs ih =>
            intro off ty hlf f hf
            cases hlf with
            | @cons _ off' _ _ a b h1 h2 h3 h4 h5 =>
              rcases List.mem_cons.1 hf with rfl | hf
              · exact ⟨a, h4⟩
              · exact ih _ _ h5 f hf
        refine mapM_carry hys (fun f y hf hy hfy => ?_)
        obtain ⟨a, ha'⟩ := lay l 0 ty hlf f hf
        exact respare n ha' _ _ hfy (fun p hp => hs p (by simp only [List.mem_flatMap]; exact ⟨y, hy, hp⟩))
      · cases h

inductive LayAll (P : Program) : List TypeId → List Ty → Prop
  | nil : LayAll P [] []
  | cons {t : TypeId} {ty : Ty} {ts : List TypeId} {tys : List Ty} : Lay P t ty → LayAll P ts tys → LayAll P (t :: ts) (ty :: tys)

def WfA : (ts : List Ty) → Args ts → Prop
  | [], _ => True
  | t :: ts, x => WfD t x.1 ∧ WfA ts x.2

theorem trodAll_TR {r : Reach} {b : Nat} : ∀ {ts : List TypeId} {tys : List Ty}, LayAll P ts tys → ∀ {vs : List Value} {ds : List (DataW H)} {ps : List MemPlace},
    (∀ (j : Nat) t v, ts[j]? = some t → vs[j]? = some v → Value.okWide P w r b t v) → DataW.TrodAll enc P w 0 (fun _ => true) true ts vs ds ps →
      ds.length = tys.length ∧ ∃ xs : Args tys, CVL (imAll w) w (encA tys xs) vs [] [] ∧ WfA tys xs
  | _, _, .nil, vs, ds, ps, hv, h => by
    obtain ⟨rfl, rfl, rfl⟩ := trodAll_nil h
    exact ⟨rfl, (), by simp [encA, CVL], trivial⟩
  | _, _, .cons (t := t) (ty := ty) (ts := ts) (tys := tys) hl hls, vs, ds, ps, hv, h => by
    obtain ⟨v, vs', d, ds', p, q, rfl, rfl, rfl, ⟨n, h1⟩, h2⟩ := trodAll_cons h
    obtain ⟨y, k1, k2⟩ := trod_TR n hl _ _ h1
    obtain ⟨e, xs, k3, k4⟩ := trodAll_TR hls (fun j t v ht hv' => hv (j + 1) t v (by simpa using ht) (by simpa using hv')) h2
    refine ⟨by simp [e], (y, xs), ?_, ⟨k2, k4⟩⟩
    simp only [encA, CVL]
    exact ⟨v, vs', [], [], [], [], rfl, rfl, rfl, by simp only [CV]; exact ⟨trivial, trivial, _, k1, cells_value hl (hv 0 t v rfl rfl) k1⟩, k3⟩

theorem trodAll_same {w' : World} {sp : Nat → Bool} (hsame : ∀ p : MemPlace, p.block < w.heap.size → w.sameAt w' p) : ∀ {ts : List TypeId} {tys : List Ty}, LayAll P ts tys → ∀ {vs : List Value} {ds : List (DataW H)} {ps : List MemPlace},
    DataW.TrodAll enc P w 0 (fun _ => true) true ts vs ds ps → (∀ p ∈ ps, sp p.block = true) → DataW.TrodAll enc P w' 0 sp true ts vs ds ps
  | _, _, .nil, vs, ds, ps, h, _ => by
    obtain ⟨rfl, rfl, rfl⟩ := trodAll_nil h
    rfl
  | _, _, .cons hl hls, vs, ds, ps, h, hs => by
    obtain ⟨v, vs', d, ds', p, q, rfl, rfl, rfl, ⟨n, h1⟩, h2⟩ := trodAll_cons h
    refine ⟨p, q, ⟨n, ?_⟩, trodAll_same hsame hls h2 (fun x hx => hs x (by simp [hx])), rfl⟩
    exact DataW.trod_carry n _ _ _ (respare n hl _ _ h1 (fun x hx => hs x (by simp [hx]))) (fun x hx => hsame x (DataW.trod_lt _ _ _ _ h1 x hx))

theorem frozen_kept {w' : World} (hk : Kept w w' []) (a : Addr) : w'.frozen? a = w.frozen? a := by
  by_cases ha : a.block < w.heap.size
  · have := hk.same a.block ha (by simp)
    simp only [World.frozen?, this]
  · have h0 : w.heap[a.block]? = none := by simp; omega
    have h1 : w.frozen? a = false := by simp only [World.frozen?, h0]
    rw [h1]
    rcases hk.frz.obj a.block with e | e
    · rw [h0] at e
      unfold World.frozen?
      cases ho : w'.heap[a.block]? with
      | none => rfl
      | some o =>
        rw [ho] at e
        cases o <;> simp_all [frzO]
    · unfold World.frozen?
      cases ho : w'.heap[a.block]? with
      | none => rfl
      | some o =>
        rw [ho] at e
        cases o <;> simp_all [frzO]

theorem keptBut_kept {w' : World} (hk : Kept w w' []) (may : MemPlace → Prop) : w.keptBut w' may := by
  refine ⟨hk.frz.os, hk.frz.out, fun i hi => ?_⟩
  rw [hk.same i hi (by simp)]
  exact (World.keptBut_refl w may).2.2 i hi

/-- a law's contract closes its row -/
theorem row_contract {f : FuncId} {fn : Func} {s : ChangeSpec} {tys : List Ty} {tb : TypeId} (hp : LayAll P fn.params.toList tys) (hr : fn.resultTypes = #[tb]) (hb : P.underlying tb = some .bool) (hv : s.vars = [])
    (hs : ∀ (ds : List (DataW H)), ds.length = tys.length → s.fn H (ds ++ []) = { results := [.lit (.bool true)], args := ds })
    (hlaw : ∀ xs : Args tys, WfA tys xs → CallOk P f (encA tys xs) (.val .bool true) [])
    (W : World) (base : Nat) (args : Array Value) (ds gs : List (DataW H)) (before : List MemPlace)
    (hval : ∀ (j : Nat) t v, fn.params[j]? = some t → args[j]? = some v → Value.okWide P W .any base t v)
    (hW : DataW.Whole enc P fn.params.toList s.vars false W args.toList ds gs before) (fresh handsOn again : Bool) :
    Calls P f args W fun e W' => ∃ v, e = .returned v ∧ s.post enc P fn false fresh handsOn again W args v W' := by
  have hW' := hW
  obtain ⟨p, q, hA, hV, rfl, hfz, hnd⟩ := hW
  rw [hv] at hV
  obtain ⟨rfl, rfl⟩ := trodVars_none hV
  obtain ⟨hl, xs, hc, hwf⟩ := trodAll_TR hp (fun j t v h1 h2 => hval j t v (by simpa using h1) (by simpa using h2)) hA
  have hcall := hlaw xs hwf (imAll W) W args.toList [] [] hc List.nodup_nil (fun k hk => by cases hk) (fun k hk => hk)
  rw [Array.toArray_toList] at hcall
  refine hcall.mono ?_
  rintro e W' ⟨cr, S1, S2, he, _, _, hk, hcv, _⟩
  subst he
  refine ⟨cr, rfl, ?_⟩
  simp only [CV] at hcv
  obtain ⟨rfl, _, cs, ⟨rfl, _⟩, hcr⟩ := hcv
  have hcr : cr = .bool true := hcr
  subst hcr
  have hsame : ∀ p : MemPlace, p.block < W.heap.size → W.sameAt W' p := by
    intro p hp
    cases p with
    | cell b o =>
      have := hk.same b hp (by simp)
      simp only [World.sameAt, World.cell?, this]
    | map b => exact hk.same b hp (by simp)
  have hso := hs ds hl
  refine post_of_same (pa := p) (pv := []) hW' ?_ ?_ ?_ rfl (keptBut_kept hk _) (fun a => frozen_kept hk a) ?_
  · intro b sp hd
    rw [hso, hr]
    exact trodAll_cons_mk (shut_bool hb _) trodAll_mk0
  · intro sp hsp
    rw [hso]
    exact trodAll_same hsame hp hA (fun x hx => hsp x (by simp [hx]))
  · intro sp _
    rw [hso, hv]
    exact rfl
  · intro j t r h1 h2
    rw [hr] at h1 h2
    cases j with
    | succ j => simp at h1
    | zero =>
      simp at h1
      subst h1
      simp [Value.resultList] at h2
      subst h2
      exact okWide_bool_mk hb _
end

/-! ### Layouts out of the table -/
def layB (ti : TypeId → Option TI) : List (Nat × TypeId) → Nat → Ty → Bool
  | [], _, t => match t with
    | .unit => true
    | _ => false
  | (o, ft) :: fs, off, t => match t with
    | .pair a b => Nat.beq o off && (match ti ft with
      | some fi => fi.ty.eqv a && fi.ty.noUq && a.noUq && layB ti fs (off + a.size) b
      | none => false)
    | _ => false
def laysB (l : List (Nat × TI)) : Bool :=
  l.all fun q => match q.2.kind with
    | .struct fs => layB (assoc l) fs 0 q.2.ty
    | _ => true

def Ty.rk : Ty → Nat
  | .pair a b => a.rk + b.rk + 1
  | .sl _ a => a.rk + 1
  | _ => 1

theorem Ty.rk_pos : ∀ t : Ty, 0 < t.rk
  | .pair _ _ => by simp [Ty.rk]
  | .sl _ _ => by simp [Ty.rk]
  | .int _ => by simp [Ty.rk]
  | .bool => by simp [Ty.rk]
  | .str => by simp [Ty.rk]
  | .unit => by simp [Ty.rk]

theorem lay_of {P : Program} {E : Env} (h0 : EnvOk0 P E) {l : List (Nat × TI)} (hE : E.ti = assoc l) (hl : laysB l = true) : ∀ (n : Nat) (t : TypeId) (i : TI), i.ty.rk ≤ n → E.ti t = some i → Lay P t i.ty
  | 0, t, i, hn, _ => by have := Ty.rk_pos i.ty; omega
  | n + 1, t, i, hn, hi => by
    have ok := h0.ti t i hi
    obtain ⟨d, hd, hagg, hk⟩ := ok.desc
    cases hkd : i.kind with
    | scalar =>
      rw [hkd] at hk
      simp only at hk
      cases hty : i.ty with
      | int k => rw [hty] at hk; subst hk; exact .int hd
      | bool => rw [hty] at hk; subst hk; exact .bool hd
      | str => rw [hty] at hk; subst hk; exact .str hd
      | unit => rw [hty] at hk; exact hk.elim
      | pair a b => rw [hty] at hk; exact hk.elim
      | sl u a => rw [hty] at hk; exact hk.elim
    | slice e =>
      rw [hkd] at hk
      simp only at hk
      obtain ⟨rfl, ie, hie, hty⟩ := hk
      have oke := h0.ti e ie hie
      obtain ⟨inf, q1, q2, _⟩ := oke.info
      rw [hty]
      refine .slice hd ?_ oke.pos (lay_of h0 hE hl n e ie (by rw [hty] at hn; simp [Ty.rk] at hn; omega) hie)
      unfold Program.cellsOf
      rw [q1]
      simpa using q2
    | struct fs =>
      rw [hkd] at hk
      simp only at hk
      obtain ⟨fields, rfl, hfs, _, ha⟩ := hk
      have hb : layB (assoc l) fs 0 i.ty = true := by
        rw [hE] at hi
        have := List.all_eq_true.1 hl (t, i) (assoc_mem hi)
        simpa [hkd] using this
      obtain ⟨inf, q1, q2, _⟩ := ok.info
      refine .struct hd rfl (by unfold Program.cellsOf; rw [q1]; simpa using q2) ha ?_
      rw [← hE] at hb
      have key : ∀ (fl : List Field) (fs : List (Nat × TypeId)) (off : Nat) (ty : Ty), ty.rk ≤ n + 1 → fl.map (fun f => (f.offset, f.type)) = fs → layB E.ti fs off ty = true → LayF P fl off ty := by
        intro fl
        induction fl with
        | nil =>
          intro fs off ty _ hf hb
          simp at hf
          subst hf
          cases ty <;> simp [layB] at hb
          exact .nil
        | cons f fl ih =>
          intro fs off ty hr hf hb
          simp only [List.map_cons] at hf
          subst hf
          cases ty with
          | pair a b =>
            simp only [layB, Bool.and_eq_true] at hb
            obtain ⟨h1, h2⟩ := hb
            cases hfi : E.ti f.type with
            | none => rw [hfi] at h2; simp at h2
            | some fi =>
              rw [hfi] at h2
              simp only [Bool.and_eq_true] at h2
              obtain ⟨⟨⟨k1, k2⟩, k3⟩, k4⟩ := h2
              have e := Ty.eq_noUq k1 k2 k3
              subst e
              have okf := h0.ti f.type fi hfi
              obtain ⟨inf, q1, q2, _⟩ := okf.info
              simp only [Ty.rk] at hr
              exact .cons (Nat.eq_of_beq_eq_true h1) (by unfold Program.cellsOf; rw [q1]; simpa using q2) rfl (lay_of h0 hE hl n f.type fi (by omega) hfi) (ih _ _ b (by omega) rfl k4)
          | _ => simp [layB] at hb
      exact key _ fs 0 i.ty hn hfs hb

end Go.Sx
