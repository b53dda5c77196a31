/- The model's own small programs, run; what the table of types says; the form of a step's soundness. -/
import Derived.Test.YtddbjmambkepkaaGreatDoorM1
set_option linter.unusedVariables false
set_option linter.unusedSimpArgs false
namespace Go.Sx
open Go
theorem run_bind {α β : Type} (P : Program) (f : α → Sem β) : ∀ (x : Sem α) (w : World), (x >>= f).run P w = match x.run P w with | .ok a w' => (f a).run P w' | .halt h w' => .halt h w' := by
 intro x;show ∀ w, (x.bind f).run P w = _
 induction x with
 | pure a => intro w; rfl
 | load m a k ih =>
  intro w;simp only [Sem.bind, Sem.run];cases w.cell? a with
  | some v => exact ih v w
  | none =>
   dsimp only;cases w.farLoad P a (m == .atomic) with
   | ok r => exact ih r.1 w
   | error e => rfl
 | store m a v k ih =>
  intro w;cases v <;> simp only [Sem.bind, Sem.run]
  all_goals
   cases w.cell? a with
   | some u => dsimp only; split <;> first | rfl | exact ih _
   | none =>
    dsimp only;cases w.farStore P a _ (m == .atomic) with
    | ok r => exact ih r.1
    | error e => rfl
 | new o k ih => intro w; exact ih _ _
 | shape r k ih => intro w; exact ih _ _
 | freeze a n k ih => intro w; exact ih _
 | frozen a k ih => intro w; exact ih _ _
 | getObj r k ih =>
  intro w;simp only [Sem.bind, Sem.run];cases w.heap[r]? with
  | none => rfl
  | some o => cases o <;> first | rfl | exact ih _ _
 | setObj r o k ih =>
  intro w;simp only [Sem.bind, Sem.run];cases w.heap[r]? with
  | none => rfl
  | some o => cases o <;> first | rfl | exact ih _
 | choose q k ih =>
  intro w;simp only [Sem.bind, Sem.run]
  split <;> exact ih _ _
 | sys c k ih => intro w; exact ih _ _
 | program k ih => intro w; exact ih _ _
 | mark m k ih => intro w; exact ih _
 | halt h => intro w; rfl
theorem run_bind_ok {α β : Type} {P : Program} {x : Sem α} {f : α → Sem β} {w w' : World} {a : α} (h : x.run P w = .ok a w') : (x >>= f).run P w = (f a).run P w' := by
 rw [run_bind, h]
theorem run_pure {α : Type} (P : Program) (a : α) (w : World) : (pure a : Sem α).run P w = .ok a w := rfl
section
variable {P : Program} {w : World}
theorem run_underlying {t : TypeId} {d : TypeDesc} (h : P.underlying t = some d) : (underlying t).run P w = .ok d w := by
 show ((program >>= fun p => match p.underlying t with | some d => pure d | none => stuck "no such type") : Sem TypeDesc).run P w = _;rw [run_bind_ok (a := P) (w' := w) rfl, h]; rfl
theorem run_typeInfo {t : TypeId} {i : TypeInfo} (h : P.info? t = some i) : (typeInfo t).run P w = .ok i w := by
 show ((program >>= fun p => match p.info? t with | some d => pure d | none => stuck "no such type") : Sem TypeInfo).run P w = _;rw [run_bind_ok (a := P) (w' := w) rfl, h]; rfl
theorem run_sizeOf {t : TypeId} {i : TypeInfo} (h : P.info? t = some i) : (sizeOf t).run P w = .ok i.size w := by
 unfold sizeOf; rw [run_bind_ok (run_typeInfo h)]; rfl
theorem run_zeroValue {t : TypeId} {i : TypeInfo} {v : Value} (h : P.info? t = some i) (hz : i.zero = some v) : (zeroValue t).run P w = .ok v w := by
 unfold zeroValue; rw [run_bind_ok (run_typeInfo h), hz]; rfl
def BX : TypeDesc → Bool
 | .struct _ => true
 | .array _ _ => true
 | _ => false
theorem run_isAgg {t : TypeId} {d : TypeDesc} (h : P.underlying t = some d) : (isAgg t).run P w = .ok (BX d) w := by
 unfold isAgg; rw [run_bind_ok (run_underlying h)];cases d <;> rfl
theorem WV {a : Addr} (h : a.spot = none) (n : Nat) : a.add n = ⟨a.block, a.off + n, none⟩ := by
 unfold Addr.add
 split
 ·rename_i e; subst e; cases a; simp at h; subst h; rfl
 ·rfl
theorem Ziv {a : Addr} {v : Value} (h : w.cell? a = some v) : (load a).run P w = .ok v w := by
 unfold load; simp only [Sem.run, h]
theorem Jj {A : Addr} (hA : A.spot = none) : ∀ (cs : List Value) (i : Nat) (acc : Array Value), (∀ j c, cs[j]? = some c → w.cell? ⟨A.block, A.off + (i + j), none⟩ = some c) →
  (loadCellsFrom A i cs.length acc).run P w = .ok (acc ++ cs.toArray) w
 | [], i, acc, _ => by simp [loadCellsFrom, run_pure]
 | c :: cs, i, acc, h => by
  have h0 := h 0 c rfl;simp only [List.length_cons, loadCellsFrom];rw [run_bind_ok (Ziv (by rw [WV hA]; simpa using h0))];rw [Jj hA cs (i + 1) (acc.push c) (fun j c' hj => by rw [show i + 1 + j = i + (j + 1) by omega]; exact h (j + 1) c' (by simpa using hj))];rw [show acc.push c ++ cs.toArray = acc ++ (c :: cs).toArray by apply Array.ext'; simp]
theorem run_loadCells {A : Addr} (hA : A.spot = none) {cs : List Value} {n : Nat} (hn : cs.length = n) (h : VS w A cs) : (loadCells A n).run P w = .ok cs.toArray w := by
 subst hn;unfold loadCells;rw [Jj hA cs 0 #[] (fun j c hj => by simpa using h j c hj)];simp
theorem PE {A : Addr} (hA : A.spot = none) {t : TypeId} {i : TypeInfo} {d : TypeDesc} (hi : P.info? t = some i) (hd : P.underlying t = some d) (ha : BX d = true)
  {cs : List Value} (hn : cs.length = i.size) (h : VS w A cs) : (loadVar t A).run P w = .ok (.agg cs.toArray) w := by
 unfold loadVar;rw [run_bind_ok (run_isAgg hd), ha];simp only [if_true];rw [run_bind_ok (run_sizeOf hi), run_bind_ok (run_loadCells hA hn h)];rfl
theorem PF {A : Addr} {t : TypeId} {d : TypeDesc} (hd : P.underlying t = some d) (ha : BX d = false) {c : Value} (h : w.cell? A = some c) :
  (loadVar t A).run P w = .ok c w := by
 unfold loadVar;rw [run_bind_ok (run_isAgg hd), ha];simp only [Bool.false_eq_true, if_false];exact Ziv h
def put1 (all : List Value) (o : Nat) (cs : List Value) : List Value := all.take o ++ cs ++ all.drop (o + cs.length)
theorem XK {all : List Value} {o : Nat} {cs : List Value} (h : o + cs.length ≤ all.length) (n : Nat) :
  (put1 all o cs)[n]? = if n < o then all[n]? else if n < o + cs.length then cs[n - o]? else all[n]? := by
 have h1 : (all.take o).length = o := by simp; omega
 unfold put1
 by_cases ha : n < o
 ·rw [if_pos ha, List.append_assoc, List.getElem?_append_left (by omega), List.getElem?_take, if_pos ha]
 ·rw [if_neg ha]
  by_cases hb : n < o + cs.length
  ·rw [if_pos hb, List.getElem?_append_left (by simp; omega), List.getElem?_append_right (by omega), h1]
  ·rw [if_neg hb, List.getElem?_append_right (by simp; omega), List.getElem?_drop]
   congr 1;simp;omega
theorem Wi {all : List Value} {o : Nat} {cs : List Value} (h : o + cs.length ≤ all.length) : (put1 all o cs).length = all.length := by
 simp [put1]; omega
def Yb (w : World) (b : Nat) (o : Obj) : World := { w with heap := w.heap.setIfInBounds b o }
theorem UY {w : World} {b : Nat} {o o' : Obj} (h : w.heap[b]? = some o') : (Yb w b o).heap[b]? = some o := by
 have hb : b < w.heap.size := by
  rcases Nat.lt_or_ge b w.heap.size with h1 | h1
  ·exact h1
  ·simp [Array.getElem?_eq_none h1] at h
 simp [Yb, hb]
theorem WY {w : World} {b k : Nat} {o : Obj} (h : k ≠ b) : (Yb w b o).heap[k]? = w.heap[k]? := by
 simp [Yb, Ne.symm h]
theorem LH {w : World} {b : Nat} {c : Array Value} {e : TypeId} : Frz w (Yb w b (.cells c e (0, 0))) := by
 refine ⟨fun k _ => ?_, rfl, rfl, Nat.le_of_eq (by simp [Yb])⟩;show ZkG (w.heap.setIfInBounds b _)[k]? = _ ∨ ZkG (w.heap.setIfInBounds b _)[k]? = _;rw [Array.getElem?_setIfInBounds]
 split
 ·split
  ·exact .inr rfl
  ·exact .inr rfl
 ·exact .inl rfl
theorem Ww {w : World} {b : Nat} {o : Obj} : (Yb w b o).heap.size = w.heap.size := by simp [Yb]
theorem ZkI {w : World} {b : Nat} {o : Obj} (f : Obj → Obj) (h : w.heap[b]? = some o) : w.heap.modify b f = w.heap.setIfInBounds b (f o) := by
 apply Array.ext_getElem?;intro i;rw [Array.getElem?_modify, Array.getElem?_setIfInBounds]
 split
 ·rename_i e
  subst e;have hb : b < w.heap.size := by
   rcases Nat.lt_or_ge b w.heap.size with h1 | h1
   ·exact h1
   ·simp [Array.getElem?_eq_none h1] at h
  have ho : w.heap[b] = o := by
   obtain ⟨_, h2⟩ := Array.getElem?_eq_some_iff.1 h;exact h2
  simp [hb, ho]
 ·rfl
theorem Zjr {b o : Nat} {all : List Value} {e : TypeId} {c : Value} (h : w.heap[b]? = some (.cells all.toArray e (0, 0))) (ho : o < all.length) (hc : one c = true) :
  (store ⟨b, o, none⟩ c).run P w = .ok () (Yb w b (.cells (all.set o c).toArray e (0, 0))) := by
 have hcell : w.cell? ⟨b, o, none⟩ = some all[o] := by simp [World.cell?, h, ho]
 have hfz : w.frozen? ⟨b, o, none⟩ = false := by simp [World.frozen?, h]
 have hset : w.setCell ⟨b, o, none⟩ c = Yb w b (.cells (all.set o c).toArray e (0, 0)) := by
  simp only [World.setCell, Yb];rw [ZkI _ h];simp
 unfold store;cases c <;> first
  | (cases hc; done)
  | (simp only [Sem.run, hcell, hfz, Bool.false_eq_true, if_false, hset])
theorem WL {b : Nat} {e : TypeId} {A : Addr} (hA : A.spot = none) (hb : A.block = b) : ∀ (cs : List Value) (i : Nat) (w : World) (all : List Value), w.heap[b]? = some (.cells all.toArray e (0, 0)) →
  A.off + i + cs.length ≤ all.length → (∀ c ∈ cs, one c = true) →
  (storeCells A cs i).run P w = .ok () (if cs = [] then w else Yb w b (.cells (put1 all (A.off + i) cs).toArray e (0, 0)))
 | [], i, w, all, _, _, _ => rfl
 | c :: cs, i, w, all, h, hl, h1 => by
  subst hb;simp only [List.length_cons] at hl;simp only [storeCells];rw [WV hA, run_bind_ok (Zjr h (by omega) (h1 c (by simp)))];rw [WL hA rfl cs (i + 1) _ (all.set (A.off + i) c) (UY h) (by simp; omega) (fun c' hc => h1 c' (by simp [hc]))];have key : put1 (all.set (A.off + i) c) (A.off + (i + 1)) cs = put1 all (A.off + i) (c :: cs) := by
   apply List.ext_getElem?;intro n;rw [XK (by simp; omega), XK (by simp; omega), List.getElem?_set];simp only [List.length_cons]
   by_cases h1 : n < A.off + i
   ·rw [if_pos h1, if_pos (by omega), if_neg (by omega)]
   ·by_cases h2 : n = A.off + i
    ·subst h2
     rw [if_pos (by omega), if_pos rfl, if_pos (by omega), if_neg (by omega), if_pos (by omega)];simp
    ·rw [if_neg (by omega), if_neg h1]
     by_cases h3 : n < A.off + (i + 1) + cs.length
     ·rw [if_pos h3, if_pos (by omega), show n - (A.off + i) = (n - (A.off + (i + 1))) + 1 by omega]
      simp
     ·rw [if_neg h3, if_neg (by omega), if_neg (by omega)]
  by_cases hcs : cs = []
  ·subst hcs
   simp only [if_pos, List.cons_ne_nil, if_false];congr 1;congr 1;congr 1;rw [← key];simp [put1]
  ·simp only [if_neg hcs, List.cons_ne_nil, if_false]
   congr 1;simp only [Yb];congr 1;rw [key];apply Array.ext_getElem?;intro k;simp only [Array.getElem?_setIfInBounds, Array.size_setIfInBounds]
   split <;> rfl
theorem Jk {e : TypeId} {cs : Array Value} : (newRow e cs).run P w = .ok ⟨w.heap.size, 0, none⟩ (Xm w (.cells cs e (0, 0))) := rfl
theorem Zcs {t : TypeId} {v : Value} : (newVar t v).run P w = .ok ⟨w.heap.size, 0, none⟩ (Xm w (.cells v.cells t (0, 0))) := rfl
end
def Zp : Ty → List Value
 | .int k => [.int k 0]
 | .bool => [.bool false]
 | .str => [.string ByteArray.empty]
 | .unit => []
 | .pair a b => Zp a ++ Zp b
 | .sl _ _ => [.slice none 0 0]
structure Xu (P : Program) (E : Env) (t : TypeId) (i : TI) : Prop where
 info : ∃ inf, P.info? t = some inf ∧ inf.size = i.ty.size ∧ inf.bytes = i.bytes ∧ inf.zero = some (mkV i.ty (Zp i.ty))
 pos : 0 < i.ty.size
 small : i.bytes ≤ 1024
 desc : ∃ d, P.underlying t = some d ∧ BX d = i.ty.isAgg ∧ (match i.kind with
  | .scalar => (match i.ty with | .int k => d = .int k | .bool => d = .bool | .str => d = .string | _ => False)
  | .slice e => d = .slice e ∧ ∃ ie, E.ti e = some ie ∧ i.ty = .sl false ie.ty
  | .struct fs => ∃ fields, d = .struct fields ∧ fields.toList.map (fun f => (f.offset, f.type)) = fs ∧ (∀ f ∈ fs, ∃ fi, E.ti f.2 = some fi) ∧ i.ty.isAgg = true)
theorem Z0 {im : Nat → Prop} {w : World} {o : Bool} : ∀ t : Ty, TR im w o t (WI t) (Zp t) []
 | .int _ => ⟨rfl, rfl⟩
 | .bool => ⟨rfl, rfl⟩
 | .str => ⟨rfl, rfl⟩
 | .unit => ⟨rfl, rfl⟩
 | .pair a b => ⟨_, _, [], [], rfl, rfl, Z0 a, Z0 b⟩
 | .sl u a => by
  refine ⟨none, 0, rfl, by simp [WI], ?_⟩
  by_cases h : (o && u) = true
  ·rw [if_pos h]; exact ⟨rfl, rfl, rfl⟩
  ·rw [if_neg h]; exact ⟨rfl, fun hx => absurd rfl hx⟩
theorem HI {z : Z} : ∀ t : Ty, VL z (Vi t) (Zp t)
 | .int k => by simp only [Vi, Zp, VL]; exact ⟨_, _, rfl, by simp only [V]; exact ⟨_, ⟨rfl, rfl⟩, rfl⟩, rfl⟩
 | .bool => by simp only [Vi, Zp, VL]; exact ⟨_, _, rfl, by simp only [V]; exact ⟨_, ⟨rfl, rfl⟩, rfl⟩, rfl⟩
 | .str => by simp only [Vi, Zp, VL]; exact ⟨_, _, rfl, by simp only [V]; exact ⟨_, ⟨rfl, rfl⟩, rfl⟩, rfl⟩
 | .unit => by simp only [Vi, Zp, VL]
 | .pair a b => (HI a).append (HI b)
 | .sl _ _ => by simp only [Vi, Zp, VL]; exact ⟨_, _, rfl, by simp only [V], rfl⟩
theorem ZkJ {t : Ty} {cs : List Value} (h : t.isAgg = true ∨ ∃ c, cs = [c] ∧ one c = true) : (mkV t cs).cells.toList = cs := by
 unfold mkV
 split
 ·simp [Value.cells]
 ·rename_i hn
  rcases h with h | ⟨c, rfl, hc⟩
  ·exact absurd h hn
  ·simp [PD hc]
theorem TR.cells {im : Nat → Prop} {w : World} {o : Bool} {t : Ty} {x : t.den} {cs : List Value} {S : List Nat} (h : TR im w o t x cs S) : (mkV t cs).cells.toList = cs := by
 apply ZkJ;cases ha : t.isAgg with
 | true => exact .inl rfl
 | false => exact .inr (h.scalar ha)
def Z2 (P : Program) (o : Oper) (gt : Operand → SV) (h : List Blk) (v : SV) (h' : List Blk) : Prop :=
 ∀ (g : G) (a : Act) (w : World) (rho : Rho), Inv g rho h w → (∀ x ∈ o.op.operands.toList, V (zOf g rho h w) (gt x) (a.eval x)) →
  ∀ (next : Act → World → Prop) (Q : Exit → Act → World → Prop),
   (∀ (cv : Value) (w' : World) (rho' : Rho), Inv g rho' h' w' → V (zOf g rho' h' w') v cv → Ext (zOf g rho h w) (zOf g rho' h' w') → next (a.put o.dst cv) w') →
   o.wp P a w next Q
theorem QE {P : Program} {o : Oper} {gt : Operand → SV} {h : List Blk} {v : SV}
  (hs : ∀ (g : G) (a : Act) (w : World) (rho : Rho), Inv g rho h w → (∀ x ∈ o.op.operands.toList, V (zOf g rho h w) (gt x) (a.eval x)) →
   ∃ cv w', Zhj w w' ∧ (execOp a.eval o).run P w = .ok (.value cv) w' ∧ V (zOf g rho h w) v cv) : Z2 P o gt h v h := by
 intro g a w rho hi ho next Q hn
 obtain ⟨cv, w', hw, hr, hv⟩ := hs g a w rho hi ho;unfold Oper.wp;rw [hr];have he : Ext (zOf g rho h w) (zOf g rho h w') := ⟨fun k hk => ⟨⟨hk.1, by rw [hw.heap]; exact hk.2.1, hk.2.2⟩, by show w'.heap[k]? = _; rw [hw.heap]; rfl⟩, fun _ => ZX.refl _ _⟩
 refine hn cv w' rho ?_ (V.ext he _ _ hv) he;exact ⟨fun b d hd => (hi.sim b d hd).ext he (fun _ k _ => by show w'.heap[k]? = _; rw [hw.heap]; rfl), hi.disj, hi.nodup, fun b d hd hl k hk => by rw [hw.heap]; exact hi.range b d hd hl k hk,
  ⟨by rw [hw.heap]; exact hi.kept.1, fun k hk hn => by rw [hw.heap]; exact hi.kept.2 k hk hn, hi.kept.3.trans (Frz.of_eq hw)⟩, PA.ext (z := zOf g rho h w) hi.tab he⟩
def LJ {R : Type} (P : Program) (o : Oper) (gt : Operand → SV) (h : List Blk) (K : SV → List Blk → Option R) (r : R) : Prop :=
 ∀ (g : G) (a : Act) (w : World) (rho : Rho), Inv g rho h w → (∀ x ∈ o.op.operands.toList, V (zOf g rho h w) (gt x) (a.eval x)) →
  ∀ (next : Act → World → Prop) (Q : Exit → Act → World → Prop),
   (∀ (v : SV) (h' : List Blk) (cv : Value) (w' : World) (rho' : Rho), K v h' = some r → Inv g rho' h' w' → V (zOf g rho' h' w') v cv → Ext (zOf g rho h w) (zOf g rho' h' w') → next (a.put o.dst cv) w') →
   o.wp P a w next Q
theorem Z2.toR {R : Type} {P : Program} {o : Oper} {gt : Operand → SV} {h h' : List Blk} {v : SV} {K : SV → List Blk → Option R} {r : R} (hs : Z2 P o gt h v h') (hk : K v h' = some r) : LJ P o gt h K r :=
 fun g a w rho hi hv next Q hn => hs g a w rho hi hv next Q (fun cv w' rho' => hn v h' cv w' rho' hk)
end Go.Sx
namespace Go.Sx
open Go
structure Zom (P : Program) (t : TypeId) (ty : Ty) : Prop where
 agg : ty.isAgg = true
 guard : P.eqGuardType P.depth t = false
 run : ∀ (im : Nat → Prop) (w w1 : World) (x y : ty.den) (cx cy : List Value), TR im w1 false ty x cx [] → TR im w1 false ty y cy [] →
  (Op.equal t (.agg cx.toArray) (.agg cy.toArray)).run P w = .ok (eqD ty x y) w
structure EnvOk0 (P : Program) (E : Env) : Prop where
 ti : ∀ t i, E.ti t = some i → Xu P E t i
 eqs : ∀ t ty, E.eqs t = true → E.ty t = some ty → Zom P t ty
theorem QF {z : Z} {v : SV} {c : Value} {k : IntKind} {x : Int} (h : V z v c) (hx : asI v = some (k, x)) : c = .int k x := by
 unfold asI at hx
 split at hx
 ·simp only [Option.some.injEq, Prod.mk.injEq] at hx
  obtain ⟨rfl, rfl⟩ := hx;simp only [V] at h;obtain ⟨cs, h1, h2⟩ := h;rw [h1.1] at h2;exact h2
 ·cases hx
theorem Zhu {z : Z} {v : SV} {c : Value} {b : Bool} (h : V z v c) (hx : asB v = some b) : c = .bool b := by
 unfold asB at hx
 split at hx
 ·simp only [Option.some.injEq] at hx
  subst hx;simp only [V] at h;obtain ⟨cs, h1, h2⟩ := h;rw [h1.1] at h2;exact h2
 ·cases hx
theorem Zhv {z : Z} {v : SV} {c : Value} {s : ByteArray} (h : V z v c) (hx : asS v = some s) : c = .string s := by
 unfold asS at hx
 split at hx
 ·simp only [Option.some.injEq] at hx
  subst hx;simp only [V] at h;obtain ⟨cs, h1, h2⟩ := h;rw [h1.1] at h2;exact h2
 ·cases hx
theorem KV {z : Z} (k : IntKind) (x : Int) : V z (.val (.int k) x) (.int k x) := by simp only [V]; exact ⟨_, ⟨rfl, rfl⟩, rfl⟩
theorem Uk {z : Z} (b : Bool) : V z (.val .bool b) (.bool b) := by simp only [V]; exact ⟨_, ⟨rfl, rfl⟩, rfl⟩
theorem ZkK {z : Z} (s : ByteArray) : V z (.val .str s) (.string s) := by simp only [V]; exact ⟨_, ⟨rfl, rfl⟩, rfl⟩
theorem FO {z : Z} : V z (.tup []) undef := by simp only [V]; exact ⟨[], rfl, by simp [VL]⟩
section
variable {R : Type} {P : Program} {E : Env} {o : Oper} {gt : Operand → SV} {h : List Blk}
theorem YC {v : SV} (f : (Operand → Value) → Sem Value) (he : ∀ rho, execOp rho o = (do pure (.value (← f rho))))
  (hs : ∀ (g : G) (a : Act) (w : World) (rho : Rho), Inv g rho h w → (∀ x ∈ o.op.operands.toList, V (zOf g rho h w) (gt x) (a.eval x)) →
   ∃ cv, (f a.eval).run P w = .ok cv w ∧ V (zOf g rho h w) v cv) : Z2 P o gt h v h := by
 refine QE (fun g a w rho hi ho => ?_);obtain ⟨cv, h1, h2⟩ := hs g a w rho hi ho;exact ⟨cv, w, Zhj.refl w, by rw [he, run_bind_ok h1]; rfl, h2⟩
theorem ZkL {x : Operand} (ho : o.op = .move x ∨ o.op = .assign x) : Z2 P o gt h (gt x) h := by
 refine QE (fun g a w rho hi hv => ⟨a.eval x, w, Zhj.refl w, ?_, ?_⟩)
 ·rcases ho with ho | ho <;> (unfold execOp; rw [ho]; rfl)
 ·rcases ho with ho | ho <;> exact hv x (by rw [ho]; simp [Op.operands])
theorem Zon {c x y : Operand} {b : Bool} (ho : o.op = .pick c x y) (hb : asB (gt c) = some b) : Z2 P o gt h (bif b then gt x else gt y) h := by
 refine QE (fun g a w rho hi hv => ⟨if b then a.eval x else a.eval y, w, Zhj.refl w, ?_, ?_⟩)
 ·have hc := Zhu (hv c (by rw [ho]; simp [Op.operands])) hb
  unfold execOp; rw [ho];dsimp only;rw [hc];rfl
 ·cases b
  ·exact hv y (by rw [ho]; simp [Op.operands])
  ·exact hv x (by rw [ho]; simp [Op.operands])
theorem VU {op : BinOp} {t : TypeId} {x y : Operand} {a b : Value} {w : World}
  (hn : ∀ c d, a = .agg c → b = .agg d → P.eqGuardType P.depth t = false) (hn2 : ¬ (a = .nilIface ∧ b = .nilIface)) : (eqGuard op t x y a b).run P w = .ok () w := by
 by_cases ho : op = .eql ∨ op = .neq
 ·cases a <;> cases b <;> first
   | (unfold eqGuard; rcases ho with rfl | rfl <;> rfl)
   | (exact absurd ⟨rfl, rfl⟩ hn2)
   | (have hg := hn _ _ rfl rfl; unfold eqGuard; rcases ho with rfl | rfl <;> (simp only [Bool.not_true, Bool.false_eq_true, if_false]; show ((program >>= fun p => program >>= fun q => _) : Sem Unit).run P w = _; rw [run_bind_ok (a := P) (w' := w) rfl, run_bind_ok (a := P) (w' := w) rfl, hg]; rfl))
 ·cases op <;> first
   | exact absurd (.inl rfl) ho
   | exact absurd (.inr rfl) ho
   | rfl
theorem ZmG {op : BinOp} {k : IntKind} {x y : Int} {K : SV → Option R} {r : R} (he : Zhn op k x y K = some r) (hop : op ≠ .shl ∧ op ≠ .shr) (t : TypeId) :
  ∃ v c, K v = some r ∧ (∀ z, V z v c) ∧ ∀ w, (Go.binOp op t (.int k x) (.int k y)).run P w = .ok c w := by
 have hk : ∀ (s : Sem Value), (if k ≠ k then stuck "BinOp: operands of different kinds" else s) = s := fun s => by simp
 cases op <;> simp only [Zhn] at he
 case add => exact ⟨_, _, he, fun z => KV _ _, fun w => by simp only [Go.binOp]; rw [hk]; rfl⟩
 case sub => exact ⟨_, _, he, fun z => KV _ _, fun w => by simp only [Go.binOp]; rw [hk]; rfl⟩
 case mul => exact ⟨_, _, he, fun z => KV _ _, fun w => by simp only [Go.binOp]; rw [hk]; rfl⟩
 case quo =>
  split at he
  ·cases he
  ·rename_i hy
   exact ⟨_, _, he, fun z => KV _ _, fun w => by simp only [Go.binOp]; rw [hk]; unfold Op.intDiv; rw [if_neg hy]; rfl⟩
 case rem =>
  split at he
  ·cases he
  ·rename_i hy
   exact ⟨_, _, he, fun z => KV _ _, fun w => by simp only [Go.binOp]; rw [hk]; unfold Op.intDiv; rw [if_neg hy]; rfl⟩
 case and => exact ⟨_, _, he, fun z => KV _ _, fun w => by simp only [Go.binOp]; rw [hk]; rfl⟩
 case or => exact ⟨_, _, he, fun z => KV _ _, fun w => by simp only [Go.binOp]; rw [hk]; rfl⟩
 case xor => exact ⟨_, _, he, fun z => KV _ _, fun w => by simp only [Go.binOp]; rw [hk]; rfl⟩
 case shl => exact absurd rfl hop.1
 case shr => exact absurd rfl hop.2
 case andNot => cases he
 case eql => exact ⟨_, _, he, fun z => Uk _, fun w => by simp only [Go.binOp]; rw [hk]; rfl⟩
 case neq => exact ⟨_, _, he, fun z => Uk _, fun w => by simp only [Go.binOp]; rw [hk]; rfl⟩
 case lss => exact ⟨_, _, he, fun z => Uk _, fun w => by simp only [Go.binOp]; rw [hk]; rfl⟩
 case leq => exact ⟨_, _, he, fun z => Uk _, fun w => by simp only [Go.binOp]; rw [hk]; rfl⟩
 case gtr => exact ⟨_, _, he, fun z => Uk _, fun w => by simp only [Go.binOp]; rw [hk]; rfl⟩
 case geq => exact ⟨_, _, he, fun z => Uk _, fun w => by simp only [Go.binOp]; rw [hk]; rfl⟩
theorem ZmH {op : BinOp} {k k' : IntKind} {x y : Int} {K : SV → Option R} {r : R} (t : TypeId)
  (he : (op = .shl ∧ (if y < 0 then none else K (.val (.int k) (k.wrap (x * 2 ^ (min y.toNat k.bits))))) = some r) ∨
   (op = .shr ∧ (if y < 0 then none else K (.val (.int k) (x.fdiv (2 ^ (min y.toNat k.bits))))) = some r)) :
  ∃ v c, K v = some r ∧ (∀ z, V z v c) ∧ ∀ w, (Go.binOp op t (.int k x) (.int k' y)).run P w = .ok c w := by
 rcases he with ⟨rfl, he⟩ | ⟨rfl, he⟩
 ·split at he
  ·cases he
  ·rename_i hy
   exact ⟨_, _, he, fun z => KV _ _, fun w => by simp only [Go.binOp]; unfold Op.shift; rw [if_neg hy]; rfl⟩
 ·split at he
  ·cases he
  ·rename_i hy
   exact ⟨_, _, he, fun z => KV _ _, fun w => by simp only [Go.binOp]; unfold Op.shift; rw [if_neg hy]; rfl⟩
theorem Pa (x y : ByteArray) : (x.toList == y.toList) = decide (x = y) := by
 have hl : ∀ b : ByteArray, b.toList = b.data.toList := by
  intro b;have aux : ∀ (n i : Nat) (acc : List UInt8), b.size - i = n → ByteArray.toList.loop b i acc = acc.reverse ++ b.data.toList.drop i := by
   intro n
   induction n with
   | zero =>
    intro i acc hn;unfold ByteArray.toList.loop;rw [if_neg (by omega), List.drop_eq_nil_of_le (by rw [Array.length_toList]; show b.size ≤ i; omega)];simp
   | succ n ih =>
    intro i acc hn;unfold ByteArray.toList.loop;have hi : i < b.size := by omega
    rw [if_pos hi, ih (i + 1) _ (by omega)];have hi' : i < b.data.toList.length := by rw [Array.length_toList]; exact hi
    rw [List.drop_eq_getElem_cons hi'];have : b.get! i = b.data.toList[i] := by
     simp only [ByteArray.get!];rw [getElem!_pos b.data i hi, Array.getElem_toList]
    rw [this];simp
  have := aux b.size 0 [] (by omega);simpa [ByteArray.toList] using this
 by_cases hxy : x = y
 ·subst hxy; simp
 ·have : x.toList ≠ y.toList := by
   rw [hl, hl];intro e;apply hxy;cases x; cases y;simp only [ByteArray.mk.injEq];exact Array.toList_inj.1 e
  simp [hxy, this]
theorem ZmI {op : BinOp} {x y : ByteArray} {K : SV → Option R} {r : R} (he : Zjl op x y K = some r) (t : TypeId) :
  ∃ v c, K v = some r ∧ (∀ z, V z v c) ∧ ∀ w, (Go.binOp op t (.string x) (.string y)).run P w = .ok c w := by
 cases op <;> simp only [Zjl] at he <;> try cases he
 case add =>
  split at he
  ·rename_i hl
   refine ⟨_, _, he, fun z => ZkK _, fun w => ?_⟩;simp only [Go.binOp];unfold Op.stringOp;dsimp only;have : ¬ (((x.size + y.size : Nat) : Int) > IntKind.i64.max) := by
    have hm : IntKind.i64.max = 9223372036854775807 := by decide
    rw [hm];unfold lim at hl;omega
   rw [if_neg this];rfl
  ·cases he
 case eql => exact ⟨_, _, he, fun z => Uk _, fun w => by simp only [Go.binOp]; unfold Op.stringOp; dsimp only; rw [Pa]; rfl⟩
 case neq => exact ⟨_, _, he, fun z => Uk _, fun w => by simp only [Go.binOp]; unfold Op.stringOp; dsimp only; rw [Pa]; rfl⟩
 case lss => exact ⟨_, _, he, fun z => Uk _, fun w => by simp only [Go.binOp]; unfold Op.stringOp; rfl⟩
 case leq => exact ⟨_, _, he, fun z => Uk _, fun w => by simp only [Go.binOp]; unfold Op.stringOp; dsimp only; rw [Pa]; rfl⟩
 case gtr => exact ⟨_, _, he, fun z => Uk _, fun w => by simp only [Go.binOp]; unfold Op.stringOp; dsimp only; rw [Pa]; rfl⟩
 case geq => exact ⟨_, _, he, fun z => Uk _, fun w => by simp only [Go.binOp]; unfold Op.stringOp; rfl⟩
theorem ZkM (hE : EnvOk0 P E) {t : TypeId} (ht : E.ty t = some .bool) : P.underlying t = some .bool := by
 unfold Env.ty at ht;cases hi : E.ti t with
 | none => rw [hi] at ht; cases ht
 | some i =>
  rw [hi] at ht;simp only [Option.map_some, Option.some.injEq] at ht;obtain ⟨d, h1, h2, h3⟩ := (hE.ti t i hi).desc;rw [h1];cases hk : i.kind with
  | scalar => rw [hk, ht] at h3; rw [h3]
  | slice e => rw [hk] at h3; obtain ⟨_, ie, _, h4⟩ := h3; rw [ht] at h4; cases h4
  | struct fs => rw [hk] at h3; obtain ⟨fields, _, _, _, h4⟩ := h3; rw [ht] at h4; cases h4
theorem ZmJ (hE : EnvOk0 P E) {op : BinOp} {t t' : TypeId} {x y : Operand} {K : SV → Option R} {r : R} (ho : o.op = .binOp op t x y t')
  (he : Pr E h op t (gt x) (gt y) K = some r) : ∃ v, Z2 P o gt h v h ∧ K v = some r := by
 have hx1 : x ∈ o.op.operands.toList := by rw [ho]; simp [Op.operands]
 have hy1 : y ∈ o.op.operands.toList := by rw [ho]; simp [Op.operands]
 have fin : ∀ (v : SV), (∀ (g : G) (a : Act) (w : World) (rho : Rho), Inv g rho h w → V (zOf g rho h w) (gt x) (a.eval x) → V (zOf g rho h w) (gt y) (a.eval y) →
   ∃ cv, (eqGuard op t x y (a.eval x) (a.eval y)).run P w = .ok () w ∧ (Go.binOp op t (a.eval x) (a.eval y)).run P w = .ok cv w ∧ V (zOf g rho h w) v cv) → Z2 P o gt h v h := by
  intro v hf;refine YC (fun rho => do eqGuard op t x y (rho x) (rho y); Go.binOp op t (rho x) (rho y)) (fun rho => by unfold execOp; rw [ho]) (fun g a w rho hi hv => ?_);obtain ⟨cv, h1, h2, h3⟩ := hf g a w rho hi (hv x hx1) (hv y hy1);exact ⟨cv, by rw [run_bind_ok h1]; exact h2, h3⟩
 unfold Pr at he
 split at he
 ·rename_i k x1 k' y1 hx hy
  have all : ∀ v c, (∀ z, V z v c) → (∀ w, (Go.binOp op t (.int k x1) (.int k' y1)).run P w = .ok c w) → Z2 P o gt h v h := by
   intro v c hv hr;refine fin v (fun g a w rho hi vx vy => ?_);have ex := QF vx hx;have ey := QF vy hy;rw [ex, ey];exact ⟨c, VU (fun c d h1 => by cases h1) (fun h1 => by cases h1.1), hr w, hv _⟩
  have sh : op = .shl ∨ op = .shr → ∃ v, Z2 P o gt h v h ∧ K v = some r := by
   intro hop;obtain ⟨v, c, h1, h2, h3⟩ := ZmH (P := P) (k' := k') t (op := op) (k := k) (x := x1) (y := y1) (K := K) (r := r) (by
    rcases hop with rfl | rfl
    ·exact .inl ⟨rfl, he⟩
    ·exact .inr ⟨rfl, he⟩)
   exact ⟨v, all v c h2 h3, h1⟩
  by_cases h1 : op = .shl
  ·exact sh (.inl h1)
  ·by_cases h2 : op = .shr
   ·exact sh (.inr h2)
   ·have he' : (bif decide (k = k') then Zhn op k x1 y1 K else none) = some r := by
     cases op <;> first | exact he | exact absurd rfl h1 | exact absurd rfl h2
    by_cases hkk : k = k'
    ·subst hkk
     simp only [decide_true, cond_true] at he';obtain ⟨v, c, h3, h4, h5⟩ := ZmG (P := P) he' ⟨h1, h2⟩ t;exact ⟨v, all v c h4 h5, h3⟩
    ·simp [hkk] at he'
 ·split at he
  ·rename_i x1 y1 hx hy
   obtain ⟨v, c, h1, h2, h3⟩ := ZmI (P := P) he t;refine ⟨v, fin v (fun g a w rho hi vx vy => ?_), h1⟩;have ex := Zhv vx hx;have ey := Zhv vy hy;rw [ex, ey];exact ⟨c, VU (fun c d h1 => by cases h1) (fun h1 => by cases h1.1), h3 w, h2 _⟩
  ·split at he
   ·rename_i x1 y1 hx hy
    have boo : ∀ (b : Bool), (∀ w, (Go.binOp op t (.bool x1) (.bool y1)).run P w = .ok (.bool b) w) → Z2 P o gt h (.val .bool b) h := by
     intro b hr;refine fin _ (fun g a w rho hi vx vy => ?_);have ex := Zhu vx hx;have ey := Zhu vy hy;rw [ex, ey];exact ⟨.bool b, VU (fun c d h1 => by cases h1) (fun h1 => by cases h1.1), hr w, Uk b⟩
    have req : E.ty t = some .bool → ∀ w, (Op.equal t (.bool x1) (.bool y1)).run P w = .ok (x1 == y1) w := by
     intro ht w;unfold Op.equal;show ((underlying t >>= fun d => _) : Sem Bool).run P w = _;rw [run_bind_ok (run_underlying (ZkM hE ht))];rfl
    split at he
    ·rename_i ht
     exact ⟨_, boo _ (fun w => by
      show (((Op.equal t (.bool x1) (.bool y1)) >>= fun b => pure (.bool b)) : Sem Value).run P w = _;rw [run_bind_ok (req ht w)]; rfl), he⟩
    ·rename_i ht
     exact ⟨_, boo _ (fun w => by
      show (((Op.equal t (.bool x1) (.bool y1)) >>= fun b => pure (.bool (!b))) : Sem Value).run P w = _;rw [run_bind_ok (req ht w)]; rfl), he⟩
    ·cases he
   ·cases heq : E.eqs t with
    | false => rw [heq] at he; cases he
    | true =>
     rw [heq] at he;simp only [cond_true] at he
     split at he
     ·rename_i ty hty
      split at he
      ·rename_i x1 y1 hx hy
       have hq := hE.eqs t ty heq hty;have two : ∀ (b : Bool), (∀ w cx cy im w1, TR im w1 false ty x1 cx [] → TR im w1 false ty y1 cy [] → (Go.binOp op t (.agg cx.toArray) (.agg cy.toArray)).run P w = .ok (.bool b) w) →
         Z2 P o gt h (.val .bool b) h := by
        intro b hr;refine fin _ (fun g a w rho hi vx vy => ?_);obtain ⟨cx, h1, h2⟩ := FN (z := zOf g rho h w) hi.sim vx hx;obtain ⟨cy, h3, h4⟩ := FN (z := zOf g rho h w) hi.sim vy hy;have h1' : TR (zOf g rho h w).im w false ty x1 cx [] := h1.im (fun k hk => by rcases hk with hk | ⟨hk, _⟩; exact hk; cases hk);have h3' : TR (zOf g rho h w).im w false ty y1 cy [] := h3.im (fun k hk => by rcases hk with hk | ⟨hk, _⟩; exact hk; cases hk);simp only [mkV, hq.agg, if_true] at h2 h4;rw [h2, h4];exact ⟨.bool b, VU (fun _ _ _ _ => hq.guard) (fun h1 => by cases h1.1), hr w cx cy _ _ h1' h3', Uk b⟩
       split at he
       ·exact ⟨_, two _ (fun w cx cy im w1 t1 t2 => by
         show (((Op.equal t (.agg cx.toArray) (.agg cy.toArray)) >>= fun b => pure (.bool b)) : Sem Value).run P w = _;rw [run_bind_ok (hq.run im w w1 x1 y1 cx cy t1 t2)]; rfl), he⟩
       ·exact ⟨_, two _ (fun w cx cy im w1 t1 t2 => by
         show (((Op.equal t (.agg cx.toArray) (.agg cy.toArray)) >>= fun b => pure (.bool (!b))) : Sem Value).run P w = _;rw [run_bind_ok (hq.run im w w1 x1 y1 cx cy t1 t2)]; rfl), he⟩
       ·cases he
      ·cases he
     ·cases he
theorem Zoo {op : UnOp} {t : TypeId} {x : Operand} {K : SV → Option R} {r : R} (ho : o.op = .unOp op t x) (he : Zjm op (gt x) K = some r) :
  ∃ v, Z2 P o gt h v h ∧ K v = some r := by
 have hx1 : x ∈ o.op.operands.toList := by rw [ho]; simp [Op.operands]
 have fin : ∀ (v : SV), (∀ (g : G) (a : Act) (w : World) (rho : Rho), V (zOf g rho h w) (gt x) (a.eval x) →
   ∃ cv, (Op.unary op (a.eval x)).run P w = .ok cv w ∧ V (zOf g rho h w) v cv) → Z2 P o gt h v h := by
  intro v hf;exact YC (fun rho => Op.unary op (rho x)) (fun rho => by unfold execOp; rw [ho]) (fun g a w rho hi hv => hf g a w rho (hv x hx1))
 unfold Zjm at he
 split at he
 ·split at he
  ·rename_i k x1 hx
   refine ⟨_, fin _ (fun g a w rho hv => ?_), he⟩;rw [QF hv hx];exact ⟨_, rfl, KV _ _⟩
  ·cases he
 ·split at he
  ·rename_i b hx
   refine ⟨_, fin _ (fun g a w rho hv => ?_), he⟩;rw [Zhu hv hx];exact ⟨_, rfl, Uk _⟩
  ·cases he
 ·cases he
end
end Go.Sx
namespace Go.Sx
open Go
section
variable {R : Type} {P : Program} {E : Env} {o : Oper} {gt : Operand → SV} {h : List Blk}
theorem DX (hE : EnvOk0 P E) {t : TypeId} (ht : ZaB E t = true) : P.underlying t = some .string := by
 unfold ZaB at ht
 split at ht
 ·rename_i b hi
  obtain ⟨d, h1, h2, h3⟩ := (hE.ti t _ hi).desc;rw [h1, h3]
 ·cases ht
theorem FP (hE : EnvOk0 P E) {t : TypeId} (ht : Vk E t = true) : ∃ e, P.underlying t = some (.slice e) := by
 unfold Vk at ht
 split at ht
 ·rename_i ty b e hi
  obtain ⟨d, h1, h2, h3⟩ := (hE.ti t _ hi).desc;exact ⟨e, by rw [h1, h3.1]⟩
 ·cases ht
theorem XS (hE : EnvOk0 P E) {t : TypeId} {a : Ty} (ht : HB E t a = true) :
  ∃ e ie inf, P.underlying t = some (.slice e) ∧ E.ti e = some ie ∧ ie.ty.eqv a = true ∧ P.info? e = some inf ∧ inf.size = a.size := by
 unfold HB at ht
 split at ht
 ·rename_i ty b e hi
  split at ht
  ·rename_i ie hie
   obtain ⟨d, h1, h2, h3⟩ := (hE.ti t _ hi).desc;obtain ⟨inf, h4, h5, _⟩ := (hE.ti e _ hie).info;exact ⟨e, ie, inf, by rw [h1, h3.1], hie, ht, h4, h5.trans (Ty.eqv_size ht)⟩
  ·cases ht
 ·cases ht
theorem ZqV {z : Z} {u : Bool} {a : Ty} {xs : List a.den} {c : Value} (hv : V z (.val (.sl u a) xs) c) :
  ∃ A cap, c = .slice A xs.length cap ∧ xs.length ≤ cap ∧ TR z.im z.w false (.sl u a) xs [.slice A xs.length cap] [] := by
 simp only [V] at hv;obtain ⟨cs, h1, h2⟩ := hv;have h1' := h1;obtain ⟨A, cap, h3, h4, _⟩ := h1;subst h3;exact ⟨A, cap, h2, h4, h1'⟩
theorem ZaE {z : Z} {b v v' : Nat} {t : Ty} {x : List t.den} {c : Value} (hv : V z (.own b v) c) (hb : nth z.h b = some (.arr v' t x)) (e : v' = v) :
  ∃ A cap S, z.rho b = some (.s A cap S) ∧ c = .slice A x.length cap := by
 simp only [V] at hv;exact (hv.2.2 v' t x.length (by rw [hb]; rfl)).2 e
theorem ZpB {z : Z} {b v v' : Nat} {t : Ty} {n : Nat} {c : Value} (hv : V z (.own b v) c) (hb : Kb (nth z.h b) = some (v', t, n)) (e : v' = v) :
  ∃ A cap S, z.rho b = some (.s A cap S) ∧ c = .slice A n cap := by
 simp only [V] at hv;exact (hv.2.2 v' t n hb).2 e
theorem Zhw {z : Z} {b v v' off n : Nat} {t : Ty} {x : List t.den} {c : Value} (hv : V z (.sub b v off n) c) (hb : nth z.h b = some (.arr v' t x)) (e : v' = v) :
  off + n ≤ x.length ∧ ∃ A cap S o cap', z.rho b = some (.s A cap S) ∧ c = .slice (WK A o) n cap' ∧ n ≤ cap' ∧ o + cap' * t.size ≤ cap * t.size ∧ (0 < n → o = off * t.size) ∧ (off = 0 → o = 0 ∧ cap' = cap) := by
 simp only [V] at hv;exact (hv.2.2 v' t x.length (by rw [hb]; rfl)).2 e
theorem XT {c : Call} {b : Builtin} (ho : o.op = .call c) (hc : c.callee = .builtin b) (f : (Operand → Value) → Sem Value)
  (hb : ∀ rho : Operand → Value, ∀ l, builtin b c.argTypes o.type l (c.args.map rho) = (do pure (.value (← f rho)))) : ∀ rho, execOp rho o = (do pure (.value (← f rho))) := by
 intro rho;unfold execOp;rw [ho];dsimp only;unfold resolve;rw [hc];exact hb rho _
theorem ZpC (hE : EnvOk0 P E) {c : Call} {x : Operand} {t : TypeId} {K : SV → Option R} {r : R} (ho : o.op = .call c) (hc : c.callee = .builtin .len)
  (ha : c.args.toList = [x]) (hat : c.argTypes.toList = [t]) (he : Zof E h t (gt x) K = some r) : ∃ v, Z2 P o gt h v h ∧ K v = some r := by
 have hx1 : x ∈ o.op.operands.toList := by rw [ho]; simp [Op.operands, Call.operands, hc, ha]
 have ea : c.args = #[x] := by rw [← Array.toList_inj, ha]
 have et : c.argTypes = #[t] := by rw [← Array.toList_inj, hat]
 have fin : ∀ (v : SV), (∀ (g : G) (a : Act) (w : World) (rho : Rho), Inv g rho h w → V (zOf g rho h w) (gt x) (a.eval x) →
   ∃ cv, (Builtin.len_ #[t] o.type #[a.eval x]).run P w = .ok cv w ∧ V (zOf g rho h w) v cv) → Z2 P o gt h v h := by
  intro v hf;refine YC (fun rho => Builtin.len_ #[t] o.type #[rho x]) (XT ho hc _ (fun rho l => by rw [ea, et, show (#[x].map rho) = #[rho x] by simp]; rfl)) (fun g a w rho hi hv => hf g a w rho hi (hv x hx1))
 have ofLen : ∀ {n : Nat} {A : Option Addr} {cap : Nat} {w : World}, Vk E t = true → (Builtin.len_ #[t] o.type #[.slice A n cap]).run P w = .ok (.int .i64 n) w := by
  intro n A cap w hl;obtain ⟨e, h1⟩ := FP hE hl;show ((underlying t >>= fun d => _) : Sem Value).run P w = _;rw [run_bind_ok (run_underlying h1)];rfl
 unfold Zof at he
 split at he
 ·rename_i s hg
  cases hs : ZaB E t with
  | false => rw [hs] at he; cases he
  | true =>
   rw [hs] at he;refine ⟨_, fin _ (fun g a w rho hi hv => ?_), he⟩;rw [hg] at hv;rw [Zhv hv rfl];refine ⟨_, ?_, KV _ _⟩;show ((underlying t >>= fun d => _) : Sem Value).run P w = _;rw [run_bind_ok (run_underlying (DX hE hs))];rfl
 ·rename_i u a xs hg
  cases hs : Vk E t with
  | false => rw [hs] at he; cases he
  | true =>
   rw [hs] at he;refine ⟨_, fin _ (fun g a w rho hi hv => ?_), he⟩;rw [hg] at hv;obtain ⟨A, cap, h1, _⟩ := ZqV hv;rw [h1];exact ⟨_, ofLen hs, KV _ _⟩
 ·rename_i hg
  cases hs : Vk E t with
  | false => rw [hs] at he; cases he
  | true =>
   rw [hs] at he;refine ⟨_, fin _ (fun g a w rho hi hv => ?_), he⟩;rw [hg] at hv;simp only [V] at hv;rw [hv];exact ⟨_, ofLen hs, KV _ _⟩
 ·rename_i b v hg
  split at he
  ·rename_i v' a xs hb
   split at he
   ·rename_i e
    cases hs : Vk E t with
    | false => rw [hs] at he; cases he
    | true =>
     rw [hs] at he;refine ⟨_, fin _ (fun g a w rho hi hv => ?_), he⟩;rw [hg] at hv;obtain ⟨A, cap, S, _, h2⟩ := ZaE hv hb e;rw [h2];exact ⟨_, ofLen hs, KV _ _⟩
   ·cases he
  ·cases he
 ·rename_i b v off n hg
  split at he
  ·rename_i v' a xs hb
   split at he
   ·rename_i e
    cases hs : Vk E t with
    | false => rw [hs] at he; cases he
    | true =>
     rw [hs] at he;refine ⟨_, fin _ (fun g a w rho hi hv => ?_), he⟩;rw [hg] at hv;obtain ⟨_, A, cap, S, o', cap', _, h2, _⟩ := Zhw hv hb e;rw [h2];exact ⟨_, ofLen hs, KV _ _⟩
   ·cases he
  ·cases he
 ·cases he
theorem YU {x : Value} {k : IntKind} {i : Int} {y : Nat} {c : BoundsCode} {w : World} (hx : x = .int k i) (h0 : 0 ≤ i) (h1 : i ≤ y) :
  (Instr.sliceBound x y c).run P w = .ok i.toNat w := by
 subst hx;unfold Instr.sliceBound;show ((asIntOf (.int k i) >>= fun p => _) : Sem Nat).run P w = _;rw [run_bind_ok (a := (k, i)) (w' := w) rfl];dsimp only;rw [if_pos ⟨h0, h1⟩];rfl
theorem Qs {lo hi : Option Operand} {n : Nat} {K : Nat → Nat → Option R} {r : R} (he : Vl (lo.map gt) (hi.map gt) n K = some r) :
  ∃ i j, K i j = some r ∧ i ≤ j ∧ j ≤ n ∧ ∀ (z : Z) (ev : Operand → Value), (∀ x ∈ lo, V z (gt x) (ev x)) → (∀ x ∈ hi, V z (gt x) (ev x)) → ∀ (s : Bool) (cap : Nat) (w : World), n ≤ cap → (s = false → cap = n) →
   (Instr.sliceBounds s n cap (lo.map ev) (hi.map ev) none).run P w = .ok (i, j, cap) w := by
 unfold Vl at he;cases hi with
 | none =>
  simp only [Option.map_none] at he;cases lo with
  | none =>
   simp only [Option.map_none] at he;exact ⟨0, n, he, Nat.zero_le _, Nat.le_refl _, fun z ev _ _ s cap w hc _ => rfl⟩
  | some l =>
   simp only [Option.map_some] at he
   split at he
   ·rename_i k i hl
    split at he
    ·rename_i h0
     split at he
     ·rename_i h1
      refine ⟨i.toNat, n, he, by omega, Nat.le_refl _, fun z ev hv _ s cap w hc _ => ?_⟩;unfold Instr.sliceBounds;dsimp only [Option.map_some, Option.map_none];show ((pure cap >>= fun m => pure n >>= fun h => Instr.sliceBound (ev l) h _ >>= fun l => _) : Sem _).run P w = _;rw [run_bind_ok (run_pure P _ _), run_bind_ok (run_pure P _ _), run_bind_ok (YU (QF (hv l rfl) hl) h0 h1)];rfl
     ·cases he
    ·cases he
   ·cases he
 | some u =>
  simp only [Option.map_some] at he
  split at he
  ·rename_i k j hu
   split at he
   ·rename_i h0
    split at he
    ·rename_i h1
     cases lo with
     | none =>
      simp only [Option.map_none] at he;refine ⟨0, j.toNat, he, Nat.zero_le _, by omega, fun z ev _ hv s cap w hc hs => ?_⟩;unfold Instr.sliceBounds;dsimp only [Option.map_some, Option.map_none];show ((pure cap >>= fun m => Instr.sliceBound (ev u) m _ >>= fun h => pure 0 >>= fun l => _) : Sem _).run P w = _;rw [run_bind_ok (run_pure P _ _), run_bind_ok (YU (QF (hv u rfl) hu) h0 (by omega)), run_bind_ok (run_pure P _ _)];rfl
     | some l =>
      simp only [Option.map_some] at he
      split at he
      ·rename_i k2 i hl
       split at he
       ·rename_i h2
        split at he
        ·rename_i h3
         refine ⟨i.toNat, j.toNat, he, by omega, by omega, fun z ev hv hv2 s cap w hc hs => ?_⟩;unfold Instr.sliceBounds;dsimp only [Option.map_some, Option.map_none];show ((pure cap >>= fun m => Instr.sliceBound (ev u) m _ >>= fun h => Instr.sliceBound (ev l) h _ >>= fun l => _) : Sem _).run P w = _;rw [run_bind_ok (run_pure P _ _), run_bind_ok (YU (QF (hv2 u rfl) hu) h0 (by omega)),
          run_bind_ok (YU (QF (hv l rfl) hl) h2 (by omega))]
         rfl
        ·cases he
       ·cases he
      ·cases he
    ·cases he
   ·cases he
  ·cases he
theorem VV {t : TypeId} {d : TypeDesc} (hd : P.underlying t = some d) (hn : ∀ n e, d ≠ .array n e) {x : Value} {lo hi mx : Option Value} {w : World} :
  (Instr.sliceAt t x lo hi mx).run P w = (Instr.slice t x lo hi mx).run P w := by
 unfold Instr.sliceAt;rw [run_bind_ok (run_underlying hd)];cases d <;> first | rfl | exact absurd rfl (hn _ _)
theorem Ziw (hE : EnvOk0 P E) {t : TypeId} {x : Operand} {lo hi : Option Operand} {K : SV → Option R} {r : R} (ho : o.op = .slice t x lo hi none)
  (he : MW E h t (gt x) (lo.map gt) (hi.map gt) K = some r) : ∃ v, Z2 P o gt h v h ∧ K v = some r := by
 have hx1 : x ∈ o.op.operands.toList := by rw [ho]; simp [Op.operands]
 have hlo : ∀ y ∈ lo, y ∈ o.op.operands.toList := by intro y hy; rw [ho]; simp only [Op.operands]; cases hy; simp
 have hhi : ∀ y ∈ hi, y ∈ o.op.operands.toList := by intro y hy; rw [ho]; simp only [Op.operands]; cases hy; simp
 have fin : ∀ (v : SV), (∀ (g : G) (a : Act) (w : World) (rho : Rho), Inv g rho h w → V (zOf g rho h w) (gt x) (a.eval x) → (∀ y ∈ lo, V (zOf g rho h w) (gt y) (a.eval y)) → (∀ y ∈ hi, V (zOf g rho h w) (gt y) (a.eval y)) →
   ∃ cv, (Instr.sliceAt t (a.eval x) (lo.map a.eval) (hi.map a.eval) none).run P w = .ok cv w ∧ V (zOf g rho h w) v cv) → Z2 P o gt h v h := by
  intro v hf;exact YC (fun rho => Instr.sliceAt t (rho x) (lo.map rho) (hi.map rho) none) (fun rho => by unfold execOp; rw [ho]; rfl)
   (fun g a w rho hi' hv => hf g a w rho hi' (hv x hx1) (fun y hy => hv y (hlo y hy)) (fun y hy => hv y (hhi y hy)))
 -- lists
 have list : ∀ {w : World} {A : Option Addr} {n cap i j : Nat} {lo' hi' : Option Value} {e : TypeId} {inf : TypeInfo}, P.underlying t = some (.slice e) → P.info? e = some inf →
   (Instr.sliceBounds true n cap lo' hi' none).run P w = .ok (i, j, cap) w → (∀ ad, A = some ad → ad.spot = none) →
   (Instr.sliceAt t (.slice A n cap) lo' hi' none).run P w = .ok (.slice (WK A (if cap = i then 0 else i * inf.size)) (j - i) (cap - i)) w := by
  intro w A n cap i j lo' hi' e inf hd hinf hb hA;rw [VV hd (by intro n e h; cases h)];unfold Instr.slice;rw [run_bind_ok (run_underlying hd)];dsimp only;rw [run_bind_ok hb];dsimp only;rw [run_bind_ok (run_sizeOf hinf)];have : (if cap = i then A else A.map fun x => x.add (i * inf.size)) = WK A (if cap = i then 0 else i * inf.size) := by
   cases A with
   | none => simp [WK]
   | some ad =>
    simp only [WK, Option.map_some];have hs := hA ad rfl
    split
    ·cases ad; simp at hs; subst hs; simp
    ·rw [WV hs]
  rw [this];rfl
 unfold MW at he
 split at he
 ·rename_i s hg
  cases hs : ZaB E t with
  | false => rw [hs] at he; cases he
  | true =>
   rw [hs] at he;simp only [cond_true] at he;obtain ⟨i, j, h1, h2, h3, h4⟩ := Qs (P := P) he;refine ⟨_, fin _ (fun g a w rho hi' hv hvl hvh => ?_), h1⟩;rw [hg] at hv;rw [Zhv hv rfl];refine ⟨_, ?_, ZkK _⟩;have hd := DX hE hs;rw [VV hd (by intro n e h; cases h)];unfold Instr.slice;rw [run_bind_ok (run_underlying hd)];dsimp only;show ((Instr.sliceBounds false (ByteArray.size s) (ByteArray.size s) (lo.map a.eval) (hi.map a.eval) none >>= fun p => _) : Sem Value).run P w = _;rw [run_bind_ok (h4 _ a.eval hvl hvh false (ByteArray.size s) w (Nat.le_refl _) (fun _ => rfl))];rfl
 ·rename_i u a xs hg
  cases hs : HB E t a with
  | false => rw [hs] at he; cases he
  | true =>
   rw [hs] at he;simp only [cond_true] at he;obtain ⟨i, j, h1, h2, h3, h4⟩ := Qs (P := P) he;refine ⟨_, fin _ (fun g ac w rho hi' hv hvl hvh => ?_), h1⟩;rw [hg] at hv;obtain ⟨A, cap, h5, h6, h7⟩ := ZqV hv;obtain ⟨e, ie, inf, h8, _, _, h9, h10⟩ := XS hE hs;rw [h5];have spot : ∀ ad, A = some ad → ad.spot = none ∨ xs = [] := by
    intro ad hA
    by_cases hx : xs = []
    ·exact .inr hx
    ·obtain ⟨A1, cap1, k1, k2, k3⟩ := h7
     simp only [List.cons.injEq, and_true, Value.slice.injEq] at k1;obtain ⟨rfl, _, _⟩ := k1;simp only [Bool.false_and, Bool.false_eq_true, if_false] at k3;obtain ⟨ad', inner, e1, e2, _⟩ := k3.2 hx;rw [e1] at hA; cases hA; exact .inl e2
   have hb := h4 (zOf g rho h w) ac.eval hvl hvh true cap w h6 (fun h => by cases h);have hrun : ∃ A', (Instr.sliceAt t (.slice A xs.length cap) (lo.map ac.eval) (hi.map ac.eval) none).run P w = .ok (.slice A' (j - i) (cap - i)) w ∧ (0 < j - i → A' = WK A (i * a.size)) := by
    rw [VV h8 (by intro n e h; cases h)];unfold Instr.slice;rw [run_bind_ok (run_underlying h8)];dsimp only;rw [run_bind_ok hb];dsimp only;rw [run_bind_ok (run_sizeOf h9)];refine ⟨_, rfl, fun hn => ?_⟩;rw [if_neg (by omega), h10];cases A with
    | none => rfl
    | some ad =>
     simp only [WK, Option.map_some];rcases spot ad rfl with hs | hs
     ·rw [WV hs]
     ·rw [hs] at h3; simp at h3; omega
   obtain ⟨A', hr, hA'⟩ := hrun;refine ⟨_, hr, ?_⟩;simp only [V];refine ⟨_, h7.part i (j - i) (by omega) (A' := A') (c' := cap - i) (by omega) hA', rfl⟩
 ·rename_i hg
  cases hs : Vk E t with
  | false => rw [hs] at he; cases he
  | true =>
   rw [hs] at he;simp only [cond_true] at he;obtain ⟨i, j, h1, h2, h3, h4⟩ := Qs (P := P) he;refine ⟨_, fin _ (fun g ac w rho hi' hv hvl hvh => ?_), h1⟩;rw [hg] at hv;simp only [V] at hv;rw [hv];obtain ⟨e, h8⟩ := FP hE hs;have hb := h4 (zOf g rho h w) ac.eval hvl hvh true 0 w (Nat.le_refl _) (fun h => by cases h);have hi0 : i = 0 := by omega
   have hj0 : j = 0 := by omega
   subst hi0; subst hj0;refine ⟨.slice none 0 0, ?_, by simp only [V]⟩;rw [VV h8 (by intro n e h; cases h)];unfold Instr.slice;rw [run_bind_ok (run_underlying h8)];dsimp only;rw [run_bind_ok hb];dsimp only;obtain ⟨e', he'⟩ : ∃ i, E.ti t = some i ∧ (match i.kind with | .slice _ => True | _ => False) := by
    unfold Vk at hs
    split at hs
    ·rename_i ty b e2 hi2; exact ⟨_, hi2, trivial⟩
    ·cases hs
   obtain ⟨d, k1, k2, k3⟩ := (hE.ti t _ he'.1).desc;cases hk : e'.kind with
   | scalar => rw [hk] at he'; exact he'.2.elim
   | struct fs => rw [hk] at he'; exact he'.2.elim
   | slice e2 =>
    rw [hk] at k3;obtain ⟨k4, ie, k5, _⟩ := k3;rw [h8] at k1;cases k1;cases k4;obtain ⟨inf, k6, _⟩ := (hE.ti e ie k5).info;rw [run_bind_ok (run_sizeOf k6)];rfl
 ·rename_i b v hg
  split at he
  ·rename_i v' a xs hb
   split at he
   ·rename_i e
    cases hs : HB E t a with
    | false => rw [hs] at he; cases he
    | true =>
     rw [hs] at he;simp only [cond_true] at he;obtain ⟨i, j, h1, h2, h3, h4⟩ := Qs (P := P) he;refine ⟨_, fin _ (fun g ac w rho hi' hv hvl hvh => ?_), h1⟩;rw [hg] at hv;obtain ⟨A, cap, S, h5, h6⟩ := ZaE hv hb e;obtain ⟨e1, ie, inf, h8, _, _, h9, h10⟩ := XS hE hs;have hsim := hi'.sim b _ h5;rw [hb] at hsim;obtain ⟨A1, cap1, S1, k1, k2, k3⟩ := hsim;cases k1;have hspot : ∀ ad, A = some ad → ad.spot = none := by
      intro ad hA;obtain ⟨A2, cap2, m1, m2, m3⟩ := k2;simp only [List.cons.injEq, and_true, Value.slice.injEq] at m1;obtain ⟨rfl, _, _⟩ := m1;subst hA;simp only [Bool.and_self, if_true] at m3;exact m3.1
     have hcap : xs.length ≤ cap := by
      obtain ⟨A2, cap2, m1, m2, m3⟩ := k2;simp only [List.cons.injEq, and_true, Value.slice.injEq] at m1;obtain ⟨_, _, rfl⟩ := m1;exact m2
     rw [h6];refine ⟨_, list h8 h9 (h4 (zOf g rho h w) ac.eval hvl hvh true cap w hcap (fun h => by cases h)) hspot, ?_⟩;simp only [V];refine ⟨⟨_, _, _, rfl⟩, ?_⟩;refine Va (o := nth h b) hb ?_;refine ⟨by omega, fun _ => ⟨by omega, A, cap, S, _, _, h5, rfl, by omega, ?_, fun hn => ?_, fun h0 => ?_⟩⟩
     ·rw [h10]
      split
      ·rename_i hci; subst hci; simp
      ·rw [← Nat.add_mul]; exact Nat.mul_le_mul_right _ (by omega)
     ·rw [if_neg (by omega), h10]
     ·subst h0; simp
   ·cases he
  ·cases he
 ·rename_i b v off n hg
  split at he
  ·rename_i v' a xs hb
   split at he
   ·rename_i e
    cases hs : HB E t a with
    | false => rw [hs] at he; cases he
    | true =>
     rw [hs] at he;simp only [cond_true] at he;obtain ⟨i, j, h1, h2, h3, h4⟩ := Qs (P := P) he;refine ⟨_, fin _ (fun g ac w rho hi' hv hvl hvh => ?_), h1⟩;rw [hg] at hv;obtain ⟨h0, A, cap, S, o', cap', h5, h6, h7, h7b, h7c, h7d⟩ := Zhw hv hb e;obtain ⟨e1, ie, inf, h8, _, _, h9, h10⟩ := XS hE hs;have hspot : ∀ ad, WK A o' = some ad → ad.spot = none := by
      intro ad hA;cases A with
      | none => cases hA
      | some a2 => simp only [WK, Option.map_some, Option.some.injEq] at hA; subst hA; rfl
     rw [h6];refine ⟨_, list h8 h9 (h4 (zOf g rho h w) ac.eval hvl hvh true cap' w h7 (fun h => by cases h)) hspot, ?_⟩;have hmm : ∀ q, WK (WK A o') q = WK A (o' + q) := by
      intro q;cases A with
      | none => rfl
      | some a2 => simp [WK, Nat.add_assoc]
     rw [hmm];simp only [V];refine ⟨⟨_, _, _, rfl⟩, ?_⟩;refine Va (o := nth h b) hb ?_;refine ⟨by omega, fun _ => ⟨by omega, A, cap, S, _, _, h5, rfl, by omega, ?_, fun hn => ?_, fun h0 => ?_⟩⟩
     ·rw [h10]
      split
      ·rename_i hci; subst hci; simp; exact Nat.le_trans (Nat.le_add_right _ _) h7b
      ·rw [Nat.add_assoc, ← Nat.add_mul, show i + (cap' - i) = cap' by omega]; exact h7b
     ·rw [if_neg (by omega), h10, h7c (by omega), Nat.add_mul]
     ·obtain ⟨q1, q2⟩ := h7d (by omega)
      have hi0 : i = 0 := by omega
      subst hi0;exact ⟨by simp [q1], by omega⟩
   ·cases he
  ·cases he
 ·cases he
theorem Zfo {t e : TypeId} (hd : P.underlying t = some (.slice e)) {A : Option Addr} {n c : Nat} {w : World} : (Op.equal t (.slice A n c) (.slice none 0 0)).run P w = .ok A.isNone w := by
 unfold Op.equal Op.maxDepth Op.equalIn;show ((underlying t >>= fun d => _) : Sem Bool).run P w = _;rw [run_bind_ok (run_underlying hd)];cases A <;> rfl
theorem Zop {z : Z} {v : SV} {c : Value} (h : V z v c) (hn : Pq v = true) : c = .slice none 0 0 := by
 cases v <;> simp [Pq] at hn;simpa [V] using h
theorem ZkN {R : Type} {g : G} {w : World} {rho : Rho} {x : SV} {K : Bool → Option R} {r : R} {c : Value} (hi : Inv g rho h w) (hv : V (zOf g rho h w) x c) (he : Zkr h x K = some r) : ∃ A n m, c = .slice A n m ∧ K A.isNone = some r := by
 have nilc : ∀ {α : Type} (xs : List α) {A : Option Addr}, Zoe xs K = some r → (xs ≠ [] → A.isNone = false) → K A.isNone = some r := by
  intro α xs A he hA;cases xs with
  | nil =>
   obtain ⟨h1, h2⟩ := HA he;cases A.isNone
   ·exact h2
   ·exact h1
  | cons y ys =>
   rw [hA (by simp)];exact he
 unfold Zkr at he
 split at he
 ·simp only [V] at hv
  exact ⟨_, _, _, hv, he⟩
 ·rename_i u a xs
  obtain ⟨A, cap, h1, h2, h3⟩ := ZqV hv;refine ⟨_, _, _, h1, nilc xs he (fun hx => ?_)⟩;obtain ⟨A1, cap1, k1, k2, k3⟩ := h3;simp only [Bool.false_and, Bool.false_eq_true, if_false] at k3;obtain ⟨ad, inner, k4, _⟩ := k3.2 hx;simp only [List.cons.injEq, and_true, Value.slice.injEq] at k1;obtain ⟨rfl, _, _⟩ := k1;rw [k4]; rfl
 ·rename_i b v
  split at he
  ·rename_i v' t xs hb
   split at he
   ·rename_i e
    obtain ⟨A, cap, S, h1, h2⟩ := ZaE (z := zOf g rho h w) hv hb e;refine ⟨_, _, _, h2, nilc xs he (fun hx => ?_)⟩;have hsim := hi.sim b _ h1;rw [hb] at hsim;obtain ⟨A1, cap1, S1, k1, k2, _⟩ := hsim;cases k1;obtain ⟨A2, cap2, m1, m2, m3⟩ := k2;simp only [List.cons.injEq, and_true, Value.slice.injEq] at m1;obtain ⟨rfl, _, rfl⟩ := m1;simp only [Bool.and_self, if_true] at m3;cases A with
    | none => exact absurd m3.1 hx
    | some ad => rfl
   ·cases he
  ·cases he
 ·cases he
theorem ZmK {R : Type} (hE : EnvOk0 P E) {op : BinOp} {t t' : TypeId} {x y : Operand} {K : SV → List Blk → Option R} {r : R} (ho : o.op = .binOp op t x y t') (hn : Pq (gt y) = true) (ht : Vk E t = true)
  (he : Zfk h op (gt x) (fun v => K v h) = some r) : LJ P o gt h K r := by
 intro g a w rho hi hv next Q hnx
 have hx1 : x ∈ o.op.operands.toList := by rw [ho]; simp [Op.operands]
 have hy1 : y ∈ o.op.operands.toList := by rw [ho]; simp [Op.operands]
 obtain ⟨e, hd⟩ := FP hE ht;have ey := Zop (hv y hy1) hn;have key : ∃ b, K (.val .bool b) h = some r ∧ (execOp a.eval o).run P w = .ok (.value (.bool b)) w := by
  have run : ∀ (b : Bool), (eqGuard op t x y (a.eval x) (a.eval y)).run P w = .ok () w → (Go.binOp op t (a.eval x) (a.eval y)).run P w = .ok (.bool b) w → (execOp a.eval o).run P w = .ok (.value (.bool b)) w := by
   intro b h1 h2;have e : execOp a.eval o = (do pure (.value (← (do eqGuard op t x y (a.eval x) (a.eval y); Go.binOp op t (a.eval x) (a.eval y))))) := by unfold execOp; rw [ho]
   rw [e];refine run_bind_ok (x := (do eqGuard op t x y (a.eval x) (a.eval y); Go.binOp op t (a.eval x) (a.eval y))) (a := .bool b) (w' := w) ?_;exact (run_bind_ok (x := eqGuard op t x y (a.eval x) (a.eval y)) h1).trans h2
  unfold Zfk at he
  split at he
  ·obtain ⟨A, n, m, h1, h2⟩ := ZkN hi (hv x hx1) he
   refine ⟨A.isNone, h2, run _ ?_ ?_⟩
   ·rw [h1, ey]; exact VU (fun c d h1 => by cases h1) (fun h1 => by cases h1.1)
   ·rw [h1, ey]
    show (((Op.equal t (.slice A n m) (.slice none 0 0)) >>= fun b => pure (.bool b)) : Sem Value).run P w = _;rw [run_bind_ok (Zfo hd)]; rfl
  ·obtain ⟨A, n, m, h1, h2⟩ := ZkN hi (hv x hx1) he
   refine ⟨!A.isNone, h2, run _ ?_ ?_⟩
   ·rw [h1, ey]; exact VU (fun c d h1 => by cases h1) (fun h1 => by cases h1.1)
   ·rw [h1, ey]
    show (((Op.equal t (.slice A n m) (.slice none 0 0)) >>= fun b => pure (.bool (!b))) : Sem Value).run P w = _;rw [run_bind_ok (Zfo hd)]; rfl
  ·cases he
 obtain ⟨b, h1, h2⟩ := key;unfold Oper.wp;rw [h2];exact hnx _ h _ w rho h1 hi (Uk b) (Ext.refl _)
end
end Go.Sx
namespace Go.Sx
open Go
section
variable {R : Type} {P : Program} {E : Env} {o : Oper} {gt : Operand → SV} {h : List Blk}
theorem bind_some {α β : Type} {x : Option α} {f : α → Option β} {r : β} (he : Option.bind x f = some r) : ∃ y, x = some y ∧ f y = some r := by
 cases x with
 | none => cases he
 | some y => exact ⟨y, rfl, he⟩
theorem J6 {t e : TypeId} {inf : TypeInfo} (hd : P.underlying t = some (.slice e)) (hi : P.info? e = some inf) {ad : Addr} (hs : ad.spot = none) {n cap : Nat} {k : IntKind} {i : Int} {w : World}
  (h0 : 0 ≤ i) (h1 : i < n) : (Instr.indexAt t (.slice (some ad) n cap) (.int k i)).run P w = .ok (.pointer (some ⟨ad.block, ad.off + i.toNat * inf.size, none⟩)) w := by
 unfold Instr.indexAt;show ((asIntOf (.int k i) >>= fun p => _) : Sem Value).run P w = _;rw [run_bind_ok (a := (k, i)) (w' := w) rfl];dsimp only;rw [run_bind_ok (run_underlying hd)];dsimp only;rw [run_bind_ok (run_pure P _ _)];dsimp only;rw [run_bind_ok (run_underlying hd)];dsimp only;rw [if_pos ⟨h0, h1⟩, run_bind_ok (run_sizeOf hi), WV hs];rfl
theorem Zfp (hE : EnvOk0 P E) {t : TypeId} {x i : Operand} {K : SV → Option R} {r : R} (ho : o.op = .indexAddr t x i)
  (he : VQ E h t (gt x) (gt i) K = some r) : ∃ v, Z2 P o gt h v h ∧ K v = some r := by
 have hx1 : x ∈ o.op.operands.toList := by rw [ho]; simp [Op.operands]
 have hi1 : i ∈ o.op.operands.toList := by rw [ho]; simp [Op.operands]
 have fin : ∀ (v : SV), (∀ (g : G) (a : Act) (w : World) (rho : Rho), Inv g rho h w → V (zOf g rho h w) (gt x) (a.eval x) → V (zOf g rho h w) (gt i) (a.eval i) →
   ∃ cv, (Instr.indexAt t (a.eval x) (a.eval i)).run P w = .ok cv w ∧ V (zOf g rho h w) v cv) → Z2 P o gt h v h := by
  intro v hf;exact YC (fun rho => Instr.indexAt t (rho x) (rho i)) (fun rho => by unfold execOp; rw [ho]) (fun g a w rho hi' hv => hf g a w rho hi' (hv x hx1) (hv i hi1))
 unfold VQ at he
 split at he
 ·cases he
 ·rename_i k n hn
  split at he
  ·rename_i u a xs hg
   cases hs : HB E t a with
   | false => rw [hs] at he; cases he
   | true =>
    rw [hs] at he;simp only [cond_true] at he
    split at he
    ·rename_i h0
     obtain ⟨y, hy, he⟩ := bind_some he;refine ⟨_, fin _ (fun g ac w rho hi' hv hvi => ?_), he⟩;rw [hg] at hv;obtain ⟨A, cap, h5, h6, h7⟩ := ZqV hv;obtain ⟨e, ie, inf, h8, _, _, h9, h10⟩ := XS hE hs;obtain ⟨A1, cap1, k1, k2, k3⟩ := h7;simp only [List.cons.injEq, and_true, Value.slice.injEq] at k1;obtain ⟨rfl, _, _⟩ := k1;simp only [Bool.false_and, Bool.false_eq_true, if_false] at k3;have hlt : n.toNat < xs.length := BU hy;have hx : xs ≠ [] := by intro e; subst e; simp at hlt
     obtain ⟨ad, inner, e1, e2, e3, e4, e5⟩ := k3.2 hx;subst e1;rw [h5, QF hvi hn];refine ⟨_, J6 h8 h9 e2 h0 (by omega), ?_⟩;simp only [V];refine ⟨⟨ad.block, ad.off + n.toNat * inf.size, none⟩, (inner.drop (n.toNat * a.size)).take a.size, rfl, e3, ?_, ?_⟩
     ·rw [h10]; exact e4.part _ _
     ·exact Ye.get (fun _ _ _ hr => hr.len) n.toNat e5 hy
    ·cases he
  ·rename_i b v hg
   split at he
   ·rename_i v' a xs hb
    split at he
    ·rename_i e
     cases hs : HB E t a with
     | false => rw [hs] at he; cases he
     | true =>
      rw [hs] at he;simp only [cond_true] at he
      split at he
      ·rename_i h0
       split at he
       ·rename_i h1
        refine ⟨_, fin _ (fun g ac w rho hi' hv hvi => ?_), he⟩;rw [hg] at hv;obtain ⟨A, cap, S, h5, h6⟩ := ZaE hv hb e;obtain ⟨e1, ie, inf, h8, _, _, h9, h10⟩ := XS hE hs;have hsim := hi'.sim b _ h5;rw [hb] at hsim;obtain ⟨A1, cap1, S1, k1, k2, k3⟩ := hsim;cases k1;obtain ⟨A2, cap2, m1, m2, m3⟩ := k2;simp only [List.cons.injEq, and_true, Value.slice.injEq] at m1;obtain ⟨rfl, _, rfl⟩ := m1;simp only [Bool.and_self, if_true] at m3;cases A with
        | none => obtain ⟨hx, _⟩ := m3; subst hx; simp at h1; omega
        | some ad =>
         obtain ⟨hsp, _⟩ := m3;rw [h6, QF hvi hn];refine ⟨_, J6 h8 h9 hsp h0 h1, ?_⟩;simp only [V];refine ⟨⟨_, rfl⟩, ?_⟩;refine Va (o := nth h b) hb ?_;exact ⟨by omega, fun _ => ⟨by omega, ad, cap, S, h5, by rw [h10]; rfl⟩⟩
       ·cases he
      ·cases he
    ·cases he
   ·rename_i v' a xs j cj hb
    split at he
    ·rename_i e
     cases hs : HB E t a with
     | false => rw [hs] at he; cases he
     | true =>
      rw [hs] at he;simp only [cond_true] at he
      split at he
      ·rename_i h0
       split at he
       ·rename_i h1
        refine ⟨_, fin _ (fun g ac w rho hi' hv hvi => ?_), he⟩;rw [hg] at hv;obtain ⟨A, cap, S, h5, h6⟩ := ZpB (n := xs.length) (t := a) (v' := v') hv (by rw [show nth (zOf g rho h w).h b = _ from hb]; rfl) e;obtain ⟨e1, ie, inf, h8, _, _, h9, h10⟩ := XS hE hs;have hsim := hi'.sim b _ h5;rw [hb] at hsim;obtain ⟨ad, cap1, c1, cs, c2, S1, S2, k1, hsp, _⟩ := hsim;cases k1;rw [h6, QF hvi hn];refine ⟨_, J6 h8 h9 hsp h0 h1, ?_⟩;simp only [V];refine ⟨⟨_, rfl⟩, ?_⟩;refine ⟨by rw [show nth (zOf g rho h w).h b = _ from hb]; rfl, fun v2 t2 n2 hi2 => ?_⟩;rw [show nth (zOf g rho h w).h b = _ from hb] at hi2;cases hi2;exact ⟨by omega, fun _ => ⟨by omega, ad, cap, _, h5, by rw [h10]; rfl⟩⟩
       ·cases he
      ·cases he
    ·cases he
   ·cases he
  ·rename_i b v off m hg
   split at he
   ·rename_i v' a xs hb
    split at he
    ·rename_i e
     cases hs : HB E t a with
     | false => rw [hs] at he; cases he
     | true =>
      rw [hs] at he;simp only [cond_true] at he
      split at he
      ·rename_i h0
       split at he
       ·rename_i h1
        refine ⟨_, fin _ (fun g ac w rho hi' hv hvi => ?_), he⟩;rw [hg] at hv;obtain ⟨hle, A, cap, S, o', cap', h5, h6, h7, h7b, h7c, _⟩ := Zhw hv hb e;obtain ⟨e1, ie, inf, h8, _, _, h9, h10⟩ := XS hE hs;have hsim := hi'.sim b _ h5;rw [hb] at hsim;obtain ⟨A1, cap1, S1, k1, k2, k3⟩ := hsim;cases k1;obtain ⟨A2, cap2, m1, m2, m3⟩ := k2;simp only [List.cons.injEq, and_true, Value.slice.injEq] at m1;obtain ⟨rfl, _, rfl⟩ := m1;simp only [Bool.and_self, if_true] at m3;cases A with
        | none => obtain ⟨hx, _⟩ := m3; subst hx; simp at hle; omega
        | some ad =>
         rw [h6, QF hvi hn];simp only [WK, Option.map_some];refine ⟨_, J6 h8 h9 rfl h0 h1, ?_⟩;simp only [V];refine ⟨⟨_, rfl⟩, ?_⟩;refine Va (o := nth h b) hb ?_;refine ⟨by omega, fun _ => ⟨by omega, ad, cap, S, h5, ?_⟩⟩;rw [h10, h7c (by omega), Nat.add_mul, Nat.add_zero, Nat.add_assoc]
       ·cases he
      ·cases he
    ·cases he
   ·cases he
  ·cases he
theorem ZmL (hE : EnvOk0 P E) {t : TypeId} {x i : Operand} {K : SV → Option R} {r : R} (ho : o.op = .index t x i)
  (he : Zcn E t (gt x) (gt i) K = some r) : ∃ v, Z2 P o gt h v h ∧ K v = some r := by
 have hx1 : x ∈ o.op.operands.toList := by rw [ho]; simp [Op.operands]
 have hi1 : i ∈ o.op.operands.toList := by rw [ho]; simp [Op.operands]
 unfold Zcn at he
 split at he
 ·rename_i k n s hn hg
  cases hs : ZaB E t with
  | false => rw [hs] at he; cases he
  | true =>
   rw [hs] at he;simp only [cond_true] at he;unfold Zog at he
   split at he
   ·rename_i h0
    obtain ⟨b, hb, he⟩ := bind_some he;refine ⟨_, YC (fun rho => Instr.index t (rho x) (rho i)) (fun rho => by unfold execOp; rw [ho]) (fun g a w rho hi' hv => ?_), he⟩;rw [Zhv (hv x hx1) hg, QF (hv i hi1) hn];refine ⟨_, ?_, KV _ _⟩;unfold Instr.index;show ((asIntOf (.int k n) >>= fun p => _) : Sem Value).run P w = _;rw [run_bind_ok (a := (k, n)) (w' := w) rfl];dsimp only;rw [run_bind_ok (run_underlying (DX hE hs))];dsimp only;rw [if_pos h0];have : s[n.toNat]? = some b := by
     rw [Eu] at hb;have hlt : n.toNat < s.data.toList.length := by
      rcases Nat.lt_or_ge n.toNat s.data.toList.length with h1 | h1
      ·exact h1
      ·rw [List.getElem?_eq_none h1] at hb; cases hb
     rw [List.getElem?_eq_getElem hlt] at hb;have hlt' : n.toNat < s.size := by simpa using hlt
     rw [getElem?_pos s n.toNat hlt'];rw [← hb];congr 1
    rw [this];rfl
   ·cases he
 ·cases he
theorem FQ (hE : EnvOk0 P E) {t : TypeId} {ty : Ty} {bs : Nat} {fs : List (Nat × TypeId)} (hi : E.ti t = some ⟨ty, bs, .struct fs⟩) :
  ∃ fields, P.underlying t = some (.struct fields) ∧ fields.toList.map (fun f => (f.offset, f.type)) = fs ∧ (∀ f ∈ fs, ∃ fi, E.ti f.2 = some fi) ∧ ty.isAgg = true := by
 obtain ⟨d, h1, h2, h3⟩ := (hE.ti t _ hi).desc;obtain ⟨fields, h4, h5, h6, h7⟩ := h3;exact ⟨fields, by rw [h1, h4], h5, h6, h7⟩
theorem PG {fields : Array Field} {fs : List (Nat × TypeId)} (hf : fields.toList.map (fun f => (f.offset, f.type)) = fs) {n off : Nat} {ft : TypeId} (hn : nth fs n = some (off, ft)) :
  ∃ fd, fields[n]? = some fd ∧ fd.offset = off ∧ fd.type = ft := by
 subst hf;rw [Eu, List.getElem?_map] at hn;cases hx : fields.toList[n]? with
 | none => rw [hx] at hn; cases hn
 | some fd =>
  rw [hx] at hn;simp only [Option.map_some, Option.some.injEq, Prod.mk.injEq] at hn;exact ⟨fd, by rw [← Array.getElem?_toList]; exact hx, hn.1, hn.2⟩
theorem J7 (hE : EnvOk0 P E) {t : TypeId} {ty : Ty} {bs : Nat} {fs : List (Nat × TypeId)} (hi : E.ti t = some ⟨ty, bs, .struct fs⟩) {n off : Nat} {ft : TypeId} (hn : nth fs n = some (off, ft))
  {ad : Addr} (hs : ad.spot = none) {w : World} : (Instr.fieldAt t (.pointer (some ad)) n).run P w = .ok (.pointer (some ⟨ad.block, ad.off + off, none⟩)) w := by
 obtain ⟨fields, h1, h2, h3, _⟩ := FQ hE hi;obtain ⟨fd, h4, h5, h6⟩ := PG h2 hn;obtain ⟨fi, h7⟩ := h3 (off, ft) (List.mem_of_getElem? (by rw [← Eu]; exact hn));obtain ⟨inf, h8, h9, _⟩ := (hE.ti ft fi h7).info;have hpos := (hE.ti ft fi h7).pos;unfold Instr.fieldAt;rw [run_bind_ok (run_underlying h1)];dsimp only;rw [h4];dsimp only;show ((Instr.sureAddr (.pointer (some ad)) >>= fun a => _) : Sem Value).run P w = _;rw [run_bind_ok (a := ad) (w' := w) rfl];have : (fieldPlace ad fd).run P w = .ok ⟨ad.block, ad.off + off, none⟩ w := by
  unfold fieldPlace;rw [h6, run_bind_ok (run_sizeOf h8), if_neg (by omega), WV hs, h5];rfl
 rw [run_bind_ok this];rfl
theorem Zhx {z : Z} {b off : Nat} {c : Value} {cells : List SV} (hv : V z (.ptr b off) c) (hb : nth z.h b = some (.vars cells)) :
  ∃ blk, z.rho b = some (.v blk) ∧ c = .pointer (some ⟨blk, off, none⟩) := by
 simp only [V] at hv;rw [hb] at hv;exact hv.2
theorem PH {z : Z} {b v v' i off : Nat} {t : Ty} {x : List t.den} {c : Value} (hv : V z (.eptr b v i off) c) (hb : nth z.h b = some (.arr v' t x)) (e : v' = v) :
  i < x.length ∧ ∃ ad cap S, z.rho b = some (.s (some ad) cap S) ∧ c = .pointer (some ⟨ad.block, ad.off + i * t.size + off, none⟩) := by
 simp only [V] at hv;exact (hv.2.2 v' t x.length (by rw [hb]; rfl)).2 e
theorem ZmM {z : Z} {b off blk : Nat} {cells : List SV} (hb : nth z.h b = some (.vars cells)) (hr : z.rho b = some (.v blk)) : V z (.ptr b off) (.pointer (some ⟨blk, off, none⟩)) := by
 simp only [V];rw [hb];exact ⟨⟨_, rfl⟩, blk, hr, rfl⟩
theorem ZpD {z : Z} {b v i off cap : Nat} {ad : Addr} {S : List Nat} {t : Ty} {x : List t.den} (hb : nth z.h b = some (.arr v t x)) (hr : z.rho b = some (.s (some ad) cap S)) (hi : i < x.length) :
  V z (.eptr b v i off) (.pointer (some ⟨ad.block, ad.off + i * t.size + off, none⟩)) := by
 simp only [V];rw [hb];refine ⟨⟨_, rfl⟩, rfl, fun v' t' n' hi' => ?_⟩;simp only [Kb, Blk.info, Option.some.injEq, Prod.mk.injEq] at hi';obtain ⟨rfl, rfl, rfl⟩ := hi';exact ⟨Nat.le_refl _, fun _ => ⟨hi, ad, cap, S, hr, rfl⟩⟩
theorem Zfq (hE : EnvOk0 P E) {t : TypeId} {x : Operand} {n : Nat} {K : SV → Option R} {r : R} (ho : o.op = .fieldAddr t x n)
  (he : Wu E h t (gt x) n K = some r) : ∃ v, Z2 P o gt h v h ∧ K v = some r := by
 have hx1 : x ∈ o.op.operands.toList := by rw [ho]; simp [Op.operands]
 have fin : ∀ (v : SV), (∀ (g : G) (a : Act) (w : World) (rho : Rho), Inv g rho h w → V (zOf g rho h w) (gt x) (a.eval x) →
   ∃ cv, (Instr.fieldAt t (a.eval x) n).run P w = .ok cv w ∧ V (zOf g rho h w) v cv) → Z2 P o gt h v h := by
  intro v hf;exact YC (fun rho => Instr.fieldAt t (rho x) n) (fun rho => by unfold execOp; rw [ho]) (fun g a w rho hi' hv => hf g a w rho hi' (hv x hx1))
 unfold Wu at he
 split at he
 ·rename_i ty bs fs hi
  unfold fieldAt at he
  split at he
  ·rename_i off ft hn
   split at he
   ·rename_i b off' hg
    split at he
    ·rename_i cells hb
     refine ⟨_, fin _ (fun g a w rho hi' hv => ?_), he⟩;rw [hg] at hv;obtain ⟨blk, h1, h2⟩ := Zhx (z := zOf g rho h w) hv hb;rw [h2];exact ⟨_, J7 hE hi hn rfl, ZmM (z := zOf g rho h w) hb h1⟩
    ·cases he
   ·rename_i a y off' hg
    refine ⟨_, fin _ (fun g ac w rho hi' hv => ?_), he⟩;rw [hg] at hv;simp only [V] at hv;obtain ⟨ad, cs, h1, h2, h3, h4⟩ := hv;rw [h1];refine ⟨_, J7 hE hi hn rfl, ?_⟩;simp only [V];exact ⟨ad, cs, by rw [Nat.add_assoc], h2, h3, h4⟩
   ·rename_i b v i off' hg
    split at he
    ·rename_i v' a xs hb
     split at he
     ·rename_i e
      subst e;refine ⟨_, fin _ (fun g ac w rho hi' hv => ?_), he⟩;rw [hg] at hv;obtain ⟨hlt, ad, cap, S, h1, h2⟩ := PH (z := zOf g rho h w) hv hb rfl;rw [h2];refine ⟨_, J7 hE hi hn rfl, ?_⟩;have := ZpD (z := zOf g rho h w) (off := off' + off) hb h1 hlt;rw [← Nat.add_assoc] at this;exact this
     ·cases he
    ·rename_i v' a xs j cj hb
     split at he
     ·rename_i e
      refine ⟨_, fin _ (fun g ac w rho hi' hv => ?_), he⟩;rw [hg] at hv;have hb2 : Kb (nth (zOf g rho h w).h b) = some (v', a, xs.length) := by rw [show nth (zOf g rho h w).h b = _ from hb]; rfl
      simp only [V] at hv;obtain ⟨hlt, ad, cap, S, h1, h2⟩ := (hv.2.2 v' a xs.length hb2).2 e;rw [h2];refine ⟨_, J7 hE hi hn rfl, ?_⟩;simp only [V];refine ⟨⟨_, rfl⟩, by rw [show nth (zOf g rho h w).h b = _ from hb]; rfl, fun v2 t2 n2 hi2 => ?_⟩;rw [hb2] at hi2;cases hi2;exact ⟨by omega, fun _ => ⟨hlt, ad, cap, S, h1, by rw [Nat.add_assoc]⟩⟩
     ·cases he
    ·cases he
   ·cases he
  ·cases he
 ·cases he
theorem LK (hE : EnvOk0 P E) {t : TypeId} {ty : Ty} (h : E.ty t = some ty) :
  ∃ inf d, P.info? t = some inf ∧ inf.size = ty.size ∧ inf.zero = some (mkV ty (Zp ty)) ∧ P.underlying t = some d ∧ BX d = ty.isAgg ∧ 0 < ty.size ∧ inf.bytes ≤ 1024 := by
 unfold Env.ty at h;cases hi : E.ti t with
 | none => rw [hi] at h; cases h
 | some i =>
  rw [hi] at h;simp only [Option.map_some, Option.some.injEq] at h;subst h;have hk := hE.ti t i hi;obtain ⟨inf, h1, h2, h3, h4⟩ := hk.info;obtain ⟨d, h5, h6, _⟩ := hk.desc;exact ⟨inf, d, h1, h2, h4, h5, h6, hk.pos, by rw [h3]; exact hk.small⟩
theorem VW (hE : EnvOk0 P E) {t : TypeId} {ty : Ty} (ht : E.ty t = some ty) {ad : Addr} (hs : ad.spot = none) {cs : List Value} {w : World} (hl : cs.length = ty.size) (hr : VS w ad cs) :
  (Instr.loadAt t (.pointer (some ad))).run P w = .ok (mkV ty cs) w := by
 obtain ⟨inf, d, h1, h2, _, h4, h5, _⟩ := LK hE ht;unfold Instr.loadAt;show ((Instr.sureAddr (.pointer (some ad)) >>= fun a => _) : Sem Value).run P w = _;rw [run_bind_ok (a := ad) (w' := w) rfl];cases ha : ty.isAgg with
 | true =>
  rw [PE hs h1 h4 (h5.trans ha) (by rw [h2]; exact hl) hr];simp [mkV, ha]
 | false =>
  have : cs.length = 1 := hl.trans (VT ha)
  match cs, this with
  | [c], _ =>
   have h0 : w.cell? ad = some c := by
    have := hr 0 c rfl;cases ad; simp at hs; subst hs; simpa using this
   rw [PF h4 (h5.trans ha) h0];simp [mkV, ha]
theorem ZpE {z : Z} {x : SV} {u : Value} (h : V z x u) : V z (Zq6 x) u := by
 cases x with
 | vl c0 t x => simp only [V] at h; simp only [Zq6, V]; exact h.2
 | _ => exact h
theorem J8 {ty : Ty} {c : List SV} {K : SV → Option R} {r : R} (he : El h ty c K = some r) :
  ∃ v, K v = some r ∧ c.length = ty.size ∧ ∀ (g : G) (w : World) (rho : Rho) (cs : List Value), Inv g rho h w → VL (zOf g rho h w) c cs → V (zOf g rho h w) v (mkV ty cs) := by
 unfold El at he;cases hl : Nat.beq c.length ty.size with
 | false => rw [hl] at he; cases he
 | true =>
  rw [hl] at he;have hlen := Nat.eq_of_beq_eq_true hl;cases ha : ty.isAgg with
  | true =>
   rw [ha] at he;refine ⟨_, he, hlen, fun g w rho cs hi hv => ?_⟩;have := Zcr (z := zOf g rho h w) hi.sim ha hv;simp only [mkV, ha, if_true];exact this
  | false =>
   rw [ha] at he;simp only [cond_true, cond_false] at he
   split at he
   ·rename_i x
    refine ⟨_, he, hlen, fun g w rho cs hi hv => ?_⟩;simp only [VL] at hv;obtain ⟨u, q, rfl, h2, rfl⟩ := hv;have h2 := ZpE h2;simpa [mkV, ha] using h2
   ·cases he
theorem Zix {ty a : Ty} {y : a.den} {off : Nat} {K : SV → Option R} {r : R} (he : ZaC h ty a y off K = some r) :
  ∃ v, K v = some r ∧ ∀ (g : G) (w : World) (rho : Rho) (cs : List Value), Inv g rho h w → TR (zOf g rho h w).im w false a y cs [] →
   V (zOf g rho h w) v (mkV ty ((cs.drop off).take ty.size)) ∧ ((cs.drop off).take ty.size).length = ty.size := by
 unfold ZaC at he
 split at he
 ·rename_i x hx
  split at hx
  ·rename_i h0
   subst h0;refine ⟨_, he, fun g w rho cs hi ht => ?_⟩;obtain ⟨h1, h2⟩ := Zfn hx ht;have hl := h1.len;have e : (cs.drop 0).take ty.size = cs := by simp [List.take_of_length_le (Nat.le_of_eq hl)]
   rw [e];refine ⟨?_, hl⟩;simp only [V];exact ⟨cs, h1, rfl⟩
  ·cases hx
 ·obtain ⟨v, h1, h2, h3⟩ := J8 he
  refine ⟨v, h1, fun g w rho cs hi ht => ?_⟩;have hv := (ht.cells_V (z := zOf g rho h w)).cut off ty.size;refine ⟨h3 g w rho _ hi hv, ?_⟩;rw [← hv.length];exact h2
theorem Ye.weak {im im' : Nat → Prop} {w : World} {t : Ty} (hi : ∀ b, im b → im' b) : ∀ {xs : List t.den} {cs : List Value} {S : List Nat}, (∀ b ∈ S, im' b) → Ye (TR im w true t) xs cs S → Ye (TR im' w false t) xs cs []
 | [], _, _, _, h => ⟨h.1, rfl⟩
 | _ :: _, _, _, hS, ⟨c1, c2, S1, S2, h1, h2, h3, h4⟩ => by
  subst h2;exact ⟨c1, c2, [], [], h1, rfl, h3.weak hi _ _ _ S1 true (fun b hb => hS b (by simp [hb])), Ye.weak hi (fun b hb => hS b (by simp [hb])) h4⟩
theorem TR.plain {im im' : Nat → Prop} {w w' : World} : ∀ {t : Ty} {x : t.den} {cs : List Value}, t.hasSl = false → TR im w false t x cs [] → TR im' w' false t x cs []
 | .int _, _, _, _, h => h
 | .bool, _, _, _, h => h
 | .str, _, _, _, h => h
 | .unit, _, _, _, h => h
 | .pair a b, x, cs, hn, ⟨c1, c2, S1, S2, h1, h2, h3, h4⟩ => by
  simp only [Ty.hasSl, Bool.or_eq_false_iff] at hn;have e : S1 = [] ∧ S2 = [] := List.append_eq_nil_iff.1 h2.symm;obtain ⟨rfl, rfl⟩ := e;exact ⟨c1, c2, [], [], h1, rfl, TR.plain hn.1 h3, TR.plain hn.2 h4⟩
 | .sl _ _, _, _, hn, _ => by cases hn
theorem VL.plain {z z' : Z} : ∀ (l : List SV) (cs : List Value), Ziu l = true → VL z l cs → VL z' l cs
 | [], cs, _, h => by simp only [VL] at h ⊢; exact h
 | x :: l, cs, hp, h => by
  simp only [Ziu, List.all_cons, Bool.and_eq_true] at hp;simp only [VL] at h ⊢;obtain ⟨c, r, rfl, h2, h3⟩ := h;refine ⟨c, r, rfl, ?_, VL.plain l r hp.2 h3⟩;cases x with
  | val t x =>
   simp only [ZnE, Bool.not_eq_true'] at hp;simp only [V] at h2 ⊢;obtain ⟨cs', h4, h5⟩ := h2;exact ⟨cs', h4.plain hp.1, h5⟩
  | _ => cases hp.1
theorem Zhy (hE : EnvOk0 P E) {t : TypeId} {ty : Ty} {x : Operand} {K : SV → Option R} {r : R} (ho : o.op = .load t x) (ht : E.ty t = some ty)
  (he : UV h ty (gt x) K = some r) : ∃ v, Z2 P o gt h v h ∧ K v = some r := by
 have hx1 : x ∈ o.op.operands.toList := by rw [ho]; simp [Op.operands]
 have fin : ∀ (v : SV), (∀ (g : G) (a : Act) (w : World) (rho : Rho), Inv g rho h w → V (zOf g rho h w) (gt x) (a.eval x) →
   ∃ cv, (Instr.loadAt t (a.eval x)).run P w = .ok cv w ∧ V (zOf g rho h w) v cv) → Z2 P o gt h v h := by
  intro v hf;exact YC (fun rho => Instr.loadAt t (rho x)) (fun rho => by unfold execOp; rw [ho]) (fun g a w rho hi' hv => hf g a w rho hi' (hv x hx1))
 unfold UV at he
 split at he
 ·rename_i b off hg
  split at he
  ·rename_i c hb
   obtain ⟨v, h1, h2, h3⟩ := J8 he;refine ⟨v, fin _ (fun g a w rho hi hv => ?_), h1⟩;rw [hg] at hv;obtain ⟨blk, h4, h5⟩ := Zhx (z := zOf g rho h w) hv hb;have hsim := hi.sim b _ h4;rw [hb] at hsim;obtain ⟨blk', cs, e, k1, k2, k3⟩ := hsim;cases k1;have hcut := k3.cut off ty.size;rw [h5];refine ⟨_, VW hE ht rfl (by rw [← hcut.length]; exact h2) ?_, h3 g w rho _ hi hcut⟩;have : VS w ⟨blk, 0, none⟩ cs := by
    intro j c' hj;have hk2 : w.heap[blk]? = _ := k2;simp only [World.cell?, hk2, Option.isSome_none, Bool.false_eq_true, if_false, Nat.zero_add];simpa using hj
   simpa using this.part off ty.size
  ·cases he
 ·rename_i a y off hg
  obtain ⟨v, h1, h2⟩ := Zix he;refine ⟨v, fin _ (fun g ac w rho hi hv => ?_), h1⟩;rw [hg] at hv;simp only [V] at hv;obtain ⟨ad, cs, h3, h4, h5, h6⟩ := hv;obtain ⟨h7, h8⟩ := h2 g w rho cs hi h6;rw [h3];exact ⟨_, VW hE ht rfl h8 (h5.part off ty.size), h7⟩
 ·rename_i b v i off hg
  split at he
  ·rename_i v' a xs hb
   split at he
   ·rename_i e
    obtain ⟨y, hy, he⟩ := bind_some he;cases hc : a.noUq with
    | false =>
     rw [hc] at he;simp only [cond_false] at he;cases hpl : Ziu (cut (cellsOf a y) off ty.size) with
     | false => rw [hpl] at he; cases he
     | true =>
      rw [hpl] at he;simp only [cond_true] at he;obtain ⟨v1, h1, hlen, h2⟩ := J8 he;refine ⟨v1, fin _ (fun g ac w rho hi hv => ?_), h1⟩;rw [hg] at hv;obtain ⟨hlt, ad, cap, S, h3, h4⟩ := PH (z := zOf g rho h w) hv hb e;have hsim := hi.sim b _ h3;rw [hb] at hsim;obtain ⟨A1, cap1, S1, k1, k2, _⟩ := hsim;cases k1;obtain ⟨A2, cap2, m1, m2, m3⟩ := k2;simp only [List.cons.injEq, and_true, Value.slice.injEq] at m1;obtain ⟨rfl, _, rfl⟩ := m1;simp only [Bool.and_self, if_true] at m3;obtain ⟨hsp, inner, S', _, m5, m6⟩ := m3;have m7 : Ye (TR (fun k => (zOf g rho h w).im k ∨ k ∈ S') w false a) xs inner [] :=
       Ye.weak (fun k hk => .inl hk) (fun k hk => .inr hk) m6
      have h6 := Ye.get (fun _ _ _ hr => hr.len) i m7 hy;have hvl := (h6.cells_V (z := ⟨fun k => (zOf g rho h w).im k ∨ k ∈ S', w, rho, h⟩)).cut off ty.size;have hvl' := VL.plain (z' := zOf g rho h w) _ _ hpl hvl;rw [h4];have hrd := ((VS.of_block m5).part (i * a.size) a.size).part off ty.size;exact ⟨_, VW hE ht rfl (hvl.length.symm.trans hlen) hrd, h2 g w rho _ hi hvl'⟩
    | true =>
     rw [hc] at he;simp only [cond_true] at he;obtain ⟨v1, h1, h2⟩ := Zix he;refine ⟨v1, fin _ (fun g ac w rho hi hv => ?_), h1⟩;rw [hg] at hv;obtain ⟨hlt, ad, cap, S, h3, h4⟩ := PH (z := zOf g rho h w) hv hb e;have hsim := hi.sim b _ h3;rw [hb] at hsim;obtain ⟨A1, cap1, S1, k1, k2, _⟩ := hsim;cases k1;obtain ⟨A2, cap2, m1, m2, m3⟩ := k2;simp only [List.cons.injEq, and_true, Value.slice.injEq] at m1;obtain ⟨rfl, _, rfl⟩ := m1;simp only [Bool.and_self, if_true] at m3;obtain ⟨hsp, inner, S', _, m5, m6⟩ := m3;obtain ⟨_, m7⟩ := m6.noUq hc;have h6 := Ye.get (fun _ _ _ hr => hr.len) i m7 hy;obtain ⟨h7, h8⟩ := h2 g w rho _ hi h6;rw [h4];have hrd := ((VS.of_block m5).part (i * a.size) a.size).part off ty.size;exact ⟨_, VW hE ht rfl h8 hrd, h7⟩
   ·cases he
  ·cases he
 ·cases he
end
end Go.Sx
namespace Go.Sx
open Go
section
variable {R : Type} {P : Program} {E : Env} {o : Oper} {gt : Operand → SV} {h : List Blk}
theorem PI {g : G} {rho : Rho} {w : World} {c : List SV} {cs : List Value} {e : TypeId} (hi : Inv g rho h w) (hv : VL (zOf g rho h w) c cs) :
  Inv g (Yk rho h.length (.v w.heap.size)) (h ++ [.vars c]) (Xm w (.cells cs.toArray e (0, 0))) := by
 refine Zcq hi _ _ _ (by simp [D.blks]) (by simp [D.blks]) ?_;exact ⟨w.heap.size, cs, e, rfl, J5, VL.ext (DW hi _ _ _ (by simp [D.blks])) _ _ hv⟩
theorem Zfr {w : World} {a : Act} {rho : Rho} {g : G} {next : Act → World → Prop} {Q : Exit → Act → World → Prop} {v : SV} {nb : Blk} {d : D} {ob : Obj} {cv : Value}
  (hrun : (execOp a.eval o).run P w = .ok (.value cv) (Xm w ob)) (hi : Inv g rho h w) (hd : ∀ k ∈ d.blks, k = w.heap.size)
  (hinv : Inv g (Yk rho h.length d) (h ++ [nb]) (Xm w ob)) (hv : V (zOf g (Yk rho h.length d) (h ++ [nb]) (Xm w ob)) v cv)
  (hn : ∀ (cv : Value) (w' : World) (rho' : Rho), Inv g rho' (h ++ [nb]) w' → V (zOf g rho' (h ++ [nb]) w') v cv → Ext (zOf g rho h w) (zOf g rho' (h ++ [nb]) w') → next (a.put o.dst cv) w') :
  o.wp P a w next Q := by
 unfold Oper.wp;rw [hrun];exact hn cv _ _ hinv hv (DW hi _ _ _ hd)
theorem Z7 {rho : Rho} {b : Nat} {d : D} : Yk rho b d b = some d := by simp [Yk]
theorem ZmN (hE : EnvOk0 P E) {t : TypeId} {ty : Ty} (ho : o.op = .alloc t) (ht : E.ty t = some ty) : Z2 P o gt h (.ptr h.length 0) (h ++ [.vars (Vi ty)]) := by
 intro g a w rho hi hv next Q hn
 obtain ⟨inf, d, h1, h2, h3, _⟩ := LK hE ht;have hz : VL (zOf g rho h w) (Vi ty) (Zp ty) := HI ty;have hcells : (mkV ty (Zp ty)).cells = (Zp ty).toArray := by
  have := (Z0 (im := fun _ => False) (w := w) (o := false) ty).cells;exact Array.toList_inj.1 (by simpa using this)
 refine Zfr (d := .v w.heap.size) (cv := .pointer (some ⟨w.heap.size, 0, none⟩)) (ob := .cells (Zp ty).toArray t (0, 0)) ?_ hi (by simp [D.blks]) (PI hi hz) ?_ hn
 ·unfold execOp
  rw [ho];dsimp only;show ((Instr.alloc t true (.tuple #[]) >>= fun v => _) : Sem Next).run P w = _;have : (Instr.alloc t true (.tuple #[])).run P w = .ok (.pointer (some ⟨w.heap.size, 0, none⟩)) (Xm w (.cells (Zp ty).toArray t (0, 0))) := by
   unfold Instr.alloc;rw [run_bind_ok (run_zeroValue h1 h3)];show ((newVar t (mkV ty (Zp ty)) >>= fun v => _) : Sem Value).run P w = _;rw [run_bind_ok Zcs, hcells];rfl
  rw [run_bind_ok this];rfl
 ·exact ZmM (z := zOf g _ (h ++ [Blk.vars (Vi ty)]) _) (cells := Vi ty) (show nth (h ++ [Blk.vars (Vi ty)]) h.length = _ from XJ _ _) Z7
theorem ZpF {t : TypeId} {x : Operand} {c : List SV} (ho : o.op = .box t x) (hf : ZaA (gt x) = some c) : Z2 P o gt h (.ptr h.length 0) (h ++ [.vars c]) := by
 intro g a w rho hi hv next Q hn
 have hx := hv x (by rw [ho]; simp [Op.operands]);obtain ⟨h1, h2⟩ := BW hx hf;refine Zfr (d := .v w.heap.size) (cv := .pointer (some ⟨w.heap.size, 0, none⟩)) (ob := .cells (a.eval x).cells t (0, 0)) ?_ hi (by simp [D.blks]) ?_ ?_ hn
 ·unfold execOp
  rw [ho];rfl
 ·have := PI (e := t) hi h1
  simpa using this
 ·exact ZmM (z := zOf g _ (h ++ [Blk.vars c]) _) (cells := c) (show nth (h ++ [Blk.vars c]) h.length = _ from XJ _ _) Z7
theorem Zjs {x : Operand} {i : Nat} {l : List SV} {v : SV} (ho : o.op = .extract x i) (hx : gt x = .tup l) (hl : nth l i = some v) : Z2 P o gt h v h := by
 refine YC (fun rho => Instr.extract (rho x) i) (fun rho => by unfold execOp; rw [ho]) (fun g a w rho hi hv => ?_);have hv := hv x (by rw [ho]; simp [Op.operands]);rw [hx] at hv;simp only [V] at hv;obtain ⟨cs, h1, h2⟩ := hv;obtain ⟨u, h3, h4⟩ := VL.get h2 hl;refine ⟨u, ?_, h4⟩;rw [h1];unfold Instr.extract;simp only [List.getElem?_toArray, h3];rfl
theorem Zhz {x : Operand} {K : SV → Option R} {r : R} (ho : o.op = .nilCheck x) (he : Vm h (gt x) K = some r) : ∃ v, Z2 P o gt h v h ∧ K v = some r := by
 have key : (∀ (g : G) (a : Act) (w : World) (rho : Rho), Inv g rho h w → V (zOf g rho h w) (gt x) (a.eval x) → ∃ ad, a.eval x = .pointer (some ad)) → Z2 P o gt h (gt x) h := by
  intro hk;refine QE (fun g a w rho hi hv => ?_);have hv := hv x (by rw [ho]; simp [Op.operands]);obtain ⟨ad, had⟩ := hk g a w rho hi hv;refine ⟨a.eval x, w, Zhj.refl w, ?_, hv⟩;unfold execOp;rw [ho];dsimp only;rw [had];rfl
 unfold Vm at he
 split at he
 ·rename_i b off hg
  split at he
  ·rename_i c hb
   refine ⟨gt x, key (fun g a w rho hi hv => ?_), he⟩;rw [hg] at hv;obtain ⟨blk, _, h2⟩ := Zhx (z := zOf g rho h w) hv hb;exact ⟨_, h2⟩
  ·cases he
 ·rename_i t y off hg
  refine ⟨gt x, key (fun g a w rho hi hv => ?_), he⟩;rw [hg] at hv;simp only [V] at hv;obtain ⟨ad, cs, h1, _⟩ := hv;exact ⟨_, h1⟩
 ·rename_i b v i off hg
  split at he
  ·rename_i v' a xs hb
   split at he
   ·rename_i e
    refine ⟨gt x, key (fun g a w rho hi hv => ?_), he⟩;rw [hg] at hv;obtain ⟨_, ad, cap, S, _, h2⟩ := PH (z := zOf g rho h w) hv hb e;exact ⟨_, h2⟩
   ·cases he
  ·cases he
 ·cases he
theorem ZkO {z : Z} {ev : Operand → Value} : ∀ {l : List Operand}, (∀ x ∈ l, V z (gt x) (ev x)) → VL z (l.map gt) (l.map ev)
 | [], _ => by simp [VL]
 | x :: l, hv => by
  simp only [List.map_cons, VL];exact ⟨_, _, rfl, hv x (by simp), ZkO (fun y hy => hv y (by simp [hy]))⟩
theorem ZhA {f : FuncId} {fs cs : Array Operand} (ho : o.op = .makeFunc (.func f) fs cs) (hf : fs.toList.isEmpty = true) : Z2 P o gt h (.fn f (cs.toList.map gt)) h := by
 have hfs : fs = #[] := by
  rw [← Array.toList_inj];simpa using hf
 subst hfs;refine QE (fun g a w rho hi hv => ⟨.func (.func f) #[] (cs.toList.map a.eval).toArray, w, Zhj.refl w, ?_, ?_⟩)
 ·unfold execOp
  rw [ho];dsimp only;have : (cs.toList.map a.eval).toArray = cs.map a.eval := by rw [← Array.toList_inj]; simp
  rw [this, show Array.map a.eval #[] = #[] by simp];rfl
 ·simp only [V]
  exact ⟨_, rfl, ZkO (fun x hx => hv x (by rw [ho]; simp only [Op.operands, Array.empty_append]; exact hx))⟩
theorem ZpG {c : Call} {x y : Operand} {k k' : IntKind} {m n : Int} (ho : o.op = .call c) (ha : c.args.toList = [x, y]) (hx : asI (gt x) = some (k, m)) (hy : asI (gt y) = some (k', n)) :
  (c.callee = .builtin .max → Z2 P o gt h (.val (.int k) (max m n)) h) ∧ (c.callee = .builtin .min → Z2 P o gt h (.val (.int k) (min m n)) h) := by
 have ea : c.args = #[x, y] := by rw [← Array.toList_inj, ha]
 have hops : ∀ b, c.callee = .builtin b → x ∈ o.op.operands.toList ∧ y ∈ o.op.operands.toList := by
  intro b hb;rw [ho]; simp [Op.operands, Call.operands, hb, ha]
 constructor
 ·intro hc
  refine YC (fun rho => Builtin.max_ c.argTypes o.type #[rho x, rho y]) (XT ho hc _ (fun rho l => by rw [ea, show (#[x, y].map rho) = #[rho x, rho y] by simp]; rfl)) (fun g a w rho hi hv => ?_);rw [QF (hv x (hops _ hc).1) hx, QF (hv y (hops _ hc).2) hy];refine ⟨.int k (max m n), ?_, KV _ _⟩;show (pure (Value.int k (if n > m then n else m)) : Sem Value).run P w = _;rw [run_pure];congr 2
  split <;> omega
 ·intro hc
  refine YC (fun rho => Builtin.min_ c.argTypes o.type #[rho x, rho y]) (XT ho hc _ (fun rho l => by rw [ea, show (#[x, y].map rho) = #[rho x, rho y] by simp]; rfl)) (fun g a w rho hi hv => ?_);rw [QF (hv x (hops _ hc).1) hx, QF (hv y (hops _ hc).2) hy];refine ⟨.int k (min m n), ?_, KV _ _⟩;show (pure (Value.int k (if n < m then n else m)) : Sem Value).run P w = _;rw [run_pure];congr 2
  split <;> omega
theorem ZmO (hE : EnvOk0 P E) {t : TypeId} {ty : Ty} (ht : E.ty t = some ty) {cs : List Value} {off : Nat} {w : World} (hl : ((cs.drop off).take ty.size).length = ty.size)
   : (part t cs.toArray off).run P w = .ok (mkV ty ((cs.drop off).take ty.size)) w := by
 obtain ⟨inf, d, h1, h2, _, h4, h5, h6, _⟩ := LK hE ht;unfold part;rw [run_bind_ok (run_isAgg h4), h5];cases ha : ty.isAgg with
 | true =>
  simp only [if_true];rw [run_bind_ok (run_sizeOf h1), h2];simp only [mkV, ha, if_true];rw [run_pure];congr 2;rw [← Array.toList_inj];simp [List.extract_eq_take_drop]
 | false =>
  simp only [Bool.false_eq_true, if_false];have hs := VT ha;rw [hs] at hl ⊢
  match hm : (cs.drop off).take 1, hl with
  | [c], _ =>
   have hc : cs[off]? = some c := by
    have : ((cs.drop off).take 1)[0]? = some c := by rw [hm]; rfl
    simpa using this
   simp only [mkV, ha, Bool.false_eq_true, if_false, List.headD_cons];simp only [List.getElem?_toArray, hc];rfl
theorem Zjt {z : Z} {v : SV} {c : Value} {d : List SV} (hv : V z v c) (hf : Zhp v = some d) : ∃ cs : List Value, c = .agg cs.toArray ∧ VL z d cs ∧ Yt d = true := by
 unfold Zhp at hf
 split at hf
 ·rename_i t x
  cases ha : t.isAgg with
  | false => rw [ha] at hf; cases hf
  | true =>
   rw [ha] at hf;simp only [cond_true, Option.some.injEq] at hf;subst hf;simp only [V] at hv;obtain ⟨cs, m1, m2⟩ := hv;simp only [mkV, ha, if_true] at m2;exact ⟨cs, m2, m1.cells_V, V9 _ _⟩
 ·rename_i l
  cases ha : Yt l with
  | false => rw [ha] at hf; cases hf
  | true =>
   rw [ha] at hf;simp only [cond_true, Option.some.injEq] at hf;subst hf;simp only [V] at hv;obtain ⟨cs, m1, m2⟩ := hv;exact ⟨cs, m1, m2, ha⟩
 ·cases hf
theorem ZmP (hE : EnvOk0 P E) {t : TypeId} {x : Operand} {n : Nat} {K : SV → Option R} {r : R} (ho : o.op = .field t x n)
  (he : Ps E h t (gt x) n K = some r) : ∃ v, Z2 P o gt h v h ∧ K v = some r := by
 unfold Ps at he
 split at he
 ·rename_i ty bs fs hi
  unfold fieldAt at he
  split at he
  ·rename_i off ft hn
   dsimp only at he
   split at he
   ·rename_i fty c hft hc
    cases hl : Nat.beq c.length ty.size with
    | false => rw [hl] at he; cases he
    | true =>
     rw [hl] at he;simp only [cond_true] at he;obtain ⟨v, h1, h2, h3⟩ := J8 he;refine ⟨v, YC (fun rho => Instr.field t (rho x) n) (fun rho => by unfold execOp; rw [ho]) (fun g a w rho hi' hv => ?_), h1⟩;have hv := hv x (by rw [ho]; simp [Op.operands]);obtain ⟨cs, m1, h4, h5⟩ := Zjt hv hc;obtain ⟨fields, k1, k2, k3, k4⟩ := FQ hE hi;obtain ⟨fd, k5, k6, k7⟩ := PG k2 hn;rw [m1];refine ⟨mkV fty ((cs.drop off).take fty.size), ?_, h3 g w rho _ hi' (h4.cut off fty.size)⟩;unfold Instr.field;rw [run_bind_ok (run_underlying k1)];dsimp only;rw [k5];dsimp only;show ((pure cs.toArray >>= fun a => part fd.type a fd.offset) : Sem Value).run P w = _;rw [run_bind_ok (run_pure P _ _), k6, k7];exact ZmO hE hft (by rw [← (h4.cut off fty.size).length]; exact h2)
   ·cases he
  ·cases he
 ·cases he
end
end Go.Sx
namespace Go.Sx
open Go
structure Zks (rho : Rho) (h : List Blk) (w : World) (b : Nat) (d0 d1 : D) (nb : Blk) (w' : World) : Prop where
 at0 : rho b = some d0
 live0 : live (nth h b)
 live1 : live (some nb)
 size : w.heap.size ≤ w'.heap.size
 same : ∀ k, k < w.heap.size → k ∉ d0.blks → w'.heap[k]? = w.heap[k]?
 sub : ∀ k ∈ d1.blks, k ∈ d0.blks ∨ (w.heap.size ≤ k ∧ k < w'.heap.size)
 nodup : d1.blks.Nodup
 le : ZX (some d0) (some d1) (nth h b) (some nb)
 frz : Frz w w'
theorem Zks.some {rho : Rho} {h : List Blk} {w w' : World} {b : Nat} {d0 d1 : D} {nb : Blk} (t : Zks rho h w b d0 d1 nb w') : ∃ ob, nth h b = some ob := by
 have := t.live0;cases hx : nth h b with
 | none => rw [hx] at this; exact this.elim
 | some x => exact ⟨x, rfl⟩
theorem UZ {g : G} {rho : Rho} {h : List Blk} {w w' : World} {b : Nat} {d0 d1 : D} {nb : Blk} (t : Zks rho h w b d0 d1 nb w') :
  Ext (zOf g rho h w) (zOf g (Yk rho b d1) (upd h b nb) w') where
 im := fun k hk => by
  have hno : k ∉ d0.blks := fun hc => hk.2.2 ⟨b, d0, t.at0, t.live0, hc⟩;refine ⟨⟨hk.1, Nat.lt_of_lt_of_le hk.2.1 t.size, ?_⟩, t.same k hk.2.1 hno⟩
  rintro ⟨b', d', h1, h2, h3⟩
  by_cases e : b' = b
  ·subst e
   simp only [Yk, if_pos] at h1;cases h1;rcases t.sub k h3 with h4 | h4
   ·exact hno h4
   ·have := hk.2.1; omega
  ·simp only [Yk, if_neg e] at h1
   rw [ZM (Ne.symm e)] at h2;exact hk.2.2 ⟨b', d', h1, h2, h3⟩
 le := fun b' => by
  show ZX (rho b') (Yk rho b d1 b') (nth h b') (nth (upd h b nb) b')
  by_cases e : b' = b
  ·subst e
   obtain ⟨ob, hob⟩ := t.some;rw [ZW hob];simp only [Yk, if_pos];rw [t.at0];exact t.le
  ·rw [ZM (Ne.symm e)]
   simp only [Yk, if_neg e];exact ZX.refl _ _
theorem Kh {g : G} {rho : Rho} {h : List Blk} {w w' : World} {b : Nat} {d0 d1 : D} {nb : Blk} (hi : Inv g rho h w) (t : Zks rho h w b d0 d1 nb w')
  (hs : Ev (zOf g (Yk rho b d1) (upd h b nb) w') d1 (some nb)) : Inv g (Yk rho b d1) (upd h b nb) w' := by
 obtain ⟨ob, hob⟩ := t.some;have he := UZ (g := g) t;have old : ∀ b' d', Yk rho b d1 b' = some d' → live (nth (upd h b nb) b') → (b' = b ∧ d' = d1) ∨ (b' ≠ b ∧ rho b' = some d' ∧ live (nth h b')) := by
  intro b' d' h1 h2
  by_cases e : b' = b
  ·subst e; simp only [Yk, if_pos] at h1; cases h1; exact .inl ⟨rfl, rfl⟩
  ·simp only [Yk, if_neg e] at h1
   rw [ZM (Ne.symm e)] at h2;exact .inr ⟨e, h1, h2⟩
 have dis : ∀ b' d', b' ≠ b → rho b' = some d' → live (nth h b') → ∀ k ∈ d'.blks, k ∉ d0.blks := fun b' d' hne h1 h2 k hk =>
  hi.disj b' b d' d0 h1 t.at0 h2 t.live0 hne k hk
 refine ⟨?_, ?_, ?_, ?_, ?_, PA.ext (z := zOf g rho h w) hi.tab he⟩
 ·intro b' d' h1
  by_cases e : b' = b
  ·subst e
   simp only [Yk, if_pos] at h1;cases h1;rw [ZW hob];exact hs
  ·simp only [Yk, if_neg e] at h1
   rw [ZM (Ne.symm e)];refine (hi.sim b' d' h1).ext he (fun hl k hk => ?_);exact t.same k (hi.range b' d' h1 hl k hk).1 (dis b' d' e h1 hl k hk)
 ·intro b1 b2 e1 e2 h1 h2 l1 l2 hne k hk hk2
  rcases old b1 e1 h1 l1 with ⟨f1, f2⟩ | ⟨f1, f2, f3⟩ <;> rcases old b2 e2 h2 l2 with ⟨g1, g2⟩ | ⟨g1, g2, g3⟩
  ·exact hne (f1.trans g1.symm)
  ·subst f2
   rcases t.sub k hk with h4 | h4
   ·exact dis b2 e2 g1 g2 g3 k hk2 h4
   ·have := (hi.range b2 e2 g2 g3 k hk2).1; omega
  ·subst g2
   rcases t.sub k hk2 with h4 | h4
   ·exact dis b1 e1 f1 f2 f3 k hk h4
   ·have := (hi.range b1 e1 f2 f3 k hk).1; omega
  ·exact hi.disj b1 b2 e1 e2 f2 g2 f3 g3 hne k hk hk2
 ·intro b1 e1 h1 l1
  rcases old b1 e1 h1 l1 with ⟨_, f2⟩ | ⟨_, f2, f3⟩
  ·subst f2; exact t.nodup
  ·exact hi.nodup b1 e1 f2 f3
 ·intro b1 e1 h1 l1 k hk
  rcases old b1 e1 h1 l1 with ⟨_, f2⟩ | ⟨_, f2, f3⟩
  ·subst f2
   rcases t.sub k hk with h4 | h4
   ·have := hi.range b d0 t.at0 t.live0 k h4; exact ⟨Nat.lt_of_lt_of_le this.1 t.size, this.2⟩
   ·exact ⟨h4.2, .inr (Nat.le_trans hi.kept.1 h4.1)⟩
  ·have := hi.range b1 e1 f2 f3 k hk; exact ⟨Nat.lt_of_lt_of_le this.1 t.size, this.2⟩
 ·refine ⟨Nat.le_trans hi.kept.1 t.size, fun k hk hn => ?_, hi.kept.3.trans t.frz⟩
  have hlt := Nat.lt_of_lt_of_le hk hi.kept.1;refine (t.same k hlt (fun hc => ?_)).trans (hi.kept.2 k hk hn);rcases (hi.range b d0 t.at0 t.live0 k hc).2 with h4 | h4
  ·exact hn h4
  ·omega
section
variable {R : Type} {P : Program} {E : Env} {o : Oper} {gt : Operand → SV} {h : List Blk}
theorem VL.put1 {z : Z} {c d : List SV} {cs ds : List Value} (hc : VL z c cs) (hd : VL z d ds) {off : Nat} : VL z (QA c off d) (put1 cs off ds) := by
 unfold QA Sx.put1;rw [hd.length];exact ((hc.take off).append hd).append (hc.drop _)
theorem FR (hE : EnvOk0 P E) {t : TypeId} {ty : Ty} (ht : E.ty t = some ty) {ad : Addr} (hs : ad.spot = none) {all ds : List Value} {e : TypeId} {c : Value} {w : World}
  (hb : w.heap[ad.block]? = some (.cells all.toArray e (0, 0))) (hc : c.cells.toList = ds) (hl : ds.length = ty.size) (hr : ad.off + ds.length ≤ all.length) (h1 : ∀ c ∈ ds, one c = true) :
  (Instr.storeAt t (.pointer (some ad)) c).run P w = .ok () (Yb w ad.block (.cells (put1 all ad.off ds).toArray e (0, 0))) := by
 obtain ⟨inf, d, k1, k2, _, k4, k5, k6, _⟩ := LK hE ht;unfold Instr.storeAt;show ((Instr.sureAddr (.pointer (some ad)) >>= fun a => _) : Sem Unit).run P w = _;rw [run_bind_ok (a := ad) (w' := w) rfl];unfold storeVar;have hsz : c.cells.size = inf.size := by rw [k2, ← hl, ← hc]; simp
 show ((sizeOf t >>= fun n => _) : Sem Unit).run P w = _;rw [run_bind_ok (run_sizeOf k1)];rw [if_neg (by simpa using hsz)];have hne : ds ≠ [] := by intro e; rw [e] at hl; simp at hl; omega
 rw [hc];have := WL (P := P) hs rfl ds 0 w all hb (by simpa using hr) h1;rw [if_neg hne] at this;simpa using this
theorem DY (ho : ∃ t x y, o.op = .store t x y ∧ True) {a : Act} {w w' : World} {next : Act → World → Prop} {Q : Exit → Act → World → Prop}
  (hrun : ∀ t x y, o.op = .store t x y → (Instr.storeAt t (a.eval x) (a.eval y)).run P w = .ok () w') (hn : next (a.put o.dst undef) w') : o.wp P a w next Q := by
 obtain ⟨t, x, y, ho, _⟩ := ho;unfold Oper.wp;have : (execOp a.eval o).run P w = .ok .skip w' := by
  unfold execOp;rw [ho];dsimp only;show ((Instr.storeAt t (a.eval x) (a.eval y) >>= fun _ => pure .skip) : Sem Next).run P w = _;rw [run_bind_ok (hrun t x y ho)];rfl
 rw [this];exact hn
theorem Zfs {l : List Nat} {b : Nat} (h : (l.any (Nat.beq b)) = false) : b ∉ l := by
 intro hm;have : l.any (Nat.beq b) = true := List.any_eq_true.2 ⟨b, hm, by simp⟩;rw [this] at h;cases h
theorem FS {g : G} {rho : Rho} {w : World} (hi : Inv g rho h w) {rs : List Nat} {k : Nat} (hk : QC (zOf g rho h w) true rs k) :
  Im g rho (UM h rs) w k := by
 rcases hk with hk | ⟨_, r, h1, d, h2, h3, h4⟩
 ·exact ((J3 rs h).im k hk).1
 ·have hr := hi.range r d h2 h3 k h4
  refine ⟨?_, hr.1, ?_⟩
  ·rcases hr.2 with h5 | h5
   ·exact .inr (.inl h5)
   ·exact .inr (.inr h5)
  ·rintro ⟨b', d', k1, k2, k3⟩
   by_cases e : b' = r
   ·subst e; exact Ji rs h h1 k2
   ·have hl : live (nth h b') := by
     by_cases hm : b' ∈ rs
     ·exact absurd k2 (Ji rs h hm)
     ·rw [Kg rs h hm] at k2; exact k2
    exact hi.disj b' r d' d k1 h2 hl h3 e k k3 h4
theorem Ye.upd {α : Type} {R : α → List Value → List Nat → Prop} {n : Nat} (hn : ∀ x c S, R x c S → c.length = n) {y' : α} {c' : List Value} (hy' : R y' c' []) :
  ∀ (i : Nat) {xs : List α} {cs : List Value}, Ye R xs cs [] → i < xs.length → Ye R (Sx.upd xs i y') (Sx.put1 cs (i * n) c') []
 | i, [], _, _, h => by simp at h
 | 0, x :: xs, cs, ⟨c1, c2, S1, S2, h1, h2, h3, h4⟩, _ => by
  have e : S1 = [] ∧ S2 = [] := by have := h2.symm; simpa using this
  obtain ⟨rfl, rfl⟩ := e;subst h1;have hl := hn _ _ _ h3;have hl' := hn _ _ _ hy';refine ⟨c', c2, [], [], ?_, rfl, hy', h4⟩;simp [Sx.put1, hl', ← hl]
 | i + 1, x :: xs, cs, ⟨c1, c2, S1, S2, h1, h2, h3, h4⟩, h => by
  have e : S1 = [] ∧ S2 = [] := by have := h2.symm; simpa using this
  obtain ⟨rfl, rfl⟩ := e;subst h1;have hl := hn _ _ _ h3;have := Ye.upd hn hy' i h4 (by simpa using h);refine ⟨c1, _, [], [], ?_, rfl, h3, this⟩;have e1 : (i + 1) * n = c1.length + i * n := by rw [hl, Nat.add_mul]; omega
  simp only [Sx.put1, e1, List.take_append, List.drop_append];rw [List.take_of_length_le (Nat.le_add_right _ _), List.drop_eq_nil_of_le (by omega)];simp [Nat.add_assoc]
theorem ZkP {cs ds : List Value} {o off n : Nat} (h : off + ds.length ≤ n) (hl : o + n ≤ cs.length) : put1 cs o (put1 ((cs.drop o).take n) off ds) = put1 cs (o + off) ds := by
 have hc : ((cs.drop o).take n).length = n := by simp; omega
 have hp : (put1 ((cs.drop o).take n) off ds).length = n := by rw [Wi (by omega), hc]
 apply List.ext_getElem?;intro k;rw [XK (all := cs) (o := o) (cs := put1 ((cs.drop o).take n) off ds) (by omega) k, XK (all := cs) (o := o + off) (cs := ds) (by omega) k, hp]
 by_cases h1 : k < o
 ·rw [if_pos h1, if_pos (by omega)]
 ·rw [if_neg h1]
  by_cases h2 : k < o + n
  ·rw [if_pos h2, XK (all := (cs.drop o).take n) (o := off) (cs := ds) (by omega) (k - o)]
   by_cases h3 : k - o < off
   ·rw [if_pos h3, if_pos (by omega), List.getElem?_take, if_pos (by omega), List.getElem?_drop]
    congr 1; omega
   ·rw [if_neg h3, if_neg (show ¬ k < o + off by omega)]
    by_cases h4 : k - o < off + ds.length
    ·rw [if_pos h4, if_pos (show k < o + off + ds.length by omega)]; congr 1; omega
    ·rw [if_neg h4, if_neg (show ¬ k < o + off + ds.length by omega), List.getElem?_take, if_pos (by omega), List.getElem?_drop]
     congr 1; omega
  ·rw [if_neg h2, if_neg (show ¬ k < o + off by omega), if_neg (show ¬ k < o + off + ds.length by omega)]
theorem X5.put {w : World} {ad : Addr} {n o : Nat} {cs ds : List Value} (h : X5 w ad n cs) (ho : o + ds.length ≤ cs.length) (hn : cs.length ≤ n) :
  ∃ all e, w.heap[ad.block]? = some (.cells (all : List Value).toArray e (0, 0)) ∧ ad.off + o + ds.length ≤ all.length ∧
   X5 (Yb w ad.block (.cells (put1 all (ad.off + o) ds).toArray e (0, 0))) ad n (put1 cs o ds) := by
 obtain ⟨all, e, h1, h2, h3⟩ := h;have hsz : all.toList.length = all.size := by simp
 refine ⟨all.toList, e, by rw [h1], by omega, (put1 all.toList (ad.off + o) ds).toArray, e, UY h1, ?_, ?_⟩
 ·simp only [List.size_toArray]; rw [Wi (by omega)]; omega
 ·intro j c hj
  simp only [List.getElem?_toArray];rw [XK (by omega)] at hj;rw [XK (by omega)]
  by_cases k1 : j < o
  ·rw [if_pos k1] at hj
   rw [if_pos (by omega)];have := h3 j c hj;simpa using this
  ·rw [if_neg k1] at hj
   by_cases k2 : j < o + ds.length
   ·rw [if_pos k2] at hj
    rw [if_neg (by omega), if_pos (by omega)];rw [← hj]; congr 1; omega
   ·rw [if_neg k2] at hj
    rw [if_neg (by omega), if_neg (by omega)];have := h3 j c hj;simpa using this
theorem BY : ∀ (t : Ty) (x : t.den), (cellsOf t x).flatMap Qx = []
 | .int _, _ => rfl
 | .bool, _ => rfl
 | .str, _ => rfl
 | .unit, _ => rfl
 | .pair a b, x => by simp only [cellsOf, List.flatMap_append, BY a x.1, BY b x.2]; rfl
 | .sl _ _, _ => rfl
theorem ZhB {c d : List SV} {off : Nat} (hc : c.flatMap Qx = []) {r : Nat} (hr : r ∈ (QA c off d).flatMap Qx) : r ∈ d.flatMap Qx := by
 have hn : ∀ y ∈ c, Qx y = [] := fun y hy => by
  have := List.flatMap_eq_nil_iff.1 hc y hy;exact this
 simp only [QA, List.flatMap_append, List.mem_append] at hr;rcases hr with (hr | hr) | hr
 ·obtain ⟨y, h1, h2⟩ := List.mem_flatMap.1 hr
  rw [hn y (List.mem_of_mem_take h1)] at h2; cases h2
 ·exact hr
 ·obtain ⟨y, h1, h2⟩ := List.mem_flatMap.1 hr
  rw [hn y (List.mem_of_mem_drop h1)] at h2; cases h2
theorem ZhC {c d : List SV} {off : Nat} (h : (QA c off d).length = c.length) (hd : 0 < d.length) : off + d.length ≤ c.length := by
 simp [QA] at h;omega
theorem ZhD {deep : Bool} {hh : List Blk} : ∀ {t : Ty} {l l' : List SV} {x : t.den}, Zfg deep hh t l = some (x, l') → l.length = t.size + l'.length := by
 intro t;have XE : ∀ {t : Ty} {l l' : List SV} {x : t.den}, Ej deep hh t l = some (x, l') → l.length = 1 + l'.length := by
  intro t l l' x hp;unfold Ej at hp;cases l with
  | nil => cases hp
  | cons c r =>
   simp only at hp
   split at hp
   ·simp only [Option.some.injEq, Prod.mk.injEq] at hp
    obtain ⟨_, rfl⟩ := hp
    simp; omega
   ·cases hp
 induction t with
 | int k => intro l l' x hp; exact XE hp
 | bool => intro l l' x hp; exact XE hp
 | str => intro l l' x hp; exact XE hp
 | unit =>
  intro l l' x hp;simp only [Zfg, Option.some.injEq, Prod.mk.injEq] at hp;rw [hp.2]; simp [Ty.size]
 | pair a b iha ihb =>
  intro l l' x hp;simp only [Zfg] at hp
  split at hp
  ·rename_i xa la ha
   split at hp
   ·rename_i xb lb hb
    simp only [Option.some.injEq, Prod.mk.injEq] at hp;obtain ⟨_, rfl⟩ := hp;have := iha ha;have := ihb hb;simp only [Ty.size]; omega
   ·cases hp
  ·cases hp
 | sl u a _ => intro l l' x hp; exact XE hp
theorem ZaF {deep : Bool} {hh : List Blk} {t : Ty} {l : List SV} {x : t.den} (hp : UB deep hh t l = some x) : l.length = t.size := by
 unfold UB at hp
 split at hp
 ·rename_i y hy
  have := ZhD hy;simpa using this
 ·cases hp
theorem ZdP (hE : EnvOk0 P E) {t : TypeId} {ty : Ty} {p x : Operand} {K : List Blk → Option R} {r : R} (ho : o.op = .store t p x) (ht : E.ty t = some ty)
  (he : MX h ty (gt p) (gt x) K = some r) : ∃ h', Z2 P o gt h (.tup []) h' ∧ K h' = some r := by
 have hp1 : p ∈ o.op.operands.toList := by rw [ho]; simp [Op.operands]
 have hx1 : x ∈ o.op.operands.toList := by rw [ho]; simp [Op.operands]
 unfold MX at he
 split at he
 ·cases he
 ·rename_i d hd
  cases hl : Nat.beq d.length ty.size with
  | false => rw [hl] at he; cases he
  | true =>
   rw [hl] at he;simp only [cond_true] at he;have hlen := Nat.eq_of_beq_eq_true hl
   split at he
   ·rename_i b off hg
    split at he
    ·rename_i c hb
     cases hle : Nat.ble (off + d.length) c.length with
     | false => rw [hle] at he; cases he
     | true =>
      rw [hle] at he;simp only [cond_true] at he;have hle := Nat.le_of_ble_eq_true hle;refine ⟨_, fun g a w rho hi hv next Q hn => ?_, he⟩;have hvp := hv p hp1;rw [hg] at hvp;obtain ⟨blk, h1, h2⟩ := Zhx (z := zOf g rho h w) hvp hb;obtain ⟨h3, h4⟩ := BW (hv x hx1) hd;have hsim := hi.sim b _ h1;rw [hb] at hsim;obtain ⟨blk', cs, e, k1, k2, k3⟩ := hsim;cases k1;have hds := h3.length;have hcs := k3.length;have hblt : blk < w.heap.size := by
       have := (hi.range b _ h1 (by rw [hb]; trivial) blk (by simp [D.blks])).1;exact this
      have T : Zks rho h w b (.v blk) (.v blk) (.vars (QA c off d)) (Yb w blk (.cells (put1 cs off (a.eval x).cells.toList).toArray e (0, 0))) := {
       at0 := h1
       live0 := by rw [hb]; trivial
       live1 := trivial
       size := by rw [Ww]; exact Nat.le_refl _
       same := fun k hk hnk => WY (by simpa [D.blks] using hnk)
       sub := fun k hk => .inl hk
       nodup := by simp [D.blks]
       le := by rw [hb]; exact ZX.vars
       frz := LH }
      have hext := UZ (g := g) T;have hinv := Kh hi T ⟨blk, _, e, rfl, UY k2, VL.ext hext _ _ (k3.put1 h3)⟩;refine DY ⟨t, p, x, ho, trivial⟩ (fun t' x' y' ho' => ?_) (hn undef _ _ hinv FO hext);rw [ho] at ho';cases ho';rw [h2];exact FR (ad := ⟨blk, off, none⟩) hE ht rfl k2 rfl (by rw [← hds]; exact hlen) (by rw [← hds, ← hcs]; exact hle) (VL.one h3 h4)
    ·cases he
   ·rename_i b v i off hg
    split at he
    ·rename_i v' a xs hb
     split at he
     ·rename_i e
      subst e;obtain ⟨y, hy, he⟩ := bind_some he
      split at he
      ·rename_i y' hpk
       cases hcond : (a.noUq && !((VN (.agg d)).any (Nat.beq b))) with
       | false => rw [hcond] at he; cases he
       | true =>
        rw [hcond] at he;simp only [cond_true] at he;obtain ⟨xs', hxs', he⟩ := bind_some he;cases Pn hxs';simp only [Bool.and_eq_true, Bool.not_eq_true'] at hcond;obtain ⟨hno, hnb⟩ := hcond;have hnb := Zfs hnb;refine ⟨_, fun g ac w rho hi hv next Q hn => ?_, he⟩;have hvp := hv p hp1;rw [hg] at hvp;obtain ⟨hlt, ad, cap, S, h1, h2⟩ := PH (z := zOf g rho h w) hvp hb rfl;obtain ⟨h3, h4⟩ := BW (hv x hx1) hd;have hsim := hi.sim b _ h1;rw [hb] at hsim;obtain ⟨A1, cap1, S1, k1, k2, kpos⟩ := hsim;cases k1;obtain ⟨A2, cap2, m1, m2, m3⟩ := k2;simp only [List.cons.injEq, and_true, Value.slice.injEq] at m1;obtain ⟨rfl, _, rfl⟩ := m1;simp only [Bool.and_self, if_true] at m3;obtain ⟨hsp, inner, S', mS, m5, m6⟩ := m3;obtain ⟨mS', m7⟩ := m6.noUq hno;subst mS';have hin : inner.length = xs.length * a.size := Ye.len (fun _ _ _ hr => hr.len) m7;have hcy := Ye.get (fun _ _ _ hr => hr.len) i m7 hy;have hcyl := hcy.len;have hvl : VL (zOf g rho h w) (QA (cellsOf a y) off d) (put1 ((inner.drop (i * a.size)).take a.size) off (ac.eval x).cells.toList) := (hcy.cells_V (z := zOf g rho h w)).put1 h3;have hty := LG (z := zOf g rho h w) hi.sim hvl hpk;have hsl := ZaF hpk;have hcl : (cellsOf a y).length = a.size := (hcy.cells_V (z := zOf g rho h w)).length.trans hcyl;have hds := h3.length;have hdpos : 0 < d.length := by obtain ⟨_, _, _, _, _, _, _, hp, _⟩ := LK hE ht; omega
        have hfit := ZhC (hsl.trans hcl.symm) hdpos;rw [hcl] at hfit;have hii : i * a.size + a.size ≤ xs.length * a.size := by rw [← Nat.succ_mul]; exact Nat.mul_le_mul_right _ hlt
        have hcapn : inner.length ≤ cap * a.size := by rw [hin]; exact Nat.mul_le_mul_right _ m2
        obtain ⟨all, e, n1, n2, n3⟩ := m5.put (o := i * a.size + off) (ds := (ac.eval x).cells.toList) (by omega) hcapn;have hkb : nth (UM h (VN (.agg d))) b = some (.arr v' a xs) := by rw [Kg _ _ hnb]; exact hb
        have hik := HH (VN (.agg d)) h hi;have hek := J3 (g := g) (rho := rho) (w := w) (VN (.agg d)) h;have hblk : ad.block < w.heap.size := (hi.range b _ h1 (by rw [hb]; trivial) ad.block (by simp [D.blks, mS])).1;have T : Zks rho (UM h (VN (.agg d))) w b (.s (some ad) cap S) (.s (some ad) cap S) (.arr v' a (upd xs i y')) (Yb w ad.block (.cells (put1 all (ad.off + (i * a.size + off)) (ac.eval x).cells.toList).toArray e (0, 0))) := {
         at0 := h1
         live0 := by rw [hkb]; trivial
         live1 := trivial
         size := by rw [Ww]; exact Nat.le_refl _
         same := fun k hk hnk => WY (by intro ek; subst ek; exact hnk (by simp [D.blks, mS]))
         sub := fun k hk => .inl hk
         nodup := hi.nodup b _ h1 (by rw [hb]; trivial)
         le := by rw [hkb]; exact ZX.arr (.inr ⟨rfl, rfl, ZG _ _ _, Kd.refl _⟩)
         frz := LH }
        have hext := UZ (g := g) T;have hinv := Kh hik T (by
         refine ⟨some ad, cap, S, rfl, ?_, kpos⟩;refine ⟨some ad, cap, by rw [ZG], by rw [ZG]; exact m2, ?_⟩;simp only [Bool.and_self, if_true];refine ⟨hsp, _, [], mS, n3, Ye.ofRo hno ?_⟩;have hold : Ye (TR (Im g rho (UM h (VN (.agg d))) w) w false a) xs inner [] := m7.imp (fun y c S1 hs hr => by
          have : S1 = [] := List.eq_nil_iff_forall_not_mem.2 (fun b hb => by simpa using hs b hb);subst this;exact hr.im (fun k hk => (hek.im k hk).1))
         have hnew : TR (Im g rho (UM h (VN (.agg d))) w) w false a y' (put1 ((inner.drop (i * a.size)).take a.size) off (ac.eval x).cells.toList) [] :=
          hty.im (fun k hk => FS hi (QD (fun r hr => ZhB (BY a y) hr) hk))
         have hup := Ye.upd (fun _ _ _ hr => hr.len) hnew i hold hlt;rw [ZkP (by omega) (by omega)] at hup;exact hup.imp (fun y c S1 hs hr => by
          have : S1 = [] := List.eq_nil_iff_forall_not_mem.2 (fun b hb => by simpa using hs b hb);subst this;exact hr.mono hext.im _ _ _ _ _ (by simp)))
        refine DY ⟨t, p, x, ho, trivial⟩ (fun t' x' y2 ho' => ?_) (hn undef _ _ hinv FO (hek.trans hext));rw [ho] at ho';cases ho';rw [h2];have := FR (P := P) (ad := ⟨ad.block, ad.off + i * a.size + off, none⟩) (c := ac.eval x) hE ht rfl n1 rfl (by rw [← hds]; exact hlen) (by simp only; omega) (VL.one h3 h4);simp only [Nat.add_assoc] at this ⊢;exact this
      ·cases he
     ·cases he
    ·cases he
   ·cases he
end
end Go.Sx
