/- Single operations are sound, 6: structs and lists written out or made; what is put behind a list; conversions. -/
import Derived.Test.YtddbjmambkepkaaGreatDoorM2
import Derived.Laws.Tables
import Derived.Laws.MakeOwn
import Derived.Laws.BytesString
set_option linter.unusedVariables false
set_option linter.unusedSimpArgs false
namespace Go.Sx
open Go
section
variable {R : Type} {P : Program} {E : Env} {o : Oper} {gt : Operand → SV} {h : List Blk}
theorem Zft (off : Nat) : ∀ (l : List Value) (k : Nat) (arr : Array Value), off + k + l.length ≤ arr.size →
  (l.zipIdx k).foldl (fun cs p => cs.setIfInBounds (off + p.2) p.1) arr = (put1 arr.toList (off + k) l).toArray
 | [], k, arr, _ => by simp [put1]
 | c :: l, k, arr, hl => by
  simp only [List.length_cons] at hl;simp only [List.zipIdx_cons, List.foldl_cons];rw [Zft off l (k + 1) _ (by simp; omega)];congr 1;apply List.ext_getElem?;intro n;rw [XK (all := (arr.setIfInBounds (off + k) c).toList) (o := off + (k + 1)) (cs := l) (by simp; omega) n, XK (all := arr.toList) (o := off + k) (cs := c :: l) (by simp; omega) n];simp only [Array.toList_setIfInBounds, List.getElem?_set, List.length_cons]
  by_cases h1 : n < off + k
  ·rw [if_pos h1, if_pos (by omega), if_neg (by omega)]
  ·rw [if_neg h1]
   by_cases h2 : n = off + k
   ·subst h2
    rw [if_pos (by omega), if_pos rfl, if_pos (by simp; omega), if_pos (by omega)];simp
   ·rw [if_neg (by omega)]
    by_cases h3 : n < off + (k + 1) + l.length
    ·rw [if_pos h3, if_pos (by omega), show n - (off + k) = (n - (off + (k + 1))) + 1 by omega]
     simp
    ·rw [if_neg h3, if_neg (by omega), if_neg (by omega)]
theorem ZdQ {place : Nat → Option (Nat × Nat)} {cells : Array Value} {i off size : Nat} {v : Value} {rest : List (Nat × Value)} (hp : place i = some (off, size)) (hs : v.cells.size = size) (hf : off + size ≤ cells.size) :
  Instr.fill place cells ((i, v) :: rest) = Instr.fill place (put1 cells.toList off v.cells.toList).toArray rest := by
 rw [Instr.fill, hp];dsimp only;rw [if_neg (by simp [hs]; omega)];congr 1;rw [← Array.foldl_toList, Array.toList_zipIdx];exact Zft off v.cells.toList 0 cells (by simp; omega)
theorem Ziy (hE : EnvOk0 P E) {z : Z} {fs : List (Nat × TypeId)} {place : Nat → Option (Nat × Nat)}
  (hpl : ∀ i off ft fty, nth fs i = some (off, ft) → E.ty ft = some fty → place i = some (off, fty.size)) (ev : Operand → Value) :
  ∀ (l : List (Nat × Operand)) (c c' : List SV) (cs : List Value), (∀ x ∈ l, V z (gt x.2) (ev x.2)) → VL z c cs → Yt c = true → Zku E fs (l.map fun p => (p.1, gt p.2)) c = some c' →
   ∃ cs', Instr.fill place cs.toArray (l.map fun p => (p.1, ev p.2)) = some cs'.toArray ∧ VL z c' cs' ∧ Yt c' = true
 | [], c, c', cs, _, hv, hc, hf => by
  simp only [List.map_nil, Zku, Option.some.injEq] at hf;subst hf;exact ⟨cs, rfl, hv, hc⟩
 | (i, x) :: l, c, c', cs, hx, hv, hc, hf => by
  simp only [List.map_cons, Zku] at hf
  split at hf
  ·cases hf
  ·rename_i off ft hn
   split at hf
   ·rename_i fty d hft hd
    cases hcond : (Nat.beq d.length fty.size && Nat.ble (off + d.length) c.length) with
    | false => rw [hcond] at hf; cases hf
    | true =>
     rw [hcond] at hf;simp only [cond_true] at hf;simp only [Bool.and_eq_true] at hcond;have e1 := Nat.eq_of_beq_eq_true hcond.1;have e2 := Nat.le_of_ble_eq_true hcond.2;obtain ⟨h1, h2⟩ := BW (hx (i, x) (by simp)) hd;have e3 := h1.length;have e4 := hv.length;simp only [List.map_cons];rw [ZdQ (hpl i off ft fty hn hft) (by rw [← e1, e3]; simp) (by simp; omega)];exact Ziy hE hpl ev l _ c' _ (fun y hy => hx y (by simp [hy])) (hv.put1 h1) (Ua (Ua (M3 _ hc) h2) (M4 _ hc)) hf
   ·cases hf
theorem Zfu (hE : EnvOk0 P E) : ∀ (fields : List Field), (∀ f ∈ fields, ∃ fi, E.ti f.type = some fi) →
  ∃ places, fields.mapM (fun f => (P.info? f.type).map fun i => (f.offset, i.size)) = some places ∧ places.length = fields.length ∧
   ∀ (i : Nat) (fd : Field), fields[i]? = some fd → ∀ fty, E.ty fd.type = some fty → places[i]? = some (fd.offset, fty.size)
 | [], _ => ⟨[], by simp, rfl, fun i fd h => by simp at h⟩
 | f :: fields, hf => by
  obtain ⟨fi, hfi⟩ := hf f (by simp);obtain ⟨inf, h1, h2, _⟩ := (hE.ti _ fi hfi).info;obtain ⟨places, h3, h4, h5⟩ := Zfu hE fields (fun g hg => hf g (by simp [hg]));refine ⟨(f.offset, inf.size) :: places, by simp [List.mapM_cons, h1, h3], by simp [h4], fun i fd hi fty hty => ?_⟩;cases i with
  | zero =>
   simp only [List.getElem?_cons_zero, Option.some.injEq] at hi ⊢;subst hi;unfold Env.ty at hty;rw [hfi] at hty;simp only [Option.map_some, Option.some.injEq] at hty;rw [h2, hty]
  | succ i =>
   simp only [List.getElem?_cons_succ] at hi ⊢;exact h5 i fd hi fty hty
theorem BZ {α : Type} {f : Operand → α} (ps : Array (Nat × Operand)) : (ps.map fun (i, x) => (i, f x)).toList = ps.toList.map fun p => (p.1, f p.2) := by
 rw [Array.toList_map]
theorem ZmQ (hE : EnvOk0 P E) {t : TypeId} {ps : Array (Nat × Operand)} {K : SV → Option R} {r : R} (ho : o.op = .build t ps)
  (he : Pt E h t (ps.toList.map fun p => (p.1, gt p.2)) K = some r) : ∃ v, Z2 P o gt h v h ∧ K v = some r := by
 unfold Pt at he
 split at he
 ·rename_i ty bs fs hi
  split at he
  ·rename_i c hc
   refine ⟨_, YC (fun rho => Instr.build t (ps.map fun (i, x) => (i, rho x))) (fun rho => by unfold execOp; rw [ho]) (fun g a w rho hinv hv => ?_), he⟩;obtain ⟨fields, k1, k2, k3, k4⟩ := FQ hE hi;obtain ⟨inf, m1, m2, _, m3⟩ := (hE.ti t _ hi).info;obtain ⟨places, p1, p2, p3⟩ := Zfu hE fields.toList (fun f hf => by
    obtain ⟨fi, h⟩ := k3 (f.offset, f.type) (by rw [← k2]; exact List.mem_map.2 ⟨f, hf, rfl⟩);exact ⟨fi, h⟩)
   have hz : VL (zOf g rho h w) (Vi ty) (Zp ty) := HI ty;obtain ⟨cs', f1, f2, f3⟩ := Ziy (P := P) (gt := gt) hE (z := zOf g rho h w) (fs := fs) (place := fun i => places.toArray[i]?) (fun i off ft fty hn hft => by
    obtain ⟨fd, q1, q2, q3⟩ := PG k2 hn;have := p3 i fd (by rw [Array.getElem?_toList]; exact q1) fty (by rw [q3]; exact hft);simpa [q2] using this) a.eval ps.toList (Vi ty) c (Zp ty) (fun x hx => hv x.2 (by rw [ho]; simp only [Op.operands]; simpa using ⟨x.1, by simpa using hx⟩)) hz (BV ty) hc
   refine ⟨.agg cs'.toArray, ?_, Zcr (z := zOf g rho h w) hinv.sim k4 f2⟩;apply Go.run_build;unfold Program.built;rw [m1, k1];dsimp only;rw [m3, p1];dsimp only;rw [BZ];have hcells : (mkV ty (Zp ty)).cells = (Zp ty).toArray := by
    have := (Z0 (im := fun _ => False) (w := w) (o := false) ty).cells;exact Array.toList_inj.1 (by simpa using this)
   rw [hcells];exact f1
  ·cases he
 ·cases he
theorem Ty.uq_size : ∀ t : Ty, t.uq.size = t.size
 | .int _ => rfl
 | .bool => rfl
 | .str => rfl
 | .unit => rfl
 | .pair a b => by simp only [Ty.uq, Ty.size, Ty.uq_size a, Ty.uq_size b]
 | .sl _ _ => rfl
theorem Ty.uq_zero : ∀ t : Ty, Zp t.uq = Zp t
 | .int _ => rfl
 | .bool => rfl
 | .str => rfl
 | .unit => rfl
 | .pair a b => by simp only [Ty.uq, Zp, Ty.uq_zero a, Ty.uq_zero b]
 | .sl _ _ => rfl
theorem Inv.world {g : G} {rho : Rho} {w w' : World} (hi : Inv g rho h w) (hw : Zhj w w') : Inv g rho h w' ∧ Ext (zOf g rho h w) (zOf g rho h w') := by
 have he : Ext (zOf g rho h w) (zOf g rho h w') := ⟨fun k hk => ⟨⟨hk.1, by rw [hw.heap]; exact hk.2.1, hk.2.2⟩, by show w'.heap[k]? = _; rw [hw.heap]; rfl⟩, fun _ => ZX.refl _ _⟩
 refine ⟨⟨fun b d hd => (hi.sim b d hd).ext he (fun _ k _ => by show w'.heap[k]? = _; rw [hw.heap]; rfl), hi.disj, hi.nodup, fun b d hd hl k hk => by rw [hw.heap]; exact hi.range b d hd hl k hk, ?_, PA.ext (z := zOf g rho h w) hi.tab he⟩, he⟩;exact ⟨by rw [hw.heap]; exact hi.kept.1, fun k hk hn => by rw [hw.heap]; exact hi.kept.2 k hk hn, hi.kept.3.trans (Frz.of_eq hw)⟩
theorem LL {g : G} {rho : Rho} {w : World} {a : Ty} {xs : List a.den} {inner : List Value} {all : Array Value} {e : TypeId} {cap : Nat} (hi : Inv g rho h w) (hp : 0 < a.size)
  (hr : Ye (TR (Im g rho h w) w true a) xs inner []) (hall : ∀ (j : Nat) (c : Value), inner[j]? = some c → all[j]? = some c) (hsz : cap * a.size ≤ all.size) (hx : xs.length ≤ cap) (v : Nat) :
  Inv g (Yk rho h.length (.s (some ⟨w.heap.size, 0, none⟩) cap [w.heap.size])) (h ++ [.arr v a xs]) (Xm w (.cells all e (0, 0))) ∧
   Ext (zOf g rho h w) (zOf g (Yk rho h.length (.s (some ⟨w.heap.size, 0, none⟩) cap [w.heap.size])) (h ++ [.arr v a xs]) (Xm w (.cells all e (0, 0)))) ∧
   V (zOf g (Yk rho h.length (.s (some ⟨w.heap.size, 0, none⟩) cap [w.heap.size])) (h ++ [.arr v a xs]) (Xm w (.cells all e (0, 0)))) (.own h.length v) (.slice (some ⟨w.heap.size, 0, none⟩) xs.length cap) := by
 have hext := DW hi (.cells all e (0, 0)) (.arr v a xs) (.s (some ⟨w.heap.size, 0, none⟩) cap [w.heap.size]) (by simp [D.blks]);refine ⟨Zcq hi _ _ _ (by simp [D.blks]) (by simp [D.blks]) ?_, hext, ?_⟩
 ·refine ⟨_, cap, _, rfl, ⟨_, cap, rfl, hx, ?_⟩, hp⟩
  simp only [Bool.and_self, if_true];refine ⟨trivial, inner, [], rfl, ⟨all, e, J5, by simpa using hsz, by simpa using hall⟩, hr.imp (fun y c S1 hs hr => ?_)⟩;have : S1 = [] := List.eq_nil_iff_forall_not_mem.2 (fun b hb => by simpa using hs b hb);subst this;exact hr.mono hext.im _ _ _ _ _ (by simp)
 ·simp only [V]
  refine ⟨⟨_, _, _, rfl⟩, ?_⟩;refine Va (o := nth (h ++ [Blk.arr v a xs]) h.length) (XJ _ _) ?_;exact ⟨Nat.le_refl _, fun _ => ⟨_, _, _, Z7, rfl⟩⟩
theorem Ye.imIn {im im' : Nat → Prop} {w : World} {a : Ty} {xs : List a.den} {cs : List Value} (hi : ∀ k, im k → im' k) (h : Ye (TR im w false a) xs cs []) : Ye (TR im' w false a) xs cs [] :=
 h.imp (fun y c S1 hs hr => by
  have : S1 = [] := List.eq_nil_iff_forall_not_mem.2 (fun b hb => by simpa using hs b hb);subst this;exact hr.im hi)
theorem Ye.append {α : Type} {T : α → List Value → List Nat → Prop} : ∀ {xs ys : List α} {cs ds : List Value}, Ye T xs cs [] → Ye T ys ds [] → Ye T (xs ++ ys) (cs ++ ds) []
 | [], _, cs, ds, h, h' => by rw [h.1]; exact h'
 | x :: xs, ys, cs, ds, ⟨c1, c2, S1, S2, h1, h2, h3, h4⟩, h' => by
  have e : S1 = [] ∧ S2 = [] := by have := h2.symm; simpa using this
  obtain ⟨rfl, rfl⟩ := e;subst h1;exact ⟨c1, c2 ++ ds, [], [], by simp, rfl, h3, Ye.append h4 h'⟩
theorem TR.noSl {im im' : Nat → Prop} {w w' : World} : ∀ {t : Ty} {x : t.den} {cs : List Value}, t.hasSl = false → TR im w false t x cs [] → TR im' w' false t x cs [] := by
 intro t
 induction t with
 | int k => intro x cs _ h; exact h
 | bool => intro x cs _ h; exact h
 | str => intro x cs _ h; exact h
 | unit => intro x cs _ h; exact h
 | pair a b iha ihb =>
  intro x cs hn h;simp only [Ty.hasSl, Bool.or_eq_false_iff] at hn;obtain ⟨c1, c2, S1, S2, h1, h2, h3, h4⟩ := h;have e : S1 = [] ∧ S2 = [] := by have := h2.symm; simpa using this
  obtain ⟨rfl, rfl⟩ := e;exact ⟨c1, c2, [], [], h1, rfl, iha hn.1 h3, ihb hn.2 h4⟩
 | sl u a _ => intro x cs hn _; cases hn
theorem Ye.noSl {im im' : Nat → Prop} {w w' : World} {t : Ty} (hn : t.hasSl = false) {xs : List t.den} {cs : List Value} (h : Ye (TR im w false t) xs cs []) : Ye (TR im' w' false t) xs cs [] :=
 h.imp (fun y c S1 hs hr => by
  have : S1 = [] := List.eq_nil_iff_forall_not_mem.2 (fun b hb => by simpa using hs b hb);subst this;exact hr.noSl hn)
theorem Ye.one {α : Type} {T : α → List Value → List Nat → Prop} (ho : ∀ x c S, T x c S → ∀ u ∈ c, Sx.one u = true) : ∀ {xs : List α} {cs : List Value} {S : List Nat}, Ye T xs cs S → ∀ u ∈ cs, Sx.one u = true
 | [], _, _, h, u, hu => by rw [h.1] at hu; cases hu
 | _ :: _, _, _, ⟨c1, c2, S1, S2, h1, h2, h3, h4⟩, u, hu => by
  subst h1;rcases List.mem_append.1 hu with h | h
  ·exact ho _ _ _ h3 u h
  ·exact Ye.one ho h4 u h
theorem TR.ones {im : Nat → Prop} {w : World} : ∀ {t : Ty} {x : t.den} {cs : List Value} {S : List Nat}, TR im w false t x cs S → ∀ u ∈ cs, Sx.one u = true := by
 intro t
 induction t with
 | pair a b iha ihb =>
  intro x cs S h u hu;obtain ⟨c1, c2, S1, S2, h1, h2, h3, h4⟩ := h;subst h1;rcases List.mem_append.1 hu with h | h
  ·exact iha h3 u h
  ·exact ihb h4 u h
 | unit => intro x cs S h u hu; rw [h.1] at hu; cases hu
 | int k => intro x cs S h u hu; obtain ⟨c, e, ho⟩ := h.scalar rfl; rw [e] at hu; simp at hu; rw [hu]; exact ho
 | bool => intro x cs S h u hu; obtain ⟨c, e, ho⟩ := h.scalar rfl; rw [e] at hu; simp at hu; rw [hu]; exact ho
 | str => intro x cs S h u hu; obtain ⟨c, e, ho⟩ := h.scalar rfl; rw [e] at hu; simp at hu; rw [hu]; exact ho
 | sl u' a _ => intro x cs S h u hu; obtain ⟨c, e, ho⟩ := h.scalar rfl; rw [e] at hu; simp at hu; rw [hu]; exact ho
theorem Zju {im : Nat → Prop} {w : World} {a : Ty} {ys : List a.den} {c : Value} (ht : TR im w false (.sl false a) ys [c] []) :
  ∃ A cap inner, c = .slice A ys.length cap ∧ Ye (TR im w false a) ys inner [] ∧ (∀ (P : Program) (w' : World), w'.heap = w.heap → (Builtin.firstCells a.size ys.length c).run P w' = .ok inner.toArray w') := by
 obtain ⟨A, cap, h1, h2, h3⟩ := ht;simp only [List.cons.injEq, and_true] at h1;subst h1;simp only [Bool.false_and, Bool.false_eq_true, if_false] at h3
 by_cases hy : ys = []
 ·subst hy
  refine ⟨A, cap, [], rfl, ⟨rfl, rfl⟩, fun P w' _ => ?_⟩;cases A with
  | none => rfl
  | some ad => simp [Builtin.firstCells, loadCells, loadCellsFrom]
 ·obtain ⟨ad, inner, e1, e2, e3, e4, e5⟩ := h3.2 hy
  subst e1;refine ⟨some ad, cap, inner, rfl, e5, fun P w' hw => ?_⟩;have hr : VS w' ad inner := e4.mono (by rw [hw]);exact Sx.run_loadCells e2 (Ye.len (fun _ _ _ hr => hr.len) e5) hr
theorem Zfv (hE : EnvOk0 P E) {t : TypeId} {n c : Operand} {K : SV → List Blk → Option R} {r : R} (ho : o.op = .makeSlice t n c)
  (he : W9 E h t (gt n) (gt c) K = some r) : ∃ v h', Z2 P o gt h v h' ∧ K v h' = some r := by
 unfold W9 at he
 split at he
 ·rename_i ty bs e hi
  split at he
  ·rename_i a x y ha hx hy
   split at he
   ·rename_i h0
    split at he
    ·rename_i h1
     split at he
     ·rename_i h2
      cases hnu : a.noUq with
      | false => rw [hnu] at he; cases he
      | true =>
       rw [hnu] at he;simp only [cond_true] at he;refine ⟨_, _, fun g ac w rho hinv hv next Q hn => ?_, he⟩;have e1 := QF (hv n (by rw [ho]; simp [Op.operands])) hx;have e2 := QF (hv c (by rw [ho]; simp [Op.operands])) hy;obtain ⟨d, k1, k2, k3⟩ := (hE.ti t _ hi).desc;obtain ⟨k4, ie, k5, k6⟩ := k3;obtain ⟨inf, d', m1, m2, m3, m4, m5, m6, m7⟩ := LK hE ha;have hlim : y ≤ 4294967296 := by unfold lim at h2; omega
       have hmul : (inf.bytes : Int) * y ≤ 281474976710656 := by
        have h3 : (inf.bytes : Int) ≤ 1024 := by omega
        have h4 : (inf.bytes : Int) * y ≤ 1024 * y := Int.mul_le_mul_of_nonneg_right h3 (by omega);omega
       have hrun := run_make (P := P) w t e inf _ (by rw [k1, k4]) m1 m3 .i64 .i64 x y h0 h1 hmul (by omega);have hz : (mkV a (Zp a)).cells = (Zp a).toArray := by
        have := (Z0 (im := fun _ => False) (w := w) (o := false) a).cells;exact Array.toList_inj.1 (by simpa using this)
       have hzl : (Zp a).length = a.size := (Z0 (im := fun _ => False) (w := w) (o := false) a).len;rw [hz, m2] at hrun;obtain ⟨a', ha', hsz', hzv'⟩ : ∃ a' : Ty, (bif E.nest then a.uq else a) = a' ∧ a'.size = a.size ∧ Zp a' = Zp a := by
        cases E.nest with
        | true => exact ⟨a.uq, rfl, a.uq_size, a.uq_zero⟩
        | false => exact ⟨a, rfl, rfl, rfl⟩
       rw [ha'] at hn;have hreps : ∀ m : Nat, Ye (TR (Im g rho h w) w true a') (List.replicate m (WI a')) (List.replicate m (Zp a)).flatten [] := by
        intro m
        induction m with
        | zero => exact ⟨rfl, rfl⟩
        | succ m ih => exact ⟨Zp a, _, [], [], by simp [List.replicate_succ], rfl, hzv' ▸ Z0 a', ih⟩
       have hget : ∀ (m j : Nat) (u : Value), (List.replicate m (Zp a)).flatten[j]? = some u → (Zp a)[j % a.size]? = some u := by
        intro m
        induction m with
        | zero => intro j u hj; simp at hj
        | succ m ih =>
         intro j u hj;simp only [List.replicate_succ, List.flatten_cons] at hj
         by_cases hjl : j < (Zp a).length
         ·rw [List.getElem?_append_left hjl] at hj
          rw [Nat.mod_eq_of_lt (by omega)]; exact hj
         ·rw [List.getElem?_append_right (by omega)] at hj
          have := ih _ u hj;rw [hzl] at this;rw [Nat.mod_eq_sub_mod (by omega)]; exact this
       have hlen : ∀ m : Nat, (List.replicate m (Zp a)).flatten.length = m * a.size := by
        intro m
        induction m with
        | zero => simp
        | succ m ih => simp only [List.replicate_succ, List.flatten_cons, List.length_append, ih, hzl, Nat.add_mul]; omega
       have hxy : x.toNat ≤ y.toNat := by omega
       obtain ⟨i1, i2, i3⟩ := LL (all := madeCells (Zp a).toArray (y.toNat * a.size)) (e := e) (cap := y.toNat) hinv (by rw [hsz']; exact m6) (hreps x.toNat) (by
        intro j u hj;have hjl : j < x.toNat * a.size := by
         rw [← hlen];exact (List.getElem?_eq_some_iff.1 hj).1
        have hjl2 : j < y.toNat * a.size := Nat.lt_of_lt_of_le hjl (Nat.mul_le_mul_right _ hxy);have hu := hget _ j u hj;simp only [madeCells, Array.getElem?_map, Array.getElem?_range, hjl2, if_true, Option.map_some, List.size_toArray, hzl];congr 1;have hm : j % a.size < (Zp a).toArray.size := by simp [hzl]; exact Nat.mod_lt _ m6
        rw [getElem!_pos (Zp a).toArray (j % a.size) hm];have := List.getElem?_eq_some_iff.1 hu;obtain ⟨hq, hq2⟩ := this;simpa using hq2) (by rw [size_madeCells, hsz']; exact Nat.le_refl _) (by simpa using hxy) 0
       unfold Oper.wp;have hexec : (execOp ac.eval o).run P w = .ok (.value (.slice (some ⟨w.heap.size, 0, none⟩) x.toNat y.toNat)) (Xm w (.cells (madeCells (Zp a).toArray (y.toNat * a.size)) e (0, 0))) := by
        unfold execOp;rw [ho];dsimp only;rw [e1, e2];show ((Instr.makeSlice t (.int .i64 x) (.int .i64 y) >>= fun v => pure (.value v)) : Sem Next).run P w = _;rw [Sx.run_bind_ok hrun];rfl
       rw [hexec];simp only [List.length_replicate] at i3;exact hn _ _ _ i1 i3 i2
     ·cases he
    ·cases he
   ·cases he
  ·cases he
 ·cases he
end
end Go.Sx
namespace Go.Sx
open Go
section
variable {R : Type} {P : Program} {E : Env} {o : Oper} {gt : Operand → SV} {h : List Blk}
theorem ZhE {n : Nat} {w : World} : (askRoom n).run P w = .ok () w := by
 unfold askRoom
 split <;> rfl
theorem ZaG {need old : Nat} {e : TypeId} {w : World} : ∃ c, (choose (.appendCap need old e)).run P w = .ok c { w with drawn := w.drawn + 1 } ∧ need ≤ c := by
 refine ⟨(Question.appendCap need old e).cut (w.tape w.drawn (.appendCap need old e)), ?_, ?_⟩
 ·unfold choose
  simp only [Sem.run, Question.forced, Bool.false_eq_true, if_false]
 ·simp only [Question.cut]; omega
theorem ZhF {n c : Nat} (h : c < n) : Builtin.nextslicecap n c ≤ 2 * n + 512 := by
 unfold Builtin.nextslicecap
 split
 ·omega
 ·split
  ·omega
  ·have grow : ∀ (r c : Nat), c < n → Builtin.growBy n r c ≤ 2 * n + 512 := by
    intro r
    induction r with
    | zero => intro c hc; simp only [Builtin.growBy]; omega
    | succ r ih =>
     intro c hc;simp only [Builtin.growBy]
     split
     ·omega
     ·by_cases h2 : c + (c + 768) / 4 < n
      ·exact ih _ h2
      ·cases r with
       | zero => simp only [Builtin.growBy]; omega
       | succ r => simp only [Builtin.growBy]; rw [if_pos (by omega)]; omega
   exact grow 4 c h
theorem Zct {k : Nat} (h : k ≤ 4294967296) : (2 * k + 512) * 1024 ≤ 281474976710656 := by omega
theorem J9 {t t' e ty : TypeId} {d : TypeDesc} {inf : TypeInfo} {z : Value} {sz n' : Nat} (ht : P.underlying t = some (.slice e)) (ht' : P.underlying t' = some d) (hd : (∃ u, d = .slice u) ∨ d = .string)
  (hi : P.info? e = some inf) (hsz : inf.size = sz) (hz : inf.zero = some z) (hzc : z.cells.size = sz) (hn63 : n' ≤ 4611686018427387904) (hb : ∀ k, k ≤ n' → (2 * k + 512) * inf.bytes ≤ 281474976710656) {XE : Option Addr} {n cap : Nat} {x : Value} {m : Nat} {news olds : List Value} {w : World}
  (hl : ∀ w' : World, (Builtin.lenOf x).run P w' = .ok m w') (hnews : ∀ w' : World, w'.heap = w.heap → (Builtin.firstCells sz m x).run P w' = .ok news.toArray w')
  (holds : ∀ w' : World, w'.heap = w.heap → (Builtin.firstCells sz n (.slice XE n cap)).run P w' = .ok olds.toArray w') (hlo : olds.length = n * sz) (hln : news.length = m * sz) (hlim : n + m ≤ n') :
  (n + m ≤ cap → (Builtin.append_ #[t, t'] ty #[.slice XE n cap, x]).run P w =
   match XE with
   | some a => (match (storeCells (a.add (n * sz)) news).run P w with | .ok _ w' => .ok (.slice XE (n + m) cap) w' | .halt h w' => .halt h w')
   | none => .ok (.slice XE (n + m) cap) w) ∧
  (cap < n + m → ∃ (newCap : Nat) (rest : List Value) (wd : World), n + m ≤ newCap ∧ Zhj w wd ∧ rest.length = (newCap - (n + m)) * sz ∧
   (Builtin.append_ #[t, t'] ty #[.slice XE n cap, x]).run P w = .ok (.slice (some ⟨w.heap.size, 0, none⟩) (n + m) newCap) (Xm wd (.cells (olds ++ news ++ rest).toArray e (0, 0)))) := by
 rcases hd with ⟨u, rfl⟩ | rfl
 all_goals
  constructor
  ·intro hfit
   unfold Builtin.append_;simp only [List.getElem?_toArray, List.getElem?_cons_zero, List.getElem?_cons_succ];rw [Sx.run_bind_ok (Sx.run_underlying ht)];dsimp only;rw [Sx.run_bind_ok (Sx.run_sizeOf hi), Sx.run_bind_ok (Sx.run_underlying ht'), Sx.run_bind_ok (Sx.run_pure P _ _)];dsimp only;simp only [Bool.false_eq_true, if_false];rw [Sx.run_bind_ok (hl w), if_pos hfit];simp only [Bool.not_false, if_true];rw [hsz, Sx.run_bind_ok (hnews w rfl)];cases XE with
   | none => rfl
   | some a =>
    dsimp only;rw [Sx.run_bind];cases (storeCells (a.add (n * sz)) news).run P w <;> rfl
  ·intro hgrow
   have hnc := ZhF hgrow;have hby : Builtin.nextslicecap (n + m) cap * inf.bytes ≤ 281474976710656 := by
    exact Nat.le_trans (Nat.mul_le_mul_right _ hnc) (hb _ hlim)
   obtain ⟨newCap, hch, hle⟩ := ZaG (P := P) (need := n + m) (old := cap) (e := e) (w := w);have hzz : (Builtin.zeroCells z.cells (newCap - (n + m))).toList.length = (newCap - (n + m)) * sz := by
    simp [Builtin.zeroCells, hzc]
   refine ⟨newCap, (Builtin.zeroCells z.cells (newCap - (n + m))).toList, { w with drawn := w.drawn + 1 }, hle, ⟨rfl, rfl, rfl⟩, hzz, ?_⟩;unfold Builtin.append_;simp only [List.getElem?_toArray, List.getElem?_cons_zero, List.getElem?_cons_succ];rw [Sx.run_bind_ok (Sx.run_underlying ht)];dsimp only;rw [Sx.run_bind_ok (Sx.run_sizeOf hi), Sx.run_bind_ok (Sx.run_underlying ht'), Sx.run_bind_ok (Sx.run_pure P _ _)];dsimp only;simp only [Bool.false_eq_true, if_false];rw [Sx.run_bind_ok (hl w), if_neg (by omega)];rw [Sx.run_bind_ok (Sx.run_typeInfo hi)];rw [if_neg (by
    rintro ⟨h1, _⟩
    have hmx : IntKind.i64.max = 9223372036854775807 := by decide
    rw [hmx] at h1
    omega)]
   rw [Sx.run_bind_ok (Sx.run_typeInfo hi), if_neg (Nat.not_lt.2 (Nat.le_trans hby (by decide)))];rw [Sx.run_bind_ok hch, Sx.run_bind_ok (Sx.run_typeInfo hi), Sx.run_bind_ok ZhE, hsz, Sx.run_bind_ok (holds { w with drawn := w.drawn + 1 } rfl)];simp only [Bool.not_false, if_true];rw [Sx.run_bind_ok (hnews { w with drawn := w.drawn + 1 } rfl), Sx.run_bind_ok (Sx.run_zeroValue hi hz)];rw [Sx.run_bind_ok Jk];have : (olds.toArray ++ news.toArray ++ Builtin.zeroCells z.cells (newCap - (n + m))) = (olds ++ news ++ (Builtin.zeroCells z.cells (newCap - (n + m))).toList).toArray := by
    apply Array.ext';simp
   rw [this];rfl
theorem LM {t t' e ty : TypeId} {d : TypeDesc} {inf : TypeInfo} {z : Value} {sz : Nat} (ht : P.underlying t = some (.slice e)) (ht' : P.underlying t' = some d) (hd : (∃ u, d = .slice u) ∨ d = .string)
  (hi : P.info? e = some inf) (hsz : inf.size = sz) (hz : inf.zero = some z) (hzc : z.cells.size = sz) (hb : inf.bytes ≤ 1024) {XE : Option Addr} {n cap : Nat} {x : Value} {m : Nat} {news olds : List Value} {w : World}
  (hl : ∀ w' : World, (Builtin.lenOf x).run P w' = .ok m w') (hnews : ∀ w' : World, w'.heap = w.heap → (Builtin.firstCells sz m x).run P w' = .ok news.toArray w')
  (holds : ∀ w' : World, w'.heap = w.heap → (Builtin.firstCells sz n (.slice XE n cap)).run P w' = .ok olds.toArray w') (hlo : olds.length = n * sz) (hln : news.length = m * sz) (hlim : n + m ≤ lim) :
  (n + m ≤ cap → (Builtin.append_ #[t, t'] ty #[.slice XE n cap, x]).run P w =
   match XE with
   | some a => (match (storeCells (a.add (n * sz)) news).run P w with | .ok _ w' => .ok (.slice XE (n + m) cap) w' | .halt h w' => .halt h w')
   | none => .ok (.slice XE (n + m) cap) w) ∧
  (cap < n + m → ∃ (newCap : Nat) (rest : List Value) (wd : World), n + m ≤ newCap ∧ Zhj w wd ∧ rest.length = (newCap - (n + m)) * sz ∧
   (Builtin.append_ #[t, t'] ty #[.slice XE n cap, x]).run P w = .ok (.slice (some ⟨w.heap.size, 0, none⟩) (n + m) newCap) (Xm wd (.cells (olds ++ news ++ rest).toArray e (0, 0)))) :=
 J9 ht ht' hd hi hsz hz hzc (by decide) (fun k hk => Nat.le_trans (Nat.mul_le_mul_left _ hb) (Zct hk)) hl hnews holds hlo hln hlim
theorem ZaH {im : Nat → Prop} {w : World} (s : ByteArray) : Ye (TR im w false (.int .u8)) (O8 s) (s.data.toList.map fun b => Value.int .u8 b.toNat) [] := by
 unfold O8
 induction s.data.toList with
 | nil => exact ⟨rfl, rfl⟩
 | cons b l ih => exact ⟨[.int .u8 b.toNat], _, [], [], rfl, rfl, ⟨rfl, rfl⟩, ih⟩
theorem ZdR {im : Nat → Prop} {w : World} {s t : Ty} {xs : List s.den} {ys : List t.den} (h : toD (.sl false s) (.sl false t) xs = some ys) {cs : List Value} (hr : Ye (TR im w false s) xs cs []) :
  Ye (TR im w false t) ys cs [] ∧ ys.length = xs.length ∧ s.eqv t = true := by
 unfold toD at h
 split at h
 ·rename_i he
  have he' : s.eqv t = true := he;simp only [Option.some.injEq] at h;subst h;refine ⟨?_, PC (Ty.den_eqv he') xs, he'⟩;have h9 : Ye (fun y c S => S = [] ∧ TR im w false s y c []) xs cs [] := hr.imp (fun y c S1 hs hr => by
   have : S1 = [] := List.eq_nil_iff_forall_not_mem.2 (fun b hb => by simpa using hs b hb);subst this; exact ⟨rfl, hr⟩)
  exact Zfm (Ty.den_eqv he') (fun y c S hy => by obtain ⟨rfl, hy⟩ := hy; exact TR.castD he' hy) h9
 ·cases h
theorem Ziz (hE : EnvOk0 P E) {t' : TypeId} {a : Ty} {x : SV} {ys : List a.den} (hm : Zjn E h t' a x = some ys) :
  ∃ d, P.underlying t' = some d ∧ ((∃ u, d = .slice u) ∨ d = .string) ∧ ∀ (g : G) (w : World) (rho : Rho) (c : Value), Inv g rho h w → V (zOf g rho h w) x c →
   ∃ inner, Ye (TR (QC (zOf g rho h w) true (VN x)) w false a) ys inner [] ∧ (∀ w' : World, (Builtin.lenOf c).run P w' = .ok ys.length w') ∧
    ∀ w' : World, w'.heap = w.heap → (Builtin.firstCells a.size ys.length c).run P w' = .ok inner.toArray w' := by
 unfold Zjn at hm;cases hsx : Zkv x with
 | true =>
  rw [hsx] at hm;simp only [cond_true] at hm
  split at hm
  ·rename_i s hs
   cases hok : ZaB E t' with
   | false => rw [hok] at hm; cases hm
   | true =>
    rw [hok] at hm;simp only [cond_true] at hm;refine ⟨.string, DX hE hok, .inr rfl, fun g w rho c hi hv => ?_⟩;rw [Zhv hv hs];obtain ⟨h1, h2, h3⟩ := ZdR hm (ZaH (im := QC (zOf g rho h w) true (VN x)) (w := w) s);have hlen : ys.length = s.size := by rw [h2]; simp [O8]
    refine ⟨_, h1, fun w' => by rw [hlen]; rfl, fun w' _ => ?_⟩;rw [hlen];show (pure ((s.extract 0 s.size).data.map fun b => Value.int .u8 b.toNat) : Sem (Array Value)).run P w' = _;rw [Sx.run_pure];congr 1;apply Array.ext';simp
  ·cases hm
 | false =>
  rw [hsx] at hm;simp only [cond_false] at hm;cases hok : HB E t' a with
  | false => rw [hok] at hm; cases hm
  | true =>
   rw [hok] at hm;simp only [cond_true] at hm;obtain ⟨e, ie, inf, h1, _⟩ := XS hE hok;refine ⟨.slice e, h1, .inl ⟨e, rfl⟩, fun g w rho c hi hv => ?_⟩;obtain ⟨cs, h2, h3⟩ := FN (z := zOf g rho h w) hi.sim hv hm;obtain ⟨c1, h4, _⟩ := h2.scalar rfl;subst h4;simp only [mkV, Ty.isAgg, Bool.false_eq_true, if_false, List.headD_cons] at h3;subst h3;obtain ⟨A, cap, inner, h5, h6, h7⟩ := Zju h2;exact ⟨inner, h6, fun w' => by rw [h5]; rfl, fun w' hw => h7 P w' hw⟩
theorem ZhG {g : G} {rho : Rho} {w : World} {a : Ty} (hi : Inv g rho h w) (hp : 0 < a.size) (v : Nat) :
  Inv g (Yk rho h.length (.s none 0 [])) (h ++ [.arr v a []]) w ∧ Ext (zOf g rho h w) (zOf g (Yk rho h.length (.s none 0 [])) (h ++ [.arr v a []]) w) ∧
   V (zOf g (Yk rho h.length (.s none 0 [])) (h ++ [.arr v a []]) w) (.own h.length v) (.slice none 0 0) := by
 have old : ∀ b d', Yk rho h.length (.s none 0 []) b = some d' → live (nth (h ++ [Blk.arr v a []]) b) → (b = h.length ∧ d' = .s none 0 []) ∨ (b < h.length ∧ rho b = some d' ∧ live (nth h b)) := by
  intro b d' h1 h2;rcases ZK h (Blk.arr v a []) b with ⟨e, _⟩ | ⟨e, h4⟩ | ⟨_, h4, _⟩
  ·subst e; simp only [Yk, if_pos] at h1; cases h1; exact .inl ⟨rfl, rfl⟩
  ·have : b ≠ h.length := by omega
   simp only [Yk, if_neg this] at h1;rw [h4] at h2;exact .inr ⟨e, h1, h2⟩
  ·rw [h4] at h2; exact h2.elim
 have hext : Ext (zOf g rho h w) (zOf g (Yk rho h.length (.s none 0 [])) (h ++ [.arr v a []]) w) := {
  im := fun k hk => by
   refine ⟨⟨hk.1, hk.2.1, ?_⟩, rfl⟩
   rintro ⟨b, d', h1, h2, h3⟩
   rcases old b d' h1 h2 with ⟨_, e⟩ | ⟨_, e1, e2⟩
   ·subst e; simp [D.blks] at h3
   ·exact hk.2.2 ⟨b, d', e1, e2, h3⟩
  le := fun b => by
   show ZX (rho b) (Yk rho h.length (.s none 0 []) b) (nth h b) (nth (h ++ [Blk.arr v a []]) b);rcases ZK h (Blk.arr v a []) b with ⟨e, h4⟩ | ⟨e, h4⟩ | ⟨_, h4, h5⟩
   ·subst e; rw [Y6.2 (Nat.le_refl _)]; exact ZX.none
   ·have : b ≠ h.length := by omega
    rw [h4]; simp only [Yk, if_neg this]; exact ZX.refl _ _
   ·rw [h5]; exact ZX.none }
 refine ⟨⟨?_, ?_, ?_, ?_, hi.kept, PA.ext (z := zOf g rho h w) hi.tab hext⟩, hext, ?_⟩
 ·intro b d' h1
  rcases ZK h (Blk.arr v a []) b with ⟨e, h4⟩ | ⟨e, h4⟩ | ⟨_, h4, _⟩
  ·subst e; simp only [Yk, if_pos] at h1; cases h1; rw [h4]
   exact ⟨none, 0, [], rfl, ⟨none, 0, rfl, Nat.le_refl _, by simp⟩, hp⟩
  ·have hne : b ≠ h.length := by omega
   simp only [Yk, if_neg hne] at h1;rw [h4];exact (hi.sim b d' h1).ext hext (fun _ _ _ => rfl)
  ·rw [h4]; trivial
 ·intro b1 b2 d1 d2 h1 h2 l1 l2 hne k hk hk2
  rcases old b1 d1 h1 l1 with ⟨_, e⟩ | ⟨_, e1, e2⟩
  ·subst e; simp [D.blks] at hk
  ·rcases old b2 d2 h2 l2 with ⟨_, f⟩ | ⟨_, f1, f2⟩
   ·subst f; simp [D.blks] at hk2
   ·exact hi.disj b1 b2 d1 d2 e1 f1 e2 f2 hne k hk hk2
 ·intro b1 d1 h1 l1
  rcases old b1 d1 h1 l1 with ⟨_, e⟩ | ⟨_, e1, e2⟩
  ·subst e; simp [D.blks]
  ·exact hi.nodup b1 d1 e1 e2
 ·intro b1 d1 h1 l1 k hk
  rcases old b1 d1 h1 l1 with ⟨_, e⟩ | ⟨_, e1, e2⟩
  ·subst e; simp [D.blks] at hk
  ·exact hi.range b1 d1 e1 e2 k hk
 ·simp only [V]
  refine ⟨⟨_, _, _, rfl⟩, ?_⟩;exact Va (o := nth (h ++ [Blk.arr v a []]) h.length) (XJ _ _) ⟨Nat.le_refl _, fun _ => ⟨_, _, _, Z7, rfl⟩⟩
theorem Ki {z : Z} {b v cap n : Nat} {A : Option Addr} {S : List Nat} {a : Ty} {x : List a.den} (hb : nth z.h b = some (.arr v a x)) (hr : z.rho b = some (.s A cap S)) (hn : n = x.length) : V z (.own b v) (.slice A n cap) := by
 subst hn;simp only [V];rw [hb];refine ⟨⟨_, _, _, rfl⟩, rfl, fun v' t' n' hi' => ?_⟩;simp only [Kb, Blk.info, Option.some.injEq, Prod.mk.injEq] at hi';obtain ⟨rfl, rfl, rfl⟩ := hi';exact ⟨Nat.le_refl _, fun _ => ⟨A, cap, S, hr, rfl⟩⟩
theorem Yi {c : Call} {x y : Operand} {t t' : TypeId} {a : Act} {w w' : World} {v : Value} (ho : o.op = .call c) (hc : c.callee = .builtin .append) (ha : c.args.toList = [x, y]) (hat : c.argTypes.toList = [t, t'])
  (hr : (Builtin.append_ #[t, t'] o.type #[a.eval x, a.eval y]).run P w = .ok v w') : (execOp a.eval o).run P w = .ok (.value v) w' := by
 have ea : c.args = #[x, y] := by rw [← Array.toList_inj, ha]
 have et : c.argTypes = #[t, t'] := by rw [← Array.toList_inj, hat]
 rw [XT ho hc (fun rho => Builtin.append_ #[t, t'] o.type #[rho x, rho y]) (fun rho l => by rw [ea, et, show (#[x, y].map rho) = #[rho x, rho y] by simp]; rfl), Sx.run_bind_ok hr];rfl
theorem X5.more {w : World} {ad : Addr} {n : Nat} {cs ds : List Value} (h : X5 w ad n cs) (hf : cs.length + ds.length ≤ n) :
  ∃ all e, w.heap[ad.block]? = some (.cells (all : List Value).toArray e (0, 0)) ∧ ad.off + cs.length + ds.length ≤ all.length ∧
   X5 (Yb w ad.block (.cells (put1 all (ad.off + cs.length) ds).toArray e (0, 0))) ad n (cs ++ ds) := by
 obtain ⟨all, e, h1, h2, h3⟩ := h;have hsz : all.toList.length = all.size := by simp
 refine ⟨all.toList, e, by rw [h1], by omega, (put1 all.toList (ad.off + cs.length) ds).toArray, e, UY h1, ?_, ?_⟩
 ·simp only [List.size_toArray]; rw [Wi (by omega)]; omega
 ·intro j c hj
  simp only [List.getElem?_toArray];rw [XK (by omega)]
  by_cases k1 : j < cs.length
  ·rw [if_pos (by omega)]
   rw [List.getElem?_append_left k1] at hj;simpa using h3 j c hj
  ·rw [if_neg (by omega)]
   rw [List.getElem?_append_right (by omega)] at hj;have hjl : j - cs.length < ds.length := (List.getElem?_eq_some_iff.1 hj).1;rw [if_pos (by omega), ← hj];congr 1; omega
theorem ZkQ {g : G} {rho : Rho} {w : World} {b v cap : Nat} {ad : Addr} {S : List Nat} {a : Ty} {xs zs : List a.den} {inner news : List Value} (hi : Inv g rho h w) (hb : nth h b = some (.arr v a xs))
  (hr : rho b = some (.s (some ad) cap S)) (hs : ad.spot = none) (hS : S = [ad.block]) (hba : X5 w ad (cap * a.size) inner) (hx : Ye (TR (Im g rho h w) w false a) xs inner []) (hz : Ye (TR (Im g rho h w) w false a) zs news [])
  (hnu : a.noUq = true) (hp : 0 < a.size) (hfit : xs.length + zs.length ≤ cap) :
  ∃ w', (storeCells ⟨ad.block, ad.off + inner.length, none⟩ news).run P w = .ok () w' ∧ Inv g (Yk rho b (.s (some ad) cap S)) (upd h b (.arr (v + 1) a (xs ++ zs))) w' ∧
   Ext (zOf g rho h w) (zOf g (Yk rho b (.s (some ad) cap S)) (upd h b (.arr (v + 1) a (xs ++ zs))) w') := by
 have e1 := Ye.len (fun _ _ _ hr => hr.len) hx;have e2 := Ye.len (fun _ _ _ hr => hr.len) hz;have hroom : inner.length + news.length ≤ cap * a.size := by rw [e1, e2, ← Nat.add_mul]; exact Nat.mul_le_mul_right _ hfit
 obtain ⟨all, e, n1, n2, n3⟩ := hba.more hroom;have hst := WL (P := P) (A := ⟨ad.block, ad.off + inner.length, none⟩) rfl rfl news 0 w all n1 (by simpa using n2) (Ye.one (fun _ _ _ hr => hr.ones) hz);simp only [Nat.add_zero] at hst;refine ⟨_, hst, ?_⟩;have hw : (if news = [] then w else Yb w ad.block (.cells (put1 all (ad.off + inner.length) news).toArray e (0, 0))).heap.size = w.heap.size := by split; rfl; exact Ww
 have hwk : ∀ k, k ≠ ad.block → (if news = [] then w else Yb w ad.block (.cells (put1 all (ad.off + inner.length) news).toArray e (0, 0))).heap[k]? = w.heap[k]? := by
  intro k hk; split; rfl; exact WY hk
 have hba' : X5 (if news = [] then w else Yb w ad.block (.cells (put1 all (ad.off + inner.length) news).toArray e (0, 0))) ad (cap * a.size) (inner ++ news) := by
  split
  ·rename_i hn; subst hn; simpa using hba
  ·exact n3
 have T : Zks rho h w b (.s (some ad) cap S) (.s (some ad) cap S) (.arr (v + 1) a (xs ++ zs)) (if news = [] then w else Yb w ad.block (.cells (put1 all (ad.off + inner.length) news).toArray e (0, 0))) := {
  at0 := hr
  live0 := by rw [hb]; trivial
  live1 := trivial
  size := by rw [hw]; exact Nat.le_refl _
  same := fun k _ hnk => hwk k (by intro ek; subst ek; exact hnk (by simp [D.blks, hS]))
  sub := fun k hk => .inl hk
  nodup := by simp [D.blks, hS]
  le := by rw [hb]; exact ZX.arr (.inl (by omega))
  frz := by split; exact Frz.refl _; exact LH }
 have hext := UZ (g := g) T;refine ⟨Kh hi T ?_, hext⟩;refine ⟨some ad, cap, S, rfl, ⟨some ad, cap, rfl, by simpa using hfit, ?_⟩, hp⟩;simp only [Bool.and_self, if_true];refine ⟨hs, inner ++ news, [], hS, hba', Ye.ofRo hnu ((hx.append hz).imp (fun y c S1 hs hr => ?_))⟩;have : S1 = [] := List.eq_nil_iff_forall_not_mem.2 (fun b hb => by simpa using hs b hb);subst this;exact hr.mono hext.im _ _ _ _ _ (by simp)
theorem Zcu {g : G} {rho : Rho} {w wd : World} {b v cap newCap : Nat} {A : Option Addr} {S : List Nat} {a : Ty} {xs zs : List a.den} {inner news rest : List Value} {e : TypeId} (hi : Inv g rho h w) (hb : nth h b = some (.arr v a xs))
  (hr : rho b = some (.s A cap S)) (hx : Ye (TR (Im g rho h w) w false a) xs inner []) (hz : Ye (TR (Im g rho h w) w false a) zs news [])
  (hnu : a.noUq = true) (hp : 0 < a.size) (hfit : xs.length + zs.length ≤ newCap) (hwd : Zhj w wd) (hrest : rest.length = (newCap - (xs.length + zs.length)) * a.size) :
  Inv g (Yk rho b (.s (some ⟨w.heap.size, 0, none⟩) newCap [w.heap.size])) (upd h b (.arr (v + 1) a (xs ++ zs))) (Xm wd (.cells (inner ++ news ++ rest).toArray e (0, 0))) ∧
   Ext (zOf g rho h w) (zOf g (Yk rho b (.s (some ⟨w.heap.size, 0, none⟩) newCap [w.heap.size])) (upd h b (.arr (v + 1) a (xs ++ zs))) (Xm wd (.cells (inner ++ news ++ rest).toArray e (0, 0)))) := by
 have e1 := Ye.len (fun _ _ _ hr => hr.len) hx;have e2 := Ye.len (fun _ _ _ hr => hr.len) hz;have hsz : (Xm wd (.cells (inner ++ news ++ rest).toArray e (0, 0))).heap.size = w.heap.size + 1 := by simp [Xm, hwd.heap]
 have T : Zks rho h w b (.s A cap S) (.s (some ⟨w.heap.size, 0, none⟩) newCap [w.heap.size]) (.arr (v + 1) a (xs ++ zs)) (Xm wd (.cells (inner ++ news ++ rest).toArray e (0, 0))) := {
  at0 := hr
  live0 := by rw [hb]; trivial
  live1 := trivial
  size := by omega
  same := fun k hk _ => by
   show (wd.heap.push _)[k]? = _;rw [hwd.heap];exact V8 hk
  sub := fun k hk => by
   simp only [D.blks, List.mem_singleton] at hk;exact .inr ⟨by omega, by omega⟩
  nodup := by simp [D.blks]
  le := by rw [hb]; exact ZX.arr (.inl (by omega))
  frz := (Frz.of_eq hwd).trans (DV wd _ rfl) }
 have hext := UZ (g := g) T;refine ⟨Kh hi T ?_, hext⟩;refine ⟨_, newCap, _, rfl, ⟨_, newCap, rfl, by simpa using hfit, ?_⟩, hp⟩;simp only [Bool.and_self, if_true];refine ⟨trivial, inner ++ news, [], rfl, ⟨(inner ++ news ++ rest).toArray, e, ?_, ?_, ?_⟩, Ye.ofRo hnu ((hx.append hz).imp (fun y c S1 hs hr => ?_))⟩
 ·show (wd.heap.push _)[w.heap.size]? = _
  rw [hwd.heap];exact J5
 ·simp only [Nat.zero_add, List.size_toArray, List.length_append, e1, e2, hrest, ← Nat.add_mul]
  exact Nat.mul_le_mul_right _ (by omega)
 ·intro j c hj
  simp only [Nat.zero_add, List.getElem?_toArray];rw [List.getElem?_append_left (List.getElem?_eq_some_iff.1 hj).1];exact hj
 ·have : S1 = [] := List.eq_nil_iff_forall_not_mem.2 (fun b hb => by simpa using hs b hb)
  subst this;exact hr.mono hext.im _ _ _ _ _ (by simp)
theorem Zcv (hE : EnvOk0 P E) {L : Nat} (hL63 : L ≤ 4611686018427387904) {c : Call} {x y : Operand} {t t' : TypeId} {K : SV → List Blk → Option R} {r : R} (ho : o.op = .call c) (hc : c.callee = .builtin .append)
  (ha : c.args.toList = [x, y]) (hat : c.argTypes.toList = [t, t']) (hL : ∀ ty bs e a inf, E.ti t = some ⟨ty, bs, .slice e⟩ → E.ty e = some a → P.info? e = some inf → ∀ k, k ≤ L → (2 * k + 512) * inf.bytes ≤ 281474976710656) (he : J2 E L h t t' (gt x) (gt y) K = some r) : ∃ v h', Z2 P o gt h v h' ∧ K v h' = some r := by
 have hx1 : x ∈ o.op.operands.toList := by rw [ho]; simp [Op.operands, Call.operands, hc, ha]
 have hy1 : y ∈ o.op.operands.toList := by rw [ho]; simp [Op.operands, Call.operands, hc, ha]
 unfold J2 at he
 split at he
 ·rename_i ty bs e hi
  split at he
  ·rename_i a hae
   cases hnu : a.noUq with
   | false => rw [hnu] at he; cases he
   | true =>
    rw [hnu] at he;simp only [cond_true] at he
    split at he
    ·rename_i ys hys
     obtain ⟨d', q1, q2, q3⟩ := Ziz hE hys;obtain ⟨d, k1, k2, k3⟩ := (hE.ti t _ hi).desc;obtain ⟨k4, ie, k5, k6⟩ := k3;obtain ⟨inf, d2, m1, m2, m3, m4, m5, m6, m7⟩ := LK hE hae;have hL' := hL _ _ _ _ _ hi hae m1;have hz : (mkV a (Zp a)).cells.size = a.size := by
      have h1 := (Z0 (im := fun _ => False) (w := default) (o := false) a).cells;have h2 := (Z0 (im := fun _ => False) (w := default) (o := false) a).len;rw [← Array.length_toList, h1, h2]
     have conv : ∀ (g : G) (w : World) (rho : Rho) (inner : List Value), Inv g rho h w → Ye (TR (QC (zOf g rho h w) true (VN (gt y))) w false a) ys inner [] →
       Ye (TR (Im g rho (UM h (bif a.hasSl then VN (gt y) else [])) w) w false a) ys inner [] := by
      intro g w rho inner hinv hr;cases hsl : a.hasSl with
      | true => exact hr.imIn (fun k hk => FS hinv hk)
      | false => exact hr.noSl hsl
     split at he
     ·rename_i hgx
      split at he
      ·rename_i hle
       refine ⟨_, _, fun g ac w rho hinv hv next Q hn => ?_, he⟩;have hvx := hv x hx1;rw [hgx] at hvx;simp only [V] at hvx;obtain ⟨inner, r1, r2, r3⟩ := q3 g w rho _ hinv (hv y hy1);have hil := Ye.len (fun _ _ _ hr => hr.len) r1;have r1' := conv g w rho inner hinv r1
       have hik := HH (bif a.hasSl then VN (gt y) else []) h hinv;have hek := J3 (g := g) (rho := rho) (w := w) (bif a.hasSl then VN (gt y) else []) h;obtain ⟨fit, grow⟩ := J9 (n' := L) (P := P) (ty := o.type) (XE := none) (n := 0) (cap := 0) (olds := []) (by rw [k1, k4]) q1 q2 m1 m2 m3 hz hL63 hL' r2 r3 (fun w' _ => rfl) (by simp) hil (by omega)
       by_cases hy0 : ys = []
       ·subst hy0
        have := fit (by simp);obtain ⟨i1, i2, i3⟩ := ZhG (a := a) hik m6 0;rw [J4] at i1 i2 i3;unfold Oper.wp;rw [Yi (P := P) (a := ac) (w := w) (w' := w) (v := .slice none 0 0) ho hc ha hat (by rw [hvx]; simpa using this)];exact hn _ _ _ i1 i3 (hek.trans i2)
       ·have hpos : 0 < ys.length := List.length_pos_iff.2 hy0
        obtain ⟨newCap, rest, wd, g1, g2, g3, g4⟩ := grow (by omega);obtain ⟨j1, j2⟩ := hik.world (w' := wd) g2;have r1'' : Ye (TR (Im g rho (UM h (bif a.hasSl then VN (gt y) else [])) wd) wd false a) ys inner [] := r1'.imp (fun y' c' S1 hs hr => by
         have : S1 = [] := List.eq_nil_iff_forall_not_mem.2 (fun b hb => by simpa using hs b hb);subst this;exact hr.mono j2.im _ _ _ _ _ (by simp))
        obtain ⟨i1, i2, i3⟩ := LL (all := ([] ++ inner ++ rest).toArray) (e := e) (cap := newCap) j1 m6 (Ye.ofRo hnu r1'') (by
         intro j u hj;simp only [List.getElem?_toArray, List.nil_append];rw [List.getElem?_append_left (by exact (List.getElem?_eq_some_iff.1 hj).1)];exact hj) (by
         simp only [List.nil_append, List.size_toArray, List.length_append, hil, g3, ← Nat.add_mul];exact Nat.mul_le_mul_right _ (by omega)) (by omega) 0
        rw [J4] at i1 i2 i3;unfold Oper.wp;rw [Yi (P := P) (a := ac) (w := w) ho hc ha hat (by rw [hvx]; exact g4)];rw [g2.heap] at i1 i2 i3;simp only [Nat.zero_add];exact hn _ _ _ i1 i3 (hek.trans (j2.trans i2))
      ·cases he
     ·rename_i b v hgx
      split at he
      ·rename_i v' a' xs hb
       split at he
       ·rename_i ev
        subst ev
        split at he
        ·rename_i zs hzs
         cases hcond : (a'.noUq && !((VN (gt y)).any (Nat.beq b))) with
         | false => rw [hcond] at he; cases he
         | true =>
          rw [hcond] at he;simp only [cond_true] at he;simp only [Bool.and_eq_true, Bool.not_eq_true'] at hcond;obtain ⟨hnu', hnb⟩ := hcond;have hnb := Zfs hnb
          split at he
          ·rename_i hle
           refine ⟨_, _, fun g ac w rho hinv hv next Q hn => ?_, he⟩;have hvx := hv x hx1;rw [hgx] at hvx;obtain ⟨A, cap, S, u1, u2⟩ := ZaE (z := zOf g rho h w) hvx hb rfl;obtain ⟨inner, r1, r2, r3⟩ := q3 g w rho _ hinv (hv y hy1);have hil := Ye.len (fun _ _ _ hr => hr.len) r1;have hik := HH (bif a.hasSl then VN (gt y) else []) h hinv;have hek := J3 (g := g) (rho := rho) (w := w) (bif a.hasSl then VN (gt y) else []) h;have hnbk : b ∉ (bif a.hasSl then VN (gt y) else []) := by cases a.hasSl <;> simp [hnb]
           have hkb : nth (UM h (bif a.hasSl then VN (gt y) else [])) b = some (.arr v' a' xs) := by rw [Kg _ _ hnbk]; exact hb
           obtain ⟨z1, z2, z3⟩ := ZdR hzs (conv g w rho inner hinv r1);have hsz' : a'.size = a.size := (Ty.eqv_size z3).symm;have hsim := hik.sim b _ u1;rw [hkb] at hsim;obtain ⟨A1, cap1, S1, w1, w2, wpos⟩ := hsim;cases w1;obtain ⟨A2, cap2, n1, n2, n3⟩ := w2;simp only [List.cons.injEq, and_true, Value.slice.injEq] at n1;obtain ⟨rfl, _, rfl⟩ := n1;simp only [Bool.and_self, if_true] at n3;have hzl : zs.length = ys.length := z2;have hkn : nth (upd (UM h (bif a.hasSl then VN (gt y) else [])) b (.arr (v' + 1) a' (xs ++ zs))) b = some (.arr (v' + 1) a' (xs ++ zs)) := ZW hkb;cases A with
           | none =>
            obtain ⟨rfl, rfl, rfl⟩ := n3;obtain ⟨fit, grow⟩ := J9 (n' := L) (P := P) (ty := o.type) (w := w) (XE := none) (n := 0) (cap := 0) (olds := []) (by rw [k1, k4]) q1 q2 m1 m2 m3 hz hL63 hL' r2 r3 (fun w' _ => rfl) (by simp) hil (by simpa using hle)
            by_cases hy0 : ys = []
            ·have hz0 : zs = [] := List.length_eq_zero_iff.1 (by rw [hzl, hy0]; rfl)
             subst hz0;have hrun := fit (by rw [hy0]; simp);have T : Zks rho (UM h (bif a.hasSl then VN (gt y) else [])) w b (.s none 0 []) (.s none 0 []) (.arr (v' + 1) a' ([] ++ [])) w := {
              at0 := u1
              live0 := by rw [hkb]; trivial
              live1 := trivial
              size := Nat.le_refl _
              same := fun _ _ _ => rfl
              sub := fun k hk => .inl hk
              nodup := by simp [D.blks]
              le := by rw [hkb]; exact ZX.arr (.inl (by omega))
              frz := Frz.refl _ }
             have hext := UZ (g := g) T;have hti := Kh hik T ⟨none, 0, [], rfl, ⟨none, 0, rfl, Nat.le_refl _, by simp⟩, wpos⟩;unfold Oper.wp;rw [Yi (P := P) (a := ac) (w := w) (w' := w) (v := .slice none 0 0) ho hc ha hat (by rw [u2]; simpa [hy0] using hrun)];exact hn _ _ _ hti (Ki (z := zOf g _ _ w) hkn Z7 rfl) (hek.trans hext)
            ·have hpos : 0 < ys.length := List.length_pos_iff.2 hy0
             obtain ⟨newCap, rest, wd, g1, g2, g3, g4⟩ := grow (by omega);obtain ⟨i1, i2⟩ := Zcu (e := e) (newCap := newCap) (rest := rest) hik hkb u1 (inner := []) ⟨rfl, rfl⟩ z1 hnu' wpos (by simpa [hzl] using g1) g2 (by rw [g3, hsz', hzl]; simp);unfold Oper.wp;rw [Yi (P := P) (a := ac) (w := w) ho hc ha hat (by rw [u2]; exact g4)];exact hn _ _ _ i1 (Ki (z := zOf g _ _ _) hkn Z7 (by simp [hzl])) (hek.trans i2)
           | some ad =>
            obtain ⟨hsp, inner0, S', e1, e2, e3⟩ := n3;obtain ⟨e4, e5⟩ := e3.noUq hnu';subst e4;have hl0 := Ye.len (fun _ _ _ hr => hr.len) e5;obtain ⟨fit, grow⟩ := J9 (n' := L) (P := P) (ty := o.type) (w := w) (XE := some ad) (n := xs.length) (cap := cap) (olds := inner0) (by rw [k1, k4]) q1 q2 m1 m2 m3 hz hL63 hL' r2 r3 (fun w' hw => by
             have hrd : VS w' ad inner0 := (VS.of_block e2).mono (by rw [hw]; rfl);exact Sx.run_loadCells hsp (by rw [hl0, hsz']) hrd) (by rw [hl0, hsz']) hil hle
            by_cases hfit : xs.length + ys.length ≤ cap
            ·have hrun := fit hfit
             obtain ⟨w', f1, f2, f3⟩ := ZkQ (P := P) hik hkb u1 hsp e1 e2 e5 z1 hnu' wpos (by rw [hzl]; exact hfit);have hadd : ad.add (xs.length * a.size) = ⟨ad.block, ad.off + inner0.length, none⟩ := by rw [WV hsp, hl0, hsz']
             dsimp only at hrun;rw [hadd, f1] at hrun;unfold Oper.wp;rw [Yi (P := P) (a := ac) (w := w) ho hc ha hat (by rw [u2]; exact hrun)];exact hn _ _ _ f2 (Ki (z := zOf g _ _ w') hkn Z7 (by simp [hzl])) (hek.trans f3)
            ·obtain ⟨newCap, rest, wd, g1, g2, g3, g4⟩ := grow (by omega)
             obtain ⟨i1, i2⟩ := Zcu (e := e) (newCap := newCap) (rest := rest) hik hkb u1 e5 z1 hnu' wpos (by rw [hzl]; exact g1) g2 (by rw [g3, hsz', hzl]);unfold Oper.wp;rw [Yi (P := P) (a := ac) (w := w) ho hc ha hat (by rw [u2]; exact g4)];exact hn _ _ _ i1 (Ki (z := zOf g _ _ _) hkn Z7 (by simp [hzl])) (hek.trans i2)
          ·cases he
        ·cases he
       ·cases he
      ·cases he
     ·cases he
    ·cases he
  ·cases he
 ·cases he
theorem Zfw (hE : EnvOk0 P E) {c : Call} {x y : Operand} {t t' : TypeId} {K : SV → List Blk → Option R} {r : R} (ho : o.op = .call c) (hc : c.callee = .builtin .append)
  (ha : c.args.toList = [x, y]) (hat : c.argTypes.toList = [t, t']) (he : QB E h t t' (gt x) (gt y) K = some r) : ∃ v h', Z2 P o gt h v h' ∧ K v h' = some r :=
 Zcv hE (by decide) ho hc ha hat (fun _ _ _ _ inf _ h2 h3 k hk => by
  obtain ⟨inf', _, k1, _, _, _, _, _, k2⟩ := LK hE h2;rw [h3] at k1;cases k1;exact Nat.le_trans (Nat.mul_le_mul_left _ k2) (Zct hk)) he
theorem Zjv (hE : EnvOk0 P E) {c : Call} {x y : Operand} {t t' : TypeId} {K : SV → List Blk → Option R} {r : R} (ho : o.op = .call c) (hc : c.callee = .builtin .append)
  (ha : c.args.toList = [x, y]) (hat : c.argTypes.toList = [t, t']) (hs : Pv E t = true) (he : J2 E Zq5 h t t' (gt x) (gt y) K = some r) : ∃ v h', Z2 P o gt h v h' ∧ K v h' = some r :=
 Zcv hE (by decide) ho hc ha hat (fun _ _ _ _ inf h1 _ h3 k hk => by
  unfold Pv at hs;rw [h1] at hs;dsimp only at hs
  split at hs
  ·rename_i i hi
   obtain ⟨inf', k1, _, k2, _⟩ := (hE.ti _ _ hi).info;rw [h3] at k1;cases k1;rw [k2];have hb := Nat.le_of_ble_eq_true hs;unfold Zq5 at hk;exact Nat.le_trans (Nat.mul_le_mul_left _ hb) (by omega)
  ·cases hs) he
end
end Go.Sx
namespace Go.Sx
open Go
section
variable {R : Type} {P : Program} {E : Env} {o : Oper} {gt : Operand → SV} {h : List Blk}
theorem Zjw {lo : Option Operand} {hi mx : Operand} {n : Nat} {K : Nat → Nat → Option R} {r : R} (he : Vl (lo.map gt) (some (gt hi)) n K = some r) :
  ∃ i j, K i j = some r ∧ i ≤ j ∧ j ≤ n ∧ ∀ (z : Z) (ev : Operand → Value), (∀ x ∈ lo, V z (gt x) (ev x)) → V z (gt hi) (ev hi) → ∀ (k : IntKind) (m : Int), ev mx = .int k m → 0 ≤ m → m.toNat = n → ∀ (len cap : Nat) (w : World), n ≤ cap →
   (Instr.sliceBounds true len cap (lo.map ev) (some (ev hi)) (some (ev mx))).run P w = .ok (i, j, n) w := by
 unfold Vl at he;dsimp only at he
 split at he
 ·rename_i k j hu
  split at he
  ·rename_i h0
   split at he
   ·rename_i h1
    cases lo with
    | none =>
     simp only [Option.map_none] at he;refine ⟨0, j.toNat, he, Nat.zero_le _, by omega, fun z ev _ hv km m hm hm0 hmn len cap w hc => ?_⟩;unfold Instr.sliceBounds;dsimp only [Option.map_some, Option.map_none];show ((Instr.sliceBound (ev mx) cap _ >>= fun m => Instr.sliceBound (ev hi) m _ >>= fun h => pure 0 >>= fun l => _) : Sem _).run P w = _;rw [run_bind_ok (YU hm hm0 (by omega)), run_bind_ok (YU (QF hv hu) h0 (by omega)), run_bind_ok (run_pure P _ _), hmn];rfl
    | some l =>
     simp only [Option.map_some] at he
     split at he
     ·rename_i k2 i hl
      split at he
      ·rename_i h2
       split at he
       ·rename_i h3
        refine ⟨i.toNat, j.toNat, he, by omega, by omega, fun z ev hv hv2 km m hm hm0 hmn len cap w hc => ?_⟩;unfold Instr.sliceBounds;dsimp only [Option.map_some, Option.map_none];show ((Instr.sliceBound (ev mx) cap _ >>= fun m => Instr.sliceBound (ev hi) m _ >>= fun h => Instr.sliceBound (ev l) h _ >>= fun l => _) : Sem _).run P w = _;rw [run_bind_ok (YU hm hm0 (by omega)), run_bind_ok (YU (QF hv2 hu) h0 (by omega)),
         run_bind_ok (YU (QF (hv l rfl) hl) h2 (by omega)), hmn]
        rfl
       ·cases he
      ·cases he
     ·cases he
   ·cases he
  ·cases he
 ·cases he
theorem ZkR (hE : EnvOk0 P E) {t : TypeId} {x : Operand} {lo : Option Operand} {hi mx : Operand} {K : SV → Option R} {r : R} (ho : o.op = .slice t x lo (some hi) (some mx))
  (he : LD E h t (gt x) (lo.map gt) (gt hi) (gt mx) K = some r) : ∃ v, Z2 P o gt h v h ∧ K v = some r := by
 have hx1 : x ∈ o.op.operands.toList := by rw [ho]; simp [Op.operands]
 have hlo : ∀ y ∈ lo, y ∈ o.op.operands.toList := by intro y hy; rw [ho]; simp only [Op.operands]; cases hy; simp
 have hhi : hi ∈ o.op.operands.toList := by rw [ho]; simp [Op.operands]
 have hmx : mx ∈ o.op.operands.toList := by rw [ho]; simp [Op.operands]
 unfold LD at he
 split at he
 ·rename_i b v k m hg hm
  split at he
  ·rename_i v' a xs hb
   split at he
   ·rename_i e
    cases hs : HB E t a with
    | false => rw [hs] at he; cases he
    | true =>
     rw [hs] at he;simp only [cond_true] at he
     split at he
     ·rename_i hm0
      split at he
      ·rename_i hm1
       obtain ⟨i, j, h1, h2, h3, h4⟩ := Zjw (P := P) (mx := mx) he;refine ⟨_, ?_, h1⟩;refine YC (fun rho => Instr.sliceAt t (rho x) (lo.map rho) (some (rho hi)) (some (rho mx))) (fun rho => by unfold execOp; rw [ho]; rfl) (fun g ac w rho hi' hv => ?_);have hvx := hv x hx1;rw [hg] at hvx;obtain ⟨A, cap, S, h5, h6⟩ := ZaE hvx hb e;obtain ⟨e1, ie, inf, h8, _, _, h9, h10⟩ := XS hE hs;have hsim := hi'.sim b _ h5;rw [hb] at hsim;obtain ⟨A1, cap1, S1, k1, k2, k3⟩ := hsim;cases k1;have hcap : xs.length ≤ cap := by
        obtain ⟨A2, cap2, m1, m2, m3⟩ := k2;simp only [List.cons.injEq, and_true, Value.slice.injEq] at m1;obtain ⟨_, _, rfl⟩ := m1;exact m2
       have hbd := h4 (zOf g rho h w) ac.eval (fun y hy => hv y (hlo y hy)) (hv hi hhi) k m (QF (hv mx hmx) hm) hm0 rfl xs.length cap w (by omega);rw [h6];have hrun : ∃ cv, (Instr.sliceAt t (.slice A xs.length cap) (lo.map ac.eval) (some (ac.eval hi)) (some (ac.eval mx))).run P w = .ok cv w := by
        rw [VV h8 (by intro n e h; cases h)];unfold Instr.slice;rw [run_bind_ok (run_underlying h8)];dsimp only;rw [run_bind_ok hbd];dsimp only;rw [run_bind_ok (run_sizeOf h9)];exact ⟨_, rfl⟩
       obtain ⟨cv, hr⟩ := hrun;exact ⟨cv, hr, by simp only [V]⟩
      ·cases he
     ·cases he
   ·cases he
  ·cases he
 ·cases he
theorem ZkS (hE : EnvOk0 P E) {t : TypeId} {x : Operand} {lo hi : Option Operand} {K : SV → Option R} {r : R} (ho : o.op = .slice t x lo hi none)
  (he : Zcm E h t (gt x) (lo.map gt) (hi.map gt) K = some r) : ∃ v, Z2 P o gt h v h ∧ K v = some r := by
 have hx1 : x ∈ o.op.operands.toList := by rw [ho]; simp [Op.operands]
 have hlo : ∀ y ∈ lo, y ∈ o.op.operands.toList := by intro y hy; rw [ho]; simp only [Op.operands]; cases hy; simp
 have hhi : ∀ y ∈ hi, y ∈ o.op.operands.toList := by intro y hy; rw [ho]; simp only [Op.operands]; cases hy; simp
 unfold Zcm at he
 split at he
 ·rename_i b v n hi0 hg hhi0
  cases hi with
  | none => cases hhi0
  | some hio =>
  simp only [Option.map_some, Option.some.injEq] at hhi0;subst hhi0
  split at he
  ·rename_i v' a xs hb
   split at he
   ·rename_i e
    cases hs : HB E t a with
    | false => rw [hs] at he; cases he
    | true =>
     rw [hs] at he;simp only [cond_true] at he;obtain ⟨i, j, h1, h2, h3, h4⟩ := Qs (P := P) (lo := lo) (hi := some hio) he;refine ⟨_, ?_, h1⟩;refine YC (fun rho => Instr.sliceAt t (rho x) (lo.map rho) (some (rho hio)) none) (fun rho => by unfold execOp; rw [ho]; rfl) (fun g ac w rho hi' hv => ?_);have hvx := hv x hx1;rw [hg] at hvx;obtain ⟨h0, A, cap, S, o', cap', h5, h6, h7, h7b, h7c, h7d⟩ := Zhw hvx hb e;obtain ⟨rfl, rfl⟩ := h7d rfl;obtain ⟨e1, ie, inf, h8, _, _, h9, h10⟩ := XS hE hs;have hsim := hi'.sim b _ h5;rw [hb] at hsim;obtain ⟨A1, cap1, S1, k1, k2, k3⟩ := hsim;cases k1;have hcap : xs.length ≤ cap' := by
      obtain ⟨A2, cap2, m1, m2, m3⟩ := k2;simp only [List.cons.injEq, and_true, Value.slice.injEq] at m1;obtain ⟨_, _, rfl⟩ := m1;exact m2
     have hbd : (Instr.sliceBounds true n cap' (lo.map ac.eval) (some (ac.eval hio)) none).run P w = .ok (i, j, cap') w := by
      -- the high bound stands: how long it is does not matter
      have hx := h4 (zOf g rho h w) ac.eval (fun y hy => hv y (hlo y hy)) (fun y hy => hv y (hhi y hy)) true cap' w hcap (fun h => by cases h);simp only [Option.map_some] at hx;exact hx
     rw [h6];have hspot : ∀ ad, WK A 0 = some ad → ad.spot = none := by
      intro ad hA;cases A with
      | none => cases hA
      | some a2 => simp only [WK, Option.map_some, Option.some.injEq] at hA; subst hA; rfl
     have hrun : (Instr.sliceAt t (.slice (WK A 0) n cap') (lo.map ac.eval) (some (ac.eval hio)) none).run P w = .ok (.slice (WK A (if cap' = i then 0 else i * a.size)) (j - i) (cap' - i)) w := by
      rw [VV h8 (by intro n e h; cases h)];unfold Instr.slice;rw [run_bind_ok (run_underlying h8)];dsimp only;rw [run_bind_ok hbd];dsimp only;rw [run_bind_ok (run_sizeOf h9), h10];have : (if cap' = i then WK A 0 else (WK A 0).map fun x => x.add (i * a.size)) = WK A (if cap' = i then 0 else i * a.size) := by
       cases A with
       | none => simp [WK]
       | some ad =>
        simp only [WK, Option.map_some]
        split
        ·rfl
        ·rw [WV rfl]; simp
      rw [this];rfl
     refine ⟨_, hrun, ?_⟩;simp only [V];refine ⟨⟨_, _, _, rfl⟩, ?_⟩;refine Va (o := nth h b) hb ?_;refine ⟨by omega, fun _ => ⟨by omega, A, cap', S, _, _, h5, rfl, by omega, ?_, fun hn => ?_, fun h0 => ?_⟩⟩
     ·split
      ·rename_i hci; subst hci; simp
      ·rw [← Nat.add_mul]; exact Nat.mul_le_mul_right _ (by omega)
     ·rw [if_neg (by omega)]
     ·subst h0; simp
   ·cases he
  ·cases he
 ·exact Ziw hE ho he
theorem Ty.flat_noUq : ∀ {t : Ty}, t.hasSl = false → t.noUq = true
 | .int _, _ => rfl
 | .bool, _ => rfl
 | .str, _ => rfl
 | .unit, _ => rfl
 | .pair a b, h => by
  simp only [Ty.hasSl, Bool.or_eq_false_iff] at h;simp only [Ty.noUq, Ty.flat_noUq h.1, Ty.flat_noUq h.2, Bool.and_self]
 | .sl _ _, h => by cases h
theorem Ty.eqv_hasSl : ∀ {s t : Ty}, s.eqv t = true → s.hasSl = t.hasSl
 | .int _, .int _, _ => rfl
 | .bool, .bool, _ => rfl
 | .str, .str, _ => rfl
 | .unit, .unit, _ => rfl
 | .pair _ _, .pair _ _, h => by
  simp only [Ty.eqv, Bool.and_eq_true] at h;simp only [Ty.hasSl, Ty.eqv_hasSl h.1, Ty.eqv_hasSl h.2]
 | .sl _ _, .sl _ _, _ => rfl
theorem Ty.eqv_zero : ∀ {s t : Ty}, s.eqv t = true → Zp s = Zp t
 | .int k, .int k', h => by
  have : k = k' := by simpa [Ty.eqv] using h
  subst this; rfl
 | .bool, .bool, _ => rfl
 | .str, .str, _ => rfl
 | .unit, .unit, _ => rfl
 | .pair _ _, .pair _ _, h => by
  simp only [Ty.eqv, Bool.and_eq_true] at h;simp only [Zp, Ty.eqv_zero h.1, Ty.eqv_zero h.2]
 | .sl _ _, .sl _ _, _ => rfl
theorem Ew {t t' e ty : TypeId} {d : TypeDesc} {inf : TypeInfo} {sz : Nat} (ht : P.underlying t = some (.slice e)) (ht' : P.underlying t' = some d) (hd : (∃ u, d = .slice u) ∨ d = .string)
  (hi : P.info? e = some inf) (hsz : inf.size = sz) {XE : Option Addr} {n cap : Nat} {x : Value} {m : Nat} {news : List Value} {w : World}
  (hl : ∀ w' : World, (Builtin.lenOf x).run P w' = .ok m w') (hnews : ∀ w' : World, w'.heap = w.heap → (Builtin.firstCells sz m x).run P w' = .ok news.toArray w') (hfit : n + m ≤ cap) :
  (Builtin.append_ #[t, t'] ty #[.slice XE n cap, x]).run P w =
   match XE with
   | some a => (match (storeCells (a.add (n * sz)) news).run P w with | .ok _ w' => .ok (.slice XE (n + m) cap) w' | .halt h w' => .halt h w')
   | none => .ok (.slice XE (n + m) cap) w := by
 rcases hd with ⟨u, rfl⟩ | rfl
 all_goals
  unfold Builtin.append_;simp only [List.getElem?_toArray, List.getElem?_cons_zero, List.getElem?_cons_succ];rw [Sx.run_bind_ok (Sx.run_underlying ht)];dsimp only;rw [Sx.run_bind_ok (Sx.run_sizeOf hi), Sx.run_bind_ok (Sx.run_underlying ht'), Sx.run_bind_ok (Sx.run_pure P _ _)];dsimp only;simp only [Bool.false_eq_true, if_false];rw [Sx.run_bind_ok (hl w), if_pos hfit];simp only [Bool.not_false, if_true];rw [hsz, Sx.run_bind_ok (hnews w rfl)];cases XE with
  | none => rfl
  | some a =>
   dsimp only;rw [Sx.run_bind];cases (storeCells (a.add (n * sz)) news).run P w <;> rfl
theorem ZiA {g : G} {rho : Rho} {w : World} {b v cap p : Nat} {ad : Addr} {S : List Nat} {a : Ty} {xs zs : List a.den} {news : List Value} (hi : Inv g rho h w) (hb : nth h b = some (.arr v a xs))
  (hr : rho b = some (.s (some ad) cap S)) (hz : Ye (TR (fun _ => False) w false a) zs news []) (hnu : a.hasSl = false) (hfit : p + zs.length ≤ xs.length) :
  ∃ w', (storeCells ⟨ad.block, ad.off + p * a.size, none⟩ news).run P w = .ok () w' ∧ Inv g (Yk rho b (.s (some ad) cap S)) (upd h b (.arr v a (xs.take p ++ (zs ++ xs.drop (p + zs.length))))) w' ∧
   Ext (zOf g rho h w) (zOf g (Yk rho b (.s (some ad) cap S)) (upd h b (.arr v a (xs.take p ++ (zs ++ xs.drop (p + zs.length))))) w') := by
 have hno := Ty.flat_noUq hnu;have hsim := hi.sim b _ hr;rw [hb] at hsim;obtain ⟨A1, cap1, S1, k1, k2, kpos⟩ := hsim;cases k1;obtain ⟨A2, cap2, m1, m2, m3⟩ := k2;simp only [List.cons.injEq, and_true, Value.slice.injEq] at m1;obtain ⟨rfl, _, rfl⟩ := m1;simp only [Bool.and_self, if_true] at m3;obtain ⟨hsp, inner, S', mS, m5, m6⟩ := m3;obtain ⟨mS', m7⟩ := m6.noUq hno;subst mS';have e1 := Ye.len (fun _ _ _ hr => hr.len) m7;have e2 := Ye.len (fun _ _ _ hr => hr.len) hz;have hmul : p * a.size + zs.length * a.size ≤ xs.length * a.size := by rw [← Nat.add_mul]; exact Nat.mul_le_mul_right _ hfit
 have hcapn : inner.length ≤ cap * a.size := by rw [e1]; exact Nat.mul_le_mul_right _ m2
 obtain ⟨all, e, n1, n2, n3⟩ := m5.put (o := p * a.size) (ds := news) (by omega) hcapn;have hst := WL (P := P) (A := ⟨ad.block, ad.off + p * a.size, none⟩) rfl rfl news 0 w all n1 (by simpa using n2) (Ye.one (fun _ _ _ hr => hr.ones) hz);simp only [Nat.add_zero] at hst;refine ⟨_, hst, ?_⟩;have hw : (if news = [] then w else Yb w ad.block (.cells (put1 all (ad.off + p * a.size) news).toArray e (0, 0))).heap.size = w.heap.size := by split; rfl; exact Ww
 have hwk : ∀ k, k ≠ ad.block → (if news = [] then w else Yb w ad.block (.cells (put1 all (ad.off + p * a.size) news).toArray e (0, 0))).heap[k]? = w.heap[k]? := by
  intro k hk; split; rfl; exact WY hk
 have hba' : X5 (if news = [] then w else Yb w ad.block (.cells (put1 all (ad.off + p * a.size) news).toArray e (0, 0))) ad (cap * a.size) (put1 inner (p * a.size) news) := by
  split
  ·rename_i hn; subst hn
   have m5' : X5 w ad (cap * a.size) inner := m5;simpa [put1] using m5'
  ·exact n3
 have hlen : (xs.take p ++ (zs ++ xs.drop (p + zs.length))).length = xs.length := by simp only [List.length_append, List.length_take, List.length_drop]; omega
 have T : Zks rho h w b (.s (some ad) cap S) (.s (some ad) cap S) (.arr v a (xs.take p ++ (zs ++ xs.drop (p + zs.length)))) (if news = [] then w else Yb w ad.block (.cells (put1 all (ad.off + p * a.size) news).toArray e (0, 0))) := {
  at0 := hr
  live0 := by rw [hb]; trivial
  live1 := trivial
  size := by rw [hw]; exact Nat.le_refl _
  same := fun k _ hnk => hwk k (by intro ek; subst ek; exact hnk (by simp [D.blks, mS]))
  sub := fun k hk => .inl hk
  nodup := hi.nodup b _ hr (by rw [hb]; trivial)
  le := by rw [hb]; exact ZX.arr (.inr ⟨rfl, rfl, hlen, Kd.refl _⟩)
  frz := by split; exact Frz.refl _; exact LH }
 have hext := UZ (g := g) T;refine ⟨Kh hi T ?_, hext⟩;refine ⟨some ad, cap, S, rfl, ⟨some ad, cap, by rw [hlen], by rw [hlen]; exact m2, ?_⟩, kpos⟩;simp only [Bool.and_self, if_true];refine ⟨hsp, put1 inner (p * a.size) news, [], mS, hba', Ye.ofRo hno ?_⟩;have hold : Ye (TR (fun _ => False) w false a) xs inner [] := m7.noSl hnu;have h1 := Ye.take (fun _ _ _ hr => hr.len) p hold;have h2 := Ye.drop (fun _ _ _ hr => hr.len) (p + zs.length) hold;have h3 := h1.append (hz.append h2);have : put1 inner (p * a.size) news = inner.take (p * a.size) ++ (news ++ inner.drop ((p + zs.length) * a.size)) := by
  unfold put1;rw [e2, Nat.add_mul, List.append_assoc]
 rw [this];exact h3.noSl hnu
theorem ZnK {z : Z} {b v off n cap : Nat} {A : Option Addr} {S : List Nat} {a : Ty} {x : List a.den} (hb : nth z.h b = some (.arr v a x)) (hr : z.rho b = some (.s A cap S)) (hn : n ≤ x.length) (hc : x.length ≤ cap) (h0 : off = 0) : V z (.sub b v off n) (.slice (WK A 0) n cap) := by
 subst h0;simp only [V];refine ⟨⟨_, _, _, rfl⟩, ?_⟩;exact Va (o := nth z.h b) hb ⟨Nat.le_refl _, fun _ => ⟨by omega, A, cap, S, 0, cap, hr, rfl, by omega, by omega, fun _ => by omega, fun _ => ⟨rfl, rfl⟩⟩⟩
theorem Zjx (hE : EnvOk0 P E) {c : Call} {x y : Operand} {t t' : TypeId} {K : SV → List Blk → Option R} {r : R} (ho : o.op = .call c) (hc : c.callee = .builtin .append)
  (ha : c.args.toList = [x, y]) (hat : c.argTypes.toList = [t, t']) {b v n : Nat} (hgx : gt x = .sub b v 0 n) (he : FK E h t t' (gt x) (gt y) K = some r) : ∃ v h', Z2 P o gt h v h' ∧ K v h' = some r := by
 have hx1 : x ∈ o.op.operands.toList := by rw [ho]; simp [Op.operands, Call.operands, hc, ha]
 have hy1 : y ∈ o.op.operands.toList := by rw [ho]; simp [Op.operands, Call.operands, hc, ha]
 unfold FK at he;rw [hgx] at he
 split at he
 rotate_left
 ·rename_i hne
  exact absurd rfl (hne b v n)
 rename_i b1 v1 n1 hq;cases hq
 split at he
 ·rename_i ty bs e hi
  split at he
  ·rename_i a hae
   cases hnu : a.hasSl with
   | true => rw [hnu] at he; cases he
   | false =>
    rw [hnu] at he;simp only [cond_false] at he
    split at he
    ·rename_i ys hys
     obtain ⟨d', q1, q2, q3⟩ := Ziz hE hys;obtain ⟨d, k1, k2, k3⟩ := (hE.ti t _ hi).desc;obtain ⟨k4, ie, k5, k6⟩ := k3;obtain ⟨inf, d2, m1, m2, m3, m4, m5, m6, m7⟩ := LK hE hae;have hz : (mkV a (Zp a)).cells.size = a.size := by
      have h1 := (Z0 (im := fun _ => False) (w := default) (o := false) a).cells;have h2 := (Z0 (im := fun _ => False) (w := default) (o := false) a).len;rw [← Array.length_toList, h1, h2]
     split at he
     ·rename_i v' a' xs hb
      split at he
      ·rename_i ev
       subst ev
       split at he
       ·rename_i zs hzs
        split at he
        ·rename_i hle
         refine ⟨_, _, fun g ac w rho hinv hv next Q hn => ?_, he⟩;have hvx := hv x hx1;rw [hgx] at hvx;obtain ⟨u0, A, cap, S, o', cap', u1, u2, u3, u4, u5, u6⟩ := Zhw (z := zOf g rho h w) hvx hb rfl;obtain ⟨rfl, rfl⟩ := u6 rfl;obtain ⟨inner, r1, r2, r3⟩ := q3 g w rho _ hinv (hv y hy1);have hil := Ye.len (fun _ _ _ hr => hr.len) r1;have r1' : Ye (TR (fun _ => False) w false a) ys inner [] := r1.noSl hnu;obtain ⟨z1, z2, z3⟩ := ZdR hzs r1';have hzl : zs.length = ys.length := z2;have hsz' : a'.size = a.size := (Ty.eqv_size z3).symm;have hnu' : a'.hasSl = false := by rw [← Ty.eqv_hasSl z3]; exact hnu
         have hsim := hinv.sim b _ u1;rw [hb] at hsim;obtain ⟨A1, cap1, S1, w1, w2, wpos⟩ := hsim;cases w1;obtain ⟨A2, cap2, n1, n2, n3⟩ := w2;simp only [List.cons.injEq, and_true, Value.slice.injEq] at n1;obtain ⟨rfl, _, rfl⟩ := n1;simp only [Bool.and_self, if_true] at n3;have hlen : (xs.take n ++ (zs ++ xs.drop (n + zs.length))).length = xs.length := by simp only [List.length_append, List.length_take, List.length_drop]; omega
         have hkn : nth (upd h b (.arr v' a' (xs.take n ++ (zs ++ xs.drop (n + zs.length))))) b = some (.arr v' a' (xs.take n ++ (zs ++ xs.drop (n + zs.length)))) := ZW hb;have hfit : n + ys.length ≤ cap' := by omega
         cases A with
         | none =>
          obtain ⟨rfl, rfl, rfl⟩ := n3;have hn0 : n = 0 := by simp at hle; omega
          have hz0 : zs = [] := List.length_eq_zero_iff.1 (by simp at hle; omega);subst hn0; subst hz0;have hy0 : ys.length = 0 := by simpa using hzl.symm
          have hw : (Builtin.append_ #[t, t'] o.type #[.slice none 0 0, ac.eval y]).run P w = .ok (.slice none 0 0) w := by
           have hin0 : inner = [] := List.length_eq_zero_iff.1 (by rw [hil, hy0]; simp);subst hin0;have := Ew (P := P) (ty := o.type) (w := w) (XE := none) (n := 0) (cap := 0) (by rw [k1, k4]) q1 q2 m1 m2 r2 r3 (by omega);rw [hy0] at this;exact this
          have T : Zks rho h w b (.s none 0 []) (.s none 0 []) (.arr v' a' (List.take 0 [] ++ ([] ++ List.drop (0 + List.length (α := a'.den) []) []))) w := {
           at0 := u1
           live0 := by rw [hb]; trivial
           live1 := trivial
           size := Nat.le_refl _
           same := fun _ _ _ => rfl
           sub := fun k hk => .inl hk
           nodup := by simp [D.blks]
           le := by rw [hb]; exact ZX.arr (.inr ⟨rfl, rfl, rfl, Kd.refl _⟩)
           frz := Frz.refl _ }
          have hext := UZ (g := g) T;have hti := Kh hinv T ⟨none, 0, [], rfl, ⟨none, 0, rfl, Nat.le_refl _, by simp⟩, wpos⟩;unfold Oper.wp;rw [Yi (P := P) (a := ac) (w := w) (w' := w) (v := .slice none 0 0) ho hc ha hat (by rw [u2]; exact hw)];exact hn _ _ _ hti (ZnK (z := zOf g _ _ w) (A := none) hkn Z7 (Nat.zero_le _) (Nat.zero_le _) rfl) hext
         | some ad =>
          obtain ⟨hsp, inner0, S', e1, e2, e3⟩ := n3;have hrun := Ew (P := P) (ty := o.type) (w := w) (XE := WK (some ad) 0) (n := n) (cap := cap') (by rw [k1, k4]) q1 q2 m1 m2 r2 r3 hfit;obtain ⟨w', f1, f2, f3⟩ := ZiA (P := P) (p := n) hinv hb u1 z1 hnu' hle;have hadd : (⟨ad.block, ad.off + 0, none⟩ : Addr).add (n * a.size) = ⟨ad.block, ad.off + n * a'.size, none⟩ := by rw [WV rfl, hsz']; simp
          simp only [WK, Option.map_some] at hrun;rw [hadd, f1, ← hzl] at hrun;unfold Oper.wp;rw [Yi (P := P) (a := ac) (w := w) ho hc ha hat (by rw [u2]; exact hrun)];have hv2 := ZnK (z := zOf g (Yk rho b (.s (some ad) cap' S)) _ w') (n := n + zs.length) (A := some ad) hkn Z7 (by rw [hlen]; exact hle) (by rw [hlen]; exact n2) rfl;simp only [WK, Option.map_some] at hv2;exact hn _ _ _ f2 hv2 f3
        ·cases he
       ·cases he
      ·cases he
     ·cases he
    ·cases he
  ·cases he
 ·cases he
theorem ZaI (zs : List Value) (hp : 0 < zs.length) : ∀ n : Nat, (Builtin.zeroCells zs.toArray n).toList = (List.replicate n zs).flatten := by
 intro n;have hget : ∀ (m j : Nat), j < m * zs.length → (List.replicate m zs).flatten[j]? = zs[j % zs.length]? := by
  intro m
  induction m with
  | zero => intro j hj; omega
  | succ m ih =>
   intro j hj;simp only [List.replicate_succ, List.flatten_cons]
   by_cases hjl : j < zs.length
   ·rw [List.getElem?_append_left hjl, Nat.mod_eq_of_lt hjl]
   ·rw [List.getElem?_append_right (by omega), Nat.mod_eq_sub_mod (by omega)]
    refine ih _ ?_;rw [Nat.succ_mul] at hj; omega
 have hlen : ∀ m : Nat, (List.replicate m zs).flatten.length = m * zs.length := by
  intro m
  induction m with
  | zero => simp
  | succ m ih => simp only [List.replicate_succ, List.flatten_cons, List.length_append, ih, Nat.succ_mul]; omega
 apply List.ext_getElem?;intro j
 by_cases hj : j < n * zs.length
 ·rw [hget n j hj]
  have hm : j % zs.length < zs.length := Nat.mod_lt _ hp;unfold Builtin.zeroCells;rw [Array.getElem?_toList, Array.getElem?_map, Array.getElem?_range];simp only [List.size_toArray, hj, if_true, Option.map_some];rw [getElem!_pos zs.toArray (j % zs.length) (by simpa using hm), List.getElem?_eq_getElem hm];simp
 ·rw [List.getElem?_eq_none (by simp [Builtin.zeroCells]; omega), List.getElem?_eq_none (by rw [hlen]; omega)]
theorem ZmR (hE : EnvOk0 P E) {c : Call} {x : Operand} {t : TypeId} {K : SV → List Blk → Option R} {r : R} (ho : o.op = .call c) (hc : c.callee = .builtin .clear)
  (ha : c.args.toList = [x]) (hat : c.argTypes.toList = [t]) (he : Zcp E h t (gt x) K = some r) : ∃ v h', Z2 P o gt h v h' ∧ K v h' = some r := by
 have hx1 : x ∈ o.op.operands.toList := by rw [ho]; simp [Op.operands, Call.operands, hc, ha]
 have ea : c.args = #[x] := by rw [← Array.toList_inj, ha]
 have et : c.argTypes = #[t] := by rw [← Array.toList_inj, hat]
 unfold Zcp at he
 split at he
 ·rename_i b v off n hgx
  split at he
  ·rename_i v' a xs hb
   split at he
   ·rename_i ev
    subst ev;cases hs : (HB E t a && !a.hasSl) with
    | false => rw [hs] at he; cases he
    | true =>
     rw [hs] at he;simp only [cond_true] at he;simp only [Bool.and_eq_true, Bool.not_eq_true'] at hs;obtain ⟨hs, hnu⟩ := hs
     split at he
     ·rename_i hle
      refine ⟨_, _, fun g ac w rho hinv hv next Q hn => ?_, he⟩;have hvx := hv x hx1;rw [hgx] at hvx;obtain ⟨u0, A, cap, S, o', cap', u1, u2, u3, u4, u5, u6⟩ := Zhw (z := zOf g rho h w) hvx hb rfl;obtain ⟨e1, ie, inf, h8, h8b, h8c, h9, h10⟩ := XS hE hs;have Zkx : ∀ {w' : World}, (Builtin.clear_ #[t] o.type #[ac.eval x]).run P w = .ok (.tuple #[]) w' → (execOp ac.eval o).run P w = .ok (.value (.tuple #[])) w' := by
       intro w' hr;rw [XT ho hc (fun rho => Builtin.clear_ #[t] o.type #[rho x]) (fun rho l => by rw [ea, et, show (#[x].map rho) = #[rho x] by simp]; rfl), Sx.run_bind_ok hr];rfl
      have hrep : (List.replicate n (WI a)).length = n := List.length_replicate;have hreps : ∀ m : Nat, Ye (TR (fun _ => False) w false a) (List.replicate m (WI a)) (List.replicate m (Zp a)).flatten [] := by
       intro m
       induction m with
       | zero => exact ⟨rfl, rfl⟩
       | succ m ih => exact ⟨Zp a, _, [], [], by simp [List.replicate_succ], rfl, Z0 a, ih⟩
      have same : n = 0 → (Builtin.clear_ #[t] o.type #[ac.eval x]).run P w = .ok (.tuple #[]) w → o.wp P ac w next Q := by
       intro h0 hr;subst h0;have hc0 : xs.take off ++ (List.replicate 0 (WI a) ++ xs.drop (off + 0)) = xs := by simp
       rw [hc0] at hn;have T : Zks rho h w b (.s A cap S) (.s A cap S) (.arr v' a xs) w := {
        at0 := u1
        live0 := by rw [hb]; trivial
        live1 := trivial
        size := Nat.le_refl _
        same := fun _ _ _ => rfl
        sub := fun k hk => .inl hk
        nodup := hinv.nodup b _ u1 (by rw [hb]; trivial)
        le := by rw [hb]; exact ZX.refl _ _
        frz := Frz.refl _ }
       have hext := UZ (g := g) T;have hsim := hinv.sim b _ u1;rw [hb] at hsim;have hti := Kh hinv T (hsim.ext hext (fun _ _ _ => rfl));unfold Oper.wp;rw [Zkx hr];exact hn _ _ _ hti (by simp only [V]; exact ⟨[], rfl, by simp [VL]⟩) hext
      by_cases h0 : n = 0
      ·refine same h0 ?_
       rw [u2, h0];show ((underlying t >>= fun d => _) : Sem Value).run P w = _;rw [run_bind_ok (run_underlying h8)];cases A <;> rfl
      ·have ho' := u5 (by omega)
       cases A with
       | none =>
        exfalso;have hsim := hinv.sim b _ u1;rw [hb] at hsim;obtain ⟨A1, cap1, S1, w1, w2, wpos⟩ := hsim;cases w1;obtain ⟨A2, cap2, n1, n2, n3⟩ := w2;simp only [List.cons.injEq, and_true, Value.slice.injEq] at n1;obtain ⟨rfl, _, rfl⟩ := n1;simp only [Bool.and_self, if_true] at n3;obtain ⟨rfl, rfl, rfl⟩ := n3;simp at hle;omega
       | some ad =>
        obtain ⟨w', f1, f2, f3⟩ := ZiA (P := P) (p := off) hinv hb u1 (hreps n) hnu (by rw [hrep]; exact hle);rw [hrep] at f2 f3;have hz : inf.zero = some (mkV a (Zp a)) := by
         obtain ⟨inf2, k1, k2, _, k4⟩ := (hE.ti e1 _ h8b).info;rw [h9] at k1;cases k1;rw [k4];unfold mkV;rw [Ty.eqv_agg h8c, Ty.eqv_zero h8c]
        have hzc : (mkV a (Zp a)).cells = (Zp a).toArray := by
         have := (Z0 (im := fun _ => False) (w := w) (o := false) a).cells;exact Array.toList_inj.1 (by simpa using this)
        have hzl : (Zp a).length = a.size := (Z0 (im := fun _ => False) (w := w) (o := false) a).len;have hpos : 0 < a.size := by
         obtain ⟨_, k⟩ := hE.ti e1 _ h8b;rw [← Ty.eqv_size h8c]; assumption
        have hrun : (Builtin.clear_ #[t] o.type #[ac.eval x]).run P w = .ok (.tuple #[]) w' := by
         rw [u2];obtain ⟨m, rfl⟩ : ∃ m, n = m + 1 := ⟨n - 1, by omega⟩
         show ((underlying t >>= fun d => _) : Sem Value).run P w = _;rw [run_bind_ok (run_underlying h8)];simp only [WK, Option.map_some];show (zeroValue e1 >>= fun z => storeCells ⟨ad.block, ad.off + o', none⟩ (Builtin.zeroCells z.cells (m + 1)).toList >>= fun _ => pure (.tuple #[]) : Sem Value).run P w = _;rw [run_bind_ok (run_zeroValue h9 hz), hzc, ZaI _ (by rw [hzl]; exact hpos), ho', run_bind_ok f1];rfl
        unfold Oper.wp;rw [Zkx hrun];exact hn _ _ _ f2 (by simp only [V]; exact ⟨[], rfl, by simp [VL]⟩) f3
     ·cases he
   ·cases he
  ·cases he
 ·cases he
end
end Go.Sx
namespace Go.Sx
open Go
section
variable {R : Type} {P : Program} {E : Env} {o : Oper} {gt : Operand → SV} {h : List Blk}
theorem Zfx {all c1 c2 : List Value} {k : Nat} (hl : k + c1.length + c2.length ≤ all.length) : put1 (put1 all k c1) (k + c1.length) c2 = put1 all k (c1 ++ c2) := by
 apply List.ext_getElem?;intro n;have e0 : (put1 all k c1).length = all.length := Wi (by omega);rw [XK (all := put1 all k c1) (o := k + c1.length) (cs := c2) (by omega) n, XK (all := all) (o := k) (cs := c1) (by omega) n, XK (all := all) (o := k) (cs := c1 ++ c2) (by simp; omega) n];simp only [List.length_append]
 by_cases h1 : n < k
 ·rw [if_pos (by omega), if_pos h1, if_pos h1]
 ·by_cases h2 : n < k + c1.length
  ·rw [if_pos h2, if_neg h1, if_pos h2, if_neg h1, if_pos (by omega), List.getElem?_append_left (by omega)]
  ·by_cases h3 : n < k + c1.length + c2.length
   ·rw [if_neg h2, if_pos h3, if_neg h1, if_pos (by omega), List.getElem?_append_right (by omega)]
    congr 1; omega
   ·rw [if_neg h2, if_neg h3, if_neg h1, if_neg h2, if_neg h1, if_neg (by omega)]
theorem Zcw {g : G} {rho : Rho} {w : World} {a : Ty} (hi : Inv g rho h w) (ev : Operand → Value) : ∀ (l : List (Nat × Operand)) (j : Nat) (xs : List a.den) (arr : List Value), (∀ x ∈ l, V (zOf g rho h w) (gt x.2) (ev x.2)) →
  Pu h a j (l.map fun p => (p.1, gt p.2)) = some xs → j * a.size + l.length * a.size ≤ arr.length →
   ∃ cs, Instr.fill (fun i => some (i * a.size, a.size)) arr.toArray (l.map fun p => (p.1, ev p.2)) = some (put1 arr (j * a.size) cs).toArray ∧
    Ye (TR (QC (zOf g rho h w) true (l.flatMap fun p => VN (gt p.2))) w false a) xs cs [] ∧ xs.length = l.length
 | [], j, xs, arr, _, he, _ => by
  simp only [List.map_nil, Pu, Option.some.injEq] at he;subst he;exact ⟨[], by simp [Instr.fill, put1], ⟨rfl, rfl⟩, rfl⟩
 | (i, x) :: l, j, xs, arr, hv, he, hl => by
  simp only [List.map_cons, Pu] at he;cases hij : Nat.beq i j with
  | false => rw [hij] at he; cases he
  | true =>
   rw [hij] at he;simp only [cond_true] at he;have e0 := Nat.eq_of_beq_eq_true hij;subst e0
   split at he
   ·rename_i y hy
    split at he
    ·rename_i ys hys
     simp only [Option.some.injEq] at he;subst he;obtain ⟨c1, h1, h2⟩ := FN (z := zOf g rho h w) hi.sim (hv (i, x) (by simp)) hy;have hc1 := h1.len;have hcells := h1.cells;simp only [List.length_cons, Nat.add_mul, Nat.one_mul] at hl;simp only [List.map_cons];have hsz : (ev x).cells.size = a.size := by rw [h2, ← Array.length_toList, hcells, hc1]
     rw [ZdQ (off := i * a.size) (size := a.size) rfl hsz (by simp; omega)];rw [h2, hcells];obtain ⟨cs, f1, f2, f3⟩ := Zcw hi ev l (i + 1) ys (put1 arr (i * a.size) c1) (fun y hy => hv y (by simp [hy])) hys (by
      rw [Wi (by omega), Nat.add_mul, Nat.one_mul]; omega)
     have hcs := Ye.len (fun _ _ _ hr => hr.len) f2;refine ⟨c1 ++ cs, ?_, ⟨c1, cs, [], [], rfl, rfl, h1.im (fun k hk => QD (fun r hr => by simp only [List.flatMap_cons, List.mem_append]; exact .inl hr) hk),
      f2.imIn (fun k hk => QD (fun r hr => by simp only [List.flatMap_cons, List.mem_append]; exact .inr hr) hk)⟩, by simp [f3]⟩
     show Instr.fill _ (put1 arr.toArray.toList (i * a.size) c1).toArray _ = _;simp only;rw [f1];congr 2;have e1 : (i + 1) * a.size = i * a.size + c1.length := by rw [Nat.add_mul, Nat.one_mul, hc1]
     rw [e1];exact Zfx (by rw [hcs, f3]; omega)
    ·cases he
   ·cases he
theorem HJ (hE : EnvOk0 P E) {t : TypeId} {n : Nat} {ps : Array (Nat × Operand)} {K : SV → List Blk → Option R} {r : R} (ho : o.op = .buildSlice t n ps)
  (he : XI E h t n (ps.toList.map fun p => (p.1, gt p.2)) K = some r) : ∃ v h', Z2 P o gt h v h' ∧ K v h' = some r := by
 unfold XI at he
 split at he
 ·rename_i ty bs e hi
  split at he
  ·rename_i a hae
   cases hcond : (Nat.beq (ps.toList.map fun p => (p.1, gt p.2)).length n && Nat.ble n 4096 && Nat.ble a.size 1024 && a.noUq) with
   | false => rw [hcond] at he; cases he
   | true =>
    rw [hcond] at he;simp only [cond_true] at he;simp only [Bool.and_eq_true] at hcond;obtain ⟨⟨⟨hc1, hc2⟩, hc3⟩, hnu⟩ := hcond;have hlen : ps.toList.length = n := by simpa using Nat.eq_of_beq_eq_true hc1
    have hn4 := Nat.le_of_ble_eq_true hc2;have hs1 := Nat.le_of_ble_eq_true hc3
    split at he
    ·rename_i xs hxs
     refine ⟨_, _, fun g ac w rho hinv hv next Q hn => ?_, he⟩;obtain ⟨d, k1, k2, k3⟩ := (hE.ti t _ hi).desc;obtain ⟨k4, ie, k5, k6⟩ := k3;obtain ⟨inf, d', m1, m2, m3, m4, m5, m6, m7⟩ := LK hE hae;have hz : (mkV a (Zp a)).cells = (Zp a).toArray := by
      have := (Z0 (im := fun _ => False) (w := w) (o := false) a).cells;exact Array.toList_inj.1 (by simpa using this)
     have hzl : (Zp a).length = a.size := (Z0 (im := fun _ => False) (w := w) (o := false) a).len;have hsm : ¬ (n * a.size > 2 ^ 24) := by
      have : n * a.size ≤ 4096 * 1024 := Nat.mul_le_mul hn4 hs1;omega
     obtain ⟨cs, f1, f2, f3⟩ := Zcw (gt := gt) hinv ac.eval ps.toList 0 xs ((Array.range (n * a.size)).map ((if n * a.size = 0 then #[] else (Zp a).toArray)[· % (if n * a.size = 0 then #[] else (Zp a).toArray).size]!)).toList (fun x hx => hv x.2 (by
      rw [ho]; simp only [Op.operands]; simpa using ⟨x.1, by simpa using hx⟩)) hxs (by simp [← hlen])
     have hcs := Ye.len (fun _ _ _ hr => hr.len) f2;have hput : put1 ((Array.range (n * a.size)).map ((if n * a.size = 0 then #[] else (Zp a).toArray)[· % (if n * a.size = 0 then #[] else (Zp a).toArray).size]!)).toList (0 * a.size) cs = cs := by
      have hl2 : cs.length = n * a.size := by rw [hcs, f3, hlen]
      simp only [put1, Nat.zero_mul, List.take_zero, List.nil_append, Nat.zero_add];rw [List.drop_eq_nil_of_le (by simp [hl2])];simp
     rw [hput] at f1;have hrun : (Instr.buildSlice t n (ps.map fun (i, x) => (i, ac.eval x))).run P w = .ok (.slice (some ⟨w.heap.size, 0, none⟩) n n) (Xm w (.cells cs.toArray e (0, 0))) := by
      unfold Instr.buildSlice;rw [Sx.run_bind_ok (Sx.run_underlying (by rw [k1, k4]))];dsimp only;rw [Sx.run_bind_ok (Sx.run_sizeOf m1), m2, if_neg hsm];simp only [Array.toArray_toList] at f1
      by_cases h0 : n * a.size = 0
      ·rw [if_pos h0]
       rw [Sx.run_bind_ok (Sx.run_pure P _ _)];simp only [if_pos h0] at f1;rw [BZ, f1];dsimp only;rw [Sx.run_bind_ok Jk];rfl
      ·rw [if_neg h0]
       rw [Sx.run_bind_ok (Sx.run_zeroValue m1 m3), Sx.run_bind_ok (Sx.run_pure P _ _), hz];simp only [if_neg h0] at f1;rw [BZ, f1];dsimp only;rw [Sx.run_bind_ok Jk];rfl
     have hik := HH ((ps.toList.map fun p => (p.1, gt p.2)).flatMap fun p => VN p.2) h hinv;have hek := J3 (g := g) (rho := rho) (w := w) ((ps.toList.map fun p => (p.1, gt p.2)).flatMap fun p => VN p.2) h;have hrefs : (ps.toList.flatMap fun p => VN (gt p.2)) = (ps.toList.map fun p => (p.1, gt p.2)).flatMap fun p => VN p.2 := by
      rw [List.flatMap_map]
     obtain ⟨i1, i2, i3⟩ := LL (all := cs.toArray) (e := e) (cap := n) hik m6 (Ye.ofRo hnu (f2.imIn (fun k hk => by
      rw [hrefs] at hk;exact FS hinv hk))) (by intro j u hj; simpa using hj) (by simp [hcs, f3, hlen]) (by rw [f3, hlen]; exact Nat.le_refl _) 0
     rw [J4] at i1 i2 i3;unfold Oper.wp;have hexec : (execOp ac.eval o).run P w = .ok (.value (.slice (some ⟨w.heap.size, 0, none⟩) n n)) (Xm w (.cells cs.toArray e (0, 0))) := by
      unfold execOp;rw [ho];dsimp only;show ((Instr.buildSlice t n (ps.map fun (i, x) => (i, ac.eval x)) >>= fun v => pure (.value v)) : Sem Next).run P w = _;rw [Sx.run_bind_ok hrun];rfl
     rw [hexec];rw [f3, hlen] at i3;exact hn _ _ _ i1 i3 (hek.trans i2)
    ·cases he
  ·cases he
 ·cases he
theorem ZdS (hE : EnvOk0 P E) {t : TypeId} {k : IntKind} (ht : E.ty t = some (.int k)) : P.underlying t = some (.int k) := by
 unfold Env.ty at ht;cases hi : E.ti t with
 | none => rw [hi] at ht; cases ht
 | some i =>
  rw [hi] at ht;simp only [Option.map_some, Option.some.injEq] at ht;obtain ⟨d, h1, h2, h3⟩ := (hE.ti t i hi).desc;rw [h1];cases hk : i.kind with
  | scalar => rw [hk, ht] at h3; rw [h3]
  | slice e => rw [hk] at h3; obtain ⟨_, ie, _, h4⟩ := h3; rw [ht] at h4; cases h4
  | struct fs => rw [hk] at h3; obtain ⟨fields, _, _, _, h4⟩ := h3; rw [ht] at h4; cases h4
theorem ZdT (hE : EnvOk0 P E) {t : TypeId} (ht : E.ty t = some .str) : P.underlying t = some .string := by
 unfold Env.ty at ht;cases hi : E.ti t with
 | none => rw [hi] at ht; cases ht
 | some i =>
  rw [hi] at ht;simp only [Option.map_some, Option.some.injEq] at ht;obtain ⟨d, h1, h2, h3⟩ := (hE.ti t i hi).desc;rw [h1];cases hk : i.kind with
  | scalar => rw [hk, ht] at h3; rw [h3]
  | slice e => rw [hk] at h3; obtain ⟨_, ie, _, h4⟩ := h3; rw [ht] at h4; cases h4
  | struct fs => rw [hk] at h3; obtain ⟨fields, _, _, _, h4⟩ := h3; rw [ht] at h4; cases h4
theorem Zjy (hE : EnvOk0 P E) {t : TypeId} {u : Bool} {a : Ty} (ht : E.ty t = some (.sl u a)) : ∃ e ie, P.underlying t = some (.slice e) ∧ E.ti e = some ie ∧ ie.ty = a := by
 unfold Env.ty at ht;cases hi : E.ti t with
 | none => rw [hi] at ht; cases ht
 | some i =>
  rw [hi] at ht;simp only [Option.map_some, Option.some.injEq] at ht;obtain ⟨d, h1, h2, h3⟩ := (hE.ti t i hi).desc;cases hk : i.kind with
  | scalar => rw [hk, ht] at h3; exact h3.elim
  | slice e =>
   rw [hk] at h3;obtain ⟨e1, ie, e2, e3⟩ := h3;rw [ht] at e3;cases e3;exact ⟨e, ie, by rw [h1, e1], e2, rfl⟩
  | struct fs => rw [hk] at h3; obtain ⟨fields, _, _, _, h4⟩ := h3; rw [ht] at h4; cases h4
theorem Zcx : ∀ (ns : List Int) (s : ByteArray), ns.foldl (fun r n => r.push (UInt8.ofNat n.toNat)) s = ⟨s.data ++ (ns.map fun n => UInt8.ofNat n.toNat).toArray⟩
 | [], s => by cases s; simp
 | n :: ns, s => by
  simp only [List.foldl_cons];rw [Zcx ns];cases s;simp [ByteArray.push]
theorem Zoq (hE : EnvOk0 P E) {src dst : TypeId} {x : Operand} {K : SV → Option R} {r : R} (ho : o.op = .convert src dst x)
  (he : Zho E h src dst (gt x) K = some r) : ∃ v, Z2 P o gt h v h ∧ K v = some r := by
 have hx1 : x ∈ o.op.operands.toList := by rw [ho]; simp [Op.operands]
 have fin : ∀ (v : SV), (∀ (g : G) (a : Act) (w : World) (rho : Rho), Inv g rho h w → V (zOf g rho h w) (gt x) (a.eval x) →
   ∃ cv, (convert src dst (a.eval x)).run P w = .ok cv w ∧ V (zOf g rho h w) v cv) → Z2 P o gt h v h := by
  intro v hf;exact YC (fun rho => convert src dst (rho x)) (fun rho => by unfold execOp; rw [ho]) (fun g a w rho hi' hv => hf g a w rho hi' (hv x hx1))
 unfold Zho at he
 split at he
 ·rename_i k k' n hd hx
  split at he
  ·rename_i k2 hs
   refine ⟨_, fin _ (fun g a w rho hi hv => ?_), he⟩;rw [QF hv hx];refine ⟨_, ?_, KV _ _⟩;unfold convert;rw [Sx.run_bind_ok (Sx.run_underlying (ZdS hE hs)), Sx.run_bind_ok (Sx.run_underlying (ZdS hE hd))];rfl
  ·cases he
 ·rename_i hd
  split at he
  ·rename_i s hs hx
   refine ⟨_, fin _ (fun g a w rho hi hv => ?_), he⟩;rw [Zhv hv hx];refine ⟨_, ?_, ZkK _⟩;unfold convert;rw [Sx.run_bind_ok (Sx.run_underlying (ZdT hE hs)), Sx.run_bind_ok (Sx.run_underlying (ZdT hE hd))];rfl
  ·rename_i hs
   split at he
   ·rename_i ns hns
    refine ⟨_, fin _ (fun g a w rho hi hv => ?_), he⟩;obtain ⟨e, ie, k1, k2, k3⟩ := Zjy hE hs;have ke : P.underlying e = some (.int .u8) := ZdS hE (by unfold Env.ty; rw [k2, ← k3]; rfl);obtain ⟨cs, h2, h3⟩ := FN (z := zOf g rho h w) hi.sim hv hns;obtain ⟨c1, h4, _⟩ := h2.scalar rfl;subst h4;simp only [mkV, Ty.isAgg, Bool.false_eq_true, if_false, List.headD_cons] at h3;subst h3;obtain ⟨A, cap, h5, h6, h7⟩ := h2;simp only [List.cons.injEq, and_true] at h5;rw [h5];refine ⟨_, ?_, ZkK _⟩;rw [Go.run_convert_bytes_string w src dst e A _ cap k1 ke (ZdT hE hd)];simp only [Bool.false_and, Bool.false_eq_true, if_false] at h7;have plain : ∀ (l : List Int) (inner : List Value), Ye (TR (QC (zOf g rho h w) true (VN (gt x))) w false (.int .u8)) l inner [] → inner = l.map (Value.int .u8) := by
     intro l
     induction l with
     | nil => intro inner hr; exact hr.1
     | cons n l ih =>
      intro inner hr;obtain ⟨q1, q2, S1, S2, r1, r2, r3, r4⟩ := hr;have e : S1 = [] ∧ S2 = [] := by have := r2.symm; simpa using this
      obtain ⟨rfl, rfl⟩ := e;rw [r1, r3.1, ih q2 r4]; rfl
    cases A with
    | none =>
     by_cases hn0 : (ns : List Int) = []
     ·rw [hn0]; rfl
     ·obtain ⟨ad, inner, q1, _⟩ := h7.2 hn0; cases q1
    | some ad =>
     by_cases hn0 : (ns : List Int) = []
     ·have : (loadCells ad 0).run P w = .ok (([] : List Int).map (Value.int .u8)).toArray w := by simp [loadCells, loadCellsFrom]
      have h8 := Go.run_bytesToString (P := P) w ad 0 cap [] this;rw [hn0];exact h8
     ·obtain ⟨ad', inner, q1, q2, _, q4, q5⟩ := h7.2 hn0
      cases q1;have q6 := plain ns inner q5;have q7 : (loadCells ad (List.length ns)).run P w = .ok ((ns : List Int).map (Value.int .u8)).toArray w := by
       rw [← q6];exact Sx.run_loadCells q2 (by rw [q6]; simp) q4
      rw [Go.run_bytesToString (P := P) w ad _ cap ns q7, Zcx];congr 2;rw [show ByteArray.empty.data = #[] from rfl];simp
   ·cases he
  ·cases he
 ·cases he
end
end Go.Sx
namespace Go.Sx
open Go
inductive LC where
 | box (blk : Nat)
 | arr (c : Value) (t : Ty)
mutual
def CV (im : Nat → Prop) (w : World) : SV → Value → List Nat → List LC → Prop
 | .val t x, c, S, B => S = [] ∧ B = [] ∧ ∃ cs, TR im w false t x cs [] ∧ c = mkV t cs
 | .vl c0 t x, c, S, B => S = [] ∧ B = [] ∧ c = c0 ∧ ∃ cs, TR im w false t x cs [] ∧ c = mkV t cs
 | .nil, c, S, B => S = [] ∧ B = [] ∧ c = .slice none 0 0
 | .fr t x, c, S, B => B = [] ∧ 0 < t.size ∧ TR im w true (.sl true t) x [c] S
 | .fv t x, c, S, B => B = [] ∧ t.okU = true ∧ ∃ cs, TR im w true t x cs S ∧ c = mkV t cs
 | .io t x, c, S, B => B = [.arr c t] ∧ 0 < t.size ∧ TR im w true (.sl true t) x [c] S
 | .dead, _, S, B => S = [] ∧ B = []
 | .agg l, c, S, B => ∃ cs : List Value, c = .agg cs.toArray ∧ CVL im w l cs S B
 | .tup l, c, S, B => ∃ cs : List Value, c = .tuple cs.toArray ∧ CVL im w l cs S B
 | .fn f cap, c, S, B => ∃ cs : List Value, c = .func (.func f) #[] cs.toArray ∧ CVL im w cap cs S B
 | .mr l, c, S, B => ∃ (blk : Nat) (cs : List Value) (e : TypeId) (S' : List Nat), c = .pointer (some ⟨blk, 0, none⟩) ∧ S = blk :: S' ∧ B = [.box blk] ∧
   w.heap[blk]? = some (.cells cs.toArray e (0, 0)) ∧ CVL im w l cs S' []
 | .fp l, c, S, B => ∃ (blk : Nat) (cs : List Value) (e : TypeId) (S' : List Nat), c = .pointer (some ⟨blk, 0, none⟩) ∧ S = blk :: S' ∧ B = [] ∧
   w.heap[blk]? = some (.cells cs.toArray e (0, 0)) ∧ CVL im w l cs S' []
 | _, _, _, _ => False
def CVL (im : Nat → Prop) (w : World) : List SV → List Value → List Nat → List LC → Prop
 | [], cs, S, B => cs = [] ∧ S = [] ∧ B = []
 | x :: l, cs, S, B => ∃ c r S1 S2 B1 B2, cs = c :: r ∧ S = S1 ++ S2 ∧ B = B1 ++ B2 ∧ CV im w x c S1 B1 ∧ CVL im w l r S2 B2
end
def UO (im : Nat → Prop) (w : World) : List (List SV) → List LC → List Nat → Prop
 | [], [], S => S = []
 | c :: cs, .box b :: bs, S => ∃ (cells : List Value) (e : TypeId) (S1 S2 : List Nat), S = b :: (S1 ++ S2) ∧ w.heap[b]? = some (.cells cells.toArray e (0, 0)) ∧ CVL im w c cells S1 [] ∧ UO im w cs bs S2
 | c :: cs, .arr a t :: bs, S => ∃ (x : List t.den) (S1 S2 : List Nat), c = [.fr t x] ∧ S = S1 ++ S2 ∧ TR im w true (.sl true t) x [a] S1 ∧ UO im w cs bs S2
 | _, _, _ => False
def after (p : Nat → Prop) (S S' : List Nat) (w w' : World) (k : Nat) : Prop := (p k ∨ k ∈ S ∨ w.heap.size ≤ k) ∧ k < w'.heap.size ∧ k ∉ S'
def Jl (P : Program) (f : FuncId) (args : List SV) (sv : SV) (outs : List (List SV)) : Prop :=
 ∀ (p : Nat → Prop) (w : World) (cargs : List Value) (S : List Nat) (B : List LC), CVL p w args cargs S B → S.Nodup → (∀ k ∈ S, ¬ p k ∧ k < w.heap.size) → (∀ k, p k → k < w.heap.size) → PA p w →
  Calls P f cargs.toArray w fun e w' => ∃ cr S1 S2, e = .returned cr ∧ (S1 ++ S2).Nodup ∧ (∀ k ∈ S1 ++ S2, (k ∈ S ∨ w.heap.size ≤ k) ∧ k < w'.heap.size) ∧ FM w w' S ∧
   CV (after p S (S1 ++ S2) w w') w' sv cr S1 [] ∧ UO (after p S (S1 ++ S2) w w') w' outs B S2
def Pb (P : Program) (f : FuncId) : Prop := ∃ fn, P.funcs[f]? = some fn ∧ fn.body.isSome = true ∧ (fn.name == "runtime.NumGoroutine") = false
structure KW (P : Program) (f : FuncId) (c : Con) : Prop where
 call : Pb P f
 ok : ∀ (R : Type) (args : List SV) (K : SV → List (List SV) → Option R) (r : R), c.run R args K = some r → ∃ sv outs, Jl P f args sv outs ∧ K sv outs = some r
 mono : ∀ (R : Type) (args : List SV) (K K' : SV → List (List SV) → Option R) (r : R), (∀ sv outs, K sv outs = some r → K' sv outs = some r) → c.run R args K = some r → c.run R args K' = some r
structure HK (P : Program) (E : Env) : Prop extends EnvOk0 P E where
 tbl : ∀ f c, E.tbl f = some c → KW P f c
structure IZ (z : Z) : Prop where
 sim : ∀ b d, z.rho b = some d → Ev z d (nth z.h b)
 disj : ∀ b b' d d', z.rho b = some d → z.rho b' = some d' → live (nth z.h b) → live (nth z.h b') → b ≠ b' → ∀ k ∈ d.blks, k ∉ d'.blks
 nodup : ∀ b d, z.rho b = some d → live (nth z.h b) → d.blks.Nodup
 sep : ∀ b d, z.rho b = some d → live (nth z.h b) → ∀ k ∈ d.blks, ¬ z.im k
def Z.withH (z : Z) (h : List Blk) : Z := ⟨z.im, z.w, z.rho, h⟩
theorem Inv.iz {g : G} {rho : Rho} {h : List Blk} {w : World} (hi : Inv g rho h w) : IZ (zOf g rho h w) :=
 ⟨hi.sim, hi.disj, hi.nodup, fun b d h1 h2 k hk hm => hm.2.2 ⟨b, d, h1, h2, hk⟩⟩
def Y7 (o : Option Blk) : Prop := o = some .lent ∨ ∃ v t n, o = some (.held v t n)
def Zfy (o o' : Option Blk) : Prop := (o' = some .lent ∧ ∃ c, o = some (.vars c)) ∨ ∃ v t x, o' = some (.held v t (List.length x)) ∧ o = some (.arr v t x)
theorem Y7.live {o : Option Blk} (h : Y7 o) : Sx.live o := by
 rcases h with rfl | ⟨v, t, n, rfl⟩ <;> trivial
theorem Zfy.lent {o o' : Option Blk} (h : Zfy o o') : Y7 o' := by
 rcases h with ⟨e, _⟩ | ⟨v, t, x, e, _⟩
 ·exact .inl e
 ·exact .inr ⟨_, _, _, e⟩
theorem Zfy.was {o o' : Option Blk} (h : Zfy o o') : ¬ Y7 o ∧ Sx.live o := by
 rcases h with ⟨_, c, e⟩ | ⟨v, t, x, _, e⟩
 ·subst e; exact ⟨(by rintro (h | ⟨_, _, _, h⟩) <;> cases h), trivial⟩
 ·subst e; exact ⟨(by rintro (h | ⟨_, _, _, h⟩) <;> cases h), trivial⟩
theorem Ul {v : Nat} {t : Ty} {x : List t.den} : ¬ Y7 (some (.arr v t x)) := by rintro (h | ⟨_, _, _, h⟩) <;> cases h
theorem Jm {c : List SV} : ¬ Y7 (some (.vars c)) := by rintro (h | ⟨_, _, _, h⟩) <;> cases h
theorem Qt : ¬ Y7 (some .gone) := by rintro (h | ⟨_, _, _, h⟩) <;> cases h
def Off (h h' : List Blk) : Prop := h'.length = h.length ∧ ∀ b, nth h' b = nth h b ∨ (nth h' b = some .gone ∧ ¬ Y7 (nth h b)) ∨ Zfy (nth h b) (nth h' b)
theorem Off.refl (h : List Blk) : Off h h := ⟨rfl, fun _ => .inl rfl⟩
theorem X6 {z : Z} {h' : List Blk} (ho : Off z.h h') : Ext z (z.withH h') where
 im := fun k hk => ⟨hk, rfl⟩
 le := fun b => by
  show ZX (z.rho b) (z.rho b) (nth z.h b) (nth h' b);rcases ho.2 b with e | ⟨e, _⟩ | ⟨e, c, hc⟩ | ⟨v, t, x, e, hc⟩
  ·rw [e]; exact ZX.refl _ _
  ·rw [e]; exact ZX.gone
  ·rw [e, hc]; exact ⟨fun _ => rfl, fun h => (by cases h), fun _ _ _ h => (by cases h), fun _ => .inr ⟨rfl, .inl rfl⟩⟩
  ·rw [e, hc]
   exact ⟨fun _ => rfl, fun h => (by cases h), fun v1 t1 n1 h1 => .inr ⟨v1, t1, n1, h1, .inr ⟨rfl, rfl, rfl, Kd.refl _⟩⟩, fun h => (by rcases h with h | ⟨c, h⟩ <;> cases h)⟩
theorem X8 {h h' : List Blk} (ho : Off h h') {b : Nat} (hl : live (nth h' b)) : live (nth h b) := by
 rcases ho.2 b with e | ⟨e, _⟩ | e
 ·rwa [e] at hl
 ·rw [e] at hl; exact hl.elim
 ·exact e.was.2
theorem Jn {z : Z} {h' : List Blk} (hi : IZ z) (ho : Off z.h h') : IZ (z.withH h') := by
 have he := X6 ho;refine ⟨fun b d hd => ?_, fun b b' d d' h1 h2 l1 l2 => hi.disj b b' d d' h1 h2 (X8 ho l1) (X8 ho l2), fun b d h1 l1 => hi.nodup b d h1 (X8 ho l1),
  fun b d h1 l1 => hi.sep b d h1 (X8 ho l1)⟩
 show Ev (z.withH h') d (nth h' b);rcases ho.2 b with e | ⟨e, _⟩ | ⟨e, c, hc⟩ | ⟨v, t, x, e, hc⟩
 ·rw [e]; exact (hi.sim b d hd).ext he (fun _ _ _ => rfl)
 ·rw [e]; trivial
 ·have := hi.sim b d hd
  rw [hc] at this;obtain ⟨blk, cs, e', h1, _⟩ := this;rw [e];exact ⟨blk, h1⟩
 ·have := hi.sim b d hd
  rw [hc] at this;obtain ⟨A, cap, S, h1, _⟩ := this;rw [e];exact ⟨A, cap, S, h1⟩
theorem Off.trans {h h' h'' : List Blk} (a : Off h h') (b : Off h' h'') : Off h h'' := by
 refine ⟨b.1.trans a.1, fun k => ?_⟩;rcases b.2 k with e | ⟨e, e2⟩ | e
 ·rw [e]; exact a.2 k
 ·refine .inr (.inl ⟨e, ?_⟩)
  rcases a.2 k with f | ⟨_, f2⟩ | f
  ·rw [← f]; exact e2
  ·exact f2
  ·exact absurd f.lent e2
 ·rcases a.2 k with f | ⟨f, _⟩ | f
  ·rw [f] at e; exact .inr (.inr e)
  ·rw [f] at e; exact absurd e.was.2 (fun h => h)
  ·exact absurd f.lent e.was.1
theorem HL {h : List Blk} {b : Nat} (hb : ¬ Y7 (nth h b)) : Off h (upd h b .gone) := by
 refine ⟨ZG _ _ _, fun k => ?_⟩;rcases ZP h b k Blk.gone with ⟨e, h2, _⟩ | h2
 ·subst e; exact .inr (.inl ⟨h2, hb⟩)
 ·exact .inl h2
theorem ZmS {h : List Blk} {b : Nat} {c : List SV} (hb : nth h b = some (.vars c)) : Off h (upd h b .lent) := by
 refine ⟨ZG _ _ _, fun k => ?_⟩;rcases ZP h b k Blk.lent with ⟨e, h2, _⟩ | h2
 ·subst e; exact .inr (.inr (.inl ⟨h2, c, hb⟩))
 ·exact .inl h2
theorem ZmT {h : List Blk} {b v : Nat} {t : Ty} {x : List t.den} (hb : nth h b = some (.arr v t x)) : Off h (upd h b (.held v t x.length)) := by
 refine ⟨ZG _ _ _, fun k => ?_⟩;rcases ZP h b k (Blk.held v t x.length) with ⟨e, h2, _⟩ | h2
 ·subst e; exact .inr (.inr (.inr ⟨v, t, x, h2, hb⟩))
 ·exact .inl h2
theorem Off.keep {h h' : List Blk} (a : Off h h') {b : Nat} (hb : Y7 (nth h b)) : nth h' b = nth h b := by
 rcases a.2 b with f | ⟨_, f2⟩ | f
 ·exact f
 ·exact absurd hb f2
 ·exact absurd hb f.was.1
theorem Off.lent {h h' : List Blk} (a : Off h h') {b : Nat} (hb : nth h b = some .lent) : nth h' b = some .lent := (a.keep (.inl hb)).trans hb
def M5 (rho : Rho) (h h' : List Blk) (S : List Nat) : Prop :=
 ∀ k ∈ S, ∃ b d, rho b = some d ∧ live (nth h b) ∧ (nth h' b = some .gone ∨ Y7 (nth h' b)) ∧ ¬ Y7 (nth h b) ∧ k ∈ d.blks
theorem M5.later {rho : Rho} {h h' h'' : List Blk} {S : List Nat} (hw : M5 rho h h' S) (ho : Off h' h'') : M5 rho h h'' S := by
 intro k hk;obtain ⟨b, d, h1, h2, h3, h4, h5⟩ := hw k hk;refine ⟨b, d, h1, h2, ?_, h4, h5⟩;rcases ho.2 b with e | ⟨e, _⟩ | e
 ·rw [e]; exact h3
 ·exact .inl e
 ·exact .inr e.lent
theorem M5.earlier {rho : Rho} {h h' h'' : List Blk} {S : List Nat} (ho : Off h h') (hw : M5 rho h' h'' S) : M5 rho h h'' S := by
 intro k hk;obtain ⟨b, d, h1, h2, h3, h4, h5⟩ := hw k hk;refine ⟨b, d, h1, X8 ho h2, h3, ?_, h5⟩;intro hl;rcases ho.2 b with e | ⟨e, e2⟩ | e
 ·exact h4 (by rw [e]; exact hl)
 ·exact e2 hl
 ·exact h4 e.lent
theorem M5.apart {z : Z} (hi : IZ z) {h' h'' : List Blk} {S S' : List Nat} (ho : Off z.h h') (hw : M5 z.rho z.h h' S) (hw' : M5 z.rho h' h'' S') : ∀ k ∈ S, k ∉ S' := by
 intro k hk hk';obtain ⟨b, d, h1, h2, h3, h4, h5⟩ := hw k hk;obtain ⟨b', d', k1, k2, k3, k4, k5⟩ := hw' k hk'
 by_cases e : b = b'
 ·subst e
  rcases h3 with h3 | h3
  ·rw [h3] at k2; exact k2
  ·exact k4 h3
 ·exact hi.disj b b' d d' h1 k1 h2 (X8 ho k2) e k h5 k5
mutual
theorem CV.mono {im im' : Nat → Prop} {w : World} (hi : ∀ k, im k → im' k) : ∀ (v : SV) (c : Value) (S : List Nat) (B : List LC), CV im w v c S B → CV im' w v c S B
 | .val t x, c, S, B, h => by
  simp only [CV] at h ⊢;obtain ⟨h1, h2, cs, h3, h4⟩ := h;exact ⟨h1, h2, cs, h3.im hi, h4⟩
 | .vl c0 t x, c, S, B, h => by
  simp only [CV] at h ⊢;obtain ⟨h1, h2, h0, cs, h3, h4⟩ := h;exact ⟨h1, h2, h0, cs, h3.im hi, h4⟩
 | .nil, c, S, B, h => by simp only [CV] at h ⊢; exact h
 | .fr t x, c, S, B, h => by
  simp only [CV] at h ⊢;exact ⟨h.1, h.2.1, h.2.2.mono (fun k hk => ⟨hi k hk, rfl⟩) _ _ _ _ _ (fun _ _ => rfl)⟩
 | .fv t x, c, S, B, h => by
  simp only [CV] at h ⊢;obtain ⟨h1, h2, cs, h3, h4⟩ := h;exact ⟨h1, h2, cs, h3.mono (fun k hk => ⟨hi k hk, rfl⟩) _ _ _ _ _ (fun _ _ => rfl), h4⟩
 | .io t x, c, S, B, h => by
  simp only [CV] at h ⊢;exact ⟨h.1, h.2.1, h.2.2.mono (fun k hk => ⟨hi k hk, rfl⟩) _ _ _ _ _ (fun _ _ => rfl)⟩
 | .agg l, c, S, B, h => by simp only [CV] at h ⊢; obtain ⟨cs, h1, h2⟩ := h; exact ⟨cs, h1, CVL.mono hi l cs S B h2⟩
 | .tup l, c, S, B, h => by simp only [CV] at h ⊢; obtain ⟨cs, h1, h2⟩ := h; exact ⟨cs, h1, CVL.mono hi l cs S B h2⟩
 | .fn f l, c, S, B, h => by simp only [CV] at h ⊢; obtain ⟨cs, h1, h2⟩ := h; exact ⟨cs, h1, CVL.mono hi l cs S B h2⟩
 | .mr l, c, S, B, h => by
  simp only [CV] at h ⊢;obtain ⟨blk, cs, e, S', h1, h2, h3, h4, h5⟩ := h;exact ⟨blk, cs, e, S', h1, h2, h3, h4, CVL.mono hi l cs S' [] h5⟩
 | .fp l, c, S, B, h => by
  simp only [CV] at h ⊢;obtain ⟨blk, cs, e, S', h1, h2, h3, h4, h5⟩ := h;exact ⟨blk, cs, e, S', h1, h2, h3, h4, CVL.mono hi l cs S' [] h5⟩
 | .own _ _, _, _, _, h => by simp only [CV] at h
 | .sub _ _ _ _, _, _, _, h => by simp only [CV] at h
 | .ptr _ _, _, _, _, h => by simp only [CV] at h
 | .eptr _ _ _ _, _, _, _, h => by simp only [CV] at h
 | .rptr _ _ _, _, _, _, h => by simp only [CV] at h
 | .dead, _, _, _, h => by simp only [CV] at h ⊢; exact h
theorem CVL.mono {im im' : Nat → Prop} {w : World} (hi : ∀ k, im k → im' k) : ∀ (l : List SV) (c : List Value) (S : List Nat) (B : List LC), CVL im w l c S B → CVL im' w l c S B
 | [], c, S, B, h => by simp only [CVL] at h ⊢; exact h
 | x :: l, c, S, B, h => by
  simp only [CVL] at h ⊢;obtain ⟨c1, r, S1, S2, B1, B2, h1, h2, h3, h4, h5⟩ := h;exact ⟨c1, r, S1, S2, B1, B2, h1, h2, h3, CV.mono hi x c1 S1 B1 h4, CVL.mono hi l r S2 B2 h5⟩
end
theorem TR.noRo {im im' : Nat → Prop} {w : World} : ∀ {t : Ty} {x : t.den} {cs : List Value} {S : List Nat}, t.hasRo = false → TR im w true t x cs S → TR im' w true t x cs S := by
 intro t
 induction t with
 | int k => intro x cs S _ h; exact h
 | bool => intro x cs S _ h; exact h
 | str => intro x cs S _ h; exact h
 | unit => intro x cs S _ h; exact h
 | pair a b iha ihb =>
  intro x cs S hn h;simp only [Ty.hasRo, Bool.or_eq_false_iff] at hn;obtain ⟨c1, c2, S1, S2, h1, h2, h3, h4⟩ := h;exact ⟨c1, c2, S1, S2, h1, h2, iha hn.1 h3, ihb hn.2 h4⟩
 | sl u a iha =>
  intro x cs S hn h;simp only [Ty.hasRo, Bool.or_eq_false_iff, Bool.not_eq_false'] at hn;obtain ⟨A, cap, h1, h2, h3⟩ := h;refine ⟨A, cap, h1, h2, ?_⟩;rw [hn.1] at h3 ⊢;simp only [Bool.and_self, if_true] at h3 ⊢;cases A with
  | none => exact h3
  | some ad =>
   obtain ⟨q1, inner, S', q2, q3, q4⟩ := h3;exact ⟨q1, inner, S', q2, q3, q4.imp (fun x c S1 _ hr => iha hn.2 hr)⟩
mutual
theorem CV.noRo {im im' : Nat → Prop} {w : World} : ∀ (v : SV) (c : Value) (S : List Nat) (B : List LC), hasRo v = false → CV im w v c S B → CV im' w v c S B
 | .val t x, c, S, B, hn, h => by
  simp only [CV] at h ⊢;obtain ⟨h1, h2, cs, h3, h4⟩ := h;exact ⟨h1, h2, cs, h3.noSl hn, h4⟩
 | .vl c0 t x, c, S, B, hn, h => by
  simp only [CV] at h ⊢;obtain ⟨h1, h2, h0, cs, h3, h4⟩ := h;exact ⟨h1, h2, h0, cs, h3.noSl hn, h4⟩
 | .nil, c, S, B, _, h => by simp only [CV] at h ⊢; exact h
 | .fr t x, c, S, B, hn, h => by
  simp only [CV] at h ⊢;refine ⟨h.1, h.2.1, h.2.2.noRo ?_⟩;simp only [hasRo] at hn;simp [Ty.hasRo, hn]
 | .fv t x, c, S, B, hn, h => by
  simp only [CV] at h ⊢;obtain ⟨h1, h2, cs, h3, h4⟩ := h;exact ⟨h1, h2, cs, h3.noRo hn, h4⟩
 | .io t x, c, S, B, hn, h => by
  simp only [CV] at h ⊢;refine ⟨h.1, h.2.1, h.2.2.noRo ?_⟩;simp only [hasRo] at hn;simp [Ty.hasRo, hn]
 | .agg l, c, S, B, hn, h => by simp only [hasRo] at hn; simp only [CV] at h ⊢; obtain ⟨cs, h1, h2⟩ := h; exact ⟨cs, h1, CVL.noRo l cs S B hn h2⟩
 | .tup l, c, S, B, hn, h => by simp only [hasRo] at hn; simp only [CV] at h ⊢; obtain ⟨cs, h1, h2⟩ := h; exact ⟨cs, h1, CVL.noRo l cs S B hn h2⟩
 | .fn f l, c, S, B, hn, h => by simp only [hasRo] at hn; simp only [CV] at h ⊢; obtain ⟨cs, h1, h2⟩ := h; exact ⟨cs, h1, CVL.noRo l cs S B hn h2⟩
 | .mr l, c, S, B, hn, h => by
  simp only [hasRo] at hn;simp only [CV] at h ⊢;obtain ⟨blk, cs, e, S', h1, h2, h3, h4, h5⟩ := h;exact ⟨blk, cs, e, S', h1, h2, h3, h4, CVL.noRo l cs S' [] hn h5⟩
 | .fp l, c, S, B, hn, h => by
  simp only [hasRo] at hn;simp only [CV] at h ⊢;obtain ⟨blk, cs, e, S', h1, h2, h3, h4, h5⟩ := h;exact ⟨blk, cs, e, S', h1, h2, h3, h4, CVL.noRo l cs S' [] hn h5⟩
 | .own _ _, _, _, _, _, h => by simp only [CV] at h
 | .sub _ _ _ _, _, _, _, _, h => by simp only [CV] at h
 | .ptr _ _, _, _, _, _, h => by simp only [CV] at h
 | .eptr _ _ _ _, _, _, _, _, h => by simp only [CV] at h
 | .rptr _ _ _, _, _, _, _, h => by simp only [CV] at h
 | .dead, _, _, _, _, h => by simp only [CV] at h ⊢; exact h
theorem CVL.noRo {im im' : Nat → Prop} {w : World} : ∀ (l : List SV) (c : List Value) (S : List Nat) (B : List LC), Xt l = false → CVL im w l c S B → CVL im' w l c S B
 | [], c, S, B, _, h => by simp only [CVL] at h ⊢; exact h
 | x :: l, c, S, B, hn, h => by
  simp only [Xt, Bool.or_eq_false_iff] at hn;simp only [CVL] at h ⊢;obtain ⟨c1, r, S1, S2, B1, B2, h1, h2, h3, h4, h5⟩ := h;exact ⟨c1, r, S1, S2, B1, B2, h1, h2, h3, CV.noRo x c1 S1 B1 hn.1 h4, CVL.noRo l r S2 B2 hn.2 h5⟩
end
mutual
theorem Zcy {im0 : Nat → Prop} {z : Z} (hi : IZ z) (him : z.im = im0) : ∀ (v : SV) (c : Value) (v' : SV) (h' : List Blk), V z v c → pub z.h v = some (v', h') →
  ∃ S, CV z.im z.w v' c S [] ∧ S.Nodup ∧ Off z.h h' ∧ M5 z.rho z.h h' S
 | .val t x, c, v', h', hv, hp => by
  simp only [pub, Option.some.injEq, Prod.mk.injEq] at hp;obtain ⟨rfl, rfl⟩ := hp;simp only [V] at hv;exact ⟨[], by simp only [CV]; exact ⟨trivial, trivial, hv⟩, by simp, Off.refl _, by intro k hk; simp at hk⟩
 | .vl c0 t x, c, v', h', hv, hp => by
  simp only [pub, Option.some.injEq, Prod.mk.injEq] at hp;obtain ⟨rfl, rfl⟩ := hp;simp only [V] at hv;exact ⟨[], by simp only [CV]; exact ⟨trivial, trivial, hv⟩, by simp, Off.refl _, by intro k hk; simp at hk⟩
 | .nil, c, v', h', hv, hp => by
  simp only [pub, Option.some.injEq, Prod.mk.injEq] at hp;obtain ⟨rfl, rfl⟩ := hp;simp only [V] at hv;exact ⟨[], by simp only [CV]; exact ⟨trivial, trivial, hv⟩, by simp, Off.refl _, by intro k hk; simp at hk⟩
 | .own b v, c, v', h', hv, hp => by
  simp only [pub] at hp
  split at hp
  ·rename_i v1 t x hb
   split at hp
   ·rename_i e
    simp only [Option.some.injEq, Prod.mk.injEq] at hp;obtain ⟨rfl, rfl⟩ := hp;obtain ⟨A, cap, S, h1, h2⟩ := ZaE hv hb e;have hs := hi.sim b _ h1;rw [hb] at hs;obtain ⟨A1, cap1, S1, k1, k2, k3⟩ := hs;cases k1;refine ⟨S, ?_, hi.nodup b _ h1 (by rw [hb]; trivial), HL (by rw [hb]; exact Ul), ?_⟩
    ·simp only [CV]
     exact ⟨trivial, k3, by rw [h2]; exact k2⟩
    ·intro k hk
     exact ⟨b, _, h1, by rw [hb]; trivial, .inl (ZW hb), by rw [hb]; exact Ul, hk⟩
   ·cases hp
  ·cases hp
 | .sub b v off n, c, v', h', hv, hp => by
  simp only [pub] at hp
  split at hp
  ·rename_i v1 t x hb
   split at hp
   ·rename_i e
    cases hnu : t.noUq with
    | false => rw [hnu] at hp; cases hp
    | true =>
     rw [hnu] at hp;simp only [cond_true, Option.some.injEq, Prod.mk.injEq] at hp;obtain ⟨rfl, rfl⟩ := hp;obtain ⟨h0, A, cap, S, o, cap', h1, h2, h3, h4, h5, _⟩ := Zhw hv hb e;have hs := hi.sim b _ h1;rw [hb] at hs;obtain ⟨A1, cap1, S1, k1, k2, k3⟩ := hs;cases k1;obtain ⟨A2, cap2, m1, m2, m3⟩ := k2;simp only [List.cons.injEq, and_true, Value.slice.injEq] at m1;obtain ⟨rfl, _, rfl⟩ := m1;simp only [Bool.and_self, if_true] at m3;have hlen : ((x.drop off).take n).length = n := by simp; omega
     refine ⟨S, ?_, hi.nodup b _ h1 (by rw [hb]; trivial), HL (by rw [hb]; exact Ul), ?_⟩
     ·simp only [CV]
      refine ⟨trivial, k3, ?_⟩;rw [h2];refine ⟨WK A o, cap', by rw [hlen], by rw [hlen]; exact h3, ?_⟩;simp only [Bool.and_self, if_true];cases A with
      | none =>
       obtain ⟨rfl, rfl, rfl⟩ := m3;have : cap' = 0 := by
        have : cap' * t.size ≤ 0 := by omega
        rcases Nat.eq_zero_or_pos cap' with q | q
        ·exact q
        ·have := Nat.mul_pos q k3; omega
       exact ⟨by simp, this, rfl⟩
      | some ad =>
       obtain ⟨q1, inner, S', q2, ⟨all, e', q3, q4, q5⟩, q6⟩ := m3;obtain ⟨q7, q8⟩ := q6.noUq hnu;subst q7;refine ⟨rfl, (inner.drop (off * t.size)).take (n * t.size), [], q2, ⟨all, e', q3, by simp only; omega, ?_⟩, Ye.ofRo hnu (Ye.take (fun _ _ _ hr => hr.len) n (Ye.drop (fun _ _ _ hr => hr.len) off q8))⟩;intro j u hj;rw [List.getElem?_take] at hj
       split at hj
       ·rename_i hjn
        have hn0 : 0 < n := by
         rcases Nat.eq_zero_or_pos n with q | q
         ·subst q; simp at hjn
         ·exact q
        rw [List.getElem?_drop] at hj;have := q5 _ u hj;simp only;rw [h5 hn0, show ad.off + off * t.size + j = ad.off + (off * t.size + j) by omega];exact this
       ·cases hj
     ·intro k hk
      exact ⟨b, _, h1, by rw [hb]; trivial, .inl (ZW hb), by rw [hb]; exact Ul, hk⟩
   ·cases hp
  ·cases hp
 | .agg l, c, v', h', hv, hp => by
  simp only [pub] at hp
  split at hp
  ·rename_i l' h1 hl
   simp only [Option.some.injEq, Prod.mk.injEq] at hp;obtain ⟨rfl, rfl⟩ := hp;simp only [V] at hv;obtain ⟨cs, h2, h3⟩ := hv;obtain ⟨S, k1, k2, k3, k4⟩ := LN hi him l cs l' h1 h3 hl;exact ⟨S, by simp only [CV]; exact ⟨cs, h2, k1⟩, k2, k3, k4⟩
  ·cases hp
 | .tup l, c, v', h', hv, hp => by
  simp only [pub] at hp
  split at hp
  ·rename_i l' h1 hl
   simp only [Option.some.injEq, Prod.mk.injEq] at hp;obtain ⟨rfl, rfl⟩ := hp;simp only [V] at hv;obtain ⟨cs, h2, h3⟩ := hv;obtain ⟨S, k1, k2, k3, k4⟩ := LN hi him l cs l' h1 h3 hl;exact ⟨S, by simp only [CV]; exact ⟨cs, h2, k1⟩, k2, k3, k4⟩
  ·cases hp
 | .ptr _ _, _, _, _, _, hp => by simp [pub] at hp
 | .eptr _ _ _ _, _, _, _, _, hp => by simp [pub] at hp
 | .rptr _ _ _, _, _, _, _, hp => by simp [pub] at hp
 | .fn _ _, _, _, _, _, hp => by simp [pub] at hp
 | .fr _ _, _, _, _, _, hp => by simp [pub] at hp
 | .fv _ _, _, _, _, _, hp => by simp [pub] at hp
 | .io _ _, _, _, _, _, hp => by simp [pub] at hp
 | .mr _, _, _, _, _, hp => by simp [pub] at hp
 | .fp _, _, _, _, _, hp => by simp [pub] at hp
 | .dead, _, _, _, _, hp => by simp [pub] at hp
theorem LN {im0 : Nat → Prop} {z : Z} (hi : IZ z) (him : z.im = im0) : ∀ (l : List SV) (cs : List Value) (l' : List SV) (h' : List Blk), VL z l cs → Zhm z.h l = some (l', h') →
  ∃ S, CVL z.im z.w l' cs S [] ∧ S.Nodup ∧ Off z.h h' ∧ M5 z.rho z.h h' S
 | [], cs, l', h', hv, hp => by
  simp only [Zhm, Option.some.injEq, Prod.mk.injEq] at hp;obtain ⟨rfl, rfl⟩ := hp;simp only [VL] at hv;exact ⟨[], by simp only [CVL]; exact ⟨hv, trivial, trivial⟩, by simp, Off.refl _, by intro k hk; simp at hk⟩
 | x :: l, cs, l', h', hv, hp => by
  simp only [Zhm] at hp
  split at hp
  ·rename_i x' h1 hx
   split at hp
   ·rename_i l1 h2 hl
    simp only [Option.some.injEq, Prod.mk.injEq] at hp;obtain ⟨rfl, rfl⟩ := hp;simp only [VL] at hv;obtain ⟨c, r, e1, e2, e3⟩ := hv;obtain ⟨S1, k1, k2, k3, k4⟩ := Zcy hi him x c x' h1 e2 hx;have hi2 := Jn hi k3;obtain ⟨S2, m1, m2, m3, m4⟩ := LN (z := z.withH h1) hi2 him l r l1 h2 (VL.ext (X6 k3) l r e3) hl;have hap := M5.apart hi k3 k4 m4;refine ⟨S1 ++ S2, ?_, List.nodup_append.2 ⟨k2, m2, fun a ha b hb e => hap a ha (e ▸ hb)⟩, k3.trans m3, ?_⟩
    ·simp only [CVL]
     exact ⟨c, r, S1, S2, [], [], e1, rfl, rfl, k1, m1⟩
    ·intro k hk
     rcases List.mem_append.1 hk with q | q
     ·exact (k4.later m3) k q
     ·exact (m4.earlier k3) k q
   ·cases hp
  ·cases hp
end
def LI (z : Z) (lent : List Nat) (k : Nat) : Prop := z.im k ∨ ∃ r ∈ lent, ∃ d, z.rho r = some d ∧ live (nth z.h r) ∧ k ∈ d.blks
theorem LI.mono {z : Z} {l l' : List Nat} (h : ∀ r ∈ l, r ∈ l') {k : Nat} (hk : LI z l k) : LI z l' k := by
 rcases hk with hk | ⟨r, h1, h2⟩
 ·exact .inl hk
 ·exact .inr ⟨r, h r h1, h2⟩
theorem LI.back {z : Z} {h' : List Blk} (ho : Off z.h h') {l : List Nat} {k : Nat} (hk : LI (z.withH h') l k) : LI z l k := by
 rcases hk with hk | ⟨r, h1, d, h2, h3, h4⟩
 ·exact .inl hk
 ·exact .inr ⟨r, h1, d, h2, X8 ho h3, h4⟩
inductive U8 (rho : Rho) (h h' : List Blk) : List Lnt → List LC → Prop
 | nil : U8 rho h h' [] []
 | cons {b blk : Nat} {bs : List Lnt} {blks : List LC} : rho b = some (.v blk) → (∃ c, nth h b = some (.vars c)) → nth h' b = some .lent → U8 rho h h' bs blks → U8 rho h h' (.box b :: bs) (.box blk :: blks)
 | arr {b v cap : Nat} {A : Option Addr} {S : List Nat} {t : Ty} {x : List t.den} {bs : List Lnt} {blks : List LC} : rho b = some (.s A cap S) → nth h b = some (.arr v t x) → nth h' b = some (.held v t x.length) → 0 < t.size →
   U8 rho h h' bs blks → U8 rho h h' (.arr b v t :: bs) (.arr (.slice A x.length cap) t :: blks)
theorem U8.later {rho : Rho} {h h' h'' : List Blk} (ho : Off h' h'') {bs : List Lnt} {blks : List LC} (hb : U8 rho h h' bs blks) : U8 rho h h'' bs blks := by
 induction hb with
 | nil => exact .nil
 | cons h1 h2 h3 _ ih => exact .cons h1 h2 (ho.lent h3) ih
 | arr h1 h2 h3 h4 _ ih => exact .arr h1 h2 ((ho.keep (.inr ⟨_, _, _, h3⟩)).trans h3) h4 ih
theorem U8.earlier {rho : Rho} {h h' h'' : List Blk} (ho : Off h h') {bs : List Lnt} {blks : List LC} (hb : U8 rho h' h'' bs blks) : U8 rho h h'' bs blks := by
 induction hb with
 | nil => exact .nil
 | cons h1 h2 h3 _ ih =>
  refine .cons h1 ?_ h3 ih;obtain ⟨c, hc⟩ := h2;rename_i b _ _ _ _;rcases ho.2 b with f | ⟨f, _⟩ | f
  ·exact ⟨c, f ▸ hc⟩
  ·rw [f] at hc; cases hc
  ·rcases f with ⟨f, c', hc'⟩ | ⟨v, t, x, f, _⟩
   ·exact ⟨c', hc'⟩
   ·rw [f] at hc; cases hc
 | arr h1 h2 h3 h4 _ ih =>
  refine .arr h1 ?_ h3 h4 ih;rename_i b _ _ _ _ _ _ _ _ _;rcases ho.2 b with f | ⟨f, _⟩ | f
  ·exact f ▸ h2
  ·rw [f] at h2; cases h2
  ·rcases f with ⟨f, c', hc'⟩ | ⟨v, t, x, f, _⟩
   ·rw [f] at h2; cases h2
   ·rw [f] at h2; cases h2
theorem U8.append {rho : Rho} {h h' : List Blk} {bs cs : List Lnt} {blks clks : List LC} (a : U8 rho h h' bs blks) (b : U8 rho h h' cs clks) : U8 rho h h' (bs ++ cs) (blks ++ clks) := by
 induction a with
 | nil => exact b
 | cons h1 h2 h3 _ ih => exact .cons h1 h2 h3 ih
 | arr h1 h2 h3 h4 _ ih => exact .arr h1 h2 h3 h4 ih
theorem CVL.append {im : Nat → Prop} {w : World} : ∀ {l l' : List SV} {c c' : List Value} {S S' : List Nat} {B B' : List LC}, CVL im w l c S B → CVL im w l' c' S' B' → CVL im w (l ++ l') (c ++ c') (S ++ S') (B ++ B')
 | [], _, _, _, _, _, _, _, h, h' => by simp only [CVL] at h; obtain ⟨rfl, rfl, rfl⟩ := h; simpa using h'
 | x :: l, l', c, c', S, S', B, B', h, h' => by
  simp only [CVL] at h;obtain ⟨c1, r, S1, S2, B1, B2, rfl, rfl, rfl, h4, h5⟩ := h;simp only [List.cons_append, CVL];exact ⟨c1, r ++ c', S1, S2 ++ S', B1, B2 ++ B', rfl, by simp, by simp, h4, CVL.append h5 h'⟩
def Lnt.n : Lnt → Nat
 | .box b => b
 | .arr b _ _ => b
def M6 (l : List Lnt) : List Nat := l.map Lnt.n
theorem U8.was {rho : Rho} {h h' : List Blk} {bs : List Lnt} {blks : List LC} (hb : U8 rho h h' bs blks) : ∀ b ∈ M6 bs, ¬ Y7 (nth h b) ∧ Y7 (nth h' b) := by
 induction hb with
 | nil => intro b hb; cases hb
 | cons h1 h2 h3 _ ih =>
  intro q hq;rcases List.mem_cons.1 hq with rfl | hq
  ·obtain ⟨c, hc⟩ := h2
   refine ⟨?_, .inl h3⟩;rw [hc]; exact Jm
  ·exact ih q hq
 | arr h1 h2 h3 h4 _ ih =>
  intro q hq;rcases List.mem_cons.1 hq with rfl | hq
  ·refine ⟨?_, .inr ⟨_, _, _, h3⟩⟩
   rw [h2]; exact Ul
  ·exact ih q hq
structure Ey (z : Z) (p : Po) (cs : List Value) (S : List Nat) (B : List LC) : Prop where
 args : CVL (LI z p.lent) z.w p.args cs S B
 nodup : S.Nodup
 off : Off z.h p.heap
 went : M5 z.rho z.h p.heap S
 boxes : U8 z.rho z.h p.heap p.boxes B
 nd : (M6 p.boxes).Nodup
theorem Zcz {z : Z} (hi : IZ z) (v : SV) (c : Value) (p : Po) (hv : V z v c) (hp : We z.h v = some p) : ∃ S B, Ey z p [c] S B := by
 have leaf : ∀ {v : SV}, CV z.im z.w v c [] [] → Ey z ⟨[v], z.h, [], []⟩ [c] [] [] := fun {v} h => by
  refine ⟨?_, by simp, Off.refl _, by intro k hk; simp at hk, .nil, by simp [M6]⟩;simp only [CVL];exact ⟨c, [], [], [], [], [], rfl, rfl, rfl, CV.mono (fun k hk => .inl hk) _ _ _ _ h, rfl, rfl, rfl⟩
 cases v with
 | own b v =>
  simp only [We] at hp
  split at hp
  ·rename_i v1 t x hb
   split at hp
   ·rename_i e
    simp only [Option.some.injEq] at hp;subst hp;obtain ⟨A, cap, S, h1, h2⟩ := ZaE hv hb e;have hs := hi.sim b _ h1;rw [hb] at hs;obtain ⟨A1, cap1, S1, k1, k2, k3⟩ := hs;cases k1;subst e;refine ⟨S, [.arr c t], ?_, hi.nodup b _ h1 (by rw [hb]; trivial), ZmT hb, ?_, ?_, by simp [M6]⟩
    ·simp only [CVL, CV]
     refine ⟨c, [], S, [], [.arr c t], [], rfl, by simp, rfl, ⟨rfl, k3, ?_⟩, rfl, rfl, rfl⟩;rw [h2];exact k2.mono (fun k hk => ⟨.inl hk, rfl⟩) _ _ _ _ _ (fun _ _ => rfl)
    ·intro k hk
     exact ⟨b, _, h1, by rw [hb]; trivial, .inr (.inr ⟨_, _, _, ZW hb⟩), by rw [hb]; exact Ul, hk⟩
    ·rw [h2]
     exact .arr h1 hb (ZW hb) k3 .nil
   ·cases hp
  ·cases hp
 | nil =>
  simp only [We, Option.some.injEq] at hp;subst hp;simp only [V] at hv;exact ⟨[], [], leaf (by simp only [CV]; exact ⟨trivial, trivial, hv⟩)⟩
 | val t x =>
  simp only [We] at hp;cases hsl : t.hasSl with
  | true => rw [hsl] at hp; cases hp
  | false =>
   rw [hsl] at hp;simp only [cond_false, Option.some.injEq] at hp;subst hp;simp only [V] at hv;exact ⟨[], [], leaf (by simp only [CV]; exact ⟨trivial, trivial, hv⟩)⟩
 | _ => simp [We] at hp
theorem Ey.more {z : Z} (hi : IZ z) {p1 q : Po} {cs1 cs2 : List Value} {S1 S2 : List Nat} {B1 B2 : List LC} (k1 : Ey z p1 cs1 S1 B1) (k2 : Ey (z.withH p1.heap) q cs2 S2 B2) :
  Ey z ⟨p1.args ++ q.args, q.heap, p1.lent ++ q.lent, p1.boxes ++ q.boxes⟩ (cs1 ++ cs2) (S1 ++ S2) (B1 ++ B2) := by
 have hap := M5.apart hi k1.off k1.went k2.went;refine ⟨?_, List.nodup_append.2 ⟨k1.nodup, k2.nodup, fun a ha b hb e => hap a ha (e ▸ hb)⟩, k1.off.trans k2.off, ?_, (k1.boxes.later k2.off).append (k2.boxes.earlier k1.off), ?_⟩
 ·have a1 := CVL.mono (im' := LI z (p1.lent ++ q.lent)) (fun k hk => LI.mono (fun r hr => by simp [hr]) hk) _ _ _ _ k1.args
  have a2 := CVL.mono (im' := LI z (p1.lent ++ q.lent)) (fun k hk => LI.mono (fun r hr => by simp [hr]) (LI.back k1.off hk)) _ _ _ _ k2.args;exact CVL.append a1 a2
 ·intro k hk
  rcases List.mem_append.1 hk with q' | q'
  ·exact (k1.went.later k2.off) k q'
  ·exact (k2.went.earlier k1.off) k q'
 ·simp only [M6, List.map_append]
  exact List.nodup_append.2 ⟨k1.nd, k2.nd, fun a ha b hb e => (k2.boxes.was b hb).1 (e ▸ (k1.boxes.was a ha).2)⟩
theorem ZcA : ∀ (l : List SV) {z : Z} (_ : IZ z) (cs : List Value) (p : Po), VL z l cs → Qy z.h l = some p → ∃ S B, Ey z p cs S B
 | [], z, hi, cs, p, hv, hp => by
  simp only [Qy, Option.some.injEq] at hp;subst hp;simp only [VL] at hv;exact ⟨[], [], by simp only [CVL]; exact ⟨hv, trivial, trivial⟩, by simp, Off.refl _, by intro k hk; simp at hk, .nil, by simp [M6]⟩
 | v :: l, z, hi, cs, p, hv, hp => by
  simp only [Qy] at hp
  split at hp
  ·cases hp
  ·rename_i p1 hp1
   split at hp
   ·cases hp
   ·rename_i q hq
    simp only [Option.some.injEq] at hp;subst hp;simp only [VL] at hv;obtain ⟨c, r, rfl, h2, h3⟩ := hv;obtain ⟨S1, B1, k1⟩ := Zcz hi v c p1 h2 hp1;obtain ⟨S2, B2, k2⟩ := ZcA l (z := z.withH p1.heap) (Jn hi k1.off) r q (VL.ext (X6 k1.off) _ _ h3) hq;exact ⟨_, _, k1.more hi k2⟩
mutual
theorem Zor : ∀ (m : Mode) {z : Z} (_ : IZ z) (v : SV) (c : Value) (p : Po), V z v c → Zck m v z.h = some p → ∃ S B, Ey z p [c] S B
 | .ro t, z, hi, v, c, p, hv, hp => by
  simp only [Zck] at hp
  split at hp
  ·rename_i x hx
   simp only [Option.some.injEq] at hp;subst hp;obtain ⟨cs, h1, h2⟩ := FN hi.sim hv hx;refine ⟨[], [], ?_, by simp, Off.refl _, by intro k hk; simp at hk, .nil, by simp [M6]⟩;simp only [CVL, CV];refine ⟨c, [], [], [], [], [], rfl, rfl, rfl, ⟨rfl, rfl, cs, h1.im (fun k hk => ?_), h2⟩, rfl, rfl, rfl⟩;rcases hk with hk | ⟨_, hk⟩
   ·exact .inl hk
   ·exact .inr hk
  ·cases hp
 | .mv, z, hi, v, c, p, hv, hp => by
  simp only [Zck] at hp
  split at hp
  ·rename_i v' h' hx
   simp only [Option.some.injEq] at hp;subst hp;obtain ⟨S, h1, h2, h3, h4⟩ := Zcy hi rfl v c v' h' hv hx;refine ⟨S, [], ?_, h2, h3, h4, .nil, by simp [M6]⟩;simp only [CVL];exact ⟨c, [], S, [], [], [], rfl, by simp, rfl, CV.mono (fun k hk => .inl hk) _ _ _ _ h1, rfl, rfl, rfl⟩
  ·cases hp
 | .mref, z, hi, v, c, p, hv, hp => by
  simp only [Zck] at hp
  split at hp
  ·rename_i b
   split at hp
   ·rename_i cells hb
    split at hp
    ·rename_i c' h' hx
     simp only [Option.some.injEq] at hp;subst hp;obtain ⟨blk, h1, h2⟩ := Zhx hv hb;have hs := hi.sim b _ h1;rw [hb] at hs;obtain ⟨blk', cs, e, k1, k2, k3⟩ := hs;cases k1;have hol := ZmS hb;have hi2 := Jn hi hol;obtain ⟨S, m1, m2, m3, m4⟩ := LN (z := z.withH (upd z.h b .lent)) hi2 rfl cells cs c' h' (VL.ext (X6 hol) _ _ k3) hx;have hbl : nth (upd z.h b .lent) b = some .lent := ZW hb;have hnot : blk ∉ S := by
      intro hm;obtain ⟨b', d', q1, q2, q3, q4, q5⟩ := m4 blk hm
      by_cases eb : b' = b
      ·subst eb; exact q4 (.inl hbl)
      ·exact hi2.disj b' b d' _ q1 h1 q2 (by show live (nth (upd z.h b .lent) b); rw [hbl]; trivial) eb blk q5 (by simp [D.blks])
     refine ⟨blk :: S, [.box blk], ?_, List.nodup_cons.2 ⟨hnot, m2⟩, hol.trans m3, ?_, .cons h1 ⟨cells, hb⟩ (m3.lent hbl) .nil, by simp [M6]⟩
     ·simp only [CVL, CV]
      exact ⟨c, [], blk :: S, [], [.box blk], [], rfl, by simp, rfl, ⟨blk, cs, e, S, h2, rfl, rfl, k2, CVL.mono (fun k hk => .inl hk) _ _ _ _ m1⟩, rfl, rfl, rfl⟩
     ·intro k hk
      rcases List.mem_cons.1 hk with q | q
      ·subst q
       exact ⟨b, _, h1, by rw [hb]; trivial, .inr (.inl (m3.lent hbl)), by rw [hb]; exact Jm, by simp [D.blks]⟩
      ·exact (m4.earlier hol) k q
    ·cases hp
   ·cases hp
  ·cases hp
 | .io, z, hi, v, c, p, hv, hp => by
  simp only [Zck] at hp
  split at hp
  ·rename_i l
   split at hp
   ·rename_i q hq
    simp only [Option.some.injEq] at hp;subst hp;simp only [V] at hv;obtain ⟨cs, h1, h2⟩ := hv;obtain ⟨S, B, k⟩ := ZcA l hi cs q h2 hq;refine ⟨S, B, ?_, k.nodup, k.off, k.went, k.boxes, k.nd⟩;simp only [CVL, CV];exact ⟨c, [], S, [], B, [], rfl, by simp, by simp, ⟨cs, h1, k.args⟩, rfl, rfl, rfl⟩
   ·cases hp
  ·exact Zcz hi v c p hv hp
 | .fnm ms, z, hi, v, c, p, hv, hp => by
  simp only [Zck] at hp
  split at hp
  ·rename_i f cap
   split at hp
   ·rename_i q hq
    simp only [Option.some.injEq] at hp;subst hp;simp only [V] at hv;obtain ⟨cs, h1, h2⟩ := hv;obtain ⟨S, B, k⟩ := ZdU ms hi cap cs q h2 hq;refine ⟨S, B, ?_, k.nodup, k.off, k.went, k.boxes, k.nd⟩;simp only [CVL, CV];exact ⟨c, [], S, [], B, [], rfl, by simp, by simp, ⟨cs, h1, k.args⟩, rfl, rfl, rfl⟩
   ·cases hp
  ·cases hp
theorem ZdU : ∀ (ms : List Mode) {z : Z} (_ : IZ z) (vs : List SV) (cs : List Value) (p : Po), VL z vs cs → Kc ms vs z.h = some p → ∃ S B, Ey z p cs S B
 | [], z, hi, vs, cs, p, hv, hp => by
  simp only [Kc] at hp
  split at hp
  ·simp only [Option.some.injEq] at hp
   subst hp;simp only [VL] at hv;exact ⟨[], [], by simp only [CVL]; exact ⟨hv, trivial, trivial⟩, by simp, Off.refl _, by intro k hk; simp at hk, .nil, by simp [M6]⟩
  ·cases hp
 | m :: ms, z, hi, vs, cs, p, hv, hp => by
  simp only [Kc] at hp
  split at hp
  ·cases hp
  ·rename_i v vs'
   split at hp
   ·cases hp
   ·rename_i p1 hp1
    split at hp
    ·cases hp
    ·rename_i q hq
     simp only [Option.some.injEq] at hp;subst hp;simp only [VL] at hv;obtain ⟨c, r, rfl, h2, h3⟩ := hv;obtain ⟨S1, B1, k1⟩ := Zor m hi v c p1 h2 hp1;obtain ⟨S2, B2, k2⟩ := ZdU ms (z := z.withH p1.heap) (Jn hi k1.off) vs' r q (VL.ext (X6 k1.off) _ _ h3) hq;exact ⟨_, _, k1.more hi k2⟩
end
theorem Ez {s t : Ty} {x : s.den} {y : t.den} (h : toS s t x = some y) : ∃ e : s = t, e ▸ x = y := by
 unfold toS at h
 split at h
 ·rename_i hs
  have e := Ty.same_eq hs;subst e;simp only [Option.some.injEq] at h;exact ⟨rfl, h⟩
 ·cases h
def SV.ver : SV → Nat
 | .own _ v => v
 | .sub _ v _ _ => v
 | _ => 0
theorem ZdV {h : List Blk} {a : Ty} {c : SV} {x : List a.den} (ho : Zhi h a c = some x) :
  (c = .nil ∧ x = []) ∨ ∃ b, (c = .own b c.ver ∨ ∃ off n, c = .sub b c.ver off n) ∧ pub h c = some (.fr a x, upd h b .gone) := by
 unfold Zhi at ho
 split at ho
 ·cases ho; exact .inl ⟨rfl, rfl⟩
 ·rename_i b v
  split at ho
  ·rename_i v' s y hb
   split at ho
   ·rename_i e
    obtain ⟨e1, e2⟩ := Ez ho;injection e1 with _ e1;subst e1;refine .inr ⟨b, .inl rfl, ?_⟩;simp only [pub, hb, if_pos e];cases e2; rfl
   ·cases ho
  ·cases ho
 ·rename_i b v off n
  split at ho
  ·rename_i v' s y hb
   split at ho
   ·rename_i e
    cases hn : s.noUq with
    | false => rw [hn] at ho; cases ho
    | true =>
     rw [hn] at ho;simp only [cond_true] at ho;obtain ⟨e1, e2⟩ := Ez ho;injection e1 with _ e1;subst e1;refine .inr ⟨b, .inr ⟨off, n, rfl⟩, ?_⟩;simp only [pub, hb, if_pos e, hn, cond_true];cases e2; rfl
   ·cases ho
  ·cases ho
 ·cases ho
theorem ZkT {z : Z} (hi : IZ z) {t : Ty} (ha : t.isAgg = false) (hu : ∀ a, t ≠ .sl true a) {l l' : List SV} {cs : List Value} {x : t.den} (hv : VL z l cs) (hp : Eq z.h t l = some (x, l')) :
  ∃ c1 c2, cs = c1 ++ c2 ∧ TR z.im z.w true t x c1 [] ∧ VL z l' c2 := by
 unfold Eq at hp;cases l with
 | nil => cases hp
 | cons c r =>
  simp only at hp
  split at hp
  ·rename_i y hy
   simp only [Option.some.injEq, Prod.mk.injEq] at hp;obtain ⟨rfl, rfl⟩ := hp;simp only [VL] at hv;obtain ⟨u, q, rfl, h2, h3⟩ := hv;obtain ⟨cs', h4, h5⟩ := ZdO hi.sim h2 hy;have h6 := Zht ha (h4.len.trans (VT ha));rw [← h5] at h6;subst h6;have h7 : TR z.im z.w false t y [u] [] := h4.im (fun k hk => by rcases hk with hk | ⟨hk, _⟩; exact hk; cases hk);refine ⟨[u], q, rfl, ?_, h3⟩;cases t with
   | sl w a =>
    cases w with
    | true => exact absurd rfl (hu a)
    | false => exact h7
   | pair _ _ => cases ha
   | _ => exact h7
  ·cases hp
theorem ZdW : ∀ (t : Ty) {z : Z} (_ : IZ z) (l l' : List SV) (cs : List Value) (x : t.den) (h' : List Blk), VL z l cs → UC z.h t l = some (x, l', h') →
  ∃ c1 c2 S, cs = c1 ++ c2 ∧ TR z.im z.w true t x c1 S ∧ S.Nodup ∧ Off z.h h' ∧ M5 z.rho z.h h' S ∧ VL (z.withH h') l' c2 := by
 intro t;have XE : ∀ {t : Ty} {z : Z} (_ : IZ z) (_ : t.isAgg = false) (_ : ∀ a, t ≠ .sl true a) {l l' : List SV} {cs : List Value} {x : t.den} {h' : List Blk}, VL z l cs → ((Eq z.h t l).map fun q => (q.1, q.2, z.h)) = some (x, l', h') →
   ∃ c1 c2 S, cs = c1 ++ c2 ∧ TR z.im z.w true t x c1 S ∧ S.Nodup ∧ Off z.h h' ∧ M5 z.rho z.h h' S ∧ VL (z.withH h') l' c2 := by
  intro t z hi ha hu l l' cs x h' hv hp;simp only [Option.map_eq_some_iff, Prod.mk.injEq] at hp;obtain ⟨⟨x1, l1⟩, h1, rfl, rfl, rfl⟩ := hp;obtain ⟨c1, c2, e, h2, h3⟩ := ZkT hi ha hu hv h1;exact ⟨c1, c2, [], e, h2, by simp, Off.refl _, by intro k hk; simp at hk, h3⟩
 induction t with
 | int k => intro z hi l l' cs x h' hv hp; exact XE hi rfl (fun _ e => by cases e) hv hp
 | bool => intro z hi l l' cs x h' hv hp; exact XE hi rfl (fun _ e => by cases e) hv hp
 | str => intro z hi l l' cs x h' hv hp; exact XE hi rfl (fun _ e => by cases e) hv hp
 | unit =>
  intro z hi l l' cs x h' hv hp;simp only [UC, Option.some.injEq, Prod.mk.injEq] at hp;obtain ⟨_, rfl, rfl⟩ := hp;exact ⟨[], cs, [], rfl, ⟨rfl, rfl⟩, by simp, Off.refl _, by intro k hk; simp at hk, hv⟩
 | pair a b iha ihb =>
  intro z hi l l' cs x h' hv hp;simp only [UC] at hp
  split at hp
  ·rename_i xa la ha hpa
   split at hp
   ·rename_i xb lb hb hpb
    simp only [Option.some.injEq, Prod.mk.injEq] at hp;obtain ⟨rfl, rfl, rfl⟩ := hp;obtain ⟨c1, c2, S1, e1, k1, k2, k3, k4, k5⟩ := iha hi _ _ _ _ _ hv hpa;obtain ⟨c3, c4, S2, e2, m1, m2, m3, m4, m5⟩ := ihb (z := z.withH ha) (Jn hi k3) _ _ _ _ _ k5 hpb;have hap := M5.apart hi k3 k4 m4;refine ⟨c1 ++ c3, c4, S1 ++ S2, by rw [e1, e2]; simp, ⟨c1, c3, S1, S2, rfl, rfl, k1, m1⟩, List.nodup_append.2 ⟨k2, m2, fun u hu v hv e => hap u hu (e ▸ hv)⟩, k3.trans m3, ?_, m5⟩;intro k hk;rcases List.mem_append.1 hk with q | q
    ·exact (k4.later m3) k q
    ·exact (m4.earlier k3) k q
   ·cases hp
  ·cases hp
 | sl u a _ =>
  intro z hi l l' cs x h' hv hp;cases u with
  | false => exact XE hi rfl (fun _ e => by cases e) hv hp
  | true =>
   simp only [UC, cond_true] at hp;cases l with
   | nil => cases hp
   | cons c r =>
    simp only at hp;simp only [VL] at hv;obtain ⟨cv, q, rfl, h2, h3⟩ := hv;cases hd : Zhi z.h a c with
    | none => rw [hd] at hp; cases hp
    | some y =>
     rw [hd] at hp;simp only at hp;rcases ZdV hd with ⟨rfl, rfl⟩ | ⟨b, hc, hpub⟩
     ·simp only [Option.some.injEq, Prod.mk.injEq] at hp
      obtain ⟨rfl, rfl, rfl⟩ := hp;simp only [V] at h2;exact ⟨[cv], q, [], rfl, ⟨none, 0, by rw [h2]; rfl, Nat.le_refl _, by simp⟩, by simp, Off.refl _, by intro k hk; simp at hk, h3⟩
     ·have hp' : (y, r, upd z.h b Blk.gone) = (x, l', h') := by
       rcases hc with hc | ⟨off, n, hc⟩ <;> (rw [hc] at hp; simpa using hp)
      simp only [Prod.mk.injEq] at hp';obtain ⟨rfl, rfl, rfl⟩ := hp';obtain ⟨S, k1, k2, k3, k4⟩ := Zcy hi rfl c cv _ _ h2 hpub;simp only [CV] at k1;exact ⟨[cv], q, S, rfl, k1.2.2, k2, k3, k4, VL.ext (X6 k3) _ _ h3⟩
theorem Zos {z : Z} (hi : IZ z) {t : Ty} {v v' : SV} {c : Value} {h' : List Blk} (hv : V z v c) (hp : Zpx z.h t v = some (v', h')) :
  ∃ S, CV z.im z.w v' c S [] ∧ S.Nodup ∧ Off z.h h' ∧ M5 z.rho z.h h' S := by
 unfold Zpx at hp;cases hg : ((Zpw v == t.isAgg) && t.okU) with
 | false => rw [hg] at hp; cases hp
 | true =>
  rw [hg] at hp;simp only [cond_true] at hp;simp only [Bool.and_eq_true, beq_iff_eq] at hg
  split at hp
  ·cases hp
  ·rename_i l hl
   split at hp
   ·rename_i x h1 hpk
    simp only [Option.some.injEq, Prod.mk.injEq] at hp;obtain ⟨rfl, rfl⟩ := hp;obtain ⟨hvl, hcell⟩ := BW hv hl;obtain ⟨c1, c2, S, e, k1, k2, k3, k4, k5⟩ := ZdW t hi _ _ _ _ _ hvl hpk;simp only [VL] at k5;subst k5;rw [List.append_nil] at e;refine ⟨S, ?_, k2, k3, k4⟩;simp only [CV];refine ⟨trivial, hg.2, c1, k1, ?_⟩;cases ha : t.isAgg with
    | true =>
     rw [ha] at hg;cases v with
     | agg l =>
      simp only [V] at hv;obtain ⟨cs, rfl, _⟩ := hv;simp only [mkV, ha, if_true];rw [← e]; simp [Value.cells]
     | val s y =>
      simp only [V] at hv;obtain ⟨cs, _, rfl⟩ := hv;have hs : s.isAgg = true := hg.1;simp only [mkV, ha, hs, if_true] at e ⊢;rw [← e]; simp [Value.cells]
     | _ => simp [Zpw] at hg
    | false =>
     have hlen := k1.len.trans (VT ha);have h6 := Zht ha hlen;have h1c : c.cells.toList.length = 1 := by rw [e]; exact hlen
     have hone := VL.one hvl hcell;have : c.cells.toList = [c] := by
      cases c with
      | agg cs =>
       exfalso;rw [ha] at hg;cases v with
       | agg l => simp [Zpw] at hg
       | val s y =>
        simp only [V] at hv;obtain ⟨cs', h3, h4⟩ := hv;have hs : s.isAgg = false := hg.1;obtain ⟨u, rfl, hu⟩ := h3.scalar hs;simp only [mkV, hs, Bool.false_eq_true, if_false, List.headD_cons] at h4;rw [← h4] at hu; cases hu
       | vl c0 s y =>
        simp only [V] at hv;obtain ⟨_, cs', h3, h4⟩ := hv;have hs : s.isAgg = false := by
         cases hq : s.isAgg with
         | false => rfl
         | true => simp only [ZaA, hq, cond_true] at hl; cases hl
        obtain ⟨u, rfl, hu⟩ := h3.scalar hs;simp only [mkV, hs, Bool.false_eq_true, if_false, List.headD_cons] at h4;rw [← h4] at hu; cases hu
       | own b v => simp only [V] at hv; obtain ⟨⟨A, n, k, hh⟩, _⟩ := hv; cases hh
       | sub b v o n => simp only [V] at hv; obtain ⟨⟨A, n, k, hh⟩, _⟩ := hv; cases hh
       | nil => simp only [V] at hv; cases hv
       | ptr b o => simp only [V] at hv; obtain ⟨⟨A, hh⟩, _⟩ := hv; cases hh
       | eptr b v i o => simp only [V] at hv; obtain ⟨⟨A, hh⟩, _⟩ := hv; cases hh
       | rptr s y o => simp only [V] at hv; obtain ⟨ad, cs, hh, _⟩ := hv; cases hh
       | fn f cap => simp only [V] at hv; obtain ⟨cs, hh, _⟩ := hv; cases hh
       | _ => simp [ZaA] at hl
      | _ => rfl
     rw [this] at e;rw [← e] at h6 ⊢;simp [mkV, ha]
   ·cases hp
end Go.Sx
