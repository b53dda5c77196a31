/- A cell put among others (slices.Insert): the program's own text is walked; its contract. -/
import Derived.Test.YtocddfdkknhgcaaGreatTypes
import Derived.Shelf.RegionOpenPlain
import Derived.WalkKit
import Derived.Lib.Walk
import Derived.Lib.SliceRun
import Derived.Lib.JoinLaws
import Derived.Lib.AppendZeros
import Derived.Lib.AppendZerosOnto
import Derived.Lib.Overlaps
import Derived.Laws.Externs
import Derived.Laws.IdiomCopy
import Derived.Laws.NewBlocks
import Derived.Shelf.Spec.SlicesInsert
import Derived.Test.YtocddfdkknhgcaaGreatLearnsF3
import Derived.Test.YtocddfdkknhgcaaGreatLearnsF1
import Derived.Test.YtocddfdkknhgcaaGreatLearnsF2
set_option linter.unusedVariables false
set_option linter.unusedSimpArgs false
set_option maxRecDepth 100000
namespace Go.Sx.Tryz
section
open Go Go.Proofs Go.Shelf Go.RowKit Go.Lib
theorem P8 {P : Program} {t t' e ty : TypeId} {inf : TypeInfo} (ht : P.underlying t = some (.slice e)) (hi : P.info? e = some inf) {A : Addr} {dl dc : Nat} {src : Value} {m k : Nat} {cells : List Value} {w w' : World}
  (hl : (Builtin.lenOf src).run P w = .ok m w) (hk : Nat.min m dl = k) (hc : (Builtin.firstCells inf.size k src).run P w = .ok cells.toArray w) (hs : (storeCells A cells).run P w = .ok () w') :
  (Builtin.copy_ #[t, t'] ty #[.slice (some A) dl dc, src]).run P w = .ok (goInt k) w' := by
 unfold Builtin.copy_
 simp only [List.getElem?_toArray, List.getElem?_cons_zero, List.getElem?_cons_succ]
 rw [Sx.run_bind_ok (Sx.run_underlying ht)]
 dsimp only
 rw [Sx.run_bind_ok hl, hk, Sx.run_bind_ok (Sx.run_sizeOf hi), Sx.run_bind_ok hc]
 dsimp only
 rw [Sx.run_bind_ok hs]
 rfl
theorem t27 : Tryz.prog.underlying 30 = some (.slice 94) := by kernel_rfl
theorem t3 : Tryz.prog.underlying 3 = some (.int .i64) := by kernel_rfl
theorem t4 : Tryz.prog.underlying 4 = some .bool := by kernel_rfl
theorem Zyh : (Tryz.prog.info? 94).map (fun i => (i.size, i.bytes)) = some (2, 24) := by kernel_rfl
theorem ZwQ : Tryz.prog.funcs[230]? = some Tryz.f230 := by kernel_rfl
theorem Zyi : Tryz.f230.ntmps = 95 := by kernel_rfl
theorem Zyy : Tryz.prog.funcs[249]? = some Tryz.f249 := by kernel_rfl
set_option maxHeartbeats 4000000 in
theorem Zso (b off n c i vb voff vc : Nat) (w W1 W2 : World) (hi : i < n) (hlim : n + 1 ≤ 4294967296) (hroom : n + 1 ≤ c)
  (hov : ∀ lb cb, (callFunc 249 #[.slice (some ⟨vb, voff, none⟩) 1 vc, .slice (some ⟨b, off + (i + 1) * 2, none⟩) lb cb]).run Tryz.prog w = .ok (.value (.bool false)) w)
  (hcp1 : ∀ ty dc sc, (Builtin.copy_ #[30, 30] ty #[.slice (some ⟨b, off + (i + 1) * 2, none⟩) (n - i) dc, .slice (some ⟨b, off + i * 2, none⟩) (n + 1 - i) sc]).run Tryz.prog w.drew = .ok (goInt ((n - i : Nat) : Int)) W1)
  (hcp2 : ∀ ty dc, (Builtin.copy_ #[30, 30] ty #[.slice (some ⟨b, off + i * 2, none⟩) (n + 1 - i) dc, .slice (some ⟨vb, voff, none⟩) 1 vc]).run Tryz.prog W1 = .ok (goInt 1) W2) :
  Calls Tryz.prog 230 #[.slice (some ⟨b, off, none⟩) n c, .int .i64 i, .slice (some ⟨vb, voff, none⟩) 1 vc] w fun e w' =>
   e = .returned (.slice (some ⟨b, off, none⟩) (n + 1) c) ∧ w' = W2 := by
 have u27 : ∀ w, (underlying 30).run Tryz.prog w = .ok (.slice 94) w := fun w => Sx.run_underlying t27
 have u3 : ∀ w, (underlying 3).run Tryz.prog w = .ok (.int .i64) w := fun w => Sx.run_underlying t3
 have u4 : ∀ w, (underlying 4).run Tryz.prog w = .ok .bool w := fun w => Sx.run_underlying t4
 have z161 : ∀ w, (Go.sizeOf 94).run Tryz.prog w = .ok 2 w := by
  intro w
  obtain ⟨inf, h1, h2⟩ : ∃ inf, Tryz.prog.info? 94 = some inf ∧ inf.size = 2 := by
   have := Zyh
   cases h : Tryz.prog.info? 94 with
   | none => rw [h] at this; cases this
   | some x => rw [h] at this; simp at this; exact ⟨x, rfl, this.1⟩
  rw [Sx.run_sizeOf h1, h2]
 have t27' := t27
 have mixed : Tryz.prog.follows .mixedOrders = true := by kernel_rfl
 have hz2 : ¬ ((i : Int) = (n : Int)) := by omega
 have hw1 : IntKind.i64.wrap ((i : Int) + 1) = (i : Int) + 1 := by rw [IntKind.wrap_i64]; omega
 have hb1 : (0 : Int) ≤ (i : Int) + 1 := by omega
 have hin : i ≤ n := by omega
 have htn : ((i : Int) + 1).toNat = i + 1 := by omega
 have hb2 : ¬ (c = i + 1) := by omega
 have hb3 : (i : Int) ≤ (n : Int) + 1 := by omega
 have hb4 : ¬ (c = i) := by omega
 go_enter ZwQ, Zyi
 go_wp2_with (simp only [hov])
 go_region_law_o (refine step_copy_runI rfl _ _ 30 30 rfl _ _ (by simp [Act.eval, Act.put]) (by simp [Act.eval, Act.put]) (hcp1 _ _ _) ?_)
 go_wp2_with (at_builtin; refine wpList_copy_runI _ rfl _ _ 30 30 rfl _ _ rfl rfl (hcp2 _ _) ?_)
 go_ret
 exact ⟨rfl, rfl⟩
set_option maxHeartbeats 4000000 in
theorem Zt6 (b off n c i vb voff vc nb G : Nat) (w W1 W2 W3 : World) (hi : i < n) (hlim : n + 1 ≤ 4294967296) (hnc : n ≤ c) (hroom : c < n + 1) (hG : n + 1 ≤ G)
  (hap : ∀ ty, (Builtin.append_ #[30, 3] ty #[.slice (some ⟨b, off, none⟩) i c, .int .i64 ((n : Int) + 1 - (i : Int))]).run Tryz.prog w = .ok (.slice (some ⟨nb, 0, none⟩) (n + 1) G) W1)
  (hcA : ∀ ty dc, (Builtin.copy_ #[30, 30] ty #[.slice (some ⟨nb, i * 2, none⟩) (n + 1 - i) dc, .slice (some ⟨vb, voff, none⟩) 1 vc]).run Tryz.prog W1 = .ok (goInt 1) W2)
  (hcB : ∀ ty dc sc, (Builtin.copy_ #[30, 30] ty #[.slice (some ⟨nb, (i + 1) * 2, none⟩) (n - i) dc, .slice (some ⟨b, off + i * 2, none⟩) (n - i) sc]).run Tryz.prog W2.drew = .ok (goInt ((n - i : Nat) : Int)) W3) :
  Calls Tryz.prog 230 #[.slice (some ⟨b, off, none⟩) n c, .int .i64 i, .slice (some ⟨vb, voff, none⟩) 1 vc] w fun e w' =>
   e = .returned (.slice (some ⟨nb, 0, none⟩) (n + 1) G) ∧ w' = W3 := by
 have u27 : ∀ w, (underlying 30).run Tryz.prog w = .ok (.slice 94) w := fun w => Sx.run_underlying t27
 have u3 : ∀ w, (underlying 3).run Tryz.prog w = .ok (.int .i64) w := fun w => Sx.run_underlying t3
 have u4 : ∀ w, (underlying 4).run Tryz.prog w = .ok .bool w := fun w => Sx.run_underlying t4
 have z161 : ∀ w, (Go.sizeOf 94).run Tryz.prog w = .ok 2 w := by
  intro w
  obtain ⟨inf, h1, h2⟩ : ∃ inf, Tryz.prog.info? 94 = some inf ∧ inf.size = 2 := by
   have := Zyh
   cases h : Tryz.prog.info? 94 with
   | none => rw [h] at this; cases this
   | some x => rw [h] at this; simp at this; exact ⟨x, rfl, this.1⟩
  rw [Sx.run_sizeOf h1, h2]
 have t27' := t27
 have mixed : Tryz.prog.follows .mixedOrders = true := by kernel_rfl
 have hz2 : ¬ ((i : Int) = (n : Int)) := by omega
 have hz3 : (c : Int) < (n : Int) + 1 := by omega
 have hw1 : IntKind.i64.wrap ((i : Int) + 1) = (i : Int) + 1 := by rw [IntKind.wrap_i64]; omega
 have hb1 : (0 : Int) ≤ (i : Int) + 1 := by omega
 have hin : i ≤ n := by omega
 have htn : ((i : Int) + 1).toNat = i + 1 := by omega
 have hGi : ¬ (G = i) := by omega
 have hGim : ¬ (G = i + 1) := by omega
 have hci : ¬ (c = i) := by omega
 have hb3 : (i : Int) ≤ (n : Int) := by omega
 go_enter ZwQ, Zyi
 go_wp2_with (first
  | (at_builtin; refine Lib.wpList_append_run _ rfl _ _ _ _ rfl _ _ rfl rfl _ _ (hap _) ?_)
  | (at_builtin; refine wpList_copy_runI _ rfl _ _ 30 30 rfl _ _ rfl rfl (hcA _ _) ?_))
 go_region_law_o (refine step_copy_runI rfl _ _ 30 30 rfl _ _ (by simp [Act.eval, Act.put]) (by simp [Act.eval, Act.put]) (hcB _ _ _) ?_)
 go_wp2
 go_ret
 exact ⟨rfl, rfl⟩
theorem _root_.Go.Sx.BlockAt.pre {w : World} {A : Addr} {n : Nat} {cs : List Value} (h : Sx.BlockAt w A n cs) (k : Nat) : Sx.BlockAt w A n (cs.take k) := by
 obtain ⟨all, e, h1, h2, h3⟩ := h
 refine ⟨all, e, h1, h2, fun j c hj => ?_⟩
 rw [List.getElem?_take] at hj
 split at hj
 ·exact h3 j c hj
 ·cases hj
theorem _root_.Go.Sx.BlockAt.heap {w w' : World} {A : Addr} {n : Nat} {cs : List Value} (h : Sx.BlockAt w A n cs) (he : w'.heap[A.block]? = w.heap[A.block]?) : Sx.BlockAt w' A n cs := h.mono he
structure Zsp (w w' : World) (b : Nat) : Prop where
 same : ∀ k, k ≠ b → w'.heap[k]? = w.heap[k]?
 size : w'.heap.size = w.heap.size
 frz : Sx.Frz w w'
theorem Zo0 {P : Program} {w : World} {ad : Addr} {N p : Nat} {cs ds : List Value} (all : List Value) (e : TypeId) (h1 : w.heap[ad.block]? = some (.cells all.toArray e (0, 0))) (h2 : ad.off + p + ds.length ≤ all.length)
  (h3 : Sx.BlockAt (Sx.setBlock w ad.block (.cells (Sx.put1 all (ad.off + p) ds).toArray e (0, 0))) ad N cs) (hone : ∀ c ∈ ds, Sx.one c = true) (hne : ds ≠ []) :
  ∃ w', (storeCells ⟨ad.block, ad.off + p, none⟩ ds).run P w = .ok () w' ∧ Sx.BlockAt w' ad N cs ∧ Zsp w w' ad.block := by
 have hst := Sx.run_storeCells (P := P) (A := ⟨ad.block, ad.off + p, none⟩) rfl rfl ds 0 w all h1 (by simpa using h2) hone
 simp only [Nat.add_zero, if_neg hne] at hst
 exact ⟨_, hst, h3, fun k hk => Sx.setBlock_ne hk, Sx.setBlock_size, Sx.frz_set⟩
theorem MO {P : Program} {w : World} {ad : Addr} {N : Nat} {cs ds : List Value} (h : Sx.BlockAt w ad N cs) (hf : cs.length + ds.length ≤ N) (hone : ∀ c ∈ ds, Sx.one c = true) (hne : ds ≠ []) :
  ∃ w', (storeCells ⟨ad.block, ad.off + cs.length, none⟩ ds).run P w = .ok () w' ∧ Sx.BlockAt w' ad N (cs ++ ds) ∧ Zsp w w' ad.block := by
 obtain ⟨all, e, h1, h2, h3⟩ := h.more hf
 exact Zo0 all e h1 h2 h3 hone hne
theorem Zsq {P : Program} {w : World} {ad : Addr} {N o : Nat} {cs ds : List Value} (h : Sx.BlockAt w ad N cs) (ho : o + ds.length ≤ cs.length) (hn : cs.length ≤ N) (hone : ∀ c ∈ ds, Sx.one c = true) (hne : ds ≠ []) :
  ∃ w', (storeCells ⟨ad.block, ad.off + o, none⟩ ds).run P w = .ok () w' ∧ Sx.BlockAt w' ad N (Sx.put1 cs o ds) ∧ Zsp w w' ad.block := by
 obtain ⟨all, e, h1, h2, h3⟩ := h.put ho hn
 exact Zo0 all e h1 h2 h3 hone hne
theorem JN {P : Program} {w : World} {ad : Addr} {N len cap sz k : Nat} {cs ds : List Value} (h : Sx.BlockAt w ad N cs) (o : Nat) (hd : ds = (cs.drop o).take (k * sz)) (hl : ds.length = k * sz) :
  (Builtin.firstCells sz k (.slice (some ⟨ad.block, ad.off + o, none⟩) len cap)).run P w = .ok ds.toArray w := by
 have hr := (Sx.Reads.of_block h).part o (k * sz)
 rw [← hd] at hr
 exact Sx.run_loadCells (P := P) rfl hl hr
theorem ZwR : ∃ inf, Tryz.prog.info? 94 = some inf ∧ inf.size = 2 ∧ inf.bytes = 24 ∧ inf.zero = some (Sx.mkV Z9 (Sx.zeroVals Z9)) := by
 have h1 : (Tryz.prog.info? 94).map (fun i => (i.size, i.bytes, i.zero)) = some (2, 24, some (Sx.mkV Z9 (Sx.zeroVals Z9))) := by kernel_rfl
 cases h : Tryz.prog.info? 94 with
 | none => rw [h] at h1; cases h1
 | some x =>
  rw [h] at h1
  simp only [Option.map_some, Option.some.injEq, Prod.mk.injEq] at h1
  exact ⟨x, rfl, h1.1, h1.2.1, h1.2.2⟩
theorem Zvy {a d v : List Value} {i : Nat} (ha : a.length = (i + 1) * 2) (hv : v.length = 2) : Sx.put1 (a ++ d) (i * 2) v = a.take (i * 2) ++ (v ++ d) := by
 unfold Sx.put1
 rw [List.take_append_of_le_length (by omega), hv, show i * 2 + 2 = a.length by omega, List.drop_left, List.append_assoc]
set_option maxHeartbeats 4000000 in
/-- a cell put among others: in place, or in a new row -/
theorem Zvz (w : World) (ad vad : Addr) (cap vcap n i : Nat) (inner V : List Value) (hs : ad.spot = none) (hvs : vad.spot = none) (hne : vad.block ≠ ad.block) (hb : Sx.BlockAt w ad (cap * 2) inner) (hv : Sx.BlockAt w vad (vcap * 2) V)
  (hil : inner.length = n * 2) (hvl : V.length = 2) (hi1 : ∀ c ∈ inner, Sx.one c = true) (hv1 : ∀ c ∈ V, Sx.one c = true) (hi : i < n) (hnc : n ≤ cap) (hlim : n + 1 ≤ 4294967296) :
  Calls Tryz.prog 230 #[.slice (some ad) n cap, .int .i64 i, .slice (some vad) 1 vcap] w fun e w' => ∃ (ad' : Addr) (cap' : Nat), e = .returned (.slice (some ad') (n + 1) cap') ∧ ad'.spot = none ∧ n + 1 ≤ cap' ∧
   (ad'.block = ad.block ∨ w.heap.size ≤ ad'.block) ∧ ad'.block < w'.heap.size ∧ Sx.BlockAt w' ad' (cap' * 2) (inner.take (i * 2) ++ (V ++ inner.drop (i * 2))) ∧ Sx.Kept w w' [ad.block] := by
 obtain ⟨b, off, sp⟩ := ad
 obtain ⟨vb, voff, vsp⟩ := vad
 dsimp only at hs hvs hne
 subst hs; subst hvs
 obtain ⟨inf, hinf, hsz, hby, hzero⟩ := ZwR
 have hblt : b < w.heap.size := by
  obtain ⟨all, e, h1, _⟩ := hb
  exact (Array.getElem?_eq_some_iff.1 h1).1
 have hvne : V ≠ [] := fun e => by rw [e] at hvl; cases hvl
 have hDl : (inner.drop (i * 2)).length = (n - i) * 2 := by rw [List.length_drop, hil, Nat.sub_mul]
 have hDne : inner.drop (i * 2) ≠ [] := fun e => by rw [e] at hDl; simp at hDl; omega
 have hD1 : ∀ c ∈ inner.drop (i * 2), Sx.one c = true := fun c hc => hi1 c (List.mem_of_mem_drop hc)
 have hlen : ∀ (d : Nat), (Builtin.lenOf (.slice (some ⟨vb, voff, none⟩) 1 vcap)).run Tryz.prog w = .ok 1 w := fun _ => rfl
 have hDt : inner.drop (i * 2) = (inner.drop (i * 2)).take ((n - i) * 2) := by rw [List.take_of_length_le (Nat.le_of_eq hDl)]
 have hVt : V = (V.drop 0).take (1 * 2) := by rw [List.drop_zero, List.take_of_length_le (by omega)]
 have hTl : (inner.take ((i + 1) * 2)).length = (i + 1) * 2 := by rw [List.length_take, hil]; omega
 have hTl2 : (inner.take (i * 2)).length = i * 2 := by rw [List.length_take, hil]; omega
 by_cases hroom : n + 1 ≤ cap
 ·-- there is room
  have hb0 : Sx.BlockAt w.drew ⟨b, off, none⟩ (cap * 2) inner := hb.heap rfl
  obtain ⟨W1, s1, s2, s3⟩ := MO (P := Tryz.prog) (hb0.pre ((i + 1) * 2)) (ds := inner.drop (i * 2)) (by rw [hTl, hDl]; omega) hD1 hDne
  obtain ⟨W2, r1, r2, r3⟩ := Zsq (P := Tryz.prog) (o := i * 2) (ds := V) s2 (by rw [List.length_append, hTl, hDl, hvl]; omega) (by rw [List.length_append, hTl, hDl]; omega) hv1 hvne
  rw [Zvy hTl hvl, List.take_take, Nat.min_eq_left (by omega)] at r2
  rw [hTl] at s1
  have hv2 : Sx.BlockAt W1 ⟨vb, voff, none⟩ (vcap * 2) V := hv.heap (s3.same vb hne)
  have hw := Zso b off n cap i vb voff vcap w W1 W2 hi hlim hroom (fun lb cb => ?_) (fun ty dc sc => ?_) (fun ty dc => ?_)
  ·refine hw.mono ?_
   rintro e w' ⟨rfl, rfl⟩
   refine ⟨⟨b, off, none⟩, cap, rfl, rfl, hroom, .inl rfl, ?_, r2, ?_⟩
   ·rw [r3.size, s3.size]; exact hblt
   ·have k1 : Sx.Kept w w.drew [b] := ⟨Nat.le_refl _, fun _ _ _ => rfl, ⟨fun _ _ => .inl rfl, rfl, rfl, Nat.le_refl _⟩⟩
    have k2 : Sx.Kept w.drew W1 [b] := ⟨Nat.le_of_eq s3.size.symm, fun k _ hk => s3.same k (by simpa using hk), s3.frz⟩
    have k3 : Sx.Kept W1 w' [b] := ⟨Nat.le_of_eq r3.size.symm, fun k _ hk => r3.same k (by simpa using hk), r3.frz⟩
    exact (k1.trans k2 (fun k hk => .inl hk)).trans k3 (fun k hk => .inl hk)
  ·rw [run_callFunc_extern Zyy (by kernel_rfl) (by kernel_rfl) (by kernel_rfl) (e := Extern.SlicesOverlaps.overlaps #[30, 30] #[4]) (by kernel_rfl)]
   obtain ⟨all, e, h1, h2, _⟩ := hb
   obtain ⟨vall, ve, g1, g2, _⟩ := hv
   have hz : ∀ w, (Go.sizeOf 94).run Tryz.prog w = .ok 2 w := fun w => by rw [Sx.run_sizeOf hinf, hsz]
   dsimp only at h1 h2 g1 g2
   rw [Lib.run_overlaps_apart w 30 4 94 t27 2 hz ⟨vb, voff, none⟩ ⟨b, off + (i + 1) * 2, none⟩ 1 vcap lb cb hne ve e vall.size all.size (by simp only [World.shape?, g1]) (by simp only [World.shape?, h1]) (by omega)
    (by simp only [World.frozen?, g1]; simp) (by simp only [World.frozen?, g1]; simp)]
   rfl
  ·refine P8 (P := Tryz.prog) (m := n + 1 - i) (k := n - i) t27 hinf rfl (by simp only [Nat.min_def]; split <;> omega) ?_ s1
   rw [hsz]
   exact JN hb0 (i * 2) hDt hDl
  ·have h0 := P8 (P := Tryz.prog) (t := 30) (t' := 30) (ty := ty) (dl := n + 1 - i) (dc := dc) (src := .slice (some ⟨vb, voff, none⟩) 1 vcap) (m := 1) (k := 1) (w := W1) t27 hinf rfl (by simp only [Nat.min_def]; split <;> omega) (by
    rw [hsz]
    have := JN (P := Tryz.prog) (len := 1) (cap := vcap) (sz := 2) (k := 1) hv2 0 hVt (by omega)
    simpa using this) r1
   exact h0
 ·-- there is none
  have hroom' : cap < n + 1 := by omega
  have hk : i + (n + 1 - i) = n + 1 := by omega
  have hbn := Sx.nextcap_le hroom' hlim
  have hold : (Builtin.firstCells inf.size i (.slice (some ⟨b, off, none⟩) i cap)).run Tryz.prog w.drew = .ok (inner.take (i * 2)).toArray w.drew := by
   rw [hsz]
   have := JN (P := Tryz.prog) (w := w.drew) (len := i) (cap := cap) (sz := 2) (k := i) (ds := inner.take (i * 2)) (hb.heap rfl) 0 (by rw [List.drop_zero]) hTl2
   simpa using this
  have hap := Lib.run_append_grow_zeros w 30 3 30 94 inf _ .i64 .i64 t27 t3 hinf hzero (some ⟨b, off, none⟩) i cap (inner.take (i * 2)) hold (n + 1 - i) (by omega) (by omega) (by omega) (by omega) (by rw [hby]; omega) (by rw [hby, hk]; omega)
  obtain ⟨G, hGe⟩ : ∃ G, G = grownCap w (i + (n + 1 - i)) cap 94 := ⟨_, rfl⟩
  have hGn : n + 1 ≤ G := by rw [hGe, hk]; exact grownCap_ge w _ _ _
  rw [← hGe, hk] at hap
  obtain ⟨W1, hW1⟩ : ∃ W1, W1 = w.drew.alloc (.cells ((inner.take (i * 2)).toArray ++ Builtin.zeroCells (Sx.mkV Z9 (Sx.zeroVals Z9)).cells (n + 1 - i) ++ Builtin.zeroCells (Sx.mkV Z9 (Sx.zeroVals Z9)).cells (G - (n + 1))) 94) := ⟨_, rfl⟩
  rw [← hW1] at hap
  have hnb : Sx.BlockAt W1 ⟨w.heap.size, 0, none⟩ (G * 2) (inner.take (i * 2)) := by
   refine ⟨_, 94, by rw [hW1]; exact Sx.push_new (w := w.drew), ?_, fun j c hj => ?_⟩
   ·have hzs : (Sx.mkV Z9 (Sx.zeroVals Z9)).cells.size = 2 := by kernel_rfl
    simp only [Array.size_append, Builtin.zeroCells, Array.size_map, Array.size_range, List.size_toArray, hTl2, hzs]
    omega
   ·have hjl : j < (inner.take (i * 2)).length := (List.getElem?_eq_some_iff.1 hj).1
    rw [Nat.zero_add, Array.append_assoc, Array.getElem?_append_left (by simpa using hjl)]
    simpa using hj
  have hold1 : ∀ k, k < w.heap.size → W1.heap[k]? = w.heap[k]? := fun k hk => by rw [hW1]; exact Sx.push_get (w := w.drew) hk
  have hsz1 : W1.heap.size = w.heap.size + 1 := by rw [hW1]; exact Array.size_push _
  have hvlt : vb < w.heap.size := by
   obtain ⟨all, e, h1, _⟩ := hv
   exact (Array.getElem?_eq_some_iff.1 h1).1
  have hvn : vb ≠ w.heap.size := by omega
  have hbn2 : b ≠ w.heap.size := by omega
  obtain ⟨W2, s1, s2, s3⟩ := MO (P := Tryz.prog) hnb (ds := V) (by rw [hTl2, hvl]; omega) hv1 hvne
  have s2d : Sx.BlockAt W2.drew ⟨w.heap.size, 0, none⟩ (G * 2) (inner.take (i * 2) ++ V) := s2.heap rfl
  obtain ⟨W3, r1, r2, r3⟩ := MO (P := Tryz.prog) s2d (ds := inner.drop (i * 2)) (by rw [List.length_append, hTl2, hvl, hDl]; omega) hD1 hDne
  rw [List.append_assoc] at r2
  have hv1' : Sx.BlockAt W1 ⟨vb, voff, none⟩ (vcap * 2) V := hv.heap (hold1 vb hvlt)
  have hb2 : Sx.BlockAt W2.drew ⟨b, off, none⟩ (cap * 2) inner := hb.heap (((show W2.drew.heap[b]? = W2.heap[b]? from rfl).trans (s3.same b hbn2)).trans (hold1 b hblt))
  have hw := Zt6 b off n cap i vb voff vcap w.heap.size G w W1 W2 W3 hi hlim hnc hroom' hGn (fun ty => ?_) (fun ty dc => ?_) (fun ty dc sc => ?_)
  ·refine hw.mono ?_
   rintro e w' ⟨rfl, rfl⟩
   refine ⟨⟨w.heap.size, 0, none⟩, G, rfl, rfl, hGn, .inr (Nat.le_refl _), ?_, r2, ?_⟩
   ·have h1 := r3.size
    have h2 := s3.size
    have h3 : W2.drew.heap.size = W2.heap.size := rfl
    show w.heap.size < w'.heap.size
    omega
   ·refine ⟨?_, fun k hk hnk => ?_, ?_⟩
    ·have h1 := r3.size
     have h2 := s3.size
     have h3 : W2.drew.heap.size = W2.heap.size := rfl
     omega
    ·have hkn : k ≠ w.heap.size := by omega
     exact (((r3.same k hkn).trans (show W2.drew.heap[k]? = W2.heap[k]? from rfl)).trans (s3.same k hkn)).trans (hold1 k hk)
    ·have f1 : Sx.Frz w W1 := by rw [hW1]; exact (show Sx.Frz w w.drew from ⟨fun _ _ => .inl rfl, rfl, rfl, Nat.le_refl _⟩).trans (Sx.frz_push w.drew _ rfl)
     exact ((f1.trans s3.frz).trans (show Sx.Frz W2 W2.drew from ⟨fun _ _ => .inl rfl, rfl, rfl, Nat.le_refl _⟩)).trans r3.frz
  ·have := hap
   rw [show ((n + 1 - i : Nat) : Int) = (n : Int) + 1 - (i : Int) by omega] at this
   exact this
  ·refine P8 (P := Tryz.prog) (m := 1) (k := 1) (cells := V) t27 hinf rfl (by simp only [Nat.min_def]; split <;> omega) ?_ ?_
   ·rw [hsz]
    have := JN (P := Tryz.prog) (len := 1) (cap := vcap) (sz := 2) (k := 1) hv1' 0 hVt (by omega)
    simpa using this
   ·rw [hTl2] at s1
    simpa using s1
  ·refine P8 (P := Tryz.prog) (m := n - i) (k := n - i) (cells := inner.drop (i * 2)) t27 hinf rfl (by simp only [Nat.min_def]; split <;> omega) ?_ ?_
   ·rw [hsz]
    exact JN hb2 (i * 2) hDt hDl
   ·rw [List.length_append, hTl2, hvl, show i * 2 + 2 = (i + 1) * 2 by omega] at r1
    simpa using r1
theorem Lx : Z9.hasSl = false := by kernel_rfl
theorem ED : Z9.size = 2 := by kernel_rfl
theorem Zo1 {p : Nat → Prop} {w : World} {xs : List Z9.den} {c : Value} {S : List Nat} (h : Sx.TR p w true (.sl true Z9) xs [c] S) :
  ∃ A cap, c = .slice A xs.length cap ∧ xs.length ≤ cap ∧ (A = none → xs = []) ∧ ∀ ad, A = some ad → ad.spot = none ∧ S = [ad.block] ∧ ∃ inner, Sx.BlockAt w ad (cap * 2) inner ∧ Sx.Reps (Sx.TR (fun _ => False) w false Z9) xs inner [] := by
 obtain ⟨A, cap, h1, h2, h3⟩ := h
 simp only [List.cons.injEq, and_true] at h1
 simp only [Bool.and_self, if_true] at h3
 refine ⟨A, cap, h1, h2, fun e => ?_, fun ad e => ?_⟩
 ·subst e; exact h3.1
 ·subst e
  obtain ⟨k1, inner, S', k2, k3, k4⟩ := h3
  obtain ⟨k5, k6⟩ := k4.noUq (Sx.Ty.flat_noUq Lx)
  subst k5
  rw [ED] at k3
  exact ⟨k1, k2, inner, k3, k6.noSl Lx⟩
theorem ZwS (xs : List Z9.den) (i : Nat) (x : Z9.den) (hi : i < xs.length) (hlim : xs.length + 1 ≤ 4294967296) :
  Sx.CallOk Tryz.prog 230 (Sx.AP.encL [.gv Z9, .ro Zk, .gv Z9] (xs, (i : Int), [x], ())) (.fv (.sl true Z9) (xs.take i ++ ([x] ++ xs.drop i))) [] := by
 intro p w cargs S B hc hn hS hp
 simp only [Sx.AP.encL, Sx.AP.enc, Sx.CVL, Sx.CV] at hc
 obtain ⟨c1, r1, S1, T1, B1, D1, rfl, rfl, rfl, ⟨hB1, _, h1⟩, c2, r2, S2, T2, B2, D2, rfl, rfl, rfl, ⟨rfl, hB2, cs2, h2, rfl⟩, c3, r3, S3, T3, B3, D3, rfl, rfl, rfl, ⟨hB3, _, h3⟩, rfl, rfl, rfl⟩ := hc
 obtain ⟨A, cap, rfl, hl1, hA0, hA⟩ := Zo1 h1
 obtain ⟨A3, cap3, rfl, hl3, hA30, hA3⟩ := Zo1 h3
 have hc2 : Sx.mkV Zk cs2 = .int .i64 (i : Int) := by
  obtain ⟨e, _⟩ := (h2 : cs2 = [.int .i64 (i : Int)] ∧ _)
  rw [e]; rfl
 rw [hc2]
 cases A with
 | none => rw [hA0 rfl] at hi; simp at hi
 | some ad =>
 cases A3 with
 | none => cases hA30 rfl
 | some vad =>
 obtain ⟨a1, rfl, inner, a2, a3⟩ := hA ad rfl
 obtain ⟨b1, rfl, V, b2, b3⟩ := hA3 vad rfl
 have hil : inner.length = xs.length * 2 := by rw [← ED]; exact Sx.Reps.len (fun _ _ _ hr => hr.len) a3
 have hvl : V.length = 2 := by
  have := Sx.Reps.len (n := Z9.size) (fun _ _ _ hr => hr.len) b3
  rw [ED] at this
  simpa using this
 have hne : vad.block ≠ ad.block := by
  have := hn
  simp only [List.nil_append, List.append_nil, List.cons_append, List.nodup_cons, List.mem_singleton] at this
  exact fun e => this.1 e.symm
 have hw := Zvz w ad vad cap cap3 xs.length i inner V a1 b1 hne a2 b2 hil hvl (Sx.Reps.one (fun _ _ _ hr => hr.ones) a3) (Sx.Reps.one (fun _ _ _ hr => hr.ones) b3) hi hl1 hlim
 refine fun _ => hw.mono ?_
 rintro e w' ⟨ad', cap', rfl, q1, q2, q3, q4, q5, q6⟩
 have hmem : ∀ k, k ∈ [ad'.block] ++ ([] : List Nat) → k = ad'.block := fun k hk => by simpa using hk
 refine ⟨_, [ad'.block], [], rfl, by simp, fun k hk => ?_, ?_, ?_, ?_⟩
 ·rw [hmem k hk]
  refine ⟨q3.imp (fun e => ?_) id, q4⟩
  rw [e]; simp
 ·exact ⟨q6.1, fun k hk hnk => q6.2 k hk (fun hm => hnk (by simp only [List.mem_singleton] at hm; subst hm; simp)), q6.3⟩
 ·simp only [Sx.CV]
  have hlen : (xs.take i ++ ([x] ++ xs.drop i)).length = xs.length + 1 := by simp only [List.length_append, List.length_take, List.length_drop, List.length_singleton]; omega
  refine ⟨trivial, by kernel_rfl, [.slice (some ad') (xs.length + 1) cap'], ⟨some ad', cap', by rw [hlen], by rw [hlen]; exact q2, ?_⟩, rfl⟩
  simp only [Bool.and_self, if_true]
  refine ⟨q1, inner.take (i * 2) ++ (V ++ inner.drop (i * 2)), [], rfl, by rw [ED]; exact q5, ?_⟩
  have k1 := Sx.Reps.take (n := Z9.size) (fun _ _ _ hr => hr.len) i a3
  have k2 := Sx.Reps.drop (n := Z9.size) (fun _ _ _ hr => hr.len) i a3
  rw [ED] at k1 k2
  exact Sx.Reps.ofRo (Sx.Ty.flat_noUq Lx) ((k1.append (b3.append k2)).noSl Lx)
 ·simp only [List.append_nil, List.nil_append, hB1, hB2, hB3, Sx.Outs]
end
open Go Go.Sx Go.Proofs
noncomputable def Db : Yq := []
theorem Hz : Yr Db := Zh
def MP : KP := []
noncomputable def Dc (n : Nat) (x : AP.denL [.gv Z9, .ro Zk, .gv Z9]) := evX (false, false, []) Db MP [some ZE] Tryz.f230 (shF ZE) n (AP.encL [.gv Z9, .ro Zk, .gv Z9] x)
noncomputable def Ke (n : Nat) (a0 : Zq) (a1 : Int) (a2 : Zq) : Option Zq := Dc n (a0, a1, a2, ())
theorem HA (n : Nat) (a0 : Zq) (a1 : Int) (a2 : Zq) : Ke n a0 a1 a2 =
  if (0 : Int) ≤ a1 then
 if a1 ≤ (↑(List.length a0) : Int) then
 bif decide ((↑(List.length a2) : Int) = (0 : Int)) then some a0
 else
 bif decide (a1 = (↑(List.length a0) : Int)) then
 if List.length a0 + List.length a2 ≤ lim then some (List.append a0 a2) else none
 else none
 else none
 else none := by kernel_rfl
noncomputable def Kf (_n : Nat) (x : AP.denL [.gv Z9, .ro Zk, .gv Z9]) : Option Zq :=
 if (0 : Int) ≤ x.2.1 then (if x.2.1 ≤ (List.length x.1 : Int) then (if List.length x.2.2.1 = 1 then (if List.length x.1 + 1 ≤ lim then some (List.take (Int.toNat x.2.1) x.1 ++ (x.2.2.1 ++ List.drop (Int.toNat x.2.1) x.1)) else none) else none) else none) else none
noncomputable def Dd : Con := apS [.gv Z9, .ro Zk, .gv Z9] true (shF ZE) (Kf big)
theorem HB : ZJ Tryz.prog 230 Dd := YU ⟨Tryz.f230, by kernel_rfl, rfl, by decide⟩ fun xs v h => by
 obtain ⟨a0, a1, a2, u⟩ := xs
 cases u
 unfold Kf at h
 dsimp only at h
 split at h
 ·rename_i h0
  split at h
  ·rename_i h1
   split at h
   ·rename_i h2
    split at h
    ·rename_i h3
     simp only [Option.some.injEq] at h
     subst h
     obtain ⟨x, rfl⟩ := List.length_eq_one_iff.1 h2
     by_cases he : a1 = (List.length a0 : Int)
     ·have hm : Ke big a0 a1 [x] = some (List.append a0 [x]) := by
       rw [HA, if_pos h0, if_pos h1, decide_eq_false (show ¬ ((List.length [x] : Nat) : Int) = 0 by simp), cond_false, decide_eq_true he, cond_true, if_pos (show List.length a0 + List.length [x] ≤ lim from h3)]
      unfold Ke Dc at hm
      have hk := Zw Hz (f := Tryz.f230) (n := 230) (by kernel_rfl) rfl (by kernel_rfl) (by kernel_rfl) big hm
      have hr : List.take (Int.toNat a1) a0 ++ ([x] ++ List.drop (Int.toNat a1) a0) = List.append a0 [x] := by
       rw [he, Int.toNat_natCast, List.take_length, List.drop_length, List.append_nil]; rfl
      rw [hr]
      exact hk
     ·obtain ⟨i, rfl⟩ : ∃ i : Nat, a1 = i := ⟨Int.toNat a1, (Int.toNat_of_nonneg h0).symm⟩
      rw [Int.toNat_natCast]
      refine ZwS a0 i x ?_ h3
      have k1 : (i : Int) ≤ ((List.length (α := Ty.den Z9) a0 : Nat) : Int) := h1
      have k2 : ¬ (i : Int) = ((List.length (α := Ty.den Z9) a0 : Nat) : Int) := he
      show i < List.length (α := Ty.den Z9) a0
      omega
    ·cases h
   ·cases h
  ·cases h
 ·cases h
noncomputable def VG (n : Nat) (a0 : Zq) (a1 : Int) (a2 : Zq) : Option Zq := Kf n (a0, a1, a2, ())
theorem HC (n : Nat) (a0 : Zq) (a1 : Int) (a2 : Zq) : VG n a0 a1 a2 =
  if (0 : Int) ≤ a1 then (if a1 ≤ (List.length a0 : Int) then (if List.length a2 = 1 then (if List.length a0 + 1 ≤ lim then some (List.take (Int.toNat a1) a0 ++ (a2 ++ List.drop (Int.toNat a1) a0)) else none) else none) else none) else none := rfl
noncomputable def AE : Yq := [(128, Xk), (190, Fy), (230, Dd)]
theorem Zbk : Yr AE := cons_cons Y0 (cons_cons CG (cons_cons HB (Zh)))
abbrev QJ : Vz := ([.ro Zm, .ro Zu, .ro Zb, .drop, .drop, .drop, .drop, .is (.own 0 0), .drop, .ro Zb, .drop, .drop, .drop, .drop, .drop, .drop, .drop, .drop, .drop, .drop, .drop, .drop, .drop, .drop, .drop, .drop, .drop, .drop, .drop, .drop, .drop, .drop, .drop, .drop, .drop, .drop, .drop, .drop, .drop, .drop, .drop, .drop, .drop, .drop, .drop], [.arr Zo])
def Ly : KP := [(7, QJ)]
noncomputable def OH (n : Nat) (x : YG [Zm, Zu, Zk]) := evX (false, false, []) AE Ly [some ZE] Tryz.f193 (shF ZE) n (YP [Zm, Zu, Zk] x)
noncomputable def EE : Con := roS [Zm, Zu, Zk] true (shF ZE) (OH big)
theorem EF : ZJ Tryz.prog 193 EE := ZD ⟨Tryz.f193, by kernel_rfl, rfl, by decide⟩ fun _ _ h => Zw Zbk (f := Tryz.f193) (by kernel_rfl) rfl (by kernel_rfl) (by kernel_rfl) big h
noncomputable def WY (n : Nat) (a0 : Zq) (a1 : ByteArray) (a2 : Int) : Option Zq := OH n (a0, a1, a2, ())
noncomputable def Zej (n : Nat) (x : KD QJ.1) (y : BD QJ.2) := Z6 (env (false, false, []) AE) Ly (body Tryz.f193) (Vn (false, false, []) AE [some ZE] Tryz.f193 (shF ZE) [.val Zm (ZR Zm), .val Zu (ZR Zu), .val Zk (ZR Zk)]) n 7 QJ x y
noncomputable def QK (n : Nat) (s0 : Zq) (s1 : ByteArray) (s2 : Int) (s9 : Int) (b0 : (List Zf)) : Option Zq := Zej n (s0, s1, s2, s9, ()) (b0, ())
theorem Zbl (n : Nat) (a0 : Zq) (a1 : ByteArray) (a2 : Int) : WY n a0 a1 a2 =
  (Y1 big a0).bind fun y =>
 (BO big a0 a1).bind fun y_1 =>
 bif decide ((0 : Int) ≤ y_1) then
 if (0 : Int) ≤ y_1 then
 if y_1 < (↑(List.length y) : Int) then
 (nth y (Int.toNat y_1)).bind fun y_2 => (Dv y (Int.toNat y_1) (y_2.fst, a2, ())).bind fun y => some y
 else none
 else none
 else QK n a0 a1 a2 (0 : Int) y := by kernel_rfl
theorem BP (n : Nat) (s0 : Zq) (s1 : ByteArray) (s2 : Int) (s9 : Int) (b0 : (List Zf)) : QK (n + 1) s0 s1 s2 s9 b0 =
  bif decide (s9 < (↑(List.length s0) : Int)) then
 if (0 : Int) ≤ s9 then
 (nth s0 s9.toNat).bind fun y =>
 bif Op.bytesLess (ByteArray.toList y.fst) s1.toList then
 QK n s0 s1 s2 (IntKind.i64.wrap (s9 + (1 : Int))) b0
 else (VG big b0 s9 [(s1, s2, ())]).bind fun y => some y
 else none
 else (VG big b0 s9 [(s1, s2, ())]).bind fun y => some y := by kernel_rfl
noncomputable def Zo2 : Yq := [(128, Xk), (191, Hy), (192, ZlY), (190, Fy), (193, EE)]
theorem ZnY : Yr Zo2 := cons_cons Y0 (cons_cons Gs (cons_cons ZlZ (cons_cons CG (cons_cons EF (Zh)))))
def Zsr : KP := []
noncomputable def Zo3 (n : Nat) (x : YG [Zm, W6]) := evX (false, false, [3, 21, 23, 27, 33, 46]) Zo2 Zsr [some ZE, none] Tryz.f139 (shT [(true, ZE), (false, Zk)]) n (YP [Zm, W6] x)
noncomputable def ZiK : Con := roS [Zm, W6] true (shT [(true, ZE), (false, Zk)]) (Zo3 big)
theorem Zbm : ZJ Tryz.prog 139 ZiK := ZD ⟨Tryz.f139, by kernel_rfl, rfl, by decide⟩ fun _ _ h => Zw ZnY (f := Tryz.f139) (by kernel_rfl) rfl (by kernel_rfl) (by kernel_rfl) big h
noncomputable def P9 (n : Nat) (a0 : Zq) (a1 : Xd) : Option (Zq × Int × Unit) := Zo3 n (a0, a1, ())
theorem ZnZ (n : Nat) (a0 : Zq) (a1 : Xd) : P9 n a0 a1 =
  (Y1 big a0).bind fun y =>
 (WX big a0).bind fun y_1 =>
 bif !y_1 then some (y, (2 : Int), PUnit.unit)
 else
 (Zbh big a1).bind fun y_2 =>
 bif !y_2 then some (y, (2 : Int), PUnit.unit)
 else
 bif !decide (a1.fst = (1 : Int)) then
 (BO big a0 a1.snd.fst).bind fun y_3 =>
 bif decide (y_3 < (0 : Int)) then some (y, (1 : Int), PUnit.unit)
 else
 bif decide (a1.fst = (3 : Int)) then
 if (0 : Int) ≤ y_3 then
 (nth a0 (Int.toNat y_3)).bind fun y_4 =>
 (WY big a0 a1.snd.fst
 (IntKind.i64.wrap (IntKind.i64.wrap ((0 : Int) - a1.snd.snd.fst) + y_4.snd.fst))).bind
 fun y_5 =>
 (WX big y_5).bind fun y_6 =>
 bif !y_6 then some (y, (2 : Int), PUnit.unit) else some (y_5, (0 : Int), PUnit.unit)
 else none
 else
 if (0 : Int) ≤ y_3 then
 (nth a0 (Int.toNat y_3)).bind fun y_4 =>
 (WY big a0 a1.snd.fst (IntKind.i64.wrap (a1.snd.snd.fst + y_4.snd.fst))).bind
 fun y_5 =>
 (WX big y_5).bind fun y_6 =>
 bif !y_6 then some (y, (2 : Int), PUnit.unit) else some (y_5, (0 : Int), PUnit.unit)
 else none
 else
 (WY big a0 a1.snd.fst a1.snd.snd.fst).bind fun y_3 =>
 (WX big y_3).bind fun y_4 =>
 bif !y_4 then some (y, (2 : Int), PUnit.unit) else some (y_3, (0 : Int), PUnit.unit) := by kernel_rfl
noncomputable def CH : Yq := [(128, Xk), (139, ZiK)]
theorem Zek : Yr CH := cons_cons Y0 (cons_cons Zbm (Zh))
abbrev K3 : Vz := ([.drop, .drop, .drop, .drop, .drop, .drop, .own Zo, .own Zb, .drop, .drop, .drop, .drop, .drop, .drop, .drop, .ro Yg, .ro Zb, .ro Zb, .drop, .drop, .drop, .drop, .drop, .drop, .drop, .drop, .drop, .drop, .drop, .drop, .drop, .drop, .drop, .drop, .drop], [])
def OI : KP := [(4, K3)]
noncomputable def Zbn (n : Nat) (x : YG [Zm, Yg]) := evX (false, false, [9, 999997]) CH OI [some ZE, some Y6] Tryz.f80 (shT [(true, ZE), (true, Y6)]) n (YP [Zm, Yg] x)
noncomputable def Zbo : Con := roS [Zm, Yg] true (shT [(true, ZE), (true, Y6)]) (Zbn big)
theorem Zel : ZJ Tryz.prog 80 Zbo := ZD ⟨Tryz.f80, by kernel_rfl, rfl, by decide⟩ fun _ _ h => Zw Zek (f := Tryz.f80) (by kernel_rfl) rfl (by kernel_rfl) (by kernel_rfl) big h
noncomputable def HD (n : Nat) (a0 : Zq) (a1 : YS) : Option (Zq × Yp × Unit) := Zbn n (a0, a1, ())
noncomputable def ZiL (n : Nat) (x : KD K3.1) (y : BD K3.2) := Z6 (env (false, false, [9, 999997]) CH) OI (body Tryz.f80) (Vn (false, false, [9, 999997]) CH [some ZE, some Y6] Tryz.f80 (shT [(true, ZE), (true, Y6)]) [.val Zm (ZR Zm), .val Yg (ZR Yg)]) n 4 K3 x y
noncomputable def K4 (n : Nat) (s6 : (List Zf)) (s7 : (List Int)) (s15 : YS) (s16 : Int) (s17 : Int) : Option (Zq × Yp × Unit) := ZiL n (s6, s7, s15, s16, s17, ()) ()
theorem Zem (n : Nat) (a0 : Zq) (a1 : YS) : HD n a0 a1 =
  (Y1 big a0).bind fun y => K4 n y [] a1 (↑(List.length a1) : Int) (0 : Int) := by kernel_rfl
theorem De (n : Nat) (s6 : (List Zf)) (s7 : (List Int)) (s15 : YS) (s16 : Int) (s17 : Int) : K4 (n + 1) s6 s7 s15 s16 s17 =
  bif decide (s17 < s16) then
 if (0 : Int) ≤ s17 then
 (nth s15 s17.toNat).bind fun y =>
 (P9 big s6 y).bind fun y =>
 if s7.length + (1 : Nat) ≤ Ztk then
 K4 n y.fst (s7.append [y.snd.fst]) s15 s16 (IntKind.i64.wrap (s17 + (1 : Int)))
 else none
 else none
 else some (s6, s7, PUnit.unit) := by kernel_rfl
noncomputable def Fz : Yq := [(64, OE)]
theorem ZiM : Yr Fz := cons_cons JM (Zh)
abbrev AF : Vz := (.ro Ze :: dp 4 (.own ZV :: dp 3 (.ro Yu :: .ro Zb :: .ro Zb :: dp 17 [])), [])
def Zbp : KP := [(3, AF)]
noncomputable def Zgg (n : Nat) (x : YG [Ze, Yu]) := evX (false, false, [999997]) Fz Zbp [some DK] Tryz.f78 (shF DK) n (YP [Ze, Yu] x)
noncomputable def MQ : Con := roS [Ze, Yu] true (shF DK) (Zgg big)
theorem Lz : ZJ Tryz.prog 78 MQ := ZD ⟨Tryz.f78, by kernel_rfl, rfl, by decide⟩ fun _ _ h => Zw ZiM (f := Tryz.f78) (by kernel_rfl) rfl (by kernel_rfl) (by kernel_rfl) big h
noncomputable def FA (n : Nat) (a0 : Zi) (a1 : Yp) : Option YS := Zgg n (a0, a1, ())
noncomputable def Zl2 (n : Nat) (x : KD AF.1) (y : BD AF.2) := Z6 (env (false, false, [999997]) Fz) Zbp (body Tryz.f78) (Vn (false, false, [999997]) Fz [some DK] Tryz.f78 (shF DK) [.val Ze (ZR Ze), .val Yu (ZR Yu)]) n 3 AF x y
noncomputable def Q4 (n : Nat) (s0 : Zi) (s5 : (List ZG)) (s9 : Yp) (s10 s11 : Int) : Option YS := Zl2 n (s0, s5, s9, s10, s11, ()) ()
theorem ZiN (n : Nat) (a0 : Zi) (a1 : Yp) : FA n a0 a1 = Q4 n a0 [] a1 (↑(List.length a1) : Int) 0 := by kernel_rfl
theorem EG (n : Nat) (s0 : Zi) (s5 : (List ZG)) (s9 : Yp) (s10 s11 : Int) : Q4 (n + 1) s0 s5 s9 s10 s11 = bif decide (s11 < s10) then if 0 ≤ s11 then (nth s9 s11.toNat).bind fun y => (Da big y 0 (IntKind.i64.wrap ((↑(List.length s0) : Int) - 1))).bind fun y_1 => bif y_1 then if 0 ≤ y then (nth s0 (Int.toNat y)).bind fun y => if s5.length + List.length y.2.2.1 ≤ Ztk then Q4 n s0 (s5.append y.2.2.1) s9 s10 (IntKind.i64.wrap (s11 + 1)) else none else none else Q4 n s0 s5 s9 s10 (IntKind.i64.wrap (s11 + 1)) else none else some s5 := by kernel_rfl
noncomputable def CI : Yq := [(64, OE)]
theorem Zen : Yr CI := cons_cons JM (Zh)
abbrev K5 : Vz := (.ro Ze :: .ro Zb :: dp 4 (.own Zb :: dp 29 []), [])
def OJ : KP := [(4, K5)]
noncomputable def Zbq (n : Nat) (x : YG [Ze, Zk]) := evX (false, false, []) CI OJ [some Y6, none] Tryz.f140 (shT [(true, Y6), (false, ZC)]) n (YP [Ze, Zk] x)
noncomputable def HE : Con := roS [Ze, Zk] true (shT [(true, Y6), (false, ZC)]) (Zbq big)
theorem Gu : ZJ Tryz.prog 140 HE := ZD ⟨Tryz.f140, by kernel_rfl, rfl, by decide⟩ fun _ _ h => Zw Zen (f := Tryz.f140) (by kernel_rfl) rfl (by kernel_rfl) (by kernel_rfl) big h
noncomputable def CJ (n : Nat) (a0 : Zi) (a1 : Int) : Option (Yp × Bool × Unit) := Zbq n (a0, a1, ())
noncomputable def ZiO (n : Nat) (x : KD K5.1) (y : BD K5.2) := Z6 (env (false, false, []) CI) OJ (body Tryz.f140) (Vn (false, false, []) CI [some Y6, none] Tryz.f140 (shT [(true, Y6), (false, ZC)]) [.val Ze (ZR Ze), .val Zk (ZR Zk)]) n 4 K5 x y
noncomputable def K6 (n : Nat) (s0 : Zi) (s1 : Int) (s6 : (List Int)) : Option (Yp × Bool × Unit) := ZiO n (s0, s1, s6, ()) ()
theorem Zeo (n : Nat) (a0 : Zi) (a1 : Int) : CJ n a0 a1 = (Da big a1 0 (IntKind.i64.wrap ((↑(List.length a0) : Int) - 1))).bind fun y => bif !y then some ([], false, ()) else K6 n a0 a1 [a1] := by kernel_rfl
theorem Df (n : Nat) (s0 : Zi) (s1 : Int) (s6 : (List Int)) : K6 (n + 1) s0 s1 s6 = bif decide (0 < s1) then if 0 ≤ s1 then (nth s0 s1.toNat).bind fun y => (Da big y.1 0 (IntKind.i64.wrap (s1 - 1))).bind fun y => bif !y then some ([], false, ()) else if 0 ≤ s1 then (nth s0 s1.toNat).bind fun y => if s6.length + [y.1].length ≤ lim then K6 n s0 y.1 (s6.append [y.1]) else none else none else none else some (s6, true, ()) := by kernel_rfl
noncomputable def K7 : Yq := []
theorem PD : Yr K7 := Zh
abbrev UO : Vz := (.ro Yu :: .ro Zb :: dp 5 (.ro Zb :: .ro Zb :: dp 10 []), [])
def Gv : KP := [(2, UO)]
noncomputable def LA (n : Nat) (x : YG [Yu, Zk]) := evX (false, false, []) K7 Gv [none] Tryz.f137 (shV Zk) n (YP [Yu, Zk] x)
noncomputable def CK : Con := roS [Yu, Zk] true (shV Zk) (LA big)
theorem Dg : ZJ Tryz.prog 137 CK := ZD ⟨Tryz.f137, by kernel_rfl, rfl, by decide⟩ fun _ _ h => Zw PD (f := Tryz.f137) (by kernel_rfl) rfl (by kernel_rfl) (by kernel_rfl) big h
noncomputable def K8 (n : Nat) (a0 : Yp) (a1 : Int) : Option Int := LA n (a0, a1, ())
noncomputable def Zbr (n : Nat) (x : KD UO.1) (y : BD UO.2) := Z6 (env (false, false, []) K7) Gv (body Tryz.f137) (Vn (false, false, []) K7 [none] Tryz.f137 (shV Zk) [.val Yu (ZR Yu), .val Zk (ZR Zk)]) n 2 UO x y
noncomputable def UP (n : Nat) (s0 : Yp) (s1 s7 s8 : Int) : Option Int := Zbr n (s0, s1, s7, s8, ()) ()
theorem PE (n : Nat) (a0 : Yp) (a1 : Int) : K8 n a0 a1 = UP n a0 a1 (↑(List.length a0) : Int) 0 := by kernel_rfl
theorem AG (n : Nat) (s0 : Yp) (s1 s7 s8 : Int) : UP (n + 1) s0 s1 s7 s8 = bif decide (s8 < s7) then if 0 ≤ s8 then (nth s0 s8.toNat).bind fun y => bif decide (s1 = y) then some s8 else UP n s0 s1 s7 (IntKind.i64.wrap (s8 + 1)) else none else some (-1) := by kernel_rfl
noncomputable def Dh : Yq := [(137, CK)]
theorem HF : Yr Dh := cons_cons Dg (Zh)
def MR : KP := []
noncomputable def Di (n : Nat) (x : YG [Yu, Zk]) := evX (false, false, []) Dh MR [none] Tryz.f141 (shV ZC) n (YP [Yu, Zk] x)
noncomputable def Dj : Con := roS [Yu, Zk] true (shV ZC) (Di big)
theorem HG : ZJ Tryz.prog 141 Dj := ZD ⟨Tryz.f141, by kernel_rfl, rfl, by decide⟩ fun _ _ h => Zw HF (f := Tryz.f141) (by kernel_rfl) rfl (by kernel_rfl) (by kernel_rfl) big h
noncomputable def Dk (n : Nat) (a0 : Yp) (a1 : Int) : Option Bool := Di n (a0, a1, ())
theorem HH (n : Nat) (a0 : Yp) (a1 : Int) : Dk n a0 a1 = (K8 big a0 a1).bind fun y => some (decide (0 ≤ y)) := by kernel_rfl
noncomputable def Zbs : Yq := [(140, HE), (141, Dj)]
theorem Zep : Yr Zbs := cons_cons Gu (cons_cons HG (Zh))
def Zl3 : KP := []
noncomputable def Zbt (n : Nat) (x : YG [Ze, Zk, Zk]) := evX (false, false, []) Zbs Zl3 [none] Tryz.f79 (shV ZC) n (YP [Ze, Zk, Zk] x)
noncomputable def HI : Con := roS [Ze, Zk, Zk] true (shV ZC) (Zbt big)
theorem Gw : ZJ Tryz.prog 79 HI := ZD ⟨Tryz.f79, by kernel_rfl, rfl, by decide⟩ fun _ _ h => Zw Zep (f := Tryz.f79) (by kernel_rfl) rfl (by kernel_rfl) (by kernel_rfl) big h
noncomputable def CL (n : Nat) (a0 : Zi) (a1 a2 : Int) : Option Bool := Zbt n (a0, a1, a2, ())
theorem Zeq (n : Nat) (a0 : Zi) (a1 a2 : Int) : CL n a0 a1 a2 = (CJ big a0 a1).bind fun y => bif y.2.1 then (Dk big y.1 a2).bind fun y => some y else some false := by kernel_rfl
noncomputable def UQ : Yq := []
theorem LB : Yr UQ := Zh
abbrev Vg : Vz := (.is (.own 0 0) :: .drop :: .ro Zb :: .ro Zb :: dp 24 [], [.arr Zk])
def Dl : KP := [(1, Vg)]
noncomputable def EH (n : Nat) (x : AP.denL [.io Zk]) := evX (false, false, []) UQ Dl [] Tryz.f189 (shO shN [.io Zk]) n (AP.encL [.io Zk] x)
noncomputable def EI : Con := apS [.io Zk] true (shO shN [.io Zk]) (EH big)
theorem LD : ZJ Tryz.prog 189 EI := YU ⟨Tryz.f189, by kernel_rfl, rfl, by decide⟩ fun _ _ h => Zw LB (f := Tryz.f189) (by kernel_rfl) rfl (by kernel_rfl) (by kernel_rfl) big h
noncomputable def JO (n : Nat) (a0 : Yp) : Option (Unit × Yp × Unit) := EH n (a0, ())
noncomputable def MS (n : Nat) (x : KD Vg.1) (y : BD Vg.2) := Z6 (env (false, false, []) UQ) Dl (body Tryz.f189) (Vn (false, false, []) UQ [] Tryz.f189 (shO shN [.io Zk]) [AP.enc (.io Zk) []]) n 1 Vg x y
noncomputable def Vh (n : Nat) (s2 s3 : Int) (b0 : (List Int)) : Option (Unit × Yp × Unit) := MS n (s2, s3, ()) (b0, ())
theorem LE (n : Nat) (a0 : Yp) : JO n a0 = Vh n 0 (IntKind.i64.wrap ((↑(List.length a0) : Int) - 1)) a0 := by kernel_rfl
theorem Kl (n : Nat) (s2 s3 : Int) (b0 : (List Int)) : Vh (n + 1) s2 s3 b0 = bif decide (s2 < s3) then if 0 ≤ s3 then if s3 < (↑b0.length : Int) then (nth b0 s3.toNat).bind fun y => if 0 ≤ s2 then if s2 < (↑b0.length : Int) then (nth b0 s2.toNat).bind fun y_1 => if 0 ≤ s2 then if s2 < (↑b0.length : Int) then (nth b0 s2.toNat).bind fun y_2 => (Dv b0 s2.toNat y).bind fun y => if 0 ≤ s3 then if s3 < (↑y.length : Int) then (nth y s3.toNat).bind fun y_3 => (Dv y s3.toNat y_1).bind fun y => Vh n (IntKind.i64.wrap (s2 + 1)) (IntKind.i64.wrap (s3 - 1)) y else none else none else none else none else none else none else none else none else some ((), b0, ()) := by kernel_rfl
noncomputable def Zl4 : Yq := [(140, HE), (189, EI)]
theorem Zl5 : Yr Zl4 := cons_cons Gu (cons_cons LD (Zh))
def ZqB : KP := []
noncomputable def Zl6 (n : Nat) (x : YG [Ze, Zk]) := evX (false, false, []) Zl4 ZqB [some Y6] Tryz.f136 (shF Y6) n (YP [Ze, Zk] x)
noncomputable def Zl7 : Con := roS [Ze, Zk] true (shF Y6) (Zl6 big)
theorem Zl8 : ZJ Tryz.prog 136 Zl7 := ZD ⟨Tryz.f136, by kernel_rfl, rfl, by decide⟩ fun _ _ h => Zw Zl5 (f := Tryz.f136) (by kernel_rfl) rfl (by kernel_rfl) (by kernel_rfl) big h
noncomputable def Zbu (n : Nat) (a0 : Zi) (a1 : Int) : Option Yp := Zl6 n (a0, a1, ())
theorem Zl9 (n : Nat) (a0 : Zi) (a1 : Int) : Zbu n a0 a1 = (CJ big a0 a1).bind fun y => bif !y.2.1 then some [] else (JO big y.1).bind fun y => if 1 ≤ (↑(List.length y.2.1) : Int) then some (List.take (List.length y.2.1 - Int.toNat 1) (List.drop (Int.toNat 1) y.2.1)) else none := by kernel_rfl
noncomputable def OK : Yq := [(79, HI), (136, Zl7), (137, CK)]
theorem Zbv : Yr OK := cons_cons Gw (cons_cons Zl8 (cons_cons Dg (Zh)))
def ZiP : KP := []
noncomputable def OL (n : Nat) (x : YG [Ze, Zk, Zk]) := evX (false, false, []) OK ZiP [some Y6] Tryz.f75 (shF Y6) n (YP [Ze, Zk, Zk] x)
noncomputable def EJ : Con := roS [Ze, Zk, Zk] true (shF Y6) (OL big)
theorem EK : ZJ Tryz.prog 75 EJ := ZD ⟨Tryz.f75, by kernel_rfl, rfl, by decide⟩ fun _ _ h => Zw Zbv (f := Tryz.f75) (by kernel_rfl) rfl (by kernel_rfl) (by kernel_rfl) big h
noncomputable def AH (n : Nat) (a0 : Zi) (a1 a2 : Int) : Option Yp := OL n (a0, a1, a2, ())
theorem Zbw (n : Nat) (a0 : Zi) (a1 a2 : Int) : AH n a0 a1 a2 = (CL big a0 a1 a2).bind fun y => bif !y then some [] else (Zbu big a0 a1).bind fun y => (K8 big y a2).bind fun y_1 => if 0 ≤ IntKind.i64.wrap (y_1 + 1) then if IntKind.i64.wrap (y_1 + 1) ≤ (↑(List.length y) : Int) then some (List.take (List.length y - (IntKind.i64.wrap (y_1 + 1)).toNat) (List.drop (IntKind.i64.wrap (y_1 + 1)).toNat y)) else none else none := by kernel_rfl
noncomputable def OM : Yq := []
theorem Zbx : Yr OM := Zh
def ZiQ : KP := []
noncomputable def Zma (n : Nat) (x : AP.denL [.ro Z9, .mr YJ]) := evX (false, false, [1, 2, 4, 6]) OM ZiQ [none] Tryz.f210 (shO (shV ZC) [.mr YJ]) n (AP.encL [.ro Z9, .mr YJ] x)
noncomputable def EL : Con := apS [.ro Z9, .mr YJ] true (shO (shV ZC) [.mr YJ]) (Zma big)
theorem EM : ZJ Tryz.prog 210 EL := YU ⟨Tryz.f210, by kernel_rfl, rfl, by decide⟩ fun _ _ h => Zw Zbx (f := Tryz.f210) (by kernel_rfl) rfl (by kernel_rfl) (by kernel_rfl) big h
noncomputable def YL : Yq := [(210, EL)]
theorem Ug : Yr YL := cons_cons EM (Zh)
abbrev YD : Vz := (.ro Zm :: .is (.fn 210 [.ptr 0 0]) :: dp 5 (.ro Zb :: .ro Zb :: dp 10 []), [.vars [.ro Zu, .ro ZC, .ro Zb]])
def XY : KP := [(2, YD)]
noncomputable def Wa (n : Nat) (x : AP.denL [.ro Zm, .fn 210 [YJ]]) := evX (false, false, []) YL XY [none] Tryz.f227 (shO (shV Zk) [.fn 210 [YJ]]) n (AP.encL [.ro Zm, .fn 210 [YJ]] x)
noncomputable def Wb : Con := apS [.ro Zm, .fn 210 [YJ]] true (shO (shV Zk) [.fn 210 [YJ]]) (Wa big)
theorem Uh : ZJ Tryz.prog 227 Wb := YU ⟨Tryz.f227, by kernel_rfl, rfl, by decide⟩ fun _ _ h => Zw Ug (f := Tryz.f227) (by kernel_rfl) rfl (by kernel_rfl) (by kernel_rfl) big h
noncomputable def Xf (n : Nat) (a0 : Zq) (a1 : (Yd × Unit)) : Option (Int × (Yd × Unit) × Unit) := Wa n (a0, a1, ())
noncomputable def UR (n : Nat) (x : KD YD.1) (y : BD YD.2) := Z6 (env (false, false, []) YL) XY (body Tryz.f227) (Vn (false, false, []) YL [none] Tryz.f227 (shO (shV Zk) [.fn 210 [YJ]]) [AP.enc (.ro Zm) (ZR Zm), AP.enc (.fn 210 [YJ]) (ZR YJ, ())]) n 2 YD x y
noncomputable def YE (n : Nat) (s0 : Zq) (s7 s8 : Int) (b0_0 : ByteArray) (b0_1 : Bool) (b0_2 : Int) : Option (Int × (Yd × Unit) × Unit) := UR n (s0, s7, s8, ()) ((b0_0, b0_1, b0_2, ()), ())
theorem Ui (n : Nat) (a0 : Zq) (a1 : (Yd × Unit)) : Xf n a0 a1 = YE n a0 (↑(List.length a0) : Int) 0 a1.1.1 a1.1.2.1 a1.1.2.2.1 := by kernel_rfl
theorem Xz (n : Nat) (s0 : Zq) (s7 s8 : Int) (b0_0 : ByteArray) (b0_1 : Bool) (b0_2 : Int) : YE (n + 1) s0 s7 s8 b0_0 b0_1 b0_2 = bif decide (s8 < s7) then if 0 ≤ s8 then (nth s0 s8.toNat).bind fun y => bif decide (y.1 = b0_0) then some (s8, ((b0_0, b0_1, b0_2, ()), ()), ()) else YE n s0 s7 (IntKind.i64.wrap (s8 + 1)) b0_0 b0_1 b0_2 else none else some ((-1), ((b0_0, b0_1, b0_2, ()), ()), ()) := by kernel_rfl
noncomputable def YH : Yq := [(227, Wb), (210, EL)]
theorem VQ : Yr YH := cons_cons Uh (cons_cons EM (Zh))
abbrev Yy : Vz := (.is (.own 0 0) :: .is (.fn 210 [.ptr 1 0]) :: dp 3 (.ro Zb :: .ro Zb :: dp 35 []), [.arr Zo, .vars [.ro Zu, .ro ZC, .ro Zb]])
def XS : KP := [(5, Yy)]
noncomputable def XZ (n : Nat) (x : AP.denL [.gv Z9, .fn 210 [YJ]]) := evX (false, false, [7, 999998]) YH XS [some ZE] Tryz.f209 (shO (shF ZE) [.fn 210 [YJ]]) n (AP.encL [.gv Z9, .fn 210 [YJ]] x)
noncomputable def X0 : Con := apS [.gv Z9, .fn 210 [YJ]] true (shO (shF ZE) [.fn 210 [YJ]]) (XZ big)
theorem VR : ZJ Tryz.prog 209 X0 := YU ⟨Tryz.f209, by kernel_rfl, rfl, by decide⟩ fun _ _ h => Zw VQ (f := Tryz.f209) (by kernel_rfl) rfl (by kernel_rfl) (by kernel_rfl) big h
noncomputable def Xc (n : Nat) (a0 : Zq) (a1 : (Yd × Unit)) : Option (Zq × (Yd × Unit) × Unit) := XZ n (a0, a1, ())
noncomputable def Uj (n : Nat) (x : KD Yy.1) (y : BD Yy.2) := Z6 (env (false, false, [7, 999998]) YH) XS (body Tryz.f209) (Vn (false, false, [7, 999998]) YH [some ZE] Tryz.f209 (shO (shF ZE) [.fn 210 [YJ]]) [AP.enc (.gv Z9) [], AP.enc (.fn 210 [YJ]) (ZR YJ, ())]) n 5 Yy x y
noncomputable def Yh (n : Nat) (s5 s6 : Int) (b0 : (List Zf)) (b1_0 : ByteArray) (b1_1 : Bool) (b1_2 : Int) : Option (Zq × (Yd × Unit) × Unit) := Uj n (s5, s6, ()) (b0, (b1_0, b1_1, b1_2, ()), ())
theorem VS (n : Nat) (a0 : Zq) (a1 : (Yd × Unit)) : Xc n a0 a1 = (Xf big a0 a1).bind fun y => bif decide (y.1 = (-1)) then some (a0, y.2) else Yh n y.1 (IntKind.i64.wrap (y.1 + 1)) a0 y.2.1.1.1 y.2.1.1.2.1 y.2.1.1.2.2.1 := by kernel_rfl
theorem Xt (n : Nat) (s5 s6 : Int) (b0 : (List Zf)) (b1_0 : ByteArray) (b1_1 : Bool) (b1_2 : Int) : Yh (n + 1) s5 s6 b0 b1_0 b1_1 b1_2 = bif decide (s6 < (↑b0.length : Int)) then if 0 ≤ s6 then if s6 < (↑b0.length : Int) then (nth b0 s6.toNat).bind fun y => bif !decide (y.1 = b1_0) then if 0 ≤ s5 then if s5 < (↑b0.length : Int) then (nth b0 s5.toNat).bind fun y_1 => (Dv b0 s5.toNat y).bind fun y => Yh n (IntKind.i64.wrap (s5 + 1)) (IntKind.i64.wrap (s6 + 1)) y b1_0 b1_1 b1_2 else none else none else Yh n s5 (IntKind.i64.wrap (s6 + 1)) b0 b1_0 b1_1 b1_2 else none else none else if 0 ≤ s5 then if s5 ≤ (↑b0.length : Int) then if s5.toNat + (b0.length - s5.toNat) ≤ b0.length then if 0 ≤ s5 then if s5 ≤ (↑((List.take s5.toNat b0).append ((List.replicate (b0.length - s5.toNat) (ZR Zo)).append (List.drop (s5.toNat + (b0.length - s5.toNat)) b0))).length : Int) then some (List.take (s5.toNat - (0 : Nat)) (List.drop (0 : Nat) ((List.take s5.toNat b0).append ((List.replicate (b0.length - s5.toNat) (ZR Zo)).append (List.drop (s5.toNat + (b0.length - s5.toNat)) b0)))), ((b1_0, b1_1, b1_2, ()), ()), ()) else none else none else none else none else none := by kernel_rfl
noncomputable def Zgh : Yq := [(128, Xk), (191, Hy), (207, Lm), (208, Lo), (193, EE), (209, X0)]
theorem ZiR : Yr Zgh := cons_cons Y0 (cons_cons Gs (cons_cons Ez (cons_cons EB (cons_cons EF (cons_cons VR (Zh))))))
def Zn0 : KP := []
noncomputable def Zgi (n : Nat) (x : YG [Zm, YJ]) := evX (false, false, [3, 12, 18, 24, 27, 29]) Zgh Zn0 [some ZE] Tryz.f170 (shF ZE) n (YP [Zm, YJ] x)
noncomputable def Zgj : Con := roS [Zm, YJ] true (shF ZE) (Zgi big)
theorem ZiS : ZJ Tryz.prog 170 Zgj := ZD ⟨Tryz.f170, by kernel_rfl, rfl, by decide⟩ fun _ _ h => Zw ZiR (f := Tryz.f170) (by kernel_rfl) rfl (by kernel_rfl) (by kernel_rfl) big h
noncomputable def MT (n : Nat) (a0 : Zq) (a1 : Yd) : Option Zq := Zgi n (a0, a1, ())
theorem ZiT (n : Nat) (a0 : Zq) (a1 : Yd) : MT n a0 a1 =
  (Y1 big a0).bind fun y =>
 (WX big a0).bind fun y_1 =>
 bif !y_1 then some y
 else
 (EA big a1.fst).bind fun y_2 =>
 bif !y_2 then some y
 else
 (EC big a1.snd.snd.fst).bind fun y_3 =>
 bif !y_3 then some y
 else
 bif a1.snd.fst then (WY big a0 a1.fst a1.snd.snd.fst).bind fun y => some y
 else (Xc big y (a1, ())).bind fun y => some y.fst := by kernel_rfl
noncomputable def K9 : Yq := [(128, Xk), (170, Zgj)]
theorem PF : Yr K9 := cons_cons Y0 (cons_cons ZiS (Zh))
abbrev US : Vz := ([.drop, .ro Yi, .drop, .drop, .drop, .own Zo, .ro Zb, .drop, .drop, .drop, .drop, .drop, .drop, .drop, .drop, .drop, .drop, .drop, .drop, .drop, .drop, .drop, .drop], [])
def Gx : KP := [(3, US)]
noncomputable def LF (n : Nat) (x : YG [Zm, Yi]) := evX (false, false, []) K9 Gx [some ZE] Tryz.f118 (shF ZE) n (YP [Zm, Yi] x)
noncomputable def LG : Con := roS [Zm, Yi] true (shF ZE) (LF big)
theorem PG : ZJ Tryz.prog 118 LG := ZD ⟨Tryz.f118, by kernel_rfl, rfl, by decide⟩ fun _ _ h => Zw PF (f := Tryz.f118) (by kernel_rfl) rfl (by kernel_rfl) (by kernel_rfl) big h
noncomputable def CM (n : Nat) (a0 : Zq) (a1 : YA) : Option Zq := LF n (a0, a1, ())
noncomputable def Zby (n : Nat) (x : KD US.1) (y : BD US.2) := Z6 (env (false, false, []) K9) Gx (body Tryz.f118) (Vn (false, false, []) K9 [some ZE] Tryz.f118 (shF ZE) [.val Zm (ZR Zm), .val Yi (ZR Yi)]) n 3 US x y
noncomputable def UT (n : Nat) (s1 : YA) (s5 : (List Zf)) (s6 : Int) : Option Zq := Zby n (s1, s5, s6, ()) ()
theorem PH (n : Nat) (a0 : Zq) (a1 : YA) : CM n a0 a1 =
  (Y1 big a0).bind fun y =>
 UT n a1 y (IntKind.i64.wrap ((↑(List.length a1) : Int) - (1 : Int))) := by kernel_rfl
theorem AI (n : Nat) (s1 : YA) (s5 : (List Zf)) (s6 : Int) : UT (n + 1) s1 s5 s6 =
  bif decide ((0 : Int) ≤ s6) then
 if (0 : Int) ≤ s6 then
 (nth s1 s6.toNat).bind fun y =>
 (MT big s5 y).bind fun y => UT n s1 y (IntKind.i64.wrap (s6 - (1 : Int)))
 else none
 else some s5 := by kernel_rfl
noncomputable def Zgk : Yq := [(190, Fy)]
theorem ZiU : Yr Zgk := cons_cons CG (Zh)
def Zn1 : KP := []
noncomputable def Zgl (n : Nat) (x : YG [Zm, Zu]) := evX (false, false, []) Zgk Zn1 [none] Tryz.f138 (shV YJ) n (YP [Zm, Zu] x)
noncomputable def Zgm : Con := roS [Zm, Zu] true (shV YJ) (Zgl big)
theorem ZiV : ZJ Tryz.prog 138 Zgm := ZD ⟨Tryz.f138, by kernel_rfl, rfl, by decide⟩ fun _ _ h => Zw ZiU (f := Tryz.f138) (by kernel_rfl) rfl (by kernel_rfl) (by kernel_rfl) big h
noncomputable def MU (n : Nat) (a0 : Zq) (a1 : ByteArray) : Option Yd := Zgl n (a0, a1, ())
theorem ZiW (n : Nat) (a0 : Zq) (a1 : ByteArray) : MU n a0 a1 = (BO big a0 a1).bind fun y => bif decide (y < 0) then some (a1, false, 0, ()) else if 0 ≤ y then (nth a0 (Int.toNat y)).bind fun y => some (a1, true, y.2) else none := by kernel_rfl
noncomputable def AJ : Yq := [(128, Xk), (138, Zgm), (139, ZiK)]
theorem Zbz : Yr AJ := cons_cons Y0 (cons_cons ZiV (cons_cons Zbm (Zh)))
abbrev QL : Vz := ([.drop, .drop, .drop, .drop, .drop, .drop, .own Zo, .own ZF, .drop, .drop, .drop, .drop, .drop, .ro Yg, .ro Zb, .ro Zb, .drop, .drop, .drop, .drop, .drop, .drop, .drop, .drop, .drop, .drop, .drop, .drop, .drop, .drop, .drop, .drop, .drop, .drop, .drop], [])
def LH : KP := [(4, QL)]
noncomputable def ON (n : Nat) (x : YG [Zm, Yg]) := evX (false, false, [9, 21, 999997]) AJ LH [some ZE, some Wm] Tryz.f77 (shT [(true, ZE), (true, Wm)]) n (YP [Zm, Yg] x)
noncomputable def OO : Con := roS [Zm, Yg] true (shT [(true, ZE), (true, Wm)]) (ON big)
theorem ZbA : ZJ Tryz.prog 77 OO := ZD ⟨Tryz.f77, by kernel_rfl, rfl, by decide⟩ fun _ _ h => Zw Zbz (f := Tryz.f77) (by kernel_rfl) rfl (by kernel_rfl) (by kernel_rfl) big h
noncomputable def EN (n : Nat) (a0 : Zq) (a1 : YS) : Option (Zq × YA × Unit) := ON n (a0, a1, ())
noncomputable def Zer (n : Nat) (x : KD QL.1) (y : BD QL.2) := Z6 (env (false, false, [9, 21, 999997]) AJ) LH (body Tryz.f77) (Vn (false, false, [9, 21, 999997]) AJ [some ZE, some Wm] Tryz.f77 (shT [(true, ZE), (true, Wm)]) [.val Zm (ZR Zm), .val Yg (ZR Yg)]) n 4 QL x y
noncomputable def QM (n : Nat) (s6 : (List Zf)) (s7 : (List Zs)) (s13 : YS) (s14 : Int) (s15 : Int) : Option (Zq × YA × Unit) := Zer n (s6, s7, s13, s14, s15, ()) ()
theorem ZbB (n : Nat) (a0 : Zq) (a1 : YS) : EN n a0 a1 =
  (Y1 big a0).bind fun y => QM n y [] a1 (↑(List.length a1) : Int) (0 : Int) := by kernel_rfl
theorem BQ (n : Nat) (s6 : (List Zf)) (s7 : (List Zs)) (s13 : YS) (s14 : Int) (s15 : Int) : QM (n + 1) s6 s7 s13 s14 s15 =
  bif decide (s15 < s14) then
 if (0 : Int) ≤ s15 then
 (nth s13 s15.toNat).bind fun y =>
 (MU big s6 y.snd.fst).bind fun y_1 =>
 if s7.length + [y_1].length ≤ Ztk then
 (P9 big s6 y).bind fun y =>
 QM n y.fst (s7.append [y_1]) s13 s14 (IntKind.i64.wrap (s15 + (1 : Int)))
 else none
 else none
 else some (s6, s7, PUnit.unit) := by kernel_rfl
noncomputable def ZbC : Yq := []
theorem Zes : Yr ZbC := Zh
def Zmb : KP := []
noncomputable def ZbD (n : Nat) (x : YG [ZQ]) := evX (false, false, [1, 3, 7, 9]) ZbC Zmb [none] Tryz.f76 (shV Zk) n (YP [ZQ] x)
noncomputable def HJ : Con := roS [ZQ] true (shV Zk) (ZbD big)
theorem Gy : ZJ Tryz.prog 76 HJ := ZD ⟨Tryz.f76, by kernel_rfl, rfl, by decide⟩ fun _ _ h => Zw Zes (f := Tryz.f76) (by kernel_rfl) rfl (by kernel_rfl) (by kernel_rfl) big h
noncomputable def JP (n : Nat) (a0 : Zn) : Option Int := ZbD n (a0, ())
theorem Zet (n : Nat) (a0 : Zn) : JP n a0 = bif decide ((↑(List.length a0.2.2.2.2.2.1) : Int) = 0) then some 0 else if 0 ≤ IntKind.i64.wrap ((↑(List.length a0.2.2.2.2.2.1) : Int) - 1) then (nth a0.2.2.2.2.2.1 (IntKind.i64.wrap ((↑(List.length a0.2.2.2.2.2.1) : Int) - 1)).toNat).bind fun y => some y else none := by kernel_rfl
noncomputable def LJ : Yq := [(60, KZ), (118, LG)]
theorem PI : Yr LJ := cons_cons Kd (cons_cons PG (Zh))
def Zeu : KP := []
noncomputable def LK (n : Nat) (x : YG [ZQ]) := evX (false, false, [1, 3, 6, 8]) LJ Zeu [some ZI] Tryz.f74 (shF ZI) n (YP [ZQ] x)
noncomputable def CN : Con := roS [ZQ] true (shF ZI) (LK big)
theorem Dm : ZJ Tryz.prog 74 CN := ZD ⟨Tryz.f74, by kernel_rfl, rfl, by decide⟩ fun _ _ h => Zw PI (f := Tryz.f74) (by kernel_rfl) rfl (by kernel_rfl) (by kernel_rfl) big h
noncomputable def Ja (n : Nat) (a0 : Zn) : Option Zn := LK n (a0, ())
theorem PJ (n : Nat) (a0 : Zn) : Ja n a0 =
  (UL big a0).bind fun y =>
 (CM big a0.snd.snd.snd.snd.snd.snd.fst a0.snd.snd.snd.snd.snd.snd.snd.snd.fst).bind fun y_1 =>
 some
 (y.fst, y.snd.fst, y.snd.snd.fst, y.snd.snd.snd.fst, y.snd.snd.snd.snd.fst, y.snd.snd.snd.snd.snd.fst, y_1, [],
 [], y.snd.snd.snd.snd.snd.snd.snd.snd.snd) := by kernel_rfl
noncomputable def ZbE : Yq := [(76, HJ), (79, HI), (60, KZ), (74, CN), (75, EJ), (78, MQ), (80, Zbo)]
theorem Zev : Yr ZbE := cons_cons Gy (cons_cons Gw (cons_cons Kd (cons_cons Dm (cons_cons EK (cons_cons Lz (cons_cons Zel (Zh)))))))
def Zmc : KP := []
noncomputable def ZbF (n : Nat) (x : YG [Ze, ZQ, Zk]) := evX (false, false, [4, 7, 24, 30]) ZbE Zmc [some ZI] Tryz.f25 (shF ZI) n (YP [Ze, ZQ, Zk] x)
noncomputable def ZbG : Con := roS [Ze, ZQ, Zk] true (shF ZI) (ZbF big)
theorem Zew : ZJ Tryz.prog 25 ZbG := ZD ⟨Tryz.f25, by kernel_rfl, rfl, by decide⟩ fun _ _ h => Zw Zev (f := Tryz.f25) (by kernel_rfl) rfl (by kernel_rfl) (by kernel_rfl) big h
noncomputable def CO (n : Nat) (a0 : Zi) (a1 : Zn) (a2 : Int) : Option Zn := ZbF n (a0, a1, a2, ())
theorem Zex (n : Nat) (a0 : Zi) (a1 : Zn) (a2 : Int) : CO n a0 a1 a2 =
  (JP big a1).bind fun y =>
 (CL big a0 a2 y).bind fun y =>
 bif !y then (UL big a1).bind fun y => some y
 else
 (Ja big a1).bind fun y =>
 (JP big a1).bind fun y_1 =>
 (AH big a0 a2 y_1).bind fun y_2 =>
 if List.length y.snd.snd.snd.snd.snd.fst + List.length y_2 ≤ lim then
 (FA big a0 y_2).bind fun y_3 =>
 (HD big y.snd.snd.snd.snd.snd.snd.fst y_3).bind fun y_4 =>
 some
 (y.fst, y.snd.fst, y.snd.snd.fst, y.snd.snd.snd.fst, y.snd.snd.snd.snd.fst,
 List.append y.snd.snd.snd.snd.snd.fst y_2, y_4.fst, y.snd.snd.snd.snd.snd.snd.snd)
 else none := by kernel_rfl
noncomputable def OP : Yq := [(74, CN), (76, HJ), (75, EJ), (78, MQ), (77, OO)]
theorem ZbH : Yr OP := cons_cons Dm (cons_cons Gy (cons_cons EK (cons_cons Lz (cons_cons ZbA (Zh)))))
def ZiX : KP := []
noncomputable def OQ (n : Nat) (x : YG [Ze, ZQ, Zk]) := evX (false, false, [4, 7, 19]) OP ZiX [some ZI] Tryz.f24 (shF ZI) n (YP [Ze, ZQ, Zk] x)
noncomputable def OR : Con := roS [Ze, ZQ, Zk] true (shF ZI) (OQ big)
theorem ZbI : ZJ Tryz.prog 24 OR := ZD ⟨Tryz.f24, by kernel_rfl, rfl, by decide⟩ fun _ _ h => Zw ZbH (f := Tryz.f24) (by kernel_rfl) rfl (by kernel_rfl) (by kernel_rfl) big h
noncomputable def Wg (n : Nat) (a0 : Zi) (a1 : Zn) (a2 : Int) : Option Zn := OQ n (a0, a1, a2, ())
theorem ZbJ (n : Nat) (a0 : Zi) (a1 : Zn) (a2 : Int) : Wg n a0 a1 a2 =
  (Ja big a1).bind fun y =>
 (JP big a1).bind fun y_1 =>
 (AH big a0 a2 y_1).bind fun y_2 =>
 (FA big a0 y_2).bind fun y_3 =>
 (EN big y.snd.snd.snd.snd.snd.snd.fst y_3).bind fun y_4 =>
 some
 (y.fst, y.snd.fst, y.snd.snd.fst, y.snd.snd.snd.fst, y.snd.snd.snd.snd.fst, y.snd.snd.snd.snd.snd.fst,
 y_4.fst, y_2, y_4.snd.fst, y.snd.snd.snd.snd.snd.snd.snd.snd.snd) := by kernel_rfl
noncomputable def LL : Yq := [(64, OE)]
theorem PK : Yr LL := cons_cons JM (Zh)
def Zey : KP := []
noncomputable def LM (n : Nat) (x : AP.denL [.ro Zk, .mr Ze]) := evX (false, false, [1]) LL Zey [none] Tryz.f152 (shO (shV Zk) [.mr Ze]) n (AP.encL [.ro Zk, .mr Ze] x)
noncomputable def LN : Con := apS [.ro Zk, .mr Ze] false (shO (shV Zk) [.mr Ze]) (LM big)
theorem PL : ZJ Tryz.prog 152 LN := YU ⟨Tryz.f152, by kernel_rfl, rfl, by decide⟩ fun _ _ h => Zw PK (f := Tryz.f152) (by kernel_rfl) rfl (by kernel_rfl) (by kernel_rfl) big h
noncomputable def UU (n : Nat) (a0 : Int) (a1 : Zi) : Option (Int × Zi × Unit) := LM n (a0, a1, ())
theorem PM (n : Nat) (a0 : Int) (a1 : Zi) : UU n a0 a1 = (Da big a0 0 (IntKind.i64.wrap ((↑(List.length a1) : Int) - 1))).bind fun y => bif !y then some ((-1), a1, ()) else if 0 ≤ a0 then (nth a1 a0.toNat).bind fun y => (Da big y.2.2.2.1.2.2.1 0 (IntKind.i64.wrap ((↑(List.length a1) : Int) - 1))).bind fun y => bif !y then some ((-1), a1, ()) else if 0 ≤ a0 then (nth a1 a0.toNat).bind fun y => some (y.2.2.2.1.2.2.1, a1, ()) else none else none := by kernel_rfl
noncomputable def ZbK : Yq := [(152, LN)]
theorem Zez : Yr ZbK := cons_cons PL (Zh)
def Zmd : KP := []
noncomputable def ZbL (n : Nat) (x : YG [Ze, Zk]) := evX (false, false, []) ZbK Zmd [none, none, none] Tryz.f91 (shT [(false, Zk), (false, Zk), (false, Zk)]) n (YP [Ze, Zk] x)
noncomputable def ZbM : Con := roS [Ze, Zk] true (shT [(false, Zk), (false, Zk), (false, Zk)]) (ZbL big)
theorem ZeA : ZJ Tryz.prog 91 ZbM := ZD ⟨Tryz.f91, by kernel_rfl, rfl, by decide⟩ fun _ _ h => Zw Zez (f := Tryz.f91) (by kernel_rfl) rfl (by kernel_rfl) (by kernel_rfl) big h
noncomputable def ZbN (n : Nat) (a0 : Zi) (a1 : Int) : Option (Int × Int × Int × Unit) := ZbL n (a0, a1, ())
theorem Gz (n : Nat) (a0 : Zi) (a1 : Int) : ZbN n a0 a1 = (UU big a1 a0).bind fun y => (UU big y.1 y.2.1).bind fun y_1 => (UU big y_1.1 y_1.2.1).bind fun y_2 => some (y.1, y_1.1, y_2.1, ()) := by kernel_rfl
noncomputable def OS : Yq := []
theorem ZbO : Yr OS := Zh
def ZiY : KP := []
noncomputable def OT (n : Nat) (x : YG [Wl, Wl]) := evX (false, false, [2, 3, 5, 7]) OS ZiY [none] Tryz.f92 (shV Wl) n (YP [Wl, Wl] x)
noncomputable def OU : Con := roS [Wl, Wl] true (shV Wl) (OT big)
theorem ZbP : ZJ Tryz.prog 92 OU := ZD ⟨Tryz.f92, by kernel_rfl, rfl, by decide⟩ fun _ _ h => Zw ZbO (f := Tryz.f92) (by kernel_rfl) rfl (by kernel_rfl) (by kernel_rfl) big h
noncomputable def AK (n : Nat) (a0 a1 : Bw) : Option Bw := OT n (a0, a1, ())
theorem ZbQ (n : Nat) (a0 a1 : Bw) : AK n a0 a1 = bif decide (a0.2.1 < a1.2.1) then some a1 else some a0 := by kernel_rfl
noncomputable def Zme : Yq := []
theorem Zmf : Yr Zme := Zh
def ZqC : KP := []
noncomputable def Zmg (n : Nat) (x : YG [Ze, Zk, Zk]) := evX (false, false, []) Zme ZqC [none] Tryz.f94 (shV ZC) n (YP [Ze, Zk, Zk] x)
noncomputable def ZbR : Con := roS [Ze, Zk, Zk] true (shV ZC) (Zmg big)
theorem OV : ZJ Tryz.prog 94 ZbR := ZD ⟨Tryz.f94, by kernel_rfl, rfl, by decide⟩ fun _ _ h => Zw Zmf (f := Tryz.f94) (by kernel_rfl) rfl (by kernel_rfl) (by kernel_rfl) big h
noncomputable def BR (n : Nat) (a0 : Zi) (a1 a2 : Int) : Option Bool := Zmg n (a0, a1, a2, ())
theorem OW (n : Nat) (a0 : Zi) (a1 a2 : Int) : BR n a0 a1 a2 = if 0 ≤ a1 then (nth a0 a1.toNat).bind fun y => if 0 ≤ a2 then (nth a0 a2.toNat).bind fun y_1 => some (decide (y.2.1 = IntKind.i64.wrap (y_1.2.1 + 1))) else none else none := by kernel_rfl
noncomputable def Zgn : Yq := [(94, ZbR)]
theorem ZiZ : Yr Zgn := cons_cons OV (Zh)
def Zn2 : KP := []
noncomputable def Zgo (n : Nat) (x : YG [Ze, Zk, Zk]) := evX (false, false, []) Zgn Zn2 [none] Tryz.f93 (shV ZC) n (YP [Ze, Zk, Zk] x)
noncomputable def Zgp : Con := roS [Ze, Zk, Zk] true (shV ZC) (Zgo big)
theorem Zi0 : ZJ Tryz.prog 93 Zgp := ZD ⟨Tryz.f93, by kernel_rfl, rfl, by decide⟩ fun _ _ h => Zw ZiZ (f := Tryz.f93) (by kernel_rfl) rfl (by kernel_rfl) (by kernel_rfl) big h
noncomputable def FB (n : Nat) (a0 : Zi) (a1 a2 : Int) : Option Bool := Zgo n (a0, a1, a2, ())
theorem LO (n : Nat) (a0 : Zi) (a1 a2 : Int) : FB n a0 a1 a2 = bif decide (0 < a1) then bif decide (0 < a2) then (BR big a0 a1 a2).bind fun y => some y else some false else some false := by kernel_rfl
noncomputable def GA : Yq := [(60, KZ), (64, OE), (91, ZbM), (92, OU), (93, Zgp), (94, ZbR), (25, ZbG), (24, OR)]
theorem MV : Yr GA := cons_cons Kd (cons_cons JM (cons_cons ZeA (cons_cons ZbP (cons_cons Zi0 (cons_cons OV (cons_cons Zew (cons_cons ZbI (Zh))))))))
def ZbS : KP := []
noncomputable def GB (n : Nat) (x : YG [Ze, ZQ, Zk]) := evX (false, false, [4, 7, 27, 38]) GA ZbS [some ZI] Tryz.f43 (shF ZI) n (YP [Ze, ZQ, Zk] x)
noncomputable def GC : Con := roS [Ze, ZQ, Zk] true (shF ZI) (GB big)
theorem MW : ZJ Tryz.prog 43 GC := ZD ⟨Tryz.f43, by kernel_rfl, rfl, by decide⟩ fun _ _ h => Zw MV (f := Tryz.f43) (by kernel_rfl) rfl (by kernel_rfl) (by kernel_rfl) big h
noncomputable def QN (n : Nat) (a0 : Zi) (a1 : Zn) (a2 : Int) : Option Zn := GB n (a0, a1, a2, ())
theorem Qs (n : Nat) (a0 : Zi) (a1 : Zn) (a2 : Int) : QN n a0 a1 a2 =
  (UL big a1).bind fun y =>
 (Da big a2 (0 : Int) (IntKind.i64.wrap ((↑(List.length a0) : Int) - (1 : Int)))).bind fun y_1 =>
 bif !y_1 then some y
 else
 (ZbN big a0 a2).bind fun y_2 =>
 if (0 : Int) ≤ a2 then
 (nth a0 a2.toNat).bind fun y_3 =>
 (AK big y.snd.snd.fst y_3.snd.snd.snd.fst).bind fun y_4 =>
 bif decide ((0 : Int) ≤ y_2.fst) then
 if (0 : Int) ≤ y_2.fst then
 (nth a0 (Int.toNat y_2.fst)).bind fun y_5 =>
 (AK big y.snd.snd.snd.fst y_5.snd.snd.snd.fst).bind fun y_6 =>
 (FB big a0 y_2.fst y_2.snd.fst).bind fun y_7 =>
 bif !y_7 then some (y.fst, y.snd.fst, y_4, y_6, y.snd.snd.snd.snd)
 else
 bif decide ((0 : Int) ≤ y_2.snd.snd.fst) then
 (BR big a0 y_2.snd.fst y_2.snd.snd.fst).bind fun y_8 =>
 bif y_8 then
 (CO big a0 (y.fst, y.snd.fst, y_4, y_6, y.snd.snd.snd.snd)
 y_2.snd.snd.fst).bind
 fun y => (Wg big a0 y y_2.snd.fst).bind fun y => some y
 else
 (Wg big a0 (y.fst, y.snd.fst, y_4, y_6, y.snd.snd.snd.snd) y_2.snd.fst).bind
 fun y => some y
 else
 (Wg big a0 (y.fst, y.snd.fst, y_4, y_6, y.snd.snd.snd.snd) y_2.snd.fst).bind
 fun y => some y
 else none
 else
 (FB big a0 y_2.fst y_2.snd.fst).bind fun y_5 =>
 bif !y_5 then some (y.fst, y.snd.fst, y_4, y.snd.snd.snd)
 else
 bif decide ((0 : Int) ≤ y_2.snd.snd.fst) then
 (BR big a0 y_2.snd.fst y_2.snd.snd.fst).bind fun y_6 =>
 bif y_6 then
 (CO big a0 (y.fst, y.snd.fst, y_4, y.snd.snd.snd) y_2.snd.snd.fst).bind fun y =>
 (Wg big a0 y y_2.snd.fst).bind fun y => some y
 else
 (Wg big a0 (y.fst, y.snd.fst, y_4, y.snd.snd.snd) y_2.snd.fst).bind fun y =>
 some y
 else (Wg big a0 (y.fst, y.snd.fst, y_4, y.snd.snd.snd) y_2.snd.fst).bind fun y => some y
 else none := by kernel_rfl
noncomputable def AL : Yq := []
theorem ZbT : Yr AL := Zh
abbrev QO : Vz := (.ro Yu :: .ro Yu :: dp 3 (.ro Zb :: dp 20 []), [])
def LP : KP := [(4, QO)]
noncomputable def OX (n : Nat) (x : YG [Yu, Yu]) := evX (false, false, []) AL LP [none] Tryz.f29 (shV ZC) n (YP [Yu, Yu] x)
noncomputable def OY : Con := roS [Yu, Yu] true (shV ZC) (OX big)
theorem ZbU : ZJ Tryz.prog 29 OY := ZD ⟨Tryz.f29, by kernel_rfl, rfl, by decide⟩ fun _ _ h => Zw ZbT (f := Tryz.f29) (by kernel_rfl) rfl (by kernel_rfl) (by kernel_rfl) big h
noncomputable def AM (n : Nat) (a0 a1 : Yp) : Option Bool := OX n (a0, a1, ())
noncomputable def ZeB (n : Nat) (x : KD QO.1) (y : BD QO.2) := Z6 (env (false, false, []) AL) LP (body Tryz.f29) (Vn (false, false, []) AL [none] Tryz.f29 (shV ZC) [.val Yu (ZR Yu), .val Yu (ZR Yu)]) n 4 QO x y
noncomputable def QP (n : Nat) (s0 s1 : Yp) (s5 : Int) : Option Bool := ZeB n (s0, s1, s5, ()) ()
theorem ZbV (n : Nat) (a0 a1 : Yp) : AM n a0 a1 = bif !decide ((↑(List.length a0) : Int) = (↑(List.length a1) : Int)) then some false else QP n a0 a1 0 := by kernel_rfl
theorem BS (n : Nat) (s0 s1 : Yp) (s5 : Int) : QP (n + 1) s0 s1 s5 = bif decide (s5 < (↑(List.length s0) : Int)) then if 0 ≤ s5 then (nth s0 s5.toNat).bind fun y => if 0 ≤ s5 then (nth s1 s5.toNat).bind fun y_1 => bif !decide (y = y_1) then some false else QP n s0 s1 (IntKind.i64.wrap (s5 + 1)) else none else none else some true := by kernel_rfl
noncomputable def Jb : Yq := []
theorem PN : Yr Jb := Zh
abbrev UV : Vz := (.ro Zm :: .ro Zm :: dp 3 (.ro Zb :: dp 20 []), [])
def GD : KP := [(4, UV)]
noncomputable def LQ (n : Nat) (x : YG [Zm, Zm]) := evX (false, false, []) Jb GD [none] Tryz.f26 (shV ZC) n (YP [Zm, Zm] x)
noncomputable def LR : Con := roS [Zm, Zm] true (shV ZC) (LQ big)
theorem PO : ZJ Tryz.prog 26 LR := ZD ⟨Tryz.f26, by kernel_rfl, rfl, by decide⟩ fun _ _ h => Zw PN (f := Tryz.f26) (by kernel_rfl) rfl (by kernel_rfl) (by kernel_rfl) big h
noncomputable def CP (n : Nat) (a0 a1 : Zq) : Option Bool := LQ n (a0, a1, ())
noncomputable def ZbW (n : Nat) (x : KD UV.1) (y : BD UV.2) := Z6 (env (false, false, []) Jb) GD (body Tryz.f26) (Vn (false, false, []) Jb [none] Tryz.f26 (shV ZC) [.val Zm (ZR Zm), .val Zm (ZR Zm)]) n 4 UV x y
noncomputable def UW (n : Nat) (s0 s1 : Zq) (s5 : Int) : Option Bool := ZbW n (s0, s1, s5, ()) ()
theorem PP (n : Nat) (a0 a1 : Zq) : CP n a0 a1 = bif !decide ((↑(List.length a0) : Int) = (↑(List.length a1) : Int)) then some false else UW n a0 a1 0 := by kernel_rfl
theorem AN (n : Nat) (s0 s1 : Zq) (s5 : Int) : UW (n + 1) s0 s1 s5 = bif decide (s5 < (↑(List.length s0) : Int)) then if 0 ≤ s5 then (nth s0 s5.toNat).bind fun y => if 0 ≤ s5 then (nth s1 s5.toNat).bind fun y_1 => bif !eqD Z9 y y_1 then some false else UW n s0 s1 (IntKind.i64.wrap (s5 + 1)) else none else none else some true := by kernel_rfl
noncomputable def Jc : Yq := []
theorem PQ : Yr Jc := Zh
abbrev UX : Vz := (.ro Yi :: .ro Yi :: dp 3 (.ro Zb :: dp 20 []), [])
def GE : KP := [(4, UX)]
noncomputable def LS (n : Nat) (x : YG [Yi, Yi]) := evX (false, false, []) Jc GE [none] Tryz.f71 (shV ZC) n (YP [Yi, Yi] x)
noncomputable def LT : Con := roS [Yi, Yi] true (shV ZC) (LS big)
theorem PR : ZJ Tryz.prog 71 LT := ZD ⟨Tryz.f71, by kernel_rfl, rfl, by decide⟩ fun _ _ h => Zw PQ (f := Tryz.f71) (by kernel_rfl) rfl (by kernel_rfl) (by kernel_rfl) big h
noncomputable def CQ (n : Nat) (a0 a1 : YA) : Option Bool := LS n (a0, a1, ())
noncomputable def ZbX (n : Nat) (x : KD UX.1) (y : BD UX.2) := Z6 (env (false, false, []) Jc) GE (body Tryz.f71) (Vn (false, false, []) Jc [none] Tryz.f71 (shV ZC) [.val Yi (ZR Yi), .val Yi (ZR Yi)]) n 4 UX x y
noncomputable def UY (n : Nat) (s0 s1 : YA) (s5 : Int) : Option Bool := ZbX n (s0, s1, s5, ()) ()
theorem PS (n : Nat) (a0 a1 : YA) : CQ n a0 a1 = bif !decide ((↑(List.length a0) : Int) = (↑(List.length a1) : Int)) then some false else UY n a0 a1 0 := by kernel_rfl
theorem AO (n : Nat) (s0 s1 : YA) (s5 : Int) : UY (n + 1) s0 s1 s5 = bif decide (s5 < (↑(List.length s0) : Int)) then if 0 ≤ s5 then (nth s0 s5.toNat).bind fun y => if 0 ≤ s5 then (nth s1 s5.toNat).bind fun y_1 => bif !eqD YJ y y_1 then some false else UY n s0 s1 (IntKind.i64.wrap (s5 + 1)) else none else none else some true := by kernel_rfl
noncomputable def Jd : Yq := []
theorem PT : Yr Jd := Zh
abbrev UZ : Vz := (.ro ZS :: .ro ZS :: dp 3 (.ro Zb :: dp 20 []), [])
def GF : KP := [(4, UZ)]
noncomputable def LU (n : Nat) (x : YG [ZS, ZS]) := evX (false, false, []) Jd GF [none] Tryz.f72 (shV ZC) n (YP [ZS, ZS] x)
noncomputable def LV : Con := roS [ZS, ZS] true (shV ZC) (LU big)
theorem PU : ZJ Tryz.prog 72 LV := ZD ⟨Tryz.f72, by kernel_rfl, rfl, by decide⟩ fun _ _ h => Zw PT (f := Tryz.f72) (by kernel_rfl) rfl (by kernel_rfl) (by kernel_rfl) big h
noncomputable def CR (n : Nat) (a0 a1 : Yn) : Option Bool := LU n (a0, a1, ())
noncomputable def ZbY (n : Nat) (x : KD UZ.1) (y : BD UZ.2) := Z6 (env (false, false, []) Jd) GF (body Tryz.f72) (Vn (false, false, []) Jd [none] Tryz.f72 (shV ZC) [.val ZS (ZR ZS), .val ZS (ZR ZS)]) n 4 UZ x y
noncomputable def U8 (n : Nat) (s0 s1 : Yn) (s5 : Int) : Option Bool := ZbY n (s0, s1, s5, ()) ()
theorem PV (n : Nat) (a0 a1 : Yn) : CR n a0 a1 = bif !decide ((↑(List.length a0) : Int) = (↑(List.length a1) : Int)) then some false else U8 n a0 a1 0 := by kernel_rfl
theorem AQ (n : Nat) (s0 s1 : Yn) (s5 : Int) : U8 (n + 1) s0 s1 s5 = bif decide (s5 < (↑(List.length s0) : Int)) then if 0 ≤ s5 then (nth s0 s5.toNat).bind fun y => if 0 ≤ s5 then (nth s1 s5.toNat).bind fun y_1 => bif !eqD Z4 y y_1 then some false else U8 n s0 s1 (IntKind.i64.wrap (s5 + 1)) else none else none else some true := by kernel_rfl
noncomputable def U9 : Yq := []
theorem LW : Yr U9 := Zh
abbrev Vi : Vz := (.ro ZN :: .ro ZN :: dp 3 (.ro Zb :: dp 20 []), [])
def Dn : KP := [(4, Vi)]
noncomputable def EO (n : Nat) (x : YG [ZN, ZN]) := evX (false, false, []) U9 Dn [none] Tryz.f73 (shV ZC) n (YP [ZN, ZN] x)
noncomputable def EP : Con := roS [ZN, ZN] true (shV ZC) (EO big)
theorem LX : ZJ Tryz.prog 73 EP := ZD ⟨Tryz.f73, by kernel_rfl, rfl, by decide⟩ fun _ _ h => Zw LW (f := Tryz.f73) (by kernel_rfl) rfl (by kernel_rfl) (by kernel_rfl) big h
noncomputable def JQ (n : Nat) (a0 a1 : ZX) : Option Bool := EO n (a0, a1, ())
noncomputable def MX (n : Nat) (x : KD Vi.1) (y : BD Vi.2) := Z6 (env (false, false, []) U9) Dn (body Tryz.f73) (Vn (false, false, []) U9 [none] Tryz.f73 (shV ZC) [.val ZN (ZR ZN), .val ZN (ZR ZN)]) n 4 Vi x y
noncomputable def Vj (n : Nat) (s0 s1 : ZX) (s5 : Int) : Option Bool := MX n (s0, s1, s5, ()) ()
theorem LY (n : Nat) (a0 a1 : ZX) : JQ n a0 a1 = bif !decide ((↑(List.length a0) : Int) = (↑(List.length a1) : Int)) then some false else Vj n a0 a1 0 := by kernel_rfl
theorem Km (n : Nat) (s0 s1 : ZX) (s5 : Int) : Vj (n + 1) s0 s1 s5 = bif decide (s5 < (↑(List.length s0) : Int)) then if 0 ≤ s5 then (nth s0 s5.toNat).bind fun y => if 0 ≤ s5 then (nth s1 s5.toNat).bind fun y_1 => bif !eqD ZP y y_1 then some false else Vj n s0 s1 (IntKind.i64.wrap (s5 + 1)) else none else none else some true := by kernel_rfl
noncomputable def OZ : Yq := [(29, OY), (26, LR), (71, LT), (72, LV), (73, EP)]
theorem ZbZ : Yr OZ := cons_cons ZbU (cons_cons PO (cons_cons PR (cons_cons PU (cons_cons LX (Zh)))))
def Zi1 : KP := []
noncomputable def O0 (n : Nat) (x : YG [ZQ, ZQ]) := evX (false, false, [2, 3, 5, 7, 11, 13, 18, 20, 25, 27, 32, 34, 39, 41, 46, 48, 53, 55, 60, 62, 67, 69, 74, 76, 81, 83]) OZ Zi1 [none] Tryz.f21 (shV ZC) n (YP [ZQ, ZQ] x)
noncomputable def O1 : Con := roS [ZQ, ZQ] true (shV ZC) (O0 big)
theorem Zb0 : ZJ Tryz.prog 21 O1 := ZD ⟨Tryz.f21, by kernel_rfl, rfl, by decide⟩ fun _ _ h => Zw ZbZ (f := Tryz.f21) (by kernel_rfl) rfl (by kernel_rfl) (by kernel_rfl) big h
noncomputable def EQ (n : Nat) (a0 a1 : Zn) : Option Bool := O0 n (a0, a1, ())
theorem Zb1 (n : Nat) (a0 a1 : Zn) : EQ n a0 a1 = bif decide (a0.1 = a1.1) then bif decide (a0.2.1 = a1.2.1) then bif eqD Wl a0.2.2.1 a1.2.2.1 then bif eqD Wl a0.2.2.2.1 a1.2.2.2.1 then bif eqD Z4 a0.2.2.2.2.1 a1.2.2.2.2.1 then (AM big a0.2.2.2.2.2.1 a1.2.2.2.2.2.1).bind fun y => bif y then (CP big a0.2.2.2.2.2.2.1 a1.2.2.2.2.2.2.1).bind fun y => bif y then (AM big a0.2.2.2.2.2.2.2.1 a1.2.2.2.2.2.2.2.1).bind fun y => bif y then (CQ big a0.2.2.2.2.2.2.2.2.1 a1.2.2.2.2.2.2.2.2.1).bind fun y => bif y then (CR big a0.2.2.2.2.2.2.2.2.2.1 a1.2.2.2.2.2.2.2.2.2.1).bind fun y => bif y then (JQ big a0.2.2.2.2.2.2.2.2.2.2.1 a1.2.2.2.2.2.2.2.2.2.2.1).bind fun y => bif y then some (decide (a0.2.2.2.2.2.2.2.2.2.2.2.1 = a1.2.2.2.2.2.2.2.2.2.2.2.1)) else some false else some false else some false else some false else some false else some false else some false else some false else some false else some false else some false := by kernel_rfl
noncomputable def Zb2 : Yq := [(57, Zfh), (59, YY), (61, Zgc), (63, Cc)]
theorem ZeC : Yr Zb2 := cons_cons Zhd (cons_cons Yw (cons_cons ZiF (cons_cons A4 (Zh))))
def Zmh : KP := []
noncomputable def Zb3 (n : Nat) (x : YG [Yv]) := evX (false, false, [8]) Zb2 Zmh [some Yt, some ZI, none] Tryz.f87 (shT [(true, Yt), (true, ZI), (false, Zk)]) n (YP [Yv] x)
noncomputable def Zb4 : Con := roS [Yv] true (shT [(true, Yt), (true, ZI), (false, Zk)]) (Zb3 big)
theorem ZeD : ZJ Tryz.prog 87 Zb4 := ZD ⟨Tryz.f87, by kernel_rfl, rfl, by decide⟩ fun _ _ h => Zw ZeC (f := Tryz.f87) (by kernel_rfl) rfl (by kernel_rfl) (by kernel_rfl) big h
noncomputable def HK (n : Nat) (a0 : XP) : Option (Zi × Zn × Int × Unit) := Zb3 n (a0, ())
theorem ZeE (n : Nat) (a0 : XP) : HK n a0 =
  (Mq big a0).bind fun y =>
 (ZA big y (12 : Int)).bind fun y =>
 (MN big y.snd.fst).bind fun y_1 =>
 (Jv big y_1.snd.fst (2 : Int)).bind fun y_2 =>
 bif y_2.fst then
 some
 (y_1.fst.fst, y_1.fst.snd.fst, IntKind.i64.wrap ((↑(List.length y_1.fst.fst) : Int) - (1 : Int)),
 PUnit.unit)
 else some (y_1.fst.fst, y_1.fst.snd.fst, IntKind.i64.wrap (y.fst - (1 : Int)), PUnit.unit) := by kernel_rfl
noncomputable def AR : Yq := [(87, Zb4)]
theorem ER : Yr AR := cons_cons ZeD (Zh)
def HL : KP := []
noncomputable def AS (n : Nat) (x : YG [Yv]) := evX (false, false, []) AR HL [some Yt, some ZI, none] Tryz.f42 (shT [(true, Yt), (true, ZI), (false, Zk)]) n (YP [Yv] x)
noncomputable def AT : Con := roS [Yv] true (shT [(true, Yt), (true, ZI), (false, Zk)]) (AS big)
theorem ES : ZJ Tryz.prog 42 AT := ZD ⟨Tryz.f42, by kernel_rfl, rfl, by decide⟩ fun _ _ h => Zw ER (f := Tryz.f42) (by kernel_rfl) rfl (by kernel_rfl) (by kernel_rfl) big h
noncomputable def Qa (n : Nat) (a0 : XP) : Option (Zi × Zn × Int × Unit) := AS n (a0, ())
theorem ET (n : Nat) (a0 : XP) : Qa n a0 =
  (HK big a0).bind fun y => some y := by kernel_rfl
noncomputable def Zss : Yq := []
theorem ZqD : Yr Zss := Zh
def Zt7 : KP := []
noncomputable def ZvA (n : Nat) (x : YG [Yv]) := evX (false, false, []) Zss Zt7 [none] Tryz.f9 (shV ZC) n (YP [Yv] x)
noncomputable def Zst : Con := roS [Yv] true (shV ZC) (ZvA big)
theorem ZqE : ZJ Tryz.prog 9 Zst := ZD ⟨Tryz.f9, by kernel_rfl, rfl, by decide⟩ fun _ _ h => Zw ZqD (f := Tryz.f9) (by kernel_rfl) rfl (by kernel_rfl) (by kernel_rfl) big h
noncomputable def O2 : Yq := [(9, Zst), (42, AT), (43, GC), (44, Bd), (21, O1)]
theorem Zb5 : Yr O2 := cons_cons ZqE (cons_cons ES (cons_cons MW (cons_cons BC (cons_cons Zb0 (Zh)))))
def Zi2 : KP := []
noncomputable def O3 (n : Nat) (x : YG [Yv]) := evX (false, false, [4, 6, 26, 27, 29, 30, 35, 36, 38, 39, 44, 46, 51, 53, 58, 61]) O2 Zi2 [none] Tryz.f7 (shV ZC) n (YP [Yv] x)
noncomputable def EU (n : Nat) (a0 : XP) : Option Bool := O3 n (a0, ())
theorem Zb6 (n : Nat) (a0 : XP) : EU n a0 =
  bif decide ((1048576 : Int) < (↑(List.length a0) : Int)) then some true
 else
 (Qa big a0).bind fun y =>
 (QN big y.fst y.snd.fst y.snd.snd.fst).bind fun y_1 =>
 (Xi big y.fst y.snd.fst y.snd.snd.fst).bind fun y_2 =>
 (EQ big y_1 y_2).bind fun y_3 =>
 bif y_3 then
 bif decide (y.snd.fst.snd.snd.fst.snd.fst ≤ y_1.snd.snd.fst.snd.fst) then
 bif decide (y.snd.fst.snd.snd.snd.fst.snd.fst ≤ y_1.snd.snd.snd.fst.snd.fst) then
 bif decide (y_1.snd.fst = y.snd.fst.snd.fst) then
 bif eqD Z4 y_1.snd.snd.snd.snd.fst y.snd.fst.snd.snd.snd.snd.fst then
 some
 (decide
 ((↑(List.length y.snd.fst.snd.snd.snd.snd.snd.fst) : Int) ≤
 (↑(List.length y_1.snd.snd.snd.snd.snd.fst) : Int)))
 else some false
 else some false
 else some false
 else some false
 else some false := by kernel_rfl
end Go.Sx.Tryz
