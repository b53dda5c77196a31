/- A cell put among others (slices.Insert): the program's own text is walked; its contract. -/
import Derived.Test.YtocddfdkknhgcaaGreatTypes
import Derived.Shelf.RegionOpenPlain
import Derived.WalkKit
import Derived.Lib.Walk
import Derived.Lib.SliceRun
import Derived.Lib.JoinLaws
import Derived.Lib.AppendZeros
import Derived.Lib.AppendZerosOnto
import Derived.Lib.Overlaps
import Derived.Laws.Externs
import Derived.Laws.IdiomCopy
import Derived.Laws.NewBlocks
import Derived.Shelf.Spec.SlicesInsert
import Derived.Test.YtocddfdkknhgcaaGreatSafeToldF3
import Derived.Test.YtocddfdkknhgcaaGreatSafeToldF1
import Derived.Test.YtocddfdkknhgcaaGreatSafeToldF2
set_option linter.unusedVariables false
set_option linter.unusedSimpArgs false
set_option maxRecDepth 100000
namespace Go.Sx.Tryz
section
open Go Go.Proofs Go.Shelf Go.RowKit Go.Lib
theorem Rz {P : Program} {t t' e ty : TypeId} {inf : TypeInfo} (ht : P.underlying t = some (.slice e)) (hi : P.info? e = some inf) {A : Addr} {dl dc : Nat} {src : Value} {m k : Nat} {cells : List Value} {w w' : World}
  (hl : (Builtin.lenOf src).run P w = .ok m w) (hk : Nat.min m dl = k) (hc : (Builtin.firstCells inf.size k src).run P w = .ok cells.toArray w) (hs : (storeCells A cells).run P w = .ok () w') :
  (Builtin.copy_ #[t, t'] ty #[.slice (some A) dl dc, src]).run P w = .ok (goInt k) w' := by
 unfold Builtin.copy_
 simp only [List.getElem?_toArray, List.getElem?_cons_zero, List.getElem?_cons_succ]
 rw [Sx.run_bind_ok (Sx.run_underlying ht)]
 dsimp only
 rw [Sx.run_bind_ok hl, hk, Sx.run_bind_ok (Sx.run_sizeOf hi), Sx.run_bind_ok hc]
 dsimp only
 rw [Sx.run_bind_ok hs]
 rfl
theorem t27 : Tryz.prog.underlying 30 = some (.slice 94) := by kernel_rfl
theorem t3 : Tryz.prog.underlying 3 = some (.int .i64) := by kernel_rfl
theorem t4 : Tryz.prog.underlying 4 = some .bool := by kernel_rfl
theorem ZyA : (Tryz.prog.info? 94).map (fun i => (i.size, i.bytes)) = some (2, 24) := by kernel_rfl
theorem Zw9 : Tryz.prog.funcs[230]? = some Tryz.f230 := by kernel_rfl
theorem ZyB : Tryz.f230.ntmps = 95 := by kernel_rfl
theorem ZyR : Tryz.prog.funcs[249]? = some Tryz.f249 := by kernel_rfl
set_option maxHeartbeats 4000000 in
theorem ZsF (b off n c i vb voff vc : Nat) (w W1 W2 : World) (hi : i < n) (hlim : n + 1 ≤ 4294967296) (hroom : n + 1 ≤ c)
  (hov : ∀ lb cb, (callFunc 249 #[.slice (some ⟨vb, voff, none⟩) 1 vc, .slice (some ⟨b, off + (i + 1) * 2, none⟩) lb cb]).run Tryz.prog w = .ok (.value (.bool false)) w)
  (hcp1 : ∀ ty dc sc, (Builtin.copy_ #[30, 30] ty #[.slice (some ⟨b, off + (i + 1) * 2, none⟩) (n - i) dc, .slice (some ⟨b, off + i * 2, none⟩) (n + 1 - i) sc]).run Tryz.prog w.drew = .ok (goInt ((n - i : Nat) : Int)) W1)
  (hcp2 : ∀ ty dc, (Builtin.copy_ #[30, 30] ty #[.slice (some ⟨b, off + i * 2, none⟩) (n + 1 - i) dc, .slice (some ⟨vb, voff, none⟩) 1 vc]).run Tryz.prog W1 = .ok (goInt 1) W2) :
  Calls Tryz.prog 230 #[.slice (some ⟨b, off, none⟩) n c, .int .i64 i, .slice (some ⟨vb, voff, none⟩) 1 vc] w fun e w' =>
   e = .returned (.slice (some ⟨b, off, none⟩) (n + 1) c) ∧ w' = W2 := by
 have u27 : ∀ w, (underlying 30).run Tryz.prog w = .ok (.slice 94) w := fun w => Sx.run_underlying t27
 have u3 : ∀ w, (underlying 3).run Tryz.prog w = .ok (.int .i64) w := fun w => Sx.run_underlying t3
 have u4 : ∀ w, (underlying 4).run Tryz.prog w = .ok .bool w := fun w => Sx.run_underlying t4
 have z161 : ∀ w, (Go.sizeOf 94).run Tryz.prog w = .ok 2 w := by
  intro w
  obtain ⟨inf, h1, h2⟩ : ∃ inf, Tryz.prog.info? 94 = some inf ∧ inf.size = 2 := by
   have := ZyA
   cases h : Tryz.prog.info? 94 with
   | none => rw [h] at this; cases this
   | some x => rw [h] at this; simp at this; exact ⟨x, rfl, this.1⟩
  rw [Sx.run_sizeOf h1, h2]
 have t27' := t27
 have mixed : Tryz.prog.follows .mixedOrders = true := by kernel_rfl
 have hz2 : ¬ ((i : Int) = (n : Int)) := by omega
 have hw1 : IntKind.i64.wrap ((i : Int) + 1) = (i : Int) + 1 := by rw [IntKind.wrap_i64]; omega
 have hb1 : (0 : Int) ≤ (i : Int) + 1 := by omega
 have hin : i ≤ n := by omega
 have htn : ((i : Int) + 1).toNat = i + 1 := by omega
 have hb2 : ¬ (c = i + 1) := by omega
 have hb3 : (i : Int) ≤ (n : Int) + 1 := by omega
 have hb4 : ¬ (c = i) := by omega
 go_enter Zw9, ZyB
 go_wp2_with (simp only [hov])
 go_region_law_o (refine step_copy_runI rfl _ _ 30 30 rfl _ _ (by simp [Act.eval, Act.put]) (by simp [Act.eval, Act.put]) (hcp1 _ _ _) ?_)
 go_wp2_with (at_builtin; refine wpList_copy_runI _ rfl _ _ 30 30 rfl _ _ rfl rfl (hcp2 _ _) ?_)
 go_ret
 exact ⟨rfl, rfl⟩
set_option maxHeartbeats 4000000 in
theorem Zun (b off n c i vb voff vc nb G : Nat) (w W1 W2 W3 : World) (hi : i < n) (hlim : n + 1 ≤ 4294967296) (hnc : n ≤ c) (hroom : c < n + 1) (hG : n + 1 ≤ G)
  (hap : ∀ ty, (Builtin.append_ #[30, 3] ty #[.slice (some ⟨b, off, none⟩) i c, .int .i64 ((n : Int) + 1 - (i : Int))]).run Tryz.prog w = .ok (.slice (some ⟨nb, 0, none⟩) (n + 1) G) W1)
  (hcA : ∀ ty dc, (Builtin.copy_ #[30, 30] ty #[.slice (some ⟨nb, i * 2, none⟩) (n + 1 - i) dc, .slice (some ⟨vb, voff, none⟩) 1 vc]).run Tryz.prog W1 = .ok (goInt 1) W2)
  (hcB : ∀ ty dc sc, (Builtin.copy_ #[30, 30] ty #[.slice (some ⟨nb, (i + 1) * 2, none⟩) (n - i) dc, .slice (some ⟨b, off + i * 2, none⟩) (n - i) sc]).run Tryz.prog W2.drew = .ok (goInt ((n - i : Nat) : Int)) W3) :
  Calls Tryz.prog 230 #[.slice (some ⟨b, off, none⟩) n c, .int .i64 i, .slice (some ⟨vb, voff, none⟩) 1 vc] w fun e w' =>
   e = .returned (.slice (some ⟨nb, 0, none⟩) (n + 1) G) ∧ w' = W3 := by
 have u27 : ∀ w, (underlying 30).run Tryz.prog w = .ok (.slice 94) w := fun w => Sx.run_underlying t27
 have u3 : ∀ w, (underlying 3).run Tryz.prog w = .ok (.int .i64) w := fun w => Sx.run_underlying t3
 have u4 : ∀ w, (underlying 4).run Tryz.prog w = .ok .bool w := fun w => Sx.run_underlying t4
 have z161 : ∀ w, (Go.sizeOf 94).run Tryz.prog w = .ok 2 w := by
  intro w
  obtain ⟨inf, h1, h2⟩ : ∃ inf, Tryz.prog.info? 94 = some inf ∧ inf.size = 2 := by
   have := ZyA
   cases h : Tryz.prog.info? 94 with
   | none => rw [h] at this; cases this
   | some x => rw [h] at this; simp at this; exact ⟨x, rfl, this.1⟩
  rw [Sx.run_sizeOf h1, h2]
 have t27' := t27
 have mixed : Tryz.prog.follows .mixedOrders = true := by kernel_rfl
 have hz2 : ¬ ((i : Int) = (n : Int)) := by omega
 have hz3 : (c : Int) < (n : Int) + 1 := by omega
 have hw1 : IntKind.i64.wrap ((i : Int) + 1) = (i : Int) + 1 := by rw [IntKind.wrap_i64]; omega
 have hb1 : (0 : Int) ≤ (i : Int) + 1 := by omega
 have hin : i ≤ n := by omega
 have htn : ((i : Int) + 1).toNat = i + 1 := by omega
 have hGi : ¬ (G = i) := by omega
 have hGim : ¬ (G = i + 1) := by omega
 have hci : ¬ (c = i) := by omega
 have hb3 : (i : Int) ≤ (n : Int) := by omega
 go_enter Zw9, ZyB
 go_wp2_with (first
  | (at_builtin; refine Lib.wpList_append_run _ rfl _ _ _ _ rfl _ _ rfl rfl _ _ (hap _) ?_)
  | (at_builtin; refine wpList_copy_runI _ rfl _ _ 30 30 rfl _ _ rfl rfl (hcA _ _) ?_))
 go_region_law_o (refine step_copy_runI rfl _ _ 30 30 rfl _ _ (by simp [Act.eval, Act.put]) (by simp [Act.eval, Act.put]) (hcB _ _ _) ?_)
 go_wp2
 go_ret
 exact ⟨rfl, rfl⟩
theorem _root_.Go.Sx.BlockAt.pre {w : World} {A : Addr} {n : Nat} {cs : List Value} (h : Sx.BlockAt w A n cs) (k : Nat) : Sx.BlockAt w A n (cs.take k) := by
 obtain ⟨all, e, h1, h2, h3⟩ := h
 refine ⟨all, e, h1, h2, fun j c hj => ?_⟩
 rw [List.getElem?_take] at hj
 split at hj
 ·exact h3 j c hj
 ·cases hj
theorem _root_.Go.Sx.BlockAt.heap {w w' : World} {A : Addr} {n : Nat} {cs : List Value} (h : Sx.BlockAt w A n cs) (he : w'.heap[A.block]? = w.heap[A.block]?) : Sx.BlockAt w' A n cs := h.mono he
structure ZsG (w w' : World) (b : Nat) : Prop where
 same : ∀ k, k ≠ b → w'.heap[k]? = w.heap[k]?
 size : w'.heap.size = w.heap.size
 frz : Sx.Frz w w'
theorem Zpo {P : Program} {w : World} {ad : Addr} {N p : Nat} {cs ds : List Value} (all : List Value) (e : TypeId) (h1 : w.heap[ad.block]? = some (.cells all.toArray e (0, 0))) (h2 : ad.off + p + ds.length ≤ all.length)
  (h3 : Sx.BlockAt (Sx.setBlock w ad.block (.cells (Sx.put1 all (ad.off + p) ds).toArray e (0, 0))) ad N cs) (hone : ∀ c ∈ ds, Sx.one c = true) (hne : ds ≠ []) :
  ∃ w', (storeCells ⟨ad.block, ad.off + p, none⟩ ds).run P w = .ok () w' ∧ Sx.BlockAt w' ad N cs ∧ ZsG w w' ad.block := by
 have hst := Sx.run_storeCells (P := P) (A := ⟨ad.block, ad.off + p, none⟩) rfl rfl ds 0 w all h1 (by simpa using h2) hone
 simp only [Nat.add_zero, if_neg hne] at hst
 exact ⟨_, hst, h3, fun k hk => Sx.setBlock_ne hk, Sx.setBlock_size, Sx.frz_set⟩
theorem Ng {P : Program} {w : World} {ad : Addr} {N : Nat} {cs ds : List Value} (h : Sx.BlockAt w ad N cs) (hf : cs.length + ds.length ≤ N) (hone : ∀ c ∈ ds, Sx.one c = true) (hne : ds ≠ []) :
  ∃ w', (storeCells ⟨ad.block, ad.off + cs.length, none⟩ ds).run P w = .ok () w' ∧ Sx.BlockAt w' ad N (cs ++ ds) ∧ ZsG w w' ad.block := by
 obtain ⟨all, e, h1, h2, h3⟩ := h.more hf
 exact Zpo all e h1 h2 h3 hone hne
theorem ZsH {P : Program} {w : World} {ad : Addr} {N o : Nat} {cs ds : List Value} (h : Sx.BlockAt w ad N cs) (ho : o + ds.length ≤ cs.length) (hn : cs.length ≤ N) (hone : ∀ c ∈ ds, Sx.one c = true) (hne : ds ≠ []) :
  ∃ w', (storeCells ⟨ad.block, ad.off + o, none⟩ ds).run P w = .ok () w' ∧ Sx.BlockAt w' ad N (Sx.put1 cs o ds) ∧ ZsG w w' ad.block := by
 obtain ⟨all, e, h1, h2, h3⟩ := h.put ho hn
 exact Zpo all e h1 h2 h3 hone hne
theorem JO {P : Program} {w : World} {ad : Addr} {N len cap sz k : Nat} {cs ds : List Value} (h : Sx.BlockAt w ad N cs) (o : Nat) (hd : ds = (cs.drop o).take (k * sz)) (hl : ds.length = k * sz) :
  (Builtin.firstCells sz k (.slice (some ⟨ad.block, ad.off + o, none⟩) len cap)).run P w = .ok ds.toArray w := by
 have hr := (Sx.Reads.of_block h).part o (k * sz)
 rw [← hd] at hr
 exact Sx.run_loadCells (P := P) rfl hl hr
theorem Zxa : ∃ inf, Tryz.prog.info? 94 = some inf ∧ inf.size = 2 ∧ inf.bytes = 24 ∧ inf.zero = some (Sx.mkV Yc (Sx.zeroVals Yc)) := by
 have h1 : (Tryz.prog.info? 94).map (fun i => (i.size, i.bytes, i.zero)) = some (2, 24, some (Sx.mkV Yc (Sx.zeroVals Yc))) := by kernel_rfl
 cases h : Tryz.prog.info? 94 with
 | none => rw [h] at h1; cases h1
 | some x =>
  rw [h] at h1
  simp only [Option.map_some, Option.some.injEq, Prod.mk.injEq] at h1
  exact ⟨x, rfl, h1.1, h1.2.1, h1.2.2⟩
theorem ZvP {a d v : List Value} {i : Nat} (ha : a.length = (i + 1) * 2) (hv : v.length = 2) : Sx.put1 (a ++ d) (i * 2) v = a.take (i * 2) ++ (v ++ d) := by
 unfold Sx.put1
 rw [List.take_append_of_le_length (by omega), hv, show i * 2 + 2 = a.length by omega, List.drop_left, List.append_assoc]
set_option maxHeartbeats 4000000 in
/-- a cell put among others: in place, or in a new row -/
theorem ZvQ (w : World) (ad vad : Addr) (cap vcap n i : Nat) (inner V : List Value) (hs : ad.spot = none) (hvs : vad.spot = none) (hne : vad.block ≠ ad.block) (hb : Sx.BlockAt w ad (cap * 2) inner) (hv : Sx.BlockAt w vad (vcap * 2) V)
  (hil : inner.length = n * 2) (hvl : V.length = 2) (hi1 : ∀ c ∈ inner, Sx.one c = true) (hv1 : ∀ c ∈ V, Sx.one c = true) (hi : i < n) (hnc : n ≤ cap) (hlim : n + 1 ≤ 4294967296) :
  Calls Tryz.prog 230 #[.slice (some ad) n cap, .int .i64 i, .slice (some vad) 1 vcap] w fun e w' => ∃ (ad' : Addr) (cap' : Nat), e = .returned (.slice (some ad') (n + 1) cap') ∧ ad'.spot = none ∧ n + 1 ≤ cap' ∧
   (ad'.block = ad.block ∨ w.heap.size ≤ ad'.block) ∧ ad'.block < w'.heap.size ∧ Sx.BlockAt w' ad' (cap' * 2) (inner.take (i * 2) ++ (V ++ inner.drop (i * 2))) ∧ Sx.Kept w w' [ad.block] := by
 obtain ⟨b, off, sp⟩ := ad
 obtain ⟨vb, voff, vsp⟩ := vad
 dsimp only at hs hvs hne
 subst hs; subst hvs
 obtain ⟨inf, hinf, hsz, hby, hzero⟩ := Zxa
 have hblt : b < w.heap.size := by
  obtain ⟨all, e, h1, _⟩ := hb
  exact (Array.getElem?_eq_some_iff.1 h1).1
 have hvne : V ≠ [] := fun e => by rw [e] at hvl; cases hvl
 have hDl : (inner.drop (i * 2)).length = (n - i) * 2 := by rw [List.length_drop, hil, Nat.sub_mul]
 have hDne : inner.drop (i * 2) ≠ [] := fun e => by rw [e] at hDl; simp at hDl; omega
 have hD1 : ∀ c ∈ inner.drop (i * 2), Sx.one c = true := fun c hc => hi1 c (List.mem_of_mem_drop hc)
 have hlen : ∀ (d : Nat), (Builtin.lenOf (.slice (some ⟨vb, voff, none⟩) 1 vcap)).run Tryz.prog w = .ok 1 w := fun _ => rfl
 have hDt : inner.drop (i * 2) = (inner.drop (i * 2)).take ((n - i) * 2) := by rw [List.take_of_length_le (Nat.le_of_eq hDl)]
 have hVt : V = (V.drop 0).take (1 * 2) := by rw [List.drop_zero, List.take_of_length_le (by omega)]
 have hTl : (inner.take ((i + 1) * 2)).length = (i + 1) * 2 := by rw [List.length_take, hil]; omega
 have hTl2 : (inner.take (i * 2)).length = i * 2 := by rw [List.length_take, hil]; omega
 by_cases hroom : n + 1 ≤ cap
 ·-- there is room
  have hb0 : Sx.BlockAt w.drew ⟨b, off, none⟩ (cap * 2) inner := hb.heap rfl
  obtain ⟨W1, s1, s2, s3⟩ := Ng (P := Tryz.prog) (hb0.pre ((i + 1) * 2)) (ds := inner.drop (i * 2)) (by rw [hTl, hDl]; omega) hD1 hDne
  obtain ⟨W2, r1, r2, r3⟩ := ZsH (P := Tryz.prog) (o := i * 2) (ds := V) s2 (by rw [List.length_append, hTl, hDl, hvl]; omega) (by rw [List.length_append, hTl, hDl]; omega) hv1 hvne
  rw [ZvP hTl hvl, List.take_take, Nat.min_eq_left (by omega)] at r2
  rw [hTl] at s1
  have hv2 : Sx.BlockAt W1 ⟨vb, voff, none⟩ (vcap * 2) V := hv.heap (s3.same vb hne)
  have hw := ZsF b off n cap i vb voff vcap w W1 W2 hi hlim hroom (fun lb cb => ?_) (fun ty dc sc => ?_) (fun ty dc => ?_)
  ·refine hw.mono ?_
   rintro e w' ⟨rfl, rfl⟩
   refine ⟨⟨b, off, none⟩, cap, rfl, rfl, hroom, .inl rfl, ?_, r2, ?_⟩
   ·rw [r3.size, s3.size]; exact hblt
   ·have k1 : Sx.Kept w w.drew [b] := ⟨Nat.le_refl _, fun _ _ _ => rfl, ⟨fun _ _ => .inl rfl, rfl, rfl, Nat.le_refl _⟩⟩
    have k2 : Sx.Kept w.drew W1 [b] := ⟨Nat.le_of_eq s3.size.symm, fun k _ hk => s3.same k (by simpa using hk), s3.frz⟩
    have k3 : Sx.Kept W1 w' [b] := ⟨Nat.le_of_eq r3.size.symm, fun k _ hk => r3.same k (by simpa using hk), r3.frz⟩
    exact (k1.trans k2 (fun k hk => .inl hk)).trans k3 (fun k hk => .inl hk)
  ·rw [run_callFunc_extern ZyR (by kernel_rfl) (by kernel_rfl) (by kernel_rfl) (e := Extern.SlicesOverlaps.overlaps #[30, 30] #[4]) (by kernel_rfl)]
   obtain ⟨all, e, h1, h2, _⟩ := hb
   obtain ⟨vall, ve, g1, g2, _⟩ := hv
   have hz : ∀ w, (Go.sizeOf 94).run Tryz.prog w = .ok 2 w := fun w => by rw [Sx.run_sizeOf hinf, hsz]
   dsimp only at h1 h2 g1 g2
   rw [Lib.run_overlaps_apart w 30 4 94 t27 2 hz ⟨vb, voff, none⟩ ⟨b, off + (i + 1) * 2, none⟩ 1 vcap lb cb hne ve e vall.size all.size (by simp only [World.shape?, g1]) (by simp only [World.shape?, h1]) (by omega)
    (by simp only [World.frozen?, g1]; simp) (by simp only [World.frozen?, g1]; simp)]
   rfl
  ·refine Rz (P := Tryz.prog) (m := n + 1 - i) (k := n - i) t27 hinf rfl (by simp only [Nat.min_def]; split <;> omega) ?_ s1
   rw [hsz]
   exact JO hb0 (i * 2) hDt hDl
  ·have h0 := Rz (P := Tryz.prog) (t := 30) (t' := 30) (ty := ty) (dl := n + 1 - i) (dc := dc) (src := .slice (some ⟨vb, voff, none⟩) 1 vcap) (m := 1) (k := 1) (w := W1) t27 hinf rfl (by simp only [Nat.min_def]; split <;> omega) (by
    rw [hsz]
    have := JO (P := Tryz.prog) (len := 1) (cap := vcap) (sz := 2) (k := 1) hv2 0 hVt (by omega)
    simpa using this) r1
   exact h0
 ·-- there is none
  have hroom' : cap < n + 1 := by omega
  have hk : i + (n + 1 - i) = n + 1 := by omega
  have hbn := Sx.nextcap_le hroom' hlim
  have hold : (Builtin.firstCells inf.size i (.slice (some ⟨b, off, none⟩) i cap)).run Tryz.prog w.drew = .ok (inner.take (i * 2)).toArray w.drew := by
   rw [hsz]
   have := JO (P := Tryz.prog) (w := w.drew) (len := i) (cap := cap) (sz := 2) (k := i) (ds := inner.take (i * 2)) (hb.heap rfl) 0 (by rw [List.drop_zero]) hTl2
   simpa using this
  have hap := Lib.run_append_grow_zeros w 30 3 30 94 inf _ .i64 .i64 t27 t3 hinf hzero (some ⟨b, off, none⟩) i cap (inner.take (i * 2)) hold (n + 1 - i) (by omega) (by omega) (by omega) (by omega) (by rw [hby]; omega) (by rw [hby, hk]; omega)
  obtain ⟨G, hGe⟩ : ∃ G, G = grownCap w (i + (n + 1 - i)) cap 94 := ⟨_, rfl⟩
  have hGn : n + 1 ≤ G := by rw [hGe, hk]; exact grownCap_ge w _ _ _
  rw [← hGe, hk] at hap
  obtain ⟨W1, hW1⟩ : ∃ W1, W1 = w.drew.alloc (.cells ((inner.take (i * 2)).toArray ++ Builtin.zeroCells (Sx.mkV Yc (Sx.zeroVals Yc)).cells (n + 1 - i) ++ Builtin.zeroCells (Sx.mkV Yc (Sx.zeroVals Yc)).cells (G - (n + 1))) 94) := ⟨_, rfl⟩
  rw [← hW1] at hap
  have hnb : Sx.BlockAt W1 ⟨w.heap.size, 0, none⟩ (G * 2) (inner.take (i * 2)) := by
   refine ⟨_, 94, by rw [hW1]; exact Sx.push_new (w := w.drew), ?_, fun j c hj => ?_⟩
   ·have hzs : (Sx.mkV Yc (Sx.zeroVals Yc)).cells.size = 2 := by kernel_rfl
    simp only [Array.size_append, Builtin.zeroCells, Array.size_map, Array.size_range, List.size_toArray, hTl2, hzs]
    omega
   ·have hjl : j < (inner.take (i * 2)).length := (List.getElem?_eq_some_iff.1 hj).1
    rw [Nat.zero_add, Array.append_assoc, Array.getElem?_append_left (by simpa using hjl)]
    simpa using hj
  have hold1 : ∀ k, k < w.heap.size → W1.heap[k]? = w.heap[k]? := fun k hk => by rw [hW1]; exact Sx.push_get (w := w.drew) hk
  have hsz1 : W1.heap.size = w.heap.size + 1 := by rw [hW1]; exact Array.size_push _
  have hvlt : vb < w.heap.size := by
   obtain ⟨all, e, h1, _⟩ := hv
   exact (Array.getElem?_eq_some_iff.1 h1).1
  have hvn : vb ≠ w.heap.size := by omega
  have hbn2 : b ≠ w.heap.size := by omega
  obtain ⟨W2, s1, s2, s3⟩ := Ng (P := Tryz.prog) hnb (ds := V) (by rw [hTl2, hvl]; omega) hv1 hvne
  have s2d : Sx.BlockAt W2.drew ⟨w.heap.size, 0, none⟩ (G * 2) (inner.take (i * 2) ++ V) := s2.heap rfl
  obtain ⟨W3, r1, r2, r3⟩ := Ng (P := Tryz.prog) s2d (ds := inner.drop (i * 2)) (by rw [List.length_append, hTl2, hvl, hDl]; omega) hD1 hDne
  rw [List.append_assoc] at r2
  have hv1' : Sx.BlockAt W1 ⟨vb, voff, none⟩ (vcap * 2) V := hv.heap (hold1 vb hvlt)
  have hb2 : Sx.BlockAt W2.drew ⟨b, off, none⟩ (cap * 2) inner := hb.heap (((show W2.drew.heap[b]? = W2.heap[b]? from rfl).trans (s3.same b hbn2)).trans (hold1 b hblt))
  have hw := Zun b off n cap i vb voff vcap w.heap.size G w W1 W2 W3 hi hlim hnc hroom' hGn (fun ty => ?_) (fun ty dc => ?_) (fun ty dc sc => ?_)
  ·refine hw.mono ?_
   rintro e w' ⟨rfl, rfl⟩
   refine ⟨⟨w.heap.size, 0, none⟩, G, rfl, rfl, hGn, .inr (Nat.le_refl _), ?_, r2, ?_⟩
   ·have h1 := r3.size
    have h2 := s3.size
    have h3 : W2.drew.heap.size = W2.heap.size := rfl
    show w.heap.size < w'.heap.size
    omega
   ·refine ⟨?_, fun k hk hnk => ?_, ?_⟩
    ·have h1 := r3.size
     have h2 := s3.size
     have h3 : W2.drew.heap.size = W2.heap.size := rfl
     omega
    ·have hkn : k ≠ w.heap.size := by omega
     exact (((r3.same k hkn).trans (show W2.drew.heap[k]? = W2.heap[k]? from rfl)).trans (s3.same k hkn)).trans (hold1 k hk)
    ·have f1 : Sx.Frz w W1 := by rw [hW1]; exact (show Sx.Frz w w.drew from ⟨fun _ _ => .inl rfl, rfl, rfl, Nat.le_refl _⟩).trans (Sx.frz_push w.drew _ rfl)
     exact ((f1.trans s3.frz).trans (show Sx.Frz W2 W2.drew from ⟨fun _ _ => .inl rfl, rfl, rfl, Nat.le_refl _⟩)).trans r3.frz
  ·have := hap
   rw [show ((n + 1 - i : Nat) : Int) = (n : Int) + 1 - (i : Int) by omega] at this
   exact this
  ·refine Rz (P := Tryz.prog) (m := 1) (k := 1) (cells := V) t27 hinf rfl (by simp only [Nat.min_def]; split <;> omega) ?_ ?_
   ·rw [hsz]
    have := JO (P := Tryz.prog) (len := 1) (cap := vcap) (sz := 2) (k := 1) hv1' 0 hVt (by omega)
    simpa using this
   ·rw [hTl2] at s1
    simpa using s1
  ·refine Rz (P := Tryz.prog) (m := n - i) (k := n - i) (cells := inner.drop (i * 2)) t27 hinf rfl (by simp only [Nat.min_def]; split <;> omega) ?_ ?_
   ·rw [hsz]
    exact JO hb2 (i * 2) hDt hDl
   ·rw [List.length_append, hTl2, hvl, show i * 2 + 2 = (i + 1) * 2 by omega] at r1
    simpa using r1
theorem LV : Yc.hasSl = false := by kernel_rfl
theorem EM : Yc.size = 2 := by kernel_rfl
theorem Zpp {p : Nat → Prop} {w : World} {xs : List Yc.den} {c : Value} {S : List Nat} (h : Sx.TR p w true (.sl true Yc) xs [c] S) :
  ∃ A cap, c = .slice A xs.length cap ∧ xs.length ≤ cap ∧ (A = none → xs = []) ∧ ∀ ad, A = some ad → ad.spot = none ∧ S = [ad.block] ∧ ∃ inner, Sx.BlockAt w ad (cap * 2) inner ∧ Sx.Reps (Sx.TR (fun _ => False) w false Yc) xs inner [] := by
 obtain ⟨A, cap, h1, h2, h3⟩ := h
 simp only [List.cons.injEq, and_true] at h1
 simp only [Bool.and_self, if_true] at h3
 refine ⟨A, cap, h1, h2, fun e => ?_, fun ad e => ?_⟩
 ·subst e; exact h3.1
 ·subst e
  obtain ⟨k1, inner, S', k2, k3, k4⟩ := h3
  obtain ⟨k5, k6⟩ := k4.noUq (Sx.Ty.flat_noUq LV)
  subst k5
  rw [EM] at k3
  exact ⟨k1, k2, inner, k3, k6.noSl LV⟩
theorem Zxb (xs : List Yc.den) (i : Nat) (x : Yc.den) (hi : i < xs.length) (hlim : xs.length + 1 ≤ 4294967296) :
  Sx.CallOk Tryz.prog 230 (Sx.AP.encL [.gv Yc, .ro Zl, .gv Yc] (xs, (i : Int), [x], ())) (.fv (.sl true Yc) (xs.take i ++ ([x] ++ xs.drop i))) [] := by
 intro p w cargs S B hc hn hS hp
 simp only [Sx.AP.encL, Sx.AP.enc, Sx.CVL, Sx.CV] at hc
 obtain ⟨c1, r1, S1, T1, B1, D1, rfl, rfl, rfl, ⟨hB1, _, h1⟩, c2, r2, S2, T2, B2, D2, rfl, rfl, rfl, ⟨rfl, hB2, cs2, h2, rfl⟩, c3, r3, S3, T3, B3, D3, rfl, rfl, rfl, ⟨hB3, _, h3⟩, rfl, rfl, rfl⟩ := hc
 obtain ⟨A, cap, rfl, hl1, hA0, hA⟩ := Zpp h1
 obtain ⟨A3, cap3, rfl, hl3, hA30, hA3⟩ := Zpp h3
 have hc2 : Sx.mkV Zl cs2 = .int .i64 (i : Int) := by
  obtain ⟨e, _⟩ := (h2 : cs2 = [.int .i64 (i : Int)] ∧ _)
  rw [e]; rfl
 rw [hc2]
 cases A with
 | none => rw [hA0 rfl] at hi; simp at hi
 | some ad =>
 cases A3 with
 | none => cases hA30 rfl
 | some vad =>
 obtain ⟨a1, rfl, inner, a2, a3⟩ := hA ad rfl
 obtain ⟨b1, rfl, V, b2, b3⟩ := hA3 vad rfl
 have hil : inner.length = xs.length * 2 := by rw [← EM]; exact Sx.Reps.len (fun _ _ _ hr => hr.len) a3
 have hvl : V.length = 2 := by
  have := Sx.Reps.len (n := Yc.size) (fun _ _ _ hr => hr.len) b3
  rw [EM] at this
  simpa using this
 have hne : vad.block ≠ ad.block := by
  have := hn
  simp only [List.nil_append, List.append_nil, List.cons_append, List.nodup_cons, List.mem_singleton] at this
  exact fun e => this.1 e.symm
 have hw := ZvQ w ad vad cap cap3 xs.length i inner V a1 b1 hne a2 b2 hil hvl (Sx.Reps.one (fun _ _ _ hr => hr.ones) a3) (Sx.Reps.one (fun _ _ _ hr => hr.ones) b3) hi hl1 hlim
 refine fun _ => hw.mono ?_
 rintro e w' ⟨ad', cap', rfl, q1, q2, q3, q4, q5, q6⟩
 have hmem : ∀ k, k ∈ [ad'.block] ++ ([] : List Nat) → k = ad'.block := fun k hk => by simpa using hk
 refine ⟨_, [ad'.block], [], rfl, by simp, fun k hk => ?_, ?_, ?_, ?_⟩
 ·rw [hmem k hk]
  refine ⟨q3.imp (fun e => ?_) id, q4⟩
  rw [e]; simp
 ·exact ⟨q6.1, fun k hk hnk => q6.2 k hk (fun hm => hnk (by simp only [List.mem_singleton] at hm; subst hm; simp)), q6.3⟩
 ·simp only [Sx.CV]
  have hlen : (xs.take i ++ ([x] ++ xs.drop i)).length = xs.length + 1 := by simp only [List.length_append, List.length_take, List.length_drop, List.length_singleton]; omega
  refine ⟨trivial, by kernel_rfl, [.slice (some ad') (xs.length + 1) cap'], ⟨some ad', cap', by rw [hlen], by rw [hlen]; exact q2, ?_⟩, rfl⟩
  simp only [Bool.and_self, if_true]
  refine ⟨q1, inner.take (i * 2) ++ (V ++ inner.drop (i * 2)), [], rfl, by rw [EM]; exact q5, ?_⟩
  have k1 := Sx.Reps.take (n := Yc.size) (fun _ _ _ hr => hr.len) i a3
  have k2 := Sx.Reps.drop (n := Yc.size) (fun _ _ _ hr => hr.len) i a3
  rw [EM] at k1 k2
  exact Sx.Reps.ofRo (Sx.Ty.flat_noUq LV) ((k1.append (b3.append k2)).noSl LV)
 ·simp only [List.append_nil, List.nil_append, hB1, hB2, hB3, Sx.Outs]
end
open Go Go.Sx Go.Proofs
noncomputable def Dj : Ys := []
theorem HP : Yu Dj := Zh
def Nh : KP := []
noncomputable def Dk (n : Nat) (x : AP.denL [.gv Yc, .ro Zl, .gv Yc]) := evX (false, false, []) Dj Nh [some ZE] Tryz.f230 (shF ZE) n (AP.encL [.gv Yc, .ro Zl, .gv Yc] x)
noncomputable def Ka (n : Nat) (a0 : Zq) (a1 : Int) (a2 : Zq) : Option Zq := Dk n (a0, a1, a2, ())
theorem HQ (n : Nat) (a0 : Zq) (a1 : Int) (a2 : Zq) : Ka n a0 a1 a2 =
  if (0 : Int) ≤ a1 then
 if a1 ≤ (↑(List.length a0) : Int) then
 bif decide ((↑(List.length a2) : Int) = (0 : Int)) then some a0
 else
 bif decide (a1 = (↑(List.length a0) : Int)) then
 if List.length a0 + List.length a2 ≤ lim then some (List.append a0 a2) else none
 else none
 else none
 else none := by kernel_rfl
noncomputable def Kb (_n : Nat) (x : AP.denL [.gv Yc, .ro Zl, .gv Yc]) : Option Zq :=
 if (0 : Int) ≤ x.2.1 then (if x.2.1 ≤ (List.length x.1 : Int) then (if List.length x.2.2.1 = 1 then (if List.length x.1 + 1 ≤ lim then some (List.take (Int.toNat x.2.1) x.1 ++ (x.2.2.1 ++ List.drop (Int.toNat x.2.1) x.1)) else none) else none) else none) else none
noncomputable def Dl : Con := apS [.gv Yc, .ro Zl, .gv Yc] true (shF ZE) (Kb big)
theorem HR : ZH Tryz.prog 230 Dl := YK ⟨Tryz.f230, by kernel_rfl, rfl, by decide⟩ fun xs v h => by
 obtain ⟨a0, a1, a2, u⟩ := xs
 cases u
 unfold Kb at h
 dsimp only at h
 split at h
 ·rename_i h0
  split at h
  ·rename_i h1
   split at h
   ·rename_i h2
    split at h
    ·rename_i h3
     simp only [Option.some.injEq] at h
     subst h
     obtain ⟨x, rfl⟩ := List.length_eq_one_iff.1 h2
     by_cases he : a1 = (List.length a0 : Int)
     ·have hm : Ka big a0 a1 [x] = some (List.append a0 [x]) := by
       rw [HQ, if_pos h0, if_pos h1, decide_eq_false (show ¬ ((List.length [x] : Nat) : Int) = 0 by simp), cond_false, decide_eq_true he, cond_true, if_pos (show List.length a0 + List.length [x] ≤ lim from h3)]
      unfold Ka Dk at hm
      have hk := Zw HP (f := Tryz.f230) (n := 230) (by kernel_rfl) rfl (by kernel_rfl) (by kernel_rfl) big hm
      have hr : List.take (Int.toNat a1) a0 ++ ([x] ++ List.drop (Int.toNat a1) a0) = List.append a0 [x] := by
       rw [he, Int.toNat_natCast, List.take_length, List.drop_length, List.append_nil]; rfl
      rw [hr]
      exact hk
     ·obtain ⟨i, rfl⟩ : ∃ i : Nat, a1 = i := ⟨Int.toNat a1, (Int.toNat_of_nonneg h0).symm⟩
      rw [Int.toNat_natCast]
      refine Zxb a0 i x ?_ h3
      have k1 : (i : Int) ≤ ((List.length (α := Ty.den Yc) a0 : Nat) : Int) := h1
      have k2 : ¬ (i : Int) = ((List.length (α := Ty.den Yc) a0 : Nat) : Int) := he
      show i < List.length (α := Ty.den Yc) a0
      omega
    ·cases h
   ·cases h
  ·cases h
 ·cases h
noncomputable def VD (n : Nat) (a0 : Zq) (a1 : Int) (a2 : Zq) : Option Zq := Kb n (a0, a1, a2, ())
theorem HS (n : Nat) (a0 : Zq) (a1 : Int) (a2 : Zq) : VD n a0 a1 a2 =
  if (0 : Int) ≤ a1 then (if a1 ≤ (List.length a0 : Int) then (if List.length a2 = 1 then (if List.length a0 + 1 ≤ lim then some (List.take (Int.toNat a1) a0 ++ (a2 ++ List.drop (Int.toNat a1) a0)) else none) else none) else none) else none := rfl
noncomputable def AK : Ys := [(128, Xm), (190, FJ), (230, Dl)]
theorem ZbK : Yu AK := cons_cons Y3 (cons_cons CP (cons_cons HR (Zh)))
abbrev QG : Vl := (.ro Zm :: .ro Zu :: .ro Zb :: dp 4 (.is (.own 0 0) :: .drop :: .ro Zb :: dp 35 []), [.arr Zn])
def LW : KP := [(7, QG)]
noncomputable def Pc (n : Nat) (x : YH [Zm, Zu, Zl]) := evX (false, false, []) AK LW [some ZE] Tryz.f193 (shF ZE) n (YR [Zm, Zu, Zl] x)
noncomputable def EN : Con := roS [Zm, Zu, Zl] true (shF ZE) (Pc big)
theorem EO : ZH Tryz.prog 193 EN := ZC ⟨Tryz.f193, by kernel_rfl, rfl, by decide⟩ fun _ _ h => Zw ZbK (f := Tryz.f193) (by kernel_rfl) rfl (by kernel_rfl) (by kernel_rfl) big h
noncomputable def W0 (n : Nat) (a0 : Zq) (a1 : ByteArray) (a2 : Int) : Option Zq := Pc n (a0, a1, a2, ())
noncomputable def ZeB (n : Nat) (x : KD QG.1) (y : BD QG.2) := Z9 (env (false, false, []) AK) LW (body Tryz.f193) (Vm (false, false, []) AK [some ZE] Tryz.f193 (shF ZE) [.val Zm (ZR Zm), .val Zu (ZR Zu), .val Zl (ZR Zl)]) n 7 QG x y
noncomputable def QH (n : Nat) (s0 : Zq) (s1 : ByteArray) (s2 s9 : Int) (b0 : (List Ze)) : Option Zq := ZeB n (s0, s1, s2, s9, ()) (b0, ())
theorem ZbL (n : Nat) (a0 : Zq) (a1 : ByteArray) (a2 : Int) : W0 n a0 a1 a2 = (Y4 big a0).bind fun y => (BS big a0 a1).bind fun y_1 => bif decide (0 ≤ y_1) then if 0 ≤ y_1 then if y_1 < (↑(List.length y) : Int) then (nth y (Int.toNat y_1)).bind fun y_2 => (DH y (Int.toNat y_1) (y_2.1, a2, ())).bind fun y => some y else none else none else QH n a0 a1 a2 0 y := by kernel_rfl
theorem BT (n : Nat) (s0 : Zq) (s1 : ByteArray) (s2 s9 : Int) (b0 : (List Ze)) : QH (n + 1) s0 s1 s2 s9 b0 = bif decide (s9 < (↑(List.length s0) : Int)) then if 0 ≤ s9 then (nth s0 s9.toNat).bind fun y => bif Op.bytesLess (ByteArray.toList y.1) s1.toList then QH n s0 s1 s2 (IntKind.i64.wrap (s9 + 1)) b0 else (VD big b0 s9 [(s1, s2, ())]).bind fun y => some y else none else (VD big b0 s9 [(s1, s2, ())]).bind fun y => some y := by kernel_rfl
noncomputable def Zpq : Ys := [(128, Xm), (191, HO), (192, Zmc), (190, FJ), (193, EN)]
theorem Zoj : Yu Zpq := cons_cons Y3 (cons_cons GK (cons_cons Zmd (cons_cons CP (cons_cons EO (Zh)))))
def ZsI : KP := []
noncomputable def Zpr (n : Nat) (x : YH [Zm, Wn]) := evX (false, false, [3, 21, 23, 27, 33, 46]) Zpq ZsI [some ZE, none] Tryz.f139 (shT [(true, ZE), (false, Zl)]) n (YR [Zm, Wn] x)
noncomputable def Zi1 : Con := roS [Zm, Wn] true (shT [(true, ZE), (false, Zl)]) (Zpr big)
theorem ZbM : ZH Tryz.prog 139 Zi1 := ZC ⟨Tryz.f139, by kernel_rfl, rfl, by decide⟩ fun _ _ h => Zw Zoj (f := Tryz.f139) (by kernel_rfl) rfl (by kernel_rfl) (by kernel_rfl) big h
noncomputable def RA (n : Nat) (a0 : Zq) (a1 : Xf) : Option (Zq × Int × Unit) := Zpr n (a0, a1, ())
theorem Zok (n : Nat) (a0 : Zq) (a1 : Xf) : RA n a0 a1 = (Y4 big a0).bind fun y => (WZ big a0).bind fun y_1 => bif !y_1 then some (y, 2, ()) else (ZbH big a1).bind fun y_2 => bif !y_2 then some (y, 2, ()) else bif !decide (a1.1 = 1) then (BS big a0 a1.2.1).bind fun y_3 => bif decide (y_3 < 0) then some (y, 1, ()) else bif decide (a1.1 = 3) then if 0 ≤ y_3 then (nth a0 (Int.toNat y_3)).bind fun y_4 => (W0 big a0 a1.2.1 (IntKind.i64.wrap (IntKind.i64.wrap (0 - a1.2.2.1) + y_4.2.1))).bind fun y_5 => (WZ big y_5).bind fun y_6 => bif !y_6 then some (y, 2, ()) else some (y_5, 0, ()) else none else if 0 ≤ y_3 then (nth a0 (Int.toNat y_3)).bind fun y_4 => (W0 big a0 a1.2.1 (IntKind.i64.wrap (a1.2.2.1 + y_4.2.1))).bind fun y_5 => (WZ big y_5).bind fun y_6 => bif !y_6 then some (y, 2, ()) else some (y_5, 0, ()) else none else (W0 big a0 a1.2.1 a1.2.2.1).bind fun y_3 => (WZ big y_3).bind fun y_4 => bif !y_4 then some (y, 2, ()) else some (y_3, 0, ()) := by kernel_rfl
noncomputable def CQ : Ys := [(128, Xm), (139, Zi1)]
theorem ZeC : Yu CQ := cons_cons Y3 (cons_cons ZbM (Zh))
abbrev KX : Vl := (dp 6 (.own Zn :: .own Zb :: dp 7 (.ro Yj :: .ro Zb :: .ro Zb :: dp 17 [])), [])
def Pd : KP := [(4, KX)]
noncomputable def ZbN (n : Nat) (x : YH [Zm, Yj]) := evX (false, false, [9, 999997]) CQ Pd [some ZE, some Y9] Tryz.f80 (shT [(true, ZE), (true, Y9)]) n (YR [Zm, Yj] x)
noncomputable def ZbO : Con := roS [Zm, Yj] true (shT [(true, ZE), (true, Y9)]) (ZbN big)
theorem ZeD : ZH Tryz.prog 80 ZbO := ZC ⟨Tryz.f80, by kernel_rfl, rfl, by decide⟩ fun _ _ h => Zw ZeC (f := Tryz.f80) (by kernel_rfl) rfl (by kernel_rfl) (by kernel_rfl) big h
noncomputable def HT (n : Nat) (a0 : Zq) (a1 : YU) : Option (Zq × Yt × Unit) := ZbN n (a0, a1, ())
noncomputable def Zi2 (n : Nat) (x : KD KX.1) (y : BD KX.2) := Z9 (env (false, false, [9, 999997]) CQ) Pd (body Tryz.f80) (Vm (false, false, [9, 999997]) CQ [some ZE, some Y9] Tryz.f80 (shT [(true, ZE), (true, Y9)]) [.val Zm (ZR Zm), .val Yj (ZR Yj)]) n 4 KX x y
noncomputable def KY (n : Nat) (s6 : (List Ze)) (s7 : (List Int)) (s15 : YU) (s16 s17 : Int) : Option (Zq × Yt × Unit) := Zi2 n (s6, s7, s15, s16, s17, ()) ()
theorem ZeE (n : Nat) (a0 : Zq) (a1 : YU) : HT n a0 a1 = (Y4 big a0).bind fun y => KY n y [] a1 (↑(List.length a1) : Int) 0 := by kernel_rfl
theorem Dm (n : Nat) (s6 : (List Ze)) (s7 : (List Int)) (s15 : YU) (s16 s17 : Int) : KY (n + 1) s6 s7 s15 s16 s17 = bif decide (s17 < s16) then if 0 ≤ s17 then (nth s15 s17.toNat).bind fun y => (RA big s6 y).bind fun y => if s7.length + (1 : Nat) ≤ ZtB then KY n y.1 (s7.append [y.2.1]) s15 s16 (IntKind.i64.wrap (s17 + 1)) else none else none else some (s6, s7, ()) := by kernel_rfl
noncomputable def FK : Ys := [(64, ZbD)]
theorem Zi3 : Yu FK := cons_cons BR (Zh)
abbrev AL : Vl := (.ro Zf :: dp 4 (.own ZP :: dp 3 (.ro Yx :: .ro Zb :: .ro Zb :: dp 17 [])), [])
def ZbP : KP := [(3, AL)]
noncomputable def Zgy (n : Nat) (x : YH [Zf, Yx]) := evX (false, false, [999997]) FK ZbP [some Jt] Tryz.f78 (shF Jt) n (YR [Zf, Yx] x)
noncomputable def Ni : Con := roS [Zf, Yx] true (shF Jt) (Zgy big)
theorem LX : ZH Tryz.prog 78 Ni := ZC ⟨Tryz.f78, by kernel_rfl, rfl, by decide⟩ fun _ _ h => Zw Zi3 (f := Tryz.f78) (by kernel_rfl) rfl (by kernel_rfl) (by kernel_rfl) big h
noncomputable def FL (n : Nat) (a0 : Zi) (a1 : Yt) : Option YU := Zgy n (a0, a1, ())
noncomputable def Zmg (n : Nat) (x : KD AL.1) (y : BD AL.2) := Z9 (env (false, false, [999997]) FK) ZbP (body Tryz.f78) (Vm (false, false, [999997]) FK [some Jt] Tryz.f78 (shF Jt) [.val Zf (ZR Zf), .val Yx (ZR Yx)]) n 3 AL x y
noncomputable def QZ (n : Nat) (s0 : Zi) (s5 : (List ZG)) (s9 : Yt) (s10 s11 : Int) : Option YU := Zmg n (s0, s5, s9, s10, s11, ()) ()
theorem Zi4 (n : Nat) (a0 : Zi) (a1 : Yt) : FL n a0 a1 = QZ n a0 [] a1 (↑(List.length a1) : Int) 0 := by kernel_rfl
theorem EP (n : Nat) (s0 : Zi) (s5 : (List ZG)) (s9 : Yt) (s10 s11 : Int) : QZ (n + 1) s0 s5 s9 s10 s11 = bif decide (s11 < s10) then if 0 ≤ s11 then (nth s9 s11.toNat).bind fun y => (GH big y 0 (IntKind.i64.wrap ((↑(List.length s0) : Int) - 1))).bind fun y_1 => bif y_1 then if 0 ≤ y then (nth s0 (Int.toNat y)).bind fun y => if s5.length + List.length y.2.2.1 ≤ ZtB then QZ n s0 (s5.append y.2.2.1) s9 s10 (IntKind.i64.wrap (s11 + 1)) else none else none else QZ n s0 s5 s9 s10 (IntKind.i64.wrap (s11 + 1)) else none else some s5 := by kernel_rfl
noncomputable def CR : Ys := [(64, ZbD)]
theorem ZeF : Yu CR := cons_cons BR (Zh)
abbrev KZ : Vl := (.ro Zf :: .ro Zb :: dp 4 (.own Zb :: dp 29 []), [])
def Pe : KP := [(4, KZ)]
noncomputable def ZbQ (n : Nat) (x : YH [Zf, Zl]) := evX (false, false, []) CR Pe [some Y9, none] Tryz.f140 (shT [(true, Y9), (false, ZD)]) n (YR [Zf, Zl] x)
noncomputable def HU : Con := roS [Zf, Zl] true (shT [(true, Y9), (false, ZD)]) (ZbQ big)
theorem GL : ZH Tryz.prog 140 HU := ZC ⟨Tryz.f140, by kernel_rfl, rfl, by decide⟩ fun _ _ h => Zw ZeF (f := Tryz.f140) (by kernel_rfl) rfl (by kernel_rfl) (by kernel_rfl) big h
noncomputable def CS (n : Nat) (a0 : Zi) (a1 : Int) : Option (Yt × Bool × Unit) := ZbQ n (a0, a1, ())
noncomputable def Zi5 (n : Nat) (x : KD KZ.1) (y : BD KZ.2) := Z9 (env (false, false, []) CR) Pe (body Tryz.f140) (Vm (false, false, []) CR [some Y9, none] Tryz.f140 (shT [(true, Y9), (false, ZD)]) [.val Zf (ZR Zf), .val Zl (ZR Zl)]) n 4 KZ x y
noncomputable def K2 (n : Nat) (s0 : Zi) (s1 : Int) (s6 : (List Int)) : Option (Yt × Bool × Unit) := Zi5 n (s0, s1, s6, ()) ()
theorem ZeG (n : Nat) (a0 : Zi) (a1 : Int) : CS n a0 a1 = (GH big a1 0 (IntKind.i64.wrap ((↑(List.length a0) : Int) - 1))).bind fun y => bif !y then some ([], false, ()) else K2 n a0 a1 [a1] := by kernel_rfl
theorem Dn (n : Nat) (s0 : Zi) (s1 : Int) (s6 : (List Int)) : K2 (n + 1) s0 s1 s6 = bif decide (0 < s1) then if 0 ≤ s1 then (nth s0 s1.toNat).bind fun y => (GH big y.1 0 (IntKind.i64.wrap (s1 - 1))).bind fun y => bif !y then some ([], false, ()) else if 0 ≤ s1 then (nth s0 s1.toNat).bind fun y => if s6.length + [y.1].length ≤ lim then K2 n s0 y.1 (s6.append [y.1]) else none else none else none else some (s6, true, ()) := by kernel_rfl
noncomputable def K3 : Ys := []
theorem P1 : Yu K3 := Zh
abbrev UM : Vl := (.ro Yx :: .ro Zb :: dp 5 (.ro Zb :: .ro Zb :: dp 10 []), [])
def GM : KP := [(2, UM)]
noncomputable def LY (n : Nat) (x : YH [Yx, Zl]) := evX (false, false, []) K3 GM [none] Tryz.f137 (shV Zl) n (YR [Yx, Zl] x)
noncomputable def CT : Con := roS [Yx, Zl] true (shV Zl) (LY big)
theorem Do : ZH Tryz.prog 137 CT := ZC ⟨Tryz.f137, by kernel_rfl, rfl, by decide⟩ fun _ _ h => Zw P1 (f := Tryz.f137) (by kernel_rfl) rfl (by kernel_rfl) (by kernel_rfl) big h
noncomputable def K4 (n : Nat) (a0 : Yt) (a1 : Int) : Option Int := LY n (a0, a1, ())
noncomputable def ZbR (n : Nat) (x : KD UM.1) (y : BD UM.2) := Z9 (env (false, false, []) K3) GM (body Tryz.f137) (Vm (false, false, []) K3 [none] Tryz.f137 (shV Zl) [.val Yx (ZR Yx), .val Zl (ZR Zl)]) n 2 UM x y
noncomputable def UN (n : Nat) (s0 : Yt) (s1 s7 s8 : Int) : Option Int := ZbR n (s0, s1, s7, s8, ()) ()
theorem P2 (n : Nat) (a0 : Yt) (a1 : Int) : K4 n a0 a1 = UN n a0 a1 (↑(List.length a0) : Int) 0 := by kernel_rfl
theorem AM (n : Nat) (s0 : Yt) (s1 s7 s8 : Int) : UN (n + 1) s0 s1 s7 s8 = bif decide (s8 < s7) then if 0 ≤ s8 then (nth s0 s8.toNat).bind fun y => bif decide (s1 = y) then some s8 else UN n s0 s1 s7 (IntKind.i64.wrap (s8 + 1)) else none else some (-1) := by kernel_rfl
noncomputable def Dp : Ys := [(137, CT)]
theorem HV : Yu Dp := cons_cons Do (Zh)
def Nj : KP := []
noncomputable def Dq (n : Nat) (x : YH [Yx, Zl]) := evX (false, false, []) Dp Nj [none] Tryz.f141 (shV ZD) n (YR [Yx, Zl] x)
noncomputable def Dr : Con := roS [Yx, Zl] true (shV ZD) (Dq big)
theorem HW : ZH Tryz.prog 141 Dr := ZC ⟨Tryz.f141, by kernel_rfl, rfl, by decide⟩ fun _ _ h => Zw HV (f := Tryz.f141) (by kernel_rfl) rfl (by kernel_rfl) (by kernel_rfl) big h
noncomputable def Ds (n : Nat) (a0 : Yt) (a1 : Int) : Option Bool := Dq n (a0, a1, ())
theorem HX (n : Nat) (a0 : Yt) (a1 : Int) : Ds n a0 a1 = (K4 big a0 a1).bind fun y => some (decide (0 ≤ y)) := by kernel_rfl
noncomputable def ZbS : Ys := [(140, HU), (141, Dr)]
theorem ZeH : Yu ZbS := cons_cons GL (cons_cons HW (Zh))
def Zmh : KP := []
noncomputable def ZbT (n : Nat) (x : YH [Zf, Zl, Zl]) := evX (false, false, []) ZbS Zmh [none] Tryz.f79 (shV ZD) n (YR [Zf, Zl, Zl] x)
noncomputable def CU : Con := roS [Zf, Zl, Zl] true (shV ZD) (ZbT big)
theorem Bh : ZH Tryz.prog 79 CU := ZC ⟨Tryz.f79, by kernel_rfl, rfl, by decide⟩ fun _ _ h => Zw ZeH (f := Tryz.f79) (by kernel_rfl) rfl (by kernel_rfl) (by kernel_rfl) big h
noncomputable def JP (n : Nat) (a0 : Zi) (a1 a2 : Int) : Option Bool := ZbT n (a0, a1, a2, ())
theorem ZeI (n : Nat) (a0 : Zi) (a1 a2 : Int) : JP n a0 a1 a2 = (CS big a0 a1).bind fun y => bif y.2.1 then (Ds big y.1 a2).bind fun y => some y else some false := by kernel_rfl
noncomputable def UO : Ys := []
theorem LZ : Yu UO := Zh
abbrev Ve : Vl := (.is (.own 0 0) :: .drop :: .ro Zb :: .ro Zb :: dp 24 [], [.arr Zl])
def Dt : KP := [(1, Ve)]
noncomputable def EQ (n : Nat) (x : AP.denL [.io Zl]) := evX (false, false, []) UO Dt [] Tryz.f189 (shO shN [.io Zl]) n (AP.encL [.io Zl] x)
noncomputable def ER : Con := apS [.io Zl] true (shO shN [.io Zl]) (EQ big)
theorem L0 : ZH Tryz.prog 189 ER := YK ⟨Tryz.f189, by kernel_rfl, rfl, by decide⟩ fun _ _ h => Zw LZ (f := Tryz.f189) (by kernel_rfl) rfl (by kernel_rfl) (by kernel_rfl) big h
noncomputable def JQ (n : Nat) (a0 : Yt) : Option (Unit × Yt × Unit) := EQ n (a0, ())
noncomputable def Nk (n : Nat) (x : KD Ve.1) (y : BD Ve.2) := Z9 (env (false, false, []) UO) Dt (body Tryz.f189) (Vm (false, false, []) UO [] Tryz.f189 (shO shN [.io Zl]) [AP.enc (.io Zl) []]) n 1 Ve x y
noncomputable def Vf (n : Nat) (s2 s3 : Int) (b0 : (List Int)) : Option (Unit × Yt × Unit) := Nk n (s2, s3, ()) (b0, ())
theorem L3 (n : Nat) (a0 : Yt) : JQ n a0 = Vf n 0 (IntKind.i64.wrap ((↑(List.length a0) : Int) - 1)) a0 := by kernel_rfl
theorem Kh (n : Nat) (s2 s3 : Int) (b0 : (List Int)) : Vf (n + 1) s2 s3 b0 = bif decide (s2 < s3) then if 0 ≤ s3 then if s3 < (↑b0.length : Int) then (nth b0 s3.toNat).bind fun y => if 0 ≤ s2 then if s2 < (↑b0.length : Int) then (nth b0 s2.toNat).bind fun y_1 => if 0 ≤ s2 then if s2 < (↑b0.length : Int) then (nth b0 s2.toNat).bind fun y_2 => (DH b0 s2.toNat y).bind fun y => if 0 ≤ s3 then if s3 < (↑y.length : Int) then (nth y s3.toNat).bind fun y_3 => (DH y s3.toNat y_1).bind fun y => Vf n (IntKind.i64.wrap (s2 + 1)) (IntKind.i64.wrap (s3 - 1)) y else none else none else none else none else none else none else none else none else some ((), b0, ()) := by kernel_rfl
noncomputable def Zmi : Ys := [(140, HU), (189, ER)]
theorem Zmj : Yu Zmi := cons_cons GL (cons_cons L0 (Zh))
def ZqT : KP := []
noncomputable def Zmk (n : Nat) (x : YH [Zf, Zl]) := evX (false, false, []) Zmi ZqT [some Y9] Tryz.f136 (shF Y9) n (YR [Zf, Zl] x)
noncomputable def Zml : Con := roS [Zf, Zl] true (shF Y9) (Zmk big)
theorem Zmm : ZH Tryz.prog 136 Zml := ZC ⟨Tryz.f136, by kernel_rfl, rfl, by decide⟩ fun _ _ h => Zw Zmj (f := Tryz.f136) (by kernel_rfl) rfl (by kernel_rfl) (by kernel_rfl) big h
noncomputable def ZbU (n : Nat) (a0 : Zi) (a1 : Int) : Option Yt := Zmk n (a0, a1, ())
theorem Zmn (n : Nat) (a0 : Zi) (a1 : Int) : ZbU n a0 a1 = (CS big a0 a1).bind fun y => bif !y.2.1 then some [] else (JQ big y.1).bind fun y => if 1 ≤ (↑(List.length y.2.1) : Int) then some (List.take (List.length y.2.1 - Int.toNat 1) (List.drop (Int.toNat 1) y.2.1)) else none := by kernel_rfl
noncomputable def Pf : Ys := [(79, CU), (136, Zml), (137, CT)]
theorem ZbV : Yu Pf := cons_cons Bh (cons_cons Zmm (cons_cons Do (Zh)))
def Zi6 : KP := []
noncomputable def Pg (n : Nat) (x : YH [Zf, Zl, Zl]) := evX (false, false, []) Pf Zi6 [some Y9] Tryz.f75 (shF Y9) n (YR [Zf, Zl, Zl] x)
noncomputable def ES : Con := roS [Zf, Zl, Zl] true (shF Y9) (Pg big)
theorem ET : ZH Tryz.prog 75 ES := ZC ⟨Tryz.f75, by kernel_rfl, rfl, by decide⟩ fun _ _ h => Zw ZbV (f := Tryz.f75) (by kernel_rfl) rfl (by kernel_rfl) (by kernel_rfl) big h
noncomputable def AN (n : Nat) (a0 : Zi) (a1 a2 : Int) : Option Yt := Pg n (a0, a1, a2, ())
theorem ZbW (n : Nat) (a0 : Zi) (a1 a2 : Int) : AN n a0 a1 a2 = (JP big a0 a1 a2).bind fun y => bif !y then some [] else (ZbU big a0 a1).bind fun y => (K4 big y a2).bind fun y_1 => if 0 ≤ IntKind.i64.wrap (y_1 + 1) then if IntKind.i64.wrap (y_1 + 1) ≤ (↑(List.length y) : Int) then some (List.take (List.length y - (IntKind.i64.wrap (y_1 + 1)).toNat) (List.drop (IntKind.i64.wrap (y_1 + 1)).toNat y)) else none else none := by kernel_rfl
noncomputable def Ph : Ys := []
theorem ZbX : Yu Ph := Zh
def Zi7 : KP := []
noncomputable def Zmo (n : Nat) (x : AP.denL [.ro Yc, .mr YL]) := evX (false, false, [1, 2, 4, 6]) Ph Zi7 [none] Tryz.f210 (shO (shV ZD) [.mr YL]) n (AP.encL [.ro Yc, .mr YL] x)
noncomputable def EU : Con := apS [.ro Yc, .mr YL] true (shO (shV ZD) [.mr YL]) (Zmo big)
theorem EV : ZH Tryz.prog 210 EU := YK ⟨Tryz.f210, by kernel_rfl, rfl, by decide⟩ fun _ _ h => Zw ZbX (f := Tryz.f210) (by kernel_rfl) rfl (by kernel_rfl) (by kernel_rfl) big h
noncomputable def YN : Ys := [(210, EU)]
theorem Ud : Yu YN := cons_cons EV (Zh)
abbrev YE : Vl := (.ro Zm :: .is (.fn 210 [.ptr 0 0]) :: dp 5 (.ro Zb :: .ro Zb :: dp 10 []), [.vars [.ro Zu, .ro ZD, .ro Zb]])
def X0 : KP := [(2, YE)]
noncomputable def Wd (n : Nat) (x : AP.denL [.ro Zm, .fn 210 [YL]]) := evX (false, false, []) YN X0 [none] Tryz.f227 (shO (shV Zl) [.fn 210 [YL]]) n (AP.encL [.ro Zm, .fn 210 [YL]] x)
noncomputable def We : Con := apS [.ro Zm, .fn 210 [YL]] true (shO (shV Zl) [.fn 210 [YL]]) (Wd big)
theorem Ue : ZH Tryz.prog 227 We := YK ⟨Tryz.f227, by kernel_rfl, rfl, by decide⟩ fun _ _ h => Zw Ud (f := Tryz.f227) (by kernel_rfl) rfl (by kernel_rfl) (by kernel_rfl) big h
noncomputable def Xi (n : Nat) (a0 : Zq) (a1 : (Yg × Unit)) : Option (Int × (Yg × Unit) × Unit) := Wd n (a0, a1, ())
noncomputable def UP (n : Nat) (x : KD YE.1) (y : BD YE.2) := Z9 (env (false, false, []) YN) X0 (body Tryz.f227) (Vm (false, false, []) YN [none] Tryz.f227 (shO (shV Zl) [.fn 210 [YL]]) [AP.enc (.ro Zm) (ZR Zm), AP.enc (.fn 210 [YL]) (ZR YL, ())]) n 2 YE x y
noncomputable def YF (n : Nat) (s0 : Zq) (s7 s8 : Int) (b0_0 : ByteArray) (b0_1 : Bool) (b0_2 : Int) : Option (Int × (Yg × Unit) × Unit) := UP n (s0, s7, s8, ()) ((b0_0, b0_1, b0_2, ()), ())
theorem Uf (n : Nat) (a0 : Zq) (a1 : (Yg × Unit)) : Xi n a0 a1 = YF n a0 (↑(List.length a0) : Int) 0 a1.1.1 a1.1.2.1 a1.1.2.2.1 := by kernel_rfl
theorem XB (n : Nat) (s0 : Zq) (s7 s8 : Int) (b0_0 : ByteArray) (b0_1 : Bool) (b0_2 : Int) : YF (n + 1) s0 s7 s8 b0_0 b0_1 b0_2 = bif decide (s8 < s7) then if 0 ≤ s8 then (nth s0 s8.toNat).bind fun y => bif decide (y.1 = b0_0) then some (s8, ((b0_0, b0_1, b0_2, ()), ()), ()) else YF n s0 s7 (IntKind.i64.wrap (s8 + 1)) b0_0 b0_1 b0_2 else none else some ((-1), ((b0_0, b0_1, b0_2, ()), ()), ()) := by kernel_rfl
noncomputable def YI : Ys := [(227, We), (210, EU)]
theorem VI : Yu YI := cons_cons Ue (cons_cons EV (Zh))
abbrev Yz : Vl := (.is (.own 0 0) :: .is (.fn 210 [.ptr 1 0]) :: dp 3 (.ro Zb :: .ro Zb :: dp 35 []), [.arr Zn, .vars [.ro Zu, .ro ZD, .ro Zb]])
def XU : KP := [(5, Yz)]
noncomputable def X3 (n : Nat) (x : AP.denL [.gv Yc, .fn 210 [YL]]) := evX (false, false, [7, 999998]) YI XU [some ZE] Tryz.f209 (shO (shF ZE) [.fn 210 [YL]]) n (AP.encL [.gv Yc, .fn 210 [YL]] x)
noncomputable def X4 : Con := apS [.gv Yc, .fn 210 [YL]] true (shO (shF ZE) [.fn 210 [YL]]) (X3 big)
theorem VJ : ZH Tryz.prog 209 X4 := YK ⟨Tryz.f209, by kernel_rfl, rfl, by decide⟩ fun _ _ h => Zw VI (f := Tryz.f209) (by kernel_rfl) rfl (by kernel_rfl) (by kernel_rfl) big h
noncomputable def Xe (n : Nat) (a0 : Zq) (a1 : (Yg × Unit)) : Option (Zq × (Yg × Unit) × Unit) := X3 n (a0, a1, ())
noncomputable def Ug (n : Nat) (x : KD Yz.1) (y : BD Yz.2) := Z9 (env (false, false, [7, 999998]) YI) XU (body Tryz.f209) (Vm (false, false, [7, 999998]) YI [some ZE] Tryz.f209 (shO (shF ZE) [.fn 210 [YL]]) [AP.enc (.gv Yc) [], AP.enc (.fn 210 [YL]) (ZR YL, ())]) n 5 Yz x y
noncomputable def Yk (n : Nat) (s5 s6 : Int) (b0 : (List Ze)) (b1_0 : ByteArray) (b1_1 : Bool) (b1_2 : Int) : Option (Zq × (Yg × Unit) × Unit) := Ug n (s5, s6, ()) (b0, (b1_0, b1_1, b1_2, ()), ())
theorem VM (n : Nat) (a0 : Zq) (a1 : (Yg × Unit)) : Xe n a0 a1 = (Xi big a0 a1).bind fun y => bif decide (y.1 = (-1)) then some (a0, y.2) else Yk n y.1 (IntKind.i64.wrap (y.1 + 1)) a0 y.2.1.1.1 y.2.1.1.2.1 y.2.1.1.2.2.1 := by kernel_rfl
theorem Xu (n : Nat) (s5 s6 : Int) (b0 : (List Ze)) (b1_0 : ByteArray) (b1_1 : Bool) (b1_2 : Int) : Yk (n + 1) s5 s6 b0 b1_0 b1_1 b1_2 = bif decide (s6 < (↑b0.length : Int)) then if 0 ≤ s6 then if s6 < (↑b0.length : Int) then (nth b0 s6.toNat).bind fun y => bif !decide (y.1 = b1_0) then if 0 ≤ s5 then if s5 < (↑b0.length : Int) then (nth b0 s5.toNat).bind fun y_1 => (DH b0 s5.toNat y).bind fun y => Yk n (IntKind.i64.wrap (s5 + 1)) (IntKind.i64.wrap (s6 + 1)) y b1_0 b1_1 b1_2 else none else none else Yk n s5 (IntKind.i64.wrap (s6 + 1)) b0 b1_0 b1_1 b1_2 else none else none else if 0 ≤ s5 then if s5 ≤ (↑b0.length : Int) then if s5.toNat + (b0.length - s5.toNat) ≤ b0.length then if 0 ≤ s5 then if s5 ≤ (↑((List.take s5.toNat b0).append ((List.replicate (b0.length - s5.toNat) (ZR Zn)).append (List.drop (s5.toNat + (b0.length - s5.toNat)) b0))).length : Int) then some (List.take (s5.toNat - (0 : Nat)) (List.drop (0 : Nat) ((List.take s5.toNat b0).append ((List.replicate (b0.length - s5.toNat) (ZR Zn)).append (List.drop (s5.toNat + (b0.length - s5.toNat)) b0)))), ((b1_0, b1_1, b1_2, ()), ()), ()) else none else none else none else none else none := by kernel_rfl
noncomputable def Zgz : Ys := [(128, Xm), (191, HO), (207, LQ), (208, LR), (193, EN), (209, X4)]
theorem Zi8 : Yu Zgz := cons_cons Y3 (cons_cons GK (cons_cons EI (cons_cons EK (cons_cons EO (cons_cons VJ (Zh))))))
def Zol : KP := []
noncomputable def ZgA (n : Nat) (x : YH [Zm, YL]) := evX (false, false, [3, 12, 18, 24, 27, 29]) Zgz Zol [some ZE] Tryz.f170 (shF ZE) n (YR [Zm, YL] x)
noncomputable def ZgB : Con := roS [Zm, YL] true (shF ZE) (ZgA big)
theorem Zi9 : ZH Tryz.prog 170 ZgB := ZC ⟨Tryz.f170, by kernel_rfl, rfl, by decide⟩ fun _ _ h => Zw Zi8 (f := Tryz.f170) (by kernel_rfl) rfl (by kernel_rfl) (by kernel_rfl) big h
noncomputable def Nl (n : Nat) (a0 : Zq) (a1 : Yg) : Option Zq := ZgA n (a0, a1, ())
theorem Zja (n : Nat) (a0 : Zq) (a1 : Yg) : Nl n a0 a1 = (Y4 big a0).bind fun y => (WZ big a0).bind fun y_1 => bif !y_1 then some y else (EJ big a1.1).bind fun y_2 => bif !y_2 then some y else (EL big a1.2.2.1).bind fun y_3 => bif !y_3 then some y else bif a1.2.1 then (W0 big a0 a1.1 a1.2.2.1).bind fun y => some y else (Xe big y (a1, ())).bind fun y => some y.1 := by kernel_rfl
noncomputable def K5 : Ys := [(128, Xm), (170, ZgB)]
theorem P3 : Yu K5 := cons_cons Y3 (cons_cons Zi9 (Zh))
abbrev UQ : Vl := (.drop :: .ro Yl :: dp 3 (.own Zn :: .ro Zb :: dp 16 []), [])
def GN : KP := [(3, UQ)]
noncomputable def L4 (n : Nat) (x : YH [Zm, Yl]) := evX (false, false, []) K5 GN [some ZE] Tryz.f118 (shF ZE) n (YR [Zm, Yl] x)
noncomputable def L5 : Con := roS [Zm, Yl] true (shF ZE) (L4 big)
theorem P4 : ZH Tryz.prog 118 L5 := ZC ⟨Tryz.f118, by kernel_rfl, rfl, by decide⟩ fun _ _ h => Zw P3 (f := Tryz.f118) (by kernel_rfl) rfl (by kernel_rfl) (by kernel_rfl) big h
noncomputable def CW (n : Nat) (a0 : Zq) (a1 : YB) : Option Zq := L4 n (a0, a1, ())
noncomputable def ZbY (n : Nat) (x : KD UQ.1) (y : BD UQ.2) := Z9 (env (false, false, []) K5) GN (body Tryz.f118) (Vm (false, false, []) K5 [some ZE] Tryz.f118 (shF ZE) [.val Zm (ZR Zm), .val Yl (ZR Yl)]) n 3 UQ x y
noncomputable def UR (n : Nat) (s1 : YB) (s5 : (List Ze)) (s6 : Int) : Option Zq := ZbY n (s1, s5, s6, ()) ()
theorem P5 (n : Nat) (a0 : Zq) (a1 : YB) : CW n a0 a1 = (Y4 big a0).bind fun y => UR n a1 y (IntKind.i64.wrap ((↑(List.length a1) : Int) - 1)) := by kernel_rfl
theorem AO (n : Nat) (s1 : YB) (s5 : (List Ze)) (s6 : Int) : UR (n + 1) s1 s5 s6 = bif decide (0 ≤ s6) then if 0 ≤ s6 then (nth s1 s6.toNat).bind fun y => (Nl big s5 y).bind fun y => UR n s1 y (IntKind.i64.wrap (s6 - 1)) else none else some s5 := by kernel_rfl
noncomputable def ZgC : Ys := [(190, FJ)]
theorem Zjb : Yu ZgC := cons_cons CP (Zh)
def Zom : KP := []
noncomputable def ZgD (n : Nat) (x : YH [Zm, Zu]) := evX (false, false, []) ZgC Zom [none] Tryz.f138 (shV YL) n (YR [Zm, Zu] x)
noncomputable def ZgE : Con := roS [Zm, Zu] true (shV YL) (ZgD big)
theorem Zjc : ZH Tryz.prog 138 ZgE := ZC ⟨Tryz.f138, by kernel_rfl, rfl, by decide⟩ fun _ _ h => Zw Zjb (f := Tryz.f138) (by kernel_rfl) rfl (by kernel_rfl) (by kernel_rfl) big h
noncomputable def Nm (n : Nat) (a0 : Zq) (a1 : ByteArray) : Option Yg := ZgD n (a0, a1, ())
theorem Zjd (n : Nat) (a0 : Zq) (a1 : ByteArray) : Nm n a0 a1 = (BS big a0 a1).bind fun y => bif decide (y < 0) then some (a1, false, 0, ()) else if 0 ≤ y then (nth a0 (Int.toNat y)).bind fun y => some (a1, true, y.2) else none := by kernel_rfl
noncomputable def AQ : Ys := [(128, Xm), (138, ZgE), (139, Zi1)]
theorem ZbZ : Yu AQ := cons_cons Y3 (cons_cons Zjc (cons_cons ZbM (Zh)))
abbrev QI : Vl := (dp 6 (.own Zn :: .own ZF :: dp 5 (.ro Yj :: .ro Zb :: .ro Zb :: dp 19 [])), [])
def L6 : KP := [(4, QI)]
noncomputable def Pi (n : Nat) (x : YH [Zm, Yj]) := evX (false, false, [9, 21, 999997]) AQ L6 [some ZE, some Wo] Tryz.f77 (shT [(true, ZE), (true, Wo)]) n (YR [Zm, Yj] x)
noncomputable def Pj : Con := roS [Zm, Yj] true (shT [(true, ZE), (true, Wo)]) (Pi big)
theorem Zb0 : ZH Tryz.prog 77 Pj := ZC ⟨Tryz.f77, by kernel_rfl, rfl, by decide⟩ fun _ _ h => Zw ZbZ (f := Tryz.f77) (by kernel_rfl) rfl (by kernel_rfl) (by kernel_rfl) big h
noncomputable def EW (n : Nat) (a0 : Zq) (a1 : YU) : Option (Zq × YB × Unit) := Pi n (a0, a1, ())
noncomputable def ZeJ (n : Nat) (x : KD QI.1) (y : BD QI.2) := Z9 (env (false, false, [9, 21, 999997]) AQ) L6 (body Tryz.f77) (Vm (false, false, [9, 21, 999997]) AQ [some ZE, some Wo] Tryz.f77 (shT [(true, ZE), (true, Wo)]) [.val Zm (ZR Zm), .val Yj (ZR Yj)]) n 4 QI x y
noncomputable def QJ (n : Nat) (s6 : (List Ze)) (s7 : (List Zs)) (s13 : YU) (s14 s15 : Int) : Option (Zq × YB × Unit) := ZeJ n (s6, s7, s13, s14, s15, ()) ()
theorem Zb1 (n : Nat) (a0 : Zq) (a1 : YU) : EW n a0 a1 = (Y4 big a0).bind fun y => QJ n y [] a1 (↑(List.length a1) : Int) 0 := by kernel_rfl
theorem BU (n : Nat) (s6 : (List Ze)) (s7 : (List Zs)) (s13 : YU) (s14 s15 : Int) : QJ (n + 1) s6 s7 s13 s14 s15 = bif decide (s15 < s14) then if 0 ≤ s15 then (nth s13 s15.toNat).bind fun y => (Nm big s6 y.2.1).bind fun y_1 => if s7.length + [y_1].length ≤ ZtB then (RA big s6 y).bind fun y => QJ n y.1 (s7.append [y_1]) s13 s14 (IntKind.i64.wrap (s15 + 1)) else none else none else some (s6, s7, ()) := by kernel_rfl
noncomputable def Zb2 : Ys := []
theorem ZeK : Yu Zb2 := Zh
def Zmp : KP := []
noncomputable def Zb3 (n : Nat) (x : YH [ZQ]) := evX (false, false, [1, 3, 7, 9]) Zb2 Zmp [none] Tryz.f76 (shV Zl) n (YR [ZQ] x)
noncomputable def HY : Con := roS [ZQ] true (shV Zl) (Zb3 big)
theorem GO : ZH Tryz.prog 76 HY := ZC ⟨Tryz.f76, by kernel_rfl, rfl, by decide⟩ fun _ _ h => Zw ZeK (f := Tryz.f76) (by kernel_rfl) rfl (by kernel_rfl) (by kernel_rfl) big h
noncomputable def JR (n : Nat) (a0 : Zo) : Option Int := Zb3 n (a0, ())
theorem ZeL (n : Nat) (a0 : Zo) : JR n a0 = bif decide ((↑(List.length a0.2.2.2.2.2.1) : Int) = 0) then some 0 else if 0 ≤ IntKind.i64.wrap ((↑(List.length a0.2.2.2.2.2.1) : Int) - 1) then (nth a0.2.2.2.2.2.1 (IntKind.i64.wrap ((↑(List.length a0.2.2.2.2.2.1) : Int) - 1)).toNat).bind fun y => some y else none := by kernel_rfl
noncomputable def L7 : Ys := [(60, KV), (118, L5)]
theorem P6 : Yu L7 := cons_cons Q9 (cons_cons P4 (Zh))
def ZeM : KP := []
noncomputable def L8 (n : Nat) (x : YH [ZQ]) := evX (false, false, [1, 3, 6, 8]) L7 ZeM [some ZB] Tryz.f74 (shF ZB) n (YR [ZQ] x)
noncomputable def CX : Con := roS [ZQ] true (shF ZB) (L8 big)
theorem Du : ZH Tryz.prog 74 CX := ZC ⟨Tryz.f74, by kernel_rfl, rfl, by decide⟩ fun _ _ h => Zw P6 (f := Tryz.f74) (by kernel_rfl) rfl (by kernel_rfl) (by kernel_rfl) big h
noncomputable def K6 (n : Nat) (a0 : Zo) : Option Zo := L8 n (a0, ())
theorem P7 (n : Nat) (a0 : Zo) : K6 n a0 = (UJ big a0).bind fun y => (CW big a0.2.2.2.2.2.2.1 a0.2.2.2.2.2.2.2.2.1).bind fun y_1 => some (y.1, y.2.1, y.2.2.1, y.2.2.2.1, y.2.2.2.2.1, y.2.2.2.2.2.1, y_1, [], [], y.2.2.2.2.2.2.2.2.2) := by kernel_rfl
noncomputable def Zb4 : Ys := [(76, HY), (79, CU), (60, KV), (74, CX), (75, ES), (78, Ni), (80, ZbO)]
theorem ZeN : Yu Zb4 := cons_cons GO (cons_cons Bh (cons_cons Q9 (cons_cons Du (cons_cons ET (cons_cons LX (cons_cons ZeD (Zh)))))))
def Zmq : KP := []
noncomputable def Zb5 (n : Nat) (x : YH [Zf, ZQ, Zl]) := evX (false, false, [4, 7, 24, 30]) Zb4 Zmq [some ZB] Tryz.f25 (shF ZB) n (YR [Zf, ZQ, Zl] x)
noncomputable def Zb6 : Con := roS [Zf, ZQ, Zl] true (shF ZB) (Zb5 big)
theorem ZeO : ZH Tryz.prog 25 Zb6 := ZC ⟨Tryz.f25, by kernel_rfl, rfl, by decide⟩ fun _ _ h => Zw ZeN (f := Tryz.f25) (by kernel_rfl) rfl (by kernel_rfl) (by kernel_rfl) big h
noncomputable def HZ (n : Nat) (a0 : Zi) (a1 : Zo) (a2 : Int) : Option Zo := Zb5 n (a0, a1, a2, ())
theorem ZeP (n : Nat) (a0 : Zi) (a1 : Zo) (a2 : Int) : HZ n a0 a1 a2 = (JR big a1).bind fun y => (JP big a0 a2 y).bind fun y => bif !y then (UJ big a1).bind fun y => some y else (K6 big a1).bind fun y => (JR big a1).bind fun y_1 => (AN big a0 a2 y_1).bind fun y_2 => if List.length y.2.2.2.2.2.1 + List.length y_2 ≤ lim then (FL big a0 y_2).bind fun y_3 => (HT big y.2.2.2.2.2.2.1 y_3).bind fun y_4 => some (y.1, y.2.1, y.2.2.1, y.2.2.2.1, y.2.2.2.2.1, List.append y.2.2.2.2.2.1 y_2, y_4.1, y.2.2.2.2.2.2.2) else none := by kernel_rfl
noncomputable def Pk : Ys := [(74, CX), (76, HY), (75, ES), (78, Ni), (77, Pj)]
theorem Zb7 : Yu Pk := cons_cons Du (cons_cons GO (cons_cons ET (cons_cons LX (cons_cons Zb0 (Zh)))))
def Zje : KP := []
noncomputable def Pl (n : Nat) (x : YH [Zf, ZQ, Zl]) := evX (false, false, [4, 7, 19]) Pk Zje [some ZB] Tryz.f24 (shF ZB) n (YR [Zf, ZQ, Zl] x)
noncomputable def Pm : Con := roS [Zf, ZQ, Zl] true (shF ZB) (Pl big)
theorem Zb8 : ZH Tryz.prog 24 Pm := ZC ⟨Tryz.f24, by kernel_rfl, rfl, by decide⟩ fun _ _ h => Zw Zb7 (f := Tryz.f24) (by kernel_rfl) rfl (by kernel_rfl) (by kernel_rfl) big h
noncomputable def EX (n : Nat) (a0 : Zi) (a1 : Zo) (a2 : Int) : Option Zo := Pl n (a0, a1, a2, ())
theorem Zb9 (n : Nat) (a0 : Zi) (a1 : Zo) (a2 : Int) : EX n a0 a1 a2 = (K6 big a1).bind fun y => (JR big a1).bind fun y_1 => (AN big a0 a2 y_1).bind fun y_2 => (FL big a0 y_2).bind fun y_3 => (EW big y.2.2.2.2.2.2.1 y_3).bind fun y_4 => some (y.1, y.2.1, y.2.2.1, y.2.2.2.1, y.2.2.2.2.1, y.2.2.2.2.2.1, y_4.1, y_2, y_4.2.1, y.2.2.2.2.2.2.2.2.2) := by kernel_rfl
noncomputable def Zca : Ys := [(59, Yv), (187, Fq)]
theorem ZeQ : Yu Zca := cons_cons Z6 (cons_cons Cm (Zh))
abbrev Zjf : Vl := ([.is (.ptr 0 0), .drop, .drop, .own ZP, .ro Zb, .drop, .drop, .drop, .drop, .drop, .drop, .drop, .drop, .drop, .drop, .drop, .drop, .drop], [.vars [.ro Z8, .ro Zb, .ro Zb]])
def Zmr : KP := [(3, Zjf)]
noncomputable def Zon (n : Nat) (x : AP.denL [.mr Zv]) := evX (false, false, []) Zca Zmr [some Jt] Tryz.f196 (shO (shF Jt) [.mr Zv]) n (AP.encL [.mr Zv] x)
noncomputable def Zcb : Con := apS [.mr Zv] false (shO (shF Jt) [.mr Zv]) (Zon big)
theorem ZeR : ZH Tryz.prog 196 Zcb := YK ⟨Tryz.f196, by kernel_rfl, rfl, by decide⟩ fun _ _ h => Zw ZeQ (f := Tryz.f196) (by kernel_rfl) rfl (by kernel_rfl) (by kernel_rfl) big h
noncomputable def Zy5 (n : Nat) (a0 : ZL) : Option (YU × ZL × Unit) := Zon n (a0, ())
noncomputable def Zzj (n : Nat) (x : KD Zjf.1) (y : BD Zjf.2) := Z9 (env (false, false, []) Zca) Zmr (body Tryz.f196) (Vm (false, false, []) Zca [some Jt] Tryz.f196 (shO (shF Jt) [.mr Zv]) [AP.enc (.mr Zv) (ZR Zv)]) n 3 Zjf x y
noncomputable def Zy6 (n : Nat) (s3 : (List ZG)) (s4 : Int) (b0_0 : Y2) (b0_1 : Int) (b0_2 : Int) : Option (YU × ZL × Unit) := Zzj n (s3, s4, ()) ((b0_0, b0_1, b0_2, ()), ())
theorem Zzh (n : Nat) (a0 : ZL) : Zy5 n a0 =
  Zy6 n [] (0 : Int) a0.fst a0.snd.fst a0.snd.snd.fst := by kernel_rfl
theorem Zza (n : Nat) (s3 : (List ZG)) (s4 : Int) (b0_0 : Y2) (b0_1 : Int) (b0_2 : Int) : Zy6 (n + 1) s3 s4 b0_0 b0_1 b0_2 =
  (ZY big (b0_0, b0_1, b0_2, ()) (5 : Int)).bind fun y =>
 bif decide (s4 < y.fst) then
 (Fr big y.snd.fst).bind fun y =>
 if s3.length + (1 : Nat) ≤ lim then
 Zy6 n (s3.append [y.fst]) (IntKind.i64.wrap (s4 + (1 : Int))) y.snd.fst.fst y.snd.fst.snd.fst
 y.snd.fst.snd.snd.fst
 else none
 else some (s3, y.snd) := by kernel_rfl
noncomputable def ZgF : Ys := [(187, Fq), (59, Yv), (199, Hh), (62, Xx)]
theorem Zjg : Yu ZgF := cons_cons Cm (cons_cons Z6 (cons_cons F9 (cons_cons Xg (Zh))))
def Zoo : KP := []
noncomputable def ZqU (n : Nat) (x : AP.denL [.mr Zv]) := evX (false, false, [3]) ZgF Zoo [none] Tryz.f148 (shO (shV Wn) [.mr Zv]) n (AP.encL [.mr Zv] x)
noncomputable def ZgG : Con := apS [.mr Zv] false (shO (shV Wn) [.mr Zv]) (ZqU big)
theorem Zjh : ZH Tryz.prog 148 ZgG := YK ⟨Tryz.f148, by kernel_rfl, rfl, by decide⟩ fun _ _ h => Zw Zjg (f := Tryz.f148) (by kernel_rfl) rfl (by kernel_rfl) (by kernel_rfl) big h
noncomputable def Zy7 (n : Nat) (a0 : ZL) : Option (Xf × ZL × Unit) := ZqU n (a0, ())
theorem Zzk (n : Nat) (a0 : ZL) : Zy7 n a0 =
  (Fr big a0).bind fun y =>
 (ZY big y.snd.fst (8 : Int)).bind fun y_1 =>
 bif decide (y_1.fst = (0 : Int)) then
 (ZY big y_1.snd.fst (5 : Int)).bind fun y_2 => some ((y_2.fst, y.fst.snd), y_2.snd)
 else
 bif decide (y_1.fst = (1 : Int)) then
 (Hi big y_1.snd.fst
 [ByteArray.mk #[], ByteArray.mk #[(65 : UInt8)],
 ByteArray.mk #[(97 : UInt8), (98 : UInt8), (99 : UInt8), (100 : UInt8)]]).bind
 fun y_2 => some ((y.fst.fst, y_2.fst, y.fst.snd.snd), y_2.snd)
 else
 bif decide (y_1.fst = (2 : Int)) then
 (Xy big y_1.snd.fst
 [(-1 : Int), (1000000000 : Int), (1000000001 : Int), (9223372036854775807 : Int)]).bind
 fun y_2 => some ((y.fst.fst, y.fst.snd.fst, y_2.fst, PUnit.unit), y_2.snd)
 else some (y.fst, y_1.snd) := by kernel_rfl
noncomputable def Zms : Ys := []
theorem Zmt : Yu Zms := Zh
def ZqV : KP := []
noncomputable def ZsJ (n : Nat) (x : AP.denL [.ro Zf, .ro Zl, .ro Zl, .gv Wn, .ro Zl]) := evX (false, false, [11, 32, 34]) Zms ZqV [some YX] Tryz.f198 (shF YX) n (AP.encL [.ro Zf, .ro Zl, .ro Zl, .gv Wn, .ro Zl] x)
noncomputable def Zmu : Con := apS [.ro Zf, .ro Zl, .ro Zl, .gv Wn, .ro Zl] true (shF YX) (ZsJ big)
theorem Zmv : ZH Tryz.prog 198 Zmu := YK ⟨Tryz.f198, by kernel_rfl, rfl, by decide⟩ fun _ _ h => Zw Zmt (f := Tryz.f198) (by kernel_rfl) rfl (by kernel_rfl) (by kernel_rfl) big h
noncomputable def Zy8 (n : Nat) (a0 : Zi) (a1 : Int) (a2 : Int) (a3 : YU) (a4 : Int) : Option Zy := ZsJ n (a0, a1, a2, a3, a4, ())
theorem Zzm (n : Nat) (a0 : Zi) (a1 : Int) (a2 : Int) (a3 : YU) (a4 : Int) : Zy8 n a0 a1 a2 a3 a4 =
  if (0 : Int) ≤ a1 then
 (nth a0 a1.toNat).bind fun y =>
 if (0 : Int) ≤ a1 then
 (nth a0 a1.toNat).bind fun y_1 =>
 bif decide ((0 : Int) < a1) then
 some (a1, IntKind.i64.wrap (y.snd.fst + a2), a3, (a4, y_1.snd.fst, a1, (7 : Int), PUnit.unit), PUnit.unit)
 else
 some
 (a1, IntKind.i64.wrap (y.snd.fst + a2), a3, ((0 : Int), y_1.snd.fst, a1, (0 : Int), PUnit.unit),
 PUnit.unit)
 else none
 else none := by kernel_rfl
noncomputable def Pn : Ys := [(178, Hp), (62, Xx), (59, Yv), (63, Ju), (196, Zcb), (198, Zmu), (197, Ae)]
theorem Zcc : Yu Pn := cons_cons Gj (cons_cons Xg (cons_cons Z6 (cons_cons Qr (cons_cons ZeR (cons_cons Zmv (cons_cons Jz (Zh)))))))
abbrev ZeS : Vl := ([.is (.ptr 0 0), .drop, .drop, .own ZJ, .ro Zb, .ro Zb, .drop, .drop, .drop, .drop, .drop, .drop, .drop, .drop, .drop, .drop, .drop, .drop, .drop, .drop, .drop, .drop, .drop, .drop, .drop, .drop, .drop, .drop, .drop, .drop, .drop, .drop, .drop, .drop, .drop, .drop, .drop, .drop, .drop, .drop, .drop, .drop, .drop, .drop], [.vars [.ro Z8, .ro Zb, .ro Zb]])
def Zji : KP := [(4, ZeS)]
noncomputable def Zmw (n : Nat) (x : AP.denL [.mr Zv]) := evX (false, false, []) Pn Zji [some ZZ] Tryz.f147 (shO (shF ZZ) [.mr Zv]) n (AP.encL [.mr Zv] x)
noncomputable def Po : Con := apS [.mr Zv] false (shO (shF ZZ) [.mr Zv]) (Zmw big)
theorem Zcd : ZH Tryz.prog 147 Po := YK ⟨Tryz.f147, by kernel_rfl, rfl, by decide⟩ fun _ _ h => Zw Zcc (f := Tryz.f147) (by kernel_rfl) rfl (by kernel_rfl) (by kernel_rfl) big h
noncomputable def Zzb (n : Nat) (a0 : ZL) : Option (Zi × ZL × Unit) := Zmw n (a0, ())
noncomputable def Zzi (n : Nat) (x : KD ZeS.1) (y : BD ZeS.2) := Z9 (env (false, false, []) Pn) Zji (body Tryz.f147) (Vm (false, false, []) Pn [some ZZ] Tryz.f147 (shO (shF ZZ) [.mr Zv]) [AP.enc (.mr Zv) (ZR Zv)]) n 4 ZeS x y
noncomputable def Zy2 (n : Nat) (s3 : (List Zr)) (s4 : Int) (s5 : Int) (b0_0 : Y2) (b0_1 : Int) (b0_2 : Int) : Option (Zi × ZL × Unit) := Zzi n (s3, s4, s5, ()) ((b0_0, b0_1, b0_2, ()), ())
theorem Zzg (n : Nat) (a0 : ZL) : Zzb n a0 =
  (Xy big a0 [(1 : Int), (4 : Int)]).bind fun y =>
 Zy2 n [((-1 : Int), (0 : Int), [], ((0 : Int), (0 : Int), (0 : Int), (0 : Int), PUnit.unit), PUnit.unit)]
 y.fst (0 : Int) y.snd.fst.fst y.snd.fst.snd.fst y.snd.fst.snd.snd.fst := by kernel_rfl
theorem Zy9 (n : Nat) (s3 : (List Zr)) (s4 : Int) (s5 : Int) (b0_0 : Y2) (b0_1 : Int) (b0_2 : Int) : Zy2 (n + 1) s3 s4 s5 b0_0 b0_1 b0_2 =
  (ZY big (b0_0, b0_1, b0_2, ()) (9 : Int)).bind fun y =>
 bif decide (s5 < y.fst) then
 (Jv big y.snd.fst (4 : Int)).bind fun y =>
 bif y.fst then
 (ZY big y.snd.fst (↑s3.length : Int)).bind fun y =>
 (Jv big y.snd.fst (4 : Int)).bind fun y_1 =>
 bif y_1.fst then
 (Zy5 big y_1.snd.fst).bind fun y_2 =>
 (Zy8 big s3 y.fst (2 : Int) y_2.fst s4).bind fun y =>
 (Wh big s3 y).bind fun y =>
 Zy2 n y.fst s4 (IntKind.i64.wrap (s5 + (1 : Int))) y_2.snd.fst.fst y_2.snd.fst.snd.fst
 y_2.snd.fst.snd.snd.fst
 else
 (Zy5 big y_1.snd.fst).bind fun y_2 =>
 (Zy8 big s3 y.fst (1 : Int) y_2.fst s4).bind fun y =>
 (Wh big s3 y).bind fun y =>
 Zy2 n y.fst s4 (IntKind.i64.wrap (s5 + (1 : Int))) y_2.snd.fst.fst y_2.snd.fst.snd.fst
 y_2.snd.fst.snd.snd.fst
 else
 (Jv big y.snd.fst (4 : Int)).bind fun y =>
 bif y.fst then
 (Zy5 big y.snd.fst).bind fun y =>
 (Zy8 big s3 (IntKind.i64.wrap ((↑s3.length : Int) - (1 : Int))) (2 : Int) y.fst s4).bind
 fun y_1 =>
 (Wh big s3 y_1).bind fun y_2 =>
 Zy2 n y_2.fst s4 (IntKind.i64.wrap (s5 + (1 : Int))) y.snd.fst.fst y.snd.fst.snd.fst
 y.snd.fst.snd.snd.fst
 else
 (Zy5 big y.snd.fst).bind fun y =>
 (Zy8 big s3 (IntKind.i64.wrap ((↑s3.length : Int) - (1 : Int))) (1 : Int) y.fst s4).bind
 fun y_1 =>
 (Wh big s3 y_1).bind fun y_2 =>
 Zy2 n y_2.fst s4 (IntKind.i64.wrap (s5 + (1 : Int))) y.snd.fst.fst y.snd.fst.snd.fst
 y.snd.fst.snd.snd.fst
 else some (s3, y.snd) := by kernel_rfl
noncomputable def L9 : Ys := [(79, CU), (64, ZbD)]
theorem P8 : Yu L9 := cons_cons Bh (cons_cons BR (Zh))
def ZeT : KP := []
noncomputable def Ma (n : Nat) (x : YH [Zf, Wy, Zl]) := evX (false, false, [4, 9, 25]) L9 ZeT [none] Tryz.f37 (shV ZD) n (YR [Zf, Wy, Zl] x)
noncomputable def Mb : Con := roS [Zf, Wy, Zl] true (shV ZD) (Ma big)
theorem P9 : ZH Tryz.prog 37 Mb := ZC ⟨Tryz.f37, by kernel_rfl, rfl, by decide⟩ fun _ _ h => Zw P8 (f := Tryz.f37) (by kernel_rfl) rfl (by kernel_rfl) (by kernel_rfl) big h
noncomputable def K7 (n : Nat) (a0 : Zi) (a1 : B6) (a2 : Int) : Option Bool := Ma n (a0, a1, a2, ())
theorem Ra (n : Nat) (a0 : Zi) (a1 : B6) (a2 : Int) : K7 n a0 a1 a2 = (JP big a0 a2 a1.2.2.1).bind fun y => bif y then some true else (GH big a2 0 (IntKind.i64.wrap ((↑(List.length a0) : Int) - 1))).bind fun y => bif y then if 0 ≤ a2 then (nth a0 a2.toNat).bind fun y => some (decide (a1.2.1 < y.2.2.2.1.2.1)) else none else some false := by kernel_rfl
noncomputable def EY : Ys := [(57, Fp), (62, Xx), (61, Nf)]
theorem Mc : Yu EY := cons_cons Cl (cons_cons Xg (cons_cons Ly (Zh)))
def Rb : KP := []
noncomputable def EZ (n : Nat) (x : YH [Z8]) := evX (false, false, [7]) EY Rb [some ZB, none] Tryz.f33 (shT [(true, ZB), (false, Zl)]) n (YR [Z8] x)
noncomputable def E0 : Con := roS [Z8] true (shT [(true, ZB), (false, Zl)]) (EZ big)
theorem Md : ZH Tryz.prog 33 E0 := ZC ⟨Tryz.f33, by kernel_rfl, rfl, by decide⟩ fun _ _ h => Zw Mc (f := Tryz.f33) (by kernel_rfl) rfl (by kernel_rfl) (by kernel_rfl) big h
noncomputable def JS (n : Nat) (a0 : Y2) : Option (Zo × Int × Unit) := EZ n (a0, ())
theorem Me (n : Nat) (a0 : Y2) : JS n a0 = (BA big a0).bind fun y => (Xy big y [(0 : Int), 1, 3, 7, 20, 900, 901]).bind fun y => (FI big y.2.1).bind fun y_1 => some (y_1.1.2.1, y.1, ()) := by kernel_rfl
noncomputable def Zce : Ys := [(57, Fp), (59, Yv), (61, Nf), (63, Ju)]
theorem ZeU : Yu Zce := cons_cons Cl (cons_cons Z6 (cons_cons Ly (cons_cons Qr (Zh))))
def Zmx : KP := []
noncomputable def Zcf (n : Nat) (x : YH [Z8]) := evX (false, false, [8]) Zce Zmx [some ZZ, some ZB, none] Tryz.f87 (shT [(true, ZZ), (true, ZB), (false, Zl)]) n (YR [Z8] x)
noncomputable def H0 : Con := roS [Z8] true (shT [(true, ZZ), (true, ZB), (false, Zl)]) (Zcf big)
theorem GP : ZH Tryz.prog 87 H0 := ZC ⟨Tryz.f87, by kernel_rfl, rfl, by decide⟩ fun _ _ h => Zw ZeU (f := Tryz.f87) (by kernel_rfl) rfl (by kernel_rfl) (by kernel_rfl) big h
noncomputable def CY (n : Nat) (a0 : Y2) : Option (Zi × Zo × Int × Unit) := Zcf n (a0, ())
theorem ZeV (n : Nat) (a0 : Y2) : CY n a0 = (BA big a0).bind fun y => (ZY big y 12).bind fun y => (FI big y.2.1).bind fun y_1 => (Jv big y_1.2.1 2).bind fun y_2 => bif y_2.1 then some (y_1.1.1, y_1.1.2.1, IntKind.i64.wrap ((↑(List.length y_1.1.1) : Int) - 1), ()) else some (y_1.1.1, y_1.1.2.1, IntKind.i64.wrap (y.1 - 1), ()) := by kernel_rfl
noncomputable def E1 : Ys := [(87, H0)]
theorem Mf : Yu E1 := cons_cons GP (Zh)
def Rc : KP := []
noncomputable def E2 (n : Nat) (x : YH [Z8]) := evX (false, false, []) E1 Rc [some ZZ, some ZB, none] Tryz.f34 (shT [(true, ZZ), (true, ZB), (false, Zl)]) n (YR [Z8] x)
noncomputable def E3 : Con := roS [Z8] true (shT [(true, ZZ), (true, ZB), (false, Zl)]) (E2 big)
theorem Mg : ZH Tryz.prog 34 E3 := ZC ⟨Tryz.f34, by kernel_rfl, rfl, by decide⟩ fun _ _ h => Zw Mf (f := Tryz.f34) (by kernel_rfl) rfl (by kernel_rfl) (by kernel_rfl) big h
noncomputable def JT (n : Nat) (a0 : Y2) : Option (Zi × Zo × Int × Unit) := E2 n (a0, ())
theorem Mh (n : Nat) (a0 : Y2) : JT n a0 =
  (CY big a0).bind fun y => some y := by kernel_rfl
noncomputable def Dv : Ys := [(87, H0)]
theorem H1 : Yu Dv := cons_cons GP (Zh)
def Nn : KP := []
noncomputable def Dw (n : Nat) (x : YH [Z8]) := evX (false, false, []) Dv Nn [some ZZ, some ZB, none] Tryz.f35 (shT [(true, ZZ), (true, ZB), (false, Zl)]) n (YR [Z8] x)
noncomputable def Dx : Con := roS [Z8] true (shT [(true, ZZ), (true, ZB), (false, Zl)]) (Dw big)
theorem H2 : ZH Tryz.prog 35 Dx := ZC ⟨Tryz.f35, by kernel_rfl, rfl, by decide⟩ fun _ _ h => Zw H1 (f := Tryz.f35) (by kernel_rfl) rfl (by kernel_rfl) (by kernel_rfl) big h
noncomputable def Kc (n : Nat) (a0 : Y2) : Option (Zi × Zo × Int × Unit) := Dw n (a0, ())
theorem H3 (n : Nat) (a0 : Y2) : Kc n a0 =
  (CY big a0).bind fun y => some y := by kernel_rfl
noncomputable def AR : Ys := []
theorem Zcg : Yu AR := Zh
abbrev QK : Vl := (.ro Yx :: .ro Yx :: dp 3 (.ro Zb :: dp 20 []), [])
def Mi : KP := [(4, QK)]
noncomputable def Pp (n : Nat) (x : YH [Yx, Yx]) := evX (false, false, []) AR Mi [none] Tryz.f29 (shV ZD) n (YR [Yx, Yx] x)
noncomputable def Pq : Con := roS [Yx, Yx] true (shV ZD) (Pp big)
theorem Zch : ZH Tryz.prog 29 Pq := ZC ⟨Tryz.f29, by kernel_rfl, rfl, by decide⟩ fun _ _ h => Zw Zcg (f := Tryz.f29) (by kernel_rfl) rfl (by kernel_rfl) (by kernel_rfl) big h
noncomputable def AS (n : Nat) (a0 a1 : Yt) : Option Bool := Pp n (a0, a1, ())
noncomputable def ZeW (n : Nat) (x : KD QK.1) (y : BD QK.2) := Z9 (env (false, false, []) AR) Mi (body Tryz.f29) (Vm (false, false, []) AR [none] Tryz.f29 (shV ZD) [.val Yx (ZR Yx), .val Yx (ZR Yx)]) n 4 QK x y
noncomputable def QL (n : Nat) (s0 s1 : Yt) (s5 : Int) : Option Bool := ZeW n (s0, s1, s5, ()) ()
theorem Zci (n : Nat) (a0 a1 : Yt) : AS n a0 a1 = bif !decide ((↑(List.length a0) : Int) = (↑(List.length a1) : Int)) then some false else QL n a0 a1 0 := by kernel_rfl
theorem BV (n : Nat) (s0 s1 : Yt) (s5 : Int) : QL (n + 1) s0 s1 s5 = bif decide (s5 < (↑(List.length s0) : Int)) then if 0 ≤ s5 then (nth s0 s5.toNat).bind fun y => if 0 ≤ s5 then (nth s1 s5.toNat).bind fun y_1 => bif !decide (y = y_1) then some false else QL n s0 s1 (IntKind.i64.wrap (s5 + 1)) else none else none else some true := by kernel_rfl
noncomputable def K8 : Ys := []
theorem Rd : Yu K8 := Zh
abbrev US : Vl := (.ro Zm :: .ro Zm :: dp 3 (.ro Zb :: dp 20 []), [])
def GQ : KP := [(4, US)]
noncomputable def Mj (n : Nat) (x : YH [Zm, Zm]) := evX (false, false, []) K8 GQ [none] Tryz.f26 (shV ZD) n (YR [Zm, Zm] x)
noncomputable def Mk : Con := roS [Zm, Zm] true (shV ZD) (Mj big)
theorem Re : ZH Tryz.prog 26 Mk := ZC ⟨Tryz.f26, by kernel_rfl, rfl, by decide⟩ fun _ _ h => Zw Rd (f := Tryz.f26) (by kernel_rfl) rfl (by kernel_rfl) (by kernel_rfl) big h
noncomputable def CZ (n : Nat) (a0 a1 : Zq) : Option Bool := Mj n (a0, a1, ())
noncomputable def Zcj (n : Nat) (x : KD US.1) (y : BD US.2) := Z9 (env (false, false, []) K8) GQ (body Tryz.f26) (Vm (false, false, []) K8 [none] Tryz.f26 (shV ZD) [.val Zm (ZR Zm), .val Zm (ZR Zm)]) n 4 US x y
noncomputable def UT (n : Nat) (s0 s1 : Zq) (s5 : Int) : Option Bool := Zcj n (s0, s1, s5, ()) ()
theorem Rf (n : Nat) (a0 a1 : Zq) : CZ n a0 a1 = bif !decide ((↑(List.length a0) : Int) = (↑(List.length a1) : Int)) then some false else UT n a0 a1 0 := by kernel_rfl
theorem AT (n : Nat) (s0 s1 : Zq) (s5 : Int) : UT (n + 1) s0 s1 s5 = bif decide (s5 < (↑(List.length s0) : Int)) then if 0 ≤ s5 then (nth s0 s5.toNat).bind fun y => if 0 ≤ s5 then (nth s1 s5.toNat).bind fun y_1 => bif !eqD Yc y y_1 then some false else UT n s0 s1 (IntKind.i64.wrap (s5 + 1)) else none else none else some true := by kernel_rfl
noncomputable def K9 : Ys := []
theorem Rg : Yu K9 := Zh
abbrev UU : Vl := (.ro Yl :: .ro Yl :: dp 3 (.ro Zb :: dp 20 []), [])
def GR : KP := [(4, UU)]
noncomputable def Ml (n : Nat) (x : YH [Yl, Yl]) := evX (false, false, []) K9 GR [none] Tryz.f71 (shV ZD) n (YR [Yl, Yl] x)
noncomputable def Mm : Con := roS [Yl, Yl] true (shV ZD) (Ml big)
theorem Rh : ZH Tryz.prog 71 Mm := ZC ⟨Tryz.f71, by kernel_rfl, rfl, by decide⟩ fun _ _ h => Zw Rg (f := Tryz.f71) (by kernel_rfl) rfl (by kernel_rfl) (by kernel_rfl) big h
noncomputable def C0 (n : Nat) (a0 a1 : YB) : Option Bool := Ml n (a0, a1, ())
noncomputable def Zck (n : Nat) (x : KD UU.1) (y : BD UU.2) := Z9 (env (false, false, []) K9) GR (body Tryz.f71) (Vm (false, false, []) K9 [none] Tryz.f71 (shV ZD) [.val Yl (ZR Yl), .val Yl (ZR Yl)]) n 4 UU x y
noncomputable def UV (n : Nat) (s0 s1 : YB) (s5 : Int) : Option Bool := Zck n (s0, s1, s5, ()) ()
theorem Ri (n : Nat) (a0 a1 : YB) : C0 n a0 a1 = bif !decide ((↑(List.length a0) : Int) = (↑(List.length a1) : Int)) then some false else UV n a0 a1 0 := by kernel_rfl
theorem AU (n : Nat) (s0 s1 : YB) (s5 : Int) : UV (n + 1) s0 s1 s5 = bif decide (s5 < (↑(List.length s0) : Int)) then if 0 ≤ s5 then (nth s0 s5.toNat).bind fun y => if 0 ≤ s5 then (nth s1 s5.toNat).bind fun y_1 => bif !eqD YL y y_1 then some false else UV n s0 s1 (IntKind.i64.wrap (s5 + 1)) else none else none else some true := by kernel_rfl
noncomputable def Ja : Ys := []
theorem Rj : Yu Ja := Zh
abbrev UW : Vl := (.ro ZS :: .ro ZS :: dp 3 (.ro Zb :: dp 20 []), [])
def GS : KP := [(4, UW)]
noncomputable def Mn (n : Nat) (x : YH [ZS, ZS]) := evX (false, false, []) Ja GS [none] Tryz.f72 (shV ZD) n (YR [ZS, ZS] x)
noncomputable def Mo : Con := roS [ZS, ZS] true (shV ZD) (Mn big)
theorem Rk : ZH Tryz.prog 72 Mo := ZC ⟨Tryz.f72, by kernel_rfl, rfl, by decide⟩ fun _ _ h => Zw Rj (f := Tryz.f72) (by kernel_rfl) rfl (by kernel_rfl) (by kernel_rfl) big h
noncomputable def C1 (n : Nat) (a0 a1 : Yq) : Option Bool := Mn n (a0, a1, ())
noncomputable def Zcl (n : Nat) (x : KD UW.1) (y : BD UW.2) := Z9 (env (false, false, []) Ja) GS (body Tryz.f72) (Vm (false, false, []) Ja [none] Tryz.f72 (shV ZD) [.val ZS (ZR ZS), .val ZS (ZR ZS)]) n 4 UW x y
noncomputable def UX (n : Nat) (s0 s1 : Yq) (s5 : Int) : Option Bool := Zcl n (s0, s1, s5, ()) ()
theorem Rl (n : Nat) (a0 a1 : Yq) : C1 n a0 a1 = bif !decide ((↑(List.length a0) : Int) = (↑(List.length a1) : Int)) then some false else UX n a0 a1 0 := by kernel_rfl
theorem AV (n : Nat) (s0 s1 : Yq) (s5 : Int) : UX (n + 1) s0 s1 s5 = bif decide (s5 < (↑(List.length s0) : Int)) then if 0 ≤ s5 then (nth s0 s5.toNat).bind fun y => if 0 ≤ s5 then (nth s1 s5.toNat).bind fun y_1 => bif !eqD Z5 y y_1 then some false else UX n s0 s1 (IntKind.i64.wrap (s5 + 1)) else none else none else some true := by kernel_rfl
noncomputable def UY : Ys := []
theorem Mp : Yu UY := Zh
abbrev Vg : Vl := (.ro ZN :: .ro ZN :: dp 3 (.ro Zb :: dp 20 []), [])
def Dy : KP := [(4, Vg)]
noncomputable def E4 (n : Nat) (x : YH [ZN, ZN]) := evX (false, false, []) UY Dy [none] Tryz.f73 (shV ZD) n (YR [ZN, ZN] x)
noncomputable def E5 : Con := roS [ZN, ZN] true (shV ZD) (E4 big)
theorem Mq : ZH Tryz.prog 73 E5 := ZC ⟨Tryz.f73, by kernel_rfl, rfl, by decide⟩ fun _ _ h => Zw Mp (f := Tryz.f73) (by kernel_rfl) rfl (by kernel_rfl) (by kernel_rfl) big h
noncomputable def JU (n : Nat) (a0 a1 : ZX) : Option Bool := E4 n (a0, a1, ())
noncomputable def No (n : Nat) (x : KD Vg.1) (y : BD Vg.2) := Z9 (env (false, false, []) UY) Dy (body Tryz.f73) (Vm (false, false, []) UY [none] Tryz.f73 (shV ZD) [.val ZN (ZR ZN), .val ZN (ZR ZN)]) n 4 Vg x y
noncomputable def Vh (n : Nat) (s0 s1 : ZX) (s5 : Int) : Option Bool := No n (s0, s1, s5, ()) ()
theorem Mr (n : Nat) (a0 a1 : ZX) : JU n a0 a1 = bif !decide ((↑(List.length a0) : Int) = (↑(List.length a1) : Int)) then some false else Vh n a0 a1 0 := by kernel_rfl
theorem Ki (n : Nat) (s0 s1 : ZX) (s5 : Int) : Vh (n + 1) s0 s1 s5 = bif decide (s5 < (↑(List.length s0) : Int)) then if 0 ≤ s5 then (nth s0 s5.toNat).bind fun y => if 0 ≤ s5 then (nth s1 s5.toNat).bind fun y_1 => bif !eqD ZO y y_1 then some false else Vh n s0 s1 (IntKind.i64.wrap (s5 + 1)) else none else none else some true := by kernel_rfl
noncomputable def Pr : Ys := [(29, Pq), (26, Mk), (71, Mm), (72, Mo), (73, E5)]
theorem Zcm : Yu Pr := cons_cons Zch (cons_cons Re (cons_cons Rh (cons_cons Rk (cons_cons Mq (Zh)))))
def Zjj : KP := []
noncomputable def Ps (n : Nat) (x : YH [ZQ, ZQ]) := evX (false, false, [2, 3, 5, 7, 11, 13, 18, 20, 25, 27, 32, 34, 39, 41, 46, 48, 53, 55, 60, 62, 67, 69, 74, 76, 81, 83]) Pr Zjj [none] Tryz.f21 (shV ZD) n (YR [ZQ, ZQ] x)
noncomputable def Pt : Con := roS [ZQ, ZQ] true (shV ZD) (Ps big)
theorem Zcn : ZH Tryz.prog 21 Pt := ZC ⟨Tryz.f21, by kernel_rfl, rfl, by decide⟩ fun _ _ h => Zw Zcm (f := Tryz.f21) (by kernel_rfl) rfl (by kernel_rfl) (by kernel_rfl) big h
noncomputable def Q0 (n : Nat) (a0 a1 : Zo) : Option Bool := Ps n (a0, a1, ())
theorem Zco (n : Nat) (a0 a1 : Zo) : Q0 n a0 a1 = bif decide (a0.1 = a1.1) then bif decide (a0.2.1 = a1.2.1) then bif eqD Wy a0.2.2.1 a1.2.2.1 then bif eqD Wy a0.2.2.2.1 a1.2.2.2.1 then bif eqD Z5 a0.2.2.2.2.1 a1.2.2.2.2.1 then (AS big a0.2.2.2.2.2.1 a1.2.2.2.2.2.1).bind fun y => bif y then (CZ big a0.2.2.2.2.2.2.1 a1.2.2.2.2.2.2.1).bind fun y => bif y then (AS big a0.2.2.2.2.2.2.2.1 a1.2.2.2.2.2.2.2.1).bind fun y => bif y then (C0 big a0.2.2.2.2.2.2.2.2.1 a1.2.2.2.2.2.2.2.2.1).bind fun y => bif y then (C1 big a0.2.2.2.2.2.2.2.2.2.1 a1.2.2.2.2.2.2.2.2.2.1).bind fun y => bif y then (JU big a0.2.2.2.2.2.2.2.2.2.2.1 a1.2.2.2.2.2.2.2.2.2.2.1).bind fun y => bif y then some (decide (a0.2.2.2.2.2.2.2.2.2.2.2.1 = a1.2.2.2.2.2.2.2.2.2.2.2.1)) else some false else some false else some false else some false else some false else some false else some false else some false else some false else some false else some false := by kernel_rfl
noncomputable def Zcp : Ys := [(60, KV)]
theorem ZeX : Yu Zcp := cons_cons Q9 (Zh)
def Zmy : KP := []
noncomputable def Zcq (n : Nat) (x : YH [ZQ, Zl]) := evX (false, false, [2, 5, 9]) Zcp Zmy [some ZB] Tryz.f36 (shF ZB) n (YR [ZQ, Zl] x)
noncomputable def Zcr : Con := roS [ZQ, Zl] true (shF ZB) (Zcq big)
theorem ZeY : ZH Tryz.prog 36 Zcr := ZC ⟨Tryz.f36, by kernel_rfl, rfl, by decide⟩ fun _ _ h => Zw ZeX (f := Tryz.f36) (by kernel_rfl) rfl (by kernel_rfl) (by kernel_rfl) big h
noncomputable def H4 (n : Nat) (a0 : Zo) (a1 : Int) : Option Zo := Zcq n (a0, a1, ())
theorem ZeZ (n : Nat) (a0 : Zo) (a1 : Int) : H4 n a0 a1 = (UJ big a0).bind fun y => bif decide (a0.2.1 < a1) then bif decide (a1 ≤ 900) then some (y.1, a1, y.2.2.1, y.2.2.2.1, y.2.2.2.2.1, y.2.2.2.2.2.1, y.2.2.2.2.2.2.1, y.2.2.2.2.2.2.2.1, y.2.2.2.2.2.2.2.2.1, [], [], y.2.2.2.2.2.2.2.2.2.2.2) else some y else some y := by kernel_rfl
noncomputable def ZgH : Ys := [(59, Yv), (147, Po), (146, Hj), (148, ZgG), (149, Ab)]
theorem Zjk : Yu ZgH := cons_cons Z6 (cons_cons Zcd (cons_cons Ga (cons_cons Zjh (cons_cons Jx (Zh)))))
abbrev Zy0 : Vl := (.is (.ptr 0 0) :: dp 4 (.own ZJ :: .ro Zb :: dp 11 (.ro Zb :: dp 25 (.ro ZD :: dp 25 []))), [.vars [.ro Z8, .ro Zb, .ro Zb]])
abbrev Zy1 : Vl := (dp 5 (.own ZJ :: .ro Zb :: dp 52 (.ro ZD :: dp 10 [])), [.vars [.ro Z8, .ro Zb, .ro Zb]])
def Zop : KP := [(5000013, Zy0), (5000015, Zy1)]
noncomputable def ZgI (n : Nat) (x : AP.denL [.mr Zv]) := evX (true, true, [999994]) ZgH Zop [some ZZ] Tryz.f85 (shO (shF ZZ) [.mr Zv]) n (AP.encL [.mr Zv] x)
noncomputable def ZgJ : Con := apS [.mr Zv] false (shO (shF ZZ) [.mr Zv]) (ZgI big)
theorem Zjl : ZH Tryz.prog 85 ZgJ := YK ⟨Tryz.f85, by kernel_rfl, rfl, by decide⟩ fun _ _ h => Zw Zjk (f := Tryz.f85) (by kernel_rfl) rfl (by kernel_rfl) (by kernel_rfl) big h
noncomputable def ZqW (n : Nat) (a0 : ZL) : Option (Zi × ZL × Unit) := ZgI n (a0, ())
noncomputable def Zze (n : Nat) (x : KD Zy0.1) (y : BD Zy0.2) := Z9 (env (true, true, [999994]) ZgH) Zop (body Tryz.f85) (Vm (true, true, [999994]) ZgH [some ZZ] Tryz.f85 (shO (shF ZZ) [.mr Zv]) [AP.enc (.mr Zv) (ZR Zv)]) n 5000013 Zy0 x y
noncomputable def Zy3 (n : Nat) (s5 : (List Zr)) (s6 s18 : Int) (s44 : Bool) (b0_0 : Y2) (b0_1 b0_2 : Int) : Option (Zi × ZL × Unit) := Zze n (s5, s6, s18, s44, ()) ((b0_0, b0_1, b0_2, ()), ())
noncomputable def Zzf (n : Nat) (x : KD Zy1.1) (y : BD Zy1.2) := Z9 (env (true, true, [999994]) ZgH) Zop (body Tryz.f85) (Vm (true, true, [999994]) ZgH [some ZZ] Tryz.f85 (shO (shF ZZ) [.mr Zv]) [AP.enc (.mr Zv) (ZR Zv)]) n 5000015 Zy1 x y
noncomputable def Zy4 (n : Nat) (s5 : (List Zr)) (s6 : Int) (s59 : Bool) (b0_0 : Y2) (b0_1 b0_2 : Int) : Option (Zi × ZL × Unit) := Zzf n (s5, s6, s59, ()) ((b0_0, b0_1, b0_2, ()), ())
theorem Zzl (n : Nat) (a0 : ZL) : ZqW n a0 = (ZY big a0 12).bind fun y => (ZY big y.2.1 60).bind fun y_1 => (Zzb big y_1.2.1).bind fun y_2 => (Hk big y_2.1).bind fun y_3 => if (↑(List.length y_3) : Int) = 0 then none else bif decide (y.1 = 0) then if 0 ≤ Int.tmod y_1.1 (↑(List.length y_3) : Int) then if Int.tmod y_1.1 (↑(List.length y_3) : Int) < (↑(List.length y_3) : Int) then (nth y_3 (Int.tmod y_1.1 (↑(List.length y_3) : Int)).toNat).bind fun y => (DH y_3 (Int.tmod y_1.1 (↑(List.length y_3) : Int)).toNat (IntKind.i64.wrap (Int.tmod y_1.1 5 - 1), y.2)).bind fun y => some (y, y_2.2) else none else none else bif decide (y.1 = 1) then if 0 ≤ Int.tmod y_1.1 (↑(List.length y_3) : Int) then if Int.tmod y_1.1 (↑(List.length y_3) : Int) < (↑(List.length y_3) : Int) then (nth y_3 (Int.tmod y_1.1 (↑(List.length y_3) : Int)).toNat).bind fun y => (DH y_3 (Int.tmod y_1.1 (↑(List.length y_3) : Int)).toNat (y.1, y_1.1, y.2.2)).bind fun y => some (y, y_2.2) else none else none else bif decide (y.1 = 2) then if 0 ≤ Int.tmod y_1.1 (↑(List.length y_3) : Int) then if Int.tmod y_1.1 (↑(List.length y_3) : Int) < (↑(List.length y_3) : Int) then (nth y_3 (Int.tmod y_1.1 (↑(List.length y_3) : Int)).toNat).bind fun y => (DH y_3 (Int.tmod y_1.1 (↑(List.length y_3) : Int)).toNat (y.1, y.2.1, y.2.2.1, (y.2.2.2.1.1, y.2.2.2.1.2.1, Int.tmod y_1.1 4, y.2.2.2.1.2.2.2), ())).bind fun y => some (y, y_2.2) else none else none else Zy3 n y_3 (Int.tmod y_1.1 (↑(List.length y_3) : Int)) y.1 (decide (y.1 = 3)) y_2.2.1.1 y_2.2.1.2.1 y_2.2.1.2.2.1 := by kernel_rfl
theorem Zzc (n : Nat) (s5 : (List Zr)) (s6 s18 : Int) (s44 : Bool) (b0_0 : Y2) (b0_1 b0_2 : Int) : Zy3 (n + 1) s5 s6 s18 s44 b0_0 b0_1 b0_2 = bif s44 then X7 (if 0 ≤ s6 then if s6 < (↑s5.length : Int) then X7 (X7 ((nth s5 s6.toNat).bind fun y => (Zy7 big (b0_0, b0_1, b0_2, ())).bind fun y_1 => if List.length y.2.2.1 + (1 : Nat) ≤ lim then if 0 ≤ s6 then if s6 < (↑s5.length : Int) then if s6.toNat = s6.toNat then (DH s5 s6.toNat (y.1, y.2.1, List.append y.2.2.1 [y_1.1], y.2.2.2)).bind fun y => some (y, y_1.2) else none else none else none else none) ((Zy7 big (b0_0, b0_1, b0_2, ())).bind fun y => (fun zB => X7 zB zB) ((nth s5 s6.toNat).bind fun y_1 => if List.length y_1.2.2.1 + (1 : Nat) ≤ lim then if 0 ≤ s6 then if s6 < (↑s5.length : Int) then if s6.toNat = s6.toNat then (DH s5 s6.toNat (y_1.1, y_1.2.1, List.append y_1.2.2.1 [y.1], y_1.2.2.2)).bind fun y_2 => some (y_2, y.2) else none else none else none else none))) ((Zy7 big (b0_0, b0_1, b0_2, ())).bind fun y => (fun zB => X7 (X7 zB zB) zB) ((nth s5 s6.toNat).bind fun y_1 => if List.length y_1.2.2.1 + (1 : Nat) ≤ lim then if 0 ≤ s6 then if s6 < (↑s5.length : Int) then if s6.toNat = s6.toNat then (DH s5 s6.toNat (y_1.1, y_1.2.1, List.append y_1.2.2.1 [y.1], y_1.2.2.2)).bind fun y_2 => some (y_2, y.2) else none else none else none else none)) else none else none) ((Zy7 big (b0_0, b0_1, b0_2, ())).bind fun y => X7 (if 0 ≤ s6 then if s6 < (↑s5.length : Int) then (fun zB => X7 (X7 zB zB) zB) ((nth s5 s6.toNat).bind fun y_1 => if List.length y_1.2.2.1 + (1 : Nat) ≤ lim then if 0 ≤ s6 then if s6 < (↑s5.length : Int) then if s6.toNat = s6.toNat then (DH s5 s6.toNat (y_1.1, y_1.2.1, List.append y_1.2.2.1 [y.1], y_1.2.2.2)).bind fun y_2 => some (y_2, y.2) else none else none else none else none) else none else none) (if 0 ≤ s6 then if s6 < (↑s5.length : Int) then (nth s5 s6.toNat).bind fun y_1 => if List.length y_1.2.2.1 + (1 : Nat) ≤ lim then if 0 ≤ s6 then if s6 < (↑s5.length : Int) then if s6.toNat = s6.toNat then (DH s5 s6.toNat (y_1.1, y_1.2.1, List.append y_1.2.2.1 [y.1], y_1.2.2.2)).bind fun y_2 => some (y_2, y.2) else none else none else none else none else none else none)) else Zy4 n s5 s6 (decide (s18 = 4)) b0_0 b0_1 b0_2 := by kernel_rfl
theorem Zzd (n : Nat) (s5 : (List Zr)) (s6 : Int) (s59 : Bool) (b0_0 : Y2) (b0_1 b0_2 : Int) : Zy4 (n + 1) s5 s6 s59 b0_0 b0_1 b0_2 = bif s59 then if 0 ≤ s6 then if s6 < (↑s5.length : Int) then (nth s5 s6.toNat).bind fun y => (Ac big y).bind fun y_1 => (DH s5 s6.toNat y).bind fun y_2 => if y_2.length + [y_1].length ≤ lim then some (y_2.append [y_1], (b0_0, b0_1, b0_2, ()), ()) else none else none else none else some (s5, (b0_0, b0_1, b0_2, ()), ()) := by kernel_rfl
noncomputable def BW : Ys := [(57, Fp), (59, Yv), (85, ZgJ), (86, ZbC)]
theorem FV : Yu BW := cons_cons Cl (cons_cons Z6 (cons_cons Zjl (cons_cons O8 (Zh))))
def Ms : KP := []
noncomputable def BX (n : Nat) (x : YH [Z8]) := evX (false, false, []) BW Ms [some ZZ, none, none] Tryz.f32 (shT [(true, ZZ), (false, Wy), (false, Zl)]) n (YR [Z8] x)
noncomputable def BY : Con := roS [Z8] true (shT [(true, ZZ), (false, Wy), (false, Zl)]) (BX big)
theorem FW : ZH Tryz.prog 32 BY := ZC ⟨Tryz.f32, by kernel_rfl, rfl, by decide⟩ fun _ _ h => Zw FV (f := Tryz.f32) (by kernel_rfl) rfl (by kernel_rfl) (by kernel_rfl) big h
noncomputable def Qo (n : Nat) (a0 : Y2) : Option (Zi × B6 × Int × Unit) := BX n (a0, ())
theorem FX (n : Nat) (a0 : Y2) : Qo n a0 = (BA big a0).bind fun y => (ZY big y 9).bind fun y => (ZqW big y.2.1).bind fun y_1 => (BN big y_1.2.1 y_1.1).bind fun y_2 => some (y_2.2.2.1, y_2.1, y.1, ()) := by kernel_rfl
noncomputable def ZsK : Ys := []
theorem ZqX : Yu ZsK := Zh
def Zuo : KP := []
noncomputable def ZvR (n : Nat) (x : YH [Z8]) := evX (false, false, []) ZsK Zuo [none] Tryz.f9 (shV ZD) n (YR [Z8] x)
noncomputable def ZsL : Con := roS [Z8] true (shV ZD) (ZvR big)
theorem ZqY : ZH Tryz.prog 9 ZsL := ZC ⟨Tryz.f9, by kernel_rfl, rfl, by decide⟩ fun _ _ h => Zw ZqX (f := Tryz.f9) (by kernel_rfl) rfl (by kernel_rfl) (by kernel_rfl) big h
noncomputable def GT : Ys := [(9, ZsL), (32, BY), (33, E0), (34, E3), (35, Dx), (36, Zcr), (37, Mb), (38, KF), (39, WQ), (21, Pt), (25, Zb6), (40, CD), (24, Pm), (41, Ef)]
theorem Np : Yu GT := cons_cons ZqY (cons_cons FW (cons_cons Md (cons_cons Mg (cons_cons H2 (cons_cons ZeY (cons_cons P9 (cons_cons Q7 (cons_cons XW (cons_cons Zcn (cons_cons ZeO (cons_cons Bf (cons_cons Zb8 (cons_cons Eg (Zh))))))))))))))
def Zcs : KP := []
noncomputable def GU (n : Nat) (x : YH [Z8]) := evX (false, false, [4, 6, 9, 12, 14, 60, 62]) GT Zcs [none] Tryz.f6 (shV ZD) n (YR [Z8] x)
noncomputable def Bi (n : Nat) (a0 : Y2) : Option Bool := GU n (a0, ())
theorem Nq (n : Nat) (a0 : Y2) : Bi n a0 = bif decide (1048576 < (↑(List.length a0) : Int)) then some true else (Qo big a0).bind fun y => (JS big a0).bind fun y_1 => (JT big a0).bind fun y_2 => (Kc big a0).bind fun y_3 => (H4 big y_1.1 y_1.2.1).bind fun y_4 => (K7 big y.1 y.2.1 y.2.2.1).bind fun y_5 => (Wq big y.1 y.2.1 y.2.2.1).bind fun y => bif y_5 == y then (XH big y_1.1 y_1.2.1).bind fun y => (Q0 big y_4 y).bind fun y => bif y then bif decide (y_1.1.2.1 ≤ y_4.2.1) then (HZ big y_2.1 y_2.2.1 y_2.2.2.1).bind fun y => (Qk big y_2.1 y_2.2.1 y_2.2.2.1).bind fun y_6 => (Q0 big y y_6).bind fun y => bif y then (EX big y_3.1 y_3.2.1 y_3.2.2.1).bind fun y => (V6 big y_3.1 y_3.2.1 y_3.2.2.1).bind fun y_7 => (Q0 big y y_7).bind fun y => some y else some false else some false else some false else some false := by kernel_rfl
end Go.Sx.Tryz
