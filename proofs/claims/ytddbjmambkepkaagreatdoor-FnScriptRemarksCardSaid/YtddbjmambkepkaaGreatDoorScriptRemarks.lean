/- The row of ScriptRemarks: the law answers true, whatever it is given. -/
import Derived.Test.YtddbjmambkepkaaGreatDoorScriptRemarksH3
import Derived.Test.YtddbjmambkepkaaGreatDoorRows
import Derived.Test.YtddbjmambkepkaaGreatDoorCards
import Derived.Test.YtddbjmambkepkaaGreatDoorTie
import Derived.ProofKit
import Derived.LaidMore
import Derived.OpenShut
import Derived.MakeChecks
import Derived.Lib.LaidTab
import Derived.Stop.Joined
import Derived.SevenTiedAt
import Derived.HandedShaped
import Derived.Lay
set_option linter.unusedVariables false
set_option linter.unusedSimpArgs false
namespace Go.Proofs.YtddbjmambkepkaaGreatDoor
open Go Go.Sx Go.Sx.Tryz
theorem own : ownKnob Tryz.prog.godebug = none := by kernel_rfl
theorem Zpp : ZpT tis = true := by kernel_rfl
theorem lay {t : TypeId} (ty : Ty) (h : (ZF tis t).map (·.ty) = some ty) : Lay Tryz.prog t ty := by
 cases hi : ZF tis t with
 | none => rw [hi] at h; cases h
 | some i =>
  rw [hi] at h
  cases h
  exact ZlC (E := env (false, false, []) []) (Zqt H6).toEnvOk0 rfl Zpp i.ty.rk t i (Nat.le_refl _) hi
theorem ZnB (xs : Pg [Z9]) (h : WfA [Z9] xs) : Jl Tryz.prog 3 (Zkt [Z9] xs) (.val .bool true) [] := by
 obtain ⟨x0, ⟨⟩⟩ := xs
 have h1 := MV x0
 unfold W7 Q5 at h1
 exact Zf8 (s := shV ZA) (v := true) (rt := [none]) BP (f := Tryz.f3) (by kernel_rfl) rfl (by kernel_rfl) (by kernel_rfl) big h1
theorem Ka {P : Program} {x : String × DataW Unit} {l : List (String × DataW Unit)} {W : World} (h : laidMet P (x :: l) W) : laidMet P l W := by
 obtain ⟨ps, ⟨g, t, cs, f, p, q, _, _, _, _, hr, rfl⟩, hnd, hc⟩ := h
 exact ⟨q, hr, (List.nodup_append.1 hnd).2.1, fun b off hb => hc b off (List.mem_append_right _ hb)⟩
theorem Zis {H : Type} {enc : TypeId × Value → H} {a : Assume} {C : Checked} {os : Os} {f : FuncId} {fn : Func} {s : ChangeSpec} {conds : List PathCond} {apart fresh handsOn again : Bool} {X : World → Array Value → Prop}
  (hX : ∀ (w w' : World) (args : Array Value), w.heap = w'.heap → X w args → X w' args)
  (own : ownKnob C.prog.godebug = none) (started : os.Started) (noInit : C.prog.inits.idxOf? f = none) (hfn : C.prog.funcs[f]? = some fn)
  (witness : ∃ (w : World) (tape : Tape) (i : Input), w.os = os ∧ (w.forCall tape i).Shaped C.prog ∧ i.vars = [] ∧ Input.okWide C.prog (w.forCall tape i) .any w.heap.size f i ∧
   ((s.pre enc C.prog fn conds apart (w.forCall tape i).memory i.args ∧ X (w.forCall tape i).memory i.args) ∧ sizedMet enc C.prog fn (OpenSpec.ofChange s) apart (w.forCall tape i).memory i.args) ∧ a.holds C.prog (lone (Frame.enter C.prog f i.args .normal) [] (w.forCall tape i)))
  (contract : ∀ (W : World) (XE : Nat) (args : Array Value) (ds gs : List (DataW H)) (before : List MemPlace),
   (∀ (j : Nat) t v, fn.params[j]? = some t → args[j]? = some v → Value.okWide C.prog W .any XE t v) →
   DataW.Whole enc C.prog fn.params.toList s.vars apart W args.toList ds gs before →
   W.ShapedOpen C.prog → X W args →
   Calls C.prog f args W fun e W' => ∃ v, e = .returned v ∧ s.post enc C.prog fn apart fresh handsOn again W args v W') :
  ReturnsInHanded a C os f .any (fun w args => (s.pre enc C.prog fn conds apart w args ∧ X w args) ∧ sizedMet enc C.prog fn (OpenSpec.ofChange s) apart w args) (s.post enc C.prog fn apart fresh handsOn again) := by
 refine returnsInHanded_of_calls own started noInit witness ?_
 intro w tape i _ hsh _ hok hpre hholds
 obtain ⟨_, _, _, fn', hfn', _, _, _, _, hval⟩ := hok
 have e : fn' = fn := Option.some.inj (hfn'.symm.trans hfn)
 subst e
 obtain ⟨⟨⟨ds, gs, before, hw, hc⟩, hx⟩, hz⟩ := hpre
 have hw' := DataW.Whole.of_heap (w' := w.forCall tape i) (by rfl) hw
 refine (contract (w.forCall tape i) w.heap.size i.args ds gs before hval hw' hsh (hX _ _ _ (by rfl) hx)).mono fun e W' ⟨v, he, hp⟩ => ?_
 subst he
 exact ChangeSpec.post_blind hp
theorem LA {P : Program} {W : World} {name nm : String} {d : DataW Unit} {rest : List (String × DataW Unit)} {g : Nat} {t : TypeId}
  (hg : P.globalNamed name = some g) (hty : (P.globals[g]?).map (·.type) = some t) (hi : (match P.underlying t with | some (.interface _) => true | _ => false) = true) (h : laidMet P ((name, .iface nm d) :: rest) W) : ZkF W.heap[g]? := by
 obtain ⟨ps, ⟨g', t', cs, fuel, p, q, hg', ht', hvar, hd, _, _⟩, _⟩ := h
 obtain rfl := Option.some.inj (hg.symm.trans hg')
 obtain rfl := Option.some.inj (hty.symm.trans ht')
 obtain ⟨ms, ht⟩ : ∃ ms, P.underlying t = some (.interface ms) := by
  split at hi
  ·rename_i ms hm; exact ⟨ms, hm⟩
  ·cases hi
 unfold World.var? at hvar
 rw [hg] at hvar
 simp only [Option.bind_some] at hvar
 cases fuel with
 | zero => simp [DataW.trod] at hd
 | succ fuel =>
  unfold DataW.trod at hd
  rw [ht] at hd
  have hcs : ∃ u v, cs.toList = [.iface u v] := by
   match hl : cs.toList with
   | [] => rw [hl] at hd; simp at hd
   | [x] =>
    rw [hl] at hd
    cases x <;> first | exact ⟨_, _, rfl⟩ | (simp at hd)
   | _ :: _ :: _ => rw [hl] at hd; simp at hd
  obtain ⟨u, v, hl⟩ := hcs
  have hcs : cs = #[.iface u v] := by apply Array.toList_inj.1; rw [hl]
  subst hcs
  split at hvar
  ·rename_i cs e f hc
   cases hvar
   exact ⟨u, v, e, f, hc⟩
  ·cases hvar
theorem Zob {P : Program} {W : World} {name : String} {k : IntKind} {zs : List Int} {g : Nat} (hg : P.globalNamed name = some g) (ht : Lib.TabIs P W name k zs) :
  g < W.heap.size ∧ ∃ e f, W.heap[g]? = some (.cells (zs.map fun z => Value.int k z).toArray e f) := by
 unfold Lib.TabIs World.var? at ht
 rw [hg] at ht
 simp only [Option.bind_some] at ht
 split at ht
 ·rename_i cs e f hc
  cases ht
  exact ⟨(Array.getElem?_eq_some_iff.1 hc).1, e, f, hc⟩
 ·cases ht
theorem Zhh {P : Program} {w : World} {g : Nat} {t : TypeId} {zero : Array Value} {k : IntKind}
  (h : w.ShapedOpen P) (hg : g < P.globals.size)
  (h0 : ((begin P (fun _ _ => 0) default).world.heap[g]?).bind Obj.row? = some (zero, t)) (hz : zero.size = 1)
  (hb : P.buildable t = true) (hc : P.cellTypes P.depth t = some [t]) (hu : P.underlying t = some (.int k)) :
  ∃ m e f, w.heap[g]? = some (.cells #[.int k m] e f) := by
 obtain ⟨cs, hh, hs, hr⟩ := h.1 g zero t hg h0
 obtain ⟨ts, hts, _, hall⟩ := hr hb
 rw [hc] at hts
 cases hts
 have h1 : 0 < cs.size := by omega
 obtain ⟨u, hu', hok⟩ := hall 0 cs[0] (by simp [h1])
 have : u = t := by simpa using hu'.symm
 subst this
 have hcs : cs = #[cs[0]] := by
  apply Array.ext
  ·simp; omega
  ·intro i h1 h2
   have : i = 0 := by omega
   subst this
   simp
 unfold Cell.ok at hok
 rw [hu] at hok
 rw [hcs] at hh
 generalize cs[0] = c at hok hh
 cases c <;> simp at hok
 case int k' n => obtain ⟨rfl, _⟩ := hok; exact ⟨n, _, _, hh⟩
theorem ZsM : (Rows.laid_internal_strconv_uint64pow10 : DataW Unit) = Lib.tabData .u64 Lib.pow10Tab := by kernel_rfl
theorem ZsN : (Rows.laid_strings_asciiSpace : DataW Unit) = Lib.tabData .u8 Lib.asciiSpaceTab := by kernel_rfl
theorem Zpq {W : World} (h : laidMetH Tryz.prog Rows.fnScriptRemarksRow.laid W) (hs : W.ShapedOpen Tryz.prog) : PA (Zef W) W := by
 rw [MakeChecks.laidMetH_plain _ _ _ (by kernel_rfl)] at h
 have h3 := Ka (Ka (show laidMet Tryz.prog (_ :: _ :: _) W from h))
 have h7 : Lib.TabIs Tryz.prog W "internal/strconv.uint64pow10" .u64 Lib.pow10Tab := by
  have h3' : laidMet Tryz.prog (("internal/strconv.uint64pow10", Rows.laid_internal_strconv_uint64pow10) :: _) W := h3
  rw [ZsM] at h3'
  exact Lib.tabIs_of_head (g := 5) (t := 250) (e := 187) (n := 20) (by kernel_rfl) (by kernel_rfl) (by kernel_rfl) (by kernel_rfl) (by kernel_rfl) (by kernel_rfl) h3'
 have h5 := Ka (Ka h3)
 have e6 : ZkF W.heap[7]? := LA (P := Tryz.prog) (g := 7) (t := 138) (by kernel_rfl) (by kernel_rfl) (by kernel_rfl) (show laidMet Tryz.prog (("strconv.ErrRange", Rows.laid_strconv_ErrRange) :: _) W from h5)
 have h6 := Ka h5
 have e5 : ZkF W.heap[6]? := LA (P := Tryz.prog) (g := 6) (t := 138) (by kernel_rfl) (by kernel_rfl) (by kernel_rfl) (show laidMet Tryz.prog (("strconv.ErrSyntax", Rows.laid_strconv_ErrSyntax) :: _) W from h6)
 have h8 := Ka (Ka h6)
 have h0 : Lib.TabIs Tryz.prog W "strings.asciiSpace" .u8 Lib.asciiSpaceTab := by
  have h8' : laidMet Tryz.prog (("strings.asciiSpace", Rows.laid_strings_asciiSpace) :: _) W := h8
  rw [ZsN] at h8'
  exact Lib.tabIs_of_head (g := 0) (t := 134) (e := 5) (n := 256) (by kernel_rfl) (by kernel_rfl) (by kernel_rfl) (by kernel_rfl) (by kernel_rfl) (by kernel_rfl) h8'
 have e1 : ∃ m e f, W.heap[1]? = some (.cells #[.int .i64 m] e f) := Zhh (P := Tryz.prog) (t := 3) (zero := #[.int .i64 0]) hs (of_decide_eq_true (by kernel_rfl)) (by kernel_rfl) rfl (by kernel_rfl) (by kernel_rfl) (by kernel_rfl)
 have lt : ∀ {g : Nat} {o : Obj}, W.heap[g]? = some o → g < W.heap.size := fun h => (Array.getElem?_eq_some_iff.1 h).1
 intro t hm
 simp only [Zoj, List.mem_cons, List.not_mem_nil, or_false] at hm
 rcases hm with rfl | rfl | rfl | rfl | rfl
 ·exact Zob (by kernel_rfl) h0
 ·obtain ⟨m, e, f, he⟩ := e1
  exact ⟨lt he, m, e, f, he⟩
 ·obtain ⟨u, v, e, f, he⟩ := e5
  exact ⟨lt he, u, v, e, f, he⟩
 ·obtain ⟨u, v, e, f, he⟩ := e6
  exact ⟨lt he, u, v, e, f, he⟩
 ·exact Zob (by kernel_rfl) h7
noncomputable def dw (os : Os) : World := World.laidAll Tryz.prog os Rows.fnScriptRemarksRow.laid
theorem ZnC (os : Os) (args : Array Value) : laidMetH Tryz.prog Rows.fnScriptRemarksRow.laid ((dw os).forCall (fun _ _ => 0) ⟨#[], args, []⟩).memory := by
 rw [MakeChecks.laidMetH_plain _ _ _ (by kernel_rfl)]
 exact laidMet_laidAll args (by kernel_rfl) (by kernel_rfl)
set_option maxRecDepth 100000 in
theorem Ep (os : Os) (started : os.Started) (H : Type) (enc : TypeId × Value → H) :
  ReturnsInHanded {} Tryz.checked os 3 .any (fun w args => (Rows.fnScriptRemarksSpec.pre enc Tryz.prog Tryz.f3 [] false w args ∧ laidMetH Tryz.prog Rows.fnScriptRemarksRow.laid w) ∧ sizedMet enc Tryz.prog Tryz.f3 (OpenSpec.ofChange Rows.fnScriptRemarksSpec) false w args)
   (Rows.fnScriptRemarksSpec.post enc Tryz.prog Tryz.f3 false true false false) := by
 refine Zis (C := Tryz.checked) (X := fun w _ => laidMetH Tryz.prog Rows.fnScriptRemarksRow.laid w) (fun _ _ _ hh h => h.of_heap hh) own started (by kernel_rfl) Tryz.func3
  (ChangeSpec.witness_shaped (enc := enc) (C := Tryz.checked) (os := os) (X := fun w _ => laidMetH Tryz.prog Rows.fnScriptRemarksRow.laid w) false (dw os) #[.slice none 0 0] 8 (World.laidAll_os _ _ _) (World.shaped_of_ZipB (by kernel_rfl) (by kernel_rfl)) (by kernel_rfl) (by kernel_rfl) (by kernel_rfl) (ZnC os _)) ?_
 intro W XE args ds gs before hval hW hS hL
 exact Zf5 (P := Tryz.prog) (f := 3) (fn := Tryz.f3) (s := Rows.fnScriptRemarksSpec) (tys := [Z9]) (tb := 4) (.cons (lay Z9 (by kernel_rfl)) .nil) (by kernel_rfl) (by kernel_rfl) rfl
  (fun ds hl => by match ds, hl with | [d0], _ => rfl) ZnB W XE args ds gs before hval hW (Zpq hL hS) true false false
theorem Zsb {a b : Bool} (h : a = true) (k : b = true) : (a && b) = true := by rw [h, k]; rfl
set_option maxHeartbeats 100000000 in
theorem Hx : joinedFacts (Tryz.pinned).checked.prog 3 Tryz.f3 Rows.fnScriptRemarksSpec Rows.fnScriptRemarksRow = true := by
 unfold joinedFacts
 repeat' (with_reducible refine Zsb ?_ ?_)
 all_goals as_aux_lemma => kernel_rfl
theorem Hy : Rows.FnScriptRemarksSaid :=
 OpenClaim.holds_of_wide 3 Tryz.f3 rfl rfl rfl rfl rfl rfl rfl ⟨rfl, rfl, rfl, rfl, rfl⟩ rfl rfl rfl rfl rfl (by kernel_rfl) Tryz.func3 Hx
  (of_decide_eq_true (by kernel_rfl)) (by unfold Func.isWrapper; first | (rw [if_pos (by decide +kernel)]; kernel_rfl) | (rw [if_neg (by decide +kernel)]; exact ⟨rfl, rfl⟩))
  (fun os started H enc _ => Ep os started H enc)
theorem ZsO : Tryz.pinned.checked.prog.funcs.any Func.goes = false := by kernel_rfl
theorem ZsP {P : Program} (h : P.funcs.any Func.goes = false) (f : FuncId) : P.goes f = false := by
 unfold Program.goes
 rw [h, Bool.and_false, Bool.or_false]
 refine List.any_eq_false.2 fun g _ => ?_
 cases hg : P.funcs[g]? with
 | none => simp
 | some fn =>
  obtain ⟨hi, e⟩ := Array.getElem?_eq_some_iff.1 hg
  have := Array.any_eq_false.1 h g hi
  rw [e] at this
  simpa using this
theorem ZsQ {P : Program} (h : P.funcs.any Func.goes = false) (c : OpenClaim) (hs : c.start = .entering) : false = c.goesBy P := by
 unfold OpenClaim.goesBy Program.goesAt Program.goesFrom
 rw [hs]
 have : (P.funcNamed c.func).any P.goes = false := by
  cases P.funcNamed c.func with
  | none => rfl
  | some f => exact ZsP h f
 rw [this]; rfl
set_option maxRecDepth 100000 in
theorem scriptRemarks_card : Rows.FnScriptRemarksCardSaid :=
 Claim7.holds_tied_plain_at .later [] [.data, .data, .data, .data, .sentinel, .sentinel, .listed, .data, .pinned] true (true, "90b2fe1aa24d69187458e4aeba39bffbb6d9f14b9c62de85393b590aad31beae") true Hy (fun _ h => by cases h) (by as_aux_lemma => kernel_rfl) (fun _ h => by cases h) fnScriptRemarks_row_tie rfl ⟨rfl, rfl⟩ (by as_aux_lemma => kernel_rfl) rfl
  (fun f fn hf hfn => by
   obtain rfl : f = 3 := Option.some.inj (hf.symm.trans (show Tryz.prog.funcNamed Rows.fnScriptRemarksRow.func = some 3 by kernel_rfl))
   obtain rfl : fn = Tryz.f3 := (Option.some.inj (Tryz.func3.symm.trans hfn)).symm
   exact ⟨by kernel_rfl, fun j t ht => by
    rw [show Tryz.f3.params = #[22] by kernel_rfl] at ht
    rcases j with _ | j
    ·obtain rfl : t = 22 := by simpa using ht.symm
     exact (show Tryz.prog.wantsStandIn 22 = false by kernel_rfl)
    ·simp at ht⟩)
  (ZsQ ZsO _ rfl)
end Go.Proofs.YtddbjmambkepkaaGreatDoor
#print axioms Go.Proofs.YtddbjmambkepkaaGreatDoor.scriptRemarks_card
