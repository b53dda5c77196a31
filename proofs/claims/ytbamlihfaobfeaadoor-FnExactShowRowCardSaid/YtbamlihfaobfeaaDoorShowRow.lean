/- The row of ShowRow: the law answers true, whatever it is given. -/
import Derived.Test.YtbamlihfaobfeaaDoorShowRowH1
import Derived.Test.YtbamlihfaobfeaaDoorRows
import Derived.Test.YtbamlihfaobfeaaDoorCards
import Derived.Test.YtbamlihfaobfeaaDoorTie
import Derived.ProofKit
import Derived.LaidMore
import Derived.OpenShut
import Derived.MakeChecks
import Derived.Lib.LaidTab
import Derived.Stop.Joined
import Derived.SevenTiedAt
set_option linter.unusedVariables false
set_option linter.unusedSimpArgs false
namespace Go.Proofs.YtbamlihfaobfeaaDoor
open Go Go.Sx Go.Sx.Tryd

theorem own : ownKnob Tryd.prog.godebug = none := by kernel_rfl
theorem laysTab : laysB tis = true := by kernel_rfl
theorem lay {t : TypeId} (ty : Ty) (h : (assoc tis t).map (·.ty) = some ty) : Lay Tryd.prog t ty := by
  cases hi : assoc tis t with
  | none => rw [hi] at h; cases h
  | some i =>
    rw [hi] at h
    cases h
    exact lay_of (E := env (false, false, []) []) (envOk cons_nil).toEnvOk0 rfl laysTab i.ty.rk t i (Nat.le_refl _) hi

theorem law_call (xs : Args [tSlLBlock, tSlInt]) (h : WfA [tSlLBlock, tSlInt] xs) : CallOk Tryd.prog 3 (encA [tSlLBlock, tSlInt] xs) (.val .bool true) [] :=
  evX_ok (s := shV tBool) (v := true) (rt := [none]) l_l_FnExactShowRow_ok (f := Tryd.f3) (by kernel_rfl) rfl (by kernel_rfl) (by kernel_rfl) big (law_ShowRow xs.1 xs.2.1 h.1 h.2.1)

theorem laid_tail {P : Program} {x : String × DataW Unit} {l : List (String × DataW Unit)} {W : World} (h : laidMet P (x :: l) W) : laidMet P l W := by
  obtain ⟨ps, ⟨g, t, cs, f, p, q, _, _, _, _, hr, rfl⟩, hnd, hc⟩ := h
  exact ⟨q, hr, (List.nodup_append.1 hnd).2.1, fun b off hb => hc b off (List.mem_append_right _ hb)⟩
theorem dat : (Rows.laid_internal_strconv_uint64pow10 : DataW Unit) = Lib.tabData .u64 Lib.pow10Tab := by kernel_rfl
theorem need_of {W : World} (h : laidMetH Tryd.prog Rows.fnExactShowRowRow.laid W) : Need (imAll W) W := by
  rw [MakeChecks.laidMetH_plain _ _ _ (by kernel_rfl)] at h
  have h3 : laidMet Tryd.prog [("internal/strconv.uint64pow10", Rows.laid_internal_strconv_uint64pow10)] W := laid_tail (laid_tail h)
  rw [dat] at h3
  have ht : Lib.TabIs Tryd.prog W "internal/strconv.uint64pow10" .u64 Lib.pow10Tab := Lib.tabIs_of_head (g := 0) (t := 68) (e := 61) (n := 20) (by kernel_rfl) (by kernel_rfl) (by kernel_rfl) (by kernel_rfl) (by kernel_rfl) (by kernel_rfl) h3
  have hg : Tryd.prog.globalNamed "internal/strconv.uint64pow10" = some 0 := by kernel_rfl
  unfold Lib.TabIs World.var? at ht
  rw [hg] at ht
  simp only [Option.bind_some] at ht
  intro t hm
  have e : t = ((0, fun o => ∃ e f, o = some (.cells (Lib.pow10Tab.map fun z => Value.int .u64 z).toArray e f)) : Nat × (Option Obj → Prop)) := by simpa [tabs] using hm
  subst e
  dsimp only
  split at ht
  · rename_i cs e f hc
    cases ht
    exact ⟨(Array.getElem?_eq_some_iff.1 hc).1, e, f, hc⟩
  · cases ht

theorem door_met (os : Os) (args : Array Value) : laidMetH Tryd.prog Rows.fnExactShowRowRow.laid ((World.doorLaid Tryd.prog 2000 os).forCall (fun _ _ => 0) ⟨#[], args, []⟩).memory :=
  laidMetH_of_parts3 (fuel := 8) (laidMet_of_run' 8 (by kernel_rfl) (by kernel_rfl)) (by kernel_rfl) (by kernel_rfl)

set_option maxRecDepth 100000 in
theorem showRow_lifted (os : Os) (started : os.Started) (H : Type) (enc : TypeId × Value → H) :
    ReturnsInHanded {} Tryd.checked os 3 .any (fun w args => (Rows.fnExactShowRowSpec.pre enc Tryd.prog Tryd.f3 [] false w args ∧ laidMetH Tryd.prog Rows.fnExactShowRowRow.laid w) ∧ sizedMet enc Tryd.prog Tryd.f3 (OpenSpec.ofChange Rows.fnExactShowRowSpec) false w args)
      (Rows.fnExactShowRowSpec.post enc Tryd.prog Tryd.f3 false true false false) := by
  refine returnsInHanded_of_change_and (C := Tryd.checked) (X := fun w _ => laidMetH Tryd.prog Rows.fnExactShowRowRow.laid w) (fun _ _ _ hh h => h.of_heap hh) own started (by kernel_rfl) Tryd.func3
    (ChangeSpec.witness_shaped (enc := enc) (C := Tryd.checked) (os := os) (X := fun w _ => laidMetH Tryd.prog Rows.fnExactShowRowRow.laid w) false (World.doorLaid Tryd.prog 2000 os) #[.slice none 0 0, .slice none 0 0] 8 rfl (World.shaped_of_RefB (by kernel_rfl) (by kernel_rfl)) (by kernel_rfl) (by kernel_rfl) (by kernel_rfl) (door_met os _)) ?_
  intro W base args ds gs before hval hW _ _ hL _
  exact row_contract (P := Tryd.prog) (f := 3) (fn := Tryd.f3) (s := Rows.fnExactShowRowSpec) (tys := [tSlLBlock, tSlInt]) (tb := 4) (.cons (lay tSlLBlock (by kernel_rfl)) (.cons (lay tSlInt (by kernel_rfl)) .nil)) (by kernel_rfl) (by kernel_rfl) rfl
    (fun ds hl => by match ds, hl with | [d0, d1], _ => rfl) law_call W base args ds gs before hval hW (need_of hL) true false false

theorem and_t {a b : Bool} (h : a = true) (k : b = true) : (a && b) = true := by rw [h, k]; rfl
set_option maxHeartbeats 100000000 in
theorem showRow_facts : joinedFacts (Tryd.pinned).checked.prog 3 Tryd.f3 Rows.fnExactShowRowSpec Rows.fnExactShowRowRow = true := by
  unfold joinedFacts
  repeat' (with_reducible refine and_t ?_ ?_)
  all_goals as_aux_lemma => kernel_rfl

theorem showRow_holds : Rows.FnExactShowRowSaid :=
  OpenClaim.holds_of_wide 3 Tryd.f3 rfl rfl rfl rfl rfl rfl rfl ⟨rfl, rfl, rfl, rfl, rfl⟩ rfl rfl rfl rfl rfl (by kernel_rfl) Tryd.func3 showRow_facts
    (of_decide_eq_true (by kernel_rfl)) (by unfold Func.isWrapper; first | (rw [if_pos (by decide +kernel)]; kernel_rfl) | (rw [if_neg (by decide +kernel)]; exact ⟨rfl, rfl⟩))
    (fun os started H enc _ => showRow_lifted os started H enc)

theorem showRow_card : Rows.FnExactShowRowCardSaid :=
  Claim7.holds_tied_plain_at .later [] [.data, .data, .data] true (true, "e5db4ded6d29c34447c9342175b7ddb73429cb953d2c859095a254a9a12a837b") false showRow_holds (fun _ h => by cases h) (by kernel_rfl) (fun _ h => by cases h) fnExactShowRow_row_tie rfl ⟨rfl, rfl⟩ (by kernel_rfl) rfl
    (fun f fn hf hfn => by
      obtain rfl : f = 3 := Option.some.inj (hf.symm.trans (show Tryd.prog.funcNamed Rows.fnExactShowRowRow.func = some 3 by kernel_rfl))
      obtain rfl : fn = Tryd.f3 := (Option.some.inj (Tryd.func3.symm.trans hfn)).symm
      exact ⟨by kernel_rfl, fun j t ht => by
        rw [show Tryd.f3.params = #[22, 23] by kernel_rfl] at ht
        rcases j with _ | (_ | j)
        · obtain rfl : t = 22 := by simpa using ht.symm
          exact (show Tryd.prog.wantsStandIn 22 = false by kernel_rfl)
        · obtain rfl : t = 23 := by simpa using ht.symm
          exact (show Tryd.prog.wantsStandIn 23 = false by kernel_rfl)
        · simp at ht⟩)
    (by kernel_rfl)
end Go.Proofs.YtbamlihfaobfeaaDoor
#print axioms Go.Proofs.YtbamlihfaobfeaaDoor.showRow_card
