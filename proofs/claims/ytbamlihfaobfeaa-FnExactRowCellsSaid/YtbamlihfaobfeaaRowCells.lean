/- The row of RowCells: the law answers true, whatever it is given. -/
import Derived.Test.YtbamlihfaobfeaaRowCellsH1
import Derived.Test.YtbamlihfaobfeaaRows
set_option linter.unusedVariables false
set_option linter.unusedSimpArgs false
namespace Go.Proofs.Ytbamlihfaobfeaa
open Go Go.Sx Go.Sx.Try

theorem own : ownKnob Try.prog.godebug = none := by kernel_rfl
theorem laysTab : laysB tis = true := by kernel_rfl
theorem lay {t : TypeId} (ty : Ty) (h : (assoc tis t).map (·.ty) = some ty) : Lay Try.prog t ty := by
  cases hi : assoc tis t with
  | none => rw [hi] at h; cases h
  | some i =>
    rw [hi] at h
    cases h
    exact lay_of (E := env (false, false, []) []) (envOk cons_nil).toEnvOk0 rfl laysTab i.ty.rk t i (Nat.le_refl _) hi

theorem law_call (xs : Args [tSlLBlock, tSlInt]) (h : WfA [tSlLBlock, tSlInt] xs) : CallOk Try.prog 14 (encA [tSlLBlock, tSlInt] xs) (.val .bool true) [] :=
  evX_ok (s := shV tBool) (v := true) (rt := [none]) l_l_FnExactRowCells_ok (f := Try.f14) (by kernel_rfl) rfl (by kernel_rfl) (by kernel_rfl) big (law_RowCells xs.1 xs.2.1 h.1)

set_option maxRecDepth 100000 in
theorem rowCells_lifted (os : Os) (started : os.Started) (H : Type) (enc : TypeId × Value → H) :
    ReturnsInHanded {} Try.checked os 14 .any (Rows.fnExactRowCellsSpec.pre6 enc Try.prog Try.f14 Rows.fnExactRowCellsRow.domain false) (Rows.fnExactRowCellsSpec.post enc Try.prog Try.f14 false true false false) := by
  refine returnsInHanded_of_change (C := Try.checked) own started (by kernel_rfl) Try.func14
    (ChangeSpec.witness6 (enc := enc) (C := Try.checked) false ⟨#[], #[.slice none 0 0, .slice none 0 0], []⟩ 8 (by kernel_rfl) (by kernel_rfl) (by kernel_rfl) (by kernel_rfl)) ?_
  intro W base args ds gs before hval hW _ _
  exact row_contract (P := Try.prog) (f := 14) (fn := Try.f14) (s := Rows.fnExactRowCellsSpec) (tys := [tSlLBlock, tSlInt]) (tb := 4) (.cons (lay tSlLBlock (by kernel_rfl)) (.cons (lay tSlInt (by kernel_rfl)) .nil)) (by kernel_rfl) (by kernel_rfl) rfl
    (fun ds hl => by match ds, hl with | [d0, d1], _ => rfl) law_call W base args ds gs before hval hW true false false

theorem and_t {a b : Bool} (h : a = true) (k : b = true) : (a && b) = true := by rw [h, k]; rfl
set_option maxHeartbeats 100000000 in
theorem rowCells_facts : joinedFacts (Try.pinned).checked.prog 14 Try.f14 Rows.fnExactRowCellsSpec Rows.fnExactRowCellsRow = true := by
  unfold joinedFacts
  repeat' (with_reducible refine and_t ?_ ?_)
  all_goals as_aux_lemma => kernel_rfl

theorem rowCells_holds : Rows.FnExactRowCellsSaid :=
  OpenClaim.holds_of_wide 14 Try.f14 rfl rfl rfl rfl rfl rfl rfl ⟨rfl, rfl, rfl, rfl, rfl⟩ rfl rfl rfl rfl rfl (by kernel_rfl) Try.func14 rowCells_facts
    (of_decide_eq_true (by kernel_rfl)) (by unfold Func.isWrapper; first | (rw [if_pos (by decide +kernel)]; kernel_rfl) | (rw [if_neg (by decide +kernel)]; exact ⟨rfl, rfl⟩))
    (fun os started H enc _ => rowCells_lifted os started H enc)
end Go.Proofs.Ytbamlihfaobfeaa
#print axioms Go.Proofs.Ytbamlihfaobfeaa.rowCells_holds
