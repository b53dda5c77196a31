/- The row of EventOk. -/
import Derived.Test.YthjmknhkfkofgaaFns
import Derived.Test.YthjmknhkfkofgaaRows
set_option linter.unusedVariables false
namespace Go.Proofs.Ythjmknhkfkofgaa
open Go Go.Sx Go.Sx.Try

theorem own : ownKnob Try.prog.godebug = none := by kernel_rfl
theorem laysTab : laysB tis = true := by kernel_rfl
theorem lay {t : TypeId} (ty : Ty) (h : (assoc tis t).map (·.ty) = some ty) : Lay Try.prog t ty := by
  cases hi : assoc tis t with
  | none => rw [hi] at h; cases h
  | some i =>
    rw [hi] at h
    cases h
    exact lay_of (E := env []) (envOk all_nil).toEnvOk0 rfl laysTab i.ty.rk t i (Nat.le_refl _) hi

set_option maxRecDepth 100000 in
theorem eventOk_lifted (os : Os) (started : os.Started) (H : Type) (enc : TypeId × Value → H) :
    ReturnsInHanded {} Try.checked os 3 .any (Rows.fnExactEventOkSpec.pre6 enc Try.prog Try.f3 Rows.fnExactEventOkRow.domain false) (Rows.fnExactEventOkSpec.post enc Try.prog Try.f3 false true false false) := by
  refine returnsInHanded_of_change (C := Try.checked) own started (by kernel_rfl) Try.func3
    (ChangeSpec.witness6 (enc := enc) (C := Try.checked) false ⟨#[], #[.agg #[.int .i64 0, .int .i64 0, .int .i64 0, .int .i64 0, .int .i64 0, .string ByteArray.empty, .int .i64 0]], []⟩ 8 (by kernel_rfl) (by kernel_rfl) (by kernel_rfl) (by kernel_rfl)) ?_
  intro W base args ds gs before hval hW _ _
  exact row_contract (P := Try.prog) (f := 3) (fn := Try.f3) (s := Rows.fnExactEventOkSpec) (tys := [T25]) (tb := 4) (.cons (lay T25 (by kernel_rfl)) .nil) (by kernel_rfl) (by kernel_rfl) rfl
    (fun ds hl => by match ds, hl with | [d], _ => rfl) (fun xs h => law3 xs.1 h.1.2.2.2.2.1.2.1) W base args ds gs before hval hW true false false

theorem eventOk_holds : Rows.FnExactEventOkSaid :=
  OpenClaim.holds_of_wide 3 Try.f3 rfl rfl rfl rfl rfl rfl rfl ⟨rfl, rfl, rfl, rfl, rfl⟩ rfl rfl rfl rfl rfl (by kernel_rfl) Try.func3 (by kernel_rfl)
    (of_decide_eq_true (by kernel_rfl)) (by unfold Func.isWrapper; first | (rw [if_pos (by decide +kernel)]; kernel_rfl) | (rw [if_neg (by decide +kernel)]; exact ⟨rfl, rfl⟩))
    (fun os started H enc _ => eventOk_lifted os started H enc)
end Go.Proofs.Ythjmknhkfkofgaa
#print axioms Go.Proofs.Ythjmknhkfkofgaa.eventOk_holds
