/- The row of Answered. -/
import Derived.Test.YthjmknhkfkofgaaLw8
import Derived.Test.YthjmknhkfkofgaaRows
set_option linter.unusedVariables false
namespace Go.Proofs.Ythjmknhkfkofgaa
open Go Go.Sx Go.Sx.Try

theorem own : ownKnob Try.prog.godebug = none := by kernel_rfl
theorem laysTab : laysB tis = true := by kernel_rfl
theorem lay {t : TypeId} (ty : Ty) (h : (assoc tis t).map (·.ty) = some ty) : Lay Try.prog t ty := by
  cases hi : assoc tis t with
  | none => rw [hi] at h; cases h
  | some i =>
    rw [hi] at h
    cases h
    exact lay_of (E := env []) (envOk Try.all_nil).toEnvOk0 rfl laysTab i.ty.rk t i (Nat.le_refl _) hi

theorem law_call (xs : Args [T64, T3, T3, T48, T58]) (h : WfA [T64, T3, T3, T48, T58] xs) : CallOk Try.prog 8 (encA [T64, T3, T3, T48, T58] xs) (.val .bool true) [] :=
  evX_ok (s := shV T4) (v := true) (rt := [none]) l8_ok (f := Try.f8) (by kernel_rfl) rfl (by kernel_rfl) (by kernel_rfl) big (law8 xs.1 xs.2.1 xs.2.2.1 xs.2.2.2.1 xs.2.2.2.2.1 h.1)

set_option maxRecDepth 100000 in
theorem answered_lifted (os : Os) (started : os.Started) (H : Type) (enc : TypeId × Value → H) :
    ReturnsInHanded {} Try.checked os 8 .any (Rows.fnExactAnsweredSpec.pre6 enc Try.prog Try.f8 Rows.fnExactAnsweredRow.domain false) (Rows.fnExactAnsweredSpec.post enc Try.prog Try.f8 false true false false) := by
  refine returnsInHanded_of_change (C := Try.checked) own started (by kernel_rfl) Try.func8
    (ChangeSpec.witness6 (enc := enc) (C := Try.checked) false ⟨#[], #[.agg #[.int .i64 0, .int .i64 0, .int .i64 0, .int .i64 0, .int .i64 0, .int .i64 0, .int .i64 0, .int .i64 0, .int .i64 0, .int .i64 0, .int .i64 0, .int .i64 0, .int .i64 0, .int .i64 0, .slice none 0 0, .slice none 0 0, .slice none 0 0, .slice none 0 0, .slice none 0 0, .slice none 0 0, .int .i64 0], .int .i64 0, .int .i64 0, .agg #[.int .i64 0, .int .i64 0, .int .i64 0, .int .i64 0], .agg #[.int .i64 0, .int .i64 0, .int .i64 0, .int .i64 0]], []⟩ 8 (by kernel_rfl) (by kernel_rfl) (by kernel_rfl) (by kernel_rfl)) ?_
  intro W base args ds gs before hval hW _ _
  exact row_contract (P := Try.prog) (f := 8) (fn := Try.f8) (s := Rows.fnExactAnsweredSpec) (tys := [T64, T3, T3, T48, T58]) (tb := 4) (.cons (lay T64 (by kernel_rfl)) (.cons (lay T3 (by kernel_rfl)) (.cons (lay T3 (by kernel_rfl)) (.cons (lay T48 (by kernel_rfl)) (.cons (lay T58 (by kernel_rfl)) .nil))))) (by kernel_rfl) (by kernel_rfl) rfl
    (fun ds hl => by match ds, hl with | [d0, d1, d2, d3, d4], _ => rfl) law_call W base args ds gs before hval hW true false false

theorem answered_holds : Rows.FnExactAnsweredSaid :=
  OpenClaim.holds_of_wide 8 Try.f8 rfl rfl rfl rfl rfl rfl rfl ⟨rfl, rfl, rfl, rfl, rfl⟩ rfl rfl rfl rfl rfl (by kernel_rfl) Try.func8 (by kernel_rfl)
    (of_decide_eq_true (by kernel_rfl)) (by unfold Func.isWrapper; first | (rw [if_pos (by decide +kernel)]; kernel_rfl) | (rw [if_neg (by decide +kernel)]; exact ⟨rfl, rfl⟩))
    (fun os started H enc _ => answered_lifted os started H enc)
end Go.Proofs.Ythjmknhkfkofgaa
#print axioms Go.Proofs.Ythjmknhkfkofgaa.answered_holds
