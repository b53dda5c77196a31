/- The row of LieVote. -/
import Derived.Test.YthjmknhkfkofgaaLw12
import Derived.Test.YthjmknhkfkofgaaRows
set_option linter.unusedVariables false
namespace Go.Proofs.Ythjmknhkfkofgaa
open Go Go.Sx Go.Sx.Try

theorem own : ownKnob Try.prog.godebug = none := by kernel_rfl
theorem laysTab : laysB tis = true := by kernel_rfl
theorem lay {t : TypeId} (ty : Ty) (h : (assoc tis t).map (·.ty) = some ty) : Lay Try.prog t ty := by
  cases hi : assoc tis t with
  | none => rw [hi] at h; cases h
  | some i =>
    rw [hi] at h
    cases h
    exact lay_of (E := env []) (envOk Try.all_nil).toEnvOk0 rfl laysTab i.ty.rk t i (Nat.le_refl _) hi

theorem law_call (xs : Args [T99, T3, T3, T3, T3]) (h : WfA [T99, T3, T3, T3, T3] xs) : CallOk Try.prog 12 (encA [T99, T3, T3, T3, T3] xs) (.val .bool true) [] :=
  evX_ok (s := shV T4) (v := true) (rt := [none]) l12_ok (f := Try.f12) (by kernel_rfl) rfl (by kernel_rfl) (by kernel_rfl) big (law12 xs.1 xs.2.1 xs.2.2.1 xs.2.2.2.1 xs.2.2.2.2.1 h.1)

set_option maxRecDepth 100000 in
theorem lieVote_lifted (os : Os) (started : os.Started) (H : Type) (enc : TypeId × Value → H) :
    ReturnsInHanded {} Try.checked os 12 .any (Rows.fnExactLieVoteSpec.pre6 enc Try.prog Try.f12 Rows.fnExactLieVoteRow.domain false) (Rows.fnExactLieVoteSpec.post enc Try.prog Try.f12 false true false false) := by
  refine returnsInHanded_of_change (C := Try.checked) own started (by kernel_rfl) Try.func12
    (ChangeSpec.witness6 (enc := enc) (C := Try.checked) false ⟨#[], #[.agg #[.int .i64 0, .bool false, .int .i64 0, .slice none 0 0, .slice none 0 0, .slice none 0 0, .slice none 0 0, .slice none 0 0], .int .i64 0, .int .i64 0, .int .i64 0, .int .i64 0], []⟩ 8 (by kernel_rfl) (by kernel_rfl) (by kernel_rfl) (by kernel_rfl)) ?_
  intro W base args ds gs before hval hW _ _
  exact row_contract (P := Try.prog) (f := 12) (fn := Try.f12) (s := Rows.fnExactLieVoteSpec) (tys := [T99, T3, T3, T3, T3]) (tb := 4) (.cons (lay T99 (by kernel_rfl)) (.cons (lay T3 (by kernel_rfl)) (.cons (lay T3 (by kernel_rfl)) (.cons (lay T3 (by kernel_rfl)) (.cons (lay T3 (by kernel_rfl)) .nil))))) (by kernel_rfl) (by kernel_rfl) rfl
    (fun ds hl => by match ds, hl with | [d0, d1, d2, d3, d4], _ => rfl) law_call W base args ds gs before hval hW true false false

theorem lieVote_holds : Rows.FnExactLieVoteSaid :=
  OpenClaim.holds_of_wide 12 Try.f12 rfl rfl rfl rfl rfl rfl rfl ⟨rfl, rfl, rfl, rfl, rfl⟩ rfl rfl rfl rfl rfl (by kernel_rfl) Try.func12 (by kernel_rfl)
    (of_decide_eq_true (by kernel_rfl)) (by unfold Func.isWrapper; first | (rw [if_pos (by decide +kernel)]; kernel_rfl) | (rw [if_neg (by decide +kernel)]; exact ⟨rfl, rfl⟩))
    (fun os started H enc _ => lieVote_lifted os started H enc)
end Go.Proofs.Ythjmknhkfkofgaa
#print axioms Go.Proofs.Ythjmknhkfkofgaa.lieVote_holds
