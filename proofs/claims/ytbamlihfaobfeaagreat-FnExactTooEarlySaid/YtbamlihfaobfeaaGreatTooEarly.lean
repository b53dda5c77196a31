/- The row of TooEarly: the law answers true, whatever it is given. -/
import Derived.Test.YtbamlihfaobfeaaGreatTooEarlyH1
import Derived.Test.YtbamlihfaobfeaaGreatRows
set_option linter.unusedVariables false
set_option linter.unusedSimpArgs false
namespace Go.Proofs.YtbamlihfaobfeaaGreat
open Go Go.Sx Go.Sx.Tryz

theorem own : ownKnob Tryz.prog.godebug = none := by kernel_rfl
theorem laysTab : laysB tis = true := by kernel_rfl
theorem lay {t : TypeId} (ty : Ty) (h : (assoc tis t).map (·.ty) = some ty) : Lay Tryz.prog t ty := by
  cases hi : assoc tis t with
  | none => rw [hi] at h; cases h
  | some i =>
    rw [hi] at h
    cases h
    exact lay_of (E := env (false, false, []) []) (envOk cons_nil).toEnvOk0 rfl laysTab i.ty.rk t i (Nat.le_refl _) hi

theorem law_call (xs : Args [tSlLBlock, tLPeer, tInt]) (h : WfA [tSlLBlock, tLPeer, tInt] xs) : CallOk Tryz.prog 4 (encA [tSlLBlock, tLPeer, tInt] xs) (.val .bool true) [] :=
  evX_ok (s := shV tBool) (v := true) (rt := [none]) l_l_FnExactTooEarly_ok (f := Tryz.f4) (by kernel_rfl) rfl (by kernel_rfl) (by kernel_rfl) big (law_TooEarly xs.1 xs.2.1 xs.2.2.1 h.1 h.2.1)

set_option maxRecDepth 100000 in
theorem tooEarly_lifted (os : Os) (started : os.Started) (H : Type) (enc : TypeId × Value → H) :
    ReturnsInHanded {} Tryz.checked os 4 .any (Rows.fnExactTooEarlySpec.pre6 enc Tryz.prog Tryz.f4 Rows.fnExactTooEarlyRow.domain false) (Rows.fnExactTooEarlySpec.post enc Tryz.prog Tryz.f4 false true false false) := by
  refine returnsInHanded_of_change (C := Tryz.checked) own started (by kernel_rfl) Tryz.func4
    (ChangeSpec.witness6 (enc := enc) (C := Tryz.checked) false ⟨#[], #[.slice none 0 0, .agg #[.int .i64 0, .int .i64 0, .int .i64 0, .int .i64 0, .int .i64 0, .int .i64 0, .int .i64 0, .int .i64 0, .int .i64 0, .int .i64 0, .int .i64 0, .int .i64 0, .int .i64 0, .int .i64 0, .slice none 0 0, .slice none 0 0, .slice none 0 0, .slice none 0 0, .slice none 0 0, .slice none 0 0, .int .i64 0], .int .i64 0], []⟩ 8 (by kernel_rfl) (by kernel_rfl) (by kernel_rfl) (by kernel_rfl)) ?_
  intro W base args ds gs before hval hW _ _
  exact row_contract (P := Tryz.prog) (f := 4) (fn := Tryz.f4) (s := Rows.fnExactTooEarlySpec) (tys := [tSlLBlock, tLPeer, tInt]) (tb := 4) (.cons (lay tSlLBlock (by kernel_rfl)) (.cons (lay tLPeer (by kernel_rfl)) (.cons (lay tInt (by kernel_rfl)) .nil))) (by kernel_rfl) (by kernel_rfl) rfl
    (fun ds hl => by match ds, hl with | [d0, d1, d2], _ => rfl) law_call W base args ds gs before hval hW true false false

theorem and_t {a b : Bool} (h : a = true) (k : b = true) : (a && b) = true := by rw [h, k]; rfl
set_option maxHeartbeats 100000000 in
theorem tooEarly_facts : joinedFacts (Tryz.pinned).checked.prog 4 Tryz.f4 Rows.fnExactTooEarlySpec Rows.fnExactTooEarlyRow = true := by
  unfold joinedFacts
  repeat' (with_reducible refine and_t ?_ ?_)
  all_goals as_aux_lemma => kernel_rfl

theorem tooEarly_holds : Rows.FnExactTooEarlySaid :=
  OpenClaim.holds_of_wide 4 Tryz.f4 rfl rfl rfl rfl rfl rfl rfl ⟨rfl, rfl, rfl, rfl, rfl⟩ rfl rfl rfl rfl rfl (by kernel_rfl) Tryz.func4 tooEarly_facts
    (of_decide_eq_true (by kernel_rfl)) (by unfold Func.isWrapper; first | (rw [if_pos (by decide +kernel)]; kernel_rfl) | (rw [if_neg (by decide +kernel)]; exact ⟨rfl, rfl⟩))
    (fun os started H enc _ => tooEarly_lifted os started H enc)
end Go.Proofs.YtbamlihfaobfeaaGreat
#print axioms Go.Proofs.YtbamlihfaobfeaaGreat.tooEarly_holds
