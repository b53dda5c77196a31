/- The row of VotesOnce: the law answers true, whatever it is given. -/
import Derived.Test.YtocddfdkknhgcaaGreatVotesOnceH1
import Derived.Test.YtocddfdkknhgcaaGreatRows
set_option linter.unusedVariables false
set_option linter.unusedSimpArgs false
namespace Go.Proofs.YtocddfdkknhgcaaGreat
open Go Go.Sx Go.Sx.Tryz
theorem own : ownKnob Tryz.prog.godebug = none := by kernel_rfl
theorem laysTab : laysB tis = true := by kernel_rfl
theorem lay {t : TypeId} (ty : Ty) (h : (assoc tis t).map (·.ty) = some ty) : Lay Tryz.prog t ty := by
 cases hi : assoc tis t with
 | none => rw [hi] at h; cases h
 | some i =>
  rw [hi] at h
  cases h
  exact lay_of (E := env (false, false, []) []) (envOk cons_nil).toEnvOk0 rfl laysTab i.ty.rk t i (Nat.le_refl _) hi
theorem law_call (xs : Args [tSlUint8]) (h : WfA [tSlUint8] xs) : CallOk Tryz.prog 3 (encA [tSlUint8] xs) (.val .bool true) [] := by
 obtain ⟨x0, ⟨⟩⟩ := xs
 have h1 := law_VotesOnce x0
 unfold Q_l_FnVotesOnce q_l_FnVotesOnce at h1
 exact evX_ok (s := shV tBool) (v := true) (rt := [none]) l_l_FnVotesOnce_ok (f := Tryz.f3) (by kernel_rfl) rfl (by kernel_rfl) (by kernel_rfl) big h1
set_option maxRecDepth 100000 in
theorem votesOnce_lifted (os : Os) (started : os.Started) (H : Type) (enc : TypeId × Value → H) :
  ReturnsInHanded {} Tryz.checked os 3 .any (Rows.fnVotesOnceSpec.pre6 enc Tryz.prog Tryz.f3 Rows.fnVotesOnceRow.domain false) (Rows.fnVotesOnceSpec.post enc Tryz.prog Tryz.f3 false true false false) := by
 refine returnsInHanded_of_change (C := Tryz.checked) own started (by kernel_rfl) Tryz.func3
  (ChangeSpec.witness6 (enc := enc) (C := Tryz.checked) false ⟨#[], #[.slice none 0 0], []⟩ 8 (by kernel_rfl) (by kernel_rfl) (by kernel_rfl) (by kernel_rfl)) ?_
 intro W base args ds gs before hval hW _ _
 exact row_contract (P := Tryz.prog) (f := 3) (fn := Tryz.f3) (s := Rows.fnVotesOnceSpec) (tys := [tSlUint8]) (tb := 4) (.cons (lay tSlUint8 (by kernel_rfl)) .nil) (by kernel_rfl) (by kernel_rfl) rfl
  (fun ds hl => by match ds, hl with | [d0], _ => rfl) law_call W base args ds gs before hval hW (fun t hm => by cases hm) true false false
theorem and_t {a b : Bool} (h : a = true) (k : b = true) : (a && b) = true := by rw [h, k]; rfl
set_option maxHeartbeats 100000000 in
theorem votesOnce_facts : joinedFacts (Tryz.pinned).checked.prog 3 Tryz.f3 Rows.fnVotesOnceSpec Rows.fnVotesOnceRow = true := by
 unfold joinedFacts
 repeat' (with_reducible refine and_t ?_ ?_)
 all_goals as_aux_lemma => kernel_rfl
theorem votesOnce_holds : Rows.FnVotesOnceSaid :=
 OpenClaim.holds_of_wide 3 Tryz.f3 rfl rfl rfl rfl rfl rfl rfl ⟨rfl, rfl, rfl, rfl, rfl⟩ rfl rfl rfl rfl rfl (by kernel_rfl) Tryz.func3 votesOnce_facts
  (of_decide_eq_true (by kernel_rfl)) (by unfold Func.isWrapper; first | (rw [if_pos (by decide +kernel)]; kernel_rfl) | (rw [if_neg (by decide +kernel)]; exact ⟨rfl, rfl⟩))
  (fun os started H enc _ => votesOnce_lifted os started H enc)
end Go.Proofs.YtocddfdkknhgcaaGreat
#print axioms Go.Proofs.YtocddfdkknhgcaaGreat.votesOnce_holds
