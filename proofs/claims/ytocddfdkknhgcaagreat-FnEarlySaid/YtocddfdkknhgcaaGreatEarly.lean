/- The row of Early: the law answers true, whatever it is given. -/
import Derived.Test.YtocddfdkknhgcaaGreatEarlyH4
import Derived.Test.YtocddfdkknhgcaaGreatRows
set_option linter.unusedVariables false
set_option linter.unusedSimpArgs false
namespace Go.Proofs.YtocddfdkknhgcaaGreat
open Go Go.Sx Go.Sx.Tryz
theorem own : ownKnob Tryz.prog.godebug = none := by kernel_rfl
theorem ZvS : Zwo tis = true := by kernel_rfl
theorem lay {t : TypeId} (ty : Ty) (h : (Yi tis t).map (·.ty) = some ty) : Lay Tryz.prog t ty := by
 cases hi : Yi tis t with
 | none => rw [hi] at h; cases h
 | some i =>
  rw [hi] at h
  cases h
  exact ZrB (E := env (false, false, []) []) (ZwI Zh).toEnvOk0 rfl ZvS i.ty.rk t i (Nat.le_refl _) hi
theorem ZtZ (xs : YN [Ys]) (h : WfA [Ys] xs) : CallOk Tryz.prog 5 (YY [Ys] xs) (.val .bool true) [] := by
 obtain ⟨x0, ⟨⟩⟩ := xs
 have h1 := ZsL x0
 unfold IH Zcx at h1
 exact ZA (s := shV ZG) (v := true) (rt := [none]) ZeT (f := Tryz.f5) (by kernel_rfl) rfl (by kernel_rfl) (by kernel_rfl) big h1
set_option maxRecDepth 100000 in
theorem Zmj (os : Os) (started : os.Started) (H : Type) (enc : TypeId × Value → H) :
  ReturnsInHanded {} Tryz.checked os 5 .any (Rows.fnEarlySpec.pre6 enc Tryz.prog Tryz.f5 Rows.fnEarlyRow.domain false) (Rows.fnEarlySpec.post enc Tryz.prog Tryz.f5 false true false false) := by
 refine returnsInHanded_of_change (C := Tryz.checked) own started (by kernel_rfl) Tryz.func5
  (ChangeSpec.witness6 (enc := enc) (C := Tryz.checked) false ⟨#[], #[.slice none 0 0], []⟩ 8 (by kernel_rfl) (by kernel_rfl) (by kernel_rfl) (by kernel_rfl)) ?_
 intro W WE args ds gs before hval hW _ _
 exact ZjY (P := Tryz.prog) (f := 5) (fn := Tryz.f5) (s := Rows.fnEarlySpec) (tys := [Ys]) (tb := 4) (.cons (lay Ys (by kernel_rfl)) .nil) (by kernel_rfl) (by kernel_rfl) rfl
  (fun ds hl => by match ds, hl with | [d0], _ => rfl) ZtZ W WE args ds gs before hval hW (fun t hm => by cases hm) true false false
theorem Zyl {a b : Bool} (h : a = true) (k : b = true) : (a && b) = true := by rw [h, k]; rfl
set_option maxHeartbeats 100000000 in
theorem ZnM : joinedFacts (Tryz.pinned).checked.prog 5 Tryz.f5 Rows.fnEarlySpec Rows.fnEarlyRow = true := by
 unfold joinedFacts
 repeat' (with_reducible refine Zyl ?_ ?_)
 all_goals as_aux_lemma => kernel_rfl
theorem early_holds : Rows.FnEarlySaid :=
 OpenClaim.holds_of_wide 5 Tryz.f5 rfl rfl rfl rfl rfl rfl rfl ⟨rfl, rfl, rfl, rfl, rfl⟩ rfl rfl rfl rfl rfl (by kernel_rfl) Tryz.func5 ZnM
  (of_decide_eq_true (by kernel_rfl)) (by unfold Func.isWrapper; first | (rw [if_pos (by decide +kernel)]; kernel_rfl) | (rw [if_neg (by decide +kernel)]; exact ⟨rfl, rfl⟩))
  (fun os started H enc _ => Zmj os started H enc)
end Go.Proofs.YtocddfdkknhgcaaGreat
#print axioms Go.Proofs.YtocddfdkknhgcaaGreat.early_holds
