/- The row of Paces: the law answers true, whatever it is given. -/
import Derived.Test.YtocddfdkknhgcaaGreatPacesH1
import Derived.Test.YtocddfdkknhgcaaGreatRows
set_option linter.unusedVariables false
set_option linter.unusedSimpArgs false
namespace Go.Proofs.YtocddfdkknhgcaaGreat
open Go Go.Sx Go.Sx.Tryz
theorem own : ownKnob Tryz.prog.godebug = none := by kernel_rfl
theorem ZEn : ZEP tis = true := by kernel_rfl
theorem lay {t : TypeId} (ty : Ty) (h : (Z8 tis t).map (·.ty) = some ty) : Lay Tryz.prog t ty := by
 cases hi : Z8 tis t with
 | none => rw [hi] at h; cases h
 | some i =>
  rw [hi] at h
  cases h
  exact ZAY (E := env (false, false, []) []) (ZE7 cons_nil).toEnvOk0 rfl ZEn i.ty.rk t i (Nat.le_refl _) hi
theorem ZCQ (xs : YI [Ya]) (h : WfA [Ya] xs) : Jv Tryz.prog 4 (YV [Ya] xs) (.val .bool true) [] := by
 obtain ⟨x0, ⟨⟩⟩ := xs
 have h1 := ZBN x0
 unfold ZeR ZnG at h1
 exact Zw (s := shV ZE) (v := true) (rt := [none]) ZpN (f := Tryz.f4) (by kernel_rfl) rfl (by kernel_rfl) (by kernel_rfl) big h1
set_option maxRecDepth 100000 in
theorem Zws (os : Os) (started : os.Started) (H : Type) (enc : TypeId × Value → H) :
  ReturnsInHanded {} Tryz.checked os 4 .any (Rows.fnPacesSpec.pre6 enc Tryz.prog Tryz.f4 Rows.fnPacesRow.domain false) (Rows.fnPacesSpec.post enc Tryz.prog Tryz.f4 false true false false) := by
 refine returnsInHanded_of_change (C := Tryz.checked) own started (by kernel_rfl) Tryz.func4
  (ChangeSpec.witness6 (enc := enc) (C := Tryz.checked) false ⟨#[], #[.slice none 0 0], []⟩ 8 (by kernel_rfl) (by kernel_rfl) (by kernel_rfl) (by kernel_rfl)) ?_
 intro W XL args ds gs before hval hW _ _
 exact Zuy (P := Tryz.prog) (f := 4) (fn := Tryz.f4) (s := Rows.fnPacesSpec) (tys := [Ya]) (tb := 4) (.cons (lay Ya (by kernel_rfl)) .nil) (by kernel_rfl) (by kernel_rfl) rfl
  (fun ds hl => by match ds, hl with | [d0], _ => rfl) ZCQ W XL args ds gs before hval hW (fun t hm => by cases hm) true false false
theorem ZGm {a b : Bool} (h : a = true) (k : b = true) : (a && b) = true := by rw [h, k]; rfl
set_option maxHeartbeats 100000000 in
theorem ZxN : joinedFacts (Tryz.pinned).checked.prog 4 Tryz.f4 Rows.fnPacesSpec Rows.fnPacesRow = true := by
 unfold joinedFacts
 repeat' (with_reducible refine ZGm ?_ ?_)
 all_goals as_aux_lemma => kernel_rfl
theorem paces_holds : Rows.FnPacesSaid :=
 OpenClaim.holds_of_wide 4 Tryz.f4 rfl rfl rfl rfl rfl rfl rfl ⟨rfl, rfl, rfl, rfl, rfl⟩ rfl rfl rfl rfl rfl (by kernel_rfl) Tryz.func4 ZxN
  (of_decide_eq_true (by kernel_rfl)) (by unfold Func.isWrapper; first | (rw [if_pos (by decide +kernel)]; kernel_rfl) | (rw [if_neg (by decide +kernel)]; exact ⟨rfl, rfl⟩))
  (fun os started H enc _ => Zws os started H enc)
end Go.Proofs.YtocddfdkknhgcaaGreat
#print axioms Go.Proofs.YtocddfdkknhgcaaGreat.paces_holds
