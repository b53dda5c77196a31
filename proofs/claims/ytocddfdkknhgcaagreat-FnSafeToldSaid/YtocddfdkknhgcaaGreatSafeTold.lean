/- The row of SafeTold: the law answers true, whatever it is given. -/
import Derived.Test.YtocddfdkknhgcaaGreatSafeToldH3
import Derived.Test.YtocddfdkknhgcaaGreatRows
set_option linter.unusedVariables false
set_option linter.unusedSimpArgs false
namespace Go.Proofs.YtocddfdkknhgcaaGreat
open Go Go.Sx Go.Sx.Tryz
theorem own : ownKnob Tryz.prog.godebug = none := by kernel_rfl
theorem Zwh : ZwM tis = true := by kernel_rfl
theorem lay {t : TypeId} (ty : Ty) (h : (Yf tis t).map (·.ty) = some ty) : Lay Tryz.prog t ty := by
 cases hi : Yf tis t with
 | none => rw [hi] at h; cases h
 | some i =>
  rw [hi] at h
  cases h
  exact Zso (E := env (false, false, []) []) (Zw6 Zh).toEnvOk0 rfl Zwh i.ty.rk t i (Nat.le_refl _) hi
theorem ZuD (xs : YH [Z8]) (h : WfA [Z8] xs) : CallOk Tryz.prog 6 (YR [Z8] xs) (.val .bool true) [] := by
 obtain ⟨x0, ⟨⟩⟩ := xs
 have h1 := Zm4 x0
 unfold Bi GU at h1
 exact Zw (s := shV ZD) (v := true) (rt := [none]) Np (f := Tryz.f6) (by kernel_rfl) rfl (by kernel_rfl) (by kernel_rfl) big h1
set_option maxRecDepth 100000 in
theorem ZcO (os : Os) (started : os.Started) (H : Type) (enc : TypeId × Value → H) :
  ReturnsInHanded {} Tryz.checked os 6 .any (Rows.fnSafeToldSpec.pre6 enc Tryz.prog Tryz.f6 Rows.fnSafeToldRow.domain false) (Rows.fnSafeToldSpec.post enc Tryz.prog Tryz.f6 false true false false) := by
 refine returnsInHanded_of_change (C := Tryz.checked) own started (by kernel_rfl) Tryz.func6
  (ChangeSpec.witness6 (enc := enc) (C := Tryz.checked) false ⟨#[], #[.slice none 0 0], []⟩ 8 (by kernel_rfl) (by kernel_rfl) (by kernel_rfl) (by kernel_rfl)) ?_
 intro W Wm args ds gs before hval hW _ _
 exact Zkl (P := Tryz.prog) (f := 6) (fn := Tryz.f6) (s := Rows.fnSafeToldSpec) (tys := [Z8]) (tb := 4) (.cons (lay Z8 (by kernel_rfl)) .nil) (by kernel_rfl) (by kernel_rfl) rfl
  (fun ds hl => by match ds, hl with | [d0], _ => rfl) ZuD W Wm args ds gs before hval hW (fun t hm => by cases hm) true false false
theorem Zyu {a b : Bool} (h : a = true) (k : b = true) : (a && b) = true := by rw [h, k]; rfl
set_option maxHeartbeats 100000000 in
theorem Ze2 : joinedFacts (Tryz.pinned).checked.prog 6 Tryz.f6 Rows.fnSafeToldSpec Rows.fnSafeToldRow = true := by
 unfold joinedFacts
 repeat' (with_reducible refine Zyu ?_ ?_)
 all_goals as_aux_lemma => kernel_rfl
theorem safeTold_holds : Rows.FnSafeToldSaid :=
 OpenClaim.holds_of_wide 6 Tryz.f6 rfl rfl rfl rfl rfl rfl rfl ⟨rfl, rfl, rfl, rfl, rfl⟩ rfl rfl rfl rfl rfl (by kernel_rfl) Tryz.func6 Ze2
  (of_decide_eq_true (by kernel_rfl)) (by unfold Func.isWrapper; first | (rw [if_pos (by decide +kernel)]; kernel_rfl) | (rw [if_neg (by decide +kernel)]; exact ⟨rfl, rfl⟩))
  (fun os started H enc _ => ZcO os started H enc)
end Go.Proofs.YtocddfdkknhgcaaGreat
#print axioms Go.Proofs.YtocddfdkknhgcaaGreat.safeTold_holds
