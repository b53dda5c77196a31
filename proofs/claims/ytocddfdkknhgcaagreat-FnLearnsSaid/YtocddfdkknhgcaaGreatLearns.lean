/- The row of Learns: the law answers true, whatever it is given. -/
import Derived.Test.YtocddfdkknhgcaaGreatLearnsH3
import Derived.Test.YtocddfdkknhgcaaGreatRows
set_option linter.unusedVariables false
set_option linter.unusedSimpArgs false
namespace Go.Proofs.YtocddfdkknhgcaaGreat
open Go Go.Sx Go.Sx.Tryz
theorem own : ownKnob Tryz.prog.godebug = none := by kernel_rfl
theorem ZvZ : Zwt tis = true := by kernel_rfl
theorem lay {t : TypeId} (ty : Ty) (h : (Yc tis t).map (·.ty) = some ty) : Lay Tryz.prog t ty := by
 cases hi : Yc tis t with
 | none => rw [hi] at h; cases h
 | some i =>
  rw [hi] at h
  cases h
  exact Zr7 (E := env (false, false, []) []) (ZwN Zh).toEnvOk0 rfl ZvZ i.ty.rk t i (Nat.le_refl _) hi
theorem Zul (xs : YG [Yv]) (h : WfA [Yv] xs) : CallOk Tryz.prog 7 (YP [Yv] xs) (.val .bool true) [] := by
 obtain ⟨x0, ⟨⟩⟩ := xs
 have h1 := ZqX x0
 unfold EU O3 at h1
 exact Zw (s := shV ZC) (v := true) (rt := [none]) Zb5 (f := Tryz.f7) (by kernel_rfl) rfl (by kernel_rfl) (by kernel_rfl) big h1
set_option maxRecDepth 100000 in
theorem Zje (os : Os) (started : os.Started) (H : Type) (enc : TypeId × Value → H) :
  ReturnsInHanded {} Tryz.checked os 7 .any (Rows.fnLearnsSpec.pre6 enc Tryz.prog Tryz.f7 Rows.fnLearnsRow.domain false) (Rows.fnLearnsSpec.post enc Tryz.prog Tryz.f7 false true false false) := by
 refine returnsInHanded_of_change (C := Tryz.checked) own started (by kernel_rfl) Tryz.func7
  (ChangeSpec.witness6 (enc := enc) (C := Tryz.checked) false ⟨#[], #[.slice none 0 0], []⟩ 8 (by kernel_rfl) (by kernel_rfl) (by kernel_rfl) (by kernel_rfl)) ?_
 intro W Wk args ds gs before hval hW _ _
 exact Zj5 (P := Tryz.prog) (f := 7) (fn := Tryz.f7) (s := Rows.fnLearnsSpec) (tys := [Yv]) (tb := 4) (.cons (lay Yv (by kernel_rfl)) .nil) (by kernel_rfl) (by kernel_rfl) rfl
  (fun ds hl => by match ds, hl with | [d0], _ => rfl) Zul W Wk args ds gs before hval hW (fun t hm => by cases hm) true false false
theorem Zyb {a b : Bool} (h : a = true) (k : b = true) : (a && b) = true := by rw [h, k]; rfl
set_option maxHeartbeats 100000000 in
theorem ZmJ : joinedFacts (Tryz.pinned).checked.prog 7 Tryz.f7 Rows.fnLearnsSpec Rows.fnLearnsRow = true := by
 unfold joinedFacts
 repeat' (with_reducible refine Zyb ?_ ?_)
 all_goals as_aux_lemma => kernel_rfl
theorem learns_holds : Rows.FnLearnsSaid :=
 OpenClaim.holds_of_wide 7 Tryz.f7 rfl rfl rfl rfl rfl rfl rfl ⟨rfl, rfl, rfl, rfl, rfl⟩ rfl rfl rfl rfl rfl (by kernel_rfl) Tryz.func7 ZmJ
  (of_decide_eq_true (by kernel_rfl)) (by unfold Func.isWrapper; first | (rw [if_pos (by decide +kernel)]; kernel_rfl) | (rw [if_neg (by decide +kernel)]; exact ⟨rfl, rfl⟩))
  (fun os started H enc _ => Zje os started H enc)
end Go.Proofs.YtocddfdkknhgcaaGreat
#print axioms Go.Proofs.YtocddfdkknhgcaaGreat.learns_holds
