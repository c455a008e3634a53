/-
  The law 'FnExactBoundaryForms' answers true for every input, and each argument reads behind the call as it read before.
  No condition: whatever the arguments are.
-/
import Derived.Test.YtabofnehiclkiaaGreatYW1
import Derived.Test.YtabofnehiclkiaaGreatYW2
import Derived.JoinedOf
namespace Go.Proofs.YtabofnehiclkiaaGreat
open Go
set_option linter.unusedVariables false

theorem Vd7 {a b : Bool} (ha : a = true) (hb : b = true) : (a && b) = true := by rw [ha, hb]; rfl
set_option maxRecDepth 100000 in
set_option maxHeartbeats 8000000 in
theorem dg_closed : joinedFacts Tryz.prog 5 Tryz.f5 Rows.fnExactBoundaryFormsSpec Rows.fnExactBoundaryFormsRow = true := by
  unfold joinedFacts
  repeat' with_reducible apply Vd7
  all_goals first
    | with_reducible exact dg_inPlace
    | with_reducible exact dg_unfollowed
    | with_reducible exact dg_recurses
    | with_reducible exact dg_named
    | as_aux_lemma => kernel_rfl
theorem dg_func : Tryz.prog.funcNamed Rows.fnExactBoundaryFormsRow.func = some 5 := by kernel_rfl
theorem dg_inst : Tryz.f5.isInstance Tryz.prog Rows.fnExactBoundaryFormsRow.origin Rows.fnExactBoundaryFormsRow.targs := of_decide_eq_true (by kernel_rfl)
theorem dg_wrap : Tryz.f5.isWrapper Tryz.prog Rows.fnExactBoundaryFormsRow.wrapper Rows.fnExactBoundaryFormsRow.mainSum := by
  unfold Func.isWrapper; first | (rw [if_pos (by decide +kernel)]; kernel_rfl) | (rw [if_neg (by decide +kernel)]; exact ⟨rfl, rfl⟩)
theorem dg_over : Rows.fnExactBoundaryFormsRow.holds Tryz.pinned (OpenSpec.ofChange Rows.fnExactBoundaryFormsSpec) :=
  OpenClaim.holds_of_wide 5 Tryz.f5 rfl rfl rfl rfl rfl rfl rfl ⟨rfl, rfl, rfl, rfl, rfl⟩ rfl rfl rfl rfl rfl dg_func Tryz.func5 dg_closed dg_inst dg_wrap
    (fun os started H enc _ => dg_lifted os started H enc)

theorem fnExactBoundaryForms_holds : Rows.FnExactBoundaryFormsSaid := dg_over
#print axioms fnExactBoundaryForms_holds
end Go.Proofs.YtabofnehiclkiaaGreat
