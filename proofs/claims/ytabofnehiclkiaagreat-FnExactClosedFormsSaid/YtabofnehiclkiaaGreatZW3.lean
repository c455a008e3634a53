/-
  The law 'FnExactClosedForms' answers true for every input, and each argument reads behind the call as it read before.
  No condition: whatever the arguments are.
-/
import Derived.Test.YtabofnehiclkiaaGreatZW1
import Derived.Test.YtabofnehiclkiaaGreatZW2
import Derived.JoinedOf
namespace Go.Proofs.YtabofnehiclkiaaGreat
open Go Go.Proofs.Tryz
set_option linter.unusedVariables false

theorem Vf7 {a b : Bool} (ha : a = true) (hb : b = true) : (a && b) = true := by rw [ha, hb]; rfl
set_option maxRecDepth 100000 in
set_option maxHeartbeats 8000000 in
theorem dg_closed : joinedFacts prog 6 Tryz.f6 Rows.fnExactClosedFormsSpec Rows.fnExactClosedFormsRow = true := by
  unfold joinedFacts
  repeat' with_reducible apply Vf7
  all_goals first
    | with_reducible exact dg_inPlace
    | with_reducible exact dg_unfollowed
    | with_reducible exact dg_recurses
    | with_reducible exact dg_named
    | as_aux_lemma => kernel_rfl
theorem dg_func : prog.funcNamed Rows.fnExactClosedFormsRow.func = some 6 := by kernel_rfl
theorem dg_inst : Tryz.f6.isInstance prog Rows.fnExactClosedFormsRow.origin Rows.fnExactClosedFormsRow.targs := of_decide_eq_true (by kernel_rfl)
theorem dg_wrap : Tryz.f6.isWrapper prog Rows.fnExactClosedFormsRow.wrapper Rows.fnExactClosedFormsRow.mainSum := by
  unfold Func.isWrapper; first | (rw [if_pos (by decide +kernel)]; kernel_rfl) | (rw [if_neg (by decide +kernel)]; exact ⟨rfl, rfl⟩)
theorem dg_over : Rows.fnExactClosedFormsRow.holds Tryz.pinned (OpenSpec.ofChange Rows.fnExactClosedFormsSpec) :=
  OpenClaim.holds_of_wide 6 Tryz.f6 rfl rfl rfl rfl rfl rfl rfl ⟨rfl, rfl, rfl, rfl, rfl⟩ rfl rfl rfl rfl rfl dg_func func6 dg_closed dg_inst dg_wrap
    (fun os started H enc _ => dg_lifted os started H enc)

theorem fnExactClosedForms_holds : Rows.FnExactClosedFormsSaid := dg_over
#print axioms fnExactClosedForms_holds
end Go.Proofs.YtabofnehiclkiaaGreat
