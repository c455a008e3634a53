/-
  The law 'FnExactClassForms' answers true for every input, and each argument reads behind the call as it read before.
  No condition: whatever the arguments are.
-/
import Derived.Test.YtabofnehiclkiaaGreatQW1
import Derived.Test.YtabofnehiclkiaaGreatQW2
import Derived.JoinedOf
namespace Go.Proofs.YtabofnehiclkiaaGreat
open Go Go.Proofs.Tryz
set_option linter.unusedVariables false

theorem Ve2 {a b : Bool} (ha : a = true) (hb : b = true) : (a && b) = true := by rw [ha, hb]; rfl
set_option maxRecDepth 100000 in
set_option maxHeartbeats 8000000 in
theorem dg_closed : joinedFacts prog 7 Tryz.f7 Rows.fnExactClassFormsSpec Rows.fnExactClassFormsRow = true := by
  unfold joinedFacts
  repeat' with_reducible apply Ve2
  all_goals first
    | with_reducible exact dg_inPlace
    | with_reducible exact dg_unfollowed
    | with_reducible exact dg_recurses
    | with_reducible exact dg_named
    | as_aux_lemma => kernel_rfl
theorem dg_func : prog.funcNamed Rows.fnExactClassFormsRow.func = some 7 := by kernel_rfl
theorem dg_inst : Tryz.f7.isInstance prog Rows.fnExactClassFormsRow.origin Rows.fnExactClassFormsRow.targs := of_decide_eq_true (by kernel_rfl)
theorem dg_wrap : Tryz.f7.isWrapper prog Rows.fnExactClassFormsRow.wrapper Rows.fnExactClassFormsRow.mainSum := by
  unfold Func.isWrapper; first | (rw [if_pos (by decide +kernel)]; kernel_rfl) | (rw [if_neg (by decide +kernel)]; exact ⟨rfl, rfl⟩)
theorem dg_over : Rows.fnExactClassFormsRow.holds Tryz.pinned (OpenSpec.ofChange Rows.fnExactClassFormsSpec) :=
  OpenClaim.holds_of_wide 7 Tryz.f7 rfl rfl rfl rfl rfl rfl rfl ⟨rfl, rfl, rfl, rfl, rfl⟩ rfl rfl rfl rfl rfl dg_func func7 dg_closed dg_inst dg_wrap
    (fun os started H enc _ => dg_lifted os started H enc)

theorem fnExactClassForms_holds : Rows.FnExactClassFormsSaid := dg_over
#print axioms fnExactClassForms_holds
end Go.Proofs.YtabofnehiclkiaaGreat
