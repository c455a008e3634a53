/-
  The law 'FnExactPrimitiveOf' answers true for every input, and each argument reads behind the call as it read before.
  No condition: whatever the arguments are.
-/
import Derived.Test.YtabofnehiclkiaaGreatRW1
import Derived.Test.YtabofnehiclkiaaGreatRW2
import Derived.JoinedOf
namespace Go.Proofs.YtabofnehiclkiaaGreat
open Go Go.Proofs.Tryz
set_option linter.unusedVariables false

theorem Vh2 {a b : Bool} (ha : a = true) (hb : b = true) : (a && b) = true := by rw [ha, hb]; rfl
set_option maxRecDepth 100000 in
set_option maxHeartbeats 8000000 in
theorem dg_closed : joinedFacts prog 9 Tryz.f9 Rows.fnExactPrimitiveOfSpec Rows.fnExactPrimitiveOfRow = true := by
  unfold joinedFacts
  repeat' with_reducible apply Vh2
  all_goals first
    | with_reducible exact dg_inPlace
    | with_reducible exact dg_unfollowed
    | with_reducible exact dg_recurses
    | with_reducible exact dg_named
    | as_aux_lemma => kernel_rfl
theorem dg_func : prog.funcNamed Rows.fnExactPrimitiveOfRow.func = some 9 := by kernel_rfl
theorem dg_inst : Tryz.f9.isInstance prog Rows.fnExactPrimitiveOfRow.origin Rows.fnExactPrimitiveOfRow.targs := of_decide_eq_true (by kernel_rfl)
theorem dg_wrap : Tryz.f9.isWrapper prog Rows.fnExactPrimitiveOfRow.wrapper Rows.fnExactPrimitiveOfRow.mainSum := by
  unfold Func.isWrapper; first | (rw [if_pos (by decide +kernel)]; kernel_rfl) | (rw [if_neg (by decide +kernel)]; exact ⟨rfl, rfl⟩)
theorem dg_over : Rows.fnExactPrimitiveOfRow.holds Tryz.pinned (OpenSpec.ofChange Rows.fnExactPrimitiveOfSpec) :=
  OpenClaim.holds_of_wide 9 Tryz.f9 rfl rfl rfl rfl rfl rfl rfl ⟨rfl, rfl, rfl, rfl, rfl⟩ rfl rfl rfl rfl rfl dg_func func9 dg_closed dg_inst dg_wrap
    (fun os started H enc _ => dg_lifted os started H enc)

theorem fnExactPrimitiveOf_holds : Rows.FnExactPrimitiveOfSaid := dg_over
#print axioms fnExactPrimitiveOf_holds
end Go.Proofs.YtabofnehiclkiaaGreat
