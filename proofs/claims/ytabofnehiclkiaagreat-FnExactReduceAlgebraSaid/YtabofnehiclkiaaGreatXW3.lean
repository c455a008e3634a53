/-
  The law 'FnExactReduceAlgebra' answers true for every input, and each argument reads behind the call as it read before.
  No condition: whatever the arguments are.
-/
import Derived.Test.YtabofnehiclkiaaGreatXW1
import Derived.Test.YtabofnehiclkiaaGreatXW2
import Derived.JoinedOf
namespace Go.Proofs.YtabofnehiclkiaaGreat
open Go
set_option linter.unusedVariables false

theorem Vb3 {a b : Bool} (ha : a = true) (hb : b = true) : (a && b) = true := by rw [ha, hb]; rfl
set_option maxRecDepth 100000 in
set_option maxHeartbeats 8000000 in
theorem dg_closed : joinedFacts Tryz.prog 8 Tryz.f8 Rows.fnExactReduceAlgebraSpec Rows.fnExactReduceAlgebraRow = true := by
  unfold joinedFacts
  repeat' with_reducible apply Vb3
  all_goals first
    | with_reducible exact dg_inPlace
    | with_reducible exact dg_unfollowed
    | with_reducible exact dg_recurses
    | with_reducible exact dg_named
    | as_aux_lemma => kernel_rfl
theorem dg_func : Tryz.prog.funcNamed Rows.fnExactReduceAlgebraRow.func = some 8 := by kernel_rfl
theorem dg_inst : Tryz.f8.isInstance Tryz.prog Rows.fnExactReduceAlgebraRow.origin Rows.fnExactReduceAlgebraRow.targs := of_decide_eq_true (by kernel_rfl)
theorem dg_wrap : Tryz.f8.isWrapper Tryz.prog Rows.fnExactReduceAlgebraRow.wrapper Rows.fnExactReduceAlgebraRow.mainSum := by
  unfold Func.isWrapper; first | (rw [if_pos (by decide +kernel)]; kernel_rfl) | (rw [if_neg (by decide +kernel)]; exact ⟨rfl, rfl⟩)
theorem dg_over : Rows.fnExactReduceAlgebraRow.holds Tryz.pinned (OpenSpec.ofChange Rows.fnExactReduceAlgebraSpec) :=
  OpenClaim.holds_of_wide 8 Tryz.f8 rfl rfl rfl rfl rfl rfl rfl ⟨rfl, rfl, rfl, rfl, rfl⟩ rfl rfl rfl rfl rfl dg_func Tryz.func8 dg_closed dg_inst dg_wrap
    (fun os started H enc _ => dg_lifted os started H enc)

theorem fnExactReduceAlgebra_holds : Rows.FnExactReduceAlgebraSaid := dg_over
#print axioms fnExactReduceAlgebra_holds
end Go.Proofs.YtabofnehiclkiaaGreat
