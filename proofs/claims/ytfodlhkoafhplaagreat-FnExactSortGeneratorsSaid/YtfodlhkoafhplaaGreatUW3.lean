/-
  The law 'FnExactSortGenerators' answers true for every input, and each argument reads behind the call as it read before.
  No condition: whatever the arguments are.
-/
import Derived.Test.YtfodlhkoafhplaaGreatUW1
import Derived.Test.YtfodlhkoafhplaaGreatUW2
import Derived.JoinedOf
namespace Go.Proofs.YtfodlhkoafhplaaGreat
open Go
set_option linter.unusedVariables false

theorem Wc8 {a b : Bool} (ha : a = true) (hb : b = true) : (a && b) = true := by rw [ha, hb]; rfl
set_option maxRecDepth 100000 in
set_option maxHeartbeats 8000000 in
theorem dg_closed : joinedFacts Tryz.prog 11 Tryz.f11 Rows.fnExactSortGeneratorsSpec Rows.fnExactSortGeneratorsRow = true := by
  unfold joinedFacts
  repeat' with_reducible apply Wc8
  all_goals first
    | with_reducible exact dg_inPlace
    | with_reducible exact dg_unfollowed
    | with_reducible exact dg_recurses
    | with_reducible exact dg_named
    | as_aux_lemma => kernel_rfl
theorem dg_func : Tryz.prog.funcNamed Rows.fnExactSortGeneratorsRow.func = some 11 := by kernel_rfl
theorem dg_inst : Tryz.f11.isInstance Tryz.prog Rows.fnExactSortGeneratorsRow.origin Rows.fnExactSortGeneratorsRow.targs := of_decide_eq_true (by kernel_rfl)
theorem dg_wrap : Tryz.f11.isWrapper Tryz.prog Rows.fnExactSortGeneratorsRow.wrapper Rows.fnExactSortGeneratorsRow.mainSum := by
  unfold Func.isWrapper; first | (rw [if_pos (by decide +kernel)]; kernel_rfl) | (rw [if_neg (by decide +kernel)]; exact ⟨rfl, rfl⟩)
theorem dg_over : Rows.fnExactSortGeneratorsRow.holds Tryz.pinned (OpenSpec.ofChange Rows.fnExactSortGeneratorsSpec) :=
  OpenClaim.holds_of_wide 11 Tryz.f11 rfl rfl rfl rfl rfl rfl rfl ⟨rfl, rfl, rfl, rfl, rfl⟩ rfl rfl rfl rfl rfl dg_func Tryz.func11 dg_closed dg_inst dg_wrap
    (fun os started H enc _ => dg_lifted os started H enc)

theorem fnExactSortGenerators_holds : Rows.FnExactSortGeneratorsSaid := dg_over
#print axioms fnExactSortGenerators_holds
end Go.Proofs.YtfodlhkoafhplaaGreat
