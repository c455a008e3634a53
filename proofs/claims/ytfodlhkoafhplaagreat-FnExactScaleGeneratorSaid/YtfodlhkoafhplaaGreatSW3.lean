/-
  The law 'FnExactScaleGenerator' answers true for every input, and each argument reads behind the call as it read before.
  No condition: whatever the arguments are.
-/
import Derived.Test.YtfodlhkoafhplaaGreatSW1
import Derived.Test.YtfodlhkoafhplaaGreatSW2
import Derived.JoinedOf
namespace Go.Proofs.YtfodlhkoafhplaaGreat
open Go
set_option linter.unusedVariables false

theorem and_in {a b : Bool} (ha : a = true) (hb : b = true) : (a && b) = true := by rw [ha, hb]; rfl
set_option maxRecDepth 100000 in
set_option maxHeartbeats 8000000 in
theorem dg_closed : joinedFacts Tryz.prog 10 Tryz.f10 Rows.fnExactScaleGeneratorSpec Rows.fnExactScaleGeneratorRow = true := by
  unfold joinedFacts
  repeat' with_reducible apply and_in
  all_goals first
    | with_reducible exact dg_inPlace
    | with_reducible exact dg_unfollowed
    | with_reducible exact dg_recurses
    | with_reducible exact dg_named
    | as_aux_lemma => kernel_rfl
theorem dg_func : Tryz.prog.funcNamed Rows.fnExactScaleGeneratorRow.func = some 10 := by kernel_rfl
theorem dg_inst : Tryz.f10.isInstance Tryz.prog Rows.fnExactScaleGeneratorRow.origin Rows.fnExactScaleGeneratorRow.targs := of_decide_eq_true (by kernel_rfl)
theorem dg_wrap : Tryz.f10.isWrapper Tryz.prog Rows.fnExactScaleGeneratorRow.wrapper Rows.fnExactScaleGeneratorRow.mainSum := by
  unfold Func.isWrapper; first | (rw [if_pos (by decide +kernel)]; kernel_rfl) | (rw [if_neg (by decide +kernel)]; exact ⟨rfl, rfl⟩)
theorem dg_over : Rows.fnExactScaleGeneratorRow.holds Tryz.pinned (OpenSpec.ofChange Rows.fnExactScaleGeneratorSpec) :=
  OpenClaim.holds_of_wide 10 Tryz.f10 rfl rfl rfl rfl rfl rfl rfl ⟨rfl, rfl, rfl, rfl, rfl⟩ rfl rfl rfl rfl rfl dg_func Tryz.func10 dg_closed dg_inst dg_wrap
    (fun os started H enc _ => dg_lifted os started H enc)

theorem fnExactScaleGenerator_holds : Rows.FnExactScaleGeneratorSaid := dg_over
#print axioms fnExactScaleGenerator_holds
end Go.Proofs.YtfodlhkoafhplaaGreat
