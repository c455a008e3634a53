/-
  The law 'FnExactIsContractible' answers true for every input, and each argument reads behind the call as it read before.
  No condition: whatever the arguments are.
-/
import Derived.Test.YtfodlhkoafhplaaGreatTW1
import Derived.Test.YtfodlhkoafhplaaGreatTW2
import Derived.JoinedOf
namespace Go.Proofs.YtfodlhkoafhplaaGreat
open Go
set_option linter.unusedVariables false

theorem Wu3 {a b : Bool} (ha : a = true) (hb : b = true) : (a && b) = true := by rw [ha, hb]; rfl
set_option maxRecDepth 100000 in
set_option maxHeartbeats 8000000 in
theorem dg_closed : joinedFacts Tryz.prog 13 Tryz.f13 Rows.fnExactIsContractibleSpec Rows.fnExactIsContractibleRow = true := by
  unfold joinedFacts
  repeat' with_reducible apply Wu3
  all_goals first
    | with_reducible exact dg_inPlace
    | with_reducible exact dg_unfollowed
    | with_reducible exact dg_recurses
    | with_reducible exact dg_named
    | as_aux_lemma => kernel_rfl
theorem dg_func : Tryz.prog.funcNamed Rows.fnExactIsContractibleRow.func = some 13 := by kernel_rfl
theorem dg_inst : Tryz.f13.isInstance Tryz.prog Rows.fnExactIsContractibleRow.origin Rows.fnExactIsContractibleRow.targs := of_decide_eq_true (by kernel_rfl)
theorem dg_wrap : Tryz.f13.isWrapper Tryz.prog Rows.fnExactIsContractibleRow.wrapper Rows.fnExactIsContractibleRow.mainSum := by
  unfold Func.isWrapper; first | (rw [if_pos (by decide +kernel)]; kernel_rfl) | (rw [if_neg (by decide +kernel)]; exact ⟨rfl, rfl⟩)
theorem dg_over : Rows.fnExactIsContractibleRow.holds Tryz.pinned (OpenSpec.ofChange Rows.fnExactIsContractibleSpec) :=
  OpenClaim.holds_of_wide 13 Tryz.f13 rfl rfl rfl rfl rfl rfl rfl ⟨rfl, rfl, rfl, rfl, rfl⟩ rfl rfl rfl rfl rfl dg_func Tryz.func13 dg_closed dg_inst dg_wrap
    (fun os started H enc _ => dg_lifted os started H enc)

theorem fnExactIsContractible_holds : Rows.FnExactIsContractibleSaid := dg_over
#print axioms fnExactIsContractible_holds
end Go.Proofs.YtfodlhkoafhplaaGreat
