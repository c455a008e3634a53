/-
  The law 'FnExactDropGenerator' answers true for every input, and each argument reads behind the call as it read before.
  No condition: whatever the two arguments are.
-/
import Derived.Test.YtfodlhkoafhplaaGreatCW1
import Derived.Test.YtfodlhkoafhplaaGreatCW2
import Derived.JoinedOf
namespace Go.Proofs.YtfodlhkoafhplaaGreat
open Go
set_option linter.unusedVariables false

theorem and_in {a b : Bool} (ha : a = true) (hb : b = true) : (a && b) = true := by rw [ha, hb]; rfl
set_option maxRecDepth 100000 in
set_option maxHeartbeats 8000000 in
theorem dg_closed : joinedFacts Tryz.prog 3 Tryz.f3 Rows.fnExactDropGeneratorSpec Rows.fnExactDropGeneratorRow = true := by
  unfold joinedFacts
  repeat' with_reducible apply and_in
  all_goals first
    | with_reducible exact dg_inPlace
    | with_reducible exact dg_unfollowed
    | with_reducible exact dg_recurses
    | with_reducible exact dg_named
    | as_aux_lemma => kernel_rfl
theorem dg_func : Tryz.prog.funcNamed Rows.fnExactDropGeneratorRow.func = some 3 := by kernel_rfl
theorem dg_inst : Tryz.f3.isInstance Tryz.prog Rows.fnExactDropGeneratorRow.origin Rows.fnExactDropGeneratorRow.targs := of_decide_eq_true (by kernel_rfl)
theorem dg_wrap : Tryz.f3.isWrapper Tryz.prog Rows.fnExactDropGeneratorRow.wrapper Rows.fnExactDropGeneratorRow.mainSum := by
  unfold Func.isWrapper; first | (rw [if_pos (by decide +kernel)]; kernel_rfl) | (rw [if_neg (by decide +kernel)]; exact ⟨rfl, rfl⟩)
theorem dg_over : Rows.fnExactDropGeneratorRow.holds Tryz.pinned (OpenSpec.ofChange Rows.fnExactDropGeneratorSpec) :=
  OpenClaim.holds_of_wide 3 Tryz.f3 rfl rfl rfl rfl rfl rfl rfl ⟨rfl, rfl, rfl, rfl, rfl⟩ rfl rfl rfl rfl rfl dg_func Tryz.func3 dg_closed dg_inst dg_wrap
    (fun os started H enc _ => dg_lifted os started H enc)

theorem fnExactDropGenerator_holds : Rows.FnExactDropGeneratorSaid := dg_over
#print axioms fnExactDropGenerator_holds
end Go.Proofs.YtfodlhkoafhplaaGreat
