/-
  The law 'FnExactContractPair' answers true for every input, and each argument reads behind the call as it read before.
  No condition: whatever the arguments are.
-/
import Derived.Test.YtfodlhkoafhplaaGreatVW1
import Derived.Test.YtfodlhkoafhplaaGreatVW2
import Derived.JoinedOf
namespace Go.Proofs.YtfodlhkoafhplaaGreat
open Go
set_option linter.unusedVariables false

theorem Ww4 {a b : Bool} (ha : a = true) (hb : b = true) : (a && b) = true := by rw [ha, hb]; rfl
set_option maxRecDepth 100000 in
set_option maxHeartbeats 8000000 in
theorem dg_closed : joinedFacts Tryz.prog 12 Tryz.f12 Rows.fnExactContractPairSpec Rows.fnExactContractPairRow = true := by
  unfold joinedFacts
  repeat' with_reducible apply Ww4
  all_goals first
    | with_reducible exact dg_inPlace
    | with_reducible exact dg_unfollowed
    | with_reducible exact dg_recurses
    | with_reducible exact dg_named
    | as_aux_lemma => kernel_rfl
theorem dg_func : Tryz.prog.funcNamed Rows.fnExactContractPairRow.func = some 12 := by kernel_rfl
theorem dg_inst : Tryz.f12.isInstance Tryz.prog Rows.fnExactContractPairRow.origin Rows.fnExactContractPairRow.targs := of_decide_eq_true (by kernel_rfl)
theorem dg_wrap : Tryz.f12.isWrapper Tryz.prog Rows.fnExactContractPairRow.wrapper Rows.fnExactContractPairRow.mainSum := by
  unfold Func.isWrapper; first | (rw [if_pos (by decide +kernel)]; kernel_rfl) | (rw [if_neg (by decide +kernel)]; exact ⟨rfl, rfl⟩)
theorem dg_over : Rows.fnExactContractPairRow.holds Tryz.pinned (OpenSpec.ofChange Rows.fnExactContractPairSpec) :=
  OpenClaim.holds_of_wide 12 Tryz.f12 rfl rfl rfl rfl rfl rfl rfl ⟨rfl, rfl, rfl, rfl, rfl⟩ rfl rfl rfl rfl rfl dg_func Tryz.func12 dg_closed dg_inst dg_wrap
    (fun os started H enc _ => dg_lifted os started H enc)

theorem fnExactContractPair_holds : Rows.FnExactContractPairSaid := dg_over
#print axioms fnExactContractPair_holds
end Go.Proofs.YtfodlhkoafhplaaGreat
