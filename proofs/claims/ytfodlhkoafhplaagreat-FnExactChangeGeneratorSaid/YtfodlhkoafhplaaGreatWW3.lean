/-
  The law 'FnExactChangeGenerator' answers true for every input, and each argument reads behind the call as it read before.
  No condition: whatever the arguments are.
-/
import Derived.Test.YtfodlhkoafhplaaGreatWW1
import Derived.Test.YtfodlhkoafhplaaGreatWW2
import Derived.JoinedOf
namespace Go.Proofs.YtfodlhkoafhplaaGreat
open Go
set_option linter.unusedVariables false

theorem Wi7 {a b : Bool} (ha : a = true) (hb : b = true) : (a && b) = true := by rw [ha, hb]; rfl
set_option maxRecDepth 100000 in
set_option maxHeartbeats 8000000 in
theorem dg_closed : joinedFacts Tryz.prog 9 Tryz.f9 Rows.fnExactChangeGeneratorSpec Rows.fnExactChangeGeneratorRow = true := by
  unfold joinedFacts
  repeat' with_reducible apply Wi7
  all_goals first
    | with_reducible exact dg_inPlace
    | with_reducible exact dg_unfollowed
    | with_reducible exact dg_recurses
    | with_reducible exact dg_named
    | as_aux_lemma => kernel_rfl
theorem dg_func : Tryz.prog.funcNamed Rows.fnExactChangeGeneratorRow.func = some 9 := by kernel_rfl
theorem dg_inst : Tryz.f9.isInstance Tryz.prog Rows.fnExactChangeGeneratorRow.origin Rows.fnExactChangeGeneratorRow.targs := of_decide_eq_true (by kernel_rfl)
theorem dg_wrap : Tryz.f9.isWrapper Tryz.prog Rows.fnExactChangeGeneratorRow.wrapper Rows.fnExactChangeGeneratorRow.mainSum := by
  unfold Func.isWrapper; first | (rw [if_pos (by decide +kernel)]; kernel_rfl) | (rw [if_neg (by decide +kernel)]; exact ⟨rfl, rfl⟩)
theorem dg_over : Rows.fnExactChangeGeneratorRow.holds Tryz.pinned (OpenSpec.ofChange Rows.fnExactChangeGeneratorSpec) :=
  OpenClaim.holds_of_wide 9 Tryz.f9 rfl rfl rfl rfl rfl rfl rfl ⟨rfl, rfl, rfl, rfl, rfl⟩ rfl rfl rfl rfl rfl dg_func Tryz.func9 dg_closed dg_inst dg_wrap
    (fun os started H enc _ => dg_lifted os started H enc)

theorem fnExactChangeGenerator_holds : Rows.FnExactChangeGeneratorSaid := dg_over
#print axioms fnExactChangeGenerator_holds
end Go.Proofs.YtfodlhkoafhplaaGreat
