/-
  What the law 'FnExactContractPair' reaches: four closed facts of its row. No condition.
-/
import Derived.Test.YtfodlhkoafhplaaGreatRows
import Derived.JoinedOf
namespace Go.Proofs.YtfodlhkoafhplaaGreat
open Go
set_option linter.unusedVariables false

theorem dg_inPlace : (Rows.fnExactContractPairRow.inPlace == Tryz.prog.inPlace 12) = true := by kernel_rfl
theorem dg_unfollowed : (Rows.fnExactContractPairRow.unfollowed == Tryz.prog.unfollowed 12) = true := by kernel_rfl
theorem dg_recurses : (Rows.fnExactContractPairRow.recurses == Tryz.prog.recurses 12) = true := by kernel_rfl
theorem dg_named : (Rows.fnExactContractPairRow.named == Tryz.prog.varsNamed 12) = true := by kernel_rfl
end Go.Proofs.YtfodlhkoafhplaaGreat
