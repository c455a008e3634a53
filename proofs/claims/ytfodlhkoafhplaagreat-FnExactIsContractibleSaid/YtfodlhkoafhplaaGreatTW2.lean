/-
  What the law 'FnExactIsContractible' reaches: four closed facts of its row. No condition.
-/
import Derived.Test.YtfodlhkoafhplaaGreatRows
import Derived.JoinedOf
namespace Go.Proofs.YtfodlhkoafhplaaGreat
open Go
set_option linter.unusedVariables false

theorem dg_inPlace : (Rows.fnExactIsContractibleRow.inPlace == Tryz.prog.inPlace 13) = true := by kernel_rfl
theorem dg_unfollowed : (Rows.fnExactIsContractibleRow.unfollowed == Tryz.prog.unfollowed 13) = true := by kernel_rfl
theorem dg_recurses : (Rows.fnExactIsContractibleRow.recurses == Tryz.prog.recurses 13) = true := by kernel_rfl
theorem dg_named : (Rows.fnExactIsContractibleRow.named == Tryz.prog.varsNamed 13) = true := by kernel_rfl
end Go.Proofs.YtfodlhkoafhplaaGreat
