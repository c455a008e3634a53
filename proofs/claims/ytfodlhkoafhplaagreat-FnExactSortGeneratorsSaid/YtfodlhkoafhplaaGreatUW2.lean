/-
  What the law 'FnExactSortGenerators' reaches: four closed facts of its row. No condition.
-/
import Derived.Test.YtfodlhkoafhplaaGreatRows
import Derived.JoinedOf
namespace Go.Proofs.YtfodlhkoafhplaaGreat
open Go
set_option linter.unusedVariables false

theorem dg_inPlace : (Rows.fnExactSortGeneratorsRow.inPlace == Tryz.prog.inPlace 11) = true := by kernel_rfl
theorem dg_unfollowed : (Rows.fnExactSortGeneratorsRow.unfollowed == Tryz.prog.unfollowed 11) = true := by kernel_rfl
theorem dg_recurses : (Rows.fnExactSortGeneratorsRow.recurses == Tryz.prog.recurses 11) = true := by kernel_rfl
theorem dg_named : (Rows.fnExactSortGeneratorsRow.named == Tryz.prog.varsNamed 11) = true := by kernel_rfl
end Go.Proofs.YtfodlhkoafhplaaGreat
