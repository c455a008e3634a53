/-
  What the law 'FnExactScaleGenerator' reaches: four closed facts of its row. No condition.
-/
import Derived.Test.YtfodlhkoafhplaaGreatRows
import Derived.JoinedOf
namespace Go.Proofs.YtfodlhkoafhplaaGreat
open Go
set_option linter.unusedVariables false

theorem dg_inPlace : (Rows.fnExactScaleGeneratorRow.inPlace == Tryz.prog.inPlace 10) = true := by kernel_rfl
theorem dg_unfollowed : (Rows.fnExactScaleGeneratorRow.unfollowed == Tryz.prog.unfollowed 10) = true := by kernel_rfl
theorem dg_recurses : (Rows.fnExactScaleGeneratorRow.recurses == Tryz.prog.recurses 10) = true := by kernel_rfl
theorem dg_named : (Rows.fnExactScaleGeneratorRow.named == Tryz.prog.varsNamed 10) = true := by kernel_rfl
end Go.Proofs.YtfodlhkoafhplaaGreat
