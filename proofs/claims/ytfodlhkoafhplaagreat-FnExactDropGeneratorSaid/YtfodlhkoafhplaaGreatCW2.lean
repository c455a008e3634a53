/-
  What the law 'FnExactDropGenerator' reaches: four closed facts of its row. No condition.
-/
import Derived.Test.YtfodlhkoafhplaaGreatRows
import Derived.JoinedOf
namespace Go.Proofs.YtfodlhkoafhplaaGreat
open Go
set_option linter.unusedVariables false

theorem dg_inPlace : (Rows.fnExactDropGeneratorRow.inPlace == Tryz.prog.inPlace 3) = true := by kernel_rfl
theorem dg_unfollowed : (Rows.fnExactDropGeneratorRow.unfollowed == Tryz.prog.unfollowed 3) = true := by kernel_rfl
theorem dg_recurses : (Rows.fnExactDropGeneratorRow.recurses == Tryz.prog.recurses 3) = true := by kernel_rfl
theorem dg_named : (Rows.fnExactDropGeneratorRow.named == Tryz.prog.varsNamed 3) = true := by kernel_rfl
end Go.Proofs.YtfodlhkoafhplaaGreat
