/-
  What the law 'FnExactChangeGenerator' reaches: four closed facts of its row. No condition.
-/
import Derived.Test.YtfodlhkoafhplaaGreatRows
import Derived.JoinedOf
namespace Go.Proofs.YtfodlhkoafhplaaGreat
open Go
set_option linter.unusedVariables false

theorem dg_inPlace : (Rows.fnExactChangeGeneratorRow.inPlace == Tryz.prog.inPlace 9) = true := by kernel_rfl
theorem dg_unfollowed : (Rows.fnExactChangeGeneratorRow.unfollowed == Tryz.prog.unfollowed 9) = true := by kernel_rfl
theorem dg_recurses : (Rows.fnExactChangeGeneratorRow.recurses == Tryz.prog.recurses 9) = true := by kernel_rfl
theorem dg_named : (Rows.fnExactChangeGeneratorRow.named == Tryz.prog.varsNamed 9) = true := by kernel_rfl
end Go.Proofs.YtfodlhkoafhplaaGreat
