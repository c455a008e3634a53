/-
  What the law 'FnExactBoundaryForms' reaches: four closed facts of its row. No condition.
-/
import Derived.Test.YtabofnehiclkiaaGreatRows
import Derived.JoinedOf
namespace Go.Proofs.YtabofnehiclkiaaGreat
open Go
set_option linter.unusedVariables false

theorem dg_inPlace : (Rows.fnExactBoundaryFormsRow.inPlace == Tryz.prog.inPlace 5) = true := by kernel_rfl
theorem dg_unfollowed : (Rows.fnExactBoundaryFormsRow.unfollowed == Tryz.prog.unfollowed 5) = true := by kernel_rfl
theorem dg_recurses : (Rows.fnExactBoundaryFormsRow.recurses == Tryz.prog.recurses 5) = true := by kernel_rfl
theorem dg_named : (Rows.fnExactBoundaryFormsRow.named == Tryz.prog.varsNamed 5) = true := by kernel_rfl
end Go.Proofs.YtabofnehiclkiaaGreat
