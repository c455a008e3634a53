/-
  What the law 'FnExactClosedForms' reaches: four closed facts of its row. No condition.
-/
import Derived.Test.YtabofnehiclkiaaGreatRows
import Derived.JoinedOf
namespace Go.Proofs.YtabofnehiclkiaaGreat
open Go Go.Proofs.Tryz
set_option linter.unusedVariables false

theorem dg_inPlace : (Rows.fnExactClosedFormsRow.inPlace == prog.inPlace 6) = true := by kernel_rfl
theorem dg_unfollowed : (Rows.fnExactClosedFormsRow.unfollowed == prog.unfollowed 6) = true := by kernel_rfl
theorem dg_recurses : (Rows.fnExactClosedFormsRow.recurses == prog.recurses 6) = true := by kernel_rfl
theorem dg_named : (Rows.fnExactClosedFormsRow.named == prog.varsNamed 6) = true := by kernel_rfl
end Go.Proofs.YtabofnehiclkiaaGreat
