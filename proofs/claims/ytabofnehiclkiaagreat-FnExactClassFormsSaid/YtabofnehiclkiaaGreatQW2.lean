/-
  What the law 'FnExactClassForms' reaches: four closed facts of its row. No condition.
-/
import Derived.Test.YtabofnehiclkiaaGreatRows
import Derived.JoinedOf
namespace Go.Proofs.YtabofnehiclkiaaGreat
open Go Go.Proofs.Tryz
set_option linter.unusedVariables false

theorem dg_inPlace : (Rows.fnExactClassFormsRow.inPlace == prog.inPlace 7) = true := by kernel_rfl
theorem dg_unfollowed : (Rows.fnExactClassFormsRow.unfollowed == prog.unfollowed 7) = true := by kernel_rfl
theorem dg_recurses : (Rows.fnExactClassFormsRow.recurses == prog.recurses 7) = true := by kernel_rfl
theorem dg_named : (Rows.fnExactClassFormsRow.named == prog.varsNamed 7) = true := by kernel_rfl
end Go.Proofs.YtabofnehiclkiaaGreat
