/-
  What the law 'FnExactPrimitiveOf' reaches: four closed facts of its row. No condition.
-/
import Derived.Test.YtabofnehiclkiaaGreatRows
import Derived.JoinedOf
namespace Go.Proofs.YtabofnehiclkiaaGreat
open Go Go.Proofs.Tryz
set_option linter.unusedVariables false

theorem dg_inPlace : (Rows.fnExactPrimitiveOfRow.inPlace == prog.inPlace 9) = true := by kernel_rfl
theorem dg_unfollowed : (Rows.fnExactPrimitiveOfRow.unfollowed == prog.unfollowed 9) = true := by kernel_rfl
theorem dg_recurses : (Rows.fnExactPrimitiveOfRow.recurses == prog.recurses 9) = true := by kernel_rfl
theorem dg_named : (Rows.fnExactPrimitiveOfRow.named == prog.varsNamed 9) = true := by kernel_rfl
end Go.Proofs.YtabofnehiclkiaaGreat
