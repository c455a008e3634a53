/-
  What the law 'FnExactReduceAlgebra' reaches: four closed facts of its row. No condition.
-/
import Derived.Test.YtabofnehiclkiaaGreatRows
import Derived.JoinedOf
namespace Go.Proofs.YtabofnehiclkiaaGreat
open Go
set_option linter.unusedVariables false

theorem dg_inPlace : (Rows.fnExactReduceAlgebraRow.inPlace == Tryz.prog.inPlace 8) = true := by kernel_rfl
theorem dg_unfollowed : (Rows.fnExactReduceAlgebraRow.unfollowed == Tryz.prog.unfollowed 8) = true := by kernel_rfl
theorem dg_recurses : (Rows.fnExactReduceAlgebraRow.recurses == Tryz.prog.recurses 8) = true := by kernel_rfl
theorem dg_named : (Rows.fnExactReduceAlgebraRow.named == Tryz.prog.varsNamed 8) = true := by kernel_rfl
end Go.Proofs.YtabofnehiclkiaaGreat
