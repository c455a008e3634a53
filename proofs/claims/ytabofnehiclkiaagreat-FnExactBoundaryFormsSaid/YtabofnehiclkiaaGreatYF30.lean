/- Walks of functions: each computes its pure function, if that gives a value. -/
import Derived.Test.YtabofnehiclkiaaGreatYTy
import Derived.Test.YtabofnehiclkiaaGreatYF1
import Derived.Test.YtabofnehiclkiaaGreatYF18
import Derived.Test.YtabofnehiclkiaaGreatYF3
import Derived.Test.YtabofnehiclkiaaGreatYF10
import Derived.Test.YtabofnehiclkiaaGreatYF12
import Derived.Test.YtabofnehiclkiaaGreatYF14
import Derived.Test.YtabofnehiclkiaaGreatYF11
import Derived.Test.YtabofnehiclkiaaGreatYF7
import Derived.Test.YtabofnehiclkiaaGreatYF6
import Derived.Test.YtabofnehiclkiaaGreatYF4
import Derived.Test.YtabofnehiclkiaaGreatYF29
namespace Go.Proofs.YtabofnehiclkiaaGreat
open Go
set_option linter.unusedSimpArgs false
set_option linter.unusedVariables false
variable {K : Nat} {H : FH} {w : World} {L : OL} {s0 s1 s2 s3 s4 s5 s6 : Value}
-- impl_field impl_inverse slices_Clone_Sint64_int64 impl_lead impl_isZero impl_monomials impl_Algebra_d impl_sum_form impl_sum_add impl_first impl_when impl_asked_c1 impl_algebraCode slices_ContainsFunc_Sint64_int64 impl_sum_addAll
end Go.Proofs.YtabofnehiclkiaaGreat
