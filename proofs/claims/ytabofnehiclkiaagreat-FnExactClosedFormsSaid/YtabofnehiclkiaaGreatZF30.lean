/- Walks of functions: each computes its pure function, if that gives a value. -/
import Derived.Test.YtabofnehiclkiaaGreatZF29
namespace Go.Proofs.YtabofnehiclkiaaGreat
open Go
set_option linter.unusedSimpArgs false
set_option linter.unusedVariables false
variable {K : Nat} {H : FH} {w : World} {L : OL} {s0 s1 s2 s3 s4 s5 s6 : Value}
end Go.Proofs.YtabofnehiclkiaaGreat
