/- The print's words, cut down to what the laws' proofs use. -/
import Derived.Test.YtekegbacnagbcaaTWInv
import Derived.Test.YtekegbacnagbcaaTWFootNe
namespace Go.Proofs.YtekegbacnagbcaaW.PrintWords
open Go.RowKit
end Go.Proofs.YtekegbacnagbcaaW.PrintWords
namespace Go.Proofs.YtekegbacnagbcaaW.PrintLast
section
variable {ops : Array Oper} {a : Act} {o og : Oper} {g : Nat} {t : Tmp} {u : Bool}
end
end Go.Proofs.YtekegbacnagbcaaW.PrintLast
