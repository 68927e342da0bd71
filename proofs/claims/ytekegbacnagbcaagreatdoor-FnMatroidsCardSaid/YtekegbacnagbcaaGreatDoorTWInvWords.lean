/- The print's words, cut down to what the laws' proofs use. -/
import Derived.Test.YtekegbacnagbcaaGreatDoorTWInv
import Derived.Test.YtekegbacnagbcaaGreatDoorTWFootNe
namespace Go.Proofs.YtekegbacnagbcaaGreatDoorW.PrintWords
open Go.RowKit
end Go.Proofs.YtekegbacnagbcaaGreatDoorW.PrintWords
namespace Go.Proofs.YtekegbacnagbcaaGreatDoorW.PrintLast
section
variable {ops : Array Oper} {a : Act} {o og : Oper} {g : Nat} {t : Tmp} {u : Bool}
end
end Go.Proofs.YtekegbacnagbcaaGreatDoorW.PrintLast
