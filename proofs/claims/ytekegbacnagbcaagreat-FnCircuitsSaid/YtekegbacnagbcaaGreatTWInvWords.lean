/- The print's words, cut down to what the laws' proofs use. -/
import Derived.Test.YtekegbacnagbcaaGreatTWInv
import Derived.Test.YtekegbacnagbcaaGreatTWFootNe
namespace Go.Proofs.YtekegbacnagbcaaGreatW.PrintWords
open Go.RowKit
end Go.Proofs.YtekegbacnagbcaaGreatW.PrintWords
namespace Go.Proofs.YtekegbacnagbcaaGreatW.PrintLast
section
variable {ops:Array Oper} {a:Act} {o og:Oper} {g:Nat} {t:Tmp} {u:Bool}
end
end Go.Proofs.YtekegbacnagbcaaGreatW.PrintLast
