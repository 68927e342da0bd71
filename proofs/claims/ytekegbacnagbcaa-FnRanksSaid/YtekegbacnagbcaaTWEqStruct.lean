/- The print's words, cut down to what the laws' proofs use. -/
import Derived.Test.YtekegbacnagbcaaTWWords
import Derived.Laws.StructEq
namespace Go.Proofs.YtekegbacnagbcaaW.PrintWords
open Go.RowKit
section
variable {P : Program} {d : Nat} {xs ys : Array Value} {f : Field} {fs : List Field} {a b : Value} {r s : Bool} {w : World}
end
end Go.Proofs.YtekegbacnagbcaaW.PrintWords
