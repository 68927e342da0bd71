/- The print's words, cut down to what the laws' proofs use. -/
import Derived.Test.YthpocifdejedpaaTWInv
import Derived.Test.YthpocifdejedpaaTWFootNe
namespace Go.Proofs.YthpocifdejedpaaW.PrintWords
open Go.RowKit
end Go.Proofs.YthpocifdejedpaaW.PrintWords
namespace Go.Proofs.YthpocifdejedpaaW.PrintLast
section
variable {ops : Array Oper} {a : Act} {o og : Oper} {g : Nat} {t : Tmp} {u : Bool}
end
end Go.Proofs.YthpocifdejedpaaW.PrintLast
