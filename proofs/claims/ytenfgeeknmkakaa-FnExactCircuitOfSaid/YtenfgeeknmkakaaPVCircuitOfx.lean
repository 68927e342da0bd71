-- written by gprint (a program of this session's, round the kit's print), out of the translation and hand-written texts
import Derived.Test.YtenfgeeknmkakaaPVCircuitOfx0
import Derived.Test.YtenfgeeknmkakaaPVCircuitOfx1
import Derived.Test.YtenfgeeknmkakaaPVCircuitOfx2
import Derived.Test.YtenfgeeknmkakaaPVCircuitOfx3
import Derived.Test.YtenfgeeknmkakaaPVCircuitOfx4
import Derived.Test.YtenfgeeknmkakaaPVCircuitOfx5
namespace Go.Proofs.Ytenfgeeknmkakaa.P
open Go.RowKit Go.Proofs.YtenfgeeknmkakaaW.PrintWords Go.Proofs.YtenfgeeknmkakaaW.PrintLast Go.Proofs.YtenfgeeknmkakaaW.PrintMore
attribute [local go_sem] max2_int min2_int max_two min_two max_three min_three max_four min_four   -- for this text's walks alone
set_option linter.unusedVariables false
set_option linter.unusedSimpArgs false

end Go.Proofs.Ytenfgeeknmkakaa.P
