-- written by gprint (a program of this session's, round the kit's print), out of the translation and hand-written texts
import Derived.Test.YthpocifdejedpaaPVCircuitsx0
import Derived.Test.YthpocifdejedpaaPVCircuitsx1
import Derived.Test.YthpocifdejedpaaPVCircuitsx2
import Derived.Test.YthpocifdejedpaaPVCircuitsx3
import Derived.Test.YthpocifdejedpaaPVCircuitsx4
import Derived.Test.YthpocifdejedpaaPVCircuitsx5
import Derived.Test.YthpocifdejedpaaPVCircuitsx6
import Derived.Test.YthpocifdejedpaaPVCircuitsx7
import Derived.Test.YthpocifdejedpaaPVCircuitsx8
import Derived.Test.YthpocifdejedpaaPVCircuitsx9
namespace Go.Proofs.Ythpocifdejedpaa.P
open Go.RowKit Go.Proofs.YthpocifdejedpaaW.PrintWords Go.Proofs.YthpocifdejedpaaW.PrintLast Go.Proofs.YthpocifdejedpaaW.PrintMore
attribute [local go_sem] max2_int min2_int max_two min_two max_three min_three max_four min_four   -- for this text's walks alone
set_option linter.unusedVariables false
set_option linter.unusedSimpArgs false

end Go.Proofs.Ythpocifdejedpaa.P
