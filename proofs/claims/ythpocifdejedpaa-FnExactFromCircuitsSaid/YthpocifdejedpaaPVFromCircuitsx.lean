-- written by gprint (a program of this session's, round the kit's print), out of the translation and hand-written texts
import Derived.Test.YthpocifdejedpaaPVFromCircuitsx0
import Derived.Test.YthpocifdejedpaaPVFromCircuitsx1
import Derived.Test.YthpocifdejedpaaPVFromCircuitsx2
import Derived.Test.YthpocifdejedpaaPVFromCircuitsx3
import Derived.Test.YthpocifdejedpaaPVFromCircuitsx4
import Derived.Test.YthpocifdejedpaaPVFromCircuitsx5
import Derived.Test.YthpocifdejedpaaPVFromCircuitsx6
import Derived.Test.YthpocifdejedpaaPVFromCircuitsx7
import Derived.Test.YthpocifdejedpaaPVFromCircuitsx8
import Derived.Test.YthpocifdejedpaaPVFromCircuitsx9
import Derived.Test.YthpocifdejedpaaPVFromCircuitsx10
import Derived.Test.YthpocifdejedpaaPVFromCircuitsx11
namespace Go.Proofs.Ythpocifdejedpaa.P
open Go.RowKit Go.Proofs.YthpocifdejedpaaW.PrintWords Go.Proofs.YthpocifdejedpaaW.PrintLast Go.Proofs.YthpocifdejedpaaW.PrintMore
attribute [local go_sem] max2_int min2_int max_two min_two max_three min_three max_four min_four   -- for this text's walks alone
set_option linter.unusedVariables false
set_option linter.unusedSimpArgs false

end Go.Proofs.Ythpocifdejedpaa.P
