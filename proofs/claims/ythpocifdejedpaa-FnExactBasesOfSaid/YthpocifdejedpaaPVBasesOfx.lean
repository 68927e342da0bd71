-- written by gprint (a program of this session's, round the kit's print), out of the translation and hand-written texts
import Derived.Test.YthpocifdejedpaaPVBasesOfx0
import Derived.Test.YthpocifdejedpaaPVBasesOfx1
import Derived.Test.YthpocifdejedpaaPVBasesOfx2
import Derived.Test.YthpocifdejedpaaPVBasesOfx3
import Derived.Test.YthpocifdejedpaaPVBasesOfx4
import Derived.Test.YthpocifdejedpaaPVBasesOfx5
import Derived.Test.YthpocifdejedpaaPVBasesOfx6
import Derived.Test.YthpocifdejedpaaPVBasesOfx7
import Derived.Test.YthpocifdejedpaaPVBasesOfx8
namespace Go.Proofs.Ythpocifdejedpaa.P
open Go.RowKit Go.Proofs.YthpocifdejedpaaW.PrintWords Go.Proofs.YthpocifdejedpaaW.PrintLast Go.Proofs.YthpocifdejedpaaW.PrintMore
attribute [local go_sem] max2_int min2_int max_two min_two max_three min_three max_four min_four   -- for this text's walks alone
set_option linter.unusedVariables false
set_option linter.unusedSimpArgs false

end Go.Proofs.Ythpocifdejedpaa.P
