-- written by gprint (a program of this session's, round the kit's print), out of the translation and hand-written texts
import Derived.Test.YthpocifdejedpaaPVGirthOfx0
import Derived.Test.YthpocifdejedpaaPVGirthOfx1
import Derived.Test.YthpocifdejedpaaPVGirthOfx2
import Derived.Test.YthpocifdejedpaaPVGirthOfx3
import Derived.Test.YthpocifdejedpaaPVGirthOfx4
import Derived.Test.YthpocifdejedpaaPVGirthOfx5
import Derived.Test.YthpocifdejedpaaPVGirthOfx6
import Derived.Test.YthpocifdejedpaaPVGirthOfx7
import Derived.Test.YthpocifdejedpaaPVGirthOfx8
namespace Go.Proofs.Ythpocifdejedpaa.P
open Go.RowKit Go.Proofs.YthpocifdejedpaaW.PrintWords Go.Proofs.YthpocifdejedpaaW.PrintLast Go.Proofs.YthpocifdejedpaaW.PrintMore
attribute [local go_sem] max2_int min2_int max_two min_two max_three min_three max_four min_four   -- for this text's walks alone
set_option linter.unusedVariables false
set_option linter.unusedSimpArgs false

end Go.Proofs.Ythpocifdejedpaa.P
