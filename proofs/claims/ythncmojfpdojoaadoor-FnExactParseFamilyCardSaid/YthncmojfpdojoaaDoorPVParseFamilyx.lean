-- written by gprint (a program of this session's, round the kit's print), out of the translation and hand-written texts
import Derived.Test.YthncmojfpdojoaaDoorPVParseFamilyx0
import Derived.Test.YthncmojfpdojoaaDoorPVParseFamilyx1
import Derived.Test.YthncmojfpdojoaaDoorPVParseFamilyx2
import Derived.Test.YthncmojfpdojoaaDoorPVParseFamilyx3
import Derived.Test.YthncmojfpdojoaaDoorPVParseFamilyx4
import Derived.Test.YthncmojfpdojoaaDoorPVParseFamilyx5
namespace Go.Proofs.YthncmojfpdojoaaDoor.P
open Go.RowKit Go.Proofs.YthncmojfpdojoaaDoorW.PrintWords Go.Proofs.YthncmojfpdojoaaDoorW.PrintLast Go.Proofs.YthncmojfpdojoaaDoorW.PrintMore
attribute [local go_sem] max2_int min2_int max_two min_two max_three min_three max_four min_four   -- for this text's walks alone
set_option linter.unusedVariables false
set_option linter.unusedSimpArgs false

end Go.Proofs.YthncmojfpdojoaaDoor.P
