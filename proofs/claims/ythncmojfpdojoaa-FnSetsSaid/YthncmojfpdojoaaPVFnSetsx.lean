-- written by gprint (a program of this session's, round the kit's print), out of the translation and hand-written texts
import Derived.Test.YthncmojfpdojoaaPVFnSetsx0
import Derived.Test.YthncmojfpdojoaaPVFnSetsx1
import Derived.Test.YthncmojfpdojoaaPVFnSetsx2
import Derived.Test.YthncmojfpdojoaaPVFnSetsx3
import Derived.Test.YthncmojfpdojoaaPVFnSetsx4
import Derived.Test.YthncmojfpdojoaaPVFnSetsx5
namespace Go.Proofs.Ythncmojfpdojoaa.P
open Go.RowKit Go.Proofs.YthncmojfpdojoaaW.PrintWords Go.Proofs.YthncmojfpdojoaaW.PrintLast Go.Proofs.YthncmojfpdojoaaW.PrintMore
attribute [local go_sem] max2_int min2_int max_two min_two max_three min_three max_four min_four   -- for this text's walks alone
set_option linter.unusedVariables false
set_option linter.unusedSimpArgs false

end Go.Proofs.Ythncmojfpdojoaa.P
