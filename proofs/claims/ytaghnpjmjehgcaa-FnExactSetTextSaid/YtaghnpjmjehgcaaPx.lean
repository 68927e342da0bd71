-- written by gprint (a program of this session's, round the kit's print), out of the translation and hand-written texts
import Derived.Test.YtaghnpjmjehgcaaPx0
import Derived.Test.YtaghnpjmjehgcaaPx1
import Derived.Test.YtaghnpjmjehgcaaPx2
import Derived.Test.YtaghnpjmjehgcaaPx3
import Derived.Test.YtaghnpjmjehgcaaPx4
import Derived.Test.YtaghnpjmjehgcaaPx5
import Derived.Test.YtaghnpjmjehgcaaPx6
namespace Go.Proofs.Ytaghnpjmjehgcaa.P
open Go.RowKit Go.Proofs.YtaghnpjmjehgcaaW.PrintWords Go.Proofs.YtaghnpjmjehgcaaW.PrintLast Go.Proofs.YtaghnpjmjehgcaaW.PrintMore
attribute [local go_sem] max2_int min2_int max_two min_two max_three min_three max_four min_four   -- for this text's walks alone
set_option linter.unusedVariables false
set_option linter.unusedSimpArgs false

end Go.Proofs.Ytaghnpjmjehgcaa.P
