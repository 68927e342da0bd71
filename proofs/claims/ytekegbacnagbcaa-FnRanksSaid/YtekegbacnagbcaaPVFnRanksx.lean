-- written by gprint (a program of this session's, round the kit's print), out of the translation and hand-written texts
import Derived.Test.YtekegbacnagbcaaPVFnRanksx0
import Derived.Test.YtekegbacnagbcaaPVFnRanksx1
import Derived.Test.YtekegbacnagbcaaPVFnRanksx2
import Derived.Test.YtekegbacnagbcaaPVFnRanksx3
import Derived.Test.YtekegbacnagbcaaPVFnRanksx4
import Derived.Test.YtekegbacnagbcaaPVFnRanksx5
import Derived.Test.YtekegbacnagbcaaPVFnRanksx6
import Derived.Test.YtekegbacnagbcaaPVFnRanksx7
import Derived.Test.YtekegbacnagbcaaPVFnRanksx8
import Derived.Test.YtekegbacnagbcaaPVFnRanksx9
import Derived.Test.YtekegbacnagbcaaPVFnRanksx10
import Derived.Test.YtekegbacnagbcaaPVFnRanksx11
import Derived.Test.YtekegbacnagbcaaPVFnRanksx12
import Derived.Test.YtekegbacnagbcaaPVFnRanksx13
import Derived.Test.YtekegbacnagbcaaPVFnRanksx14
import Derived.Test.YtekegbacnagbcaaPVFnRanksx15
import Derived.Test.YtekegbacnagbcaaPVFnRanksx16
import Derived.Test.YtekegbacnagbcaaPVFnRanksx17
import Derived.Test.YtekegbacnagbcaaPVFnRanksx18
import Derived.Test.YtekegbacnagbcaaPVFnRanksx19
namespace Go.Proofs.Ytekegbacnagbcaa.P
open Go.RowKit Go.Proofs.YtekegbacnagbcaaW.PrintWords Go.Proofs.YtekegbacnagbcaaW.PrintLast Go.Proofs.YtekegbacnagbcaaW.PrintMore
attribute [local go_sem] max2_int min2_int max_two min_two max_three min_three max_four min_four   -- for this text's walks alone
set_option linter.unusedVariables false
set_option linter.unusedSimpArgs false

end Go.Proofs.Ytekegbacnagbcaa.P
