-- written by gprint (a program of this session's, round the kit's print), out of the translation and hand-written texts
import Derived.Test.YtekegbacnagbcaaDoorPVMatroidTextx0
import Derived.Test.YtekegbacnagbcaaDoorPVMatroidTextx1
import Derived.Test.YtekegbacnagbcaaDoorPVMatroidTextx2
import Derived.Test.YtekegbacnagbcaaDoorPVMatroidTextx3
import Derived.Test.YtekegbacnagbcaaDoorPVMatroidTextx4
import Derived.Test.YtekegbacnagbcaaDoorPVMatroidTextx5
import Derived.Test.YtekegbacnagbcaaDoorPVMatroidTextx6
import Derived.Test.YtekegbacnagbcaaDoorPVMatroidTextx7
namespace Go.Proofs.YtekegbacnagbcaaDoor.P
open Go.RowKit Go.Proofs.YtekegbacnagbcaaDoorW.PrintWords Go.Proofs.YtekegbacnagbcaaDoorW.PrintLast Go.Proofs.YtekegbacnagbcaaDoorW.PrintMore
attribute [local go_sem] max2_int min2_int max_two min_two max_three min_three max_four min_four   -- for this text's walks alone
set_option linter.unusedVariables false
set_option linter.unusedSimpArgs false

end Go.Proofs.YtekegbacnagbcaaDoor.P
