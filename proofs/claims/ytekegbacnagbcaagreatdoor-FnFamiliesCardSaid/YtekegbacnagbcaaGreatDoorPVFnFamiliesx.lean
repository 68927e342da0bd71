-- written by gprint (a program of this session's, round the kit's print), out of the translation and hand-written texts
import Derived.Test.YtekegbacnagbcaaGreatDoorPVFnFamiliesx0
import Derived.Test.YtekegbacnagbcaaGreatDoorPVFnFamiliesx1
import Derived.Test.YtekegbacnagbcaaGreatDoorPVFnFamiliesx2
import Derived.Test.YtekegbacnagbcaaGreatDoorPVFnFamiliesx3
import Derived.Test.YtekegbacnagbcaaGreatDoorPVFnFamiliesx4
import Derived.Test.YtekegbacnagbcaaGreatDoorPVFnFamiliesx5
import Derived.Test.YtekegbacnagbcaaGreatDoorPVFnFamiliesx6
import Derived.Test.YtekegbacnagbcaaGreatDoorPVFnFamiliesx7
import Derived.Test.YtekegbacnagbcaaGreatDoorPVFnFamiliesx8
import Derived.Test.YtekegbacnagbcaaGreatDoorPVFnFamiliesx9
import Derived.Test.YtekegbacnagbcaaGreatDoorPVFnFamiliesx10
import Derived.Test.YtekegbacnagbcaaGreatDoorPVFnFamiliesx11
import Derived.Test.YtekegbacnagbcaaGreatDoorPVFnFamiliesx12
import Derived.Test.YtekegbacnagbcaaGreatDoorPVFnFamiliesx13
namespace Go.Proofs.YtekegbacnagbcaaGreatDoor.P
open Go.RowKit Go.Proofs.YtekegbacnagbcaaGreatDoorW.PrintWords Go.Proofs.YtekegbacnagbcaaGreatDoorW.PrintLast Go.Proofs.YtekegbacnagbcaaGreatDoorW.PrintMore
attribute [local go_sem] max2_int min2_int max_two min_two max_three min_three max_four min_four   -- for this text's walks alone
set_option linter.unusedVariables false
set_option linter.unusedSimpArgs false

end Go.Proofs.YtekegbacnagbcaaGreatDoor.P
