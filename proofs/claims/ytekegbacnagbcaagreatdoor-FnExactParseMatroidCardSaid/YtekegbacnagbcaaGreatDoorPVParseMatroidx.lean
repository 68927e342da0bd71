-- written by gprint (a program of this session's, round the kit's print), out of the translation and hand-written texts
import Derived.Test.YtekegbacnagbcaaGreatDoorPVParseMatroidx0
import Derived.Test.YtekegbacnagbcaaGreatDoorPVParseMatroidx1
import Derived.Test.YtekegbacnagbcaaGreatDoorPVParseMatroidx2
import Derived.Test.YtekegbacnagbcaaGreatDoorPVParseMatroidx3
import Derived.Test.YtekegbacnagbcaaGreatDoorPVParseMatroidx4
import Derived.Test.YtekegbacnagbcaaGreatDoorPVParseMatroidx5
import Derived.Test.YtekegbacnagbcaaGreatDoorPVParseMatroidx6
import Derived.Test.YtekegbacnagbcaaGreatDoorPVParseMatroidx7
import Derived.Test.YtekegbacnagbcaaGreatDoorPVParseMatroidx8
import Derived.Test.YtekegbacnagbcaaGreatDoorPVParseMatroidx9
import Derived.Test.YtekegbacnagbcaaGreatDoorPVParseMatroidx10
namespace Go.Proofs.YtekegbacnagbcaaGreatDoor.P
open Go.RowKit Go.Proofs.YtekegbacnagbcaaGreatDoorW.PrintWords Go.Proofs.YtekegbacnagbcaaGreatDoorW.PrintLast Go.Proofs.YtekegbacnagbcaaGreatDoorW.PrintMore
attribute [local go_sem] max2_int min2_int max_two min_two max_three min_three max_four min_four   -- for this text's walks alone
set_option linter.unusedVariables false
set_option linter.unusedSimpArgs false

end Go.Proofs.YtekegbacnagbcaaGreatDoor.P
