-- written by gprint (a program of this session's, round the kit's print), out of the translation and hand-written texts
import Derived.Test.YtekegbacnagbcaaGreatDoorProg
import Derived.Below
import Derived.Deep.Draws
import Derived.Deep.AppendLies
import Derived.Maps.AppendAt
import Derived.OwnWalk
import Derived.Laws.BytesArg
import Derived.Laws.MakeOwn
import Derived.Laws.OwnMore
import Derived.Deep.OwnRows
import Derived.Tactics
import Derived.Lib.ConvBytes
import Derived.Laws.Slices
import Derived.WalkKit
import Derived.KernelRfl
import Derived.RowKit3
import Derived.Deep.LoopGhost
import Derived.Deep.QuietTactic
import Derived.BigQuiet
import Derived.WideLaws
import Derived.Deep.DeepCutAuto
import Derived.Deep.CutBlock
import Derived.Deep.RegionHeld3
import Derived.Laws.Rows
import Derived.Lib.AppendStr
import Derived.ArgAppend
import Derived.Laws.IdiomCopy
import Derived.OrdersHeld
import Derived.Laws.BitsLemmas
import Derived.RowKit
import Derived.Test.YtekegbacnagbcaaGreatDoorLdA
import Derived.Lib.AtoiErrMem
import Derived.Test.YtekegbacnagbcaaGreatDoorTWWords
import Derived.Test.YtekegbacnagbcaaGreatDoorTWLast
import Derived.Test.YtekegbacnagbcaaGreatDoorTWTab
import Derived.Test.YtekegbacnagbcaaGreatDoorTWFour
import Derived.Test.YtekegbacnagbcaaGreatDoorTWQPut
import Derived.Test.YtekegbacnagbcaaGreatDoorTWApart
import Derived.Test.YtekegbacnagbcaaGreatDoorTWArr
import Derived.Test.YtekegbacnagbcaaGreatDoorTWZeros
import Derived.Test.YtekegbacnagbcaaGreatDoorTWFoot
import Derived.Test.YtekegbacnagbcaaGreatDoorTWKept
import Derived.Test.YtekegbacnagbcaaGreatDoorTWShare
import Derived.Test.YtekegbacnagbcaaGreatDoorTWN
import Derived.Test.YtekegbacnagbcaaGreatDoorTWFootNe
import Derived.Test.YtekegbacnagbcaaGreatDoorTWAt
import Derived.Test.YtekegbacnagbcaaGreatDoorTWEqStruct
import Derived.Test.YtekegbacnagbcaaGreatDoorTWRepsOne
import Derived.Test.YtekegbacnagbcaaGreatDoorTWInv
import Derived.Test.YtekegbacnagbcaaGreatDoorTWInvWords
import Derived.Test.YtekegbacnagbcaaGreatDoorTWGuard
import Derived.Test.YtekegbacnagbcaaGreatDoorTWNEv
import Derived.Test.YtekegbacnagbcaaGreatDoorTWMore
namespace Go.Proofs.YtekegbacnagbcaaGreatDoor.P
open Go.RowKit Go.Proofs.YtekegbacnagbcaaGreatDoorW.PrintWords Go.Proofs.YtekegbacnagbcaaGreatDoorW.PrintLast Go.Proofs.YtekegbacnagbcaaGreatDoorW.PrintMore
attribute [local go_sem] max2_int min2_int max_two min_two max_three min_three max_four min_four   -- for this text's walks alone
set_option linter.unusedVariables false
set_option linter.unusedSimpArgs false



def errW : Option Int → Value
 | none => .nilIface
 | some c => .iface 0 (.int .i64 c)
theorem errW_none : errW none = .nilIface := rfl
theorem errW_some (c : Int) : errW (some c) = .iface 0 (.int .i64 c) := rfl

theorem info3 : (Tryz.prog.info? 3).map (fun i => (i.zero, i.size, i.bytes)) = some (some (.int .i64 0), 1, 8) := by kernel_rfl
theorem info5 : (Tryz.prog.info? 5).map (fun i => (i.zero, i.size, i.bytes)) = some (some (.int .u8 0), 1, 1) := by kernel_rfl
theorem info9 : (Tryz.prog.info? 9).map (fun i => (i.zero, i.size, i.bytes)) = some (some (.string ⟨#[]⟩), 1, 16) := by kernel_rfl
-- the values' own types

end Go.Proofs.YtekegbacnagbcaaGreatDoor.P
