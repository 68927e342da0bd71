-- written by gprint (a program of this session's, round the kit's print), out of the translation and hand-written texts
import Derived.Test.YtmbpmfdkdedjdaaProg
import Derived.Below
import Derived.Deep.Draws
import Derived.Deep.AppendLies
import Derived.Maps.AppendAt
import Derived.OwnWalk
import Derived.Laws.BytesArg
import Derived.Laws.MakeOwn
import Derived.Laws.OwnMore
import Derived.Deep.OwnRows
import Derived.Tactics
import Derived.Lib.ConvBytes
import Derived.Laws.Slices
import Derived.WalkKit
import Derived.KernelRfl
import Derived.RowKit3
import Derived.Deep.LoopGhost
import Derived.Deep.QuietTactic
import Derived.BigQuiet
import Derived.WideLaws
import Derived.Deep.DeepCutAuto
import Derived.Deep.CutBlock
import Derived.Deep.RegionHeld3
import Derived.Laws.Rows
import Derived.Lib.AppendStr
import Derived.ArgAppend
import Derived.Laws.IdiomCopy
import Derived.OrdersHeld
import Derived.Laws.BitsLemmas
import Derived.RowKit
import Derived.Test.YtmbpmfdkdedjdaaWWords
import Derived.Test.YtmbpmfdkdedjdaaWLast
import Derived.Test.YtmbpmfdkdedjdaaWTab
import Derived.Test.YtmbpmfdkdedjdaaWFour
import Derived.Test.YtmbpmfdkdedjdaaWQPut
import Derived.Test.YtmbpmfdkdedjdaaWApart
import Derived.Test.YtmbpmfdkdedjdaaWArr
import Derived.Test.YtmbpmfdkdedjdaaWZeros
import Derived.Test.YtmbpmfdkdedjdaaWFoot
import Derived.Test.YtmbpmfdkdedjdaaWKept
import Derived.Test.YtmbpmfdkdedjdaaWShare
import Derived.Test.YtmbpmfdkdedjdaaWN
import Derived.Test.YtmbpmfdkdedjdaaWFootNe
import Derived.Test.YtmbpmfdkdedjdaaWAt
import Derived.Test.YtmbpmfdkdedjdaaWEqStruct
import Derived.Test.YtmbpmfdkdedjdaaWRepsOne
import Derived.Test.YtmbpmfdkdedjdaaWInv
import Derived.Test.YtmbpmfdkdedjdaaWInvWords
import Derived.Test.YtmbpmfdkdedjdaaWGuard
import Derived.Test.YtmbpmfdkdedjdaaWNEv
import Derived.Test.YtmbpmfdkdedjdaaWMore
namespace Go.Proofs.Ytmbpmfdkdedjdaa.P
open Go.RowKit Go.Proofs.YtmbpmfdkdedjdaaW.PrintWords Go.Proofs.YtmbpmfdkdedjdaaW.PrintLast Go.Proofs.YtmbpmfdkdedjdaaW.PrintMore
attribute [local go_sem] max2_int min2_int max_two min_two max_three min_three max_four min_four   -- for this text's walks alone
set_option linter.unusedVariables false
set_option linter.unusedSimpArgs false



def errW : Option Int → Value
  | none => .nilIface
  | some c => .iface 0 (.int .i64 c)
theorem errW_none : errW none = .nilIface := rfl
theorem errW_some (c : Int) : errW (some c) = .iface 0 (.int .i64 c) := rfl

-- the values' own types

end Go.Proofs.Ytmbpmfdkdedjdaa.P
