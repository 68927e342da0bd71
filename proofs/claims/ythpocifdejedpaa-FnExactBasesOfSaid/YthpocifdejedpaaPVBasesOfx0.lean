-- written by gprint (a program of this session's, round the kit's print), out of the translation and hand-written texts
import Derived.Test.YthpocifdejedpaaProg
import Derived.Below
import Derived.Deep.Draws
import Derived.Deep.AppendLies
import Derived.Maps.AppendAt
import Derived.OwnWalk
import Derived.Laws.BytesArg
import Derived.Laws.MakeOwn
import Derived.Laws.OwnMore
import Derived.Deep.OwnRows
import Derived.Tactics
import Derived.Lib.ConvBytes
import Derived.Laws.Slices
import Derived.WalkKit
import Derived.KernelRfl
import Derived.RowKit3
import Derived.Deep.LoopGhost
import Derived.Deep.QuietTactic
import Derived.BigQuiet
import Derived.WideLaws
import Derived.Deep.DeepCutAuto
import Derived.Deep.CutBlock
import Derived.Deep.RegionHeld3
import Derived.Laws.Rows
import Derived.Lib.AppendStr
import Derived.ArgAppend
import Derived.Laws.IdiomCopy
import Derived.OrdersHeld
import Derived.Laws.BitsLemmas
import Derived.RowKit
import Derived.Test.YthpocifdejedpaaShelf
import Derived.Sort.OwnSortedInts
import Derived.Lib.RowBridge
import Derived.Test.YthpocifdejedpaaTWWords
import Derived.Test.YthpocifdejedpaaTWLast
import Derived.Test.YthpocifdejedpaaTWTab
import Derived.Test.YthpocifdejedpaaTWFour
import Derived.Test.YthpocifdejedpaaTWQPut
import Derived.Test.YthpocifdejedpaaTWApart
import Derived.Test.YthpocifdejedpaaTWArr
import Derived.Test.YthpocifdejedpaaTWZeros
import Derived.Test.YthpocifdejedpaaTWFoot
import Derived.Test.YthpocifdejedpaaTWKept
import Derived.Test.YthpocifdejedpaaTWShare
import Derived.Test.YthpocifdejedpaaTWN
import Derived.Test.YthpocifdejedpaaTWFootNe
import Derived.Test.YthpocifdejedpaaTWAt
import Derived.Test.YthpocifdejedpaaTWEqStruct
import Derived.Test.YthpocifdejedpaaTWRepsOne
import Derived.Test.YthpocifdejedpaaTWInv
import Derived.Test.YthpocifdejedpaaTWInvWords
import Derived.Test.YthpocifdejedpaaTWGuard
import Derived.Test.YthpocifdejedpaaTWNEv
import Derived.Test.YthpocifdejedpaaTWMore
namespace Go.Proofs.Ythpocifdejedpaa.P
open Go.RowKit Go.Proofs.YthpocifdejedpaaW.PrintWords Go.Proofs.YthpocifdejedpaaW.PrintLast Go.Proofs.YthpocifdejedpaaW.PrintMore
attribute [local go_sem] max2_int min2_int max_two min_two max_three min_three max_four min_four   -- for this text's walks alone
set_option linter.unusedVariables false
set_option linter.unusedSimpArgs false



def errW : Option Int → Value
  | none => .nilIface
  | some c => .iface 0 (.int .i64 c)
theorem errW_none : errW none = .nilIface := rfl
theorem errW_some (c : Int) : errW (some c) = .iface 0 (.int .i64 c) := rfl

theorem info3 : (Try.prog.info? 3).map (fun i => (i.zero, i.size, i.bytes)) = some (some (.int .i64 0), 1, 8) := by kernel_rfl
-- the values' own types

end Go.Proofs.Ythpocifdejedpaa.P
