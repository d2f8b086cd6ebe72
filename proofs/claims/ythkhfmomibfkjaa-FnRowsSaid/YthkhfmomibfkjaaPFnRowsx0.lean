-- by a program of this session (wip/print/run.py) for this claim
import Derived.Test.YthkhfmomibfkjaaProg
import Derived.Shelf.Abstract
import Derived.Lib.SliceRun
import Derived.Test.YthkhfmomibfkjaaLibHit
import Derived.Below
import Derived.Deep.Draws
import Derived.Deep.AppendLies
import Derived.Maps.AppendAt
import Derived.OwnWalk
import Derived.Laws.BytesArg
import Derived.Laws.MakeOwn
import Derived.Laws.OwnMore
import Derived.Deep.OwnRows
import Derived.Tactics
import Derived.Lib.ConvBytes
import Derived.Laws.Slices
import Derived.WalkKit
import Derived.KernelRfl
import Derived.RowKit3
import Derived.Deep.LoopGhost
import Derived.Deep.QuietTactic
import Derived.BigQuiet
import Derived.WideLaws
import Derived.Deep.DeepCutAuto
import Derived.Deep.CutBlock
import Derived.Deep.RegionHeld3
import Derived.Laws.Rows
import Derived.Lib.AppendStr
import Derived.ArgAppend
import Derived.Laws.IdiomCopy
import Derived.OrdersHeld
import Derived.Laws.BitsLemmas
import Derived.RowKit
import Derived.Test.YthkhfmomibfkjaaLibStr
import Derived.Test.YthkhfmomibfkjaaLibConv
import Derived.RangeFuncNested
import Derived.RangeFuncBound
import Derived.RangeFuncCalls
import Derived.RangeFuncLeaves
import Derived.OwnWalkIn
import Derived.TacticsInMore
import Derived.LoopNIn
import Derived.LoopIn
import Derived.Test.YthkhfmomibfkjaaWWords
import Derived.Test.YthkhfmomibfkjaaWLast
import Derived.Test.YthkhfmomibfkjaaWTab
import Derived.Test.YthkhfmomibfkjaaWFour
import Derived.Test.YthkhfmomibfkjaaWQPut
import Derived.Test.YthkhfmomibfkjaaWApart
import Derived.Test.YthkhfmomibfkjaaWArr
import Derived.Test.YthkhfmomibfkjaaWZeros
import Derived.Test.YthkhfmomibfkjaaWFoot
import Derived.Test.YthkhfmomibfkjaaWKept
import Derived.Test.YthkhfmomibfkjaaWShare
import Derived.Test.YthkhfmomibfkjaaWN
import Derived.Test.YthkhfmomibfkjaaWFootNe
import Derived.Test.YthkhfmomibfkjaaWAt
import Derived.Test.YthkhfmomibfkjaaWEqStruct
import Derived.Test.YthkhfmomibfkjaaWRepsOne
import Derived.Test.YthkhfmomibfkjaaWInv
import Derived.Test.YthkhfmomibfkjaaWInvWords
import Derived.Test.YthkhfmomibfkjaaWGuard
import Derived.Test.YthkhfmomibfkjaaWNEv
import Derived.Test.YthkhfmomibfkjaaWMore
namespace Go.Proofs.Ythkhfmomibfkjaa.PFnRows
open Go.RowKit Go.Proofs.YthkhfmomibfkjaaW.PrintWords Go.Proofs.YthkhfmomibfkjaaW.PrintLast Go.Proofs.YthkhfmomibfkjaaW.PrintMore
attribute [local go_sem] max2_int min2_int max_two min_two max_three min_three max_four min_four   -- for this text's walks alone
set_option linter.unusedVariables false
set_option linter.unusedSimpArgs false



def errW : Option Int → Value
  | none => .nilIface
  | some c => .iface 0 (.int .i64 c)
theorem errW_none : errW none = .nilIface := rfl
theorem errW_some (c : Int) : errW (some c) = .iface 0 (.int .i64 c) := rfl

theorem info2 : (Try.prog.info? 2).map (fun i => (i.zero, i.size, i.bytes)) = some (some (.int .i64 0), 1, 8) := by kernel_rfl
theorem info5 : (Try.prog.info? 5).map (fun i => (i.zero, i.size, i.bytes)) = some (some (.int .u8 0), 1, 1) := by kernel_rfl
-- the values' own types

end Go.Proofs.Ythkhfmomibfkjaa.PFnRows
