-- by a program of this session (wip/print/run.py) for this claim
import Derived.Test.YtepcmdmclmfgkaaDoorProg
import Derived.Shelf.Abstract
import Derived.Lib.SliceRun
import Derived.Test.YtepcmdmclmfgkaaDoorLibHit
import Derived.Below
import Derived.Deep.Draws
import Derived.Deep.AppendLies
import Derived.Maps.AppendAt
import Derived.OwnWalk
import Derived.Laws.BytesArg
import Derived.Laws.MakeOwn
import Derived.Laws.OwnMore
import Derived.Deep.OwnRows
import Derived.Tactics
import Derived.Lib.ConvBytes
import Derived.Laws.Slices
import Derived.WalkKit
import Derived.KernelRfl
import Derived.RowKit3
import Derived.Deep.LoopGhost
import Derived.Deep.QuietTactic
import Derived.BigQuiet
import Derived.WideLaws
import Derived.Deep.DeepCutAuto
import Derived.Deep.CutBlock
import Derived.Deep.RegionHeld3
import Derived.Laws.Rows
import Derived.Lib.AppendStr
import Derived.ArgAppend
import Derived.Laws.IdiomCopy
import Derived.OrdersHeld
import Derived.Laws.BitsLemmas
import Derived.RowKit
import Derived.Test.YtepcmdmclmfgkaaDoorLibStr
import Derived.Test.YtepcmdmclmfgkaaDoorFmt
import Derived.RangeFuncNested
import Derived.RangeFuncBound
import Derived.RangeFuncCalls
import Derived.RangeFuncLeaves
import Derived.OwnWalkIn
import Derived.TacticsInMore
import Derived.LoopNIn
import Derived.LoopIn
import Derived.Test.YtepcmdmclmfgkaaDoorWWords
import Derived.Test.YtepcmdmclmfgkaaDoorWLast
import Derived.Test.YtepcmdmclmfgkaaDoorWTab
import Derived.Test.YtepcmdmclmfgkaaDoorWFour
import Derived.Test.YtepcmdmclmfgkaaDoorWQPut
import Derived.Test.YtepcmdmclmfgkaaDoorWApart
import Derived.Test.YtepcmdmclmfgkaaDoorWArr
import Derived.Test.YtepcmdmclmfgkaaDoorWZeros
import Derived.Test.YtepcmdmclmfgkaaDoorWFoot
import Derived.Test.YtepcmdmclmfgkaaDoorWKept
import Derived.Test.YtepcmdmclmfgkaaDoorWShare
import Derived.Test.YtepcmdmclmfgkaaDoorWN
import Derived.Test.YtepcmdmclmfgkaaDoorWFootNe
import Derived.Test.YtepcmdmclmfgkaaDoorWAt
import Derived.Test.YtepcmdmclmfgkaaDoorWEqStruct
import Derived.Test.YtepcmdmclmfgkaaDoorWRepsOne
import Derived.Test.YtepcmdmclmfgkaaDoorWInv
import Derived.Test.YtepcmdmclmfgkaaDoorWInvWords
import Derived.Test.YtepcmdmclmfgkaaDoorWGuard
import Derived.Test.YtepcmdmclmfgkaaDoorWNEv
import Derived.Test.YtepcmdmclmfgkaaDoorWMore
namespace Go.Proofs.YtepcmdmclmfgkaaDoor.PFnExactReadSlot
open Go.RowKit Go.Proofs.YtepcmdmclmfgkaaDoorW.PrintWords Go.Proofs.YtepcmdmclmfgkaaDoorW.PrintLast Go.Proofs.YtepcmdmclmfgkaaDoorW.PrintMore
attribute [local go_sem] max2_int min2_int max_two min_two max_three min_three max_four min_four   -- for this text's walks alone
set_option linter.unusedVariables false
set_option linter.unusedSimpArgs false



def errW : Option Int → Value
  | none => .nilIface
  | some c => .iface 0 (.int .i64 c)
theorem errW_none : errW none = .nilIface := rfl
theorem errW_some (c : Int) : errW (some c) = .iface 0 (.int .i64 c) := rfl

theorem info5 : (Tryd.prog.info? 5).map (fun i => (i.zero, i.size, i.bytes)) = some (some (.int .u8 0), 1, 1) := by kernel_rfl
theorem info9 : (Tryd.prog.info? 9).map (fun i => (i.zero, i.size, i.bytes)) = some (some (.string ⟨#[]⟩), 1, 16) := by kernel_rfl
-- the values' own types

end Go.Proofs.YtepcmdmclmfgkaaDoor.PFnExactReadSlot
