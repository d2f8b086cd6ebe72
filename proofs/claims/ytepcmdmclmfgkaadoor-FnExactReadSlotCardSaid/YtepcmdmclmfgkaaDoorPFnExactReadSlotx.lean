-- by a program of this session (wip/print/run.py) for this claim
import Derived.Test.YtepcmdmclmfgkaaDoorPFnExactReadSlotx0
import Derived.Test.YtepcmdmclmfgkaaDoorPFnExactReadSlotx1
import Derived.Test.YtepcmdmclmfgkaaDoorPFnExactReadSlotx2
import Derived.Test.YtepcmdmclmfgkaaDoorPFnExactReadSlotx3
namespace Go.Proofs.YtepcmdmclmfgkaaDoor.PFnExactReadSlot
open Go.RowKit Go.Proofs.YtepcmdmclmfgkaaDoorW.PrintWords Go.Proofs.YtepcmdmclmfgkaaDoorW.PrintLast Go.Proofs.YtepcmdmclmfgkaaDoorW.PrintMore
attribute [local go_sem] max2_int min2_int max_two min_two max_three min_three max_four min_four   -- for this text's walks alone
set_option linter.unusedVariables false
set_option linter.unusedSimpArgs false

end Go.Proofs.YtepcmdmclmfgkaaDoor.PFnExactReadSlot
