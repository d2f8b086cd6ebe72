-- by a program of this session (wip/print/run.py) for this claim
import Derived.Test.YtepcmdmclmfgkaaDoorPFnDigestsx0
import Derived.Test.YtepcmdmclmfgkaaDoorPFnDigestsx1
import Derived.Test.YtepcmdmclmfgkaaDoorPFnDigestsx2
import Derived.Test.YtepcmdmclmfgkaaDoorPFnDigestsx3
import Derived.Test.YtepcmdmclmfgkaaDoorPFnDigestsx4
namespace Go.Proofs.YtepcmdmclmfgkaaDoor.PFnDigests
open Go.RowKit Go.Proofs.YtepcmdmclmfgkaaDoorW.PrintWords Go.Proofs.YtepcmdmclmfgkaaDoorW.PrintLast Go.Proofs.YtepcmdmclmfgkaaDoorW.PrintMore
attribute [local go_sem] max2_int min2_int max_two min_two max_three min_three max_four min_four   -- for this text's walks alone
set_option linter.unusedVariables false
set_option linter.unusedSimpArgs false

end Go.Proofs.YtepcmdmclmfgkaaDoor.PFnDigests
