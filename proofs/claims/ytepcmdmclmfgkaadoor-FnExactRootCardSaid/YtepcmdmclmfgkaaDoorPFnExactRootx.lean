-- by a program of this session (wip/print/run.py) for this claim
import Derived.Test.YtepcmdmclmfgkaaDoorPFnExactRootx0
import Derived.Test.YtepcmdmclmfgkaaDoorPFnExactRootx1
import Derived.Test.YtepcmdmclmfgkaaDoorPFnExactRootx2
import Derived.Test.YtepcmdmclmfgkaaDoorPFnExactRootx3
import Derived.Test.YtepcmdmclmfgkaaDoorPFnExactRootx4
import Derived.Test.YtepcmdmclmfgkaaDoorPFnExactRootx5
import Derived.Test.YtepcmdmclmfgkaaDoorPFnExactRootx6
import Derived.Test.YtepcmdmclmfgkaaDoorPFnExactRootx7
import Derived.Test.YtepcmdmclmfgkaaDoorPFnExactRootx8
namespace Go.Proofs.YtepcmdmclmfgkaaDoor.PFnExactRoot
open Go.RowKit Go.Proofs.YtepcmdmclmfgkaaDoorW.PrintWords Go.Proofs.YtepcmdmclmfgkaaDoorW.PrintLast Go.Proofs.YtepcmdmclmfgkaaDoorW.PrintMore
attribute [local go_sem] max2_int min2_int max_two min_two max_three min_three max_four min_four   -- for this text's walks alone
set_option linter.unusedVariables false
set_option linter.unusedSimpArgs false

end Go.Proofs.YtepcmdmclmfgkaaDoor.PFnExactRoot
