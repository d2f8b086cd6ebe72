-- by a program of this session (wip/print/run.py) for this claim
import Derived.Test.YtajidjlbgpaaoaaPFnExactCutx0
import Derived.Test.YtajidjlbgpaaoaaPFnExactCutx1
import Derived.Test.YtajidjlbgpaaoaaPFnExactCutx2
import Derived.Test.YtajidjlbgpaaoaaPFnExactCutx3
import Derived.Test.YtajidjlbgpaaoaaPFnExactCutx4
import Derived.Test.YtajidjlbgpaaoaaPFnExactCutx5
import Derived.Test.YtajidjlbgpaaoaaPFnExactCutx6
import Derived.Test.YtajidjlbgpaaoaaPFnExactCutx7
namespace Go.Proofs.Ytajidjlbgpaaoaa.PFnExactCut
open Go.RowKit Go.Proofs.YtajidjlbgpaaoaaW.PrintWords Go.Proofs.YtajidjlbgpaaoaaW.PrintLast Go.Proofs.YtajidjlbgpaaoaaW.PrintMore
attribute [local go_sem] max2_int min2_int max_two min_two max_three min_three max_four min_four   -- for this text's walks alone
set_option linter.unusedVariables false
set_option linter.unusedSimpArgs false

end Go.Proofs.Ytajidjlbgpaaoaa.PFnExactCut
