-- by a program of this session (wip/print/run.py) for this claim
import Derived.Test.YtajidjlbgpaaoaaPFnExactBarrierx0
import Derived.Test.YtajidjlbgpaaoaaPFnExactBarrierx1
import Derived.Test.YtajidjlbgpaaoaaPFnExactBarrierx2
import Derived.Test.YtajidjlbgpaaoaaPFnExactBarrierx3
import Derived.Test.YtajidjlbgpaaoaaPFnExactBarrierx4
import Derived.Test.YtajidjlbgpaaoaaPFnExactBarrierx5
import Derived.Test.YtajidjlbgpaaoaaPFnExactBarrierx6
import Derived.Test.YtajidjlbgpaaoaaPFnExactBarrierx7
namespace Go.Proofs.Ytajidjlbgpaaoaa.PFnExactBarrier
open Go.RowKit Go.Proofs.YtajidjlbgpaaoaaW.PrintWords Go.Proofs.YtajidjlbgpaaoaaW.PrintLast Go.Proofs.YtajidjlbgpaaoaaW.PrintMore
attribute [local go_sem] max2_int min2_int max_two min_two max_three min_three max_four min_four   -- for this text's walks alone
set_option linter.unusedVariables false
set_option linter.unusedSimpArgs false

end Go.Proofs.Ytajidjlbgpaaoaa.PFnExactBarrier
