-- by a program of this session (wip/print/run.py) for this claim
import Derived.Test.YtajidjlbgpaaoaaPFnExactBottomx0
import Derived.Test.YtajidjlbgpaaoaaPFnExactBottomx1
import Derived.Test.YtajidjlbgpaaoaaPFnExactBottomx2
import Derived.Test.YtajidjlbgpaaoaaPFnExactBottomx3
import Derived.Test.YtajidjlbgpaaoaaPFnExactBottomx4
import Derived.Test.YtajidjlbgpaaoaaPFnExactBottomx5
import Derived.Test.YtajidjlbgpaaoaaPFnExactBottomx6
import Derived.Test.YtajidjlbgpaaoaaPFnExactBottomx7
import Derived.Test.YtajidjlbgpaaoaaPFnExactBottomx8
import Derived.Test.YtajidjlbgpaaoaaPFnExactBottomx9
import Derived.Test.YtajidjlbgpaaoaaPFnExactBottomx10
import Derived.Test.YtajidjlbgpaaoaaPFnExactBottomx11
import Derived.Test.YtajidjlbgpaaoaaPFnExactBottomx12
import Derived.Test.YtajidjlbgpaaoaaPFnExactBottomx13
import Derived.Test.YtajidjlbgpaaoaaPFnExactBottomx14
namespace Go.Proofs.Ytajidjlbgpaaoaa.PFnExactBottom
open Go.RowKit Go.Proofs.YtajidjlbgpaaoaaW.PrintWords Go.Proofs.YtajidjlbgpaaoaaW.PrintLast Go.Proofs.YtajidjlbgpaaoaaW.PrintMore
attribute [local go_sem] max2_int min2_int max_two min_two max_three min_three max_four min_four   -- for this text's walks alone
set_option linter.unusedVariables false
set_option linter.unusedSimpArgs false

end Go.Proofs.Ytajidjlbgpaaoaa.PFnExactBottom
