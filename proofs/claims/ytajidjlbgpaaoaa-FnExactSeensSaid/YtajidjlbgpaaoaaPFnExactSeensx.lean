-- by a program of this session (wip/print/run.py) for this claim
import Derived.Test.YtajidjlbgpaaoaaPFnExactSeensx0
import Derived.Test.YtajidjlbgpaaoaaPFnExactSeensx1
import Derived.Test.YtajidjlbgpaaoaaPFnExactSeensx2
import Derived.Test.YtajidjlbgpaaoaaPFnExactSeensx3
import Derived.Test.YtajidjlbgpaaoaaPFnExactSeensx4
import Derived.Test.YtajidjlbgpaaoaaPFnExactSeensx5
import Derived.Test.YtajidjlbgpaaoaaPFnExactSeensx6
import Derived.Test.YtajidjlbgpaaoaaPFnExactSeensx7
import Derived.Test.YtajidjlbgpaaoaaPFnExactSeensx8
import Derived.Test.YtajidjlbgpaaoaaPFnExactSeensx9
import Derived.Test.YtajidjlbgpaaoaaPFnExactSeensx10
import Derived.Test.YtajidjlbgpaaoaaPFnExactSeensx11
namespace Go.Proofs.Ytajidjlbgpaaoaa.PFnExactSeens
open Go.RowKit Go.Proofs.YtajidjlbgpaaoaaW.PrintWords Go.Proofs.YtajidjlbgpaaoaaW.PrintLast Go.Proofs.YtajidjlbgpaaoaaW.PrintMore
attribute [local go_sem] max2_int min2_int max_two min_two max_three min_three max_four min_four   -- for this text's walks alone
set_option linter.unusedVariables false
set_option linter.unusedSimpArgs false

end Go.Proofs.Ytajidjlbgpaaoaa.PFnExactSeens
