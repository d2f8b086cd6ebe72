-- by a program of this session (wip/print/run.py) for this claim
import Derived.Test.YtajidjlbgpaaoaaPFnSeensx0
import Derived.Test.YtajidjlbgpaaoaaPFnSeensx1
import Derived.Test.YtajidjlbgpaaoaaPFnSeensx2
import Derived.Test.YtajidjlbgpaaoaaPFnSeensx3
import Derived.Test.YtajidjlbgpaaoaaPFnSeensx4
import Derived.Test.YtajidjlbgpaaoaaPFnSeensx5
import Derived.Test.YtajidjlbgpaaoaaPFnSeensx6
import Derived.Test.YtajidjlbgpaaoaaPFnSeensx7
import Derived.Test.YtajidjlbgpaaoaaPFnSeensx8
import Derived.Test.YtajidjlbgpaaoaaPFnSeensx9
import Derived.Test.YtajidjlbgpaaoaaPFnSeensx10
import Derived.Test.YtajidjlbgpaaoaaPFnSeensx11
import Derived.Test.YtajidjlbgpaaoaaPFnSeensx12
import Derived.Test.YtajidjlbgpaaoaaPFnSeensx13
import Derived.Test.YtajidjlbgpaaoaaPFnSeensx14
namespace Go.Proofs.Ytajidjlbgpaaoaa.PFnSeens
open Go.RowKit Go.Proofs.YtajidjlbgpaaoaaW.PrintWords Go.Proofs.YtajidjlbgpaaoaaW.PrintLast Go.Proofs.YtajidjlbgpaaoaaW.PrintMore
attribute [local go_sem] max2_int min2_int max_two min_two max_three min_three max_four min_four   -- for this text's walks alone
set_option linter.unusedVariables false
set_option linter.unusedSimpArgs false

end Go.Proofs.Ytajidjlbgpaaoaa.PFnSeens
