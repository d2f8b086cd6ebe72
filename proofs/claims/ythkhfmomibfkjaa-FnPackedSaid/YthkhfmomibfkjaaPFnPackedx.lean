-- by a program of this session (wip/print/run.py) for this claim
import Derived.Test.YthkhfmomibfkjaaLibPu
import Derived.Test.YthkhfmomibfkjaaPFnPackedx0
import Derived.Test.YthkhfmomibfkjaaPFnPackedx1
import Derived.Test.YthkhfmomibfkjaaPFnPackedx2
import Derived.Test.YthkhfmomibfkjaaPFnPackedx3
import Derived.Test.YthkhfmomibfkjaaPFnPackedx4
import Derived.Test.YthkhfmomibfkjaaPFnPackedx5
import Derived.Test.YthkhfmomibfkjaaPFnPackedx6
import Derived.Test.YthkhfmomibfkjaaPFnPackedx7
import Derived.Test.YthkhfmomibfkjaaPFnPackedx8
import Derived.Test.YthkhfmomibfkjaaPFnPackedx9
import Derived.Test.YthkhfmomibfkjaaPFnPackedx10
import Derived.Test.YthkhfmomibfkjaaPFnPackedx11
import Derived.Test.YthkhfmomibfkjaaPFnPackedx12
import Derived.Test.YthkhfmomibfkjaaPFnPackedx13
import Derived.Test.YthkhfmomibfkjaaPFnPackedx14
import Derived.Test.YthkhfmomibfkjaaPFnPackedx15
import Derived.Test.YthkhfmomibfkjaaPFnPackedx16
import Derived.Test.YthkhfmomibfkjaaPFnPackedx17
import Derived.Test.YthkhfmomibfkjaaPFnPackedx18
namespace Go.Proofs.Ythkhfmomibfkjaa.PFnPacked
open Go.Proofs.Ythkhfmomibfkjaa.Lib Go.RowKit Go.Proofs.YthkhfmomibfkjaaW.PrintWords Go.Proofs.YthkhfmomibfkjaaW.PrintLast Go.Proofs.YthkhfmomibfkjaaW.PrintMore
attribute [local go_sem] max2_int min2_int max_two min_two max_three min_three max_four min_four   -- for this text's walks alone
set_option linter.unusedVariables false
set_option linter.unusedSimpArgs false

end Go.Proofs.Ythkhfmomibfkjaa.PFnPacked
