-- by a program of this session (wip/print/run.py) for this claim
import Derived.Test.YthkhfmomibfkjaaPFnExactUnpackedx0
import Derived.Test.YthkhfmomibfkjaaPFnExactUnpackedx1
import Derived.Test.YthkhfmomibfkjaaPFnExactUnpackedx2
import Derived.Test.YthkhfmomibfkjaaPFnExactUnpackedx3
import Derived.Test.YthkhfmomibfkjaaPFnExactUnpackedx4
import Derived.Test.YthkhfmomibfkjaaPFnExactUnpackedx5
import Derived.Test.YthkhfmomibfkjaaPFnExactUnpackedx6
import Derived.Test.YthkhfmomibfkjaaPFnExactUnpackedx7
import Derived.Test.YthkhfmomibfkjaaPFnExactUnpackedx8
import Derived.Test.YthkhfmomibfkjaaPFnExactUnpackedx9
import Derived.Test.YthkhfmomibfkjaaPFnExactUnpackedx10
import Derived.Test.YthkhfmomibfkjaaPFnExactUnpackedx11
import Derived.Test.YthkhfmomibfkjaaPFnExactUnpackedx12
import Derived.Test.YthkhfmomibfkjaaPFnExactUnpackedx13
import Derived.Test.YthkhfmomibfkjaaPFnExactUnpackedx14
namespace Go.Proofs.Ythkhfmomibfkjaa.PFnExactUnpacked
open Go.RowKit Go.Proofs.YthkhfmomibfkjaaW.PrintWords Go.Proofs.YthkhfmomibfkjaaW.PrintLast Go.Proofs.YthkhfmomibfkjaaW.PrintMore
attribute [local go_sem] max2_int min2_int max_two min_two max_three min_three max_four min_four   -- for this text's walks alone
set_option linter.unusedVariables false
set_option linter.unusedSimpArgs false

end Go.Proofs.Ythkhfmomibfkjaa.PFnExactUnpacked
