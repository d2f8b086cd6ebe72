-- by a program of this session (wip/print/run.py) for this claim
import Derived.Test.YthkhfmomibfkjaaPFnExactPackedx0
import Derived.Test.YthkhfmomibfkjaaPFnExactPackedx1
import Derived.Test.YthkhfmomibfkjaaPFnExactPackedx2
import Derived.Test.YthkhfmomibfkjaaPFnExactPackedx3
import Derived.Test.YthkhfmomibfkjaaPFnExactPackedx4
import Derived.Test.YthkhfmomibfkjaaPFnExactPackedx5
import Derived.Test.YthkhfmomibfkjaaPFnExactPackedx6
import Derived.Test.YthkhfmomibfkjaaPFnExactPackedx7
import Derived.Test.YthkhfmomibfkjaaPFnExactPackedx8
import Derived.Test.YthkhfmomibfkjaaPFnExactPackedx9
namespace Go.Proofs.Ythkhfmomibfkjaa.PFnExactPacked
open Go.RowKit Go.Proofs.YthkhfmomibfkjaaW.PrintWords Go.Proofs.YthkhfmomibfkjaaW.PrintLast Go.Proofs.YthkhfmomibfkjaaW.PrintMore
attribute [local go_sem] max2_int min2_int max_two min_two max_three min_three max_four min_four   -- for this text's walks alone
set_option linter.unusedVariables false
set_option linter.unusedSimpArgs false

end Go.Proofs.Ythkhfmomibfkjaa.PFnExactPacked
