-- by a program of this session (wip/print/run.py) for this claim
import Derived.Test.YthkhfmomibfkjaaPFnExactShownx0
import Derived.Test.YthkhfmomibfkjaaPFnExactShownx1
import Derived.Test.YthkhfmomibfkjaaPFnExactShownx2
import Derived.Test.YthkhfmomibfkjaaPFnExactShownx3
import Derived.Test.YthkhfmomibfkjaaPFnExactShownx4
import Derived.Test.YthkhfmomibfkjaaPFnExactShownx5
import Derived.Test.YthkhfmomibfkjaaPFnExactShownx6
import Derived.Test.YthkhfmomibfkjaaPFnExactShownx7
import Derived.Test.YthkhfmomibfkjaaPFnExactShownx8
import Derived.Test.YthkhfmomibfkjaaPFnExactShownx9
namespace Go.Proofs.Ythkhfmomibfkjaa.PFnExactShown
open Go.RowKit Go.Proofs.YthkhfmomibfkjaaW.PrintWords Go.Proofs.YthkhfmomibfkjaaW.PrintLast Go.Proofs.YthkhfmomibfkjaaW.PrintMore
attribute [local go_sem] max2_int min2_int max_two min_two max_three min_three max_four min_four   -- for this text's walks alone
set_option linter.unusedVariables false
set_option linter.unusedSimpArgs false

end Go.Proofs.Ythkhfmomibfkjaa.PFnExactShown
