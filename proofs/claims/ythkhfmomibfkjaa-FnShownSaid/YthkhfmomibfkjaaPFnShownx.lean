-- by a program of this session (wip/print/run.py) for this claim
import Derived.Test.YthkhfmomibfkjaaPFnShownx0
import Derived.Test.YthkhfmomibfkjaaPFnShownx1
import Derived.Test.YthkhfmomibfkjaaPFnShownx2
import Derived.Test.YthkhfmomibfkjaaPFnShownx3
import Derived.Test.YthkhfmomibfkjaaPFnShownx4
import Derived.Test.YthkhfmomibfkjaaPFnShownx5
import Derived.Test.YthkhfmomibfkjaaPFnShownx6
import Derived.Test.YthkhfmomibfkjaaPFnShownx7
import Derived.Test.YthkhfmomibfkjaaPFnShownx8
import Derived.Test.YthkhfmomibfkjaaPFnShownx9
import Derived.Test.YthkhfmomibfkjaaPFnShownx10
import Derived.Test.YthkhfmomibfkjaaPFnShownx11
import Derived.Test.YthkhfmomibfkjaaPFnShownx12
namespace Go.Proofs.Ythkhfmomibfkjaa.PFnShown
open Go.RowKit Go.Proofs.YthkhfmomibfkjaaW.PrintWords Go.Proofs.YthkhfmomibfkjaaW.PrintLast Go.Proofs.YthkhfmomibfkjaaW.PrintMore
attribute [local go_sem] max2_int min2_int max_two min_two max_three min_three max_four min_four   -- for this text's walks alone
set_option linter.unusedVariables false
set_option linter.unusedSimpArgs false

end Go.Proofs.Ythkhfmomibfkjaa.PFnShown
