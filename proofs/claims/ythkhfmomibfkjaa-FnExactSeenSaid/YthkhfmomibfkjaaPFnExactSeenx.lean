-- by a program of this session (wip/print/run.py) for this claim
import Derived.Test.YthkhfmomibfkjaaPFnExactSeenx0
import Derived.Test.YthkhfmomibfkjaaPFnExactSeenx1
import Derived.Test.YthkhfmomibfkjaaPFnExactSeenx2
import Derived.Test.YthkhfmomibfkjaaPFnExactSeenx3
import Derived.Test.YthkhfmomibfkjaaPFnExactSeenx4
import Derived.Test.YthkhfmomibfkjaaPFnExactSeenx5
import Derived.Test.YthkhfmomibfkjaaPFnExactSeenx6
import Derived.Test.YthkhfmomibfkjaaPFnExactSeenx7
namespace Go.Proofs.Ythkhfmomibfkjaa.PFnExactSeen
open Go.RowKit Go.Proofs.YthkhfmomibfkjaaW.PrintWords Go.Proofs.YthkhfmomibfkjaaW.PrintLast Go.Proofs.YthkhfmomibfkjaaW.PrintMore
attribute [local go_sem] max2_int min2_int max_two min_two max_three min_three max_four min_four   -- for this text's walks alone
set_option linter.unusedVariables false
set_option linter.unusedSimpArgs false

end Go.Proofs.Ythkhfmomibfkjaa.PFnExactSeen
