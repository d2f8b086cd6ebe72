-- by a program of this session (wip/print/run.py) for this claim
import Derived.Test.YthkhfmomibfkjaaPFnRowsx0
import Derived.Test.YthkhfmomibfkjaaPFnRowsx1
import Derived.Test.YthkhfmomibfkjaaPFnRowsx2
import Derived.Test.YthkhfmomibfkjaaPFnRowsx3
import Derived.Test.YthkhfmomibfkjaaPFnRowsx4
import Derived.Test.YthkhfmomibfkjaaPFnRowsx5
import Derived.Test.YthkhfmomibfkjaaPFnRowsx6
import Derived.Test.YthkhfmomibfkjaaPFnRowsx7
namespace Go.Proofs.Ythkhfmomibfkjaa.PFnRows
open Go.RowKit Go.Proofs.YthkhfmomibfkjaaW.PrintWords Go.Proofs.YthkhfmomibfkjaaW.PrintLast Go.Proofs.YthkhfmomibfkjaaW.PrintMore
attribute [local go_sem] max2_int min2_int max_two min_two max_three min_three max_four min_four   -- for this text's walks alone
set_option linter.unusedVariables false
set_option linter.unusedSimpArgs false

end Go.Proofs.Ythkhfmomibfkjaa.PFnRows
