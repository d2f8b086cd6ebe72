-- by a program of this session (wip/print/run.py) for this claim
import Derived.Test.YthkhfmomibfkjaaPFnTextsx0
import Derived.Test.YthkhfmomibfkjaaPFnTextsx1
import Derived.Test.YthkhfmomibfkjaaPFnTextsx2
import Derived.Test.YthkhfmomibfkjaaPFnTextsx3
import Derived.Test.YthkhfmomibfkjaaPFnTextsx4
import Derived.Test.YthkhfmomibfkjaaPFnTextsx5
import Derived.Test.YthkhfmomibfkjaaPFnTextsx6
import Derived.Test.YthkhfmomibfkjaaPFnTextsx7
import Derived.Test.YthkhfmomibfkjaaPFnTextsx8
namespace Go.Proofs.Ythkhfmomibfkjaa.PFnTexts
open Go.RowKit Go.Proofs.YthkhfmomibfkjaaW.PrintWords Go.Proofs.YthkhfmomibfkjaaW.PrintLast Go.Proofs.YthkhfmomibfkjaaW.PrintMore
attribute [local go_sem] max2_int min2_int max_two min_two max_three min_three max_four min_four   -- for this text's walks alone
set_option linter.unusedVariables false
set_option linter.unusedSimpArgs false

end Go.Proofs.Ythkhfmomibfkjaa.PFnTexts
