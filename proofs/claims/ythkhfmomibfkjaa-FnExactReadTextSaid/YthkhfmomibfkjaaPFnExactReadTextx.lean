-- by a program of this session (wip/print/run.py) for this claim
import Derived.Test.YthkhfmomibfkjaaPFnExactReadTextx0
import Derived.Test.YthkhfmomibfkjaaPFnExactReadTextx1
import Derived.Test.YthkhfmomibfkjaaPFnExactReadTextx2
namespace Go.Proofs.Ythkhfmomibfkjaa.PFnExactReadText
open Go.RowKit Go.Proofs.YthkhfmomibfkjaaW.PrintWords Go.Proofs.YthkhfmomibfkjaaW.PrintLast Go.Proofs.YthkhfmomibfkjaaW.PrintMore
attribute [local go_sem] max2_int min2_int max_two min_two max_three min_three max_four min_four   -- for this text's walks alone
set_option linter.unusedVariables false
set_option linter.unusedSimpArgs false

end Go.Proofs.Ythkhfmomibfkjaa.PFnExactReadText
