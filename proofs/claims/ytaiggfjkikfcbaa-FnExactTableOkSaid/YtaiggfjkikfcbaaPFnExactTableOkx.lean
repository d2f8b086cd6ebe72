-- by a program of this session (wip/print/run.py) for this claim
import Derived.Test.YtaiggfjkikfcbaaPFnExactTableOkx0
import Derived.Test.YtaiggfjkikfcbaaPFnExactTableOkx1
import Derived.Test.YtaiggfjkikfcbaaPFnExactTableOkx2
import Derived.Test.YtaiggfjkikfcbaaPFnExactTableOkx3
import Derived.Test.YtaiggfjkikfcbaaPFnExactTableOkx4
import Derived.Test.YtaiggfjkikfcbaaPFnExactTableOkx5
import Derived.Test.YtaiggfjkikfcbaaPFnExactTableOkx6
import Derived.Test.YtaiggfjkikfcbaaPFnExactTableOkx7
import Derived.Test.YtaiggfjkikfcbaaPFnExactTableOkx8
import Derived.Test.YtaiggfjkikfcbaaPFnExactTableOkx9
import Derived.Test.YtaiggfjkikfcbaaPFnExactTableOkx10
import Derived.Test.YtaiggfjkikfcbaaPFnExactTableOkx11
import Derived.Test.YtaiggfjkikfcbaaPFnExactTableOkx12
import Derived.Test.YtaiggfjkikfcbaaPFnExactTableOkx13
import Derived.Test.YtaiggfjkikfcbaaPFnExactTableOkx14
import Derived.Test.YtaiggfjkikfcbaaPFnExactTableOkx15
import Derived.Test.YtaiggfjkikfcbaaPFnExactTableOkx16
namespace Go.Proofs.Ytaiggfjkikfcbaa.PFnExactTableOk
open Go.RowKit Go.Proofs.YtaiggfjkikfcbaaW.PrintWords Go.Proofs.YtaiggfjkikfcbaaW.PrintLast Go.Proofs.YtaiggfjkikfcbaaW.PrintMore
attribute [local go_sem] max2_int min2_int max_two min_two max_three min_three max_four min_four   -- for this text's walks alone
set_option linter.unusedVariables false
set_option linter.unusedSimpArgs false

end Go.Proofs.Ytaiggfjkikfcbaa.PFnExactTableOk
