-- by a program of this session (wip/print/run.py) for this claim
import Derived.Test.YtaiggfjkikfcbaaPFnExactPutx0
import Derived.Test.YtaiggfjkikfcbaaPFnExactPutx1
import Derived.Test.YtaiggfjkikfcbaaPFnExactPutx2
import Derived.Test.YtaiggfjkikfcbaaPFnExactPutx3
import Derived.Test.YtaiggfjkikfcbaaPFnExactPutx4
import Derived.Test.YtaiggfjkikfcbaaPFnExactPutx5
import Derived.Test.YtaiggfjkikfcbaaPFnExactPutx6
import Derived.Test.YtaiggfjkikfcbaaPFnExactPutx7
import Derived.Test.YtaiggfjkikfcbaaPFnExactPutx8
import Derived.Test.YtaiggfjkikfcbaaPFnExactPutx9
import Derived.Test.YtaiggfjkikfcbaaPFnExactPutx10
import Derived.Test.YtaiggfjkikfcbaaPFnExactPutx11
namespace Go.Proofs.Ytaiggfjkikfcbaa.PFnExactPut
open Go.RowKit Go.Proofs.YtaiggfjkikfcbaaW.PrintWords Go.Proofs.YtaiggfjkikfcbaaW.PrintLast Go.Proofs.YtaiggfjkikfcbaaW.PrintMore
attribute [local go_sem] max2_int min2_int max_two min_two max_three min_three max_four min_four   -- for this text's walks alone
set_option linter.unusedVariables false
set_option linter.unusedSimpArgs false

end Go.Proofs.Ytaiggfjkikfcbaa.PFnExactPut
