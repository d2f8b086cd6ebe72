-- by a program of this session (wip/print/run.py) for this claim
import Derived.Test.YtaiggfjkikfcbaaPFnPutx0
import Derived.Test.YtaiggfjkikfcbaaPFnPutx1
import Derived.Test.YtaiggfjkikfcbaaPFnPutx2
import Derived.Test.YtaiggfjkikfcbaaPFnPutx3
import Derived.Test.YtaiggfjkikfcbaaPFnPutx4
import Derived.Test.YtaiggfjkikfcbaaPFnPutx5
import Derived.Test.YtaiggfjkikfcbaaPFnPutx6
import Derived.Test.YtaiggfjkikfcbaaPFnPutx7
import Derived.Test.YtaiggfjkikfcbaaPFnPutx8
import Derived.Test.YtaiggfjkikfcbaaPFnPutx9
import Derived.Test.YtaiggfjkikfcbaaPFnPutx10
import Derived.Test.YtaiggfjkikfcbaaPFnPutx11
import Derived.Test.YtaiggfjkikfcbaaPFnPutx12
namespace Go.Proofs.Ytaiggfjkikfcbaa.PFnPut
open Go.RowKit Go.Proofs.YtaiggfjkikfcbaaW.PrintWords Go.Proofs.YtaiggfjkikfcbaaW.PrintLast Go.Proofs.YtaiggfjkikfcbaaW.PrintMore
attribute [local go_sem] max2_int min2_int max_two min_two max_three min_three max_four min_four   -- for this text's walks alone
set_option linter.unusedVariables false
set_option linter.unusedSimpArgs false

end Go.Proofs.Ytaiggfjkikfcbaa.PFnPut
