-- by a program of this session (wip/print/run.py) for this claim
import Derived.Test.YtaiggfjkikfcbaaPFnExactBuiltx0
import Derived.Test.YtaiggfjkikfcbaaPFnExactBuiltx1
import Derived.Test.YtaiggfjkikfcbaaPFnExactBuiltx2
import Derived.Test.YtaiggfjkikfcbaaPFnExactBuiltx3
import Derived.Test.YtaiggfjkikfcbaaPFnExactBuiltx4
import Derived.Test.YtaiggfjkikfcbaaPFnExactBuiltx5
import Derived.Test.YtaiggfjkikfcbaaPFnExactBuiltx6
import Derived.Test.YtaiggfjkikfcbaaPFnExactBuiltx7
import Derived.Test.YtaiggfjkikfcbaaPFnExactBuiltx8
import Derived.Test.YtaiggfjkikfcbaaPFnExactBuiltx9
import Derived.Test.YtaiggfjkikfcbaaPFnExactBuiltx10
import Derived.Test.YtaiggfjkikfcbaaPFnExactBuiltx11
import Derived.Test.YtaiggfjkikfcbaaPFnExactBuiltx12
import Derived.Test.YtaiggfjkikfcbaaPFnExactBuiltx13
import Derived.Test.YtaiggfjkikfcbaaPFnExactBuiltx14
import Derived.Test.YtaiggfjkikfcbaaPFnExactBuiltx15
namespace Go.Proofs.Ytaiggfjkikfcbaa.PFnExactBuilt
open Go.RowKit Go.Proofs.YtaiggfjkikfcbaaW.PrintWords Go.Proofs.YtaiggfjkikfcbaaW.PrintLast Go.Proofs.YtaiggfjkikfcbaaW.PrintMore
attribute [local go_sem] max2_int min2_int max_two min_two max_three min_three max_four min_four   -- for this text's walks alone
set_option linter.unusedVariables false
set_option linter.unusedSimpArgs false

end Go.Proofs.Ytaiggfjkikfcbaa.PFnExactBuilt
