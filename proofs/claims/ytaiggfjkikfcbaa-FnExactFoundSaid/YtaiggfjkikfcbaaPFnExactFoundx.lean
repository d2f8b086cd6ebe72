-- by a program of this session (wip/print/run.py) for this claim
import Derived.Test.YtaiggfjkikfcbaaPFnExactFoundx0
import Derived.Test.YtaiggfjkikfcbaaPFnExactFoundx1
import Derived.Test.YtaiggfjkikfcbaaPFnExactFoundx2
import Derived.Test.YtaiggfjkikfcbaaPFnExactFoundx3
import Derived.Test.YtaiggfjkikfcbaaPFnExactFoundx4
import Derived.Test.YtaiggfjkikfcbaaPFnExactFoundx5
import Derived.Test.YtaiggfjkikfcbaaPFnExactFoundx6
import Derived.Test.YtaiggfjkikfcbaaPFnExactFoundx7
import Derived.Test.YtaiggfjkikfcbaaPFnExactFoundx8
import Derived.Test.YtaiggfjkikfcbaaPFnExactFoundx9
import Derived.Test.YtaiggfjkikfcbaaPFnExactFoundx10
import Derived.Test.YtaiggfjkikfcbaaPFnExactFoundx11
import Derived.Test.YtaiggfjkikfcbaaPFnExactFoundx12
import Derived.Test.YtaiggfjkikfcbaaPFnExactFoundx13
import Derived.Test.YtaiggfjkikfcbaaPFnExactFoundx14
import Derived.Test.YtaiggfjkikfcbaaPFnExactFoundx15
import Derived.Test.YtaiggfjkikfcbaaPFnExactFoundx16
import Derived.Test.YtaiggfjkikfcbaaPFnExactFoundx17
import Derived.Test.YtaiggfjkikfcbaaPFnExactFoundx18
namespace Go.Proofs.Ytaiggfjkikfcbaa.PFnExactFound
open Go.RowKit Go.Proofs.YtaiggfjkikfcbaaW.PrintWords Go.Proofs.YtaiggfjkikfcbaaW.PrintLast Go.Proofs.YtaiggfjkikfcbaaW.PrintMore
attribute [local go_sem] max2_int min2_int max_two min_two max_three min_three max_four min_four   -- for this text's walks alone
set_option linter.unusedVariables false
set_option linter.unusedSimpArgs false

end Go.Proofs.Ytaiggfjkikfcbaa.PFnExactFound
