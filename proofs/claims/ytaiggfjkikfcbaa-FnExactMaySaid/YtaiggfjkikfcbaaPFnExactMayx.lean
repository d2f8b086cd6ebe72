-- by a program of this session (wip/print/run.py) for this claim
import Derived.Test.YtaiggfjkikfcbaaPFnExactMayx0
import Derived.Test.YtaiggfjkikfcbaaPFnExactMayx1
import Derived.Test.YtaiggfjkikfcbaaPFnExactMayx2
import Derived.Test.YtaiggfjkikfcbaaPFnExactMayx3
import Derived.Test.YtaiggfjkikfcbaaPFnExactMayx4
import Derived.Test.YtaiggfjkikfcbaaPFnExactMayx5
import Derived.Test.YtaiggfjkikfcbaaPFnExactMayx6
import Derived.Test.YtaiggfjkikfcbaaPFnExactMayx7
import Derived.Test.YtaiggfjkikfcbaaPFnExactMayx8
import Derived.Test.YtaiggfjkikfcbaaPFnExactMayx9
import Derived.Test.YtaiggfjkikfcbaaPFnExactMayx10
import Derived.Test.YtaiggfjkikfcbaaPFnExactMayx11
import Derived.Test.YtaiggfjkikfcbaaPFnExactMayx12
import Derived.Test.YtaiggfjkikfcbaaPFnExactMayx13
import Derived.Test.YtaiggfjkikfcbaaPFnExactMayx14
import Derived.Test.YtaiggfjkikfcbaaPFnExactMayx15
import Derived.Test.YtaiggfjkikfcbaaPFnExactMayx16
import Derived.Test.YtaiggfjkikfcbaaPFnExactMayx17
import Derived.Test.YtaiggfjkikfcbaaPFnExactMayx18
namespace Go.Proofs.Ytaiggfjkikfcbaa.PFnExactMay
open Go.RowKit Go.Proofs.YtaiggfjkikfcbaaW.PrintWords Go.Proofs.YtaiggfjkikfcbaaW.PrintLast Go.Proofs.YtaiggfjkikfcbaaW.PrintMore
attribute [local go_sem] max2_int min2_int max_two min_two max_three min_three max_four min_four   -- for this text's walks alone
set_option linter.unusedVariables false
set_option linter.unusedSimpArgs false

end Go.Proofs.Ytaiggfjkikfcbaa.PFnExactMay
