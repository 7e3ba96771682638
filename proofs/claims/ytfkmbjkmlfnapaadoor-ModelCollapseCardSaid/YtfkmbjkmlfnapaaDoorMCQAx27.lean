import Derived.Test.YtfkmbjkmlfnapaaDoorMCQAx0
import Derived.Test.YtfkmbjkmlfnapaaDoorMCQAx1
import Derived.Test.YtfkmbjkmlfnapaaDoorMCQAx2
import Derived.Test.YtfkmbjkmlfnapaaDoorMCQAx10
import Derived.Test.YtfkmbjkmlfnapaaDoorMCQAx11
import Derived.Test.YtfkmbjkmlfnapaaDoorMCQAx12
import Derived.Test.YtfkmbjkmlfnapaaDoorMCQAx13
import Derived.Test.YtfkmbjkmlfnapaaDoorMCQAx22
import Derived.Test.YtfkmbjkmlfnapaaDoorMCQAx23
import Derived.Test.YtfkmbjkmlfnapaaDoorMCQAx25
namespace Go.Proofs.YtfkmbjkmlfnapaaDoor.QA
open Go.RowKit Go.Proofs.YtfkmbjkmlfnapaaDoorW.PrintWords Go.Proofs.YtfkmbjkmlfnapaaDoorW.PrintLast Go.Proofs.YtfkmbjkmlfnapaaDoorW.PrintMore
attribute [local go_sem] yG yF yP yO yA yB yH yE
set_option linter.unusedVariables false
set_option linter.unusedSimpArgs false
end Go.Proofs.YtfkmbjkmlfnapaaDoor.QA
