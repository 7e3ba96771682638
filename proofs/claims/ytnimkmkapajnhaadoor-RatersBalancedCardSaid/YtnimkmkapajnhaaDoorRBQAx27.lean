import Derived.Test.YtnimkmkapajnhaaDoorRBQAx0
import Derived.Test.YtnimkmkapajnhaaDoorRBQAx1
import Derived.Test.YtnimkmkapajnhaaDoorRBQAx8
import Derived.Test.YtnimkmkapajnhaaDoorRBQAx12
import Derived.Test.YtnimkmkapajnhaaDoorRBQAx24
import Derived.Test.YtnimkmkapajnhaaDoorRBQAx26
namespace Go.Proofs.YtnimkmkapajnhaaDoor.QA
open Go.RowKit Go.Proofs.YtnimkmkapajnhaaDoorW.PrintWords Go.Proofs.YtnimkmkapajnhaaDoorW.PrintLast Go.Proofs.YtnimkmkapajnhaaDoorW.PrintMore
attribute [local go_sem] yE yA yI yJ wY wX yC yD
set_option linter.unusedVariables false
set_option linter.unusedSimpArgs false
attribute [local go_sem high] eqA44
end Go.Proofs.YtnimkmkapajnhaaDoor.QA
