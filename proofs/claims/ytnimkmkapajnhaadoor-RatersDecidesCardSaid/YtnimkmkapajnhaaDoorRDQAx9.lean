import Derived.Test.YtnimkmkapajnhaaDoorRDQAx0
import Derived.Test.YtnimkmkapajnhaaDoorRDQAx8
namespace Go.Proofs.YtnimkmkapajnhaaDoor.QA
open Go.RowKit Go.Proofs.YtnimkmkapajnhaaDoorW.PrintWords Go.Proofs.YtnimkmkapajnhaaDoorW.PrintLast Go.Proofs.YtnimkmkapajnhaaDoorW.PrintMore
attribute [local go_sem] yF yD yK yL wZ yA yG yE
set_option linter.unusedVariables false
set_option linter.unusedSimpArgs false
end Go.Proofs.YtnimkmkapajnhaaDoor.QA
