import Derived.Test.YtnimkmkapajnhaaDoorRDQAx6
import Derived.Test.YtnimkmkapajnhaaDoorRDQAx7
import Derived.Test.YtnimkmkapajnhaaDoorRDQAx8
import Derived.Test.YtnimkmkapajnhaaDoorRDQAx9
import Derived.Test.YtnimkmkapajnhaaDoorRDRt
set_option linter.unusedVariables false
set_option linter.unusedSimpArgs false
namespace Go.Proofs.YtnimkmkapajnhaaDoor.Pure
open Go.RowKit Go.Proofs.YtnimkmkapajnhaaDoorW.PrintWords Go.Proofs.YtnimkmkapajnhaaDoorW.PrintLast Go.Proofs.YtnimkmkapajnhaaDoorW.PrintMore Go.Proofs.YtnimkmkapajnhaaDoor.QA
def over (a:List S44):List S26→Bool
  | []=>false
  | r :: l=>decide (r.f1 < ld a r.f0) || over a l
end Go.Proofs.YtnimkmkapajnhaaDoor.Pure
