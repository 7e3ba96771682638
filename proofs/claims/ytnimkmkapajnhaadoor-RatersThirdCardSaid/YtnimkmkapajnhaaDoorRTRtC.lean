import Derived.Test.YtnimkmkapajnhaaDoorRTQAx6
import Derived.Test.YtnimkmkapajnhaaDoorRTQAx7
import Derived.Test.YtnimkmkapajnhaaDoorRTQAx8
import Derived.Test.YtnimkmkapajnhaaDoorRTQAx9
import Derived.Test.YtnimkmkapajnhaaDoorRTRt
set_option linter.unusedVariables false
set_option linter.unusedSimpArgs false
namespace Go.Proofs.YtnimkmkapajnhaaDoor.Pure
open Go.RowKit Go.Proofs.YtnimkmkapajnhaaDoorW.PrintWords Go.Proofs.YtnimkmkapajnhaaDoorW.PrintLast Go.Proofs.YtnimkmkapajnhaaDoorW.PrintMore Go.Proofs.YtnimkmkapajnhaaDoor.QA
def over (a:List S44):List S26→Bool
  | []=>false
  | r :: l=>decide (r.f1 < ld a r.f0) || over a l
end Go.Proofs.YtnimkmkapajnhaaDoor.Pure
