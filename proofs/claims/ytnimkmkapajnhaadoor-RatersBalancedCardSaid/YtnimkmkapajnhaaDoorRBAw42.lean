import Derived.Test.YtnimkmkapajnhaaDoorRBQAx124
import Derived.Test.YtnimkmkapajnhaaDoorRBNum
set_option linter.unusedVariables false
set_option linter.unusedSimpArgs false
namespace Go.Proofs.YtnimkmkapajnhaaDoor.Pure
open Go.RowKit Go.Proofs.YtnimkmkapajnhaaDoorW.PrintWords Go.Proofs.YtnimkmkapajnhaaDoorW.PrintLast Go.Proofs.YtnimkmkapajnhaaDoorW.PrintMore Go.Proofs.YtnimkmkapajnhaaDoor.QA
theorem awake_at:U5.f 60 = some true:=by kernel_rfl
theorem awake_ev:Ev (fun k=>U5.f k) true:=⟨60,fun k hk=>vG (fun j=>U5.mono j) hk awake_at⟩
end Go.Proofs.YtnimkmkapajnhaaDoor.Pure
