import Derived.Test.YtfkmbjkmlfnapaaDoorMCQAx5
import Derived.Test.YtfkmbjkmlfnapaaDoorMCQAx13
import Derived.Test.YtfkmbjkmlfnapaaDoorMCValid
set_option linter.unusedVariables false
set_option linter.unusedSimpArgs false
namespace Go.Proofs.YtfkmbjkmlfnapaaDoor.Pure
open Go.RowKit Go.Proofs.YtfkmbjkmlfnapaaDoorW.PrintWords Go.Proofs.YtfkmbjkmlfnapaaDoorW.PrintLast Go.Proofs.YtfkmbjkmlfnapaaDoorW.PrintMore Go.Proofs.YtfkmbjkmlfnapaaDoor.QA
theorem awake_at:U1.f 60 = some true:=by kernel_rfl
theorem awake_ev:Ev (fun k=>U1.f k) true:=⟨60,fun k hk=>vP (fun j=>U1.mono j) hk awake_at⟩
end Go.Proofs.YtfkmbjkmlfnapaaDoor.Pure
