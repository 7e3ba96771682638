import Derived.Test.YtnimkmkapajnhaaDoorRTQAx30
import Derived.Test.YtnimkmkapajnhaaDoorRTRtT
import Derived.Test.YtnimkmkapajnhaaDoorRTAw42
import Derived.Test.YtnimkmkapajnhaaDoorRTArgA
set_option linter.unusedVariables false
set_option linter.unusedSimpArgs false
namespace Go.Proofs.YtnimkmkapajnhaaDoor.Pure
open Go.RowKit Go.Proofs.YtnimkmkapajnhaaDoorW.PrintWords Go.Proofs.YtnimkmkapajnhaaDoorW.PrintLast Go.Proofs.YtnimkmkapajnhaaDoorW.PrintMore Go.Proofs.YtnimkmkapajnhaaDoor.QA
theorem RatersThird (l0:(List S26)) (l1:(List S44)) (a2:Int) (h0:wf22 l0) (h1:wf24 l1) (h2:(Lit.int .i64 a2).wf = true):∃ k,U4.f k l0 l1 a2 = some true:=by
  have hb:∀r∈l0,r.f2.length≤4611686018427387904:=fun r hr=>by have:=(h0.2 r hr).2.2.1;omega
  have ha:l1.length≤8796093022208:=by have:=h1.1;omega
  refine Ev.rounds ?_
  unfold U4.f
  refine Ev.bind (third_ev hb ha a2) (Ev.bind (rthird_ev hb ha a2) ?_)
  simp only [if_true]
  exact Ev.mapb awake_ev rfl
end Go.Proofs.YtnimkmkapajnhaaDoor.Pure
