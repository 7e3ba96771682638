import Derived.Test.YtnimkmkapajnhaaDoorRBQAx13
import Derived.Test.YtnimkmkapajnhaaDoorRBQAx28
import Derived.Test.YtnimkmkapajnhaaDoorRBQAx29
import Derived.Test.YtnimkmkapajnhaaDoorRBRtC
set_option linter.unusedVariables false
set_option linter.unusedSimpArgs false
namespace Go.Proofs.YtnimkmkapajnhaaDoor.Pure
open Go.RowKit Go.Proofs.YtnimkmkapajnhaaDoorW.PrintWords Go.Proofs.YtnimkmkapajnhaaDoorW.PrintLast Go.Proofs.YtnimkmkapajnhaaDoorW.PrintMore Go.Proofs.YtnimkmkapajnhaaDoor.QA
def two:List S44→Int→List Int
  | [],_=>[]
  | x :: l,c=>if x.f0 = c then x.f1 :: two l c else two l c
theorem idP_mem:∀{p:Int} {l:List S26},idP p l = true→∀ r∈l,p < r.f0∧1≤r.f0∧r.f0≤9999999
  | _,[],_,r,hr=>by cases hr
  | p,x :: l,h,r,hr=>by
    rw [idP,Bool.and_eq_true,decide_eq_true_eq] at h
    rcases List.mem_cons.1 hr with rfl | hr
    · exact ⟨h.1.2.2,h.1.1,h.1.2.1⟩
    · have:=idP_mem h.2 r hr;omega
end Go.Proofs.YtnimkmkapajnhaaDoor.Pure
