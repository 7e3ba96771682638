import Derived.Test.YtfkmbjkmlfnapaaDoorMSQAx18
import Derived.Test.YtfkmbjkmlfnapaaDoorMSSteps
import Derived.Test.YtfkmbjkmlfnapaaDoorMSAw
import Derived.Test.YtfkmbjkmlfnapaaDoorMSArgA
set_option linter.unusedVariables false
set_option linter.unusedSimpArgs false
namespace Go.Proofs.YtfkmbjkmlfnapaaDoor.Pure
open Go.RowKit Go.Proofs.YtfkmbjkmlfnapaaDoorW.PrintWords Go.Proofs.YtfkmbjkmlfnapaaDoorW.PrintLast Go.Proofs.YtfkmbjkmlfnapaaDoorW.PrintMore Go.Proofs.YtfkmbjkmlfnapaaDoor.QA
theorem ModelSteps (l0_0 : (List Int)) (l0_1 : (List Int)) (l1 : (List Int)) (a2 : Int) (h0 : wf33 (l0_0, l0_1)) (h1 : wf31 l1) (h2 : (Lit.int .i64 a2).wf = true) : ∃ k, U0.f k l0_0 l0_1 l1 a2 = some true := by
  refine Ev.rounds ?_
  unfold U0.f
  refine Ev.bind (steps_ev _ _ _ _) (Ev.bind (rsteps_ev _ _ _ _) ?_)
  have hl := stepsN_len l0_0 l0_1 l1 a2
  simp only [if_true]
  refine Ev.bind (same_ev (by omega) hl.2) ?_
  simp only [if_true]
  exact Ev.mapb awake_ev rfl
end Go.Proofs.YtfkmbjkmlfnapaaDoor.Pure
