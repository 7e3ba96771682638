import Derived.Test.YtfkmbjkmlfnapaaDoorMRQAx16
import Derived.Test.YtfkmbjkmlfnapaaDoorMRRamp
import Derived.Test.YtfkmbjkmlfnapaaDoorMRAw
import Derived.Test.YtfkmbjkmlfnapaaDoorMRArgA
set_option linter.unusedVariables false
set_option linter.unusedSimpArgs false
namespace Go.Proofs.YtfkmbjkmlfnapaaDoor.Pure
open Go.RowKit Go.Proofs.YtfkmbjkmlfnapaaDoorW.PrintWords Go.Proofs.YtfkmbjkmlfnapaaDoorW.PrintLast Go.Proofs.YtfkmbjkmlfnapaaDoorW.PrintMore Go.Proofs.YtfkmbjkmlfnapaaDoor.QA
theorem ModelRamp (l0_0 : (List Int)) (l0_1 : (List Int)) (a1 : Int) (a2 : Int) (a3 : Int) (a4 : Int) (h0 : wf33 (l0_0, l0_1)) (h1 : (Lit.int .i64 a1).wf = true) (h2 : (Lit.int .i64 a2).wf = true) (h3 : (Lit.int .i64 a3).wf = true) (h4 : (Lit.int .i64 a4).wf = true) : ∃ k, U0.f k l0_0 l0_1 a1 a2 a3 a4 = some true := by
  refine Ev.rounds ?_
  unfold U0.f
  refine Ev.bind (ramp_ev _ _ _ _ _ _) (Ev.bind (rramp_ev _ _ _ _ _ _) ?_)
  have hl := rampN_len l0_0 l0_1 a1 a2 a3 a4
  simp only [if_true]
  refine Ev.bind (same_ev (by omega) hl.2) ?_
  simp only [if_true]
  exact Ev.mapb awake_ev rfl
end Go.Proofs.YtfkmbjkmlfnapaaDoor.Pure
