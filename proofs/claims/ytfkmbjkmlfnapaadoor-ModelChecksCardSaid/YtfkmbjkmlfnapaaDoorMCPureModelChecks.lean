import Derived.Test.YtfkmbjkmlfnapaaDoorMCQAx14
import Derived.Test.YtfkmbjkmlfnapaaDoorMCMono
import Derived.Test.YtfkmbjkmlfnapaaDoorMCAw
import Derived.Test.YtfkmbjkmlfnapaaDoorMCArgA
set_option linter.unusedVariables false
set_option linter.unusedSimpArgs false
namespace Go.Proofs.YtfkmbjkmlfnapaaDoor.Pure
open Go.RowKit Go.Proofs.YtfkmbjkmlfnapaaDoorW.PrintWords Go.Proofs.YtfkmbjkmlfnapaaDoorW.PrintLast Go.Proofs.YtfkmbjkmlfnapaaDoorW.PrintMore Go.Proofs.YtfkmbjkmlfnapaaDoor.QA
theorem ModelChecks (l0_0 : (List (List Int))) (a1 : Int) (h0 : wf24 l0_0) (h1 : (Lit.int .i64 a1).wf = true) : ∃ k, U0.f k l0_0 a1 = some true := by
  have hb : ∀ r ∈ l0_0, r.length ≤ 4611686018427387904 := fun r hr => by have := (h0.2 r hr).1; omega
  refine Ev.rounds ?_
  unfold U0.f
  refine Ev.bind (mvalid_ev hb _) (Ev.bind (rmvalid_ev hb _) ?_)
  simp only [if_true, cat_eq, rcat_eq, Option.bind_some]
  obtain ⟨b, m1, m2⟩ := mono_both hb
  refine Ev.bind m1 (Ev.bind m2 ?_)
  simp only [beq_self_eq_true, if_true]
  exact Ev.mapb awake_ev rfl
end Go.Proofs.YtfkmbjkmlfnapaaDoor.Pure
