import Derived.Test.YtfkmbjkmlfnapaaDoorMLQAx20
import Derived.Test.YtfkmbjkmlfnapaaDoorMLCol
import Derived.Test.YtfkmbjkmlfnapaaDoorMLAw
import Derived.Test.YtfkmbjkmlfnapaaDoorMLArgA
set_option linter.unusedVariables false
set_option linter.unusedSimpArgs false
namespace Go.Proofs.YtfkmbjkmlfnapaaDoor.Pure
open Go.RowKit Go.Proofs.YtfkmbjkmlfnapaaDoorW.PrintWords Go.Proofs.YtfkmbjkmlfnapaaDoorW.PrintLast Go.Proofs.YtfkmbjkmlfnapaaDoorW.PrintMore Go.Proofs.YtfkmbjkmlfnapaaDoor.QA
theorem wf_i64 {n : Int} (h : (Lit.int .i64 n).wf = true) : -9223372036854775808 ≤ n ∧ n ≤ 9223372036854775807 := by
  rw [Lit.wf, Bool.and_eq_true, decide_eq_true_eq, decide_eq_true_eq] at h
  exact h
theorem ModelCollapses (l0_0 : (List (List Int))) (l1 : (List Int)) (h0 : wf24 l0_0) (h1 : wf31 l1) : ∃ k, U0.f k l0_0 l1 = some true := by
  have hb : ∀ r ∈ l0_0, r.length ≤ 4611686018427387904 := fun r hr => by have := (h0.2 r hr).1; omega
  have hl := collN_len l0_0 l1
  refine Ev.rounds ?_
  unfold U0.f
  refine Ev.bind (coll_ev hb l1) (Ev.bind (rcoll_ev hb (fun t ht => wf_i64 (h1.2 t ht))) ?_)
  simp only [if_true]
  refine Ev.bind (same_ev (by omega) hl.2) ?_
  simp only [if_true]
  exact Ev.mapb awake_ev rfl
end Go.Proofs.YtfkmbjkmlfnapaaDoor.Pure
