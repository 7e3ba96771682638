import Derived.Test.YtmcegphcjphdcaaCTQAx18
import Derived.Test.YtmcegphcjphdcaaCTTot
set_option linter.unusedVariables false
set_option linter.unusedSimpArgs false
namespace Go.Proofs.Ytmcegphcjphdcaa.Pure
open Go.RowKit Go.Proofs.YtmcegphcjphdcaaW.PrintWords Go.Proofs.YtmcegphcjphdcaaW.PrintLast Go.Proofs.YtmcegphcjphdcaaW.PrintMore Go.Proofs.Ytmcegphcjphdcaa.QA
theorem heavy_ev (ids its : List Int) (rows : List (List Int)) : ∃ b : Bool, examboardlaw28_heavy.f ids its rows = some b := by
  unfold examboardlaw28_heavy.f
  repeat' split
  all_goals exact ⟨_, rfl⟩
theorem CalibrateTotals (l0_0 : (List Int)) (l0_1 : (List Int)) (l1 : (List S56)) (l2_0 : (List Int)) (l2_1 : (List Int)) (l2_2 : (List (List Int))) (h0 : wf24 (l0_0, l0_1)) (h1 : wf25 l1) (h2 : wf36 (l2_0, l2_1, l2_2)) : ∃ k, examboardlaw28_CalibrateTotals.f k l0_0 l0_1 l1 l2_0 l2_1 l2_2 = some true := by
  have hs := wf_Sz h1
  have hb : l2_2.length ≤ 4611686018427387904 := by have := h2.2.2.1; simp only at this; omega
  refine Ev.rounds ?_
  obtain ⟨b, hb'⟩ := heavy_ev l2_0 l2_1 l2_2
  unfold examboardlaw28_CalibrateTotals.f
  simp only [hb', Option.bind_some]
  cases b with
  | true => simp only [if_true]; exact Ev.now _
  | false =>
    simp only [Bool.false_eq_true, if_false]
    refine Ev.bind (total_ev hs _ _ hb) (Ev.bind (rtotal_ev hs _ _ hb) ?_)
    simp only [if_true]
    exact Ev.mapb (limbs_ev (by have := total_len (ps := l0_0) (pr := l0_1) (ids := l2_0) (its := l2_1) (rows := l2_2) hs; omega)) rfl
end Go.Proofs.Ytmcegphcjphdcaa.Pure
