import Derived.Test.YtmcegphcjphdcaaXSwQAx31
import Derived.Test.YtmcegphcjphdcaaXSwRSwp
import Derived.Test.YtmcegphcjphdcaaXSwBits
set_option linter.unusedVariables false
set_option linter.unusedSimpArgs false
namespace Go.Proofs.Ytmcegphcjphdcaa.Pure
open Go.RowKit Go.Proofs.YtmcegphcjphdcaaW.PrintWords Go.Proofs.YtmcegphcjphdcaaW.PrintLast Go.Proofs.YtmcegphcjphdcaaW.PrintMore Go.Proofs.Ytmcegphcjphdcaa.QA
theorem SweepN_len {ps pr ids its : List Int} {rows : List (List Int)} {fs : List (List S56)} {ch : List Int} : (SweepN ps pr ids its rows fs ch).1.length ≤ 60 := by
  unfold SweepN
  by_cases h : checkN ps pr ids its rows fs ch = 0
  · rw [if_pos h]
    have := (check_iff.1 h).swpF
    show (swpF ps pr rows fs ch).length ≤ 60
    rw [this.lc]; exact this.n60
  · rw [if_neg h]; simp
theorem runF_len {ps pr ids its : List Int} {rows : List (List Int)} {fs : List (List S56)} : ∀ r n : Nat, ∀ c : List Int, Ok ps pr ids its rows fs c → (runF ps pr rows fs r n c).1.length ≤ 60
  | 0, n, c, h => by rw [runF]; have := h.swpF; show (swpF ps pr rows fs c).length ≤ 60; rw [this.lc]; exact this.n60
  | r + 1, n, c, h => by
    rw [runF]
    have := h.swpF
    split
    · show (swpF ps pr rows fs c).length ≤ 60; rw [this.lc]; exact this.n60
    · exact runF_len r (n + 1) _ this
theorem RunN_len {ps pr ids its : List Int} {rows : List (List Int)} {fs : List (List S56)} {ch : List Int} : (RunN ps pr ids its rows fs ch).1.length ≤ 60 := by
  unfold RunN
  by_cases h : checkN ps pr ids its rows fs ch = 0
  · rw [if_pos h]; exact runF_len 19 1 ch (check_iff.1 h)
  · rw [if_neg h]; simp
theorem CalibrateSweeps (l0_0 : (List Int)) (l0_1 : (List Int)) (l1_0 : (List Int)) (l1_1 : (List Int)) (l1_2 : (List (List Int))) (l2 : (List (List S56))) (l3 : (List Int)) (h0 : wf24 (l0_0, l0_1)) (h1 : wf36 (l1_0, l1_1, l1_2)) (h2 : wf43 l2) (h3 : wf22 l3) : ∃ k, U10.f k l0_0 l0_1 l1_0 l1_1 l1_2 l2 l3 = some true := by
  have hz := wf_SzF h2
  have hb : l1_2.length ≤ 4611686018427387904 := by have := h1.2.2.1; simp only at this; omega
  refine Ev.rounds ?_
  have key : ∀ b : Bool, Ev (fun k => U10.j0 k l2 l3 b l0_0 l0_1 l1_0 l1_1 l1_2) true := by
    intro b
    refine Ev.succ ?_
    cases b with
    | true => simp only [U10.j0, if_true]; exact Ev.now _
    | false =>
      simp only [U10.j0, Bool.false_eq_true, if_false]
      refine Ev.bind (Sweep_ev l1_0 l1_1 l3 hz hb) (Ev.bind (rSweep_ev l1_0 l1_1 l3 hz hb) ?_)
      simp only [if_true]
      refine Ev.bind (ints_ev _ _ (by have := SweepN_len (ps := l0_0) (pr := l0_1) (ids := l1_0) (its := l1_1) (rows := l1_2) (fs := l2) (ch := l3); omega)) ?_
      rw [decide_eq_true rfl]
      refine Ev.succ ?_
      simp only [U10.j1, Bool.not_true, Bool.false_eq_true, if_false]
      refine Ev.bind (Run_ev l1_0 l1_1 l3 hz hb) (Ev.bind (rRun_ev l1_0 l1_1 l3 hz hb) ?_)
      simp only [if_true]
      refine Ev.mapb (ints_ev _ _ (by have := RunN_len (ps := l0_0) (pr := l0_1) (ids := l1_0) (its := l1_1) (rows := l1_2) (fs := l2) (ch := l3); omega)) ?_
      rw [decide_eq_true rfl]
  obtain ⟨b, hb'⟩ := heavy_ev' l1_0 l1_1 l1_2
  obtain ⟨b2, hb2⟩ := anyWide_ev l2
  unfold U10.f
  simp only [hb', Option.bind_some]
  cases b with
  | true => simp only [if_true]; exact key true
  | false => simp only [Bool.false_eq_true, if_false]; exact Ev.bind hb2 (key b2)
end Go.Proofs.Ytmcegphcjphdcaa.Pure
