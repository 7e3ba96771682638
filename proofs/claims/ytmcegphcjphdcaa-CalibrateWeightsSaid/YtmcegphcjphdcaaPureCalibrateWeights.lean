/- The weights of a person are those of the reference, or the errors agree: what the law CalibrateWeights comes to, in numbers and lists. Its conditions: none but what the argument's types say. -/
import Derived.Test.YtmcegphcjphdcaaQAx11
import Derived.Test.YtmcegphcjphdcaaCalW
set_option linter.unusedVariables false
set_option linter.unusedSimpArgs false
namespace Go.Proofs.Ytmcegphcjphdcaa.Pure
open Go.RowKit Go.Proofs.YtmcegphcjphdcaaW.PrintWords Go.Proofs.YtmcegphcjphdcaaW.PrintLast Go.Proofs.YtmcegphcjphdcaaW.PrintMore Go.Proofs.Ytmcegphcjphdcaa.QA
theorem weights_len {ps pr : List Int} {ms : List S56} {row : List Int} (hs : Sz ms) (skip : Int) : (weights ps pr ms row skip).1.length ≤ 21 ∧ ∀ x ∈ (weights ps pr ms row skip).1, x.length ≤ 61 := by
  unfold weights
  split
  · rename_i g
    split
    · simp
    · rename_i h1
      split
      · rename_i h2
        split
        · rename_i h3
          split
          · rename_i h4
            split
            · simp
            · split
              · simp
              · have hf := fit_of (skip := skip) hs g h1 h2 h3 h4
                refine ⟨by rw [W_length]; exact (gErr_ok g).2.1, fun x hx => ?_⟩
                simp only [W, List.mem_map, List.mem_range] at hx
                obtain ⟨q, hq, rfl⟩ := hx
                exact hf.len_le hq (Nat.le_refl _)
          · simp
        · simp
      · simp
  · simp
theorem all_l0 {xs : List (List Int)} (hl : xs.length ≤ 21) (hx : ∀ x ∈ xs, x.length ≤ 61) : ∀ d i : Nat, i + d = xs.length → Ev (fun k => examboardlaw28_CalibrateWeights.l0 k xs xs (i : Int)) true := by
  intro d
  induction d with
  | zero =>
    intro i hi
    refine Ev.succ ?_
    simp only [examboardlaw28_CalibrateWeights.l0, show ¬ ((i : Int) < (xs.length : Int)) by omega, if_false]; exact Ev.now _
  | succ d ih =>
    intro i hi
    have hw : wrap64 ((i : Int) + 1) = ((i + 1 : Nat) : Int) := by rw [w64] <;> omega
    have hlt : i < xs.length := by omega
    have hrr : rd_L5 xs (i : Int) = xs[i] := by unfold rd_L5; rw [Int.toNat_natCast, getD_lt hlt]
    refine Ev.succ ?_
    simp only [examboardlaw28_CalibrateWeights.l0, show (i : Int) < (xs.length : Int) by omega, if_true, show (0 : Int) ≤ (i : Int) by omega, hw, hrr]
    refine Ev.bind (limbs_ev (by have := hx _ (List.getElem_mem hlt); omega)) ?_
    simp only [if_true]
    exact ih (i + 1) (by omega)
theorem CalibrateWeights (l0_0 : (List Int)) (l0_1 : (List Int)) (l1 : (List S56)) (l2 : (List Int)) (a3 : Int) (h0 : wf24 (l0_0, l0_1)) (h1 : wf25 l1) (h2 : wf22 l2) (h3 : (Lit.int .i64 a3).wf = true) : ∃ k, examboardlaw28_CalibrateWeights.f k l0_0 l0_1 l1 l2 a3 = some true := by
  have hs := wf_Sz h1
  refine Ev.rounds ?_
  have key : ∀ b : Bool, Ev (fun k => examboardlaw28_CalibrateWeights.j0 k l1 l2 a3 b l0_0 l0_1) true := by
    intro b
    refine Ev.succ ?_
    cases b with
    | true => simp only [examboardlaw28_CalibrateWeights.j0, if_true]; exact Ev.now _
    | false =>
      simp only [examboardlaw28_CalibrateWeights.j0, Bool.false_eq_true, if_false]
      refine Ev.bind (weights_ev hs a3) (Ev.bind (rWeights_ev hs a3) ?_)
      obtain ⟨w1, w2⟩ := weights_len (ps := l0_0) (pr := l0_1) (row := l2) hs a3
      simp only [if_true, bne_self_eq_false]
      refine Ev.succ ?_
      simp only [examboardlaw28_CalibrateWeights.j1, Bool.false_eq_true, if_false]
      exact all_l0 w1 w2 (weights l0_0 l0_1 l1 l2 a3).1.length 0 (by omega)
  unfold examboardlaw28_CalibrateWeights.f
  by_cases h : (l1.length : Int) > 8
  · simp only [if_pos h]; exact key _
  · simp only [if_neg h]; exact key _
end Go.Proofs.Ytmcegphcjphdcaa.Pure
