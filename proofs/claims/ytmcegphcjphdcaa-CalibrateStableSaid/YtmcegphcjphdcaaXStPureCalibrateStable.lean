import Derived.Test.YtmcegphcjphdcaaXStQAx32
import Derived.Test.YtmcegphcjphdcaaXStRun
import Derived.Test.YtmcegphcjphdcaaXStBits
set_option linter.unusedVariables false
set_option linter.unusedSimpArgs false
namespace Go.Proofs.Ytmcegphcjphdcaa.Pure
open Go.RowKit Go.Proofs.YtmcegphcjphdcaaW.PrintWords Go.Proofs.YtmcegphcjphdcaaW.PrintLast Go.Proofs.YtmcegphcjphdcaaW.PrintMore Go.Proofs.Ytmcegphcjphdcaa.QA
section
variable {ps pr ids its : List Int} {rows : List (List Int)} {fs : List (List S56)}
def its_ (ps pr : List Int) (rows : List (List Int)) (fs : List (List S56)) : Nat → List Int → List Int
  | 0, c => c
  | n + 1, c => its_ ps pr rows fs n (swpF ps pr rows fs c)
theorem runF_is : ∀ r n : Nat, ∀ c : List Int, ∃ j : Nat, j ≤ r ∧ runF ps pr rows fs r n c = (its_ ps pr rows fs (j + 1) c, ((n + j : Nat) : Int)) ∧ (j = r ∨ swpF ps pr rows fs (its_ ps pr rows fs (j + 1) c) = its_ ps pr rows fs (j + 1) c)
  | 0, n, c => ⟨0, Nat.le_refl _, rfl, .inl rfl⟩
  | r + 1, n, c => by
    rw [runF]
    by_cases h : swpF ps pr rows fs c = c
    · rw [if_pos h]
      refine ⟨0, Nat.zero_le _, rfl, .inr ?_⟩
      show swpF ps pr rows fs (swpF ps pr rows fs c) = swpF ps pr rows fs c
      rw [h, h]
    · rw [if_neg h]
      obtain ⟨j, hj, e, hs⟩ := runF_is r (n + 1) (swpF ps pr rows fs c)
      refine ⟨j + 1, by omega, ?_, ?_⟩
      · rw [e, show n + 1 + j = n + (j + 1) by omega]; rfl
      · rcases hs with h' | h'
        · exact .inl (by omega)
        · exact .inr h'
theorem Ok.its_ : ∀ n : Nat, ∀ {c : List Int}, Ok ps pr ids its rows fs c → Ok ps pr ids its rows fs (its_ ps pr rows fs n c)
  | 0, _, h => h
  | n + 1, _, h => Ok.its_ n h.swpF
theorem SweepN_ok {c : List Int} (h : Ok ps pr ids its rows fs c) : SweepN ps pr ids its rows fs c = (swpF ps pr rows fs c, 0) := by
  unfold SweepN; rw [if_pos (check_iff.2 h)]
theorem sta_l0 (hz : SzF fs) (hb : rows.length ≤ 4611686018427387904) {e : List Int} {n : Nat} (h20 : n ≤ 20) : ∀ d i : Nat, i + d = n → ∀ c : List Int, Ok ps pr ids its rows fs c → its_ ps pr rows fs d c = e → (n = 20 ∨ swpF ps pr rows fs e = e) →
    Ev (fun k => U10.l0 k fs e (n : Int) c (i : Int) ps pr ids its rows) true := by
  intro d
  induction d with
  | zero =>
    intro i hi c h he hs
    subst he
    have n60 := h.n60
    have lc := h.lc
    have h1 := h.swpF
    have l1 := h1.lc
    have hs' : n = 20 ∨ swpF ps pr rows fs c = c := hs
    refine Ev.succ ?_
    simp only [U10.l0, show ¬ ((i : Int) < (n : Int)) by omega, if_false]
    refine Ev.bind (Sweep_ev ids its c hz hb) ?_
    rw [SweepN_ok h]
    simp only [if_true]
    refine Ev.bind (ints_ev c (Pure.its_ ps pr rows fs 0 c) (by omega)) ?_
    rw [decide_eq_true (show c = Pure.its_ ps pr rows fs 0 c from rfl)]
    simp only [if_true]
    by_cases hn : n = 20
    · simp only [show (n : Int) = 20 by omega, if_true]; exact Ev.now _
    · simp only [show ¬ ((n : Int) = 20) by omega, if_false]
      exact Ev.mapb (ints_ev _ _ (by omega)) (by rw [decide_eq_true (hs'.resolve_left hn)])
  | succ d ih =>
    intro i hi c h he hs
    have hw : wrap64 ((i : Int) + 1) = ((i + 1 : Nat) : Int) := by rw [w64] <;> omega
    refine Ev.succ ?_
    simp only [U10.l0, show (i : Int) < (n : Int) by omega, if_true, hw]
    refine Ev.bind (Sweep_ev ids its c hz hb) ?_
    rw [SweepN_ok h]
    simp only [if_true]
    exact ih (i + 1) (by omega) _ h.swpF he hs
end
theorem CalibrateStable (l0_0 : (List Int)) (l0_1 : (List Int)) (l1_0 : (List Int)) (l1_1 : (List Int)) (l1_2 : (List (List Int))) (l2 : (List (List S56))) (l3 : (List Int)) (h0 : wf24 (l0_0, l0_1)) (h1 : wf36 (l1_0, l1_1, l1_2)) (h2 : wf43 l2) (h3 : wf22 l3) : ∃ k, U10.f k l0_0 l0_1 l1_0 l1_1 l1_2 l2 l3 = some true := by
  have hz := wf_SzF h2
  have hb : l1_2.length ≤ 4611686018427387904 := by have := h1.2.2.1; simp only at this; omega
  refine Ev.rounds ?_
  have key : ∀ b : Bool, Ev (fun k => U10.j0 k l2 l3 b l0_0 l0_1 l1_0 l1_1 l1_2) true := by
    intro b
    refine Ev.succ ?_
    cases b with
    | true => simp only [U10.j0, if_true]; exact Ev.now _
    | false =>
      simp only [U10.j0, Bool.false_eq_true, if_false]
      refine Ev.bind (Run_ev l1_0 l1_1 l3 hz hb) (Ev.bind (Sweep_ev l1_0 l1_1 l3 hz hb) ?_)
      by_cases hc : checkN l0_0 l0_1 l1_0 l1_1 l1_2 l2 l3 = 0
      · have hk := check_iff.1 hc
        rw [SweepN_ok hk]
        unfold RunN
        rw [if_pos hc]
        obtain ⟨j, hj, e, hs⟩ := runF_is (ps := l0_0) (pr := l0_1) (rows := l1_2) (fs := l2) 19 1 l3
        rw [e]
        simp only [if_true]
        rw [show ((0 : Int) != 0) = false from rfl]
        refine Ev.succ ?_
        simp only [U10.j1, Bool.false_eq_true, if_false, show ¬ (((1 + j : Nat) : Int) < 1) by omega]
        rw [decide_eq_false (by omega)]
        refine Ev.succ ?_
        simp only [U10.j2, Bool.false_eq_true, if_false]
        exact sta_l0 hz hb (by omega) j 1 (by omega) _ hk.swpF rfl (hs.imp (fun h => by omega) id)
      · unfold RunN SweepN
        rw [if_neg hc, if_neg hc]
        simp only [if_true]
        rw [show (checkN l0_0 l0_1 l1_0 l1_1 l1_2 l2 l3 != 0) = true from bne_iff_ne.2 hc]
        refine Ev.succ ?_
        simp only [U10.j1, if_true]; exact evq (Ev.now _) (by simp)
  obtain ⟨b, hb'⟩ := heavy_ev' l1_0 l1_1 l1_2
  obtain ⟨b2, hb2⟩ := anyWide_ev l2
  unfold U10.f
  simp only [hb', Option.bind_some]
  cases b with
  | true => simp only [if_true]; exact key true
  | false => simp only [Bool.false_eq_true, if_false]; exact Ev.bind hb2 (key b2)
end Go.Proofs.Ytmcegphcjphdcaa.Pure
