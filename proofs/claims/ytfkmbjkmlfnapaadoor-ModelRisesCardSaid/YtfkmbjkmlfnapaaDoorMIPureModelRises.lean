import Derived.Test.YtfkmbjkmlfnapaaDoorMIQAx21
import Derived.Test.YtfkmbjkmlfnapaaDoorMIRis
import Derived.Test.YtfkmbjkmlfnapaaDoorMIAw
import Derived.Test.YtfkmbjkmlfnapaaDoorMIArgA
set_option linter.unusedVariables false
set_option linter.unusedSimpArgs false
namespace Go.Proofs.YtfkmbjkmlfnapaaDoor.Pure
open Go.RowKit Go.Proofs.YtfkmbjkmlfnapaaDoorW.PrintWords Go.Proofs.YtfkmbjkmlfnapaaDoorW.PrintLast Go.Proofs.YtfkmbjkmlfnapaaDoorW.PrintMore Go.Proofs.YtfkmbjkmlfnapaaDoor.QA
theorem stepsN_cases (ps ws ds : List Int) (s : Int) : (gErr ps ws = 0 ∧ 1 ≤ ds.length ∧ ds.length ≤ 5 ∧ 0 ≤ s ∧ stepsN ps ws ds s = (ps.map (fun t => stepRow t ds s), 0)) ∨ (stepsN ps ws ds s).2 ≠ 0 := by
  unfold stepsN
  by_cases g : gErr ps ws = 0
  · rw [if_pos g]
    by_cases h : (1 ≤ ds.length ∧ ds.length ≤ 5) ∧ (0 ≤ s ∧ s ≤ 2000)
    · rw [if_pos h]
      by_cases hd : okIn ds = true
      · rw [if_pos hd]
        by_cases hr : rise ds = true
        · rw [if_pos hr]; exact .inl ⟨g, h.1.1, h.1.2, h.2.1, rfl⟩
        · rw [if_neg hr]; exact .inr (by decide)
      · rw [if_neg hd]; exact .inr (by decide)
    · rw [if_neg h]; exact .inr (by decide)
  · rw [if_neg g]; exact .inr g
theorem rampN_cases (ps ws : List Int) (d s lo hi : Int) : (gErr ps ws = 0 ∧ rampOk d s lo hi ∧ rampN ps ws d s lo hi = (ps.map (fun t => rampRow t d s lo hi), 0)) ∨ (rampN ps ws d s lo hi).2 ≠ 0 := by
  unfold rampN
  by_cases g : gErr ps ws = 0
  · rw [if_pos g]
    by_cases h : rampOk d s lo hi
    · rw [if_pos h]; exact .inl ⟨g, h, rfl⟩
    · rw [if_neg h]; exact .inr (by decide)
  · rw [if_neg g]; exact .inr g
theorem one_eq (ps ws : List Int) (d s : Int) : stepsN ps ws [d] s = rampN ps ws d s 1 999 := by
  unfold stepsN rampN
  by_cases g : gErr ps ws = 0
  · rw [if_pos g, if_pos g]
    have hm : ps.map (fun t => stepRow t [d] s) = ps.map (fun t => rampRow t d s 1 999) := List.map_congr_left (fun t _ => step_ramp t d s)
    have hk : okIn [d] = decide (-1000 ≤ d ∧ d ≤ 1000) := by simp [okIn]
    by_cases hs : 0 ≤ s ∧ s ≤ 2000
    · rw [if_pos ⟨⟨by simp, by simp⟩, hs⟩, hk]
      by_cases hd : -1000 ≤ d ∧ d ≤ 1000
      · rw [if_pos (decide_eq_true hd), if_pos (by simp [rise]), if_pos (show rampOk d s 1 999 from ⟨hd, hs, by decide, by decide, by decide⟩), hm]
      · rw [if_neg (by simp only [decide_eq_true_eq]; exact hd), if_neg (fun h : rampOk d s 1 999 => hd h.1)]
    · rw [if_neg (fun h => hs h.2), if_neg (fun h : rampOk d s 1 999 => hs h.2.1)]
  · rw [if_neg g, if_neg g]
theorem ris_j1 {ps ws ds : List Int} {s : Int} (h : 0 < ds.length) : Ev (fun k => U0.j1 k ds s false ps ws) true := by
  have ht : ds.take 1 = [rd ds 0] := by
    cases ds with
    | nil => simp at h
    | cons a l => simp [rd]
  have hl := rampN_len ps ws (rd ds 0) s 1 999
  refine Ev.succ ?_
  simp only [U0.j1, Bool.false_eq_true, if_false, show (0 : Int) < (ds.length : Int) by omega, if_true, show (1 : Int) ≤ (ds.length : Int) by omega, ht]
  refine Ev.bind (ramp_ev _ _ _ _ _ _) (Ev.bind (steps_ev _ _ _ _) ?_)
  rw [one_eq]
  simp only [if_true]
  refine Ev.bind (same_ev (by omega) hl.2) ?_
  simp only [if_true]
  exact Ev.mapb awake_ev rfl
theorem ris_j0 {ps ws ds : List Int} {s lo hi e : Int} (h0 : ds.length = 0 → e ≠ 0) : Ev (fun k => U0.j0 k ds s lo hi e false ps ws) true := by
  refine Ev.succ ?_
  simp only [U0.j0, Bool.false_eq_true, if_false]
  by_cases h : ds.length = 0
  · simp only [show (ds.length : Int) = 0 by omega, if_true, if_neg (h0 h)]
    exact Ev.mapb awake_ev rfl
  · simp only [show ¬ ((ds.length : Int) = 0) by omega, if_false, show (0 : Int) < (ds.length : Int) by omega, if_true]
    refine Ev.bind (ramp_ev _ _ _ _ _ _) ?_
    have hl := rampN_len ps ws (rd ds 0) s lo hi
    rcases rampN_cases ps ws (rd ds 0) s lo hi with ⟨g, ok, e1⟩ | e1
    · have hv := ramp_valid g ok
      rw [e1] at hl ⊢
      simp only [if_true]
      have hm := mvalid_ev (rs := ps.map (fun t => rampRow t (rd ds 0) s lo hi)) hl.2 (ps.length : Int)
      rw [hv.1] at hm
      refine Ev.bind hm ?_
      simp only [if_true]
      refine Ev.bind (mono_true hl.2 (by rw [List.length_map]; exact hv.1) hv.2) ?_
      exact ris_j1 (by omega)
    · simp only [if_neg e1]; exact ris_j1 (by omega)
theorem ModelRises (l0_0 : (List Int)) (l0_1 : (List Int)) (l1 : (List Int)) (a2 : Int) (a3 : Int) (a4 : Int) (h0 : wf33 (l0_0, l0_1)) (h1 : wf31 l1) (h2 : (Lit.int .i64 a2).wf = true) (h3 : (Lit.int .i64 a3).wf = true) (h4 : (Lit.int .i64 a4).wf = true) : ∃ k, U0.f k l0_0 l0_1 l1 a2 a3 a4 = some true := by
  refine Ev.rounds ?_
  unfold U0.f
  refine Ev.bind (steps_ev _ _ _ _) ?_
  have hl := stepsN_len l0_0 l0_1 l1 a2
  rcases stepsN_cases l0_0 l0_1 l1 a2 with ⟨g, n1, n5, hs, e⟩ | e
  · have hv := steps_valid g n1 n5 hs
    rw [e] at hl ⊢
    simp only [if_true]
    have hm := mvalid_ev (rs := l0_0.map (fun t => stepRow t l1 a2)) hl.2 (l0_0.length : Int)
    rw [hv.1] at hm
    refine Ev.bind hm ?_
    simp only [if_true]
    refine Ev.bind (mono_true hl.2 (by rw [List.length_map]; exact hv.1) hv.2.2) ?_
    simp only [if_true, cat_eq, Option.bind_some, hv.2.1]
    rw [w64 (by omega) (by omega), bne_eq_false_iff_eq.2 rfl]
    exact ris_j0 (fun h => absurd h (by omega))
  · simp only [if_neg e]
    exact ris_j0 (fun _ => e)
end Go.Proofs.YtfkmbjkmlfnapaaDoor.Pure
