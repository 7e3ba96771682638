import Derived.Test.YtmcegphcjphdcaaXAsQAx18
import Derived.Test.YtmcegphcjphdcaaXAsQAx35
import Derived.Test.YtmcegphcjphdcaaXAsQAx36
import Derived.Test.YtmcegphcjphdcaaXAsRun
import Derived.Test.YtmcegphcjphdcaaXAsBits
set_option linter.unusedVariables false
set_option linter.unusedSimpArgs false
namespace Go.Proofs.Ytmcegphcjphdcaa.Pure
open Go.RowKit Go.Proofs.YtmcegphcjphdcaaW.PrintWords Go.Proofs.YtmcegphcjphdcaaW.PrintLast Go.Proofs.YtmcegphcjphdcaaW.PrintMore Go.Proofs.Ytmcegphcjphdcaa.QA
section
variable {ps pr ids its : List Int} {rows : List (List Int)} {fs : List (List S56)}
theorem chos_l0 {c : List Int} (hc : c.length = fs.length) (hb : fs.length ≤ 5864062014805) : ∀ d n : Nat, n + d = c.length → ∃ r : List S56 × Bool, r.1.length ≤ 5864062014805 ∧ Ev (fun k => U13.l0 k fs c ((List.range n).map (pk fs c)) (n : Int)) r ∧ ((∀ i : Nat, i < fs.length → 0 ≤ rd c (i : Int) ∧ rd c (i : Int) < ((fa fs i).length : Int)) → r = (pickF fs c, true)) := by
  intro d
  induction d with
  | zero =>
    intro n hn
    refine ⟨(pickF fs c, true), by show (pickF fs c).length ≤ _; rw [pickF_len]; exact hb, Ev.succ ?_, fun _ => rfl⟩
    simp only [U13.l0, show ¬ ((n : Int) < (c.length : Int)) by omega, if_false]
    rw [show n = fs.length by omega]
    exact Ev.now _
  | succ d ih =>
    intro n hn
    have hw : wrap64 ((n : Int) + 1) = ((n + 1 : Nat) : Int) := by rw [w64] <;> omega
    have hlt : n < fs.length := by omega
    have hfa : rd_L6 fs (n : Int) = fa fs n := rfl
    have hlen : ((List.range n).map (pk fs c)).length < 5864062014805 := by rw [List.length_map, List.length_range]; omega
    by_cases h0 : rd c (n : Int) < 0
    · refine ⟨([], false), by simp, Ev.succ ?_, fun h => absurd (h n hlt).1 (by omega)⟩
      simp only [U13.l0, show (n : Int) < (c.length : Int) by omega, if_true, show (0 : Int) ≤ (n : Int) by omega, if_pos h0]; exact Ev.now _
    · by_cases h1 : rd c (n : Int) ≥ ((fa fs n).length : Int)
      · refine ⟨([], false), by simp, Ev.succ ?_, fun h => absurd (h n hlt).2 (by omega)⟩
        simp only [U13.l0, show (n : Int) < (c.length : Int) by omega, show (n : Int) < (fs.length : Int) by omega, if_true, show (0 : Int) ≤ (n : Int) by omega, if_neg h0, hfa, if_pos h1]; exact Ev.now _
      · obtain ⟨r, hr, he, hk⟩ := ih (n + 1) (by omega)
        refine ⟨r, hr, Ev.succ ?_, hk⟩
        have hmo : (⟨(rd_T56 (fa fs n) (rd c (n : Int))).f0⟩ : S56) = pk fs c n := by
          unfold pk mo
          rw [Int.toNat_of_nonneg (by omega)]
        rw [List.range_succ, List.map_append, List.map_singleton] at he
        simp only [U13.l0, show (n : Int) < (c.length : Int) by omega, show (n : Int) < (fs.length : Int) by omega, if_true, show (0 : Int) ≤ (n : Int) by omega, if_neg h0, hfa, if_neg h1, show 0 ≤ rd c (n : Int) by omega, show rd c (n : Int) < ((fa fs n).length : Int) by omega, hlen, hmo, hw]
        exact he
theorem chosen_ev (c : List Int) (hb : fs.length ≤ 5864062014805) : ∃ r : List S56 × Bool, Ev (fun k => U13.f k fs c) r ∧ (c.length = fs.length → (∀ i : Nat, i < fs.length → 0 ≤ rd c (i : Int) ∧ rd c (i : Int) < ((fa fs i).length : Int)) → r = (pickF fs c, true)) := by
  unfold U13.f
  by_cases h : c.length = fs.length
  · simp only [show (c.length : Int) = (fs.length : Int) by omega, if_true]
    obtain ⟨r, _, he, hk⟩ := chos_l0 h hb c.length 0 (by omega)
    exact ⟨r, he, fun _ => hk⟩
  · simp only [show ¬ ((c.length : Int) = (fs.length : Int)) by omega, if_false]
    exact ⟨_, Ev.now _, fun e => absurd e h⟩
theorem Ok.total {o : List Int} (h : Ok ps pr ids its rows fs o) : total ps pr (pickF fs o) ids its rows = (toL (likes ps pr (pickF fs o) rows), 0) := by
  unfold Pure.total
  rw [if_pos h.g, if_neg (by rw [pickF_len]; have := h.n60; omega), if_pos (by rw [pickF_len]; exact h.li), if_pos (h.val _), h.cats, if_pos h.mt]
theorem Ok.fit {o : List Int} (h : Ok ps pr ids its rows fs o) (hz : SzF fs) : FitAll ps pr (pickF fs o) rows :=
  fit_all (h.sz hz) h.g (by rw [pickF_len]; have := h.n60; omega) (by rw [pickF_len]; exact h.li) (h.val _) (by rw [h.cats]; exact h.mt)
theorem stp_up {o : List Int} (h : Ok ps pr ids its rows fs o) {n : Nat} (hn : n < fs.length) : likes ps pr (pickF fs o) rows ≤ likes ps pr (pickF fs (stp ps pr rows fs o n)) rows := by
  have lc := h.lc
  have e1 : likes ps pr (pickF fs o) rows = lk ps pr (pickF fs o) n (fa fs n) rows (rd o (n : Int)).toNat := by
    unfold lk
    have : (pickF fs o).set n (mo (fa fs n) (rd o (n : Int)).toNat) = pickF fs o := by
      apply List.ext_getElem
      · rw [List.length_set]
      · intro j h1 h2
        rw [List.getElem_set]
        split
        · next e => subst e; rw [pickF_get]; rfl
        · rfl
    rw [this]
  have e2 : likes ps pr (pickF fs (stp ps pr rows fs o n)) rows = lk ps pr (pickF fs o) n (fa fs n) rows (bestOf (lk ps pr (pickF fs o) n (fa fs n) rows) (rd o (n : Int)).toNat (fa fs n).length) := by
    unfold stp
    rw [pickF_set (by omega)]; rfl
  rw [e1, e2]
  exact (bestOf_ge _).2
theorem swp_up : ∀ d n, n + d = fs.length → ∀ {o : List Int}, Ok ps pr ids its rows fs o → likes ps pr (pickF fs o) rows ≤ likes ps pr (pickF fs (swp ps pr rows fs n d o)) rows
  | 0, _, _, _, _ => Nat.le_refl _
  | d + 1, n, hn, _, h => Nat.le_trans (stp_up h (by omega)) (swp_up d (n + 1) (by omega) (h.stp (by omega)))
end
theorem CalibrateAscent (l0_0 : (List Int)) (l0_1 : (List Int)) (l1_0 : (List Int)) (l1_1 : (List Int)) (l1_2 : (List (List Int))) (l2 : (List (List S56))) (l3 : (List Int)) (h0 : wf24 (l0_0, l0_1)) (h1 : wf36 (l1_0, l1_1, l1_2)) (h2 : wf43 l2) (h3 : wf22 l3) : ∃ k, U11.f k l0_0 l0_1 l1_0 l1_1 l1_2 l2 l3 = some true := by
  have hz := wf_SzF h2
  have hb : l1_2.length ≤ 4611686018427387904 := by have := h1.2.2.1; simp only at this; omega
  have hfs : l2.length ≤ 5864062014805 := by have := h2.1; omega
  refine Ev.rounds ?_
  have key : ∀ b : Bool, Ev (fun k => U11.j0 k l2 l3 b l0_0 l0_1 l1_0 l1_1 l1_2) true := by
    intro b
    refine Ev.succ ?_
    cases b with
    | true => simp only [U11.j0, if_true]; exact Ev.now _
    | false =>
      simp only [U11.j0, Bool.false_eq_true, if_false]
      refine Ev.bind (Sweep_ev l1_0 l1_1 l3 hz hb) ?_
      obtain ⟨r, hr, hrk⟩ := chosen_ev (fs := l2) l3 hfs
      refine Ev.bind hr ?_
      unfold SweepN
      by_cases hc : checkN l0_0 l0_1 l1_0 l1_1 l1_2 l2 l3 = 0
      · have hk := check_iff.1 hc
        have hk' := hk.swpF
        obtain rfl := hrk hk.lc hk.ch
        obtain ⟨r', hr', hrk'⟩ := chosen_ev (fs := l2) (swpF l0_0 l0_1 l1_2 l2 l3) hfs
        obtain rfl := hrk' hk'.lc hk'.ch
        simp only [if_pos hc, if_true]
        refine Ev.bind hr' ?_
        refine Ev.bind (total_ev (hk.sz hz) l1_0 l1_1 hb) (Ev.bind (total_ev (hk'.sz hz) l1_0 l1_1 hb) ?_)
        rw [hk.total, hk'.total]
        simp only [if_true]
        have s1 := total_len (ps := l0_0) (pr := l0_1) (ids := l1_0) (its := l1_1) (rows := l1_2) (hk.sz hz)
        have s2 := total_len (ps := l0_0) (pr := l0_1) (ids := l1_0) (its := l1_1) (rows := l1_2) (hk'.sz hz)
        rw [hk.total] at s1
        rw [hk'.total] at s2
        have hup : likes l0_0 l0_1 (pickF l2 l3) l1_2 ≤ likes l0_0 l0_1 (pickF l2 (swpF l0_0 l0_1 l1_2 l2 l3)) l1_2 := swp_up _ _ (by omega) hk
        have hpos := (likes_le (hk.fit hz)).2
        generalize likes l0_0 l0_1 (pickF l2 (swpF l0_0 l0_1 l1_2 l2 l3)) l1_2 = v2 at *
        generalize likes l0_0 l0_1 (pickF l2 l3) l1_2 = v1 at *
        obtain ⟨bb, hb0, hbits⟩ := Bits_ev hpos s1
        refine Ev.bind hbits ?_
        simp only [show bb > 0 from hb0, if_true]
        refine Ev.mapb (Cmp_ev (by simp only at s1; omega) (by simp only at s2; omega)) ?_
        unfold cmpN
        by_cases c : v1 < v2
        · rw [if_pos c]; rfl
        · rw [if_neg c, if_neg (by omega)]; rfl
      · simp only [if_neg hc]; exact evq (Ev.now _) (by simp)
  obtain ⟨b, hb'⟩ := heavy_ev' l1_0 l1_1 l1_2
  obtain ⟨b2, hb2⟩ := anyWide_ev l2
  unfold U11.f
  simp only [hb', Option.bind_some]
  cases b with
  | true => simp only [if_true]; exact key true
  | false => simp only [Bool.false_eq_true, if_false]; exact Ev.bind hb2 (key b2)
end Go.Proofs.Ytmcegphcjphdcaa.Pure
