import Derived.Test.YtmcegphcjphdcaaCBQAx18
import Derived.Test.YtmcegphcjphdcaaCBQAx20
import Derived.Test.YtmcegphcjphdcaaCBQAx33
import Derived.Test.YtmcegphcjphdcaaCBQAx34
import Derived.Test.YtmcegphcjphdcaaCBCho
import Derived.Test.YtmcegphcjphdcaaCBBits
set_option linter.unusedVariables false
set_option linter.unusedSimpArgs false
namespace Go.Proofs.Ytmcegphcjphdcaa.Pure
open Go.RowKit Go.Proofs.YtmcegphcjphdcaaW.PrintWords Go.Proofs.YtmcegphcjphdcaaW.PrintLast Go.Proofs.YtmcegphcjphdcaaW.PrintMore Go.Proofs.Ytmcegphcjphdcaa.QA
theorem bestOf_ge {v : Nat → Nat} {b : Nat} : ∀ n, (∀ q, q < n → v q ≤ v (bestOf v b n)) ∧ v b ≤ v (bestOf v b n)
  | 0 => ⟨fun q h => absurd h (Nat.not_lt_zero q), Nat.le_refl _⟩
  | n + 1 => by
    obtain ⟨h1, h2⟩ := bestOf_ge (v := v) (b := b) n
    rw [bestOf]
    split
    · rename_i h
      refine ⟨fun q hq => ?_, by omega⟩
      by_cases e : q = n
      · subst e; exact Nat.le_refl _
      · have := h1 q (by omega); omega
    · rename_i h
      refine ⟨fun q hq => ?_, h2⟩
      by_cases e : q = n
      · subst e; omega
      · exact h1 q (by omega)
theorem bestOf_low {v : Nat → Nat} : ∀ n, ∀ q, q < bestOf v 0 n → v q < v (bestOf v 0 n)
  | 0, q, h => by rw [bestOf] at h; omega
  | n + 1, q, h => by
    rw [bestOf] at h ⊢
    split at h
    · rename_i hc
      rw [if_pos hc]
      have := (bestOf_ge (v := v) (b := 0) n).1 q h
      omega
    · rename_i hc
      rw [if_neg hc]
      exact bestOf_low n q h
theorem tof_l0 {ps pr ids its : List Int} {ms : List S56} {rows : List (List Int)} (hl : ms.length ≤ 60) {i : Nat} (hi : i < ms.length) (x : S56) {R : List Int × Int} (hR : Ev (fun k => U1.f k ps pr (ms.set i x) ids its rows) R) : ∀ d j : Nat, j + d = ms.length →
    Ev (fun k => U16.l0 k ms (i : Int) ((ms.set i x).take j) (j : Int) ps pr ids its rows x.f0) R := by
  intro d
  induction d with
  | zero =>
    intro j hj
    refine Ev.succ ?_
    simp only [U16.l0, show ¬ ((j : Int) < (ms.length : Int)) by omega, if_false]
    rw [List.take_of_length_le (by rw [List.length_set]; omega)]
    exact Ev.mapb hR rfl
  | succ d ih =>
    intro j hj
    have hw : wrap64 ((j : Int) + 1) = ((j + 1 : Nat) : Int) := by rw [w64] <;> omega
    have hlt : j < ms.length := by omega
    have htl : ((ms.set i x).take j).length = j := by rw [List.length_take, List.length_set]; omega
    have htk : (ms.set i x).take (j + 1) = (ms.set i x).take j ++ [(ms.set i x)[j]'(by rw [List.length_set]; exact hlt)] := by rw [List.take_succ_eq_append_getElem]
    refine Ev.succ ?_
    simp only [U16.l0, show (j : Int) < (ms.length : Int) by omega, if_true, show (0 : Int) ≤ (j : Int) by omega, hw, htl, show j < 5864062014805 by omega]
    have hn := ih (j + 1) (by omega)
    rw [htk] at hn
    by_cases e : (j : Int) = (i : Int)
    · simp only [if_pos e]
      obtain rfl : j = i := by omega
      rw [List.getElem_set_self] at hn
      exact hn
    · simp only [if_neg e]
      rw [List.getElem_set_ne (by omega)] at hn
      rw [rdM_lt hlt]
      exact hn
theorem valErr_zero : ∀ {ms : List S56} {i : Nat} {n b : Int}, (∀ j : Nat, (h : j < ms.length) → ((i + j : Nat) : Int) ≠ b → mErr (ms[j]).f0 n = 0) → valErr ms i n b = 0
  | [], _, _, _, _ => rfl
  | m :: ms, i, n, b, h => by
    have hr : valErr ms (i + 1) n b = 0 := valErr_zero (fun j hj hne => h (j + 1) (by simpa using hj) (by rwa [show i + (j + 1) = i + 1 + j by omega]))
    rw [valErr]
    by_cases h1 : (i : Int) = b
    · rw [if_pos h1]; exact hr
    · rw [if_neg h1, if_pos (show mErr m.f0 n = 0 from h 0 (by simp) (by simpa using h1))]; exact hr
theorem cats_set (ms : List S56) (i : Nat) (x : S56) : cats (ms.set i x) = (cats ms).set i (cat x.f0) := by
  unfold cats; rw [List.map_set]
theorem tof_ev {ps pr ids its : List Int} {ms : List S56} {i : Nat} {l : List S56} {rows : List (List Int)} (hs : Sz ms) (hsl : Sz l) (hb : rows.length ≤ 4611686018427387904) (g : gErr ps pr = 0) (h1 : ms.length ≤ 60) (h2 : ms.length = its.length) (hv : valErr ms 0 (ps.length : Int) (i : Int) = 0) (hf : famErr l (ps.length : Int) = 0) (hi : i < ms.length) (hm : mtErr ids its rows ((cats ms).set i (cat (mo l 0).f0)) = 0) {f : Nat} (hfl : f < l.length) :
    Ev (fun k => U16.f k ps pr ms ids its rows (i : Int) (mo l f).f0) (toL (lk ps pr ms i l rows f), 0) := by
  obtain ⟨f1, f2, f3⟩ := famErr_ok hf
  have hsz : Sz (ms.set i (mo l f)) := ⟨by rw [List.length_set]; exact hs.1, fun m hm' => by
    rcases List.mem_or_eq_of_mem_set hm' with h | h
    · exact hs.2 m h
    · subst h; unfold mo; rw [rdM_lt hfl]; exact hsl.2 _ (List.getElem_mem hfl)⟩
  have hval : valErr (ms.set i (mo l f)) 0 (ps.length : Int) (-1) = 0 := valErr_zero (fun j hj _ => by
    rw [List.length_set] at hj
    by_cases e : i = j
    · subst e; rw [List.getElem_set_self]; exact f2 f hfl
    · rw [List.getElem_set_ne e]; exact valErr_ok hv j hj (by omega))
  have htot : total ps pr (ms.set i (mo l f)) ids its rows = (toL (lk ps pr ms i l rows f), 0) := by
    unfold total
    rw [if_pos g, if_neg (by rw [List.length_set]; omega), if_pos (by rw [List.length_set]; exact h2), if_pos hval, cats_set, f3 f hfl, if_pos hm]
    rfl
  have := total_ev (ps := ps) (pr := pr) hsz ids its hb
  rw [htot] at this
  unfold U16.f
  exact tof_l0 h1 hi (mo l f) this ms.length 0 (by omega)
theorem best_l0 {ps pr ids its : List Int} {ms : List S56} {i : Nat} {l : List S56} {rows : List (List Int)} {n : Nat} (h24 : l.length ≤ 24) (hn : n < l.length) {v : Nat → Nat} (hlen : ∀ q, q < l.length → (toL (v q)).length ≤ 100000) (hge : ∀ q, q < l.length → v q ≤ v n) (hlow : ∀ q, q < n → v q < v n)
    (hT : ∀ q, q < l.length → Ev (fun k => U16.f k ps pr ms ids its rows (i : Int) (mo l q).f0) (toL (v q), 0)) : ∀ d j : Nat, j + d = l.length →
    Ev (fun k => U10.l0 k ms (i : Int) l (n : Int) (toL (v n)) (j : Int) ps pr ids its rows) true := by
  intro d
  induction d with
  | zero =>
    intro j hj
    refine Ev.succ ?_
    simp only [U10.l0, show ¬ ((j : Int) < (l.length : Int)) by omega, if_false]; exact Ev.now _
  | succ d ih =>
    intro j hj
    have hw : wrap64 ((j : Int) + 1) = ((j + 1 : Nat) : Int) := by rw [w64] <;> omega
    have hlt : j < l.length := by omega
    have hmo : rd_T56 l (j : Int) = mo l j := rfl
    refine Ev.succ ?_
    simp only [U10.l0, show (j : Int) < (l.length : Int) by omega, if_true, show (0 : Int) ≤ (j : Int) by omega, hw, hmo]
    refine Ev.bind (hT j hlt) ?_
    refine Ev.bind (Cmp_ev (by have := hlen j hlt; omega) (by have := hlen n hn; omega)) ?_
    simp only [if_true]
    have h1 := hge j hlt
    have hc : ¬ (cmpN (v j) (v n) > 0) := by
      unfold cmpN
      by_cases c : v j < v n
      · rw [if_pos c]; omega
      · rw [if_neg c, if_neg (by omega)]; omega
    simp only [if_neg hc]
    by_cases h0 : cmpN (v j) (v n) = 0
    · have hnj : ¬ ((j : Int) < (n : Int)) := by
        intro hlt'
        have := hlow j (by omega)
        unfold cmpN at h0
        rw [if_pos this] at h0; omega
      simp only [if_pos h0, if_neg hnj]; exact ih (j + 1) (by omega)
    · simp only [if_neg h0]; exact ih (j + 1) (by omega)
theorem choose_cases {ps pr : List Int} (ms : List S56) (ids its : List Int) (rows : List (List Int)) (i : Int) (l : List S56) :
    ((gErr ps pr = 0 ∧ ms.length ≤ 60 ∧ l.length ≤ 24 ∧ ms.length = its.length ∧ valErr ms 0 (ps.length : Int) i = 0 ∧ famErr l (ps.length : Int) = 0 ∧ mtErr ids its rows (ccats ms i l) = 0 ∧ 0 ≤ i ∧ i < (ms.length : Int)) ∧ choose ps pr ms ids its rows i l = (((bestOf (lk ps pr ms i.toNat l rows) 0 l.length : Nat) : Int), (0 : Int))) ∨ ((choose ps pr ms ids its rows i l).1 = 0 ∧ (choose ps pr ms ids its rows i l).2 ≠ 0) := by
  unfold choose
  by_cases g : gErr ps pr = 0
  · rw [if_pos g]
    by_cases h1 : ms.length > 60 ∨ l.length > 24
    · rw [if_pos h1]; exact .inr ⟨rfl, by decide⟩
    · rw [if_neg h1]
      by_cases h2 : ms.length = its.length
      · rw [if_pos h2]
        by_cases h3 : valErr ms 0 (ps.length : Int) i = 0
        · rw [if_pos h3]
          by_cases h4 : famErr l (ps.length : Int) = 0
          · rw [if_pos h4]
            by_cases h5 : mtErr ids its rows (ccats ms i l) = 0
            · rw [if_pos h5]
              by_cases h6 : 0 ≤ i ∧ i < (ms.length : Int)
              · rw [if_pos h6]; exact .inl ⟨⟨g, by omega, by omega, h2, h3, h4, h5, h6.1, h6.2⟩, rfl⟩
              · rw [if_neg h6]; exact .inr ⟨rfl, by decide⟩
            · rw [if_neg h5]; exact .inr ⟨rfl, h5⟩
          · rw [if_neg h4]; exact .inr ⟨rfl, h4⟩
        · rw [if_neg h3]; exact .inr ⟨rfl, h3⟩
      · rw [if_neg h2]; exact .inr ⟨rfl, by decide⟩
  · rw [if_neg g]; exact .inr ⟨rfl, g⟩
theorem wide_ev (l : List S56) : ∃ b : Bool, U17.f l = some b := by
  unfold U17.f
  split
  · exact ⟨_, rfl⟩
  · exact ⟨_, rfl⟩
theorem CalibrateBest (l0_0 : (List Int)) (l0_1 : (List Int)) (l1 : (List S56)) (l2_0 : (List Int)) (l2_1 : (List Int)) (l2_2 : (List (List Int))) (a3 : Int) (l4 : (List S56)) (h0 : wf24 (l0_0, l0_1)) (h1 : wf25 l1) (h2 : wf36 (l2_0, l2_1, l2_2)) (h3 : (Lit.int .i64 a3).wf = true) (h4 : wf25 l4) : ∃ k, U10.f k l0_0 l0_1 l1 l2_0 l2_1 l2_2 a3 l4 = some true := by
  have hs := wf_Sz h1
  have hsl := wf_Sz h4
  have hb : l2_2.length ≤ 4611686018427387904 := by have := h2.2.2.1; simp only at this; omega
  refine Ev.rounds ?_
  have key : ∀ b : Bool, Ev (fun k => U10.j0 k l1 a3 l4 b l0_0 l0_1 l2_0 l2_1 l2_2) true := by
    intro b
    refine Ev.succ ?_
    cases b with
    | true => simp only [U10.j0, if_true]; exact Ev.now _
    | false =>
      simp only [U10.j0, Bool.false_eq_true, if_false]
      refine Ev.bind (choose_ev l2_0 l2_1 a3 hs hsl hb) ?_
      rcases choose_cases (ps := l0_0) (pr := l0_1) l1 l2_0 l2_1 l2_2 a3 l4 with ⟨⟨g, c1, c2, c3, c4, c5, c6, c7, c8⟩, hc⟩ | ⟨t1, t2⟩
      · obtain ⟨i, rfl⟩ := Int.eq_ofNat_of_zero_le c7
        have hi : i < l1.length := by omega
        unfold ccats at c6
        rw [if_pos ⟨c7, c8⟩] at c6
        rw [Int.toNat_natCast] at c6 hc
        have hL := lks_of hs hsl g c1 c2 c3 c4 c5 hi c6
        have l0 := (famErr_ok c5).1
        have hlt := bestOf_lt (v := lk l0_0 l0_1 l1 i l4 l2_2) l0 l4.length (Nat.le_refl _)
        have hT := fun q (hq : q < l4.length) => tof_ev (f := q) hs hsl hb g c1 c3 c4 c5 hi c6 hq
        have hlen : ∀ q, q < l4.length → (toL (lk l0_0 l0_1 l1 i l4 l2_2 q)).length ≤ 100000 := fun q hq => by
          have := hL.len hq l2_2.length; rw [List.take_length] at this; exact this
        obtain ⟨bb, hb0, hbits⟩ := Bits_ev (a := lk l0_0 l0_1 l1 i l4 l2_2 (bestOf (lk l0_0 l0_1 l1 i l4 l2_2) 0 l4.length)) (likes_le (hL.all _ hlt)).2 (hlen _ hlt)
        have hge := (bestOf_ge (v := lk l0_0 l0_1 l1 i l4 l2_2) (b := 0) l4.length).1
        have hlow := bestOf_low (v := lk l0_0 l0_1 l1 i l4 l2_2) l4.length
        rw [hc]
        generalize bestOf (lk l0_0 l0_1 l1 i l4 l2_2) 0 l4.length = n at *
        simp only [if_true, show ¬ ((n : Int) < 0) by omega, if_false, show ¬ ((n : Int) ≥ (l4.length : Int)) by omega, show ¬ ((i : Int) < 0) by omega]
        rw [decide_eq_false (by omega)]
        refine Ev.succ ?_
        have hmo : rd_T56 l4 (n : Int) = mo l4 n := rfl
        simp only [U10.j1, Bool.false_eq_true, if_false, show (0 : Int) ≤ (n : Int) by omega, if_true, show (n : Int) < (l4.length : Int) by omega, hmo]
        refine Ev.bind (hT n hlt) ?_
        simp only [if_true]
        refine Ev.bind hbits ?_
        rw [show (bb == 0) = false from beq_eq_false_iff_ne.2 (by omega)]
        refine Ev.succ ?_
        simp only [U10.j2, Bool.false_eq_true, if_false]
        exact best_l0 c2 hlt hlen hge hlow hT l4.length 0 (by omega)
      · simp only [t1, t2, if_false]; exact evq (Ev.now _) (by simp)
  obtain ⟨b, hb'⟩ := heavy_ev' l2_0 l2_1 l2_2
  obtain ⟨b2, hb2⟩ := wide_ev l4
  unfold U10.f
  simp only [hb', hb2, Option.bind_some]
  cases b with
  | true => simp only [if_true]; exact key true
  | false => simp only [Bool.false_eq_true, if_false]; exact key b2
end Go.Proofs.Ytmcegphcjphdcaa.Pure
