import Derived.Test.YtmcegphcjphdcaaCBQAx33
import Derived.Test.YtmcegphcjphdcaaCBLik
set_option linter.unusedVariables false
set_option linter.unusedSimpArgs false
namespace Go.Proofs.Ytmcegphcjphdcaa.Pure
open Go.RowKit Go.Proofs.YtmcegphcjphdcaaW.PrintWords Go.Proofs.YtmcegphcjphdcaaW.PrintLast Go.Proofs.YtmcegphcjphdcaaW.PrintMore Go.Proofs.Ytmcegphcjphdcaa.QA
theorem cellOk_at : ∀ {row cs : List Int}, cellOk row cs = true → row.length = cs.length → ∀ j : Nat, j < row.length → -2 ≤ rd row (j : Int) ∧ rd row (j : Int) < rd cs (j : Int)
  | [], _, _, _, j, hj => by simp at hj
  | k :: ks, [], _, hl, _, _ => by simp at hl
  | k :: ks, c :: cs, h, hl, 0, _ => by
    rw [cellOk, Bool.and_eq_true, decide_eq_true_eq] at h
    exact h.1
  | k :: ks, c :: cs, h, hl, j + 1, hj => by
    rw [cellOk, Bool.and_eq_true] at h
    have := cellOk_at h.2 (by simpa using hl) j (by simpa using hj)
    rw [rd_nat, rd_nat] at *
    simpa using this
theorem famErr_ok {l : List S56} {n : Int} (h : famErr l n = 0) : 0 < l.length ∧ (∀ f, f < l.length → mErr (mo l f).f0 n = 0) ∧ (∀ f, f < l.length → cat (mo l f).f0 = cat (mo l 0).f0) := by
  unfold famErr at h
  by_cases h0 : l.length = 0
  · rw [if_pos h0] at h; omega
  · rw [if_neg h0] at h
    by_cases h1 : valErr l 0 n (-1) = 0
    · rw [if_pos h1] at h
      by_cases h2 : sameCat l (cat (rd_T56 l 0).f0) = true
      · refine ⟨by omega, fun f hf => ?_, fun f hf => ?_⟩
        · have := valErr_ok h1 f hf (by omega)
          unfold mo; rw [rdM_lt hf]; exact this
        · have := List.all_eq_true.1 h2 _ (List.getElem_mem hf)
          rw [decide_eq_true_eq] at this
          unfold mo; rw [rdM_lt hf]; exact this
      · rw [if_neg h2] at h; omega
    · rw [if_neg h1] at h; exact absurd h h1
def ccats (ms : List S56) (i : Int) (l : List S56) : List Int := if 0 ≤ i ∧ i < (ms.length : Int) then (cats ms).set i.toNat (cat (mo l 0).f0) else cats ms
theorem cats_rd {ms : List S56} {j : Nat} (hj : j < ms.length) : rd (cats ms) (j : Int) = cat (ms[j]).f0 := by
  rw [rd_lt (by rw [cats_len]; exact hj)]; simp [cats]
theorem lks_of {ps pr ids its : List Int} {ms : List S56} {i : Nat} {l : List S56} {rows : List (List Int)} (hs : Sz ms) (hsl : Sz l) (g : gErr ps pr = 0) (h1 : ms.length ≤ 60) (h24 : l.length ≤ 24) (h2 : ms.length = its.length) (hv : valErr ms 0 (ps.length : Int) (i : Int) = 0) (hf : famErr l (ps.length : Int) = 0) (hi : i < ms.length) (hm : mtErr ids its rows ((cats ms).set i (cat (mo l 0).f0)) = 0) : Lks ps pr ms i l rows := by
  obtain ⟨m1, m2, m3, m4, m5, m6⟩ := mtErr_ok hm
  obtain ⟨f1, f2, f3⟩ := famErr_ok hf
  have hlen : ∀ r ∈ rows, r.length = ms.length := fun r hr => by rw [m5 r hr, h2]
  have hcl : ((cats ms).set i (cat (mo l 0).f0)).length = ms.length := by rw [List.length_set, cats_len]
  have hcell : ∀ r ∈ rows, ∀ j : Nat, j < ms.length → -2 ≤ rd r (j : Int) ∧ rd r (j : Int) < rd ((cats ms).set i (cat (mo l 0).f0)) (j : Int) := fun r hr j hj => cellOk_at (m6 r hr) (by rw [hlen r hr, hcl]) j (by rw [hlen r hr]; exact hj)
  have hne : ∀ j : Nat, j < ms.length → j ≠ i → rd ((cats ms).set i (cat (mo l 0).f0)) (j : Int) = rd (cats ms) (j : Int) := fun j _ hji => by
    rw [rd_nat, rd_nat, List.getD_eq_getElem?_getD, List.getElem?_set, if_neg (fun h => hji h.symm), ← List.getD_eq_getElem?_getD]
  have heq : rd ((cats ms).set i (cat (mo l 0).f0)) (i : Int) = cat (mo l 0).f0 := by
    rw [rd_nat]; simp [List.getD, cats_len, hi]
  refine ⟨h24, by omega, hi, fun r hr => ⟨g, h1, hlen r hr, hs, fun j hj hji => ?_, fun j hj hji => ?_⟩, fun f hfl r hr skip => ⟨g, by rw [List.length_set]; exact h1, by rw [List.length_set]; exact hlen r hr, ⟨by rw [List.length_set]; exact hs.1, fun m hm' => ?_⟩, fun j hj _ => ?_, fun j hj _ => ?_⟩, g⟩
  · exact valErr_ok hv j hj (by rw [Nat.zero_add]; exact hji)
  · have := hcell r hr j hj
    rw [hne j hj (fun e => hji (by rw [e])), cats_rd hj] at this
    exact this
  · rcases List.mem_or_eq_of_mem_set hm' with h | h
    · exact hs.2 m h
    · subst h; unfold mo; rw [rdM_lt hfl]; exact hsl.2 _ (List.getElem_mem hfl)
  · rw [List.length_set] at hj
    by_cases e : i = j
    · subst e; rw [List.getElem_set_self]; exact f2 f hfl
    · rw [List.getElem_set_ne e]; exact valErr_ok hv j hj (by omega)
  · rw [List.length_set] at hj
    have := hcell r hr j hj
    by_cases e : i = j
    · subst e; rw [List.getElem_set_self, f3 f hfl]; rw [heq] at this; exact this
    · rw [List.getElem_set_ne e]; rw [hne j hj (fun h => e h.symm), cats_rd hj] at this; exact this
def choose (ps pr : List Int) (ms : List S56) (ids its : List Int) (rows : List (List Int)) (i : Int) (l : List S56) : Int × Int :=
  if gErr ps pr = 0 then (if ms.length > 60 ∨ l.length > 24 then (0, 5) else if ms.length = its.length then (if valErr ms 0 (ps.length : Int) i = 0 then (if famErr l (ps.length : Int) = 0 then
    (if mtErr ids its rows (ccats ms i l) = 0 then (if 0 ≤ i ∧ i < (ms.length : Int) then ((bestOf (lk ps pr ms i.toNat l rows) 0 l.length : Nat), 0) else (0, 3)) else (0, mtErr ids its rows (ccats ms i l))) else (0, famErr l (ps.length : Int))) else (0, valErr ms 0 (ps.length : Int) i)) else (0, 1)) else (0, gErr ps pr)
theorem cho_j2 {ps pr ids its : List Int} {ms : List S56} {rows : List (List Int)} {i : Int} {l : List S56} (hs : Sz ms) (hsl : Sz l) (hb : rows.length ≤ 4611686018427387904) (g : gErr ps pr = 0) (h1 : ms.length ≤ 60) (h24 : l.length ≤ 24) (h2 : ms.length = its.length) (hv : valErr ms 0 (ps.length : Int) i = 0) (hf : famErr l (ps.length : Int) = 0) :
    Ev (fun k => U0.j2 k ms i l (ccats ms i l) (decide (0 ≤ i ∧ i < (ms.length : Int))) ps pr ids its rows) (if mtErr ids its rows (ccats ms i l) = 0 then (if 0 ≤ i ∧ i < (ms.length : Int) then ((bestOf (lk ps pr ms i.toNat l rows) 0 l.length : Nat), 0) else (0, 3)) else (0, mtErr ids its rows (ccats ms i l))) := by
  refine Ev.succ ?_
  simp only [U0.j2]
  refine Ev.bind (mtv_ev hb) ?_
  by_cases hm : mtErr ids its rows (ccats ms i l) = 0
  · simp only [if_pos hm]
    by_cases hi : 0 ≤ i ∧ i < (ms.length : Int)
    · rw [decide_eq_true hi, if_pos hi]
      simp only [if_true]
      unfold ccats at hm
      rw [if_pos hi] at hm
      obtain ⟨n, rfl⟩ := Int.eq_ofNat_of_zero_le hi.1
      rw [Int.toNat_natCast] at hm ⊢
      have hL := lks_of hs hsl g h1 h24 h2 hv hf (by omega) hm
      refine Ev.bind (lik_ev ids its hL) (Ev.mapb (great_ev (b := -1) h24 (famErr_ok hf).1 (by omega) (fun q hq => ?_)) rfl)
      have := hL.len hq rows.length
      rw [List.take_length] at this
      exact this
    · rw [decide_eq_false hi, if_neg hi]
      simp only [Bool.false_eq_true, if_false]; exact Ev.now _
  · simp only [if_neg hm]; exact Ev.now _
theorem cho_j1 {ps pr ids its : List Int} {ms : List S56} {rows : List (List Int)} {i : Int} {l : List S56} {R : Int × Int} (l0 : 0 < l.length) (J2 : Ev (fun k => U0.j2 k ms i l (ccats ms i l) (decide (0 ≤ i ∧ i < (ms.length : Int))) ps pr ids its rows) R) :
    Ev (fun k => U0.j1 k ms i l (cats ms) (decide (0 ≤ i ∧ i < (ms.length : Int))) ps pr ids its rows) R := by
  refine Ev.succ ?_
  by_cases hi : 0 ≤ i ∧ i < (ms.length : Int)
  · rw [decide_eq_true hi] at J2 ⊢
    have e : ccats ms i l = (cats ms).set i.toNat (cat (rd_T56 l 0).f0) := by unfold ccats; rw [if_pos hi]; rfl
    simp only [U0.j1, if_true, show (0 : Int) < (l.length : Int) by omega, cat_eq, Option.bind_some, hi.1, cats_len, hi.2]
    rw [← e]; exact J2
  · rw [decide_eq_false hi] at J2 ⊢
    have e : ccats ms i l = cats ms := by unfold ccats; rw [if_neg hi]
    simp only [U0.j1, Bool.false_eq_true, if_false]
    rw [e] at J2; exact J2
theorem choose_ev {ps pr : List Int} (ids its : List Int) {ms : List S56} {rows : List (List Int)} (i : Int) {l : List S56} (hs : Sz ms) (hsl : Sz l) (hb : rows.length ≤ 4611686018427387904) : Ev (fun k => U0.f k ps pr ms ids its rows i l) (choose ps pr ms ids its rows i l) := by
  unfold U0.f choose
  refine Ev.bind (grid_ev ps pr) ?_
  by_cases g : gErr ps pr = 0
  · simp only [if_pos g]
    have jt : ∀ b : Bool, b = true → Ev (fun k => U0.j0 k ms i l b ps pr ids its rows) (0, 5) := by
      intro b hb'
      refine Ev.succ ?_
      simp only [U0.j0, hb', if_true]; exact Ev.now _
    by_cases h1 : ms.length > 60
    · simp only [show (ms.length : Int) > 60 by omega, if_true]
      rw [if_pos (.inl h1)]; exact jt _ rfl
    · simp only [show ¬ ((ms.length : Int) > 60) by omega, if_false]
      by_cases h24 : l.length > 24
      · rw [if_pos (.inr h24)]; exact jt _ (decide_eq_true (by omega))
      · rw [if_neg (by omega), decide_eq_false (by omega)]
        refine Ev.succ ?_
        simp only [U0.j0, Bool.false_eq_true, if_false]
        by_cases h2 : ms.length = its.length
        · rw [if_pos h2]; simp only [eq_true (show (ms.length : Int) = (its.length : Int) by omega), if_true]
          refine Ev.bind (val_ev hs _ _) ?_
          by_cases hv : valErr ms 0 (ps.length : Int) i = 0
          · simp only [if_pos hv]
            refine Ev.bind (fam_ev hsl _) ?_
            by_cases hf : famErr l (ps.length : Int) = 0
            · simp only [if_pos hf]
              refine Ev.bind (ccat_ev (by omega)) ?_
              have J2 := cho_j2 (ids := ids) (its := its) (rows := rows) (i := i) (l := l) hs hsl hb g (by omega) (by omega) h2 hv hf
              have l0 := (famErr_ok hf).1
              have j1 := cho_j1 l0 J2
              by_cases hi0 : i ≥ 0
              · simp only [if_pos hi0]; rw [show decide (i < (ms.length : Int)) = decide (0 ≤ i ∧ i < (ms.length : Int)) by rw [decide_eq_decide]; omega]; exact j1
              · simp only [if_neg hi0]; rw [decide_eq_false (show ¬ (0 ≤ i ∧ i < (ms.length : Int)) by omega)] at j1; exact j1
            · simp only [if_neg hf]; exact Ev.now _
          · simp only [if_neg hv]; exact Ev.now _
        · simp only [if_neg h2, show ¬ ((ms.length : Int) = (its.length : Int)) by omega, if_false]; exact Ev.now _
  · simp only [if_neg g]; exact Ev.now _
end Go.Proofs.Ytmcegphcjphdcaa.Pure
