import Derived.Test.YtmcegphcjphdcaaXAsQAx33
import Derived.Test.YtmcegphcjphdcaaXAsLik
set_option linter.unusedVariables false
set_option linter.unusedSimpArgs false
namespace Go.Proofs.Ytmcegphcjphdcaa.Pure
open Go.RowKit Go.Proofs.YtmcegphcjphdcaaW.PrintWords Go.Proofs.YtmcegphcjphdcaaW.PrintLast Go.Proofs.YtmcegphcjphdcaaW.PrintMore Go.Proofs.Ytmcegphcjphdcaa.QA
theorem cellOk_at : ∀ {row cs : List Int}, cellOk row cs = true → row.length = cs.length → ∀ j : Nat, j < row.length → -2 ≤ rd row (j : Int) ∧ rd row (j : Int) < rd cs (j : Int)
  | [], _, _, _, j, hj => by simp at hj
  | k :: ks, [], _, hl, _, _ => by simp at hl
  | k :: ks, c :: cs, h, hl, 0, _ => by
    rw [cellOk, Bool.and_eq_true, decide_eq_true_eq] at h
    exact h.1
  | k :: ks, c :: cs, h, hl, j + 1, hj => by
    rw [cellOk, Bool.and_eq_true] at h
    have := cellOk_at h.2 (by simpa using hl) j (by simpa using hj)
    rw [rd_nat, rd_nat] at *
    simpa using this
theorem famErr_ok {l : List S56} {n : Int} (h : famErr l n = 0) : 0 < l.length ∧ (∀ f, f < l.length → mErr (mo l f).f0 n = 0) ∧ (∀ f, f < l.length → cat (mo l f).f0 = cat (mo l 0).f0) := by
  unfold famErr at h
  by_cases h0 : l.length = 0
  · rw [if_pos h0] at h; omega
  · rw [if_neg h0] at h
    by_cases h1 : valErr l 0 n (-1) = 0
    · rw [if_pos h1] at h
      by_cases h2 : sameCat l (cat (rd_T56 l 0).f0) = true
      · refine ⟨by omega, fun f hf => ?_, fun f hf => ?_⟩
        · have := valErr_ok h1 f hf (by omega)
          unfold mo; rw [rdM_lt hf]; exact this
        · have := List.all_eq_true.1 h2 _ (List.getElem_mem hf)
          rw [decide_eq_true_eq] at this
          unfold mo; rw [rdM_lt hf]; exact this
      · rw [if_neg h2] at h; omega
    · rw [if_neg h1] at h; exact absurd h h1
theorem cats_rd {ms : List S56} {j : Nat} (hj : j < ms.length) : rd (cats ms) (j : Int) = cat (ms[j]).f0 := by
  rw [rd_lt (by rw [cats_len]; exact hj)]; simp [cats]
theorem lks_of {ps pr ids its : List Int} {ms : List S56} {i : Nat} {l : List S56} {rows : List (List Int)} (hs : Sz ms) (hsl : Sz l) (g : gErr ps pr = 0) (h1 : ms.length ≤ 60) (h24 : l.length ≤ 24) (h2 : ms.length = its.length) (hv : valErr ms 0 (ps.length : Int) (i : Int) = 0) (hf : famErr l (ps.length : Int) = 0) (hi : i < ms.length) (hm : mtErr ids its rows ((cats ms).set i (cat (mo l 0).f0)) = 0) : Lks ps pr ms i l rows := by
  obtain ⟨m1, m2, m3, m4, m5, m6⟩ := mtErr_ok hm
  obtain ⟨f1, f2, f3⟩ := famErr_ok hf
  have hlen : ∀ r ∈ rows, r.length = ms.length := fun r hr => by rw [m5 r hr, h2]
  have hcl : ((cats ms).set i (cat (mo l 0).f0)).length = ms.length := by rw [List.length_set, cats_len]
  have hcell : ∀ r ∈ rows, ∀ j : Nat, j < ms.length → -2 ≤ rd r (j : Int) ∧ rd r (j : Int) < rd ((cats ms).set i (cat (mo l 0).f0)) (j : Int) := fun r hr j hj => cellOk_at (m6 r hr) (by rw [hlen r hr, hcl]) j (by rw [hlen r hr]; exact hj)
  have hne : ∀ j : Nat, j < ms.length → j ≠ i → rd ((cats ms).set i (cat (mo l 0).f0)) (j : Int) = rd (cats ms) (j : Int) := fun j _ hji => by
    rw [rd_nat, rd_nat, List.getD_eq_getElem?_getD, List.getElem?_set, if_neg (fun h => hji h.symm), ← List.getD_eq_getElem?_getD]
  have heq : rd ((cats ms).set i (cat (mo l 0).f0)) (i : Int) = cat (mo l 0).f0 := by
    rw [rd_nat]; simp [List.getD, cats_len, hi]
  refine ⟨h24, by omega, hi, fun r hr => ⟨g, h1, hlen r hr, hs, fun j hj hji => ?_, fun j hj hji => ?_⟩, fun f hfl r hr skip => ⟨g, by rw [List.length_set]; exact h1, by rw [List.length_set]; exact hlen r hr, ⟨by rw [List.length_set]; exact hs.1, fun m hm' => ?_⟩, fun j hj _ => ?_, fun j hj _ => ?_⟩, g⟩
  · exact valErr_ok hv j hj (by rw [Nat.zero_add]; exact hji)
  · have := hcell r hr j hj
    rw [hne j hj (fun e => hji (by rw [e])), cats_rd hj] at this
    exact this
  · rcases List.mem_or_eq_of_mem_set hm' with h | h
    · exact hs.2 m h
    · subst h; unfold mo; rw [rdM_lt hfl]; exact hsl.2 _ (List.getElem_mem hfl)
  · rw [List.length_set] at hj
    by_cases e : i = j
    · subst e; rw [List.getElem_set_self]; exact f2 f hfl
    · rw [List.getElem_set_ne e]; exact valErr_ok hv j hj (by omega)
  · rw [List.length_set] at hj
    have := hcell r hr j hj
    by_cases e : i = j
    · subst e; rw [List.getElem_set_self, f3 f hfl]; rw [heq] at this; exact this
    · rw [List.getElem_set_ne e]; rw [hne j hj (fun h => e h.symm), cats_rd hj] at this; exact this
end Go.Proofs.Ytmcegphcjphdcaa.Pure
