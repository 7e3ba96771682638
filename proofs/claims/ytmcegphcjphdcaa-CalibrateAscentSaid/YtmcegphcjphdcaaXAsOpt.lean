import Derived.Test.YtmcegphcjphdcaaXAsCho
import Derived.Test.YtmcegphcjphdcaaXAsQAx20
set_option linter.unusedVariables false
set_option linter.unusedSimpArgs false
namespace Go.Proofs.Ytmcegphcjphdcaa.Pure
open Go.RowKit Go.Proofs.YtmcegphcjphdcaaW.PrintWords Go.Proofs.YtmcegphcjphdcaaW.PrintLast Go.Proofs.YtmcegphcjphdcaaW.PrintMore Go.Proofs.Ytmcegphcjphdcaa.QA
theorem bestOf_ge {v : Nat → Nat} {b : Nat} : ∀ n, (∀ q, q < n → v q ≤ v (bestOf v b n)) ∧ v b ≤ v (bestOf v b n)
  | 0 => ⟨fun q h => absurd h (Nat.not_lt_zero q), Nat.le_refl _⟩
  | n + 1 => by
    obtain ⟨h1, h2⟩ := bestOf_ge (v := v) (b := b) n
    rw [bestOf]
    split
    · rename_i h
      refine ⟨fun q hq => ?_, by omega⟩
      by_cases e : q = n
      · subst e; exact Nat.le_refl _
      · have := h1 q (by omega); omega
    · rename_i h
      refine ⟨fun q hq => ?_, h2⟩
      by_cases e : q = n
      · subst e; omega
      · exact h1 q (by omega)
theorem valErr_zero : ∀ {ms : List S56} {i : Nat} {n b : Int}, (∀ j : Nat, (h : j < ms.length) → ((i + j : Nat) : Int) ≠ b → mErr (ms[j]).f0 n = 0) → valErr ms i n b = 0
  | [], _, _, _, _ => rfl
  | m :: ms, i, n, b, h => by
    have hr : valErr ms (i + 1) n b = 0 := valErr_zero (fun j hj hne => h (j + 1) (by simpa using hj) (by rwa [show i + (j + 1) = i + 1 + j by omega]))
    rw [valErr]
    by_cases h1 : (i : Int) = b
    · rw [if_pos h1]; exact hr
    · rw [if_neg h1, if_pos (show mErr m.f0 n = 0 from h 0 (by simp) (by simpa using h1))]; exact hr
theorem wide_ev (l : List S56) : ∃ b : Bool, U15.f l = some b := by
  unfold U15.f
  split
  · exact ⟨_, rfl⟩
  · exact ⟨_, rfl⟩
end Go.Proofs.Ytmcegphcjphdcaa.Pure
