import Derived.Test.YtmcegphcjphdcaaXSwCho
import Derived.Test.YtmcegphcjphdcaaXSwQAx20
set_option linter.unusedVariables false
set_option linter.unusedSimpArgs false
namespace Go.Proofs.Ytmcegphcjphdcaa.Pure
open Go.RowKit Go.Proofs.YtmcegphcjphdcaaW.PrintWords Go.Proofs.YtmcegphcjphdcaaW.PrintLast Go.Proofs.YtmcegphcjphdcaaW.PrintMore Go.Proofs.Ytmcegphcjphdcaa.QA
theorem valErr_zero : ∀ {ms : List S56} {i : Nat} {n b : Int}, (∀ j : Nat, (h : j < ms.length) → ((i + j : Nat) : Int) ≠ b → mErr (ms[j]).f0 n = 0) → valErr ms i n b = 0
  | [], _, _, _, _ => rfl
  | m :: ms, i, n, b, h => by
    have hr : valErr ms (i + 1) n b = 0 := valErr_zero (fun j hj hne => h (j + 1) (by simpa using hj) (by rwa [show i + (j + 1) = i + 1 + j by omega]))
    rw [valErr]
    by_cases h1 : (i : Int) = b
    · rw [if_pos h1]; exact hr
    · rw [if_neg h1, if_pos (show mErr m.f0 n = 0 from h 0 (by simp) (by simpa using h1))]; exact hr
theorem wide_ev (l : List S56) : ∃ b : Bool, U14.f l = some b := by
  unfold U14.f
  split
  · exact ⟨_, rfl⟩
  · exact ⟨_, rfl⟩
end Go.Proofs.Ytmcegphcjphdcaa.Pure
