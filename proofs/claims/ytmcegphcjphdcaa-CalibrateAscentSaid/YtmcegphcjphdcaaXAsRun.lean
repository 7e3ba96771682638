import Derived.Test.YtmcegphcjphdcaaXAsQAx20
import Derived.Test.YtmcegphcjphdcaaXAsQAx30
import Derived.Test.YtmcegphcjphdcaaXAsSwp
set_option linter.unusedVariables false
set_option linter.unusedSimpArgs false
namespace Go.Proofs.Ytmcegphcjphdcaa.Pure
open Go.RowKit Go.Proofs.YtmcegphcjphdcaaW.PrintWords Go.Proofs.YtmcegphcjphdcaaW.PrintLast Go.Proofs.YtmcegphcjphdcaaW.PrintMore Go.Proofs.Ytmcegphcjphdcaa.QA
section
variable {ps pr ids its : List Int} {rows : List (List Int)} {fs : List (List S56)}
end
theorem anyWide_l0 {fs : List (List S56)} : ∀ d i : Nat, i + d = 70 → ∃ b : Bool, Ev (fun k => U12.l0 k fs (i : Int)) b := by
  intro d
  induction d with
  | zero =>
    intro i hi
    have : Ev (fun k => U12.j1 k fs (i : Int) false) false := by
      refine Ev.succ ?_
      simp only [U12.j1, Bool.false_eq_true, if_false]; exact Ev.now _
    refine ⟨false, Ev.succ ?_⟩
    simp only [U12.l0]
    rw [decide_eq_false (by omega)]
    split <;> exact this
  | succ d ih =>
    intro i hi
    have hw : wrap64 ((i : Int) + 1) = ((i + 1 : Nat) : Int) := by rw [w64] <;> omega
    by_cases h : (i : Int) < (fs.length : Int)
    · obtain ⟨b, hb⟩ := ih (i + 1) (by omega)
      obtain ⟨w, hw'⟩ := wide_ev (rd_L6 fs (i : Int))
      refine ⟨if w = true then true else b, Ev.succ ?_⟩
      simp only [U12.l0, if_pos h]
      rw [decide_eq_true (by omega)]
      refine Ev.succ ?_
      simp only [U12.j1, if_true, show (0 : Int) ≤ (i : Int) by omega, if_pos h, hw', Option.bind_some, hw]
      cases w with
      | true => simp only [if_true]; exact Ev.now _
      | false => simp only [Bool.false_eq_true, if_false]; exact hb
    · refine ⟨false, Ev.succ ?_⟩
      simp only [U12.l0, if_neg h]
      refine Ev.succ ?_
      simp only [U12.j1, Bool.false_eq_true, if_false]; exact Ev.now _
theorem anyWide_ev (fs : List (List S56)) : ∃ b : Bool, Ev (fun k => U12.f k fs) b := anyWide_l0 70 0 (by omega)
end Go.Proofs.Ytmcegphcjphdcaa.Pure
