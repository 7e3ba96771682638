import Derived.Test.YtmcegphcjphdcaaXSwQAx11
import Derived.Test.YtmcegphcjphdcaaXSwQAx18
import Derived.Test.YtmcegphcjphdcaaXSwNatA
set_option linter.unusedVariables false
set_option linter.unusedSimpArgs false
namespace Go.Proofs.Ytmcegphcjphdcaa.Pure
open Go.RowKit Go.Proofs.YtmcegphcjphdcaaW.PrintWords Go.Proofs.YtmcegphcjphdcaaW.PrintLast Go.Proofs.YtmcegphcjphdcaaW.PrintMore Go.Proofs.Ytmcegphcjphdcaa.QA
theorem heavy_ev' (ids its : List Int) (rows : List (List Int)) : ∃ b : Bool, U12.f ids its rows = some b := by
  unfold U12.f
  repeat' split
  all_goals exact ⟨_, rfl⟩
end Go.Proofs.Ytmcegphcjphdcaa.Pure
