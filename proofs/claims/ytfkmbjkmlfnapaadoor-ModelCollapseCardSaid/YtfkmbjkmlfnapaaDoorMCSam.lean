import Derived.Test.YtfkmbjkmlfnapaaDoorMCQAx5
import Derived.Test.YtfkmbjkmlfnapaaDoorMCValid
set_option linter.unusedVariables false
set_option linter.unusedSimpArgs false
namespace Go.Proofs.YtfkmbjkmlfnapaaDoor.Pure
open Go.RowKit Go.Proofs.YtfkmbjkmlfnapaaDoorW.PrintWords Go.Proofs.YtfkmbjkmlfnapaaDoorW.PrintLast Go.Proofs.YtfkmbjkmlfnapaaDoorW.PrintMore Go.Proofs.YtfkmbjkmlfnapaaDoor.QA
theorem rdL_lt {rs:List (List Int)} {i:Nat} (h:i < rs.length):rd_L1 rs (i:Int) = rs[i]:=by unfold rd_L1;rw [Int.toNat_natCast,getD_lt h]
end Go.Proofs.YtfkmbjkmlfnapaaDoor.Pure
