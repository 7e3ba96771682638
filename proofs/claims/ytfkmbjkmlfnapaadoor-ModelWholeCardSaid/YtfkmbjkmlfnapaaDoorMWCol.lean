import Derived.Test.YtfkmbjkmlfnapaaDoorMWQAx8
import Derived.Test.YtfkmbjkmlfnapaaDoorMWQAx19
import Derived.Test.YtfkmbjkmlfnapaaDoorMWSam
set_option linter.unusedVariables false
set_option linter.unusedSimpArgs false
namespace Go.Proofs.YtfkmbjkmlfnapaaDoor.Pure
open Go.RowKit Go.Proofs.YtfkmbjkmlfnapaaDoorW.PrintWords Go.Proofs.YtfkmbjkmlfnapaaDoorW.PrintLast Go.Proofs.YtfkmbjkmlfnapaaDoorW.PrintMore Go.Proofs.YtfkmbjkmlfnapaaDoor.QA
def lst : Int → List Int → Int
  | l, [] => l
  | _, x :: xs => lst x xs
def zs (tg : List Int) : List Int := List.replicate (lst 0 tg + 1).toNat 0
end Go.Proofs.YtfkmbjkmlfnapaaDoor.Pure
