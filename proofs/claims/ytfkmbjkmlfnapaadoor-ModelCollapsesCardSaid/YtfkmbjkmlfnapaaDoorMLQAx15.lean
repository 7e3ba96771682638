import Derived.Test.YtfkmbjkmlfnapaaDoorMLQAx0
namespace Go.Proofs.YtfkmbjkmlfnapaaDoor.QA
open Go.RowKit Go.Proofs.YtfkmbjkmlfnapaaDoorW.PrintWords Go.Proofs.YtfkmbjkmlfnapaaDoorW.PrintLast Go.Proofs.YtfkmbjkmlfnapaaDoorW.PrintMore
attribute [local go_sem] max2_int min2_int max_two min_two max_three min_three max_four min_four
set_option linter.unusedVariables false
set_option linter.unusedSimpArgs false
end Go.Proofs.YtfkmbjkmlfnapaaDoor.QA
