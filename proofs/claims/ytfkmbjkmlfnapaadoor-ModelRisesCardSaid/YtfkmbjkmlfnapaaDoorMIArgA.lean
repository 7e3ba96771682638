import Derived.Test.YtfkmbjkmlfnapaaDoorMIQAx0
import Derived.Test.YtfkmbjkmlfnapaaDoorMIRow
import Derived.KernelRfl
set_option linter.unusedVariables false
namespace Go.Proofs.YtfkmbjkmlfnapaaDoor.QA
open Go.RowKit Go.Proofs.YtfkmbjkmlfnapaaDoorW.PrintWords Go.Proofs.YtfkmbjkmlfnapaaDoorW.PrintLast Go.Proofs.YtfkmbjkmlfnapaaDoorW.PrintMore
def wf3 : Int → Prop := fun n => (Lit.int .i64 n).wf = true
def wf31 : (List Int) → Prop := fun xs => xs.length * 8 ≤ 140737488351232 ∧ ∀ x ∈ xs, wf3 x
def wf33 : ((List Int) × (List Int)) → Prop := fun x => wf31 x.1 ∧ wf31 x.2
section
variable {H : Type} {enc : TypeId × Value → H} {w : World}
theorem opens3 : Kd.Opens enc Tryd.prog w (Kd.int .i64) wf3 3 := Kd.Opens.int Tryd.underlying3
theorem opens31 : Kd.Opens enc Tryd.prog w (Kd.slice 3 (Kd.int .i64)) wf31 31 := Kd.Opens.slice Tryd.underlying31 (by kernel_rfl) 8 (by kernel_rfl) opens3
theorem opens33 : Kd.Opens enc Tryd.prog w (Kd.pair (Kd.slice 3 (Kd.int .i64)) (Kd.slice 3 (Kd.int .i64))) wf33 33 := Kd.Opens.struct Tryd.underlying33 (by kernel_rfl) (Kd.OpensF.cons rfl (by kernel_rfl) opens31 (Kd.OpensF.one rfl (by kernel_rfl) opens31))
end
end Go.Proofs.YtfkmbjkmlfnapaaDoor.QA
