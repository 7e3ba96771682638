import Derived.Test.YtfkmbjkmlfnapaaDoorMCQAx0
import Derived.Test.YtfkmbjkmlfnapaaDoorMCRow
import Derived.KernelRfl
set_option linter.unusedVariables false
namespace Go.Proofs.YtfkmbjkmlfnapaaDoor.QA
open Go.RowKit Go.Proofs.YtfkmbjkmlfnapaaDoorW.PrintWords Go.Proofs.YtfkmbjkmlfnapaaDoorW.PrintLast Go.Proofs.YtfkmbjkmlfnapaaDoorW.PrintMore
def wf3:Int→Prop:=fun n=>(Lit.int .i64 n).wf = true
def wf31:(List Int)→Prop:=fun xs=>xs.length * 8≤140737488351232∧∀ x∈xs,wf3 x
def wf22:(List (List Int))→Prop:=fun xs=>xs.length * 24≤140737488351232∧∀ x∈xs,wf31 x
def wf24:(List (List Int))→Prop:=fun x=>wf22 x
section
variable {H:Type} {enc:TypeId × Value→H} {w:World}
theorem opens3:Kd.Opens enc Tryd.prog w (Kd.int .i64) wf3 3:=Kd.Opens.int Tryd.underlying3
theorem opens31:Kd.Opens enc Tryd.prog w (Kd.slice 3 (Kd.int .i64)) wf31 31:=Kd.Opens.slice Tryd.underlying31 (by kernel_rfl) 8 (by kernel_rfl) opens3
theorem opens22:Kd.Opens enc Tryd.prog w (Kd.slice 31 (Kd.slice 3 (Kd.int .i64))) wf22 22:=Kd.Opens.slice Tryd.underlying22 (by kernel_rfl) 24 (by kernel_rfl) opens31
theorem opens24:Kd.Opens enc Tryd.prog w (Kd.slice 31 (Kd.slice 3 (Kd.int .i64))) wf24 24:=Kd.Opens.struct Tryd.underlying24 (by kernel_rfl) (Kd.OpensF.one rfl (by kernel_rfl) opens22)
end
end Go.Proofs.YtfkmbjkmlfnapaaDoor.QA
