import Derived.Test.YtnimkmkapajnhaaDoorRBQAx0
import Derived.Test.YtnimkmkapajnhaaDoorRBRow
import Derived.KernelRfl
set_option linter.unusedVariables false
namespace Go.Proofs.YtnimkmkapajnhaaDoor.QA
open Go.RowKit Go.Proofs.YtnimkmkapajnhaaDoorW.PrintWords Go.Proofs.YtnimkmkapajnhaaDoorW.PrintLast Go.Proofs.YtnimkmkapajnhaaDoorW.PrintMore
def wf3:Int→Prop:=fun n=>(Lit.int .i64 n).wf = true
def wf23:(List Int)→Prop:=fun xs=>xs.length * 8≤140737488351232∧∀ x∈xs,wf3 x
def wf26:S26→Prop:=fun x=>wf3 x.f0∧wf3 x.f1∧wf23 x.f2
def wf22:(List S26)→Prop:=fun xs=>xs.length * 40≤140737488351232∧∀ x∈xs,wf26 x
section
variable {H:Type} {enc:TypeId × Value→H} {w:World}
theorem opens3:Kd.Opens enc Tryd.prog w (Kd.int .i64) wf3 3:=Kd.Opens.int Tryd.underlying3
theorem opens23:Kd.Opens enc Tryd.prog w (Kd.slice 3 (Kd.int .i64)) wf23 23:=Kd.Opens.slice Tryd.underlying23 (by kernel_rfl) 8 (by kernel_rfl) opens3
theorem opens26:Kd.Opens enc Tryd.prog w k26 wf26 26:=(Kd.Opens.iso (f:=fun x:S26=>(x.f0,x.f1,x.f2)) (fun x=>⟨x.1,x.2.1,x.2.2⟩) (fun _=>rfl) (Kd.Opens.struct Tryd.underlying26 (by kernel_rfl) (Kd.OpensF.cons rfl (by kernel_rfl) opens3 (Kd.OpensF.cons rfl (by kernel_rfl) opens3 (Kd.OpensF.one rfl (by kernel_rfl) opens23)))))
theorem opens22:Kd.Opens enc Tryd.prog w (Kd.slice 26 k26) wf22 22:=Kd.Opens.slice Tryd.underlying22 (by kernel_rfl) 40 (by kernel_rfl) opens26
end
end Go.Proofs.YtnimkmkapajnhaaDoor.QA
