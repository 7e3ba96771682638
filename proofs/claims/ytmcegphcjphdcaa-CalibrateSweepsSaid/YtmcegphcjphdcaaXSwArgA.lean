import Derived.Test.YtmcegphcjphdcaaXSwQAx0
import Derived.Test.YtmcegphcjphdcaaXSwRow
import Derived.KernelRfl
set_option linter.unusedVariables false
namespace Go.Proofs.Ytmcegphcjphdcaa.QA
open Go.RowKit Go.Proofs.YtmcegphcjphdcaaW.PrintWords Go.Proofs.YtmcegphcjphdcaaW.PrintLast Go.Proofs.YtmcegphcjphdcaaW.PrintMore
def wf3 : Int → Prop := fun n => (Lit.int .i64 n).wf = true
def wf22 : (List Int) → Prop := fun xs => xs.length * 8 ≤ 140737488351232 ∧ ∀ x ∈ xs, wf3 x
def wf24 : ((List Int) × (List Int)) → Prop := fun x => wf22 x.1 ∧ wf22 x.2
def wf34 : (List (List Int)) → Prop := fun xs => xs.length * 24 ≤ 140737488351232 ∧ ∀ x ∈ xs, wf22 x
def wf56 : S56 → Prop := fun x => wf34 x.f0
def wf25 : (List S56) → Prop := fun xs => xs.length * 24 ≤ 140737488351232 ∧ ∀ x ∈ xs, wf56 x
def wf36 : ((List Int) × ((List Int) × (List (List Int)))) → Prop := fun x => wf22 x.1 ∧ wf22 x.2.1 ∧ wf34 x.2.2
def wf43 : (List (List S56)) → Prop := fun xs => xs.length * 24 ≤ 140737488351232 ∧ ∀ x ∈ xs, wf25 x
section
variable {H : Type} {enc : TypeId × Value → H} {w : World}
theorem opens3 : Kd.Opens enc Try.prog w (Kd.int .i64) wf3 3 := Kd.Opens.int Try.underlying3
theorem opens22 : Kd.Opens enc Try.prog w (Kd.slice 3 (Kd.int .i64)) wf22 22 := Kd.Opens.slice Try.underlying22 (by kernel_rfl) 8 (by kernel_rfl) opens3
theorem opens24 : Kd.Opens enc Try.prog w (Kd.pair (Kd.slice 3 (Kd.int .i64)) (Kd.slice 3 (Kd.int .i64))) wf24 24 := Kd.Opens.struct Try.underlying24 (by kernel_rfl) (Kd.OpensF.cons rfl (by kernel_rfl) opens22 (Kd.OpensF.one rfl (by kernel_rfl) opens22))
theorem opens34 : Kd.Opens enc Try.prog w (Kd.slice 22 (Kd.slice 3 (Kd.int .i64))) wf34 34 := Kd.Opens.slice Try.underlying34 (by kernel_rfl) 24 (by kernel_rfl) opens22
theorem opens56 : Kd.Opens enc Try.prog w k56 wf56 56 := (Kd.Opens.iso (f := fun x : S56 => x.f0) (fun x => ⟨x⟩) (fun _ => rfl) (Kd.Opens.struct Try.underlying56 (by kernel_rfl) (Kd.OpensF.one rfl (by kernel_rfl) opens34)))
theorem opens25 : Kd.Opens enc Try.prog w (Kd.slice 56 k56) wf25 25 := Kd.Opens.slice Try.underlying25 (by kernel_rfl) 24 (by kernel_rfl) opens56
theorem opens36 : Kd.Opens enc Try.prog w (Kd.pair (Kd.slice 3 (Kd.int .i64)) (Kd.pair (Kd.slice 3 (Kd.int .i64)) (Kd.slice 22 (Kd.slice 3 (Kd.int .i64))))) wf36 36 := Kd.Opens.struct Try.underlying36 (by kernel_rfl) (Kd.OpensF.cons rfl (by kernel_rfl) opens22 (Kd.OpensF.cons rfl (by kernel_rfl) opens22 (Kd.OpensF.one rfl (by kernel_rfl) opens34)))
theorem opens43 : Kd.Opens enc Try.prog w (Kd.slice 25 (Kd.slice 56 k56)) wf43 43 := Kd.Opens.slice Try.underlying43 (by kernel_rfl) 24 (by kernel_rfl) opens25
end
end Go.Proofs.Ytmcegphcjphdcaa.QA
