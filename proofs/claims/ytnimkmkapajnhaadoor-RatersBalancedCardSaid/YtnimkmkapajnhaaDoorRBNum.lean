import Derived.Test.YtnimkmkapajnhaaDoorRBW
import Derived.Laws.BitsLemmas
set_option linter.unusedVariables false
namespace Go.Proofs.YtnimkmkapajnhaaDoor.Pure
open Go.RowKit Go.Proofs.YtnimkmkapajnhaaDoorW.PrintWords Go.Proofs.YtnimkmkapajnhaaDoorW.PrintLast Go.Proofs.YtnimkmkapajnhaaDoorW.PrintMore
theorem w64 {x:Int} (h0 : -9223372036854775808≤x) (h1:x≤9223372036854775807):wrap64 x = x:=by unfold wrap64;omega
theorem wrap_u64 (n:Int):IntKind.u64.wrap n = n % 18446744073709551616:=by simp [IntKind.wrap,IntKind.bits,IntKind.signed]
theorem wu {x:Int} (h0:0≤x) (h1:x < 18446744073709551616):IntKind.u64.wrap x = x:=by rw [wrap_u64];omega
theorem Ev.succ {α:Type} {g:Nat→Option α} {r:α} (h:Ev (fun k=>g (k+1)) r):Ev g r:=Ev.step (fun _=>rfl) h
theorem evq {α:Type} {g:Nat→Option α} {r r' : α} (h:Ev g r) (e:r = r'):Ev g r':=e ▸ h
theorem Ev.of_some {α:Type} {o:Option α} {r:α} (h:o = some r):Ev (fun _=>o) r:=⟨0,fun _ _=>h⟩
theorem Ev.mapb {α β:Type} {g:Nat→Option α} {a:α} {f:α→Option β} {r:β} (h:Ev g a) (e:f a = some r):Ev (fun k=>(g k).bind f) r:=Ev.bind h (Ev.of_some e)
theorem rd_nat (xs:List Int) (n:Nat):rd xs (n:Int) = xs.getD n 0:=by unfold rd;rw [Int.toNat_natCast]
theorem rd_lt {xs:List Int} {n:Nat} (h:n < xs.length):rd xs (n:Int) = xs[n]:=by rw [rd_nat];simp [List.getD,h]
def Lm (xs:List Int):Prop:=∀ x∈xs,0≤x∧x < 4294967296
theorem Lm.nil:Lm []:=fun _ h=>by cases h
theorem Lm.cons {x:Int} {xs:List Int} (h0:0≤x) (h1:x < 4294967296) (h:Lm xs):Lm (x :: xs):=fun y hy=>by
  rcases List.mem_cons.1 hy with rfl | hy
  · exact ⟨h0,h1⟩
  · exact h y hy
theorem Lm.take {xs:List Int} (h:Lm xs) (n:Nat):Lm (xs.take n):=fun x hx=>h x (List.mem_of_mem_take hx)
theorem Lm.append {xs ys:List Int} (h:Lm xs) (h' : Lm ys):Lm (xs ++ ys):=fun x hx=>(List.mem_append.1 hx).elim (h x) (h' x)
theorem Lm.snoc {xs:List Int} {y:Int} (h:Lm xs) (h0:0≤y) (h1:y < 4294967296):Lm (xs ++ [y]):=h.append (Lm.cons h0 h1 Lm.nil)
theorem Lm.set {xs:List Int} {y:Int} (h:Lm xs) (n:Nat) (h0:0≤y) (h1:y < 4294967296):Lm (xs.set n y):=fun x hx=>by
  rcases List.mem_or_eq_of_mem_set hx with hx | rfl
  · exact h x hx
  · exact ⟨h0,h1⟩
def V:List Int→Nat
  | []=>0
  | x :: xs=>x.toNat+4294967296 * V xs
end Go.Proofs.YtnimkmkapajnhaaDoor.Pure
