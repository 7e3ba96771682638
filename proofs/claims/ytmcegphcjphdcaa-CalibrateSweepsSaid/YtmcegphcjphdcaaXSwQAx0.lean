import Derived.Test.YtmcegphcjphdcaaProg
import Derived.Below
import Derived.Deep.Draws
import Derived.Deep.AppendLies
import Derived.Maps.AppendAt
import Derived.OwnWalk
import Derived.Laws.BytesArg
import Derived.Laws.MakeOwn
import Derived.Laws.OwnMore
import Derived.Deep.OwnRows
import Derived.Tactics
import Derived.Lib.ConvBytes
import Derived.Laws.Slices
import Derived.WalkKit
import Derived.KernelRfl
import Derived.RowKit3
import Derived.Deep.LoopGhost
import Derived.Deep.QuietTactic
import Derived.BigQuiet
import Derived.WideLaws
import Derived.Deep.DeepCutAuto
import Derived.Deep.CutBlock
import Derived.Deep.RegionHeld3
import Derived.Laws.Rows
import Derived.Lib.AppendStr
import Derived.ArgAppend
import Derived.Laws.IdiomCopy
import Derived.OrdersHeld
import Derived.Laws.BitsLemmas
import Derived.RowKit
import Derived.Test.YtmcegphcjphdcaaXSwShelf
import Derived.Test.YtmcegphcjphdcaaXSwW
import Derived.Test.YtmcegphcjphdcaaXSwTri
namespace Go.Proofs.Ytmcegphcjphdcaa.QA
open Go.RowKit Go.Proofs.YtmcegphcjphdcaaW.PrintWords Go.Proofs.YtmcegphcjphdcaaW.PrintLast Go.Proofs.YtmcegphcjphdcaaW.PrintMore
attribute [local go_sem] max2_int min2_int max_two min_two max_three min_three max_four min_four
set_option linter.unusedVariables false
set_option linter.unusedSimpArgs false
def errW:Option Int→Value
 | none=>.nilIface
 | some c=>.iface 0 (.int .i64 c)
theorem errW_none:errW none = .nilIface:=rfl
theorem errW_some (c:Int):errW (some c) = .iface 0 (.int .i64 c):=rfl
theorem info3:(Try.prog.info? 3).map (fun i=>(i.zero,i.size,i.bytes)) = some (some (.int .i64 0),1,8):=zz0
theorem info32:(Try.prog.info? 32).map (fun i=>(i.zero,i.size,i.bytes)) = some (some (.slice none 0 0),1,24):=zz0
theorem info56:(Try.prog.info? 56).map (fun i=>(i.zero,i.size,i.bytes)) = some (some (.agg #[(.slice none 0 0)]),1,24):=zz0
theorem info65:(Try.prog.info? 65).map (fun i=>(i.zero,i.size,i.bytes)) = some (some (.int .u32 0),1,4):=zz0
def rd_L1 (xs:List (List Int)) (i:Int):(List Int):=xs.getD i.toNat ([]:List Int)
theorem at_L1 {w:World} {A:Option Addr} {n:Nat} {xs:List (List Int)} (h:Kd.C (Kd.slice 3 (Kd.int .i64)) w A n xs) (i:Int) (h0:0≤i) (h1:i < n):∃ ad A0 c0,A = some ad∧w.cell? (ad.add i.toNat) = some (.slice A0 (rd_L1 xs i).length c0)∧(rd_L1 xs i).length≤c0∧(Kd.int .i64).C w A0 (rd_L1 xs i).length (rd_L1 xs i):=by
 obtain ⟨ad,c,e,_,hK,hc0⟩:=Kd.C_get h ([]:List Int) i h0 h1;have hc:∀ j u,c[j]? = some u→w.cell? (ad.add (i.toNat * 1+j)) = some u:=hc0;obtain ⟨A0,c0,rfl,l0,g0⟩:=hK
 exact ⟨ad,A0,c0,e,zz1,l0,g0⟩
def rd_L2 (xs:List (List (List Int))) (i:Int):(List (List Int)):=xs.getD i.toNat ([]:List (List Int))
structure S56 where
 f0:(List (List Int))
def z56:S56:=⟨([]:List (List Int))⟩
def k56:Kd S56:=Kd.iso (Kd.slice 22 (Kd.slice 3 (Kd.int .i64))) (fun x:S56=>x.f0)
theorem k56_heap:Kd.Heap k56:=Kd.heap_iso _ (Kd.heap_slice 22 (Kd.heap_slice 3 (Kd.heap_int .i64)))
theorem k56_open {w:World} {x:S56} {cs:List Value} (h:k56.K w x cs):∃ A0 c0,cs = [.slice A0 x.f0.length c0]∧x.f0.length≤c0∧(Kd.slice 3 (Kd.int .i64)).C w A0 x.f0.length x.f0:=by
 obtain ⟨A0,c0,rfl,l0,g0⟩:=h
 exact ⟨A0,c0,rfl,l0,g0⟩
theorem k56_mk (w:World) (x:S56) {A0:Option Addr} {c0:Nat} (l0:x.f0.length≤c0) (g0:(Kd.slice 3 (Kd.int .i64)).C w A0 x.f0.length x.f0):k56.K w x [.slice A0 x.f0.length c0]:=⟨A0,c0,rfl,l0,g0⟩
theorem k56_openF {W:World} {ok:Nat→Prop} {x:S56} {cs:List Value} (h:Kd.FK k56 W ok x cs):∃ A0 c0,cs = [.slice A0 x.f0.length c0]∧x.f0.length≤c0∧Kd.F (Kd.slice 3 (Kd.int .i64)) W ok A0 x.f0.length x.f0:=by
 obtain ⟨A0,c0,rfl,l0,_⟩:=k56_open (Kd.FK_now h)
 exact ⟨A0,c0,rfl,l0,(fun W' hW=>by obtain ⟨A0_,c0_,he,l0_,g0_⟩:=k56_open (h W' hW);injection (Option.some.inj (show some (Value.slice A0 x.f0.length c0) = some (Value.slice A0_ x.f0.length c0_) from congrArg (fun l=>l[0]?) he)) with ha_ _ _;rw [ha_];exact g0_)⟩
theorem k56_mkF (W:World) (ok:Nat→Prop) (x:S56) {A0:Option Addr} {c0:Nat} (l0:x.f0.length≤c0) (g0:Kd.F (Kd.slice 3 (Kd.int .i64)) W ok A0 x.f0.length x.f0):Kd.FK k56 W ok x [.slice A0 x.f0.length c0]:=fun W2 hW=>k56_mk W2 x l0 (g0 W2 hW)
def rd_T56 (xs:List S56) (i:Int):S56:=xs.getD i.toNat z56
theorem at_T56 {w:World} {A:Option Addr} {n:Nat} {xs:List S56} (h:Kd.C k56 w A n xs) (i:Int) (h0:0≤i) (h1:i < n):∃ ad A0 c0,A = some ad∧w.cell? (ad.add i.toNat) = some (.slice A0 (rd_T56 xs i).f0.length c0)∧(rd_T56 xs i).f0.length≤c0∧(Kd.slice 3 (Kd.int .i64)).C w A0 (rd_T56 xs i).f0.length (rd_T56 xs i).f0:=by
 obtain ⟨ad,c,e,_,hK,hc0⟩:=Kd.C_get h z56 i h0 h1;have hc:∀ j u,c[j]? = some u→w.cell? (ad.add (i.toNat * 1+j)) = some u:=hc0;obtain ⟨A0,c0,rfl,l0,g0⟩:=k56_open hK
 exact ⟨ad,A0,c0,e,zz1,l0,g0⟩
def rd_L5 (xs:List (List Int)) (i:Int):(List Int):=xs.getD i.toNat ([]:List Int)
theorem at_L5 {w:World} {A:Option Addr} {n:Nat} {xs:List (List Int)} (h:Kd.C (Kd.slice 65 (Kd.int .u32)) w A n xs) (i:Int) (h0:0≤i) (h1:i < n):∃ ad A0 c0,A = some ad∧w.cell? (ad.add i.toNat) = some (.slice A0 (rd_L5 xs i).length c0)∧(rd_L5 xs i).length≤c0∧(Kd.int .u32).C w A0 (rd_L5 xs i).length (rd_L5 xs i):=by
 obtain ⟨ad,c,e,_,hK,hc0⟩:=Kd.C_get h ([]:List Int) i h0 h1;have hc:∀ j u,c[j]? = some u→w.cell? (ad.add (i.toNat * 1+j)) = some u:=hc0;obtain ⟨A0,c0,rfl,l0,g0⟩:=hK
 exact ⟨ad,A0,c0,e,zz1,l0,g0⟩
def rd_L6 (xs:List (List S56)) (i:Int):(List S56):=xs.getD i.toNat ([]:List S56)
theorem at_L6 {w:World} {A:Option Addr} {n:Nat} {xs:List (List S56)} (h:Kd.C (Kd.slice 56 k56) w A n xs) (i:Int) (h0:0≤i) (h1:i < n):∃ ad A0 c0,A = some ad∧w.cell? (ad.add i.toNat) = some (.slice A0 (rd_L6 xs i).length c0)∧(rd_L6 xs i).length≤c0∧k56.C w A0 (rd_L6 xs i).length (rd_L6 xs i):=by
 obtain ⟨ad,c,e,_,hK,hc0⟩:=Kd.C_get h ([]:List S56) i h0 h1;have hc:∀ j u,c[j]? = some u→w.cell? (ad.add (i.toNat * 1+j)) = some u:=hc0;obtain ⟨A0,c0,rfl,l0,g0⟩:=hK
 exact ⟨ad,A0,c0,e,zz1,l0,g0⟩
end Go.Proofs.Ytmcegphcjphdcaa.QA
