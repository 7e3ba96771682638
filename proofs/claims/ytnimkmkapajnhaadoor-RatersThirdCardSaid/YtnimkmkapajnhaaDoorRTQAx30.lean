import Derived.Test.YtnimkmkapajnhaaDoorRTQAx0
import Derived.Test.YtnimkmkapajnhaaDoorRTQAx4
import Derived.Test.YtnimkmkapajnhaaDoorRTQAx7
import Derived.Test.YtnimkmkapajnhaaDoorRTQAx12
import Derived.Test.YtnimkmkapajnhaaDoorRTQAx13
import Derived.Test.YtnimkmkapajnhaaDoorRTQAx24
import Derived.Test.YtnimkmkapajnhaaDoorRTQAx29
namespace Go.Proofs.YtnimkmkapajnhaaDoor.QA
open Go.RowKit Go.Proofs.YtnimkmkapajnhaaDoorW.PrintWords Go.Proofs.YtnimkmkapajnhaaDoorW.PrintLast Go.Proofs.YtnimkmkapajnhaaDoorW.PrintMore
attribute [local go_sem] yG yF yN yM yB yC yH yE
set_option linter.unusedVariables false
set_option linter.unusedSimpArgs false
def U4.f (k:Nat) (l0:List (S26)) (l1:List (S44)) (a2:Int):Option (Bool):=(U37.f k l0 l1 a2).bind fun bt945=>((U8.f k l0 l1 a2).bind fun bt947=>(if bt945.2 = bt947.2 then (if bt945.1 = bt947.1 then ((U5.f k).bind fun t949=>(some t949)) else (none)) else (none)))
theorem zm26_0 {P:Prop} (h:P:=by repeat' first|(with_reducible first|exact U5.mono ..|exact U8.mono ..|exact U37.mono ..|exact LeO.refl _|exact LeO.none _|refine LeO.ite ?_ ?_|refine LeO.bind ?_ (fun _=>?_))|exact U5.mono ..|exact U8.mono ..|exact U37.mono ..|exact LeO.none _|refine LeO.ite ?_ ?_|refine LeO.bind ?_ (fun _=>?_)):P:=h
theorem U4.mono:∀ a0 a1 a2 k,LeO (U4.f k a0 a1 a2) (U4.f (k+1) a0 a1 a2):=by
 intro a0 a1 a2 k;unfold U4.f
 exact zm26_0
set_option maxHeartbeats 8000000 in
set_option maxRecDepth 100000 in
theorem U4.calls (k:Nat) (A0:Option Addr) (c0:Nat) (l0:List (S26)) (A1:Option Addr) (c1:Nat) (l1:List (S44)) (a2:Int) (r:Bool) (w:World) (hr0:Kd.C k26 w A0 l0.length l0) (hc0:l0.length≤c0) (hr1:Kd.C k44 w A1 l1.length l1) (hc1:l1.length≤c1) (h:U4.f k l0 l1 a2 = some r) :
  Calls Tryd.prog 5 #[.slice A0 l0.length c0,.slice A1 l1.length c1,.int .i64 a2] w fun e w'=>e = .returned (.bool r)∧Below w.heap.size w w':=by
 have HR0:=wA.mk hr0;have HC0:=wA.mk hc0;clear hr0 hc0;have HR1:=wA.mk hr1;have HC1:=wA.mk hc1;clear hr1 hc1;have HB:=wA.mk (Below.refl w.heap.size w);have H:((U37.f k l0 l1 a2).bind fun bt945=>((U8.f k l0 l1 a2).bind fun bt947=>(if bt945.2 = bt947.2 then (if bt945.1 = bt947.1 then ((U5.f k).bind fun t949=>(some t949)) else (none)) else (none)))) = some r:=h;clear h;replace H:=Option.bind_eq_some_iff.mp H;obtain ⟨⟨t945,t946⟩,A40,H⟩:=H;have A4:=wA.mk A40;clear A40;replace H:=Option.bind_eq_some_iff.mp H;obtain ⟨⟨t947,t948⟩,A50,H⟩:=H;have A5:=wA.mk A50;clear A50;replace H:=zzi H;obtain ⟨c6,H⟩:=H;have c6b0:=beq_iff_eq.mpr c6;have c6b1:=bne_eq_false_iff_eq.mpr c6;clear c6;replace H:=zzi H;obtain ⟨c7,H⟩:=H;have c7b0:=beq_iff_eq.mpr c7;have c7b1:=bne_eq_false_iff_eq.mpr c7;clear c7;replace H:=zzb H;obtain ⟨t949,A8,H⟩:=H;obtain rfl:=Option.some.inj H;go_enter Tryd.func5,Tryd.ntmps5
 go_wp2_with (first|((with_reducible refine wJ (f:=21) rfl ?_);refine wS (some 15) rfl rfl Tryd.func21 (zz0) rfl #[.slice A0 l0.length c0,.slice A1 l1.length c1,.int .i64 a2] rfl (zz21) ?_;(with_reducible refine (U37.calls k _ _ l0 _ _ l1 a2 t945 t946 _ ?_ ?_ ?_ ?_ A4.out).mono ?_);exact zz163;exact HC0.out;(exact (have h0_:=HR1;zz160));exact HC1.out;rintro e w9 ⟨rfl,hb⟩;refine ⟨_,rfl,?_⟩;replace HB:=wA.mk (wC (zz12) hb);(try clear hb))|((with_reducible refine wJ (f:=22) rfl ?_);refine wS (some 22) rfl rfl Tryd.func22 (zz0) rfl #[.slice A0 l0.length c0,.slice A1 l1.length c1,.int .i64 a2] rfl (zz21) ?_;(with_reducible refine (U8.calls k _ _ l0 _ _ l1 a2 t947 t948 _ ?_ ?_ ?_ ?_ A5.out).mono ?_);exact zz165;exact HC0.out;exact zz164;exact HC1.out;rintro e w10 ⟨rfl,hb⟩;refine ⟨_,rfl,?_⟩;replace HB:=wA.mk (wC (zz12) hb);(try clear hb))|(go_at_call 17;(with_reducible refine (U5.calls k  t949 _ A8.out).mono ?_);rintro e w11 ⟨rfl,hb⟩;replace HB:=wA.mk (wC (zz12) hb);(try clear hb)))
 go_ret
 exact ⟨zz14,zz12⟩
end Go.Proofs.YtnimkmkapajnhaaDoor.QA
