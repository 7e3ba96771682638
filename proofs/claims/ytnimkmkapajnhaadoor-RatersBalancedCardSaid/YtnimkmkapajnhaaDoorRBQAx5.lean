import Derived.Test.YtnimkmkapajnhaaDoorRBQAx0
import Derived.Test.YtnimkmkapajnhaaDoorRBQAx2
namespace Go.Proofs.YtnimkmkapajnhaaDoor.QA
open Go.RowKit Go.Proofs.YtnimkmkapajnhaaDoorW.PrintWords Go.Proofs.YtnimkmkapajnhaaDoorW.PrintLast Go.Proofs.YtnimkmkapajnhaaDoorW.PrintMore
attribute [local go_sem] yE yA yI yJ wY wX yC yD
set_option linter.unusedVariables false
set_option linter.unusedSimpArgs false
def U41.f (k:Nat) (l0:List (S26)) (l1:List Int):Option (Int):=(U37.f k l0).bind fun t123=>(if t123 = 0 then (if (l1.length:Int) > 200 then (some 5) else ((U45.f k l1).bind fun t124=>(if t124 = true then (some 0) else (some 23)))) else (some t123))
theorem zm4_0 {P:Prop} (h:P:=by repeat' first|(with_reducible first|exact U37.mono ..|exact U45.mono ..|exact LeO.refl _|exact LeO.none _|refine LeO.ite ?_ ?_|refine LeO.bind ?_ (fun _=>?_))|exact U37.mono ..|exact U45.mono ..|exact LeO.none _|refine LeO.ite ?_ ?_|refine LeO.bind ?_ (fun _=>?_)):P:=h
theorem U41.mono:∀ a0 a1 k,LeO (U41.f k a0 a1) (U41.f (k+1) a0 a1):=by
 intro a0 a1 k;unfold U41.f
 exact zm4_0
set_option maxHeartbeats 8000000 in
set_option maxRecDepth 100000 in
theorem U41.calls (k:Nat) (A0:Option Addr) (c0:Nat) (l0:List (S26)) (A1:Option Addr) (c1:Nat) (l1:List Int) (r:Int) (w:World) (hr0:Kd.C k26 w A0 l0.length l0) (hc0:l0.length≤c0) (hr1:Kd.C (Kd.int .i64) w A1 l1.length l1) (hc1:l1.length≤c1) (h:U41.f k l0 l1 = some r) :
  Calls Tryd.prog 32 #[.slice A0 l0.length c0,.slice A1 l1.length c1] w fun e w'=>e = .returned (.int .i64 r)∧Below w.heap.size w w':=by
 have HR0:=wA.mk hr0;have HC0:=wA.mk hc0;clear hr0 hc0;have HR1:=wA.mk hr1;have HC1:=wA.mk hc1;clear hr1 hc1;have HB:=wA.mk (Below.refl w.heap.size w);have H:((U37.f k l0).bind fun t123=>(if t123 = 0 then (if (l1.length:Int) > 200 then (some 5) else ((U45.f k l1).bind fun t124=>(if t124 = true then (some 0) else (some 23)))) else (some t123))) = some r:=h;clear h;replace H:=zzb H;obtain ⟨t123,A3,H⟩:=H;replace H:=zzj H;rcases H with ⟨c4,H⟩|⟨c4,H⟩
 ·have c4b0:=beq_iff_eq.mpr c4;have c4b1:=bne_eq_false_iff_eq.mpr c4;clear c4;replace H:=zzj H;rcases H with ⟨c5,H⟩|⟨c5,H⟩
  ·have c5b0:=qM c5;have c5b1:decide (200 < l1.length) = true:=qM (zz1);clear c5;obtain rfl:=Option.some.inj H;go_enter Tryd.func32,Tryd.ntmps32
   go_wp2_with (first|((with_reducible refine wI (f:=9) rfl ?_);refine wR (some 7) rfl rfl Tryd.func9 (zz0) rfl #[.slice A0 l0.length c0] rfl (zz20) ?_;(with_reducible refine (U37.calls k _ _ l0 t123 _ ?_ ?_ A3.out).mono ?_);exact zz158;exact HC0.out;rintro e w6 ⟨rfl,hb⟩;refine ⟨_,rfl,?_⟩;replace HB:=wA.mk (wC (zz3) hb);(try clear hb)))
   go_ret
   exact ⟨zz8,zz3⟩
  ·have c5b0:=qN c5;have c5b1:decide (200 < l1.length) = false:=qN (zz1);clear c5;replace H:=zzb H;obtain ⟨t124,A7,H⟩:=H;by_cases c8:t124 = true
   ·subst c8;have H1:(some 0) = some r:=zz18;clear H;have H:=H1;clear H1;obtain rfl:=Option.some.inj H;go_enter Tryd.func32,Tryd.ntmps32
    go_wp2_with (first|((with_reducible refine wI (f:=9) rfl ?_);refine wR (some 7) rfl rfl Tryd.func9 (zz0) rfl #[.slice A0 l0.length c0] rfl (zz20) ?_;(with_reducible refine (U37.calls k _ _ l0 t123 _ ?_ ?_ A3.out).mono ?_);exact zz158;exact HC0.out;rintro e w9 ⟨rfl,hb⟩;refine ⟨_,rfl,?_⟩;replace HB:=wA.mk (wC (zz3) hb);(try clear hb))|((with_reducible refine wI (f:=30) rfl ?_);refine wR (some 15) rfl rfl Tryd.func30 (zz0) rfl #[.slice A1 l1.length c1] rfl (zz20) ?_;(with_reducible refine (U45.calls k _ _ l1 true _ ?_ ?_ A7.out).mono ?_);exact zz159;exact HC1.out;rintro e w' ⟨rfl,⟨nd,rfl⟩⟩;refine ⟨_,rfl,?_⟩))
    go_ret
    exact ⟨zz8,zz3⟩
   ·replace c8:=Bool.eq_false_iff.mpr c8;subst c8;have H1:(some 23) = some r:=zz19;clear H;have H:=H1;clear H1;obtain rfl:=Option.some.inj H;go_enter Tryd.func32,Tryd.ntmps32
    go_wp2_with (first|((with_reducible refine wI (f:=9) rfl ?_);refine wR (some 7) rfl rfl Tryd.func9 (zz0) rfl #[.slice A0 l0.length c0] rfl (zz20) ?_;(with_reducible refine (U37.calls k _ _ l0 t123 _ ?_ ?_ A3.out).mono ?_);exact zz158;exact HC0.out;rintro e w10 ⟨rfl,hb⟩;refine ⟨_,rfl,?_⟩;replace HB:=wA.mk (wC (zz3) hb);(try clear hb))|((with_reducible refine wI (f:=30) rfl ?_);refine wR (some 15) rfl rfl Tryd.func30 (zz0) rfl #[.slice A1 l1.length c1] rfl (zz20) ?_;(with_reducible refine (U45.calls k _ _ l1 false _ ?_ ?_ A7.out).mono ?_);exact zz159;exact HC1.out;rintro e w' ⟨rfl,⟨nd,rfl⟩⟩;refine ⟨_,rfl,?_⟩))
    go_ret
    exact ⟨zz8,zz3⟩
 ·have c4b0:=beq_eq_false_iff_ne.mpr c4;have c4b1:=bne_iff_ne.mpr c4;obtain rfl:=Option.some.inj H;go_enter Tryd.func32,Tryd.ntmps32
  go_wp2_with (first|((with_reducible refine wI (f:=9) rfl ?_);refine wR (some 7) rfl rfl Tryd.func9 (zz0) rfl #[.slice A0 l0.length c0] rfl (zz20) ?_;(with_reducible refine (U37.calls k _ _ l0 t123 _ ?_ ?_ A3.out).mono ?_);exact zz158;exact HC0.out;rintro e w11 ⟨rfl,hb⟩;refine ⟨_,rfl,?_⟩;replace HB:=wA.mk (wC (zz3) hb);(try clear hb)))
  go_ret
  exact ⟨zz8,zz3⟩
def U57.l0:Nat→List Int→Int→Int→Int→Option (Int)
 | 0,_,_,_,_=>none
 | k+1,x0,x1,x7,x8=>if x8 < x7 then (if 0≤x8 then (if x8 < (x0.length:Int) then (if x1 = (rd x0 x8) then (some x8) else (U57.l0 k x0 x1 x7 (wrap64 (x8+1)))) else (none)) else (none)) else (some (-1))
def U57.f (k:Nat) (l0:List Int) (a1:Int):Option (Int):=U57.l0 k l0 a1 (l0.length:Int) 0
theorem zm4_1 {P:Prop} (h:P:=by repeat' first|(with_reducible first|exact ih0 ..|exact LeO.refl _|exact LeO.none _|refine LeO.ite ?_ ?_|refine LeO.bind ?_ (fun _=>?_))|exact ih0 ..|exact LeO.none _|refine LeO.ite ?_ ?_|refine LeO.bind ?_ (fun _=>?_)):P:=h
theorem U57.mono_l:∀ k,(∀ y0 y1 y2 y3,LeO (U57.l0 k y0 y1 y2 y3) (U57.l0 (k+1) y0 y1 y2 y3))
 | 0=>fun _ _ _ _ r h=>by simp [U57.l0] at h
 | k+1=>by
  have ih0:=U57.mono_l k
  ·intro y0 y1 y2 y3;unfold U57.l0
   exact zm4_1
theorem U57.mono:∀ a0 a1 k,LeO (U57.f k a0 a1) (U57.f (k+1) a0 a1):=by
 intro a0 a1 k;have ih0:=U57.mono_l k;unfold U57.f
 exact zm4_1
set_option maxHeartbeats 8000000 in
set_option maxRecDepth 100000 in
theorem U57.calls (k:Nat) (A0:Option Addr) (c0:Nat) (l0:List Int) (a1:Int) (r:Int) (w:World) (hr0:Kd.C (Kd.int .i64) w A0 l0.length l0) (hc0:l0.length≤c0) (h:U57.f k l0 a1 = some r) :
  Calls Tryd.prog 53 #[.slice A0 l0.length c0,.int .i64 a1] w fun e w'=>e = .returned (.int .i64 r)∧yM w w':=by
 have HR0:=wA.mk hr0;have HC0:=wA.mk hc0;clear hr0 hc0;have H:(U57.l0 k l0 a1 (l0.length:Int) 0) = some r:=h;clear h;have H':=wA.mk H;clear H;go_enter Tryd.func53,Tryd.ntmps53
 go_wp2
 go_loopg [8] k (fun kq v8 w'=>∃ (x8_1:Int),v8 = .int .i64 x8_1∧wA (U57.l0 kq l0 a1 (l0.length:Int) x8_1 = some r)∧wA (kq≤k)∧yM w w')
 case atStart=>exact ⟨(0),(zz2),H',⟨Nat.le_refl _⟩,zz9⟩
 case round =>
  clear H';obtain ⟨x8_1,rfl,HA,HK1,⟨m1,rfl⟩⟩:=hrel
  cases gk with
  | zero=>exact absurd HA.out (by simp [U57.l0])
  | succ k1 =>
   have H:=HA.out;clear HA;simp only [U57.l0] at H;replace H:=zzj H;rcases H with ⟨c3,H⟩|⟨c3,H⟩
   ·have c3b0:=qM c3;clear c3;replace H:=zzi H;obtain ⟨c4,H⟩:=H;have c4b0:=qM c4;clear c4;replace H:=zzi H;obtain ⟨c5,H⟩:=H;have c5b0:=qM c5;clear c5;replace H:=zzj H;rcases H with ⟨c6,H⟩|⟨c6,H⟩
    ·have c6b0:=beq_iff_eq.mpr c6;have c6b1:=bne_eq_false_iff_eq.mpr c6;clear c6;obtain rfl:=Option.some.inj H;have p125:0≤(x8_1:Int):=qL (zz4);have q125:x8_1 < (l0.length:Int):=qL (zz4);obtain ⟨ad125,e125,hx125_0⟩:=Kd.at_int HR0.out x8_1 p125 q125
     cases e125
     replace p125:=eq_true p125;replace q125:=eq_true q125
     go_wp2
     go_ret
     exact ⟨zz2,zz9⟩
    ·have c6b0:=beq_eq_false_iff_ne.mpr c6;have c6b1:=bne_iff_ne.mpr c6;have H':=wA.mk H;clear H;have p125:0≤(x8_1:Int):=qL (zz4);have q125:x8_1 < (l0.length:Int):=qL (zz4);obtain ⟨ad125,e125,hx125_0⟩:=Kd.at_int HR0.out x8_1 p125 q125
     cases e125
     replace p125:=eq_true p125;replace q125:=eq_true q125
     go_wp2
     go_roundg k1
     case measure=>have:=HK1.out;omega
     case rel=>exact ⟨(wrap64 (x8_1+1)),(zz2),H',⟨zz5⟩,zz9⟩
   ·have c3b0:=qN c3;clear c3;obtain rfl:=Option.some.inj H
    go_wp2
    go_ret
    exact ⟨zz2,zz9⟩
def U56.f (k:Nat) (l0:List Int) (a1:Int):Option (Bool):=(U57.f k l0 a1).bind fun t126=>(some (decide (t126≥0)))
theorem zm4_2 {P:Prop} (h:P:=by repeat' first|(with_reducible first|exact U57.mono ..|exact LeO.refl _|exact LeO.none _|refine LeO.ite ?_ ?_|refine LeO.bind ?_ (fun _=>?_))|exact U57.mono ..|exact LeO.none _|refine LeO.ite ?_ ?_|refine LeO.bind ?_ (fun _=>?_)):P:=h
theorem U56.mono:∀ a0 a1 k,LeO (U56.f k a0 a1) (U56.f (k+1) a0 a1):=by
 intro a0 a1 k;unfold U56.f
 exact zm4_2
set_option maxHeartbeats 8000000 in
set_option maxRecDepth 100000 in
theorem U56.calls (k:Nat) (A0:Option Addr) (c0:Nat) (l0:List Int) (a1:Int) (r:Bool) (w:World) (hr0:Kd.C (Kd.int .i64) w A0 l0.length l0) (hc0:l0.length≤c0) (h:U56.f k l0 a1 = some r) :
  Calls Tryd.prog 36 #[.slice A0 l0.length c0,.int .i64 a1] w fun e w'=>e = .returned (.bool r)∧yM w w':=by
 have HR0:=wA.mk hr0;have HC0:=wA.mk hc0;clear hr0 hc0;have H:((U57.f k l0 a1).bind fun t126=>(some (decide (t126≥0)))) = some r:=h;clear h;replace H:=zzb H;obtain ⟨t126,A3,H⟩:=H;obtain rfl:=Option.some.inj H;go_enter Tryd.func36,Tryd.ntmps36
 go_wp2_with (first|((with_reducible refine wI (f:=53) rfl ?_);refine wR (some 7) rfl rfl Tryd.func53 (zz0) rfl #[.slice A0 l0.length c0,.int .i64 a1] rfl (zz20) ?_;(with_reducible refine (U57.calls k _ _ l0 a1 t126 _ ?_ ?_ A3.out).mono ?_);exact zz158;exact HC0.out;rintro e w' ⟨rfl,⟨nd,rfl⟩⟩;refine ⟨_,rfl,?_⟩))
 go_ret
 exact ⟨zz2,zz9⟩
def U35.f (k:Nat) (a0_0:Int) (a0_1:Int) (l0_2:List Int) (a1:Int):Option (Bool):=(U56.f k l0_2 a1).bind fun t128=>(some (!t128))
theorem zm4_3 {P:Prop} (h:P:=by repeat' first|(with_reducible first|exact U56.mono ..|exact LeO.refl _|exact LeO.none _|refine LeO.ite ?_ ?_|refine LeO.bind ?_ (fun _=>?_))|exact U56.mono ..|exact LeO.none _|refine LeO.ite ?_ ?_|refine LeO.bind ?_ (fun _=>?_)):P:=h
theorem U35.mono:∀ a0 a1 a2 a3 k,LeO (U35.f k a0 a1 a2 a3) (U35.f (k+1) a0 a1 a2 a3):=by
 intro a0 a1 a2 a3 k;unfold U35.f
 exact zm4_3
set_option maxHeartbeats 8000000 in
set_option maxRecDepth 100000 in
theorem U35.calls (k:Nat) (a0_0:Int) (a0_1:Int) (A0_2:Option Addr) (c0_2:Nat) (l0_2:List Int) (a1:Int) (r:Bool) (w:World) (hr0_2:Kd.C (Kd.int .i64) w A0_2 l0_2.length l0_2) (hc0_2:l0_2.length≤c0_2) (h:U35.f k a0_0 a0_1 l0_2 a1 = some r) :
  Calls Tryd.prog 13 #[.agg #[.int .i64 a0_0,.int .i64 a0_1,.slice A0_2 l0_2.length c0_2],.int .i64 a1] w fun e w'=>e = .returned (.bool r)∧Below w.heap.size w w':=by
 have hu26:=Tryd.underlying26;have HR0_2:=wA.mk hr0_2;have HC0_2:=wA.mk hc0_2;clear hr0_2 hc0_2;have HB:=wA.mk (Below.refl w.heap.size w);have H:((U56.f k l0_2 a1).bind fun t128=>(some (!t128))) = some r:=h;clear h;replace H:=zzb H;obtain ⟨t128,A3,H⟩:=H;obtain rfl:=Option.some.inj H;go_enter Tryd.func13,Tryd.ntmps13
 go_wp2_with (first|((with_reducible refine wL (N:=2) rfl ?_);refine wM ?hg (N:=2) ?hd (cs:=#[.int .i64 a0_0,.int .i64 a0_1,.slice A0_2 l0_2.length c0_2]) (t:=26) ?hr ?_;(case hd=>rfl);(case hg=>rfl);(case hr=>exact zz156);intro gb127 hg w4 hbox hb;have BK127:=wA.mk (hbox);have GW127:=wA.mk ((by rw [hg];exact (wB (zz3)):w.heap.size≤gb127));have GE127:=wA.mk ((by rw [hg];exact (wB (zz3)):w.heap.size≤gb127));replace HB:=wA.mk (wC (zz3) hb);clear hb hbox hg;obtain ⟨hcz5_0,hcz5_1,hcz5_2,hfz5_0,hfz5_1,hfz5_2⟩:=zc3 BK127.out)|((with_reducible refine wI (f:=36) rfl ?_);refine wR (some 8) rfl rfl Tryd.func36 (zz0) rfl #[.slice A0_2 l0_2.length c0_2,.int .i64 a1] rfl (zz20) ?_;(with_reducible refine (U56.calls k _ _ l0_2 a1 t128 _ ?_ ?_ A3.out).mono ?_);(exact (have h0_:=HR0_2;zz157));exact HC0_2.out;rintro e w' ⟨rfl,⟨nd,rfl⟩⟩;refine ⟨_,rfl,?_⟩))
 go_ret
 exact ⟨zz8,(have h0_:=GE127;zz6)⟩
end Go.Proofs.YtnimkmkapajnhaaDoor.QA
