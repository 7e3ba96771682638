import Derived.Test.YtnimkmkapajnhaaDoorRTQAx0
namespace Go.Proofs.YtnimkmkapajnhaaDoor.QA
open Go.RowKit Go.Proofs.YtnimkmkapajnhaaDoorW.PrintWords Go.Proofs.YtnimkmkapajnhaaDoorW.PrintLast Go.Proofs.YtnimkmkapajnhaaDoorW.PrintMore
attribute [local go_sem] yG yF yN yM yB yC yH yE
set_option linter.unusedVariables false
set_option linter.unusedSimpArgs false
def U10.l0:Nat→List (S44)→Int→Int→Int→Option (Bool)
 | 0,_,_,_,_=>none
 | k+1,x0,x1,x2,x7=>if x7 < (x0.length:Int) then (if 0≤x7 then (if ((rd_T44 x0 x7).f0) = x1 then (if ((rd_T44 x0 x7).f1) = x2 then (some true) else (U10.l0 k x0 x1 x2 (wrap64 (x7+1)))) else (U10.l0 k x0 x1 x2 (wrap64 (x7+1)))) else (none)) else (some false)
def U10.f (k:Nat) (l0:List (S44)) (a1:Int) (a2:Int):Option (Bool):=U10.l0 k l0 a1 a2 0
theorem zm24_0 {P:Prop} (h:P:=by repeat' first|(with_reducible first|exact ih0 ..|exact LeO.refl _|exact LeO.none _|refine LeO.ite ?_ ?_|refine LeO.bind ?_ (fun _=>?_))|exact ih0 ..|exact LeO.none _|refine LeO.ite ?_ ?_|refine LeO.bind ?_ (fun _=>?_)):P:=h
theorem U10.mono_l:∀ k,(∀ y0 y1 y2 y3,LeO (U10.l0 k y0 y1 y2 y3) (U10.l0 (k+1) y0 y1 y2 y3))
 | 0=>fun _ _ _ _ r h=>by simp [U10.l0] at h
 | k+1=>by
  have ih0:=U10.mono_l k
  ·intro y0 y1 y2 y3;unfold U10.l0
   exact zm24_0
theorem U10.mono:∀ a0 a1 a2 k,LeO (U10.f k a0 a1 a2) (U10.f (k+1) a0 a1 a2):=by
 intro a0 a1 a2 k;have ih0:=U10.mono_l k;unfold U10.f
 exact zm24_0
set_option maxHeartbeats 8000000 in
set_option maxRecDepth 100000 in
theorem U10.calls (k:Nat) (A0:Option Addr) (c0:Nat) (l0:List (S44)) (a1:Int) (a2:Int) (r:Bool) (w:World) (hr0:Kd.C k44 w A0 l0.length l0) (hc0:l0.length≤c0) (h:U10.f k l0 a1 a2 = some r) :
  Calls Tryd.prog 42 #[.slice A0 l0.length c0,.int .i64 a1,.int .i64 a2] w fun e w'=>e = .returned (.bool r)∧yK w w':=by
 have HR0:=wA.mk hr0;have HC0:=wA.mk hc0;clear hr0 hc0;have H:(U10.l0 k l0 a1 a2 0) = some r:=h;clear h;have H':=wA.mk H;clear H;go_enter Tryd.func42,Tryd.ntmps42
 go_wp2
 go_loopg [7] k (fun kq v7 w'=>∃ (x7_1:Int),v7 = .int .i64 x7_1∧wA (U10.l0 kq l0 a1 a2 x7_1 = some r)∧wA (kq≤k)∧yK w w')
 case atStart=>exact ⟨(0),(zz2),H',⟨Nat.le_refl _⟩,zz3⟩
 case round =>
  clear H';obtain ⟨x7_1,rfl,HA,HK1,⟨m1,rfl⟩⟩:=hrel
  cases gk with
  | zero=>exact absurd HA.out (by simp [U10.l0])
  | succ k1 =>
   have H:=HA.out;clear HA;simp only [U10.l0] at H;replace H:=zzj H;rcases H with ⟨c4,H⟩|⟨c4,H⟩
   ·have c4b0:=qM c4;clear c4;replace H:=zzi H;obtain ⟨c5,H⟩:=H;have c5b0:=qM c5;clear c5;replace H:=zzj H;rcases H with ⟨c6,H⟩|⟨c6,H⟩
    ·have c6b0:=beq_iff_eq.mpr c6;have c6b1:=bne_eq_false_iff_eq.mpr c6;clear c6;replace H:=zzj H;rcases H with ⟨c7,H⟩|⟨c7,H⟩
     ·have c7b0:=beq_iff_eq.mpr c7;have c7b1:=bne_eq_false_iff_eq.mpr c7;clear c7;obtain rfl:=Option.some.inj H;have p932:0≤(x7_1:Int):=qL (zz4);have q932:x7_1 < (l0.length:Int):=qL (zz4);obtain ⟨ad932,e932,hx932_0,hx932_1⟩:=at_T44 HR0.out x7_1 p932 q932
      cases e932
      replace p932:=eq_true p932;replace q932:=eq_true q932;have p933:0≤(x7_1:Int):=qL (zz4);have q933:x7_1 < (l0.length:Int):=qL (zz4);obtain ⟨ad933,e933,hx933_0,hx933_1⟩:=at_T44 HR0.out x7_1 p933 q933;obtain rfl:ad932 = ad933:=(by injection e933);replace p933:=eq_true p933;replace q933:=eq_true q933
      go_wp2
      go_ret
      exact ⟨zz2,zz3⟩
     ·have c7b0:=beq_eq_false_iff_ne.mpr c7;have c7b1:=bne_iff_ne.mpr c7;have H':=wA.mk H;clear H;have p932:0≤(x7_1:Int):=qL (zz4);have q932:x7_1 < (l0.length:Int):=qL (zz4);obtain ⟨ad932,e932,hx932_0,hx932_1⟩:=at_T44 HR0.out x7_1 p932 q932
      cases e932
      replace p932:=eq_true p932;replace q932:=eq_true q932;have p933:0≤(x7_1:Int):=qL (zz4);have q933:x7_1 < (l0.length:Int):=qL (zz4);obtain ⟨ad933,e933,hx933_0,hx933_1⟩:=at_T44 HR0.out x7_1 p933 q933;obtain rfl:ad932 = ad933:=(by injection e933);replace p933:=eq_true p933;replace q933:=eq_true q933
      go_wp2
      go_roundg k1
      case measure=>have:=HK1.out;omega
      case rel=>exact ⟨(wrap64 (x7_1+1)),(zz2),H',⟨zz7⟩,zz3⟩
    ·have c6b0:=beq_eq_false_iff_ne.mpr c6;have c6b1:=bne_iff_ne.mpr c6;have H':=wA.mk H;clear H;have p932:0≤(x7_1:Int):=qL (zz4);have q932:x7_1 < (l0.length:Int):=qL (zz4);obtain ⟨ad932,e932,hx932_0,hx932_1⟩:=at_T44 HR0.out x7_1 p932 q932
     cases e932
     replace p932:=eq_true p932;replace q932:=eq_true q932
     go_wp2
     go_roundg k1
     case measure=>have:=HK1.out;omega
     case rel=>exact ⟨(wrap64 (x7_1+1)),(zz2),H',⟨zz7⟩,zz3⟩
   ·have c4b0:=qN c4;clear c4;obtain rfl:=Option.some.inj H
    go_wp2
    go_ret
    exact ⟨zz2,zz3⟩
end Go.Proofs.YtnimkmkapajnhaaDoor.QA
