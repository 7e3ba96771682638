import Derived.Test.YtnimkmkapajnhaaDoorRTQAx0
namespace Go.Proofs.YtnimkmkapajnhaaDoor.QA
open Go.RowKit Go.Proofs.YtnimkmkapajnhaaDoorW.PrintWords Go.Proofs.YtnimkmkapajnhaaDoorW.PrintLast Go.Proofs.YtnimkmkapajnhaaDoorW.PrintMore
attribute [local go_sem] yG yF yN yM yB yC yH yE
set_option linter.unusedVariables false
set_option linter.unusedSimpArgs false
def U11.l0:Nat→List Int→Int→Option (Bool)
 | 0,_,_=>none
 | k+1,x0,x3=>if x3 < (x0.length:Int) then (if 0≤x3 then (if (rd x0 x3) < 1 then (some false) else (if x3 > 0 then (if 0≤(wrap64 (x3 - 1)) then (if (wrap64 (x3 - 1)) < (x0.length:Int) then (if (rd x0 x3)≤(rd x0 (wrap64 (x3 - 1))) then (some false) else (U11.l0 k x0 (wrap64 (x3+1)))) else (none)) else (none)) else (U11.l0 k x0 (wrap64 (x3+1))))) else (none)) else (some true)
def U11.f (k:Nat) (l0:List Int):Option (Bool):=U11.l0 k l0 0
theorem zm1_0 {P:Prop} (h:P:=by repeat' first|(with_reducible first|exact ih0 ..|exact LeO.refl _|exact LeO.none _|refine LeO.ite ?_ ?_|refine LeO.bind ?_ (fun _=>?_))|exact ih0 ..|exact LeO.none _|refine LeO.ite ?_ ?_|refine LeO.bind ?_ (fun _=>?_)):P:=h
theorem U11.mono_l:∀ k,(∀ y0 y1,LeO (U11.l0 k y0 y1) (U11.l0 (k+1) y0 y1))
 | 0=>fun _ _ r h=>by simp [U11.l0] at h
 | k+1=>by
  have ih0:=U11.mono_l k
  ·intro y0 y1;unfold U11.l0
   exact zm1_0
theorem U11.mono:∀ a0 k,LeO (U11.f k a0) (U11.f (k+1) a0):=by
 intro a0 k;have ih0:=U11.mono_l k;unfold U11.f
 exact zm1_0
set_option maxHeartbeats 8000000 in
set_option maxRecDepth 100000 in
theorem U11.calls (k:Nat) (A0:Option Addr) (c0:Nat) (l0:List Int) (r:Bool) (w:World) (hr0:Kd.C (Kd.int .i64) w A0 l0.length l0) (hc0:l0.length≤c0) (h:U11.f k l0 = some r) :
  Calls Tryd.prog 31 #[.slice A0 l0.length c0] w fun e w'=>e = .returned (.bool r)∧yK w w':=by
 have HR0:=wA.mk hr0;have HC0:=wA.mk hc0;clear hr0 hc0;have H:(U11.l0 k l0 0) = some r:=h;clear h;have H':=wA.mk H;clear H;go_enter Tryd.func31,Tryd.ntmps31
 go_wp2
 repeat (go_quiet (fail);try go_wp2)
 go_loopg [3] k (fun kq v3 w'=>∃ (x3_1:Int),v3 = .int .i64 x3_1∧wA (U11.l0 kq l0 x3_1 = some r)∧wA (kq≤k)∧yK w w')
 case atStart=>exact ⟨(0),(zz2),H',⟨Nat.le_refl _⟩,zz3⟩
 case round =>
  clear H';obtain ⟨x3_1,rfl,HA,HK1,⟨m1,rfl⟩⟩:=hrel
  cases gk with
  | zero=>exact absurd HA.out (by simp [U11.l0])
  | succ k1 =>
   have H:=HA.out;clear HA;simp only [U11.l0] at H;replace H:=zzj H;rcases H with ⟨c2,H⟩|⟨c2,H⟩
   ·have c2b0:=qM c2;clear c2;replace H:=zzi H;obtain ⟨c3,H⟩:=H;have c3b0:=qM c3;clear c3;replace H:=zzj H;rcases H with ⟨c4,H⟩|⟨c4,H⟩
    ·have c4b0:=qM c4;clear c4;obtain rfl:=Option.some.inj H;have p109:0≤(x3_1:Int):=qL (zz4);have q109:x3_1 < (l0.length:Int):=qL (zz4);obtain ⟨ad109,e109,hx109_0⟩:=Kd.at_int HR0.out x3_1 p109 q109
     cases e109
     replace p109:=eq_true p109;replace q109:=eq_true q109
     go_wp2
     repeat (go_quiet (fail);try go_wp2)
     go_ret
     exact ⟨zz2,zz3⟩
    ·have c4b0:=qN c4;clear c4;replace H:=zzj H;rcases H with ⟨c5,H⟩|⟨c5,H⟩
     ·have c5b0:=qM c5;clear c5;obtain ⟨ji6,hji6⟩:∃ j_:Int,(wrap64 (x3_1 - 1)) = j_:=⟨_,rfl⟩;replace H:(if 0≤(ji6) then (if (ji6) < (l0.length:Int) then (if (rd l0 x3_1)≤(rd l0 (ji6)) then (some false) else (U11.l0 k1 l0 (wrap64 (x3_1+1)))) else (none)) else (none)) = some r:=(have h0_:=hji6;zz5);have hji6w:(IntKind.i64.wrap (x3_1 - 1)) = ji6:=(yT _).trans hji6;replace H:=zzi H;obtain ⟨c7,H⟩:=H;have c7b0:=qM c7;clear c7;replace H:=zzi H;obtain ⟨c8,H⟩:=H;have c8b0:=qM c8;clear c8;replace H:=zzj H;rcases H with ⟨c9,H⟩|⟨c9,H⟩
      ·have c9b0:=qM c9;clear c9;obtain rfl:=Option.some.inj H;have p109:0≤(x3_1:Int):=qL (zz4);have q109:x3_1 < (l0.length:Int):=qL (zz4);obtain ⟨ad109,e109,hx109_0⟩:=Kd.at_int HR0.out x3_1 p109 q109
       cases e109
       replace p109:=eq_true p109;replace q109:=eq_true q109;have p110:0≤(x3_1:Int):=qL (zz4);have q110:x3_1 < (l0.length:Int):=qL (zz4);obtain ⟨ad110,e110,hx110_0⟩:=Kd.at_int HR0.out x3_1 p110 q110;obtain rfl:ad109 = ad110:=(by injection e110);replace p110:=eq_true p110;replace q110:=eq_true q110;have p111:0≤((ji6):Int):=qL (zz4);have q111:(ji6) < (l0.length:Int):=qL (zz4);obtain ⟨ad111,e111,hx111_0⟩:=Kd.at_int HR0.out (ji6) p111 q111;obtain rfl:ad109 = ad111:=(by injection e111);replace p111:=eq_true p111;replace q111:=eq_true q111
       go_wp2
       repeat (go_quiet (fail);try go_wp2)
       go_ret
       exact ⟨(have h0_:=hji6;zz6),zz3⟩
      ·have c9b0:=qN c9;clear c9;have H':=wA.mk H;clear H;have p109:0≤(x3_1:Int):=qL (zz4);have q109:x3_1 < (l0.length:Int):=qL (zz4);obtain ⟨ad109,e109,hx109_0⟩:=Kd.at_int HR0.out x3_1 p109 q109
       cases e109
       replace p109:=eq_true p109;replace q109:=eq_true q109;have p110:0≤(x3_1:Int):=qL (zz4);have q110:x3_1 < (l0.length:Int):=qL (zz4);obtain ⟨ad110,e110,hx110_0⟩:=Kd.at_int HR0.out x3_1 p110 q110;obtain rfl:ad109 = ad110:=(by injection e110);replace p110:=eq_true p110;replace q110:=eq_true q110;have p111:0≤((ji6):Int):=qL (zz4);have q111:(ji6) < (l0.length:Int):=qL (zz4);obtain ⟨ad111,e111,hx111_0⟩:=Kd.at_int HR0.out (ji6) p111 q111;obtain rfl:ad109 = ad111:=(by injection e111);replace p111:=eq_true p111;replace q111:=eq_true q111
       go_wp2
       repeat (go_quiet (fail);try go_wp2)
       go_roundg k1
       case measure=>have:=HK1.out;omega
       case rel=>exact ⟨(wrap64 (x3_1+1)),(zz2),H',⟨zz7⟩,zz3⟩
     ·have c5b0:=qN c5;clear c5;have H':=wA.mk H;clear H;have p109:0≤(x3_1:Int):=qL (zz4);have q109:x3_1 < (l0.length:Int):=qL (zz4);obtain ⟨ad109,e109,hx109_0⟩:=Kd.at_int HR0.out x3_1 p109 q109
      cases e109
      replace p109:=eq_true p109;replace q109:=eq_true q109
      go_wp2
      repeat (go_quiet (fail);try go_wp2)
      go_roundg k1
      case measure=>have:=HK1.out;omega
      case rel=>exact ⟨(wrap64 (x3_1+1)),(zz2),H',⟨zz7⟩,zz3⟩
   ·have c2b0:=qN c2;clear c2;obtain rfl:=Option.some.inj H
    go_wp2
    repeat (go_quiet (fail);try go_wp2)
    go_ret
    exact ⟨zz2,zz3⟩
end Go.Proofs.YtnimkmkapajnhaaDoor.QA
