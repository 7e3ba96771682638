import Derived.Test.YtnimkmkapajnhaaDoorRTQAx0
import Derived.Test.YtnimkmkapajnhaaDoorRTQAx3
namespace Go.Proofs.YtnimkmkapajnhaaDoor.QA
open Go.RowKit Go.Proofs.YtnimkmkapajnhaaDoorW.PrintWords Go.Proofs.YtnimkmkapajnhaaDoorW.PrintLast Go.Proofs.YtnimkmkapajnhaaDoorW.PrintMore
attribute [local go_sem] yG yF yN yM yB yC yH yE
set_option linter.unusedVariables false
set_option linter.unusedSimpArgs false
mutual
def U9.l0:Nat→List (S26)→Int→Option (Int)
 | 0,_,_=>none
 | k+1,x0,x3=>if x3 < (x0.length:Int) then (if 0≤x3 then (if ((rd_T26 x0 x3).f0) < 1 then (some 23) else (if ((rd_T26 x0 x3).f0) > 9999999 then (some 23) else (if x3 > 0 then (if 0≤(wrap64 (x3 - 1)) then (if (wrap64 (x3 - 1)) < (x0.length:Int) then (if ((rd_T26 x0 x3).f0)≤((rd_T26 x0 (wrap64 (x3 - 1))).f0) then (some 23) else (U9.l0 k x0 (wrap64 (x3+1)))) else (none)) else (none)) else (U9.l0 k x0 (wrap64 (x3+1)))))) else (none)) else (U9.l1 k x0 0)
def U9.l1:Nat→List (S26)→Int→Option (Int)
 | 0,_,_=>none
 | k+1,x0,x4=>if x4 < (x0.length:Int) then (if 0≤x4 then (if ((rd_T26 x0 x4).f1) < 0 then (U9.j2 k x0 x4 true) else (U9.j2 k x0 x4 (decide (((rd_T26 x0 x4).f1) > 200)))) else (none)) else (some 0)
def U9.j2:Nat→List (S26)→Int→Bool→Option (Int)
 | 0,_,_,_=>none
 | k+1,x0,x4,x65=>if x65 = true then (some 3) else (if 0≤x4 then (if x4 < (x0.length:Int) then (if (((rd_T26 x0 x4).f2).length:Int) > 200 then (some 5) else ((U11.f k ((rd_T26 x0 x4).f2)).bind fun t120=>(if t120 = true then (U9.l1 k x0 (wrap64 (x4+1))) else (some 23)))) else (none)) else (none))
end
def U9.f (k:Nat) (l0:List (S26)):Option (Int):=if (l0.length:Int) > 20 then (some 5) else (U9.l0 k l0 0)
theorem zm2_0 {P:Prop} (h:P:=by repeat' first|(with_reducible first|exact ih0 ..|exact ih1 ..|exact ih2 ..|exact U11.mono ..|exact LeO.refl _|exact LeO.none _|refine LeO.ite ?_ ?_|refine LeO.bind ?_ (fun _=>?_))|exact ih0 ..|exact ih1 ..|exact ih2 ..|exact U11.mono ..|exact LeO.none _|refine LeO.ite ?_ ?_|refine LeO.bind ?_ (fun _=>?_)):P:=h
theorem U9.mono_l:∀ k,(∀ y0 y1,LeO (U9.l0 k y0 y1) (U9.l0 (k+1) y0 y1))∧(∀ y0 y1,LeO (U9.l1 k y0 y1) (U9.l1 (k+1) y0 y1))∧(∀ y0 y1 y2,LeO (U9.j2 k y0 y1 y2) (U9.j2 (k+1) y0 y1 y2))
 | 0=>⟨fun _ _ r h=>by simp [U9.l0] at h,fun _ _ r h=>by simp [U9.l1] at h,fun _ _ _ r h=>by simp [U9.j2] at h⟩
 | k+1=>by
  obtain ⟨ih0,ih1,ih2⟩:=U9.mono_l k;refine ⟨?_,?_,?_⟩
  ·intro y0 y1;unfold U9.l0
   exact zm2_0
  ·intro y0 y1;unfold U9.l1
   exact zm2_0
  ·intro y0 y1 y2;unfold U9.j2
   exact zm2_0
theorem U9.mono:∀ a0 k,LeO (U9.f k a0) (U9.f (k+1) a0):=by
 intro a0 k;obtain ⟨ih0,ih1,ih2⟩:=U9.mono_l k;unfold U9.f
 exact zm2_0
set_option maxHeartbeats 8000000 in
set_option maxRecDepth 100000 in
theorem U9.calls (k:Nat) (A0:Option Addr) (c0:Nat) (l0:List (S26)) (r:Int) (w:World) (hr0:Kd.C k26 w A0 l0.length l0) (hc0:l0.length≤c0) (h:U9.f k l0 = some r) :
  Calls Tryd.prog 10 #[.slice A0 l0.length c0] w fun e w'=>e = .returned (.int .i64 r)∧yK w w':=by
 have HR0:=wA.mk hr0;have HC0:=wA.mk hc0;clear hr0 hc0;have H:(if (l0.length:Int) > 20 then (some 5) else (U9.l0 k l0 0)) = some r:=h;clear h;replace H:=zzj H;rcases H with ⟨c2,H⟩|⟨c2,H⟩
 ·have c2b0:=qM c2;have c2b1:decide (20 < l0.length) = true:=qM (zz1);clear c2;obtain rfl:=Option.some.inj H;go_enter Tryd.func10,Tryd.ntmps10
  go_wp2
  go_ret
  exact ⟨zz2,zz3⟩
 ·have c2b0:=qN c2;have c2b1:decide (20 < l0.length) = false:=qN (zz1);clear c2;have H':=wA.mk H;clear H;go_enter Tryd.func10,Tryd.ntmps10
  go_wp2
  go_loopg [3] k (fun kq v3 w'=>∃ (x3_1:Int),v3 = .int .i64 x3_1∧wA (U9.l0 kq l0 x3_1 = some r)∧wA (kq≤k)∧yK w w')
  case atStart=>exact ⟨(0),(zz2),H',⟨Nat.le_refl _⟩,zz3⟩
  case round =>
   clear H';clear c2b0 c2b1;obtain ⟨x3_1,rfl,HA,HK1,⟨m1,rfl⟩⟩:=hrel
   cases gk with
   | zero=>exact absurd HA.out (by simp [U9.l0])
   | succ k1 =>
    have H:=HA.out;clear HA;simp only [U9.l0] at H;replace H:=zzj H;rcases H with ⟨c3,H⟩|⟨c3,H⟩
    ·have c3b0:=qM c3;clear c3;replace H:=zzi H;obtain ⟨c4,H⟩:=H;have c4b0:=qM c4;clear c4;replace H:=zzj H;rcases H with ⟨c5,H⟩|⟨c5,H⟩
     ·have c5b0:=qM c5;clear c5;obtain rfl:=Option.some.inj H;have p112:0≤(x3_1:Int):=qL (zz4);have q112:x3_1 < (l0.length:Int):=qL (zz4);obtain ⟨ad112,A112_2,c112_2,e112,hx112_0,hx112_1,hx112_2,hl112_2,hi112_2⟩:=at_T26 HR0.out x3_1 p112 q112
      cases e112
      have HR112_2:=wA.mk hi112_2;have HC112_2:=wA.mk hl112_2;clear hi112_2 hl112_2;replace p112:=eq_true p112;replace q112:=eq_true q112
      go_wp2
      repeat (go_quiet (fail);try go_wp2)
      go_ret
      exact ⟨zz2,zz3⟩
     ·have c5b0:=qN c5;clear c5;replace H:=zzj H;rcases H with ⟨c6,H⟩|⟨c6,H⟩
      ·have c6b0:=qM c6;clear c6;obtain rfl:=Option.some.inj H;have p112:0≤(x3_1:Int):=qL (zz4);have q112:x3_1 < (l0.length:Int):=qL (zz4);obtain ⟨ad112,A112_2,c112_2,e112,hx112_0,hx112_1,hx112_2,hl112_2,hi112_2⟩:=at_T26 HR0.out x3_1 p112 q112
       cases e112
       have HR112_2:=wA.mk hi112_2;have HC112_2:=wA.mk hl112_2;clear hi112_2 hl112_2;replace p112:=eq_true p112;replace q112:=eq_true q112;have p113:0≤(x3_1:Int):=qL (zz4);have q113:x3_1 < (l0.length:Int):=qL (zz4);obtain ⟨ad113,A113_2,c113_2,e113,hx113_0,hx113_1,hx113_2,hl113_2,hi113_2⟩:=at_T26 HR0.out x3_1 p113 q113;obtain rfl:ad112 = ad113:=(by injection e113);have HR113_2:=wA.mk hi113_2;have HC113_2:=wA.mk hl113_2;clear hi113_2 hl113_2;replace p113:=eq_true p113;replace q113:=eq_true q113;have ea_:=Option.some.inj (hx112_2.symm.trans hx113_2)
       injection ea_ with ea_ en_ ec_
       subst ea_;subst ec_;clear en_
       go_wp2
       repeat (go_quiet (fail);try go_wp2)
       go_ret
       exact ⟨zz2,zz3⟩
      ·have c6b0:=qN c6;clear c6;replace H:=zzj H;rcases H with ⟨c7,H⟩|⟨c7,H⟩
       ·have c7b0:=qM c7;clear c7;obtain ⟨ji8,hji8⟩:∃ j_:Int,(wrap64 (x3_1 - 1)) = j_:=⟨_,rfl⟩;replace H:(if 0≤(ji8) then (if (ji8) < (l0.length:Int) then (if ((rd_T26 l0 x3_1).f0)≤((rd_T26 l0 (ji8)).f0) then (some 23) else (U9.l0 k1 l0 (wrap64 (x3_1+1)))) else (none)) else (none)) = some r:=(have h0_:=hji8;zz5);have hji8w:(IntKind.i64.wrap (x3_1 - 1)) = ji8:=(yT _).trans hji8;replace H:=zzi H;obtain ⟨c9,H⟩:=H;have c9b0:=qM c9;clear c9;replace H:=zzi H;obtain ⟨c10,H⟩:=H;have c10b0:=qM c10;clear c10;replace H:=zzj H;rcases H with ⟨c11,H⟩|⟨c11,H⟩
        ·have c11b0:=qM c11;clear c11;obtain rfl:=Option.some.inj H;have p112:0≤(x3_1:Int):=qL (zz4);have q112:x3_1 < (l0.length:Int):=qL (zz4);obtain ⟨ad112,A112_2,c112_2,e112,hx112_0,hx112_1,hx112_2,hl112_2,hi112_2⟩:=at_T26 HR0.out x3_1 p112 q112
         cases e112
         have HR112_2:=wA.mk hi112_2;have HC112_2:=wA.mk hl112_2;clear hi112_2 hl112_2;replace p112:=eq_true p112;replace q112:=eq_true q112;have p113:0≤(x3_1:Int):=qL (zz4);have q113:x3_1 < (l0.length:Int):=qL (zz4);obtain ⟨ad113,A113_2,c113_2,e113,hx113_0,hx113_1,hx113_2,hl113_2,hi113_2⟩:=at_T26 HR0.out x3_1 p113 q113;obtain rfl:ad112 = ad113:=(by injection e113);have HR113_2:=wA.mk hi113_2;have HC113_2:=wA.mk hl113_2;clear hi113_2 hl113_2;replace p113:=eq_true p113;replace q113:=eq_true q113;have ea_:=Option.some.inj (hx112_2.symm.trans hx113_2)
         injection ea_ with ea_ en_ ec_
         subst ea_;subst ec_;clear en_;have p114:0≤(x3_1:Int):=qL (zz4);have q114:x3_1 < (l0.length:Int):=qL (zz4);obtain ⟨ad114,A114_2,c114_2,e114,hx114_0,hx114_1,hx114_2,hl114_2,hi114_2⟩:=at_T26 HR0.out x3_1 p114 q114;obtain rfl:ad112 = ad114:=(by injection e114);have HR114_2:=wA.mk hi114_2;have HC114_2:=wA.mk hl114_2;clear hi114_2 hl114_2;replace p114:=eq_true p114;replace q114:=eq_true q114;have ea_:=Option.some.inj (hx112_2.symm.trans hx114_2)
         injection ea_ with ea_ en_ ec_
         subst ea_;subst ec_;clear en_;have p115:0≤((ji8):Int):=qL (zz4);have q115:(ji8) < (l0.length:Int):=qL (zz4);obtain ⟨ad115,A115_2,c115_2,e115,hx115_0,hx115_1,hx115_2,hl115_2,hi115_2⟩:=at_T26 HR0.out (ji8) p115 q115;obtain rfl:ad112 = ad115:=(by injection e115);have HR115_2:=wA.mk hi115_2;have HC115_2:=wA.mk hl115_2;clear hi115_2 hl115_2;replace p115:=eq_true p115;replace q115:=eq_true q115
         go_wp2
         repeat (go_quiet (fail);try go_wp2)
         go_ret
         exact ⟨(have h0_:=hji8;zz6),zz3⟩
        ·have c11b0:=qN c11;clear c11;have H':=wA.mk H;clear H;have p112:0≤(x3_1:Int):=qL (zz4);have q112:x3_1 < (l0.length:Int):=qL (zz4);obtain ⟨ad112,A112_2,c112_2,e112,hx112_0,hx112_1,hx112_2,hl112_2,hi112_2⟩:=at_T26 HR0.out x3_1 p112 q112
         cases e112
         have HR112_2:=wA.mk hi112_2;have HC112_2:=wA.mk hl112_2;clear hi112_2 hl112_2;replace p112:=eq_true p112;replace q112:=eq_true q112;have p113:0≤(x3_1:Int):=qL (zz4);have q113:x3_1 < (l0.length:Int):=qL (zz4);obtain ⟨ad113,A113_2,c113_2,e113,hx113_0,hx113_1,hx113_2,hl113_2,hi113_2⟩:=at_T26 HR0.out x3_1 p113 q113;obtain rfl:ad112 = ad113:=(by injection e113);have HR113_2:=wA.mk hi113_2;have HC113_2:=wA.mk hl113_2;clear hi113_2 hl113_2;replace p113:=eq_true p113;replace q113:=eq_true q113;have ea_:=Option.some.inj (hx112_2.symm.trans hx113_2)
         injection ea_ with ea_ en_ ec_
         subst ea_;subst ec_;clear en_;have p114:0≤(x3_1:Int):=qL (zz4);have q114:x3_1 < (l0.length:Int):=qL (zz4);obtain ⟨ad114,A114_2,c114_2,e114,hx114_0,hx114_1,hx114_2,hl114_2,hi114_2⟩:=at_T26 HR0.out x3_1 p114 q114;obtain rfl:ad112 = ad114:=(by injection e114);have HR114_2:=wA.mk hi114_2;have HC114_2:=wA.mk hl114_2;clear hi114_2 hl114_2;replace p114:=eq_true p114;replace q114:=eq_true q114;have ea_:=Option.some.inj (hx112_2.symm.trans hx114_2)
         injection ea_ with ea_ en_ ec_
         subst ea_;subst ec_;clear en_;have p115:0≤((ji8):Int):=qL (zz4);have q115:(ji8) < (l0.length:Int):=qL (zz4);obtain ⟨ad115,A115_2,c115_2,e115,hx115_0,hx115_1,hx115_2,hl115_2,hi115_2⟩:=at_T26 HR0.out (ji8) p115 q115;obtain rfl:ad112 = ad115:=(by injection e115);have HR115_2:=wA.mk hi115_2;have HC115_2:=wA.mk hl115_2;clear hi115_2 hl115_2;replace p115:=eq_true p115;replace q115:=eq_true q115
         go_wp2
         repeat (go_quiet (fail);try go_wp2)
         go_roundg k1
         case measure=>have:=HK1.out;omega
         case rel=>exact ⟨(wrap64 (x3_1+1)),(zz2),H',⟨zz7⟩,zz3⟩
       ·have c7b0:=qN c7;clear c7;have H':=wA.mk H;clear H;have p112:0≤(x3_1:Int):=qL (zz4);have q112:x3_1 < (l0.length:Int):=qL (zz4);obtain ⟨ad112,A112_2,c112_2,e112,hx112_0,hx112_1,hx112_2,hl112_2,hi112_2⟩:=at_T26 HR0.out x3_1 p112 q112
        cases e112
        have HR112_2:=wA.mk hi112_2;have HC112_2:=wA.mk hl112_2;clear hi112_2 hl112_2;replace p112:=eq_true p112;replace q112:=eq_true q112;have p113:0≤(x3_1:Int):=qL (zz4);have q113:x3_1 < (l0.length:Int):=qL (zz4);obtain ⟨ad113,A113_2,c113_2,e113,hx113_0,hx113_1,hx113_2,hl113_2,hi113_2⟩:=at_T26 HR0.out x3_1 p113 q113;obtain rfl:ad112 = ad113:=(by injection e113);have HR113_2:=wA.mk hi113_2;have HC113_2:=wA.mk hl113_2;clear hi113_2 hl113_2;replace p113:=eq_true p113;replace q113:=eq_true q113;have ea_:=Option.some.inj (hx112_2.symm.trans hx113_2)
        injection ea_ with ea_ en_ ec_
        subst ea_;subst ec_;clear en_
        go_wp2
        repeat (go_quiet (fail);try go_wp2)
        go_roundg k1
        case measure=>have:=HK1.out;omega
        case rel=>exact ⟨(wrap64 (x3_1+1)),(zz2),H',⟨zz7⟩,zz3⟩
    ·have c3b0:=qN c3;clear c3;have H':=wA.mk H;clear H
     go_wp2
     go_loopg [4] k1 (fun kq v4 w'=>∃ (x4_2:Int),v4 = .int .i64 x4_2∧wA (U9.l1 kq l0 x4_2 = some r)∧wA (kq≤k1)∧yK w w')
     case atStart=>exact ⟨(0),(zz2),H',⟨Nat.le_refl _⟩,zz3⟩
     case round =>
      clear H';clear c3b0;obtain ⟨x4_2,rfl,HA,HK2,⟨m2,rfl⟩⟩:=hrel
      cases gk with
      | zero=>exact absurd HA.out (by simp [U9.l1])
      | succ k2 =>
       have H:=HA.out;clear HA;simp only [U9.l1] at H;replace H:=zzj H;rcases H with ⟨c12,H⟩|⟨c12,H⟩
       ·have c12b0:=qM c12;clear c12;have HC13:=wA.mk H;clear H
        go_upto_region 11 with (fail)
        go_cut [65] (fun v65 wc=>∃ (kq:Nat) (x65_12:Bool),v65 = .bool x65_12∧wA (U9.j2 kq l0 x4_2 x65_12 = some r)∧wA (kq≤k2)∧yK w wc)
        case first =>
         have H:=HC13.out;clear HC13;replace H:=zzi H;obtain ⟨c14,H⟩:=H;have c14b0:=qM c14;clear c14
         (first|rw [c14b0]|rw [c14b1]|(simp only [yT,zH];rw [c14b0])|skip);replace H:=zzj H;rcases H with ⟨c15,H⟩|⟨c15,H⟩
         ·have c15b0:=qM c15;clear c15;have H':=wA.mk H;clear H;have p116:0≤(x4_2:Int):=qL (zz4);have q116:x4_2 < (l0.length:Int):=qL (zz4);obtain ⟨ad116,A116_2,c116_2,e116,hx116_0,hx116_1,hx116_2,hl116_2,hi116_2⟩:=at_T26 HR0.out x4_2 p116 q116
          cases e116
          have HR116_2:=wA.mk hi116_2;have HC116_2:=wA.mk hl116_2;clear hi116_2 hl116_2;replace p116:=eq_true p116;replace q116:=eq_true q116
          go_wp2
          go_meet
          case rel=>exact ⟨_,(true),(zz2),H',⟨zz9⟩,zz3⟩
         ·have c15b0:=qN c15;clear c15;have H':=wA.mk H;clear H;have p116:0≤(x4_2:Int):=qL (zz4);have q116:x4_2 < (l0.length:Int):=qL (zz4);obtain ⟨ad116,A116_2,c116_2,e116,hx116_0,hx116_1,hx116_2,hl116_2,hi116_2⟩:=at_T26 HR0.out x4_2 p116 q116
          cases e116
          have HR116_2:=wA.mk hi116_2;have HC116_2:=wA.mk hl116_2;clear hi116_2 hl116_2;replace p116:=eq_true p116;replace q116:=eq_true q116;have p117:0≤(x4_2:Int):=qL (zz4);have q117:x4_2 < (l0.length:Int):=qL (zz4);obtain ⟨ad117,A117_2,c117_2,e117,hx117_0,hx117_1,hx117_2,hl117_2,hi117_2⟩:=at_T26 HR0.out x4_2 p117 q117;obtain rfl:ad116 = ad117:=(by injection e117);have HR117_2:=wA.mk hi117_2;have HC117_2:=wA.mk hl117_2;clear hi117_2 hl117_2;replace p117:=eq_true p117;replace q117:=eq_true q117;have ea_:=Option.some.inj (hx116_2.symm.trans hx117_2)
          injection ea_ with ea_ en_ ec_
          subst ea_;subst ec_;clear en_
          go_wp2
          go_meet
          case rel=>exact ⟨_,(decide (((rd_T26 l0 x4_2).f1) > 200)),(zz2),H',⟨zz9⟩,zz3⟩
        case rest =>
         clear HC13;(try clear hx1);(try clear hx11);clear c12b0;(try clear hx112_0);(try clear hx112_1);(try clear hx112_2);(try clear hx113_0);(try clear hx113_1);(try clear hx113_2);(try clear hx114_0);(try clear hx114_1);(try clear hx114_2);(try clear hx115_0);(try clear hx115_1);(try clear hx115_2);obtain ⟨kq,x65_12,rfl,HA,HJ12,⟨mc12,rfl⟩⟩:=hcut
         cases kq with
         | zero=>exact absurd HA.out (by simp [U9.j2])
         | succ kj12 =>
          have H:=HA.out;clear HA;simp only [U9.j2] at H;by_cases c16:x65_12 = true
          ·subst c16;have H1:(some 3) = some r:=zz10;clear H;have H:=H1;clear H1;obtain rfl:=Option.some.inj H
           go_wp2
           go_ret
           exact ⟨zz2,zz3⟩
          ·replace c16:=Bool.eq_false_iff.mpr c16;subst c16;have H1:(if 0≤x4_2 then (if x4_2 < (l0.length:Int) then (if (((rd_T26 l0 x4_2).f2).length:Int) > 200 then (some 5) else ((U11.f kj12 ((rd_T26 l0 x4_2).f2)).bind fun t120=>(if t120 = true then (U9.l1 kj12 l0 (wrap64 (x4_2+1))) else (some 23)))) else (none)) else (none)) = some r:=zz11;clear H;have H:=H1;clear H1;replace H:=zzi H;obtain ⟨c17,H⟩:=H;have c17b0:=qM c17;clear c17;replace H:=zzi H;obtain ⟨c18,H⟩:=H;have c18b0:=qM c18;clear c18;replace H:=zzj H;rcases H with ⟨c19,H⟩|⟨c19,H⟩
           ·have c19b0:=qM c19;have c19b1:decide (200 < ((rd_T26 l0 x4_2).f2).length) = true:=qM (zz1);clear c19;obtain rfl:=Option.some.inj H;have p118:0≤(x4_2:Int):=qL (zz4);have q118:x4_2 < (l0.length:Int):=qL (zz4);obtain ⟨ad118,A118_2,c118_2,e118,hx118_0,hx118_1,hx118_2,hl118_2,hi118_2⟩:=at_T26 HR0.out x4_2 p118 q118
            cases e118
            have HR118_2:=wA.mk hi118_2;have HC118_2:=wA.mk hl118_2;clear hi118_2 hl118_2;replace p118:=eq_true p118;replace q118:=eq_true q118
            go_wp2
            go_ret
            exact ⟨zz2,zz3⟩
           ·have c19b0:=qN c19;have c19b1:decide (200 < ((rd_T26 l0 x4_2).f2).length) = false:=qN (zz1);clear c19;replace H:=zzb H;obtain ⟨t120,A20,H⟩:=H;by_cases c21:t120 = true
            ·subst c21;have H1:(U9.l1 kj12 l0 (wrap64 (x4_2+1))) = some r:=zz10;clear H;have H:=H1;clear H1;have H':=wA.mk H;clear H;have p118:0≤(x4_2:Int):=qL (zz4);have q118:x4_2 < (l0.length:Int):=qL (zz4);obtain ⟨ad118,A118_2,c118_2,e118,hx118_0,hx118_1,hx118_2,hl118_2,hi118_2⟩:=at_T26 HR0.out x4_2 p118 q118
             cases e118
             have HR118_2:=wA.mk hi118_2;have HC118_2:=wA.mk hl118_2;clear hi118_2 hl118_2;replace p118:=eq_true p118;replace q118:=eq_true q118;have p119:0≤(x4_2:Int):=qL (zz4);have q119:x4_2 < (l0.length:Int):=qL (zz4);obtain ⟨ad119,A119_2,c119_2,e119,hx119_0,hx119_1,hx119_2,hl119_2,hi119_2⟩:=at_T26 HR0.out x4_2 p119 q119;obtain rfl:ad118 = ad119:=(by injection e119);have HR119_2:=wA.mk hi119_2;have HC119_2:=wA.mk hl119_2;clear hi119_2 hl119_2;replace p119:=eq_true p119;replace q119:=eq_true q119;have ea_:=Option.some.inj (hx118_2.symm.trans hx119_2)
             injection ea_ with ea_ en_ ec_
             subst ea_;subst ec_;clear en_
             go_wp2_with (first|(go_at_call 31;(with_reducible refine (U11.calls kj12 _ _ ((rd_T26 l0 x4_2).f2) true _ ?_ ?_ A20.out).mono ?_);(exact (have h0_:=HR119_2;zz160));exact HC119_2.out;rintro e w' ⟨rfl,⟨nd,rfl⟩⟩;(try first|exact ⟨rfl,_,World.drewN_drewN _ _ _⟩|exact ⟨rfl,_,Eq.trans (World.drewN_drewN _ _ _) (congrArg (World.drewN _) (Nat.add_assoc _ _ _))⟩)))
             go_roundg kj12
             case measure=>have:=HK1.out;have:=HK2.out;have:=HJ12.out;omega
             case rel=>exact ⟨(wrap64 (x4_2+1)),(zz2),H',⟨by have:=HK1.out;have:=HK2.out;have:=HJ12.out;omega⟩,zz3⟩
            ·replace c21:=Bool.eq_false_iff.mpr c21;subst c21;have H1:(some 23) = some r:=zz11;clear H;have H:=H1;clear H1;obtain rfl:=Option.some.inj H;have p118:0≤(x4_2:Int):=qL (zz4);have q118:x4_2 < (l0.length:Int):=qL (zz4);obtain ⟨ad118,A118_2,c118_2,e118,hx118_0,hx118_1,hx118_2,hl118_2,hi118_2⟩:=at_T26 HR0.out x4_2 p118 q118
             cases e118
             have HR118_2:=wA.mk hi118_2;have HC118_2:=wA.mk hl118_2;clear hi118_2 hl118_2;replace p118:=eq_true p118;replace q118:=eq_true q118;have p119:0≤(x4_2:Int):=qL (zz4);have q119:x4_2 < (l0.length:Int):=qL (zz4);obtain ⟨ad119,A119_2,c119_2,e119,hx119_0,hx119_1,hx119_2,hl119_2,hi119_2⟩:=at_T26 HR0.out x4_2 p119 q119;obtain rfl:ad118 = ad119:=(by injection e119);have HR119_2:=wA.mk hi119_2;have HC119_2:=wA.mk hl119_2;clear hi119_2 hl119_2;replace p119:=eq_true p119;replace q119:=eq_true q119;have ea_:=Option.some.inj (hx118_2.symm.trans hx119_2)
             injection ea_ with ea_ en_ ec_
             subst ea_;subst ec_;clear en_
             go_wp2_with (first|(go_at_call 31;(with_reducible refine (U11.calls kj12 _ _ ((rd_T26 l0 x4_2).f2) false _ ?_ ?_ A20.out).mono ?_);(exact (have h0_:=HR119_2;zz160));exact HC119_2.out;rintro e w' ⟨rfl,⟨nd,rfl⟩⟩;(try first|exact ⟨rfl,_,World.drewN_drewN _ _ _⟩|exact ⟨rfl,_,Eq.trans (World.drewN_drewN _ _ _) (congrArg (World.drewN _) (Nat.add_assoc _ _ _))⟩)))
             go_ret
             exact ⟨zz2,zz3⟩
       ·have c12b0:=qN c12;clear c12;obtain rfl:=Option.some.inj H
        go_wp2
        go_ret
        exact ⟨zz2,zz3⟩
def U35.l0:Nat→Int→Int→List (S44)→Int→Int→Option (Int)
 | 0,_,_,_,_,_=>none
 | k+1,x1,x5,x8,x9,x10=>if x10 < x9 then (if 0≤x10 then (if x10 < (x8.length:Int) then (if ((rd_T44 x8 x10).f1) = x1 then (U35.l0 k x1 (wrap64 (x5+1)) x8 x9 (wrap64 (x10+1))) else (U35.l0 k x1 x5 x8 x9 (wrap64 (x10+1)))) else (none)) else (none)) else (some x5)
def U35.f (k:Nat) (l0:List (S44)) (a1:Int):Option (Int):=U35.l0 k a1 0 l0 (l0.length:Int) 0
theorem zm2_1 {P:Prop} (h:P:=by repeat' first|(with_reducible first|exact ih0 ..|exact LeO.refl _|exact LeO.none _|refine LeO.ite ?_ ?_|refine LeO.bind ?_ (fun _=>?_))|exact ih0 ..|exact LeO.none _|refine LeO.ite ?_ ?_|refine LeO.bind ?_ (fun _=>?_)):P:=h
theorem U35.mono_l:∀ k,(∀ y0 y1 y2 y3 y4,LeO (U35.l0 k y0 y1 y2 y3 y4) (U35.l0 (k+1) y0 y1 y2 y3 y4))
 | 0=>fun _ _ _ _ _ r h=>by simp [U35.l0] at h
 | k+1=>by
  have ih0:=U35.mono_l k
  ·intro y0 y1 y2 y3 y4;unfold U35.l0
   exact zm2_1
theorem U35.mono:∀ a0 a1 k,LeO (U35.f k a0 a1) (U35.f (k+1) a0 a1):=by
 intro a0 a1 k;have ih0:=U35.mono_l k;unfold U35.f
 exact zm2_1
set_option maxHeartbeats 8000000 in
set_option maxRecDepth 100000 in
theorem U35.calls (k:Nat) (A0:Option Addr) (c0:Nat) (l0:List (S44)) (a1:Int) (r:Int) (w:World) (hr0:Kd.C k44 w A0 l0.length l0) (hc0:l0.length≤c0) (h:U35.f k l0 a1 = some r) :
  Calls Tryd.prog 15 #[.slice A0 l0.length c0,.int .i64 a1] w fun e w'=>e = .returned (.int .i64 r)∧Below w.heap.size w w':=by
 have hu44:=Tryd.underlying44;have HR0:=wA.mk hr0;have HC0:=wA.mk hc0;clear hr0 hc0;have HB:=wA.mk (Below.refl w.heap.size w);have H:(U35.l0 k a1 0 l0 (l0.length:Int) 0) = some r:=h;clear h;have H':=wA.mk H;clear H;go_enter Tryd.func15,Tryd.ntmps15
 go_wp2
 go_loopg [5,10] k (fun kq v5 v10 w'=>∃ (x5_1:Int) (x10_1:Int),v5 = .int .i64 x5_1∧v10 = .int .i64 x10_1∧wA (U35.l0 kq a1 x5_1 l0 (l0.length:Int) x10_1 = some r)∧wA (kq≤k)∧wA (Below w.heap.size w w'))
 case atStart=>exact ⟨(0),(0),(zz2),(zz2),H',⟨Nat.le_refl _⟩,⟨zz12⟩⟩
 case round =>
  clear H';obtain ⟨x5_1,x10_1,rfl,rfl,HA,HK1,HB⟩:=hrel
  cases gk with
  | zero=>exact absurd HA.out (by simp [U35.l0])
  | succ k1 =>
   have H:=HA.out;clear HA;simp only [U35.l0] at H;replace H:=zzj H;rcases H with ⟨c3,H⟩|⟨c3,H⟩
   ·have c3b0:=qM c3;clear c3;replace H:=zzi H;obtain ⟨c4,H⟩:=H;have c4b0:=qM c4;clear c4;replace H:=zzi H;obtain ⟨c5,H⟩:=H;have c5b0:=qM c5;clear c5;replace H:=zzj H;rcases H with ⟨c6,H⟩|⟨c6,H⟩
    ·have c6b0:=beq_iff_eq.mpr c6;have c6b1:=bne_eq_false_iff_eq.mpr c6;clear c6;have H':=wA.mk H;clear H;have p121:0≤(x10_1:Int):=qL (zz4);have q121:x10_1 < (l0.length:Int):=qL (zz4);obtain ⟨ad121,e121,hx121_0,hx121_1⟩:=at_T44 HR0.out x10_1 p121 q121
     cases e121
     replace hx121_0:=(HB.out.cell (qK w _ hx121_0)).trans hx121_0;replace hx121_1:=(HB.out.cell (qK w _ hx121_1)).trans hx121_1;replace p121:=eq_true p121;replace q121:=eq_true q121
     go_wp2_with (first|((with_reducible refine wL (N:=7) rfl ?_);refine wM ?hg (N:=7) ?hd (cs:=#[.int .i64 0,.int .i64 0]) (t:=44) ?hr ?_;(case hd=>rfl);(case hg=>rfl);(case hr=>exact zz161);intro gb122 hg w7 hbox hb;have BK122:=wA.mk (hbox);have GW122:=wA.mk ((by rw [hg];exact (wB (zz12)):w.heap.size≤gb122));have GE122:=wA.mk ((by rw [hg];exact (wB (zz12)):w.heap.size≤gb122));replace HB:=wA.mk (wC (zz12) hb);clear hb hbox hg;obtain ⟨hcz8_0,hcz8_1,hfz8_0,hfz8_1⟩:=zc2 BK122.out))
     go_roundg k1
     case measure=>have:=HK1.out;omega
     case rel=>exact ⟨(wrap64 (x5_1+1)),(wrap64 (x10_1+1)),(zz2),(zz2),H',⟨zz7⟩,⟨(have h0_:=GE122;zz13)⟩⟩
    ·have c6b0:=beq_eq_false_iff_ne.mpr c6;have c6b1:=bne_iff_ne.mpr c6;have H':=wA.mk H;clear H;have p121:0≤(x10_1:Int):=qL (zz4);have q121:x10_1 < (l0.length:Int):=qL (zz4);obtain ⟨ad121,e121,hx121_0,hx121_1⟩:=at_T44 HR0.out x10_1 p121 q121
     cases e121
     replace hx121_0:=(HB.out.cell (qK w _ hx121_0)).trans hx121_0;replace hx121_1:=(HB.out.cell (qK w _ hx121_1)).trans hx121_1;replace p121:=eq_true p121;replace q121:=eq_true q121
     go_wp2_with (first|((with_reducible refine wL (N:=7) rfl ?_);refine wM ?hg (N:=7) ?hd (cs:=#[.int .i64 0,.int .i64 0]) (t:=44) ?hr ?_;(case hd=>rfl);(case hg=>rfl);(case hr=>exact zz161);intro gb122 hg w9 hbox hb;have BK122:=wA.mk (hbox);have GW122:=wA.mk ((by rw [hg];exact (wB (zz12)):w.heap.size≤gb122));have GE122:=wA.mk ((by rw [hg];exact (wB (zz12)):w.heap.size≤gb122));replace HB:=wA.mk (wC (zz12) hb);clear hb hbox hg;obtain ⟨hcz10_0,hcz10_1,hfz10_0,hfz10_1⟩:=zc2 BK122.out))
     go_roundg k1
     case measure=>have:=HK1.out;omega
     case rel=>exact ⟨(x5_1),(wrap64 (x10_1+1)),(zz2),(zz2),H',⟨zz7⟩,⟨(have h0_:=GE122;zz13)⟩⟩
   ·have c3b0:=qN c3;clear c3;obtain rfl:=Option.some.inj H
    go_wp2
    go_ret
    exact ⟨zz14,zz12⟩
end Go.Proofs.YtnimkmkapajnhaaDoor.QA
