import Derived.Test.YtnimkmkapajnhaaDoorRBQAx0
import Derived.Test.YtnimkmkapajnhaaDoorRBQAx13
import Derived.Test.YtnimkmkapajnhaaDoorRBQAx14
namespace Go.Proofs.YtnimkmkapajnhaaDoor.QA
open Go.RowKit Go.Proofs.YtnimkmkapajnhaaDoorW.PrintWords Go.Proofs.YtnimkmkapajnhaaDoorW.PrintLast Go.Proofs.YtnimkmkapajnhaaDoorW.PrintMore
attribute [local go_sem] yE yA yI yJ wY wX yC yD
set_option linter.unusedVariables false
set_option linter.unusedSimpArgs false
mutual
def U44.j0:Nat→List Int→List Int→Int→Bool→Option (Int)
 | 0,_,_,_,_=>none
 | k+1,x0,x1,x2,x20=>if x20 = true then (some 3) else (U44.l0 k x0 x1 x2 (x0.length:Int) 0)
def U44.l0:Nat→List Int→List Int→Int→Int→Int→Option (Int)
 | 0,_,_,_,_,_=>none
 | k+1,x0,x1,x2,x22,x23=>if x23 < x22 then (if 0≤x23 then (if x23 < (x0.length:Int) then (if (rd x0 x23) < 0 then (some 3) else (if (rd x0 x23) > x2 then (some 3) else (if x23 < (x1.length:Int) then (if (rd x1 x23) < 0 then (some 3) else (if (rd x1 x23) > x2 then (some 3) else (U44.l0 k x0 x1 x2 x22 (wrap64 (x23+1))))) else (none)))) else (none)) else (none)) else (some 0)
end
def U44.f (k:Nat) (l0:List Int) (l1:List Int) (a2:Int):Option (Int):=(U43.f k l0 l1).bind fun t394=>(if t394 = 0 then (if a2 < 1 then (U44.j0 k l0 l1 a2 true) else (U44.j0 k l0 l1 a2 (decide (a2 > 50)))) else (some t394))
theorem zm13_0 {P:Prop} (h:P:=by repeat' first|(with_reducible first|exact ih0 ..|exact ih1 ..|exact U43.mono ..|exact LeO.refl _|exact LeO.none _|refine LeO.ite ?_ ?_|refine LeO.bind ?_ (fun _=>?_))|exact ih0 ..|exact ih1 ..|exact U43.mono ..|exact LeO.none _|refine LeO.ite ?_ ?_|refine LeO.bind ?_ (fun _=>?_)):P:=h
theorem U44.mono_l:∀ k,(∀ y0 y1 y2 y3,LeO (U44.j0 k y0 y1 y2 y3) (U44.j0 (k+1) y0 y1 y2 y3))∧(∀ y0 y1 y2 y3 y4,LeO (U44.l0 k y0 y1 y2 y3 y4) (U44.l0 (k+1) y0 y1 y2 y3 y4))
 | 0=>⟨fun _ _ _ _ r h=>by simp [U44.j0] at h,fun _ _ _ _ _ r h=>by simp [U44.l0] at h⟩
 | k+1=>by
  obtain ⟨ih0,ih1⟩:=U44.mono_l k;refine ⟨?_,?_⟩
  ·intro y0 y1 y2 y3;unfold U44.j0
   exact zm13_0
  ·intro y0 y1 y2 y3 y4;unfold U44.l0
   exact zm13_0
theorem U44.mono:∀ a0 a1 a2 k,LeO (U44.f k a0 a1 a2) (U44.f (k+1) a0 a1 a2):=by
 intro a0 a1 a2 k;obtain ⟨ih0,ih1⟩:=U44.mono_l k;unfold U44.f
 exact zm13_0
set_option maxHeartbeats 8000000 in
set_option maxRecDepth 100000 in
theorem U44.calls (k:Nat) (A0:Option Addr) (c0:Nat) (l0:List Int) (A1:Option Addr) (c1:Nat) (l1:List Int) (a2:Int) (r:Int) (w:World) (hr0:Kd.C (Kd.int .i64) w A0 l0.length l0) (hc0:l0.length≤c0) (hr1:Kd.C (Kd.int .i64) w A1 l1.length l1) (hc1:l1.length≤c1) (h:U44.f k l0 l1 a2 = some r) :
  Calls Tryd.prog 47 #[.slice A0 l0.length c0,.slice A1 l1.length c1,.int .i64 a2] w fun e w'=>e = .returned (.int .i64 r)∧yM w w':=by
 have HR0:=wA.mk hr0;have HC0:=wA.mk hc0;clear hr0 hc0;have HR1:=wA.mk hr1;have HC1:=wA.mk hc1;clear hr1 hc1;have H:((U43.f k l0 l1).bind fun t394=>(if t394 = 0 then (if a2 < 1 then (U44.j0 k l0 l1 a2 true) else (U44.j0 k l0 l1 a2 (decide (a2 > 50)))) else (some t394))) = some r:=h;clear h;replace H:=zzb H;obtain ⟨t394,A4,H⟩:=H;replace H:=zzj H;rcases H with ⟨c5,H⟩|⟨c5,H⟩
 ·have c5b0:=beq_iff_eq.mpr c5;have c5b1:=bne_eq_false_iff_eq.mpr c5;clear c5;have HC6:=wA.mk H;clear H;go_enter Tryd.func47,Tryd.ntmps47
  go_upto_region 4 with (first|((with_reducible refine wI (f:=43) rfl ?_);refine wR (some 11) rfl rfl Tryd.func43 (zz0) rfl #[.slice A0 l0.length c0,.slice A1 l1.length c1] rfl (zz20) ?_;(with_reducible refine (U43.calls k _ _ l0 _ _ l1 t394 _ ?_ ?_ ?_ ?_ A4.out).mono ?_);exact zz158;exact HC0.out;exact zz161;exact HC1.out;rintro e w' ⟨rfl,⟨nd,rfl⟩⟩;refine ⟨_,rfl,?_⟩))
  (try simp only [Act.put,List.setIfInBounds_toArray,List.set_cons_zero,List.set_cons_succ]);go_cut [20] (fun v20 wc=>∃ (kq:Nat) (x20_5:Bool),v20 = .bool x20_5∧wA (U44.j0 kq l0 l1 a2 x20_5 = some r)∧wA (kq≤k)∧yM w wc)
  case first =>
   have H:=HC6.out;clear HC6;replace H:=zzj H;rcases H with ⟨c7,H⟩|⟨c7,H⟩
   ·have c7b0:=qM c7;clear c7
    (first|rw [c7b0]|rw [c7b1]|(simp only [yS,zF];rw [c7b0])|skip);have H':=wA.mk H;clear H
    go_wp2
    go_meet
    case rel=>exact ⟨_,(true),(zz2),H',⟨zz28⟩,zz9⟩
   ·have c7b0:=qN c7;clear c7
    (first|rw [c7b0]|rw [c7b1]|(simp only [yS,zF];rw [c7b0])|skip);have H':=wA.mk H;clear H
    go_wp2
    go_meet
    case rel=>exact ⟨_,(decide (a2 > 50)),(zz2),H',⟨zz28⟩,zz9⟩
  case rest =>
   clear HC6;(try clear c1);clear c5b0 c5b1;obtain ⟨kq,x20_5,rfl,HA,HJ5,⟨mc5,rfl⟩⟩:=hcut
   cases kq with
   | zero=>exact absurd HA.out (by simp [U44.j0])
   | succ kj5 =>
    have H:=HA.out;clear HA;simp only [U44.j0] at H;by_cases c8:x20_5 = true
    ·subst c8;have H1:(some 3) = some r:=zz18;clear H;have H:=H1;clear H1;obtain rfl:=Option.some.inj H
     go_wp2
     go_ret
     exact ⟨zz2,zz9⟩
    ·replace c8:=Bool.eq_false_iff.mpr c8;subst c8;have H1:(U44.l0 kj5 l0 l1 a2 (l0.length:Int) 0) = some r:=zz19;clear H;have H:=H1;clear H1;have H':=wA.mk H;clear H
     go_wp2
     go_loopg [23] kj5 (fun kq v23 w'=>∃ (x23_2:Int),v23 = .int .i64 x23_2∧wA (U44.l0 kq l0 l1 a2 (l0.length:Int) x23_2 = some r)∧wA (kq≤kj5)∧yM w w')
     case atStart=>exact ⟨(0),(zz2),H',⟨Nat.le_refl _⟩,zz9⟩
     case round =>
      clear H'
      (try clear c8);obtain ⟨x23_2,rfl,HA,HK2,⟨m2,rfl⟩⟩:=hrel
      cases gk with
      | zero=>exact absurd HA.out (by simp [U44.l0])
      | succ k2 =>
       have H:=HA.out;clear HA;simp only [U44.l0] at H;replace H:=zzj H;rcases H with ⟨c9,H⟩|⟨c9,H⟩
       ·have c9b0:=qM c9;clear c9;replace H:=zzi H;obtain ⟨c10,H⟩:=H;have c10b0:=qM c10;clear c10;replace H:=zzi H;obtain ⟨c11,H⟩:=H;have c11b0:=qM c11;clear c11;replace H:=zzj H;rcases H with ⟨c12,H⟩|⟨c12,H⟩
        ·have c12b0:=qM c12;clear c12;obtain rfl:=Option.some.inj H;have p395:0≤(x23_2:Int):=qL (zz4);have q395:x23_2 < (l0.length:Int):=qL (zz4);obtain ⟨ad395,e395,hx395_0⟩:=Kd.at_int HR0.out x23_2 p395 q395
         cases e395
         replace p395:=eq_true p395;replace q395:=eq_true q395
         go_wp2
         go_ret
         exact ⟨zz2,zz9⟩
        ·have c12b0:=qN c12;clear c12;replace H:=zzj H;rcases H with ⟨c13,H⟩|⟨c13,H⟩
         ·have c13b0:=qM c13;clear c13;obtain rfl:=Option.some.inj H;have p395:0≤(x23_2:Int):=qL (zz4);have q395:x23_2 < (l0.length:Int):=qL (zz4);obtain ⟨ad395,e395,hx395_0⟩:=Kd.at_int HR0.out x23_2 p395 q395
          cases e395
          replace p395:=eq_true p395;replace q395:=eq_true q395;have p396:0≤(x23_2:Int):=qL (zz4);have q396:x23_2 < (l0.length:Int):=qL (zz4);obtain ⟨ad396,e396,hx396_0⟩:=Kd.at_int HR0.out x23_2 p396 q396;obtain rfl:ad395 = ad396:=(by injection e396);replace p396:=eq_true p396;replace q396:=eq_true q396
          go_wp2
          go_ret
          exact ⟨zz2,zz9⟩
         ·have c13b0:=qN c13;clear c13;replace H:=zzi H;obtain ⟨c14,H⟩:=H;have c14b0:=qM c14;clear c14;replace H:=zzj H;rcases H with ⟨c15,H⟩|⟨c15,H⟩
          ·have c15b0:=qM c15;clear c15;obtain rfl:=Option.some.inj H;have p395:0≤(x23_2:Int):=qL (zz4);have q395:x23_2 < (l0.length:Int):=qL (zz4);obtain ⟨ad395,e395,hx395_0⟩:=Kd.at_int HR0.out x23_2 p395 q395
           cases e395
           replace p395:=eq_true p395;replace q395:=eq_true q395;have p396:0≤(x23_2:Int):=qL (zz4);have q396:x23_2 < (l0.length:Int):=qL (zz4);obtain ⟨ad396,e396,hx396_0⟩:=Kd.at_int HR0.out x23_2 p396 q396;obtain rfl:ad395 = ad396:=(by injection e396);replace p396:=eq_true p396;replace q396:=eq_true q396;have p397:0≤(x23_2:Int):=qL (zz4);have q397:x23_2 < (l1.length:Int):=qL (zz4);obtain ⟨ad397,e397,hx397_0⟩:=Kd.at_int HR1.out x23_2 p397 q397
           cases e397
           replace p397:=eq_true p397;replace q397:=eq_true q397
           go_wp2
           go_ret
           exact ⟨zz2,zz9⟩
          ·have c15b0:=qN c15;clear c15;replace H:=zzj H;rcases H with ⟨c16,H⟩|⟨c16,H⟩
           ·have c16b0:=qM c16;clear c16;obtain rfl:=Option.some.inj H;have p395:0≤(x23_2:Int):=qL (zz4);have q395:x23_2 < (l0.length:Int):=qL (zz4);obtain ⟨ad395,e395,hx395_0⟩:=Kd.at_int HR0.out x23_2 p395 q395
            cases e395
            replace p395:=eq_true p395;replace q395:=eq_true q395;have p396:0≤(x23_2:Int):=qL (zz4);have q396:x23_2 < (l0.length:Int):=qL (zz4);obtain ⟨ad396,e396,hx396_0⟩:=Kd.at_int HR0.out x23_2 p396 q396;obtain rfl:ad395 = ad396:=(by injection e396);replace p396:=eq_true p396;replace q396:=eq_true q396;have p397:0≤(x23_2:Int):=qL (zz4);have q397:x23_2 < (l1.length:Int):=qL (zz4);obtain ⟨ad397,e397,hx397_0⟩:=Kd.at_int HR1.out x23_2 p397 q397
            cases e397
            replace p397:=eq_true p397;replace q397:=eq_true q397;have p398:0≤(x23_2:Int):=qL (zz4);have q398:x23_2 < (l1.length:Int):=qL (zz4);obtain ⟨ad398,e398,hx398_0⟩:=Kd.at_int HR1.out x23_2 p398 q398;obtain rfl:ad397 = ad398:=(by injection e398);replace p398:=eq_true p398;replace q398:=eq_true q398
            go_wp2
            go_ret
            exact ⟨zz2,zz9⟩
           ·have c16b0:=qN c16;clear c16;have H':=wA.mk H;clear H;have p395:0≤(x23_2:Int):=qL (zz4);have q395:x23_2 < (l0.length:Int):=qL (zz4);obtain ⟨ad395,e395,hx395_0⟩:=Kd.at_int HR0.out x23_2 p395 q395
            cases e395
            replace p395:=eq_true p395;replace q395:=eq_true q395;have p396:0≤(x23_2:Int):=qL (zz4);have q396:x23_2 < (l0.length:Int):=qL (zz4);obtain ⟨ad396,e396,hx396_0⟩:=Kd.at_int HR0.out x23_2 p396 q396;obtain rfl:ad395 = ad396:=(by injection e396);replace p396:=eq_true p396;replace q396:=eq_true q396;have p397:0≤(x23_2:Int):=qL (zz4);have q397:x23_2 < (l1.length:Int):=qL (zz4);obtain ⟨ad397,e397,hx397_0⟩:=Kd.at_int HR1.out x23_2 p397 q397
            cases e397
            replace p397:=eq_true p397;replace q397:=eq_true q397;have p398:0≤(x23_2:Int):=qL (zz4);have q398:x23_2 < (l1.length:Int):=qL (zz4);obtain ⟨ad398,e398,hx398_0⟩:=Kd.at_int HR1.out x23_2 p398 q398;obtain rfl:ad397 = ad398:=(by injection e398);replace p398:=eq_true p398;replace q398:=eq_true q398
            go_wp2
            go_roundg k2
            case measure=>have:=HJ5.out;have:=HK2.out;omega
            case rel=>exact ⟨(wrap64 (x23_2+1)),(zz2),H',⟨by have:=HJ5.out;have:=HK2.out;omega⟩,zz9⟩
       ·have c9b0:=qN c9;clear c9;obtain rfl:=Option.some.inj H
        go_wp2
        go_ret
        exact ⟨zz2,zz9⟩
 ·have c5b0:=beq_eq_false_iff_ne.mpr c5;have c5b1:=bne_iff_ne.mpr c5;obtain rfl:=Option.some.inj H;go_enter Tryd.func47,Tryd.ntmps47
  go_wp2_with (first|((with_reducible refine wI (f:=43) rfl ?_);refine wR (some 11) rfl rfl Tryd.func43 (zz0) rfl #[.slice A0 l0.length c0,.slice A1 l1.length c1] rfl (zz20) ?_;(with_reducible refine (U43.calls k _ _ l0 _ _ l1 t394 _ ?_ ?_ ?_ ?_ A4.out).mono ?_);exact zz158;exact HC0.out;exact zz161;exact HC1.out;rintro e w' ⟨rfl,⟨nd,rfl⟩⟩;refine ⟨_,rfl,?_⟩))
  go_ret
  exact ⟨zz2,zz9⟩
def U54.f (k:Nat) (l0:List Int):Option (Bool × List Int):=(U12.f k false l0).bind fun bt400=>(some (bt400.1,bt400.2))
theorem zm13_1 {P:Prop} (h:P:=by repeat' first|(with_reducible first|exact U12.mono ..|exact LeO.refl _|exact LeO.none _|refine LeO.ite ?_ ?_|refine LeO.bind ?_ (fun _=>?_))|exact U12.mono ..|exact LeO.none _|refine LeO.ite ?_ ?_|refine LeO.bind ?_ (fun _=>?_)):P:=h
theorem U54.mono:∀ a0 k,LeO (U54.f k a0) (U54.f (k+1) a0):=by
 intro a0 k;unfold U54.f
 exact zm13_1
set_option maxHeartbeats 8000000 in
set_option maxRecDepth 100000 in
theorem U54.calls (k:Nat) (A0:Option Addr) (c0:Nat) (l0:List Int) (r1:Bool) (r2:List Int) (w:World) (hr0:Kd.C (Kd.int .u32) w A0 l0.length l0) (hc0:l0.length≤c0) (h:U54.f k l0 = some (r1,r2)) :
  Calls Tryd.prog 78 #[.slice A0 l0.length c0] w fun e w'=>∃ v1_:Value,e = .returned (.agg #[.bool r1,v1_])∧Kd.R (Kd.int .u32) 79 w' w.heap.size (fun _=>True) v1_ r2∧Below w.heap.size w w':=by
 have hu49:=Tryd.underlying49;have HR0:=wA.mk hr0;have HC0:=wA.mk hc0;clear hr0 hc0;have HB:=wA.mk (Below.refl w.heap.size w);have H:((U12.f k false l0).bind fun bt400=>(some (bt400.1,bt400.2))) = some (r1,r2):=h;clear h;replace H:=Option.bind_eq_some_iff.mp H;obtain ⟨⟨t400,t401⟩,A20,H⟩:=H;have A2:=wA.mk A20;clear A20;simp only [Option.some.injEq,Prod.mk.injEq] at H;obtain ⟨rfl,rfl⟩:=H;go_enter Tryd.func78,Tryd.ntmps78
 go_wp2_with (first|((with_reducible refine wL (N:=2) rfl ?_);refine wM ?hg (N:=2) ?hd (cs:=#[.bool false,.slice none 0 0]) (t:=49) ?hr ?_;(case hd=>rfl);(case hg=>rfl);(case hr=>exact zz156);intro gb399 hg w3 hbox hb;have BK399:=wA.mk (hbox);have GW399:=wA.mk ((by rw [hg];exact (wB (zz3)):w.heap.size≤gb399));have GE399:=wA.mk ((by rw [hg];exact (wB (zz3)):w.heap.size≤gb399));replace HB:=wA.mk (wC (zz3) hb);clear hb hbox hg)|((with_reducible refine wI (f:=80) rfl ?_);refine wR (some 4) rfl rfl Tryd.func80 (zz0) rfl #[.bool false,.slice A0 l0.length c0] rfl (zz20) ?_;(with_reducible refine (U12.calls k false _ _ l0 t400 t401 _ ?_ ?_ A2.out).mono ?_);exact zz160;exact HC0.out;rintro e w4 ⟨v402,rfl,ho0,hb⟩;refine ⟨_,rfl,?_⟩;have HO403:=wA.mk (Kd.R_lower ho0 (wB (have h0_:=GE399;zz6)));replace BK399:=wA.mk (wF (have h0_:=BK399;zz23) hb);replace HB:=wA.mk (wC (have h0_:=GE399;zz6) hb);(try clear hb);(try clear ho0);obtain ⟨hcz5_0,hcz5_1,hfz5_0,hfz5_1⟩:=zc2 BK399.out;obtain ⟨Ao6,co6,eo6⟩:=Kd.R_slice HO403.out;subst eo6))
 refine bodyPost_ret (results_cell_row rfl _ _ gb399 49 #[.bool t400,.slice Ao6 t401.length co6] (0,0) _ rfl (by (with_reducible repeat (first|refine wE ?_ _|refine wG ?_|refine wD ?_ _));refine wP (cs:=#[.bool t400,.slice none 0 0]) ?_ 1 _ rfl;(with_reducible repeat (first|refine wE ?_ _|refine wG ?_|refine wD ?_ _));refine wP (cs:=#[.bool false,.slice none 0 0]) ?_ 0 _ rfl;(with_reducible repeat (first|refine wE ?_ _|refine wG ?_|refine wD ?_ _));exact BK399.out) Tryd.underlying49 rfl (zz0)) rfl ?_
 exact ⟨_,zz8,by (with_reducible repeat (first|apply Kd.R_alloc|apply Kd.R_drewN|apply Kd.R_drew));exact Kd.R_mono (Kd.R_far (p:=⟨gb399,1,none⟩) (Kd.R_far (p:=⟨gb399,0,none⟩) (Kd.R_types HO403.out BK399.out (zz26)) (fun _ hk=>hk.2) (.bool t400)) (fun _ hk=>hk.2) (.slice Ao6 t401.length co6)) (fun _ hk=>trivial),(have h0_:=GE399;zz6)⟩
def U53.f (k:Nat) (a0_0:Bool) (l0_1:List Int) (l0_2:List Int):Option (Bool × List Int × Bool × List Int):=(U20.f k l0_2).bind fun t407=>(if t407 = 0 then ((nat_Of.f k 1).bind fun t408=>((U54.f k t408).bind fun bt411=>(some (false,([]:List Int),bt411.1,bt411.2)))) else ((U54.f k l0_2).bind fun bt415=>(some (a0_0,l0_1,bt415.1,bt415.2))))
theorem zm13_2 {P:Prop} (h:P:=by repeat' first|(with_reducible first|exact U20.mono ..|exact nat_Of.mono ..|exact U54.mono ..|exact LeO.refl _|exact LeO.none _|refine LeO.ite ?_ ?_|refine LeO.bind ?_ (fun _=>?_))|exact U20.mono ..|exact nat_Of.mono ..|exact U54.mono ..|exact LeO.none _|refine LeO.ite ?_ ?_|refine LeO.bind ?_ (fun _=>?_)):P:=h
theorem U53.mono:∀ a0 a1 a2 k,LeO (U53.f k a0 a1 a2) (U53.f (k+1) a0 a1 a2):=by
 intro a0 a1 a2 k;unfold U53.f
 exact zm13_2
set_option maxHeartbeats 8000000 in
set_option maxRecDepth 100000 in
theorem U53.calls (k:Nat) (a0_0:Bool) (P0_1_:Nat→Prop) (A0_1:Option Addr) (c0_1:Nat) (l0_1:List Int) (A0_2:Option Addr) (c0_2:Nat) (l0_2:List Int) (r1:Bool) (r2:List Int) (r3:Bool) (r4:List Int) (w:World) (hs0_1:Kd.V (Kd.int .u32) 79 w w.heap.size (fun k_=>P0_1_ k_) (.slice A0_1 l0_1.length c0_1) l0_1) (hr0_2:Kd.C (Kd.int .u32) w A0_2 l0_2.length l0_2) (hc0_2:l0_2.length≤c0_2) (h:U53.f k a0_0 l0_1 l0_2 = some (r1,r2,r3,r4)) :
  Calls Tryd.prog 62 #[.agg #[.bool a0_0,.slice A0_1 l0_1.length c0_1,.slice A0_2 l0_2.length c0_2]] w fun e w'=>∃ v1_ v3_:Value,e = .returned (.tuple #[.agg #[.bool r1,v1_],.agg #[.bool r3,v3_]])∧Kd.V (Kd.int .u32) 79 w' w.heap.size (fun k_=>(P0_1_ k_∨w.heap.size≤k_)∧some k_ ≠ (v3_:Value).ownBlock) v1_ r2∧Kd.R (Kd.int .u32) 79 w' w.heap.size (fun k_=>(w.heap.size≤k_)) v3_ r4∧Below w.heap.size w w':=by
 have hu51:=Tryd.underlying51;have hu49:=Tryd.underlying49;have HO0_1:=wA.mk (show Kd.V (Kd.int .u32) 79 w w.heap.size (fun k_=>(P0_1_ k_∨w.heap.size≤k_)) (.slice A0_1 l0_1.length c0_1) l0_1 from Kd.V_mono hs0_1 (fun k_ hk=>.inl hk));have HR0_2:=wA.mk hr0_2;have HC0_2:=wA.mk hc0_2;clear hr0_2 hc0_2;have HB:=wA.mk (Below.refl w.heap.size w);have H:((U20.f k l0_2).bind fun t407=>(if t407 = 0 then ((nat_Of.f k 1).bind fun t408=>((U54.f k t408).bind fun bt411=>(some (false,([]:List Int),bt411.1,bt411.2)))) else ((U54.f k l0_2).bind fun bt415=>(some (a0_0,l0_1,bt415.1,bt415.2))))) = some (r1,r2,r3,r4):=h;clear h;replace H:=zzb H;obtain ⟨t407,A2,H⟩:=H;replace H:=zzj H;rcases H with ⟨c3,H⟩|⟨c3,H⟩
 ·have c3b0:=beq_iff_eq.mpr c3;have c3b1:=bne_eq_false_iff_eq.mpr c3;clear c3;replace H:=zzb H;obtain ⟨t408,A4,H⟩:=H;replace H:=Option.bind_eq_some_iff.mp H;obtain ⟨⟨t411,t412⟩,A50,H⟩:=H;have A5:=wA.mk A50;clear A50;simp only [Option.some.injEq,Prod.mk.injEq] at H;obtain ⟨rfl,rfl,rfl,rfl⟩:=H;go_enter Tryd.func62,Tryd.ntmps62
  go_wp2_with (first|((with_reducible refine wL (N:=1) rfl ?_);refine wM ?hg (N:=1) ?hd (cs:=#[.bool a0_0,.slice A0_1 l0_1.length c0_1,.slice A0_2 l0_2.length c0_2]) (t:=51) ?hr ?_;(case hd=>rfl);(case hg=>rfl);(case hr=>exact zz156);intro gb404 hg w6 hbox hb;replace HO0_1:=wA.mk (Kd.V_below (Kd.V_elderB (zz49) gb404 (Nat.le_of_eq hg.symm)) hb);have BK404:=wA.mk (hbox);have GW404:=wA.mk ((by rw [hg];exact (wB (zz3)):w.heap.size≤gb404));have GE404:=wA.mk ((by rw [hg];exact (wB (zz3)):w.heap.size≤gb404));replace HB:=wA.mk (wC (zz3) hb);clear hb hbox hg)|((with_reducible refine wL (N:=2) rfl ?_);refine wM ?hg (N:=2) ?hd (cs:=#[.bool false,.slice none 0 0]) (t:=49) ?hr ?_;(case hd=>rfl);(case hg=>rfl);(case hr=>exact zz156);intro gb405 hg w7 hbox hb;replace HO0_1:=wA.mk (Kd.V_below (Kd.V_elderB (zz49) gb405 (Nat.le_of_eq hg.symm)) hb);have BK405:=wA.mk (hbox);have GW405:=wA.mk ((by rw [hg];exact (wB (have h0_:=GE404;zz6)):w.heap.size≤gb405));have GE405:=wA.mk ((by rw [hg];exact (wB (have h0_:=GE404;zz6)):w.heap.size≤gb405));replace HB:=wA.mk (wC (have h0_:=GE404;zz6) hb);have NB404_405:=wA.mk ((by rw [hg];exact Nat.ne_of_lt (wN (g:=gb404) (o:=.cells #[.bool a0_0,.slice A0_1 l0_1.length c0_1,.slice A0_2 l0_2.length c0_2] 51 (0,0)) (zz59)):gb404 ≠ gb405));have NB405_404:=wA.mk ((by rw [hg];exact Nat.ne_of_gt (wN (g:=gb404) (o:=.cells #[.bool a0_0,.slice A0_1 l0_1.length c0_1,.slice A0_2 l0_2.length c0_2] 51 (0,0)) (zz59)):gb405 ≠ gb404));replace BK404:=wA.mk (wF (zz59) hb);clear hb hbox hg)|((with_reducible refine wL (N:=3) rfl ?_);refine wM ?hg (N:=3) ?hd (cs:=#[.bool false,.slice none 0 0]) (t:=49) ?hr ?_;(case hd=>rfl);(case hg=>rfl);(case hr=>exact zz156);intro gb406 hg w8 hbox hb;replace HO0_1:=wA.mk (Kd.V_below (Kd.V_elderB (zz49) gb406 (Nat.le_of_eq hg.symm)) hb);have BK406:=wA.mk (hbox);have GW406:=wA.mk ((by rw [hg];exact (wB (have h0_:=GE404;have h1_:=GE405;zz57)):w.heap.size≤gb406));have GE406:=wA.mk ((by rw [hg];exact (wB (have h0_:=GE404;have h1_:=GE405;zz57)):w.heap.size≤gb406));replace HB:=wA.mk (wC (have h0_:=GE404;have h1_:=GE405;zz57) hb);have NB404_406:=wA.mk ((by rw [hg];exact Nat.ne_of_lt (wN (g:=gb404) (o:=.cells #[.bool a0_0,.slice A0_1 l0_1.length c0_1,.slice A0_2 l0_2.length c0_2] 51 (0,0)) (zz59)):gb404 ≠ gb406));have NB406_404:=wA.mk ((by rw [hg];exact Nat.ne_of_gt (wN (g:=gb404) (o:=.cells #[.bool a0_0,.slice A0_1 l0_1.length c0_1,.slice A0_2 l0_2.length c0_2] 51 (0,0)) (zz59)):gb406 ≠ gb404));replace BK404:=wA.mk (wF (zz59) hb);have NB405_406:=wA.mk ((by rw [hg];exact Nat.ne_of_lt (wN (g:=gb405) (o:=.cells #[.bool false,.slice none 0 0] 49 (0,0)) (zz60)):gb405 ≠ gb406));have NB406_405:=wA.mk ((by rw [hg];exact Nat.ne_of_gt (wN (g:=gb405) (o:=.cells #[.bool false,.slice none 0 0] 49 (0,0)) (zz60)):gb406 ≠ gb405));replace BK405:=wA.mk (wF (zz60) hb);clear hb hbox hg;have hnb9:=NB404_405.out;have hnc9:=NB405_404.out;have hnb10:=NB404_406.out;have hnc10:=NB406_404.out;obtain ⟨hcz11_0,hcz11_1,hcz11_2,hfz11_0,hfz11_1,hfz11_2⟩:=zc3 BK404.out)|((with_reducible refine wI (f:=77) rfl ?_);refine wR (some 6) rfl rfl Tryd.func77 (zz0) rfl #[.slice A0_2 l0_2.length c0_2] rfl (zz20) ?_;(with_reducible refine (U20.calls k _ _ l0_2 t407 _ ?_ ?_ A2.out).mono ?_);(exact (have h0_:=HR0_2;zz157));exact HC0_2.out;rintro e w12 ⟨rfl,hb⟩;refine ⟨_,rfl,?_⟩;replace HO0_1:=wA.mk (Kd.V_below (zz49) hb);replace BK404:=wA.mk (wF (zz59) hb);replace BK405:=wA.mk (wF (zz60) hb);replace BK406:=wA.mk (wF (have h0_:=BK406;zz23) hb);replace HB:=wA.mk (wC (zz61) hb);(try clear hb))|((with_reducible refine wI (f:=57) rfl ?_);refine wR (some 9) rfl rfl Tryd.func57 (zz0) rfl #[.int .u64 1] rfl (zz20) ?_;(with_reducible refine (nat_Of.calls k 1 t408 _ A4.out).mono ?_);rintro e w13 ⟨v409,rfl,ho0,hb⟩;refine ⟨_,rfl,?_⟩;replace HO0_1:=wA.mk (Kd.V_below (zz49) hb);have HO410:=wA.mk (Kd.V_lower (Kd.V_mono (ok':=fun k_=>(P0_1_ k_∨w.heap.size≤k_)∧k_ ≠ gb404∧k_ ≠ gb405∧k_ ≠ gb406) ho0 (fun k_ hk_=>⟨(.inr (Nat.le_trans (wB (zz61)) hk_)),(Kd.freshB (g:=gb404) (o:=.cells #[.bool a0_0,.slice A0_1 l0_1.length c0_1,.slice A0_2 l0_2.length c0_2] 51 (0,0)) (zz59) k_ hk_),(Kd.freshB (g:=gb405) (o:=.cells #[.bool false,.slice none 0 0] 49 (0,0)) (zz60) k_ hk_),(Kd.freshB (g:=gb406) (o:=.cells #[.bool false,.slice none 0 0] 49 (0,0)) (have h0_:=BK406;zz23) k_ hk_)⟩)) (wB (zz61)));replace BK404:=wA.mk (wF (zz59) hb);replace BK405:=wA.mk (wF (zz60) hb);replace BK406:=wA.mk (wF (have h0_:=BK406;zz23) hb);replace HB:=wA.mk (wC (zz61) hb);(try clear hb);(try clear ho0);obtain ⟨Ao14,co14,eo14⟩:=Kd.V_slice HO410.out;subst eo14)|((with_reducible refine wI (f:=78) rfl ?_);refine wR (some 10) rfl rfl Tryd.func78 (zz0) rfl #[.slice Ao14 t408.length co14] rfl (zz20) ?_;(with_reducible refine (U54.calls k _ _ t408 t411 t412 _ ?_ ?_ A5.out).mono ?_);(exact (have h0_:=HO410;zz170));(exact (have h0_:=HO410;zz172));rintro e w15 ⟨v413,rfl,ho0,hb⟩;refine ⟨_,rfl,?_⟩;replace HO0_1:=wA.mk (Kd.V_elder' (zz49) (Kd.R_base ho0) hb);replace HO410:=wA.mk (Kd.V_elder' (have h0_:=HO410;zz41) (Kd.R_base ho0) hb);have HO414:=wA.mk (Kd.R_lower (Kd.R_newM (M:=fun k_=>(w.heap.size≤k_)) ho0 (wB (zz61)) (fun k_ h_=>h_)) (wB (zz61)));replace BK404:=wA.mk (wF (zz59) hb);replace BK405:=wA.mk (wF (zz60) hb);replace BK406:=wA.mk (wF (have h0_:=BK406;zz23) hb);replace HB:=wA.mk (wC (zz61) hb);(try clear hb);(try clear ho0);have hnb16:=NB405_406.out;have hnc16:=NB406_405.out;obtain ⟨hcz17_0,hcz17_1,hfz17_0,hfz17_1⟩:=zc2 BK405.out;obtain ⟨hcz18_0,hcz18_1,hfz18_0,hfz18_1⟩:=zc2 BK406.out;obtain ⟨Ao19,co19,eo19⟩:=Kd.R_slice HO414.out;subst eo19))
  refine bodyPost_ret (qJ rfl _ _ gb405 gb406 49 49 #[.bool false,.slice none 0 0] #[.bool t411,.slice Ao19 t412.length co19] (0,0) (0,0) _ _ rfl (by (with_reducible repeat (first|refine wE ?_ _|refine wG ?_|refine wD ?_ _));refine wQ ?_ NB405_406.out _;(with_reducible repeat (first|refine wE ?_ _|refine wG ?_|refine wD ?_ _));refine wQ ?_ NB405_406.out _;(with_reducible repeat (first|refine wE ?_ _|refine wG ?_|refine wD ?_ _));refine wP (cs:=#[.bool false,.slice none 0 0]) ?_ 1 _ rfl;(with_reducible repeat (first|refine wE ?_ _|refine wG ?_|refine wD ?_ _));refine wP (cs:=#[.bool false,.slice none 0 0]) ?_ 0 _ rfl;(with_reducible repeat (first|refine wE ?_ _|refine wG ?_|refine wD ?_ _));exact BK405.out) Tryd.underlying49 rfl (zz0) rfl (by (with_reducible repeat (first|refine wE ?_ _|refine wG ?_|refine wD ?_ _));refine wP (cs:=#[.bool t411,.slice none 0 0]) ?_ 1 _ rfl;(with_reducible repeat (first|refine wE ?_ _|refine wG ?_|refine wD ?_ _));refine wP (cs:=#[.bool false,.slice none 0 0]) ?_ 0 _ rfl;(with_reducible repeat (first|refine wE ?_ _|refine wG ?_|refine wD ?_ _));refine wQ ?_ NB406_405.out _;(with_reducible repeat (first|refine wE ?_ _|refine wG ?_|refine wD ?_ _));refine wQ ?_ NB406_405.out _;(with_reducible repeat (first|refine wE ?_ _|refine wG ?_|refine wD ?_ _));exact BK406.out) Tryd.underlying49 rfl (zz0)) rfl ?_
  exact ⟨_,_,zz8,(Kd.V_nil _ _ _ _ _),by (with_reducible repeat (first|apply Kd.R_alloc|apply Kd.R_drewN|apply Kd.R_drew));exact Kd.R_mono (Kd.R_far (p:=⟨gb406,1,none⟩) (Kd.R_far (p:=⟨gb406,0,none⟩) (Kd.R_far (p:=⟨gb405,1,none⟩) (Kd.R_far (p:=⟨gb405,0,none⟩) (Kd.R_types (Kd.R_types HO414.out BK405.out (zz26)) BK406.out (zz26)) (fun _ hk=>hk.1.2) (.bool false)) (fun _ hk=>hk.1.2) (.slice none 0 0)) (fun _ hk=>hk.2) (.bool t411)) (fun _ hk=>hk.2) (.slice Ao19 t412.length co19)) (fun _ hk=>hk.1.1.1),zz61⟩
 ·have c3b0:=beq_eq_false_iff_ne.mpr c3;have c3b1:=bne_iff_ne.mpr c3;replace H:=Option.bind_eq_some_iff.mp H;obtain ⟨⟨t415,t416⟩,A200,H⟩:=H;have A20:=wA.mk A200;clear A200;simp only [Option.some.injEq,Prod.mk.injEq] at H;obtain ⟨rfl,rfl,rfl,rfl⟩:=H;go_enter Tryd.func62,Tryd.ntmps62
  try go_wp2_with (first|((with_reducible refine wL (N:=1) rfl ?_);refine wM ?hg (N:=1) ?hd (cs:=#[.bool a0_0,.slice A0_1 l0_1.length c0_1,.slice A0_2 l0_2.length c0_2]) (t:=51) ?hr ?_;(case hd=>rfl);(case hg=>rfl);(case hr=>exact zz156);intro gb404 hg w21 hbox hb;replace HO0_1:=wA.mk (Kd.V_below (Kd.V_elderB (zz49) gb404 (Nat.le_of_eq hg.symm)) hb);have BK404:=wA.mk (hbox);have GW404:=wA.mk ((by rw [hg];exact (wB (zz3)):w.heap.size≤gb404));have GE404:=wA.mk ((by rw [hg];exact (wB (zz3)):w.heap.size≤gb404));replace HB:=wA.mk (wC (zz3) hb);clear hb hbox hg)|((with_reducible refine wL (N:=2) rfl ?_);refine wM ?hg (N:=2) ?hd (cs:=#[.bool false,.slice none 0 0]) (t:=49) ?hr ?_;(case hd=>rfl);(case hg=>rfl);(case hr=>exact zz156);intro gb405 hg w22 hbox hb;replace HO0_1:=wA.mk (Kd.V_below (Kd.V_elderB (zz49) gb405 (Nat.le_of_eq hg.symm)) hb);have BK405:=wA.mk (hbox);have GW405:=wA.mk ((by rw [hg];exact (wB (have h0_:=GE404;zz6)):w.heap.size≤gb405));have GE405:=wA.mk ((by rw [hg];exact (wB (have h0_:=GE404;zz6)):w.heap.size≤gb405));replace HB:=wA.mk (wC (have h0_:=GE404;zz6) hb);have NB404_405:=wA.mk ((by rw [hg];exact Nat.ne_of_lt (wN (g:=gb404) (o:=.cells #[.bool a0_0,.slice A0_1 l0_1.length c0_1,.slice A0_2 l0_2.length c0_2] 51 (0,0)) (zz59)):gb404 ≠ gb405));have NB405_404:=wA.mk ((by rw [hg];exact Nat.ne_of_gt (wN (g:=gb404) (o:=.cells #[.bool a0_0,.slice A0_1 l0_1.length c0_1,.slice A0_2 l0_2.length c0_2] 51 (0,0)) (zz59)):gb405 ≠ gb404));replace BK404:=wA.mk (wF (zz59) hb);clear hb hbox hg)|((with_reducible refine wL (N:=3) rfl ?_);refine wM ?hg (N:=3) ?hd (cs:=#[.bool false,.slice none 0 0]) (t:=49) ?hr ?_;(case hd=>rfl);(case hg=>rfl);(case hr=>exact zz156);intro gb406 hg w23 hbox hb;replace HO0_1:=wA.mk (Kd.V_below (Kd.V_elderB (zz49) gb406 (Nat.le_of_eq hg.symm)) hb);have BK406:=wA.mk (hbox);have GW406:=wA.mk ((by rw [hg];exact (wB (have h0_:=GE404;have h1_:=GE405;zz57)):w.heap.size≤gb406));have GE406:=wA.mk ((by rw [hg];exact (wB (have h0_:=GE404;have h1_:=GE405;zz57)):w.heap.size≤gb406));replace HB:=wA.mk (wC (have h0_:=GE404;have h1_:=GE405;zz57) hb);have NB404_406:=wA.mk ((by rw [hg];exact Nat.ne_of_lt (wN (g:=gb404) (o:=.cells #[.bool a0_0,.slice A0_1 l0_1.length c0_1,.slice A0_2 l0_2.length c0_2] 51 (0,0)) (zz59)):gb404 ≠ gb406));have NB406_404:=wA.mk ((by rw [hg];exact Nat.ne_of_gt (wN (g:=gb404) (o:=.cells #[.bool a0_0,.slice A0_1 l0_1.length c0_1,.slice A0_2 l0_2.length c0_2] 51 (0,0)) (zz59)):gb406 ≠ gb404));replace BK404:=wA.mk (wF (zz59) hb);have NB405_406:=wA.mk ((by rw [hg];exact Nat.ne_of_lt (wN (g:=gb405) (o:=.cells #[.bool false,.slice none 0 0] 49 (0,0)) (zz60)):gb405 ≠ gb406));have NB406_405:=wA.mk ((by rw [hg];exact Nat.ne_of_gt (wN (g:=gb405) (o:=.cells #[.bool false,.slice none 0 0] 49 (0,0)) (zz60)):gb406 ≠ gb405));replace BK405:=wA.mk (wF (zz60) hb);clear hb hbox hg;have hnb24:=NB404_405.out;have hnc24:=NB405_404.out;have hnb25:=NB404_406.out;have hnc25:=NB406_404.out;obtain ⟨hcz26_0,hcz26_1,hcz26_2,hfz26_0,hfz26_1,hfz26_2⟩:=zc3 BK404.out)|((with_reducible refine wI (f:=77) rfl ?_);refine wR (some 6) rfl rfl Tryd.func77 (zz0) rfl #[.slice A0_2 l0_2.length c0_2] rfl (zz20) ?_;(with_reducible refine (U20.calls k _ _ l0_2 t407 _ ?_ ?_ A2.out).mono ?_);(exact (have h0_:=HR0_2;zz157));exact HC0_2.out;rintro e w27 ⟨rfl,hb⟩;refine ⟨_,rfl,?_⟩;replace HO0_1:=wA.mk (Kd.V_below (zz49) hb);replace BK404:=wA.mk (wF (zz59) hb);replace BK405:=wA.mk (wF (zz60) hb);replace BK406:=wA.mk (wF (have h0_:=BK406;zz23) hb);replace HB:=wA.mk (wC (zz61) hb);(try clear hb)))
  replace HO0_1:=wA.mk (Kd.V_drew HO0_1.out);replace BK404:=wA.mk (wG BK404.out);replace BK405:=wA.mk (wG BK405.out);replace BK406:=wA.mk (wG BK406.out);replace HB:=wA.mk (wS HB.out);refine yP (n:=7) (S:=fun w'=>w'.cell? ⟨gb404,0,none⟩ = some (.bool a0_0)∧w'.cell? ⟨gb404,1,none⟩ = some (.slice A0_1 l0_1.length c0_1)∧w'.cell? ⟨gb404,2,none⟩ = some (.slice A0_2 l0_2.length c0_2)) (ds:=[]) #[fF,fF,fF,fF,fF,fF,fF] (zz0) rfl rfl ⟨(wH BK404.out 0).trans rfl,(wH BK404.out 1).trans rfl,(wH BK404.out 2).trans rfl⟩ (fun hHeld=>?_)
  generalize w27.drew = w28 at HO0_1 BK404 BK405 BK406 HB hHeld ⊢
  refine yF (i:=0) (N:=some 11) (v:=?_) (a':=?_) #[tT,fF,fF,fF,fF,fF,fF] rfl rfl (zz0) (fun _ _ _ h=>h) (Or.inl ⟨zz25,?_⟩) ?_ ?_;rotate_left
  ·intro w';go_simp;with_reducible rfl
  rotate_left;·simp only [zzs];rfl
  refine yF (i:=2) (N:=some 13) (v:=?_) (a':=?_) #[tT,fF,tT,fF,fF,fF,fF] rfl rfl (zz0) (fun _ _ _ h=>h) (Or.inl ⟨zz25,?_⟩) ?_ ?_;rotate_left
  ·intro w';go_simp;with_reducible rfl
  rotate_left;·simp only [zzs];rfl
  refine take_ (i:=1) (N:=some 12) (v:=?_) (a':=?_) #[tT,tT,tT,fF,fF,fF,fF] rfl rfl (zz0) (fun _ _ _ h=>h) (Or.inl ⟨zz25,?_⟩) hHeld ?_ ?_;rotate_left
  ·rintro w' ⟨s0,s1,s2⟩
   go_simp
   with_reducible rfl
  rotate_left;·simp only [zzs];rfl
  refine take_ (i:=3) (N:=some 14) (v:=?_) (a':=?_) #[tT,tT,tT,tT,fF,fF,fF] rfl rfl (zz0) (fun _ _ _ h=>h) (Or.inl ⟨zz25,?_⟩) hHeld ?_ ?_;rotate_left
  ·rintro w' ⟨s0,s1,s2⟩
   go_simp
   with_reducible rfl
  rotate_left;·simp only [zzs];rfl
  refine zA (i:=4) (N:=some 15) #[tT,tT,tT,tT,tT,fF,fF] rfl rfl (zz0) (zz26) (fun K hK=>?_);refine yT Tryd.func78 (zz0) rfl #[.slice A0_2 l0_2.length c0_2] (zz25) rfl rfl (zz20) ?_
  with_reducible refine (U54.calls k _ _ l0_2 t415 t416 _ ?side1 ?side2 A20.out).mono ?_
  (case side1=>exact (have h0_:=HR0_2;zz157));(case side2=>exact HC0_2.out);rintro e w29 ⟨v417,rfl,ho0,hb⟩;refine ⟨_,rfl,?_⟩;replace HO0_1:=wA.mk (Kd.V_elder' (zz49) (Kd.R_base ho0) hb);have HO418:=wA.mk (Kd.R_lower (Kd.R_newM (M:=fun k_=>(w.heap.size≤k_)) ho0 (wB (zz61)) (fun k_ h_=>h_)) (wB (zz61)));replace BK404:=wA.mk (wF (zz59) hb);replace BK405:=wA.mk (wF (zz60) hb);replace BK406:=wA.mk (wF (have h0_:=BK406;zz23) hb);replace HB:=wA.mk (wC (zz61) hb)
  (try clear hb);(try clear hk);(try clear ho0);obtain ⟨Ao33,co33,eo33⟩:=Kd.R_slice HO418.out
  (first|subst eo33|(injection eo33 with f1_ f2_ f3_;have f4_:=f1_.symm;have f5_:=f3_.symm;clear f1_ f2_ f3_;subst f4_;subst f5_));refine hK.out _ _ ⟨(wH BK404.out 0).trans rfl,(wH BK404.out 1).trans rfl,(wH BK404.out 2).trans rfl⟩ (fun hHeld=>?_);clear hK K;refine yB (a':=?_) ?_ ?_;rotate_left
  ·show Act.put _ (some 15) _ = _;simp only [zzs];rfl
  refine zA (i:=5) (N:=none) #[tT,tT,tT,tT,tT,tT,fF] rfl rfl (zz0) (zz26) (fun K hK=>?_);have hs30:w29.cell? ⟨gb405,0,none⟩ = some (.bool false):=(wH BK405.out 0).trans rfl;have hfs30:=yH BK405.out 0;have hns30_0:=NB404_405.out;have hns30_2:=NB406_405.out;have hms30_0:=NB405_404.out;have hms30_2:=NB405_406.out;have hs31:w29.cell? ⟨gb405,1,none⟩ = some (.slice none 0 0):=(wH BK405.out 1).trans rfl;have hfs31:=yH BK405.out 1;have hns31_0:=NB404_405.out;have hns31_2:=NB406_405.out;have hms31_0:=NB405_404.out;have hms31_2:=NB405_406.out;refine vI (w1:=?_) (zz25) rfl ?_ ?_;rotate_left
  ·go_simp;rfl
  refine hK.out _ _ ⟨((wK (p:=⟨gb405,_,none⟩) NB404_405.out _).trans (((wK (p:=⟨gb405,_,none⟩) NB404_405.out _).trans (hHeld.1)))),((wK (p:=⟨gb405,_,none⟩) NB404_405.out _).trans (((wK (p:=⟨gb405,_,none⟩) NB404_405.out _).trans (hHeld.2.1)))),((wK (p:=⟨gb405,_,none⟩) NB404_405.out _).trans (((wK (p:=⟨gb405,_,none⟩) NB404_405.out _).trans (hHeld.2.2))))⟩ (fun hHeld=>?_);clear hK K;refine zA (i:=6) (N:=none) #[tT,tT,tT,tT,tT,tT,tT] rfl rfl (zz0) (zz26) (fun K hK=>?_);have hs32:w29.cell? ⟨gb406,0,none⟩ = some (.bool false):=(wH BK406.out 0).trans rfl;have hfs32:=yH BK406.out 0;have hns32_0:=NB404_406.out;have hns32_1:=NB405_406.out;have hms32_0:=NB406_404.out;have hms32_1:=NB406_405.out;have hs34:w29.cell? ⟨gb406,1,none⟩ = some (.slice none 0 0):=(wH BK406.out 1).trans rfl;have hfs34:=yH BK406.out 1;have hns34_0:=NB404_406.out;have hns34_1:=NB405_406.out;have hms34_0:=NB406_404.out;have hms34_1:=NB406_405.out;refine vI (w1:=?_) (zz25) rfl ?_ ?_;rotate_left
  ·go_simp;rfl
  refine hK.out _ _ ⟨((wK (p:=⟨gb406,_,none⟩) NB404_406.out _).trans (((wK (p:=⟨gb406,_,none⟩) NB404_406.out _).trans (hHeld.1)))),((wK (p:=⟨gb406,_,none⟩) NB404_406.out _).trans (((wK (p:=⟨gb406,_,none⟩) NB404_406.out _).trans (hHeld.2.1)))),((wK (p:=⟨gb406,_,none⟩) NB404_406.out _).trans (((wK (p:=⟨gb406,_,none⟩) NB404_406.out _).trans (hHeld.2.2))))⟩ (fun hHeld=>?_);clear hK K;refine yX (zz0) ?_
  try go_wp2
  refine bodyPost_ret (qJ rfl _ _ gb405 gb406 49 49 #[.bool a0_0,.slice A0_1 l0_1.length c0_1] #[.bool t415,.slice Ao33 t416.length co33] (0,0) (0,0) _ _ rfl (by (with_reducible repeat (first|refine wE ?_ _|refine wG ?_|refine wD ?_ _));refine wQ ?_ NB405_406.out _;(with_reducible repeat (first|refine wE ?_ _|refine wG ?_|refine wD ?_ _));refine wQ ?_ NB405_406.out _;(with_reducible repeat (first|refine wE ?_ _|refine wG ?_|refine wD ?_ _));refine wP (cs:=#[.bool a0_0,.slice none 0 0]) ?_ 1 _ rfl;(with_reducible repeat (first|refine wE ?_ _|refine wG ?_|refine wD ?_ _));refine wP (cs:=#[.bool false,.slice none 0 0]) ?_ 0 _ rfl;(with_reducible repeat (first|refine wE ?_ _|refine wG ?_|refine wD ?_ _));exact BK405.out) Tryd.underlying49 rfl (zz0) rfl (by (with_reducible repeat (first|refine wE ?_ _|refine wG ?_|refine wD ?_ _));refine wP (cs:=#[.bool t415,.slice none 0 0]) ?_ 1 _ rfl;(with_reducible repeat (first|refine wE ?_ _|refine wG ?_|refine wD ?_ _));refine wP (cs:=#[.bool false,.slice none 0 0]) ?_ 0 _ rfl;(with_reducible repeat (first|refine wE ?_ _|refine wG ?_|refine wD ?_ _));refine wQ ?_ NB406_405.out _;(with_reducible repeat (first|refine wE ?_ _|refine wG ?_|refine wD ?_ _));refine wQ ?_ NB406_405.out _;(with_reducible repeat (first|refine wE ?_ _|refine wG ?_|refine wD ?_ _));exact BK406.out) Tryd.underlying49 rfl (zz0)) rfl ?_
  exact ⟨_,_,zz8,by (with_reducible repeat (first|apply Kd.V_alloc|apply Kd.V_drewN|apply Kd.V_drew));exact Kd.V_mono (Kd.V_far (p:=⟨gb406,1,none⟩) (Kd.V_far (p:=⟨gb406,0,none⟩) (Kd.V_far (p:=⟨gb405,1,none⟩) (Kd.V_far (p:=⟨gb405,0,none⟩) (Kd.V_mono (Kd.V_mono HO0_1.out (fun k_ hk=>(⟨hk,hk.1.1.2⟩:_∧k_ ≠ gb405))) (fun k_ hk=>(⟨hk,hk.1.1.2⟩:_∧k_ ≠ gb406))) (fun _ hk=>hk.1.2) (.bool a0_0)) (fun _ hk=>hk.1.2) (.slice A0_1 l0_1.length c0_1)) (fun _ hk=>hk.2) (.bool t415)) (fun _ hk=>hk.2) (.slice Ao33 t416.length co33)) (fun _ hk=>⟨hk.1.1.1.1.1.1,hk.1.1.2⟩),by (with_reducible repeat (first|apply Kd.R_alloc|apply Kd.R_drewN|apply Kd.R_drew));exact Kd.R_mono (Kd.R_far (p:=⟨gb406,1,none⟩) (Kd.R_far (p:=⟨gb406,0,none⟩) (Kd.R_far (p:=⟨gb405,1,none⟩) (Kd.R_far (p:=⟨gb405,0,none⟩) (Kd.R_types (Kd.R_types HO418.out BK405.out (zz26)) BK406.out (zz26)) (fun _ hk=>hk.1.2) (.bool a0_0)) (fun _ hk=>hk.1.2) (.slice A0_1 l0_1.length c0_1)) (fun _ hk=>hk.2) (.bool t415)) (fun _ hk=>hk.2) (.slice Ao33 t416.length co33)) (fun _ hk=>hk.1.1.1),zz61⟩
end Go.Proofs.YtnimkmkapajnhaaDoor.QA
