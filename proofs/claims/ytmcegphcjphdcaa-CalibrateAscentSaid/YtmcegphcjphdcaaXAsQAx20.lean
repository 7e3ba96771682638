import Derived.Test.YtmcegphcjphdcaaXAsQAx0
import Derived.Test.YtmcegphcjphdcaaXAsQAx2
namespace Go.Proofs.Ytmcegphcjphdcaa.QA
open Go.RowKit Go.Proofs.YtmcegphcjphdcaaW.PrintWords Go.Proofs.YtmcegphcjphdcaaW.PrintLast Go.Proofs.YtmcegphcjphdcaaW.PrintMore
attribute [local go_sem] max2_int min2_int max_two min_two max_three min_three max_four min_four
set_option linter.unusedVariables false
set_option linter.unusedSimpArgs false
def U15.f (l0:List (S56)):Option (Bool):=if (l0.length:Int) > 5 then (some (decide ((l0.length:Int)≤24))) else (some false)
set_option maxHeartbeats 8000000 in
set_option maxRecDepth 100000 in
theorem U15.calls (A0:Option Addr) (c0:Nat) (l0:List (S56)) (r:Bool) (w:World) (hr0:Kd.C k56 w A0 l0.length l0) (hc0:l0.length≤c0) (h:U15.f l0 = some r) :
  Calls Try.prog 23 #[.slice A0 l0.length c0] w fun e w'=>e = .returned (.bool r)∧Drawn0 w w':=by
 have HR0:=Aside0.mk hr0;have HC0:=Aside0.mk hc0;clear hr0 hc0;have H:(if (l0.length:Int) > 5 then (some (decide ((l0.length:Int)≤24))) else (some false)) = some r:=h;clear h;replace H:=zzj H;rcases H with ⟨c2,H⟩|⟨c2,H⟩
 ·have c2b0:=decide_eq_true c2;have c2b1:decide (5 < l0.length) = true:=decide_eq_true (zz4);clear c2;obtain rfl:=Option.some.inj H;go_enter Try.func23,Try.ntmps23
  go_wp2
  go_ret
  exact ⟨zz2,zz3⟩
 ·have c2b0:=decide_eq_false c2;have c2b1:decide (5 < l0.length) = false:=decide_eq_false (zz4);clear c2;obtain rfl:=Option.some.inj H;go_enter Try.func23,Try.ntmps23
  go_wp2
  go_ret
  exact ⟨zz2,zz3⟩
mutual
def U12.l0:Nat→List (List (S56))→Int→Option (Bool)
 | 0,_,_=>none
 | k+1,x0,x3=>if x3 < (x0.length:Int) then (U12.j1 k x0 x3 (decide (x3 < 70))) else (U12.j1 k x0 x3 false)
def U12.j1:Nat→List (List (S56))→Int→Bool→Option (Bool)
 | 0,_,_,_=>none
 | k+1,x0,x3,x11=>if x11 = true then (if 0≤x3 then (if x3 < (x0.length:Int) then ((U15.f (rd_L6 x0 x3)).bind fun t485=>(if t485 = true then (some true) else (U12.l0 k x0 (wrap64 (x3+1))))) else (none)) else (none)) else (some false)
end
def U12.f (k:Nat) (l0:List (List (S56))):Option (Bool):=U12.l0 k l0 0
theorem zm19_0 {P:Prop} (h:P:=by repeat' first|(with_reducible first|exact ih0 ..|exact ih1 ..|exact LeO.refl _|exact LeO.none _|refine LeO.ite ?_ ?_|refine LeO.bind ?_ (fun _=>?_))|exact ih0 ..|exact ih1 ..|exact LeO.none _|refine LeO.ite ?_ ?_|refine LeO.bind ?_ (fun _=>?_)):P:=h
theorem U12.mono_l:∀ k,(∀ y0 y1,LeO (U12.l0 k y0 y1) (U12.l0 (k+1) y0 y1))∧(∀ y0 y1 y2,LeO (U12.j1 k y0 y1 y2) (U12.j1 (k+1) y0 y1 y2))
 | 0=>⟨fun _ _ r h=>by simp [U12.l0] at h,fun _ _ _ r h=>by simp [U12.j1] at h⟩
 | k+1=>by
  obtain ⟨ih0,ih1⟩:=U12.mono_l k;refine ⟨?_,?_⟩
  ·intro y0 y1;unfold U12.l0
   exact zm19_0
  ·intro y0 y1 y2;unfold U12.j1
   exact zm19_0
theorem U12.mono:∀ a0 k,LeO (U12.f k a0) (U12.f (k+1) a0):=by
 intro a0 k;obtain ⟨ih0,ih1⟩:=U12.mono_l k;unfold U12.f
 exact zm19_0
set_option maxHeartbeats 8000000 in
set_option maxRecDepth 100000 in
theorem U12.calls (k:Nat) (A0:Option Addr) (c0:Nat) (l0:List (List (S56))) (r:Bool) (w:World) (hr0:Kd.C (Kd.slice 56 k56) w A0 l0.length l0) (hc0:l0.length≤c0) (h:U12.f k l0 = some r) :
  Calls Try.prog 17 #[.slice A0 l0.length c0] w fun e w'=>e = .returned (.bool r)∧Drawn0 w w':=by
 have HR0:=Aside0.mk hr0;have HC0:=Aside0.mk hc0;clear hr0 hc0;have H:(U12.l0 k l0 0) = some r:=h;clear h;have H':=Aside0.mk H;clear H;go_enter Try.func17,Try.ntmps17
 go_wp2
 go_loopg [3] k (fun kq v3 w'=>∃ (x3_1:Int),v3 = .int .i64 x3_1∧Aside0 (U12.l0 kq l0 x3_1 = some r)∧Aside0 (kq≤k)∧Drawn0 w w')
 case atStart=>exact ⟨(0),(zz2),H',⟨Nat.le_refl _⟩,zz3⟩
 case round =>
  clear H';obtain ⟨x3_1,rfl,HA,HK1,⟨m1,rfl⟩⟩:=hrel
  cases gk with
  | zero=>exact absurd HA.out (by simp [U12.l0])
  | succ k1 =>
   have H:=HA.out;clear HA;simp only [U12.l0] at H;have HC2:=Aside0.mk H;clear H
   go_upto_region 2 with (fail)
   go_cut [11] (fun v11 wc=>∃ (kq:Nat) (x11_1:Bool),v11 = .bool x11_1∧Aside0 (U12.j1 kq l0 x3_1 x11_1 = some r)∧Aside0 (kq≤k1)∧Drawn0 w wc)
   case first =>
    have H:=HC2.out;clear HC2;replace H:=zzj H;rcases H with ⟨c3,H⟩|⟨c3,H⟩
    ·have c3b0:=decide_eq_true c3;clear c3
     (first|rw [c3b0]|rw [c3b1]|(simp only [i64_w,i32_w];rw [c3b0])|skip)
     have H':=Aside0.mk H;clear H
     go_wp2
     go_meet
     case rel=>exact ⟨_,(decide (x3_1 < 70)),(zz2),H',⟨(have h0_:=HK1;zz33)⟩,zz3⟩
    ·have c3b0:=decide_eq_false c3;clear c3
     (first|rw [c3b0]|rw [c3b1]|(simp only [i64_w,i32_w];rw [c3b0])|skip)
     have H':=Aside0.mk H;clear H
     go_wp2
     go_meet
     case rel=>exact ⟨_,(false),(zz2),H',⟨(have h0_:=HK1;zz33)⟩,zz3⟩
   case rest =>
    clear HC2;obtain ⟨kq,x11_1,rfl,HA,HJ1,⟨mc1,rfl⟩⟩:=hcut
    cases kq with
    | zero=>exact absurd HA.out (by simp [U12.j1])
    | succ kj1 =>
     have H:=HA.out;clear HA;simp only [U12.j1] at H;by_cases c4:x11_1 = true
     ·subst c4;have H1:(if 0≤x3_1 then (if x3_1 < (l0.length:Int) then ((U15.f (rd_L6 l0 x3_1)).bind fun t485=>(if t485 = true then (some true) else (U12.l0 kj1 l0 (wrap64 (x3_1+1))))) else (none)) else (none)) = some r:=zz10;clear H;have H:=H1;clear H1;replace H:=zzi H;obtain ⟨c5,H⟩:=H;have c5b0:=decide_eq_true c5;clear c5;replace H:=zzi H;obtain ⟨c6,H⟩:=H;have c6b0:=decide_eq_true c6;clear c6;replace H:=zzb H;obtain ⟨t485,A7,H⟩:=H;by_cases c8:t485 = true
      ·subst c8;have H1:(some true) = some r:=zz10;clear H;have H:=H1;clear H1;obtain rfl:=Option.some.inj H;have p484:0≤(x3_1:Int):=of_decide_eq_true (zz11);have q484:x3_1 < (l0.length:Int):=of_decide_eq_true (zz11);obtain ⟨ad484,A484_0,c484_0,e484,hx484_0,hl484_0,hi484_0⟩:=at_L6 HR0.out x3_1 p484 q484
       cases e484
       have HR484_0:=Aside0.mk hi484_0;have HC484_0:=Aside0.mk hl484_0;clear hi484_0 hl484_0;replace p484:=eq_true p484;replace q484:=eq_true q484
       go_wp2_with (first|((with_reducible refine gate_callee (f:=23) rfl ?_);refine goesL_ (some 18) rfl rfl Try.func23 (zz0) rfl #[.slice A484_0 (rd_L6 l0 x3_1).length c484_0] rfl (zz18) ?_;(with_reducible refine (U15.calls _ _ (rd_L6 l0 x3_1) true _ ?_ ?_ A7.out).mono ?_);(exact (have h0_:=HR484_0;zz91));exact HC484_0.out;rintro e w' ⟨rfl,⟨nd,rfl⟩⟩;refine ⟨_,rfl,?_⟩))
       go_ret
       exact ⟨zz2,zz3⟩
      ·replace c8:=Bool.eq_false_iff.mpr c8;subst c8;have H1:(U12.l0 kj1 l0 (wrap64 (x3_1+1))) = some r:=zz13;clear H;have H:=H1;clear H1;have H':=Aside0.mk H;clear H;have p484:0≤(x3_1:Int):=of_decide_eq_true (zz11);have q484:x3_1 < (l0.length:Int):=of_decide_eq_true (zz11);obtain ⟨ad484,A484_0,c484_0,e484,hx484_0,hl484_0,hi484_0⟩:=at_L6 HR0.out x3_1 p484 q484
       cases e484
       have HR484_0:=Aside0.mk hi484_0;have HC484_0:=Aside0.mk hl484_0;clear hi484_0 hl484_0;replace p484:=eq_true p484;replace q484:=eq_true q484
       go_wp2_with (first|((with_reducible refine gate_callee (f:=23) rfl ?_);refine goesL_ (some 18) rfl rfl Try.func23 (zz0) rfl #[.slice A484_0 (rd_L6 l0 x3_1).length c484_0] rfl (zz18) ?_;(with_reducible refine (U15.calls _ _ (rd_L6 l0 x3_1) false _ ?_ ?_ A7.out).mono ?_);(exact (have h0_:=HR484_0;zz91));exact HC484_0.out;rintro e w' ⟨rfl,⟨nd,rfl⟩⟩;refine ⟨_,rfl,?_⟩))
       go_roundg kj1
       case measure=>have:=HK1.out;have:=HJ1.out;omega
       case rel=>exact ⟨(wrap64 (x3_1+1)),(zz2),H',⟨by have:=HK1.out;have:=HJ1.out;omega⟩,zz3⟩
     ·replace c4:=Bool.eq_false_iff.mpr c4;subst c4;have H1:(some false) = some r:=zz13;clear H;have H:=H1;clear H1;obtain rfl:=Option.some.inj H
      go_wp2
      go_ret
      exact ⟨zz2,zz3⟩
def U4.l0:Nat→List (S56)→List (S56)→Int→Int→Option (Int)
 | 0,_,_,_,_=>none
 | k+1,x0,x17,x18,x19=>if x19 < x18 then (if 0≤x19 then (if x19 < (x17.length:Int) then ((U21.f ((rd_T56 x17 x19).f0)).bind fun t489=>(if 0 < (x0.length:Int) then ((U21.f ((rd_T56 x0 0).f0)).bind fun t491=>(if t489 = t491 then (U4.l0 k x0 x17 x18 (wrap64 (x19+1))) else (some 19))) else (none))) else (none)) else (none)) else (some 0)
def U4.f (k:Nat) (l0:List (S56)) (a1:Int):Option (Int):=if (l0.length:Int) = 0 then (some 20) else ((U10.f k l0 a1 (-1)).bind fun t486=>(if t486 = 0 then (U4.l0 k l0 l0 (l0.length:Int) 0) else (some t486)))
theorem zm19_1 {P:Prop} (h:P:=by repeat' first|(with_reducible first|exact ih0 ..|exact U10.mono ..|exact LeO.refl _|exact LeO.none _|refine LeO.ite ?_ ?_|refine LeO.bind ?_ (fun _=>?_))|exact ih0 ..|exact U10.mono ..|exact LeO.none _|refine LeO.ite ?_ ?_|refine LeO.bind ?_ (fun _=>?_)):P:=h
theorem U4.mono_l:∀ k,(∀ y0 y1 y2 y3,LeO (U4.l0 k y0 y1 y2 y3) (U4.l0 (k+1) y0 y1 y2 y3))
 | 0=>fun _ _ _ _ r h=>by simp [U4.l0] at h
 | k+1=>by
  have ih0:=U4.mono_l k
  ·intro y0 y1 y2 y3;unfold U4.l0
   exact zm19_1
theorem U4.mono:∀ a0 a1 k,LeO (U4.f k a0 a1) (U4.f (k+1) a0 a1):=by
 intro a0 a1 k;have ih0:=U4.mono_l k;unfold U4.f
 exact zm19_1
set_option maxHeartbeats 8000000 in
set_option maxRecDepth 100000 in
theorem U4.calls (k:Nat) (A0:Option Addr) (c0:Nat) (l0:List (S56)) (a1:Int) (r:Int) (w:World) (hr0:Kd.C k56 w A0 l0.length l0) (hc0:l0.length≤c0) (h:U4.f k l0 a1 = some r) :
  Calls Try.prog 50 #[.slice A0 l0.length c0,.int .i64 a1] w fun e w'=>e = .returned (.int .i64 r)∧Below w.heap.size w w':=by
 have hu56:=Try.underlying56;have HR0:=Aside0.mk hr0;have HC0:=Aside0.mk hc0;clear hr0 hc0;have HB:=Aside0.mk (Below.refl w.heap.size w);have H:(if (l0.length:Int) = 0 then (some 20) else ((U10.f k l0 a1 (-1)).bind fun t486=>(if t486 = 0 then (U4.l0 k l0 l0 (l0.length:Int) 0) else (some t486)))) = some r:=h;clear h;replace H:=zzj H;rcases H with ⟨c3,H⟩|⟨c3,H⟩
 ·have c3b0:=beq_iff_eq.mpr c3;have c3b1:=bne_eq_false_iff_eq.mpr c3;clear c3;obtain rfl:=Option.some.inj H;go_enter Try.func50,Try.ntmps50
  go_wp2
  go_ret
  exact ⟨zz6,zz5⟩
 ·have c3b0:=beq_eq_false_iff_ne.mpr c3;have c3b1:=bne_iff_ne.mpr c3;have c3b2:¬ (l0 = []):=fun h_=>c3 (by rw [h_];rfl);replace H:=zzb H;obtain ⟨t486,A4,H⟩:=H;replace H:=zzj H;rcases H with ⟨c5,H⟩|⟨c5,H⟩
  ·have c5b0:=beq_iff_eq.mpr c5;have c5b1:=bne_eq_false_iff_eq.mpr c5;clear c5;have H':=Aside0.mk H;clear H;go_enter Try.func50,Try.ntmps50
   go_wp2_with (first|((with_reducible refine gate_callee (f:=29) rfl ?_);refine goesL_ (some 13) rfl rfl Try.func29 (zz0) rfl #[.slice A0 l0.length c0,.int .i64 a1,.int .i64 (-1)] rfl (zz18) ?_;(with_reducible refine (U10.calls k _ _ l0 a1 (-1) t486 _ ?_ ?_ A4.out).mono ?_);(exact (have h0_:=HR0;zz91));exact HC0.out;rintro e w6 ⟨rfl,hb⟩;refine ⟨_,rfl,?_⟩;replace HB:=Aside0.mk (below_step (zz5) hb);(try clear hb)))
   go_loopg [19] k (fun kq v19 w'=>∃ (x19_1:Int),v19 = .int .i64 x19_1∧Aside0 (U4.l0 kq l0 l0 (l0.length:Int) x19_1 = some r)∧Aside0 (kq≤k)∧Aside0 (Below w.heap.size w w'))
   case atStart=>exact ⟨(0),(zz2),H',⟨Nat.le_refl _⟩,⟨zz5⟩⟩
   case round =>
    clear H';clear c3 c3b0 c3b1 c3b2 c5b0 c5b1;obtain ⟨x19_1,rfl,HA,HK1,HB⟩:=hrel
    cases gk with
    | zero=>exact absurd HA.out (by simp [U4.l0])
    | succ k1 =>
     have H:=HA.out;clear HA;simp only [U4.l0] at H;replace H:=zzj H;rcases H with ⟨c7,H⟩|⟨c7,H⟩
     ·have c7b0:=decide_eq_true c7;clear c7;replace H:=zzi H;obtain ⟨c8,H⟩:=H;have c8b0:=decide_eq_true c8;clear c8;replace H:=zzi H;obtain ⟨c9,H⟩:=H;have c9b0:=decide_eq_true c9;clear c9;replace H:=zzb H;obtain ⟨t489,A10,H⟩:=H;replace H:=zzi H;obtain ⟨c11,H⟩:=H;have c11b0:=decide_eq_true c11;have c11b1:decide (0 < l0.length) = true:=decide_eq_true (zz4);clear c11;replace H:=zzb H;obtain ⟨t491,A12,H⟩:=H;replace H:=zzj H;rcases H with ⟨c13,H⟩|⟨c13,H⟩
      ·have c13b0:=beq_iff_eq.mpr c13;have c13b1:=bne_eq_false_iff_eq.mpr c13;clear c13;have H':=Aside0.mk H;clear H;have p487:0≤(x19_1:Int):=of_decide_eq_true (zz11);have q487:x19_1 < (l0.length:Int):=of_decide_eq_true (zz11);obtain ⟨ad487,A487_0,c487_0,e487,hx487_0,hl487_0,hi487_0⟩:=at_T56 HR0.out x19_1 p487 q487
       cases e487
       replace hx487_0:=(HB.out.cell (World.block_lt_of_cell? w _ hx487_0)).trans hx487_0;have HR487_0:=Aside0.mk hi487_0;have HC487_0:=Aside0.mk hl487_0;clear hi487_0 hl487_0;replace p487:=eq_true p487;replace q487:=eq_true q487
       try go_wp2_with (first|((with_reducible refine gate_dst (N:=7) rfl ?_);refine box_event ?hg (N:=7) ?hd (cs:=#[.slice none 0 0]) (t:=56) ?hr ?_;(case hd=>rfl);(case hg=>rfl);(case hr=>exact zz77);intro gb488 hg w14 hbox hb;have BK488:=Aside0.mk (hbox);have GW488:=Aside0.mk ((by rw [hg];exact (below_size (zz5)):w.heap.size≤gb488));have GE488:=Aside0.mk ((by rw [hg];exact (below_size (zz5)):w.heap.size≤gb488));replace HB:=Aside0.mk (below_step (zz5) hb);clear hb hbox hg;obtain ⟨hcz15_0,hfz15_0⟩:=zc1 BK488.out))
       have n0_:Aside0 ((w14.setCell ⟨gb488,0,none⟩ (.slice A487_0 ((rd_T56 l0 x19_1).f0).length c487_0)).heap[gb488]? = some (.cells #[.slice A487_0 ((rd_T56 l0 x19_1).f0).length c487_0] 56 (0,0))):=⟨(have h0_:=BK488;zz21)⟩;have n1_:Aside0 (Below w.heap.size w (w14.setCell ⟨gb488,0,none⟩ (.slice A487_0 ((rd_T56 l0 x19_1).f0).length c487_0))):=⟨(have h0_:=GE488;zz7)⟩
       (try (have hcs_:((w14.setCell ⟨gb488,0,none⟩ (.slice A487_0 ((rd_T56 l0 x19_1).f0).length c487_0))).cell? ⟨gb488,0,none⟩ = some (.slice A487_0 ((rd_T56 l0 x19_1).f0).length c487_0):=World.cell?_setCell_same _ _ _ (by assumption)))
       (try clear BK488)
       (try clear HB)
       first|generalize (w14.setCell ⟨gb488,0,none⟩ (.slice A487_0 ((rd_T56 l0 x19_1).f0).length c487_0)) = w16 at n0_ n1_ hcs_ ⊢|generalize (w14.setCell ⟨gb488,0,none⟩ (.slice A487_0 ((rd_T56 l0 x19_1).f0).length c487_0)) = w16 at n0_ n1_ ⊢
       have BK488:=n0_;have HB:=n1_;clear n0_ n1_;replace BK488:=Aside0.mk (blk_drew BK488.out);replace HB:=Aside0.mk (below_drew1 HB.out);have p490:0≤(0:Int):=(zz4);have q490:0 < (l0.length:Int):=of_decide_eq_true (zz11);obtain ⟨ad490,A490_0,c490_0,e490,hx490_0,hl490_0,hi490_0⟩:=at_T56 HR0.out 0 p490 q490;have hw490_0:=hx490_0
       (try rw [show ((0:Int)).toNat = 0 from rfl] at hw490_0)
       (try rw [show 0 * 1 = 0 from rfl] at hw490_0)
       (try rw [Addr.add_zero'] at hw490_0)
       obtain rfl:ad487 = ad490:=(by injection e490);have qi490:(0 < l0.length) = True:=eq_true (zz4)
       (try rw [show ((0:Int)).toNat = 0 from rfl] at hx490_0)
       (try rw [Addr.add_zero'] at hx490_0)
       replace hx490_0:=(HB.out.cell (World.block_lt_of_cell? w _ hx490_0)).trans hx490_0;have HR490_0:=Aside0.mk hi490_0;have HC490_0:=Aside0.mk hl490_0;clear hi490_0 hl490_0;replace p490:=eq_true p490;replace q490:=eq_true q490;refine start_ (n:=7) (S:=fun w'=>w'.cell? ⟨gb488,0,none⟩ = some (.slice A487_0 ((rd_T56 l0 x19_1).f0).length c487_0)∧w'.cell? ad487 = some (.slice A490_0 ((rd_T56 l0 0).f0).length c490_0)) (ds:=[]) #[false,false,false,false,false,false,false] (zz0) rfl rfl ⟨(blk_cell BK488.out 0).trans rfl,((HB.out.cell (World.block_lt_of_cell? w _ hw490_0)).trans hw490_0)⟩ (fun hHeld=>?_)
       generalize w16.drew = w17 at BK488 HB HR490_0 hx490_0 hHeld ⊢
       refine pure_ (i:=2) (N:=some 25) (v:=?_) (a':=?_) #[false,false,true,false,false,false,false] rfl rfl (zz0) (fun _ _ _ h=>h) (Or.inl ⟨zz19,?_⟩) ?_ ?_;rotate_left
       ·intro w'
        go_simp
        with_reducible rfl
       rotate_left
       ·simp only [zzs]
        rfl
       refine pure_ (i:=3) (N:=some 26) (v:=?_) (a':=?_) #[false,false,true,true,false,false,false] rfl rfl (zz0) (fun _ _ _ h=>h) (Or.inl ⟨zz19,?_⟩) ?_ ?_;rotate_left
       ·intro w'
        go_simp
        with_reducible rfl
       rotate_left
       ·simp only [zzs]
        rfl
       refine take_ (i:=0) (N:=some 23) (v:=?_) (a':=?_) #[true,false,true,true,false,false,false] rfl rfl (zz0) (fun _ _ _ h=>h) (Or.inl ⟨zz19,?_⟩) hHeld ?_ ?_;rotate_left
       ·rintro w' ⟨s0,s1⟩
        go_simp
        with_reducible rfl
       rotate_left
       ·simp only [zzs]
        rfl
       refine take_ (i:=4) (N:=some 27) (v:=?_) (a':=?_) #[true,false,true,true,true,false,false] rfl rfl (zz0) (fun _ _ _ h=>h) (Or.inl ⟨zz19,?_⟩) hHeld ?_ ?_;rotate_left
       ·rintro w' ⟨s0,s1⟩
        go_simp
        with_reducible rfl
       rotate_left
       ·simp only [zzs]
        rfl
       refine one_ (i:=1) (N:=some 24) #[true,true,true,true,true,false,false] rfl rfl (zz0) (zz27) (fun K hK=>?_);refine goes_ Try.func30 (zz0) rfl #[.agg #[.slice A487_0 ((rd_T56 l0 x19_1).f0).length c487_0]] (zz19) rfl rfl (zz18) ?_
       with_reducible refine (U21.calls _ _ ((rd_T56 l0 x19_1).f0) t489 _ ?side1 ?side2 A10.out).mono ?_
       (case side1=>exact (have h0_:=HR487_0;zz78))
       (case side2=>exact HC487_0.out)
       rintro e w18 ⟨rfl,hb⟩;refine ⟨_,rfl,?_⟩;replace BK488:=Aside0.mk (blk_below (have h0_:=BK488;zz9) hb);replace HB:=Aside0.mk (below_step (have h0_:=GE488;zz7) hb)
       (try clear hb)
       refine hK.out _ _ ⟨(blk_cell BK488.out 0).trans rfl,((HB.out.cell (World.block_lt_of_cell? w _ hw490_0)).trans hw490_0)⟩ (fun hHeld=>?_);clear hK K;refine norm_ (a':=?_) ?_ ?_;rotate_left
       ·show Act.put _ (some 24) _ = _
        simp only [zzs]
        rfl
       refine one_ (i:=5) (N:=some 28) #[true,true,true,true,true,true,false] rfl rfl (zz0) (zz27) (fun K hK=>?_);refine goes_ Try.func30 (zz0) rfl #[.agg #[.slice A490_0 ((rd_T56 l0 0).f0).length c490_0]] (zz19) rfl rfl (zz18) ?_
       with_reducible refine (U21.calls _ _ ((rd_T56 l0 0).f0) t491 _ ?side1 ?side2 A12.out).mono ?_
       (case side1=>exact (have h0_:=HR490_0;zz78))
       (case side2=>exact HC490_0.out)
       rintro e w19 ⟨rfl,hb⟩;refine ⟨_,rfl,?_⟩;replace BK488:=Aside0.mk (blk_below (have h0_:=BK488;zz9) hb);replace HB:=Aside0.mk (below_step (have h0_:=GE488;zz7) hb)
       (try clear hb)
       (try clear hb2)
       (try clear hk)
       (try clear hi)
       refine hK.out _ _ ⟨(blk_cell BK488.out 0).trans rfl,((HB.out.cell (World.block_lt_of_cell? w _ hw490_0)).trans hw490_0)⟩ (fun hHeld=>?_);clear hK K;refine norm_ (a':=?_) ?_ ?_;rotate_left
       ·show Act.put _ (some 28) _ = _
        simp only [zzs]
        rfl
       refine pure_ (i:=6) (N:=some 29) (v:=?_) (a':=?_) #[true,true,true,true,true,true,true] rfl rfl (zz0) (fun _ _ _ h=>h) (Or.inl ⟨zz19,?_⟩) ?_ ?_;rotate_left
       ·intro w'
        go_simp
        with_reducible rfl
       rotate_left
       ·simp only [zzs]
        rfl
       refine done_ (zz0) ?_
       try go_wp2
       go_roundg k1
       case measure=>have:=HK1.out;omega
       case rel=>exact ⟨(wrap64 (x19_1+1)),(zz2),H',⟨zz12⟩,⟨(have h0_:=GE488;zz7)⟩⟩
      ·have c13b0:=beq_eq_false_iff_ne.mpr c13;have c13b1:=bne_iff_ne.mpr c13;obtain rfl:=Option.some.inj H;have p487:0≤(x19_1:Int):=of_decide_eq_true (zz11);have q487:x19_1 < (l0.length:Int):=of_decide_eq_true (zz11);obtain ⟨ad487,A487_0,c487_0,e487,hx487_0,hl487_0,hi487_0⟩:=at_T56 HR0.out x19_1 p487 q487
       cases e487
       replace hx487_0:=(HB.out.cell (World.block_lt_of_cell? w _ hx487_0)).trans hx487_0;have HR487_0:=Aside0.mk hi487_0;have HC487_0:=Aside0.mk hl487_0;clear hi487_0 hl487_0;replace p487:=eq_true p487;replace q487:=eq_true q487
       try go_wp2_with (first|((with_reducible refine gate_dst (N:=7) rfl ?_);refine box_event ?hg (N:=7) ?hd (cs:=#[.slice none 0 0]) (t:=56) ?hr ?_;(case hd=>rfl);(case hg=>rfl);(case hr=>exact zz77);intro gb488 hg w20 hbox hb;have BK488:=Aside0.mk (hbox);have GW488:=Aside0.mk ((by rw [hg];exact (below_size (zz5)):w.heap.size≤gb488));have GE488:=Aside0.mk ((by rw [hg];exact (below_size (zz5)):w.heap.size≤gb488));replace HB:=Aside0.mk (below_step (zz5) hb);clear hb hbox hg;obtain ⟨hcz21_0,hfz21_0⟩:=zc1 BK488.out))
       have n0_:Aside0 ((w20.setCell ⟨gb488,0,none⟩ (.slice A487_0 ((rd_T56 l0 x19_1).f0).length c487_0)).heap[gb488]? = some (.cells #[.slice A487_0 ((rd_T56 l0 x19_1).f0).length c487_0] 56 (0,0))):=⟨(have h0_:=BK488;zz21)⟩;have n1_:Aside0 (Below w.heap.size w (w20.setCell ⟨gb488,0,none⟩ (.slice A487_0 ((rd_T56 l0 x19_1).f0).length c487_0))):=⟨(have h0_:=GE488;zz7)⟩
       (try (have hcs_:((w20.setCell ⟨gb488,0,none⟩ (.slice A487_0 ((rd_T56 l0 x19_1).f0).length c487_0))).cell? ⟨gb488,0,none⟩ = some (.slice A487_0 ((rd_T56 l0 x19_1).f0).length c487_0):=World.cell?_setCell_same _ _ _ (by assumption)))
       (try clear BK488)
       (try clear HB)
       first|generalize (w20.setCell ⟨gb488,0,none⟩ (.slice A487_0 ((rd_T56 l0 x19_1).f0).length c487_0)) = w22 at n0_ n1_ hcs_ ⊢|generalize (w20.setCell ⟨gb488,0,none⟩ (.slice A487_0 ((rd_T56 l0 x19_1).f0).length c487_0)) = w22 at n0_ n1_ ⊢
       have BK488:=n0_;have HB:=n1_;clear n0_ n1_;replace BK488:=Aside0.mk (blk_drew BK488.out);replace HB:=Aside0.mk (below_drew1 HB.out);have p490:0≤(0:Int):=(zz4);have q490:0 < (l0.length:Int):=of_decide_eq_true (zz11);obtain ⟨ad490,A490_0,c490_0,e490,hx490_0,hl490_0,hi490_0⟩:=at_T56 HR0.out 0 p490 q490;have hw490_0:=hx490_0
       (try rw [show ((0:Int)).toNat = 0 from rfl] at hw490_0)
       (try rw [show 0 * 1 = 0 from rfl] at hw490_0)
       (try rw [Addr.add_zero'] at hw490_0)
       obtain rfl:ad487 = ad490:=(by injection e490);have qi490:(0 < l0.length) = True:=eq_true (zz4)
       (try rw [show ((0:Int)).toNat = 0 from rfl] at hx490_0)
       (try rw [Addr.add_zero'] at hx490_0)
       replace hx490_0:=(HB.out.cell (World.block_lt_of_cell? w _ hx490_0)).trans hx490_0;have HR490_0:=Aside0.mk hi490_0;have HC490_0:=Aside0.mk hl490_0;clear hi490_0 hl490_0;replace p490:=eq_true p490;replace q490:=eq_true q490;refine start_ (n:=7) (S:=fun w'=>w'.cell? ⟨gb488,0,none⟩ = some (.slice A487_0 ((rd_T56 l0 x19_1).f0).length c487_0)∧w'.cell? ad487 = some (.slice A490_0 ((rd_T56 l0 0).f0).length c490_0)) (ds:=[]) #[false,false,false,false,false,false,false] (zz0) rfl rfl ⟨(blk_cell BK488.out 0).trans rfl,((HB.out.cell (World.block_lt_of_cell? w _ hw490_0)).trans hw490_0)⟩ (fun hHeld=>?_)
       generalize w22.drew = w23 at BK488 HB HR490_0 hx490_0 hHeld ⊢
       refine pure_ (i:=2) (N:=some 25) (v:=?_) (a':=?_) #[false,false,true,false,false,false,false] rfl rfl (zz0) (fun _ _ _ h=>h) (Or.inl ⟨zz19,?_⟩) ?_ ?_;rotate_left
       ·intro w'
        go_simp
        with_reducible rfl
       rotate_left
       ·simp only [zzs]
        rfl
       refine pure_ (i:=3) (N:=some 26) (v:=?_) (a':=?_) #[false,false,true,true,false,false,false] rfl rfl (zz0) (fun _ _ _ h=>h) (Or.inl ⟨zz19,?_⟩) ?_ ?_;rotate_left
       ·intro w'
        go_simp
        with_reducible rfl
       rotate_left
       ·simp only [zzs]
        rfl
       refine take_ (i:=0) (N:=some 23) (v:=?_) (a':=?_) #[true,false,true,true,false,false,false] rfl rfl (zz0) (fun _ _ _ h=>h) (Or.inl ⟨zz19,?_⟩) hHeld ?_ ?_;rotate_left
       ·rintro w' ⟨s0,s1⟩
        go_simp
        with_reducible rfl
       rotate_left
       ·simp only [zzs]
        rfl
       refine take_ (i:=4) (N:=some 27) (v:=?_) (a':=?_) #[true,false,true,true,true,false,false] rfl rfl (zz0) (fun _ _ _ h=>h) (Or.inl ⟨zz19,?_⟩) hHeld ?_ ?_;rotate_left
       ·rintro w' ⟨s0,s1⟩
        go_simp
        with_reducible rfl
       rotate_left
       ·simp only [zzs]
        rfl
       refine one_ (i:=1) (N:=some 24) #[true,true,true,true,true,false,false] rfl rfl (zz0) (zz27) (fun K hK=>?_);refine goes_ Try.func30 (zz0) rfl #[.agg #[.slice A487_0 ((rd_T56 l0 x19_1).f0).length c487_0]] (zz19) rfl rfl (zz18) ?_
       with_reducible refine (U21.calls _ _ ((rd_T56 l0 x19_1).f0) t489 _ ?side1 ?side2 A10.out).mono ?_
       (case side1=>exact (have h0_:=HR487_0;zz78))
       (case side2=>exact HC487_0.out)
       rintro e w24 ⟨rfl,hb⟩;refine ⟨_,rfl,?_⟩;replace BK488:=Aside0.mk (blk_below (have h0_:=BK488;zz9) hb);replace HB:=Aside0.mk (below_step (have h0_:=GE488;zz7) hb)
       (try clear hb)
       refine hK.out _ _ ⟨(blk_cell BK488.out 0).trans rfl,((HB.out.cell (World.block_lt_of_cell? w _ hw490_0)).trans hw490_0)⟩ (fun hHeld=>?_);clear hK K;refine norm_ (a':=?_) ?_ ?_;rotate_left
       ·show Act.put _ (some 24) _ = _
        simp only [zzs]
        rfl
       refine one_ (i:=5) (N:=some 28) #[true,true,true,true,true,true,false] rfl rfl (zz0) (zz27) (fun K hK=>?_);refine goes_ Try.func30 (zz0) rfl #[.agg #[.slice A490_0 ((rd_T56 l0 0).f0).length c490_0]] (zz19) rfl rfl (zz18) ?_
       with_reducible refine (U21.calls _ _ ((rd_T56 l0 0).f0) t491 _ ?side1 ?side2 A12.out).mono ?_
       (case side1=>exact (have h0_:=HR490_0;zz78))
       (case side2=>exact HC490_0.out)
       rintro e w25 ⟨rfl,hb⟩;refine ⟨_,rfl,?_⟩;replace BK488:=Aside0.mk (blk_below (have h0_:=BK488;zz9) hb);replace HB:=Aside0.mk (below_step (have h0_:=GE488;zz7) hb)
       (try clear hb)
       (try clear hb2)
       (try clear hk)
       (try clear hi)
       refine hK.out _ _ ⟨(blk_cell BK488.out 0).trans rfl,((HB.out.cell (World.block_lt_of_cell? w _ hw490_0)).trans hw490_0)⟩ (fun hHeld=>?_);clear hK K;refine norm_ (a':=?_) ?_ ?_;rotate_left
       ·show Act.put _ (some 28) _ = _
        simp only [zzs]
        rfl
       refine pure_ (i:=6) (N:=some 29) (v:=?_) (a':=?_) #[true,true,true,true,true,true,true] rfl rfl (zz0) (fun _ _ _ h=>h) (Or.inl ⟨zz19,?_⟩) ?_ ?_;rotate_left
       ·intro w'
        go_simp
        with_reducible rfl
       rotate_left
       ·simp only [zzs]
        rfl
       refine done_ (zz0) ?_
       try go_wp2
       go_ret
       exact ⟨zz6,(have h0_:=GE488;zz7)⟩
     ·have c7b0:=decide_eq_false c7;clear c7;obtain rfl:=Option.some.inj H
      go_wp2
      go_ret
      exact ⟨zz6,zz5⟩
  ·have c5b0:=beq_eq_false_iff_ne.mpr c5;have c5b1:=bne_iff_ne.mpr c5;obtain rfl:=Option.some.inj H;go_enter Try.func50,Try.ntmps50
   go_wp2_with (first|((with_reducible refine gate_callee (f:=29) rfl ?_);refine goesL_ (some 13) rfl rfl Try.func29 (zz0) rfl #[.slice A0 l0.length c0,.int .i64 a1,.int .i64 (-1)] rfl (zz18) ?_;(with_reducible refine (U10.calls k _ _ l0 a1 (-1) t486 _ ?_ ?_ A4.out).mono ?_);(exact (have h0_:=HR0;zz91));exact HC0.out;rintro e w26 ⟨rfl,hb⟩;refine ⟨_,rfl,?_⟩;replace HB:=Aside0.mk (below_step (zz5) hb);(try clear hb)))
   go_ret
   exact ⟨zz6,zz5⟩
end Go.Proofs.Ytmcegphcjphdcaa.QA
