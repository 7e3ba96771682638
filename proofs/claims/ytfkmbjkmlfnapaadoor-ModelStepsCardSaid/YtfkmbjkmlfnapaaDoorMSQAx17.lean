import Derived.Test.YtfkmbjkmlfnapaaDoorMSQAx0
import Derived.Test.YtfkmbjkmlfnapaaDoorMSQAx15
namespace Go.Proofs.YtfkmbjkmlfnapaaDoor.QA
open Go.RowKit Go.Proofs.YtfkmbjkmlfnapaaDoorW.PrintWords Go.Proofs.YtfkmbjkmlfnapaaDoorW.PrintLast Go.Proofs.YtfkmbjkmlfnapaaDoorW.PrintMore
attribute [local go_sem] max2_int min2_int max_two min_two max_three min_three max_four min_four
set_option linter.unusedVariables false
set_option linter.unusedSimpArgs false
mutual
def U5.j0:Nat→List Int→Int→Int→Bool→List Int→List Int→Option ((List (List Int)) × Int)
 | 0,_,_,_,_,_,_=>none
 | k+1,x1,x2,x9,x31,x880000,x880001=>if x31 = true then (some (([]:List (List Int)),3)) else (U5.l0 k x1 x2 x9 0 x880000 x880001)
def U5.l0:Nat→List Int→Int→Int→Int→List Int→List Int→Option ((List (List Int)) × Int)
 | 0,_,_,_,_,_,_=>none
 | k+1,x1,x2,x9,x10,x880000,x880001=>if x10 < x9 then (if 0≤x10 then (if x10 < (x1.length:Int) then ((U7.f (rd x1 x10) x2).bind fun t883=>(if t883 = true then (U5.l0 k x1 x2 x9 (wrap64 (x10+1)) x880000 x880001) else (some (([]:List (List Int)),3)))) else (none)) else (none)) else (U5.l1 k x1 x2 x9 1 x880000 x880001)
def U5.l1:Nat→List Int→Int→Int→Int→List Int→List Int→Option ((List (List Int)) × Int)
 | 0,_,_,_,_,_,_=>none
 | k+1,x1,x2,x9,x11,x880000,x880001=>if x11 < x9 then (if 0≤x11 then (if x11 < (x1.length:Int) then (if 0≤(wrap64 (x11 - 1)) then (if (wrap64 (x11 - 1)) < (x1.length:Int) then (if (rd x1 x11)≤(rd x1 (wrap64 (x11 - 1))) then (some (([]:List (List Int)),23)) else (U5.l1 k x1 x2 x9 (wrap64 (x11+1)) x880000 x880001)) else (none)) else (none)) else (none)) else (none)) else (U5.l2 k x1 x2 x9 0 x880000 x880001 ([]:List (List Int)))
def U5.l2:Nat→List Int→Int→Int→Int→List Int→List Int→List (List Int)→Option ((List (List Int)) × Int)
 | 0,_,_,_,_,_,_,_=>none
 | k+1,x1,x2,x9,x13,x880000,x880001,x887000=>if x13 < (x880000.length:Int) then (U5.l3 k x1 x2 x9 x13 (([]:List Int)) 1000 1 x880000 x880001 x887000) else (some (x887000,0))
def U5.l3:Nat→List Int→Int→Int→Int→List Int→Int→Int→List Int→List Int→List (List Int)→Option ((List (List Int)) × Int)
 | 0,_,_,_,_,_,_,_,_,_,_=>none
 | k+1,x1,x2,x9,x13,x14,x15,x16,x880000,x880001,x887000=>if x16≤x9 then (if 0≤x13 then (if x13 < (x880000.length:Int) then (if 0≤(wrap64 (x16 - 1)) then (if (wrap64 (x16 - 1)) < (x1.length:Int) then ((U6.f (wrap64 (x2 * (wrap64 ((rd x880000 x13) - (rd x1 (wrap64 (x16 - 1)))))))).bind fun t892=>(if x14.length < 17592186044416 then (U5.l3 k x1 x2 x9 x13 (x14++[wrap64 (x15 - (mx (wrap64 ((wrap64 (x9 - x16))+1)) (mn (wrap64 (500+t892)) (mn (wrap64 (1000 - x16)) (wrap64 (x15 - 1))))))]) (mx (wrap64 ((wrap64 (x9 - x16))+1)) (mn (wrap64 (500+t892)) (mn (wrap64 (1000 - x16)) (wrap64 (x15 - 1))))) (wrap64 (x16+1)) x880000 x880001 x887000) else (none))) else (none)) else (none)) else (none)) else (none)) else (if x14.length < 17592186044416 then (if x887000.length < 5864062014805 then (U5.l2 k x1 x2 x9 (wrap64 (x13+1)) x880000 x880001 (x887000++[(x14++[x15])])) else (none)) else (none))
end
def U5.f (k:Nat) (l0_0:List Int) (l0_1:List Int) (l1:List Int) (a2:Int):Option ((List (List Int)) × Int):=(U3.f k l0_0 l0_1).bind fun t881=>(if t881 = 0 then (if (l1.length:Int) < 1 then (U5.j0 k l1 a2 (l1.length:Int) true l0_0 l0_1) else (U5.j0 k l1 a2 (l1.length:Int) (decide ((l1.length:Int) > 5)) l0_0 l0_1)) else (some (([]:List (List Int)),t881)))
theorem zm15_0 {P:Prop} (h:P:=by repeat' first|(with_reducible first|exact ih0 ..|exact ih1 ..|exact ih2 ..|exact ih3 ..|exact ih4 ..|exact U3.mono ..|exact LeO.refl _|exact LeO.none _|refine LeO.ite ?_ ?_|refine LeO.bind ?_ (fun _=>?_))|exact ih0 ..|exact ih1 ..|exact ih2 ..|exact ih3 ..|exact ih4 ..|exact U3.mono ..|exact LeO.none _|refine LeO.ite ?_ ?_|refine LeO.bind ?_ (fun _=>?_)):P:=h
theorem U5.mono_l:∀ k,(∀ y0 y1 y2 y3 y4 y5,LeO (U5.j0 k y0 y1 y2 y3 y4 y5) (U5.j0 (k+1) y0 y1 y2 y3 y4 y5))∧(∀ y0 y1 y2 y3 y4 y5,LeO (U5.l0 k y0 y1 y2 y3 y4 y5) (U5.l0 (k+1) y0 y1 y2 y3 y4 y5))∧(∀ y0 y1 y2 y3 y4 y5,LeO (U5.l1 k y0 y1 y2 y3 y4 y5) (U5.l1 (k+1) y0 y1 y2 y3 y4 y5))∧(∀ y0 y1 y2 y3 y4 y5 y6,LeO (U5.l2 k y0 y1 y2 y3 y4 y5 y6) (U5.l2 (k+1) y0 y1 y2 y3 y4 y5 y6))∧(∀ y0 y1 y2 y3 y4 y5 y6 y7 y8 y9,LeO (U5.l3 k y0 y1 y2 y3 y4 y5 y6 y7 y8 y9) (U5.l3 (k+1) y0 y1 y2 y3 y4 y5 y6 y7 y8 y9))
 | 0=>⟨fun _ _ _ _ _ _ r h=>by simp [U5.j0] at h,fun _ _ _ _ _ _ r h=>by simp [U5.l0] at h,fun _ _ _ _ _ _ r h=>by simp [U5.l1] at h,fun _ _ _ _ _ _ _ r h=>by simp [U5.l2] at h,fun _ _ _ _ _ _ _ _ _ _ r h=>by simp [U5.l3] at h⟩
 | k+1=>by
  obtain ⟨ih0,ih1,ih2,ih3,ih4⟩:=U5.mono_l k;refine ⟨?_,?_,?_,?_,?_⟩
  ·intro y0 y1 y2 y3 y4 y5;unfold U5.j0
   exact zm15_0
  ·intro y0 y1 y2 y3 y4 y5;unfold U5.l0
   exact zm15_0
  ·intro y0 y1 y2 y3 y4 y5;unfold U5.l1
   exact zm15_0
  ·intro y0 y1 y2 y3 y4 y5 y6;unfold U5.l2
   exact zm15_0
  ·intro y0 y1 y2 y3 y4 y5 y6 y7 y8 y9;unfold U5.l3
   exact zm15_0
theorem U5.mono:∀ a0 a1 a2 a3 k,LeO (U5.f k a0 a1 a2 a3) (U5.f (k+1) a0 a1 a2 a3):=by
 intro a0 a1 a2 a3 k;obtain ⟨ih0,ih1,ih2,ih3,ih4⟩:=U5.mono_l k;unfold U5.f
 exact zm15_0
def U5.T15:Bool × List (List Nat × List Nat):=(true,[([],[]),([],[]),([0,1],[0,1]),([2],[2]),([],[]),([],[]),([5],[5]),([4,6],[4,6]),([7],[7]),([3,8],[3,8])])
def U5.B15:List Nat:=[0,0,3,7,0,0,32,112,240,511]
theorem U5.tab15:rtab .any (opsOf Tryd.f25 15) = U5.T15:=zz0
theorem U5.bits15:waitsOk U5.T15.2 U5.B15 = true:=zz0
def U5.T26:Bool × List (List Nat × List Nat):=(true,[([],[]),([],[]),([1],[1]),([],[]),([2,3],[2,3]),([4],[4]),([],[]),([],[]),([7],[7]),([6,8],[6,8]),([9],[9]),([5,10],[5,10]),([0,11],[0,11]),([12],[12]),([13],[13]),([14,13,0,1,2,3,4,5,6,7,8,9,10,11,12,13,14],[14])])
def U5.B26:List Nat:=[0,0,2,0,14,30,0,0,128,448,960,2046,4095,8191,16383,32767]
theorem U5.tab26:rtab .any (opsOf Tryd.f25 26) = U5.T26:=zz0
theorem U5.bits26:waitsOk U5.T26.2 U5.B26 = true:=zz0
def U5.T30:Bool × List (List Nat × List Nat):=(true,[([],[]),([0],[0]),([],[]),([],[]),([3],[3]),([2,4],[2,4]),([5],[5]),([1,6,5],[1,6]),([0,1,2,3,4,5,6,7],[]),([8,7,7,0,1,2,3,4,5,6,7],[7,8])])
def U5.B30:List Nat:=[0,1,0,0,8,28,60,127,255,511]
theorem U5.tab30:rtab .any (opsOf Tryd.f25 30) = U5.T30:=zz0
theorem U5.bits30:waitsOk U5.T30.2 U5.B30 = true:=zz0
set_option maxHeartbeats 8000000 in
set_option maxRecDepth 100000 in
theorem U5.calls (k:Nat) (A0_0:Option Addr) (c0_0:Nat) (l0_0:List Int) (A0_1:Option Addr) (c0_1:Nat) (l0_1:List Int) (A1:Option Addr) (c1:Nat) (l1:List Int) (a2:Int) (r1:List (List Int)) (r2:Int) (w:World) (hr0_0:Kd.C (Kd.int .i64) w A0_0 l0_0.length l0_0) (hc0_0:l0_0.length≤c0_0) (hr0_1:Kd.C (Kd.int .i64) w A0_1 l0_1.length l0_1) (hc0_1:l0_1.length≤c0_1) (hr1:Kd.C (Kd.int .i64) w A1 l1.length l1) (hc1:l1.length≤c1) (h:U5.f k l0_0 l0_1 l1 a2 = some (r1,r2)) :
  Calls Tryd.prog 25 #[.agg #[.slice A0_0 l0_0.length c0_0,.slice A0_1 l0_1.length c0_1],.slice A1 l1.length c1,.int .i64 a2] w fun e w'=>∃ v0_:Value,e = .returned (.tuple #[.agg #[v0_],.int .i64 r2])∧Kd.S (Kd.slice 3 (Kd.int .i64)) 31 w' w.heap.size (fun _=>True) v0_ r1∧Below w.heap.size w w':=by
 have hu33:=Tryd.underlying33;have hu24:=Tryd.underlying24;have HR0_0:=Aside0.mk hr0_0;have HC0_0:=Aside0.mk hc0_0;clear hr0_0 hc0_0;have HR0_1:=Aside0.mk hr0_1;have HC0_1:=Aside0.mk hc0_1;clear hr0_1 hc0_1;have HR1:=Aside0.mk hr1;have HC1:=Aside0.mk hc1;clear hr1 hc1;have HB:=Aside0.mk (Below.refl w.heap.size w);have H:((U3.f k l0_0 l0_1).bind fun t881=>(if t881 = 0 then (if (l1.length:Int) < 1 then (U5.j0 k l1 a2 (l1.length:Int) true l0_0 l0_1) else (U5.j0 k l1 a2 (l1.length:Int) (decide ((l1.length:Int) > 5)) l0_0 l0_1)) else (some (([]:List (List Int)),t881)))) = some (r1,r2):=h;clear h;replace H:=zzb H;obtain ⟨t881,A4,H⟩:=H;replace H:=zzj H;rcases H with ⟨c5,H⟩|⟨c5,H⟩
 ·have c5b0:=beq_iff_eq.mpr c5;have c5b1:=bne_eq_false_iff_eq.mpr c5;clear c5;have HC6:=Aside0.mk H;clear H;go_enter Tryd.func25,Tryd.ntmps25
  go_upto_region 5 with (first|((with_reducible refine gate_dst (N:=3) rfl ?_);refine box_event ?hg (N:=3) ?hd (cs:=#[.slice A0_0 l0_0.length c0_0,.slice A0_1 l0_1.length c0_1]) (t:=33) ?hr ?_;(case hd=>rfl);(case hg=>rfl);(case hr=>exact zz144);intro gb879 hg w7 hbox hb;have BK879:=Aside0.mk (hbox);have GW879:=Aside0.mk ((by rw [hg];exact (below_size (zz10)):w.heap.size≤gb879));have GE879:=Aside0.mk ((by rw [hg];exact (below_size (zz10)):w.heap.size≤gb879));replace HB:=Aside0.mk (below_step (zz10) hb);clear hb hbox hg)|((with_reducible refine gate_dst (N:=6) rfl ?_);refine box_event ?hg (N:=6) ?hd (cs:=#[.slice none 0 0]) (t:=24) ?hr ?_;(case hd=>rfl);(case hg=>rfl);(case hr=>exact zz144);intro gb880 hg w8 hbox hb;have BK880:=Aside0.mk (hbox);have GW880:=Aside0.mk ((by rw [hg];exact (below_size (have h0_:=GE879;zz13)):w.heap.size≤gb880));have GE880:=Aside0.mk ((by rw [hg];exact (below_size (have h0_:=GE879;zz13)):w.heap.size≤gb880));replace HB:=Aside0.mk (below_step (have h0_:=GE879;zz13) hb);have NB879_880:=Aside0.mk ((by rw [hg];exact Nat.ne_of_lt (blk_lt (g:=gb879) (o:=.cells #[.slice A0_0 l0_0.length c0_0,.slice A0_1 l0_1.length c0_1] 33 (0,0)) (zz138)):gb879 ≠ gb880));have NB880_879:=Aside0.mk ((by rw [hg];exact Nat.ne_of_gt (blk_lt (g:=gb879) (o:=.cells #[.slice A0_0 l0_0.length c0_0,.slice A0_1 l0_1.length c0_1] 33 (0,0)) (zz138)):gb880 ≠ gb879));replace BK879:=Aside0.mk (blk_below (zz138) hb);clear hb hbox hg;have hnb9:=NB879_880.out;have hnc9:=NB880_879.out;obtain ⟨hcz10_0,hcz10_1,hfz10_0,hfz10_1⟩:=zc2 BK879.out)|((with_reducible refine gate_callee (f:=51) rfl ?_);refine goesL_ (some 19) rfl rfl Tryd.func51 (zz0) rfl #[.agg #[.slice A0_0 l0_0.length c0_0,.slice A0_1 l0_1.length c0_1]] rfl (zz5) ?_;(with_reducible refine (U3.calls k _ _ l0_0 _ _ l0_1 t881 _ ?_ ?_ ?_ ?_ A4.out).mono ?_);exact zz149;exact zz150;(exact (have h0_:=HR0_1;zz145));exact zz151;rintro e w11 ⟨rfl,hb⟩;refine ⟨_,rfl,?_⟩;replace BK879:=Aside0.mk (blk_below (zz138) hb);replace BK880:=Aside0.mk (blk_below (zz139) hb);replace HB:=Aside0.mk (below_step (zz140) hb);(try clear hb)))
  (try simp only [Act.put,List.setIfInBounds_toArray,List.set_cons_zero,List.set_cons_succ])
  go_cut [31] (fun v31 wc=>∃ (kq:Nat) (x31_5:Bool),v31 = .bool x31_5∧Aside0 (U5.j0 kq l1 a2 (l1.length:Int) x31_5 l0_0 l0_1 = some (r1,r2))∧Aside0 (kq≤k)∧Aside0 (wc.heap[gb879]? = some (.cells #[(.slice A0_0 l0_0.length c0_0),(.slice A0_1 l0_1.length c0_1)] 33 (0,0)))∧Aside0 (wc.heap[gb880]? = some (.cells #[(.slice none 0 0)] 24 (0,0)))∧Aside0 (Below w.heap.size w wc))
  case first =>
   have H:=HC6.out;clear HC6;replace H:=zzj H;rcases H with ⟨c12,H⟩|⟨c12,H⟩
   ·have c12b0:=decide_eq_true c12;have c12b1:decide (l1.length < 1) = true:=decide_eq_true (zz15);clear c12
    (first|rw [c12b0]|rw [c12b1]|(simp only [i64_w,i32_w];rw [c12b0])|skip)
    have H':=Aside0.mk H;clear H
    go_wp2
    go_meet
    case rel=>exact ⟨_,(true),(zz1),H',⟨zz11⟩,⟨zz138⟩,⟨zz139⟩,⟨zz140⟩⟩
   ·have c12b0:=decide_eq_false c12;have c12b1:decide (l1.length < 1) = false:=decide_eq_false (zz15);clear c12
    (first|rw [c12b0]|rw [c12b1]|(simp only [i64_w,i32_w];rw [c12b0])|skip)
    have H':=Aside0.mk H;clear H
    go_wp2
    go_meet
    case rel=>exact ⟨_,(decide ((l1.length:Int) > 5)),(zz1),H',⟨zz11⟩,⟨zz138⟩,⟨zz139⟩,⟨zz140⟩⟩
  case rest =>
   clear HC6;(try clear c1);clear c5b0 c5b1;(try clear hcz10_0);(try clear hcz10_1);(try clear hfz10_0);(try clear hfz10_1);obtain ⟨kq,x31_5,rfl,HA,HJ5,BK879,BK880,HB⟩:=hcut
   cases kq with
   | zero=>exact absurd HA.out (by simp [U5.j0])
   | succ kj5 =>
    have H:=HA.out;clear HA;simp only [U5.j0] at H;by_cases c13:x31_5 = true
    ·subst c13;have H1:(some (([]:List (List Int)),3)) = some (r1,r2):=zz3;clear H;have H:=H1;clear H1;simp only [Option.some.injEq,Prod.mk.injEq] at H;obtain ⟨rfl,rfl⟩:=H;have hnb14:=NB880_879.out;have hnc14:=NB879_880.out;obtain ⟨hcz15_0,hfz15_0⟩:=zc1 BK880.out
     go_wp2
     refine bodyPost_ret (results_ct rfl _ _ gb880 24 #[.slice none 0 0] (0,0) _ rfl (have h0_:=BK880;zz27) Tryd.underlying24 rfl (zz0)) rfl ?_
     exact ⟨_,zz14,zz28,zz140⟩
    ·replace c13:=Bool.eq_false_iff.mpr c13;subst c13;have H1:(U5.l0 kj5 l1 a2 (l1.length:Int) 0 l0_0 l0_1) = some (r1,r2):=zz7;clear H;have H:=H1;clear H1;have H':=Aside0.mk H;clear H
     go_wp2
     go_loopg [10] kj5 (fun kq v10 w'=>∃ (x10_2:Int),v10 = .int .i64 x10_2∧Aside0 (U5.l0 kq l1 a2 (l1.length:Int) x10_2 l0_0 l0_1 = some (r1,r2))∧Aside0 (kq≤kj5)∧Aside0 (w'.heap[gb879]? = some (.cells #[(.slice A0_0 l0_0.length c0_0),(.slice A0_1 l0_1.length c0_1)] 33 (0,0)))∧Aside0 (w'.heap[gb880]? = some (.cells #[(.slice none 0 0)] 24 (0,0)))∧Aside0 (Below w.heap.size w w'))
     case atStart=>exact ⟨(0),(zz1),H',⟨Nat.le_refl _⟩,⟨zz138⟩,⟨zz139⟩,⟨zz140⟩⟩
     case round =>
      clear H'
      (try clear c13);(try clear hcz10_0);(try clear hcz10_1);(try clear hfz10_0);(try clear hfz10_1)
      obtain ⟨x10_2,rfl,HA,HK2,BK879,BK880,HB⟩:=hrel
      cases gk with
      | zero=>exact absurd HA.out (by simp [U5.l0])
      | succ k2 =>
       have H:=HA.out;clear HA;simp only [U5.l0] at H;replace H:=zzj H;rcases H with ⟨c16,H⟩|⟨c16,H⟩
       ·have c16b0:=decide_eq_true c16;clear c16;replace H:=zzi H;obtain ⟨c17,H⟩:=H;have c17b0:=decide_eq_true c17;clear c17;replace H:=zzi H;obtain ⟨c18,H⟩:=H;have c18b0:=decide_eq_true c18;clear c18;replace H:=zzb H;obtain ⟨t883,A19,H⟩:=H;by_cases c20:t883 = true
        ·subst c20;have H1:(U5.l0 k2 l1 a2 (l1.length:Int) (wrap64 (x10_2+1)) l0_0 l0_1) = some (r1,r2):=zz3;clear H;have H:=H1;clear H1;have H':=Aside0.mk H;clear H;have p882:0≤(x10_2:Int):=of_decide_eq_true (zz4);have q882:x10_2 < (l1.length:Int):=of_decide_eq_true (zz4);obtain ⟨ad882,e882,hx882_0⟩:=Kd.at_int HR1.out x10_2 p882 q882
         cases e882
         replace hx882_0:=(HB.out.cell (World.block_lt_of_cell? w _ hx882_0)).trans hx882_0;replace p882:=eq_true p882;replace q882:=eq_true q882
         go_wp2_with (first|((with_reducible refine gate_callee (f:=52) rfl ?_);refine goesL_ (some 43) rfl rfl Tryd.func52 (zz0) rfl #[.int .i64 (rd l1 x10_2),.int .i64 a2] rfl (zz5) ?_;(with_reducible refine (U7.calls (rd l1 x10_2) a2 true _ A19.out).mono ?_);rintro e w' ⟨rfl,⟨nd,rfl⟩⟩;refine ⟨_,rfl,?_⟩))
         go_roundg k2
         case measure=>have:=HJ5.out;have:=HK2.out;omega
         case rel=>exact ⟨(wrap64 (x10_2+1)),(zz1),H',⟨by have:=HJ5.out;have:=HK2.out;omega⟩,⟨zz138⟩,⟨zz139⟩,⟨zz140⟩⟩
        ·replace c20:=Bool.eq_false_iff.mpr c20;subst c20;have H1:(some (([]:List (List Int)),3)) = some (r1,r2):=zz7;clear H;have H:=H1;clear H1;simp only [Option.some.injEq,Prod.mk.injEq] at H;obtain ⟨rfl,rfl⟩:=H;have p882:0≤(x10_2:Int):=of_decide_eq_true (zz4);have q882:x10_2 < (l1.length:Int):=of_decide_eq_true (zz4);obtain ⟨ad882,e882,hx882_0⟩:=Kd.at_int HR1.out x10_2 p882 q882
         cases e882
         replace hx882_0:=(HB.out.cell (World.block_lt_of_cell? w _ hx882_0)).trans hx882_0;replace p882:=eq_true p882;replace q882:=eq_true q882
         go_wp2_with (first|((with_reducible refine gate_callee (f:=52) rfl ?_);refine goesL_ (some 43) rfl rfl Tryd.func52 (zz0) rfl #[.int .i64 (rd l1 x10_2),.int .i64 a2] rfl (zz5) ?_;(with_reducible refine (U7.calls (rd l1 x10_2) a2 false _ A19.out).mono ?_);rintro e w' ⟨rfl,⟨nd,rfl⟩⟩;refine ⟨_,rfl,?_⟩;(try (rw [drewN_self wr];generalize hq_:World.drewN wr _ = wr;have n0_:Aside0 (wr.heap[gb879]? = some (.cells #[.slice A0_0 l0_0.length c0_0,.slice A0_1 l0_1.length c0_1] 33 (0,0))):=⟨(have h0_:=BK879;zz31)⟩;have n1_:Aside0 (wr.heap[gb880]? = some (.cells #[.slice none 0 0] 24 (0,0))):=⟨(have h0_:=BK880;zz31)⟩;have n2_:Aside0 (Below w.heap.size w wr):=⟨(have h0_:=GE879;have h1_:=GE880;zz40)⟩;clear BK879 BK880 HB hq_;have BK879:=n0_;have BK880:=n1_;have HB:=n2_;clear n0_ n1_ n2_;obtain ⟨hczugb879_0,hczugb879_1,hfzugb879_0,hfzugb879_1⟩:=zc2 BK879.out;obtain ⟨hczugb880_0,hfzugb880_0⟩:=zc1 BK880.out));have hnb21:=NB880_879.out;have hnc21:=NB879_880.out;obtain ⟨hcz22_0,hfz22_0⟩:=zc1 BK880.out))
         refine bodyPost_ret (results_ct rfl _ _ gb880 24 #[.slice none 0 0] (0,0) _ rfl (have h0_:=BK880;zz27) Tryd.underlying24 rfl (zz0)) rfl ?_
         exact ⟨_,zz14,zz28,zz140⟩
       ·have c16b0:=decide_eq_false c16;clear c16;have H':=Aside0.mk H;clear H
        go_wp2
        go_loopg [11] k2 (fun kq v11 w'=>∃ (x11_3:Int),v11 = .int .i64 x11_3∧Aside0 (U5.l1 kq l1 a2 (l1.length:Int) x11_3 l0_0 l0_1 = some (r1,r2))∧Aside0 (kq≤k2)∧Aside0 (w'.heap[gb879]? = some (.cells #[(.slice A0_0 l0_0.length c0_0),(.slice A0_1 l0_1.length c0_1)] 33 (0,0)))∧Aside0 (w'.heap[gb880]? = some (.cells #[(.slice none 0 0)] 24 (0,0)))∧Aside0 (Below w.heap.size w w'))
        case atStart=>exact ⟨(1),(zz1),H',⟨Nat.le_refl _⟩,⟨zz138⟩,⟨zz139⟩,⟨zz140⟩⟩
        case round =>
         clear H'
         clear c16b0;(try clear hcz10_0);(try clear hcz10_1);(try clear hcz15_0);(try clear hfz10_0);(try clear hfz10_1);(try clear hfz15_0)
         obtain ⟨x11_3,rfl,HA,HK3,BK879,BK880,HB⟩:=hrel
         cases gk with
         | zero=>exact absurd HA.out (by simp [U5.l1])
         | succ k3 =>
          have H:=HA.out;clear HA;simp only [U5.l1] at H;replace H:=zzj H;rcases H with ⟨c23,H⟩|⟨c23,H⟩
          ·have c23b0:=decide_eq_true c23;clear c23;replace H:=zzi H;obtain ⟨c24,H⟩:=H;have c24b0:=decide_eq_true c24;clear c24;replace H:=zzi H;obtain ⟨c25,H⟩:=H;have c25b0:=decide_eq_true c25;clear c25;obtain ⟨ji26,hji26⟩:∃ j_:Int,(wrap64 (x11_3 - 1)) = j_:=⟨_,rfl⟩;replace H:(if 0≤(ji26) then (if (ji26) < (l1.length:Int) then (if (rd l1 x11_3)≤(rd l1 (ji26)) then (some (([]:List (List Int)),23)) else (U5.l1 k3 l1 a2 (l1.length:Int) (wrap64 (x11_3+1)) l0_0 l0_1)) else (none)) else (none)) = some (r1,r2):=(have h0_:=hji26;zz19);have hji26w:(IntKind.i64.wrap (x11_3 - 1)) = ji26:=(i64_w _).trans hji26;replace H:=zzi H;obtain ⟨c27,H⟩:=H;have c27b0:=decide_eq_true c27;clear c27;replace H:=zzi H;obtain ⟨c28,H⟩:=H;have c28b0:=decide_eq_true c28;clear c28;replace H:=zzj H;rcases H with ⟨c29,H⟩|⟨c29,H⟩
           ·have c29b0:=decide_eq_true c29;clear c29;simp only [Option.some.injEq,Prod.mk.injEq] at H;obtain ⟨rfl,rfl⟩:=H
            try go_wp2
            replace BK879:=Aside0.mk (blk_drew BK879.out);replace BK880:=Aside0.mk (blk_drew BK880.out);replace HB:=Aside0.mk (below_drew1 HB.out);have p884:0≤(x11_3:Int):=of_decide_eq_true (zz4);have q884:x11_3 < (l1.length:Int):=of_decide_eq_true (zz4);obtain ⟨ad884,e884,hx884_0⟩:=Kd.at_int HR1.out x11_3 p884 q884;have hw884_0:=hx884_0
            cases e884
            replace hx884_0:=(HB.out.cell (World.block_lt_of_cell? w _ hx884_0)).trans hx884_0;replace p884:=eq_true p884;replace q884:=eq_true q884;have p885:0≤((ji26):Int):=of_decide_eq_true (zz4);have q885:(ji26) < (l1.length:Int):=of_decide_eq_true (zz4);obtain ⟨ad885,e885,hx885_0⟩:=Kd.at_int HR1.out (ji26) p885 q885;have hw885_0:=hx885_0;obtain rfl:ad884 = ad885:=(by injection e885);replace hx885_0:=(HB.out.cell (World.block_lt_of_cell? w _ hx885_0)).trans hx885_0;replace p885:=eq_true p885;replace q885:=eq_true q885;refine start_ (n:=10) (S:=fun w'=>w'.cell? (ad884.add (x11_3).toNat) = some (.int .i64 (rd l1 x11_3))∧w'.cell? (ad884.add ((ji26)).toNat) = some (.int .i64 (rd l1 (ji26)))) (ds:=[]) #[false,false,false,false,false,false,false,false,false,false] (zz0) rfl rfl ⟨((HB.out.cell (World.block_lt_of_cell? w _ hw884_0)).trans hw884_0),((HB.out.cell (World.block_lt_of_cell? w _ hw885_0)).trans hw885_0)⟩ (fun hHeld=>?_);refine with_tabW U5.tab15 U5.bits15 (fun HT_ HW_=>?_)
            generalize wr.drew = w30 at BK879 BK880 HB hx884_0 hx885_0 hHeld ⊢
            refine zzp 0 51 ?_ #[true,false,false,false,false,false,false,false,false,false] rfl rfl (any_of HT_.out (zz0)) (fun _ _ _ h=>h) (Or.inl ⟨zz9,?_⟩) ?_ ?_ ?_;rotate_left
            ·intro w'
             go_simp
             with_reducible rfl
            rotate_left
            ·simp only [zzs]
             rfl
            refine zzp 1 52 ?_ #[true,true,false,false,false,false,false,false,false,false] rfl rfl (any_of HT_.out (zz0)) (fun _ _ _ h=>h) (Or.inl ⟨zz9,?_⟩) ?_ ?_ ?_;rotate_left
            ·intro w'
             go_simp
             with_reducible rfl
            rotate_left
            ·simp only [zzs]
             rfl
            refine zzp 2 53 ?_ #[true,true,true,false,false,false,false,false,false,false] rfl rfl (any_of HT_.out (zz0)) (fun _ _ _ h=>h) (Or.inl ⟨zz9,?_⟩) ?_ ?_ ?_;rotate_left
            ·intro w'
             go_simp
             with_reducible rfl
            rotate_left
            ·simp only [zzs]
             rfl
            refine zzp 4 55 ?_ #[true,true,true,false,true,false,false,false,false,false] rfl rfl (any_of HT_.out (zz0)) (fun _ _ _ h=>h) (Or.inl ⟨zz9,?_⟩) ?_ ?_ ?_;rotate_left
            ·intro w'
             go_simp
             with_reducible rfl
            rotate_left
            ·simp only [zzs]
             rfl
            refine zzp 5 56 ?_ #[true,true,true,false,true,true,false,false,false,false] rfl rfl (any_of HT_.out (zz0)) (fun _ _ _ h=>h) (Or.inl ⟨zz9,?_⟩) ?_ ?_ ?_;rotate_left
            ·intro w'
             go_simp
             with_reducible rfl
            rotate_left
            ·simp only [zzs]
             rfl
            refine zzp 6 57 ?_ #[true,true,true,false,true,true,true,false,false,false] rfl rfl (any_of HT_.out (zz0)) (fun _ _ _ h=>h) (Or.inl ⟨zz9,?_⟩) ?_ ?_ ?_;rotate_left
            ·intro w'
             go_simp
             with_reducible rfl
            rotate_left
            ·simp only [zzs]
             rfl
            refine zzp 7 58 ?_ #[true,true,true,false,true,true,true,true,false,false] rfl rfl (any_of HT_.out (zz0)) (fun _ _ _ h=>h) (Or.inl ⟨zz9,?_⟩) ?_ ?_ ?_;rotate_left
            ·intro w'
             go_simp
             with_reducible rfl
            rotate_left
            ·simp only [zzs]
             rfl
            refine take_ (i:=3) (N:=some 54) (v:=?_) (a':=?_) #[true,true,true,true,true,true,true,true,false,false] rfl rfl (take_ofW HT_.out HW_.out (zz0)) (fun _ _ _ h=>h) (Or.inl ⟨zz9,?_⟩) hHeld ?_ ?_;rotate_left
            ·rintro w' ⟨s0,s1⟩
             go_simp
             with_reducible rfl
            rotate_left
            ·simp only [zzs]
             rfl
            refine take_ (i:=8) (N:=some 59) (v:=?_) (a':=?_) #[true,true,true,true,true,true,true,true,true,false] rfl rfl (take_ofW HT_.out HW_.out (zz0)) (fun _ _ _ h=>h) (Or.inl ⟨zz9,?_⟩) hHeld ?_ ?_;rotate_left
            ·rintro w' ⟨s0,s1⟩
             go_simp
             with_reducible rfl
            rotate_left
            ·simp only [zzs]
             rfl
            refine zzp 9 60 ?_ #[true,true,true,true,true,true,true,true,true,true] rfl rfl (any_of HT_.out (zz0)) (fun _ _ _ h=>h) (Or.inl ⟨zz9,?_⟩) ?_ ?_ ?_;rotate_left
            ·intro w'
             go_simp
             with_reducible rfl
            rotate_left
            ·simp only [zzs]
             rfl
            refine done_ (done_of HT_.out (zz0)) ?_;have hnb31:=NB880_879.out;have hnc31:=NB879_880.out;obtain ⟨hcz32_0,hfz32_0⟩:=zc1 BK880.out
            try go_wp2
            refine bodyPost_ret (results_ct rfl _ _ gb880 24 #[.slice none 0 0] (0,0) _ rfl (have h0_:=BK880;zz27) Tryd.underlying24 rfl (zz0)) rfl ?_
            exact ⟨_,(have h0_:=hji26;zz21),zz28,zz140⟩
           ·have c29b0:=decide_eq_false c29;clear c29;have H':=Aside0.mk H;clear H
            try go_wp2
            replace BK879:=Aside0.mk (blk_drew BK879.out);replace BK880:=Aside0.mk (blk_drew BK880.out);replace HB:=Aside0.mk (below_drew1 HB.out);have p884:0≤(x11_3:Int):=of_decide_eq_true (zz4);have q884:x11_3 < (l1.length:Int):=of_decide_eq_true (zz4);obtain ⟨ad884,e884,hx884_0⟩:=Kd.at_int HR1.out x11_3 p884 q884;have hw884_0:=hx884_0
            cases e884
            replace hx884_0:=(HB.out.cell (World.block_lt_of_cell? w _ hx884_0)).trans hx884_0;replace p884:=eq_true p884;replace q884:=eq_true q884;have p885:0≤((ji26):Int):=of_decide_eq_true (zz4);have q885:(ji26) < (l1.length:Int):=of_decide_eq_true (zz4);obtain ⟨ad885,e885,hx885_0⟩:=Kd.at_int HR1.out (ji26) p885 q885;have hw885_0:=hx885_0;obtain rfl:ad884 = ad885:=(by injection e885);replace hx885_0:=(HB.out.cell (World.block_lt_of_cell? w _ hx885_0)).trans hx885_0;replace p885:=eq_true p885;replace q885:=eq_true q885;refine start_ (n:=10) (S:=fun w'=>w'.cell? (ad884.add (x11_3).toNat) = some (.int .i64 (rd l1 x11_3))∧w'.cell? (ad884.add ((ji26)).toNat) = some (.int .i64 (rd l1 (ji26)))) (ds:=[]) #[false,false,false,false,false,false,false,false,false,false] (zz0) rfl rfl ⟨((HB.out.cell (World.block_lt_of_cell? w _ hw884_0)).trans hw884_0),((HB.out.cell (World.block_lt_of_cell? w _ hw885_0)).trans hw885_0)⟩ (fun hHeld=>?_);refine with_tabW U5.tab15 U5.bits15 (fun HT_ HW_=>?_)
            generalize wr.drew = w33 at BK879 BK880 HB hx884_0 hx885_0 hHeld ⊢
            refine zzp 0 51 ?_ #[true,false,false,false,false,false,false,false,false,false] rfl rfl (any_of HT_.out (zz0)) (fun _ _ _ h=>h) (Or.inl ⟨zz9,?_⟩) ?_ ?_ ?_;rotate_left
            ·intro w'
             go_simp
             with_reducible rfl
            rotate_left
            ·simp only [zzs]
             rfl
            refine zzp 1 52 ?_ #[true,true,false,false,false,false,false,false,false,false] rfl rfl (any_of HT_.out (zz0)) (fun _ _ _ h=>h) (Or.inl ⟨zz9,?_⟩) ?_ ?_ ?_;rotate_left
            ·intro w'
             go_simp
             with_reducible rfl
            rotate_left
            ·simp only [zzs]
             rfl
            refine zzp 2 53 ?_ #[true,true,true,false,false,false,false,false,false,false] rfl rfl (any_of HT_.out (zz0)) (fun _ _ _ h=>h) (Or.inl ⟨zz9,?_⟩) ?_ ?_ ?_;rotate_left
            ·intro w'
             go_simp
             with_reducible rfl
            rotate_left
            ·simp only [zzs]
             rfl
            refine zzp 4 55 ?_ #[true,true,true,false,true,false,false,false,false,false] rfl rfl (any_of HT_.out (zz0)) (fun _ _ _ h=>h) (Or.inl ⟨zz9,?_⟩) ?_ ?_ ?_;rotate_left
            ·intro w'
             go_simp
             with_reducible rfl
            rotate_left
            ·simp only [zzs]
             rfl
            refine zzp 5 56 ?_ #[true,true,true,false,true,true,false,false,false,false] rfl rfl (any_of HT_.out (zz0)) (fun _ _ _ h=>h) (Or.inl ⟨zz9,?_⟩) ?_ ?_ ?_;rotate_left
            ·intro w'
             go_simp
             with_reducible rfl
            rotate_left
            ·simp only [zzs]
             rfl
            refine zzp 6 57 ?_ #[true,true,true,false,true,true,true,false,false,false] rfl rfl (any_of HT_.out (zz0)) (fun _ _ _ h=>h) (Or.inl ⟨zz9,?_⟩) ?_ ?_ ?_;rotate_left
            ·intro w'
             go_simp
             with_reducible rfl
            rotate_left
            ·simp only [zzs]
             rfl
            refine zzp 7 58 ?_ #[true,true,true,false,true,true,true,true,false,false] rfl rfl (any_of HT_.out (zz0)) (fun _ _ _ h=>h) (Or.inl ⟨zz9,?_⟩) ?_ ?_ ?_;rotate_left
            ·intro w'
             go_simp
             with_reducible rfl
            rotate_left
            ·simp only [zzs]
             rfl
            refine take_ (i:=3) (N:=some 54) (v:=?_) (a':=?_) #[true,true,true,true,true,true,true,true,false,false] rfl rfl (take_ofW HT_.out HW_.out (zz0)) (fun _ _ _ h=>h) (Or.inl ⟨zz9,?_⟩) hHeld ?_ ?_;rotate_left
            ·rintro w' ⟨s0,s1⟩
             go_simp
             with_reducible rfl
            rotate_left
            ·simp only [zzs]
             rfl
            refine take_ (i:=8) (N:=some 59) (v:=?_) (a':=?_) #[true,true,true,true,true,true,true,true,true,false] rfl rfl (take_ofW HT_.out HW_.out (zz0)) (fun _ _ _ h=>h) (Or.inl ⟨zz9,?_⟩) hHeld ?_ ?_;rotate_left
            ·rintro w' ⟨s0,s1⟩
             go_simp
             with_reducible rfl
            rotate_left
            ·simp only [zzs]
             rfl
            refine zzp 9 60 ?_ #[true,true,true,true,true,true,true,true,true,true] rfl rfl (any_of HT_.out (zz0)) (fun _ _ _ h=>h) (Or.inl ⟨zz9,?_⟩) ?_ ?_ ?_;rotate_left
            ·intro w'
             go_simp
             with_reducible rfl
            rotate_left
            ·simp only [zzs]
             rfl
            refine done_ (done_of HT_.out (zz0)) ?_
            try go_wp2
            go_roundg k3
            case measure=>have:=HJ5.out;have:=HK2.out;have:=HK3.out;omega
            case rel=>exact ⟨(wrap64 (x11_3+1)),(zz1),H',⟨by have:=HJ5.out;have:=HK2.out;have:=HK3.out;omega⟩,⟨zz138⟩,⟨zz139⟩,⟨zz140⟩⟩
          ·have c23b0:=decide_eq_false c23;clear c23;have H':=Aside0.mk H;clear H
           go_wp2_with (first|((with_reducible refine gate_dst (N:=12) rfl ?_);refine box_event ?hg (N:=12) ?hd (cs:=#[.slice none 0 0]) (t:=24) ?hr ?_;(case hd=>rfl);(case hg=>rfl);(case hr=>exact zz144);intro gb886 hg w34 hbox hb;have BK886:=Aside0.mk (hbox);have GW886:=Aside0.mk ((by rw [hg];exact (below_size (zz140)):w.heap.size≤gb886));have GE886:=Aside0.mk ((by rw [hg];exact (below_size (zz140)):w.heap.size≤gb886));replace HB:=Aside0.mk (below_step (zz140) hb);have NB879_886:=Aside0.mk ((by rw [hg];exact Nat.ne_of_lt (blk_lt (g:=gb879) (o:=.cells #[.slice A0_0 l0_0.length c0_0,.slice A0_1 l0_1.length c0_1] 33 (0,0)) (zz138)):gb879 ≠ gb886));have NB886_879:=Aside0.mk ((by rw [hg];exact Nat.ne_of_gt (blk_lt (g:=gb879) (o:=.cells #[.slice A0_0 l0_0.length c0_0,.slice A0_1 l0_1.length c0_1] 33 (0,0)) (zz138)):gb886 ≠ gb879));replace BK879:=Aside0.mk (blk_below (zz138) hb);have NB880_886:=Aside0.mk ((by rw [hg];exact Nat.ne_of_lt (blk_lt (g:=gb880) (o:=.cells #[.slice none 0 0] 24 (0,0)) (zz139)):gb880 ≠ gb886));have NB886_880:=Aside0.mk ((by rw [hg];exact Nat.ne_of_gt (blk_lt (g:=gb880) (o:=.cells #[.slice none 0 0] 24 (0,0)) (zz139)):gb886 ≠ gb880));replace BK880:=Aside0.mk (blk_below (zz139) hb);clear hb hbox hg;have hnb35:=NB886_879.out;have hnc35:=NB879_886.out;have hnb36:=NB886_880.out;have hnc36:=NB880_886.out;obtain ⟨hcz37_0,hfz37_0⟩:=zc1 BK886.out))
           go_loopg [13] k3 (fun kq v13 w'=>∃ (x13_4:Int) (x887000_4:List (List Int)) (u887000:Value),v13 = .int .i64 x13_4∧Aside0 (U5.l2 kq l1 a2 (l1.length:Int) x13_4 l0_0 l0_1 x887000_4 = some (r1,r2))∧Aside0 (kq≤k3)∧Aside0 (Kd.S (Kd.slice 3 (Kd.int .i64)) 31 w' w.heap.size (fun _=>True) u887000 x887000_4)∧Aside0 (w'.heap[gb879]? = some (.cells #[(.slice A0_0 l0_0.length c0_0),(.slice A0_1 l0_1.length c0_1)] 33 (0,0)))∧Aside0 (w'.heap[gb880]? = some (.cells #[(.slice none 0 0)] 24 (0,0)))∧Aside0 (w'.heap[gb886]? = some (.cells #[u887000] 24 (0,0)))∧Aside0 (Below w.heap.size w w'))
           case atStart=>exact ⟨(0),(([]:List (List Int))),(.slice none 0 0),(zz1),H',⟨Nat.le_refl _⟩,⟨zz28⟩,⟨by (with_reducible repeat (first|refine blk_drewN ?_ _|refine blk_drew ?_|refine blk_alloc ?_ _));refine blk_far ?_ NB879_886.out _;(with_reducible repeat (first|refine blk_drewN ?_ _|refine blk_drew ?_|refine blk_alloc ?_ _));exact BK879.out⟩,⟨by (with_reducible repeat (first|refine blk_drewN ?_ _|refine blk_drew ?_|refine blk_alloc ?_ _));refine blk_far ?_ NB880_886.out _;(with_reducible repeat (first|refine blk_drewN ?_ _|refine blk_drew ?_|refine blk_alloc ?_ _));exact BK880.out⟩,⟨(have h0_:=BK886;zz27)⟩,⟨zz141⟩⟩
           case round =>
            clear H'
            (try clear hx8);clear c23b0;(try clear hcz10_0);(try clear hcz10_1);(try clear hcz15_0);(try clear hcz22_0);(try clear hcz37_0);(try clear hfz10_0);(try clear hfz10_1);(try clear hfz15_0);(try clear hfz22_0);(try clear hfz37_0);(try clear hx882_0)
            obtain ⟨x13_4,x887000_4,u887000,rfl,HA,HK4,HO_887000,BK879,BK880,BK886,HB⟩:=hrel
            cases gk with
            | zero=>exact absurd HA.out (by simp [U5.l2])
            | succ k4 =>
             have H:=HA.out;clear HA;simp only [U5.l2] at H;replace H:=zzj H;rcases H with ⟨c38,H⟩|⟨c38,H⟩
             ·have c38b0:=decide_eq_true c38;clear c38;obtain ⟨y887,hy887⟩:∃ y_:List Int,y_ = (([]:List Int)):=⟨_,rfl⟩;replace H:(U5.l3 k4 l1 a2 (l1.length:Int) x13_4 y887 1000 1 l0_0 l0_1 x887000_4) = some (r1,r2):=(have h0_:=hy887;zz16);have Ny887:=Aside0.mk hy887;clear hy887;have H':=Aside0.mk H;clear H;have hnb39:=NB879_880.out;have hnc39:=NB880_879.out;have hnb40:=NB879_886.out;have hnc40:=NB886_879.out;obtain ⟨hcz41_0,hcz41_1,hfz41_0,hfz41_1⟩:=zc2 BK879.out
              go_wp2_with (first|((with_reducible refine gate_dst (N:=70) rfl ?_);refine Kd.R_lit (Kd.int .i64) _ 3 ?hg (N:=70) ?hd (xs:=([]:List Int)) (inner:=[]) (ok:=fun _=>True) (okp:=fun _=>True) ?hr ?hp (fun _ hk=>hk) trivial (Below.refl _ _) (Nat.le_refl _) (zz8) ?_;(case hd=>rfl);(case hg=>rfl);(case hr=>exact zz144);(case hp=>exact (Reps.none _ _));intro v888 w42 ho43 hb hg_ hnew_;clear hg_ hnew_;(first|rw [← Ny887.out] at ho43|(simp only [Int.reduceToNat] at ho43;rw [← Ny887.out] at ho43));replace HO_887000:=Aside0.mk (Kd.S_elder' (have h0_:=HO_887000;zz30) (Kd.R_base ho43) hb);have HO889:=Aside0.mk (Kd.R_lower ho43 (below_size (zz141)));replace BK879:=Aside0.mk (blk_below (zz138) hb);replace BK880:=Aside0.mk (blk_below (zz139) hb);replace BK886:=Aside0.mk (blk_below (have h0_:=BK886;zz12) hb);replace HB:=Aside0.mk (below_step (zz141) hb);clear hb ho43))
              go_loopg [14,15,16] k4 (fun kq v14 v15 v16 w'=>∃ (x14_5:List Int) (x15_5:Int) (x16_5:Int),v15 = .int .i64 x15_5∧v16 = .int .i64 x16_5∧Aside0 (U5.l3 kq l1 a2 (l1.length:Int) x13_4 x14_5 x15_5 x16_5 l0_0 l0_1 x887000_4 = some (r1,r2))∧Aside0 (kq≤k4)∧Aside0 (Kd.R (Kd.int .i64) 3 w' w.heap.size (fun _=>True) v14 x14_5)∧Aside0 (Kd.S (Kd.slice 3 (Kd.int .i64)) 31 w' w.heap.size (fun k_=>some k_ ≠ (v14:Value).ownBlock) u887000 x887000_4)∧Aside0 (w'.heap[gb879]? = some (.cells #[(.slice A0_0 l0_0.length c0_0),(.slice A0_1 l0_1.length c0_1)] 33 (0,0)))∧Aside0 (w'.heap[gb880]? = some (.cells #[(.slice none 0 0)] 24 (0,0)))∧Aside0 (w'.heap[gb886]? = some (.cells #[u887000] 24 (0,0)))∧Aside0 (Below w.heap.size w w'))
              case atStart=>exact ⟨(y887),(1000),(1),(zz1),(zz1),H',⟨Nat.le_refl _⟩,⟨(have h0_:=HO889;zz18)⟩,⟨(have h0_:=HO_887000;zz48)⟩,⟨zz138⟩,⟨zz139⟩,⟨(have h0_:=BK886;zz12)⟩,⟨zz141⟩⟩
              case round =>
               clear H'
               (try clear hx8);clear c38b0;(try clear hcz10_0);(try clear hcz10_1);(try clear hcz15_0);(try clear hcz22_0);(try clear hcz32_0);(try clear hcz37_0);(try clear hcz41_0);(try clear hcz41_1);(try clear hfz10_0);(try clear hfz10_1);(try clear hfz15_0);(try clear hfz22_0);(try clear hfz32_0);(try clear hfz37_0);(try clear hfz41_0);(try clear hfz41_1);(try clear hx882_0);(try clear hx884_0);(try clear hx885_0)
               obtain ⟨x14_5,x15_5,x16_5,rfl,rfl,HA,HK5,HO_14,HO_887000,BK879,BK880,BK886,HB⟩:=hrel
               cases gk with
               | zero=>exact absurd HA.out (by simp [U5.l3])
               | succ k5 =>
                have H:=HA.out;clear HA;simp only [U5.l3] at H;replace H:=zzj H;rcases H with ⟨c44,H⟩|⟨c44,H⟩
                ·have c44b0:=decide_eq_true c44;clear c44;replace H:=zzi H;obtain ⟨c45,H⟩:=H;have c45b0:=decide_eq_true c45;clear c45;replace H:=zzi H;obtain ⟨c46,H⟩:=H;have c46b0:=decide_eq_true c46;clear c46;obtain ⟨ji47,hji47⟩:∃ j_:Int,(wrap64 (x16_5 - 1)) = j_:=⟨_,rfl⟩;replace H:(if 0≤(ji47) then (if (ji47) < (l1.length:Int) then ((U6.f (wrap64 (a2 * (wrap64 ((rd l0_0 x13_4) - (rd l1 (ji47))))))).bind fun t892=>(if x14_5.length < 17592186044416 then (U5.l3 k5 l1 a2 (l1.length:Int) x13_4 (x14_5++[wrap64 (x15_5 - (mx (wrap64 ((wrap64 ((l1.length:Int) - x16_5))+1)) (mn (wrap64 (500+t892)) (mn (wrap64 (1000 - x16_5)) (wrap64 (x15_5 - 1))))))]) (mx (wrap64 ((wrap64 ((l1.length:Int) - x16_5))+1)) (mn (wrap64 (500+t892)) (mn (wrap64 (1000 - x16_5)) (wrap64 (x15_5 - 1))))) (wrap64 (x16_5+1)) l0_0 l0_1 x887000_4) else (none))) else (none)) else (none)) = some (r1,r2):=(have h0_:=hji47;zz19);have hji47w:(IntKind.i64.wrap (x16_5 - 1)) = ji47:=(i64_w _).trans hji47;replace H:=zzi H;obtain ⟨c48,H⟩:=H;have c48b0:=decide_eq_true c48;clear c48;replace H:=zzi H;obtain ⟨c49,H⟩:=H;have c49b0:=decide_eq_true c49;clear c49;replace H:=zzb H;obtain ⟨t892,A50,H⟩:=H;obtain ⟨ji51,hji51⟩:∃ j_:Int,(mn (wrap64 (1000 - x16_5)) (wrap64 (x15_5 - 1))) = j_:=⟨_,rfl⟩;replace H:(if x14_5.length < 17592186044416 then (U5.l3 k5 l1 a2 (l1.length:Int) x13_4 (x14_5++[wrap64 (x15_5 - (mx (wrap64 ((wrap64 ((l1.length:Int) - x16_5))+1)) (mn (wrap64 (500+t892)) (ji51))))]) (mx (wrap64 ((wrap64 ((l1.length:Int) - x16_5))+1)) (mn (wrap64 (500+t892)) (ji51))) (wrap64 (x16_5+1)) l0_0 l0_1 x887000_4) else (none)) = some (r1,r2):=(have h0_:=hji51;zz19)
                 (try rw [hji51] at A50)
                 have hji51_:(if (wrap64 (x15_5 - 1)) < (wrap64 (1000 - x16_5)) then (wrap64 (x15_5 - 1)) else (wrap64 (1000 - x16_5))) = ji51:=hji51
                 (try (have hji51N:=hji51_;simp only [Int.ofNat_lt] at hji51N))
                 obtain ⟨ji52,hji52⟩:∃ j_:Int,(mn (wrap64 (500+t892)) (ji51)) = j_:=⟨_,rfl⟩;replace H:(if x14_5.length < 17592186044416 then (U5.l3 k5 l1 a2 (l1.length:Int) x13_4 (x14_5++[wrap64 (x15_5 - (mx (wrap64 ((wrap64 ((l1.length:Int) - x16_5))+1)) (ji52)))]) (mx (wrap64 ((wrap64 ((l1.length:Int) - x16_5))+1)) (ji52)) (wrap64 (x16_5+1)) l0_0 l0_1 x887000_4) else (none)) = some (r1,r2):=(have h0_:=hji52;zz19)
                 (try rw [hji52] at A50)
                 have hji52_:(if (ji51) < (wrap64 (500+t892)) then (ji51) else (wrap64 (500+t892))) = ji52:=hji52
                 (try (have hji52N:=hji52_;simp only [Int.ofNat_lt] at hji52N))
                 obtain ⟨ji53,hji53⟩:∃ j_:Int,(mx (wrap64 ((wrap64 ((l1.length:Int) - x16_5))+1)) (ji52)) = j_:=⟨_,rfl⟩;replace H:(if x14_5.length < 17592186044416 then (U5.l3 k5 l1 a2 (l1.length:Int) x13_4 (x14_5++[wrap64 (x15_5 - (ji53))]) ji53 (wrap64 (x16_5+1)) l0_0 l0_1 x887000_4) else (none)) = some (r1,r2):=(have h0_:=hji53;zz19)
                 (try rw [hji53] at A50)
                 have hji53_:(if (wrap64 ((wrap64 ((l1.length:Int) - x16_5))+1)) < (ji52) then (ji52) else (wrap64 ((wrap64 ((l1.length:Int) - x16_5))+1))) = ji53:=hji53
                 (try (have hji53N:=hji53_;simp only [Int.ofNat_lt] at hji53N))
                 replace H:=zzi H;obtain ⟨c54,H⟩:=H;have LMc54:=Aside0.mk c54;clear c54;obtain ⟨y893,hy893⟩:∃ y_:List Int,y_ = (x14_5++[wrap64 (x15_5 - (ji53))]):=⟨_,rfl⟩;replace H:(U5.l3 k5 l1 a2 (l1.length:Int) x13_4 y893 ji53 (wrap64 (x16_5+1)) l0_0 l0_1 x887000_4) = some (r1,r2):=(have h0_:=hy893;zz16);have Ny893:=Aside0.mk hy893;clear hy893;have H':=Aside0.mk H;clear H
                 try go_wp2
                 replace HO_14:=Aside0.mk (Kd.R_drew HO_14.out);replace HO_887000:=Aside0.mk (Kd.S_drew HO_887000.out);replace BK879:=Aside0.mk (blk_drew BK879.out);replace BK880:=Aside0.mk (blk_drew BK880.out);replace BK886:=Aside0.mk (blk_drew BK886.out);replace HB:=Aside0.mk (below_drew1 HB.out);have p890:0≤(x13_4:Int):=of_decide_eq_true (zz4);have q890:x13_4 < (l0_0.length:Int):=of_decide_eq_true (zz4);obtain ⟨ad890,e890,hx890_0⟩:=Kd.at_int HR0_0.out x13_4 p890 q890;have hw890_0:=hx890_0
                 cases e890
                 replace hx890_0:=(HB.out.cell (World.block_lt_of_cell? w _ hx890_0)).trans hx890_0;replace p890:=eq_true p890;replace q890:=eq_true q890;have p891:0≤((ji47):Int):=of_decide_eq_true (zz4);have q891:(ji47) < (l1.length:Int):=of_decide_eq_true (zz4);obtain ⟨ad891,e891,hx891_0⟩:=Kd.at_int HR1.out (ji47) p891 q891;have hw891_0:=hx891_0
                 cases e891
                 replace hx891_0:=(HB.out.cell (World.block_lt_of_cell? w _ hx891_0)).trans hx891_0;replace p891:=eq_true p891;replace q891:=eq_true q891;refine start_ (n:=16) (S:=fun w'=>w'.cell? ⟨gb879,0,none⟩ = some (.slice (some ad890) l0_0.length c0_0)∧w'.cell? ⟨gb879,1,none⟩ = some (.slice A0_1 l0_1.length c0_1)∧w'.cell? (ad890.add (x13_4).toNat) = some (.int .i64 (rd l0_0 x13_4))∧w'.cell? (ad891.add ((ji47)).toNat) = some (.int .i64 (rd l1 (ji47)))) (ds:=[]) #[false,false,false,false,false,false,false,false,false,false,false,false,false,false,false,false] (zz0) rfl rfl ⟨(blk_cell BK879.out 0).trans rfl,(blk_cell BK879.out 1).trans rfl,((HB.out.cell (World.block_lt_of_cell? w _ hw890_0)).trans hw890_0),((HB.out.cell (World.block_lt_of_cell? w _ hw891_0)).trans hw891_0)⟩ (fun hHeld=>?_);refine with_tabW U5.tab26 U5.bits26 (fun HT_ HW_=>?_)
                 generalize wr.drew = w55 at HO_14 HO_887000 BK879 BK880 BK886 HB hx890_0 hx891_0 hHeld ⊢
                 refine zzp 0 76 ?_ #[true,false,false,false,false,false,false,false,false,false,false,false,false,false,false,false] rfl rfl (any_of HT_.out (zz0)) (fun _ _ _ h=>h) (Or.inl ⟨zz9,?_⟩) ?_ ?_ ?_;rotate_left
                 ·intro w'
                  go_simp
                  with_reducible rfl
                 rotate_left
                 ·simp only [zzs]
                  rfl
                 refine zzp 1 77 ?_ #[true,true,false,false,false,false,false,false,false,false,false,false,false,false,false,false] rfl rfl (any_of HT_.out (zz0)) (fun _ _ _ h=>h) (Or.inl ⟨zz9,?_⟩) ?_ ?_ ?_;rotate_left
                 ·intro w'
                  go_simp
                  with_reducible rfl
                 rotate_left
                 ·simp only [zzs]
                  rfl
                 refine zzp 3 79 ?_ #[true,true,false,true,false,false,false,false,false,false,false,false,false,false,false,false] rfl rfl (any_of HT_.out (zz0)) (fun _ _ _ h=>h) (Or.inl ⟨zz9,?_⟩) ?_ ?_ ?_;rotate_left
                 ·intro w'
                  go_simp
                  with_reducible rfl
                 rotate_left
                 ·simp only [zzs]
                  rfl
                 refine zzp 6 82 ?_ #[true,true,false,true,false,false,true,false,false,false,false,false,false,false,false,false] rfl rfl (any_of HT_.out (zz0)) (fun _ _ _ h=>h) (Or.inl ⟨zz9,?_⟩) ?_ ?_ ?_;rotate_left
                 ·intro w'
                  go_simp
                  with_reducible rfl
                 rotate_left
                 ·simp only [zzs]
                  rfl
                 refine zzp 7 83 ?_ #[true,true,false,true,false,false,true,true,false,false,false,false,false,false,false,false] rfl rfl (any_of HT_.out (zz0)) (fun _ _ _ h=>h) (Or.inl ⟨zz9,?_⟩) ?_ ?_ ?_;rotate_left
                 ·intro w'
                  go_simp
                  with_reducible rfl
                 rotate_left
                 ·simp only [zzs]
                  rfl
                 refine zzp 8 84 ?_ #[true,true,false,true,false,false,true,true,true,false,false,false,false,false,false,false] rfl rfl (any_of HT_.out (zz0)) (fun _ _ _ h=>h) (Or.inl ⟨zz9,?_⟩) ?_ ?_ ?_;rotate_left
                 ·intro w'
                  go_simp
                  with_reducible rfl
                 rotate_left
                 ·simp only [zzs]
                  rfl
                 refine zzp 9 85 ?_ #[true,true,false,true,false,false,true,true,true,true,false,false,false,false,false,false] rfl rfl (any_of HT_.out (zz0)) (fun _ _ _ h=>h) (Or.inl ⟨zz9,?_⟩) ?_ ?_ ?_;rotate_left
                 ·intro w'
                  go_simp
                  with_reducible rfl
                 rotate_left
                 ·simp only [zzs]
                  rfl
                 refine take_ (i:=2) (N:=some 78) (v:=?_) (a':=?_) #[true,true,true,true,false,false,true,true,true,true,false,false,false,false,false,false] rfl rfl (take_ofW HT_.out HW_.out (zz0)) (fun _ _ _ h=>h) (Or.inl ⟨zz9,?_⟩) hHeld ?_ ?_;rotate_left
                 ·rintro w' ⟨s0,s1,s2,s3⟩
                  go_simp
                  with_reducible rfl
                 rotate_left
                 ·simp only [zzs]
                  rfl
                 refine zzp 4 80 ?_ #[true,true,true,true,true,false,true,true,true,true,false,false,false,false,false,false] rfl rfl (any_of HT_.out (zz0)) (fun _ _ _ h=>h) (Or.inl ⟨zz9,?_⟩) ?_ ?_ ?_;rotate_left
                 ·intro w'
                  go_simp
                  with_reducible rfl
                 rotate_left
                 ·simp only [zzs]
                  rfl
                 refine take_ (i:=5) (N:=some 81) (v:=?_) (a':=?_) #[true,true,true,true,true,true,true,true,true,true,false,false,false,false,false,false] rfl rfl (take_ofW HT_.out HW_.out (zz0)) (fun _ _ _ h=>h) (Or.inl ⟨zz9,?_⟩) hHeld ?_ ?_;rotate_left
                 ·rintro w' ⟨s0,s1,s2,s3⟩
                  go_simp
                  with_reducible rfl
                 rotate_left
                 ·simp only [zzs]
                  rfl
                 refine take_ (i:=10) (N:=some 86) (v:=?_) (a':=?_) #[true,true,true,true,true,true,true,true,true,true,true,false,false,false,false,false] rfl rfl (take_ofW HT_.out HW_.out (zz0)) (fun _ _ _ h=>h) (Or.inl ⟨zz9,?_⟩) hHeld ?_ ?_;rotate_left
                 ·rintro w' ⟨s0,s1,s2,s3⟩
                  go_simp
                  with_reducible rfl
                 rotate_left
                 ·simp only [zzs]
                  rfl
                 refine zzp 11 87 ?_ #[true,true,true,true,true,true,true,true,true,true,true,true,false,false,false,false] rfl rfl (any_of HT_.out (zz0)) (fun _ _ _ h=>h) (Or.inl ⟨zz9,?_⟩) ?_ ?_ ?_;rotate_left
                 ·intro w'
                  go_simp
                  with_reducible rfl
                 rotate_left
                 ·simp only [zzs]
                  rfl
                 refine zzp 12 88 ?_ #[true,true,true,true,true,true,true,true,true,true,true,true,true,false,false,false] rfl rfl (any_of HT_.out (zz0)) (fun _ _ _ h=>h) (Or.inl ⟨zz9,?_⟩) ?_ ?_ ?_;rotate_left
                 ·intro w'
                  go_simp
                  with_reducible rfl
                 rotate_left
                 ·simp only [zzs]
                  rfl
                 refine one_ (i:=13) (N:=some 89) #[true,true,true,true,true,true,true,true,true,true,true,true,true,true,false,false] rfl rfl (one_of HT_.out (zz0)) (zz17) (fun K hK=>?_);refine goes_ Tryd.func53 (zz0) rfl #[.int .i64 (wrap64 (a2 * (wrap64 ((rd l0_0 x13_4) - (rd l1 (ji47))))))] (zz9) rfl rfl (have h0_:=hji47;zz36) ?_
                 with_reducible refine (U6.calls (wrap64 (a2 * (wrap64 ((rd l0_0 x13_4) - (rd l1 (ji47)))))) t892 _ A50.out).mono ?_
                 rintro e w' ⟨rfl,⟨nd,rfl⟩⟩;refine ⟨_,rfl,?_⟩;refine hK.out _ _ ⟨(blk_cell BK879.out 0).trans rfl,(blk_cell BK879.out 1).trans rfl,((HB.out.cell (World.block_lt_of_cell? w _ hw890_0)).trans hw890_0),((HB.out.cell (World.block_lt_of_cell? w _ hw891_0)).trans hw891_0)⟩ (fun hHeld=>?_);clear hK K;refine norm_ (a':=?_) ?_ ?_;rotate_left
                 ·show Act.put _ (some 89) _ = _
                  simp only [zzs]
                  rfl
                 refine zzp 14 90 ?_ #[true,true,true,true,true,true,true,true,true,true,true,true,true,true,true,false] rfl rfl (any_of HT_.out (zz0)) (fun _ _ _ h=>h) (Or.inl ⟨zz9,?_⟩) ?_ ?_ ?_;rotate_left
                 ·intro w'
                  go_simp
                  with_reducible rfl
                 rotate_left
                 ·simp only [zzs]
                  rfl
                 refine zzp 15 17 ?_ #[true,true,true,true,true,true,true,true,true,true,true,true,true,true,true,true] rfl rfl (any_of HT_.out (zz0)) (fun _ _ _ h=>h) (Or.inl ⟨zz9,?_⟩) ?_ ?_ ?_;rotate_left
                 ·intro w'
                  go_simp
                  with_reducible rfl
                 rotate_left
                 ·simp only [zzs]
                  rfl
                 refine done_ (done_of HT_.out (zz0)) ?_
                 try go_wp2_with (first|((with_reducible refine gate_builtin (b:=.append) (xs:=#[.tmp 103,.tmp 107]) rfl ?_);at_builtin;refine Kd.R_append (Kd.int .i64) (w0:=w) w.heap.size rfl (.tmp 103) (.tmp 107) 31 3 (.int .i64 0) 8 rfl Tryd.underlying31 info3 rfl (zz17) (zz15) u14 x14_5 (wrap64 (x15_5 - (ji53))) [.int .i64 (wrap64 (x15_5 - (ji53)))] (fun _=>True) (fun _=>False) rfl rfl ?aP (fun _ hk=>hk.elim) ?aF ?aO ?aB ?aS ?aL ?_;(case aP=>exact rfl);(case aB=>exact (zz141));(case aF=>exact zz146);(case aO=>exact (have h0_:=HO_14;zz18));(case aS=>exact (below_size (zz141)));(case aL=>have:=LMc54.out;omega);intro v894 w56 ho hb hg hat;rw [← Ny893.out] at ho;replace HO_887000:=Aside0.mk (Kd.S_after (ok:=(fun _=>True)) (have h0_:=HO_887000;zz49) hg hat);replace BK879:=Aside0.mk (blk_grown (g:=gb879) (o:=.cells #[.slice (some ad890) l0_0.length c0_0,.slice A0_1 l0_1.length c0_1] 33 (0,0)) (zz138) hg (Kd.R_ne HO_14.out BK879.out (zz17)));replace BK880:=Aside0.mk (blk_grown (g:=gb880) (o:=.cells #[.slice none 0 0] 24 (0,0)) (zz139) hg (Kd.R_ne HO_14.out BK880.out (zz17)));replace BK886:=Aside0.mk (blk_grown (g:=gb886) (o:=.cells #[u887000] 24 (0,0)) (have h0_:=BK886;zz12) hg (Kd.R_ne HO_14.out BK886.out (zz17)));replace HB:=Aside0.mk (hb);have HO895:=Aside0.mk (ho);clear HO_14;clear ho hb hg hat))
                 go_roundg k5
                 case measure=>have:=HJ5.out;have:=HK2.out;have:=HK3.out;have:=HK4.out;have:=HK5.out;omega
                 case rel=>exact ⟨(y893),(ji53),(wrap64 (x16_5+1)),(have h0_:=hji53;zz22),(zz1),H',⟨by have:=HJ5.out;have:=HK2.out;have:=HK3.out;have:=HK4.out;have:=HK5.out;omega⟩,⟨(have h0_:=HO895;zz18)⟩,⟨(have h0_:=HO_887000;zz48)⟩,⟨zz138⟩,⟨zz139⟩,⟨(have h0_:=BK886;zz12)⟩,⟨zz141⟩⟩
                ·have c44b0:=decide_eq_false c44;clear c44;replace H:=zzi H;obtain ⟨c57,H⟩:=H;have LMc57:=Aside0.mk c57;clear c57;obtain ⟨y896,hy896⟩:∃ y_:List Int,y_ = (x14_5++[x15_5]):=⟨_,rfl⟩;replace H:(if x887000_4.length < 5864062014805 then (U5.l2 k5 l1 a2 (l1.length:Int) (wrap64 (x13_4+1)) l0_0 l0_1 (x887000_4++[y896])) else (none)) = some (r1,r2):=(have h0_:=hy896;zz16);have Ny896:=Aside0.mk hy896;clear hy896;replace H:=zzi H;obtain ⟨c58,H⟩:=H;have LMc58:=Aside0.mk c58;clear c58;obtain ⟨y899,hy899⟩:∃ y_:List (List Int),y_ = (x887000_4++[y896]):=⟨_,rfl⟩;replace H:(U5.l2 k5 l1 a2 (l1.length:Int) (wrap64 (x13_4+1)) l0_0 l0_1 y899) = some (r1,r2):=(have h0_:=hy899;zz16);have Ny899:=Aside0.mk hy899;clear hy899;have H':=Aside0.mk H;clear H
                 try go_wp2
                 replace HO_14:=Aside0.mk (Kd.R_drew HO_14.out);replace HO_887000:=Aside0.mk (Kd.S_drew HO_887000.out);replace BK879:=Aside0.mk (blk_drew BK879.out);replace BK880:=Aside0.mk (blk_drew BK880.out);replace BK886:=Aside0.mk (blk_drew BK886.out);replace HB:=Aside0.mk (below_drew1 HB.out);refine start_ (n:=10) (S:=fun w'=>w'.cell? ⟨gb886,0,none⟩ = some (u887000)) (ds:=[9]) #[false,false,false,false,false,false,false,false,false,false] (zz0) rfl rfl ((blk_cell BK886.out 0).trans rfl) (fun hHeld=>?_);refine with_tabW U5.tab30 U5.bits30 (fun HT_ HW_=>?_)
                 generalize wr.drew = w59 at HO_14 HO_887000 BK879 BK880 BK886 HB hHeld ⊢
                 refine zzp 0 110 ?_ #[true,false,false,false,false,false,false,false,false,false] rfl rfl (any_of HT_.out (zz0)) (fun _ _ _ h=>h) (Or.inl ⟨zz9,?_⟩) ?_ ?_ ?_;rotate_left
                 ·intro w'
                  go_simp
                  with_reducible rfl
                 rotate_left
                 ·simp only [zzs]
                  rfl
                 refine zzp 2 112 ?_ #[true,false,true,false,false,false,false,false,false,false] rfl rfl (any_of HT_.out (zz0)) (fun _ _ _ h=>h) (Or.inl ⟨zz9,?_⟩) ?_ ?_ ?_;rotate_left
                 ·intro w'
                  go_simp
                  with_reducible rfl
                 rotate_left
                 ·simp only [zzs]
                  rfl
                 refine zzp 3 113 ?_ #[true,false,true,true,false,false,false,false,false,false] rfl rfl (any_of HT_.out (zz0)) (fun _ _ _ h=>h) (Or.inl ⟨zz9,?_⟩) ?_ ?_ ?_;rotate_left
                 ·intro w'
                  go_simp
                  with_reducible rfl
                 rotate_left
                 ·simp only [zzs]
                  rfl
                 refine take_ (i:=1) (N:=some 111) (v:=?_) (a':=?_) #[true,true,true,true,false,false,false,false,false,false] rfl rfl (take_ofW HT_.out HW_.out (zz0)) (fun _ _ _ h=>h) (Or.inl ⟨zz9,?_⟩) hHeld ?_ ?_;rotate_left
                 ·intro w' s0
                  go_simp
                  with_reducible rfl
                 rotate_left
                 ·simp only [zzs]
                  rfl
                 refine one_ (i:=4) (N:=some 114) #[true,true,true,true,true,false,false,false,false,false] rfl rfl (one_of HT_.out (zz0)) (zz17) (fun K hK=>?_);refine value_ (w1:=?_) (v:=?_) (zz9) rfl ?_ ?_;rotate_left 2
                 ·go_simp
                  constructor
                  ·rfl
                  ·rfl
                 refine hK.out _ _ ((blk_cell (blk_alloc BK886.out _) 0).trans rfl) (fun hHeld=>?_);clear hK K;refine norm_ (a':=?_) ?_ ?_;rotate_left
                 ·show Act.put _ (some 114) _ = _
                  simp only [zzs]
                  rfl
                 refine one_ (i:=5) (N:=some 115) #[true,true,true,true,true,true,false,false,false,false] rfl rfl (one_of HT_.out (zz0)) (zz17) (fun K hK=>?_);refine Kd.R_append_step (Kd.int .i64) (w0:=w) w.heap.size (zz9) (.tmp 112) (.tmp 114) 31 3 (.int .i64 0) 8 rfl Tryd.underlying31 info3 rfl (zz17) (zz15) u14 x14_5 x15_5 [.int .i64 x15_5] (fun _=>True) (fun _=>False) rfl rfl ?aP (fun _ hk=>hk.elim) ?aF ?aO ?aB ?aS ?aL ?_
                 (case aP=>exact rfl)
                 (case aB=>exact (zz141))
                 (case aF=>exact zz146)
                 (case aO=>exact (have h0_:=HO_14;zz18))
                 (case aS=>exact (below_size (zz141)))
                 (case aL=>have:=LMc57.out;omega)
                 intro v897 w60 ho hb hg hat;rw [← Ny896.out] at ho;replace HO_887000:=Aside0.mk (Kd.S_after (ok:=(fun _=>True)) (have h0_:=HO_887000;zz49) hg hat);replace BK879:=Aside0.mk (blk_grown (g:=gb879) (o:=.cells #[.slice A0_0 l0_0.length c0_0,.slice A0_1 l0_1.length c0_1] 33 (0,0)) (zz138) hg (Kd.R_ne HO_14.out BK879.out (zz17)));replace BK880:=Aside0.mk (blk_grown (g:=gb880) (o:=.cells #[.slice none 0 0] 24 (0,0)) (zz139) hg (Kd.R_ne HO_14.out BK880.out (zz17)));replace BK886:=Aside0.mk (blk_grown (g:=gb886) (o:=.cells #[u887000] 24 (0,0)) (have h0_:=BK886;zz12) hg (Kd.R_ne HO_14.out BK886.out (zz17)));replace HB:=Aside0.mk (hb);have HO898:=Aside0.mk (ho);clear HO_14;clear ho hb hg hat;obtain ⟨Ao62,co62,eo62⟩:=Kd.R_slice HO898.out
                 (first|subst eo62|(injection eo62 with f1_ f2_ f3_;have f4_:=f1_.symm;have f5_:=f3_.symm;clear f1_ f2_ f3_;subst f4_;subst f5_))
                 refine hK.out _ _ ((blk_cell BK886.out 0).trans rfl) (fun hHeld=>?_);clear hK K;refine norm_ (a':=?_) ?_ ?_;rotate_left
                 ·show Act.put _ (some 115) _ = _
                  simp only [zzs]
                  rfl
                 refine one_ (i:=6) (N:=some 116) #[true,true,true,true,true,true,true,false,false,false] rfl rfl (one_of HT_.out (zz0)) (zz17) (fun K hK=>?_);refine value_ (w1:=?_) (v:=?_) (zz9) rfl ?_ ?_;rotate_left 2
                 ·go_simp
                  constructor
                  ·rfl
                  ·rfl
                 refine hK.out _ _ ((blk_cell (blk_alloc BK886.out _) 0).trans rfl) (fun hHeld=>?_);clear hK K;refine norm_ (a':=?_) ?_ ?_;rotate_left
                 ·show Act.put _ (some 116) _ = _
                  simp only [zzs]
                  rfl
                 refine one_ (i:=7) (N:=some 117) #[true,true,true,true,true,true,true,true,false,false] rfl rfl (one_of HT_.out (zz0)) (zz17) (fun K hK=>?_);refine Kd.S_append_step (Kd.slice 3 (Kd.int .i64)) (w0:=w) w.heap.size (zz9) (.tmp 111) (.tmp 116) 22 31 (.slice none 0 0) 24 rfl Tryd.underlying22 info31 rfl (zz17) (zz15) u887000 x887000_4 y896 [.slice Ao62 y896.length co62] (fun _=>True) (fun k_=>some k_ = (.slice Ao62 y896.length co62:Value).ownBlock) rfl rfl ?aP (fun k_ hk_=>((Kd.R_mono (ok':=fun k_=>((fun _=>True)) k_∧some k_ ≠ (u887000:Value).ownBlock) (Kd.R_apart' (HO898.out) (Kd.S_typed HO_887000.out) (zz17)) (fun k_ hk=>⟨trivial,hk.2⟩))).1 k_ hk_.symm) ?aF ?aO ?aB ?aS ?aL ?_
                 (case aP=>exact Kd.M_row (Kd.R_mono (Kd.R_tight rfl (Kd.R_mono (ok':=fun k_=>((fun _=>True)) k_∧some k_ ≠ (u887000:Value).ownBlock) (Kd.R_apart' (HO898.out) (Kd.S_typed HO_887000.out) (zz17)) (fun k_ hk=>⟨trivial,hk.2⟩))) (fun _ h_=>h_)))
                 (case aB=>exact (zz141))
                 (case aF=>exact zz146)
                 (case aO=>exact (have h0_:=HO_887000;zz32))
                 (case aS=>exact (below_size (zz141)))
                 (case aL=>have:=LMc58.out;omega)
                 intro v900 w61 ho hb hg hat;rw [← Ny899.out] at ho;replace BK879:=Aside0.mk (blk_grown (g:=gb879) (o:=.cells #[.slice A0_0 l0_0.length c0_0,.slice A0_1 l0_1.length c0_1] 33 (0,0)) (zz138) hg (Kd.S_ne HO_887000.out BK879.out (zz17)));replace BK880:=Aside0.mk (blk_grown (g:=gb880) (o:=.cells #[.slice none 0 0] 24 (0,0)) (zz139) hg (Kd.S_ne HO_887000.out BK880.out (zz17)));replace BK886:=Aside0.mk (blk_grown (g:=gb886) (o:=.cells #[u887000] 24 (0,0)) (have h0_:=BK886;zz12) hg (Kd.S_ne HO_887000.out BK886.out (zz17)));replace HB:=Aside0.mk (hb);have HO901:=Aside0.mk (ho);clear HO_887000 HO898;clear ho hb hg hat;obtain ⟨Ao63,co63,eo63⟩:=Kd.S_slice HO901.out
                 (first|subst eo63|(injection eo63 with f1_ f2_ f3_;have f4_:=f1_.symm;have f5_:=f3_.symm;clear f1_ f2_ f3_;subst f4_;subst f5_))
                 refine hK.out _ _ ((blk_cell BK886.out 0).trans rfl) (fun hHeld=>?_);clear hK K;refine norm_ (a':=?_) ?_ ?_;rotate_left
                 ·show Act.put _ (some 117) _ = _
                  simp only [zzs]
                  rfl
                 refine zzp 8 118 ?_ #[true,true,true,true,true,true,true,true,true,false] rfl rfl (any_of HT_.out (zz0)) (fun _ _ _ h=>h) (Or.inl ⟨zz9,?_⟩) ?_ ?_ ?_;rotate_left
                 ·intro w'
                  go_simp
                  with_reducible rfl
                 rotate_left
                 ·simp only [zzs]
                  rfl
                 refine last_ (i:=9) (N:=none) #[true,true,true,true,true,true,true,true,true,true] rfl rfl (one_of HT_.out (zz0)) (zz17) (fun K hK=>?_);have hs64:w61.cell? ⟨gb886,0,none⟩ = some (u887000):=(blk_cell BK886.out 0).trans rfl;have hfs64:=blk_frozen BK886.out 0;have hns64_0:=NB879_886.out;have hns64_1:=NB880_886.out;have hms64_0:=NB886_879.out;have hms64_1:=NB886_880.out;refine skip_ (w1:=?_) (zz9) rfl ?_ ?_;rotate_left
                 ·go_simp
                  rfl
                 refine hK.out _ _ ?_;clear hK K;refine done_ (done_of HT_.out (zz0)) ?_
                 try go_wp2
                 go_roundg k5
                 case measure=>have:=HJ5.out;have:=HK2.out;have:=HK3.out;have:=HK4.out;have:=HK5.out;omega
                 case rel=>exact ⟨(wrap64 (x13_4+1)),(y899),(.slice Ao63 y899.length co63),(zz1),H',⟨by have:=HJ5.out;have:=HK2.out;have:=HK3.out;have:=HK4.out;have:=HK5.out;omega⟩,⟨by (with_reducible repeat (first|apply Kd.S_alloc|apply Kd.S_drewN|apply Kd.S_drew));exact Kd.S_mono (Kd.S_far (p:=⟨gb886,0,none⟩) (Kd.S_types HO901.out BK886.out (zz17)) (fun _ hk=>hk.2) (.slice Ao63 y899.length co63)) (fun _ hk=>trivial)⟩,⟨by (with_reducible repeat (first|refine blk_drewN ?_ _|refine blk_drew ?_|refine blk_alloc ?_ _));refine blk_far ?_ NB879_886.out _;(with_reducible repeat (first|refine blk_drewN ?_ _|refine blk_drew ?_|refine blk_alloc ?_ _));exact BK879.out⟩,⟨by (with_reducible repeat (first|refine blk_drewN ?_ _|refine blk_drew ?_|refine blk_alloc ?_ _));refine blk_far ?_ NB880_886.out _;(with_reducible repeat (first|refine blk_drewN ?_ _|refine blk_drew ?_|refine blk_alloc ?_ _));exact BK880.out⟩,⟨by (with_reducible repeat (first|refine blk_drewN ?_ _|refine blk_drew ?_|refine blk_alloc ?_ _));refine blk_put (cs:=#[u887000]) ?_ 0 _ rfl;(with_reducible repeat (first|refine blk_drewN ?_ _|refine blk_drew ?_|refine blk_alloc ?_ _));exact BK886.out⟩,⟨zz141⟩⟩
             ·have c38b0:=decide_eq_false c38;clear c38;simp only [Option.some.injEq,Prod.mk.injEq] at H;obtain ⟨rfl,rfl⟩:=H;have hnb65:=NB879_880.out;have hnc65:=NB880_879.out;have hnb66:=NB879_886.out;have hnc66:=NB886_879.out;obtain ⟨hcz67_0,hcz67_1,hfz67_0,hfz67_1⟩:=zc2 BK879.out;have hnb68:=NB886_880.out;have hnc68:=NB880_886.out;obtain ⟨hcz69_0,hfz69_0⟩:=zc1 BK886.out;obtain ⟨Ao70,co70,eo70⟩:=Kd.S_slice HO_887000.out;subst eo70;obtain ⟨hcz71_0,hfz71_0⟩:=zc1 BK880.out
              go_wp2
              refine bodyPost_ret (results_ct rfl _ _ gb880 24 #[.slice Ao70 x887000_4.length co70] (0,0) _ rfl (have h0_:=BK880;zz27) Tryd.underlying24 rfl (zz0)) rfl ?_
              exact ⟨_,zz14,by (with_reducible repeat (first|apply Kd.S_alloc|apply Kd.S_drewN|apply Kd.S_drew));exact Kd.S_mono (Kd.S_far (p:=⟨gb880,0,none⟩) (Kd.S_types HO_887000.out BK880.out (zz17)) (fun _ hk=>hk.2) (.slice Ao70 x887000_4.length co70)) (fun _ hk=>trivial),zz141⟩
 ·have c5b0:=beq_eq_false_iff_ne.mpr c5;have c5b1:=bne_iff_ne.mpr c5;simp only [Option.some.injEq,Prod.mk.injEq] at H;obtain ⟨rfl,rfl⟩:=H;go_enter Tryd.func25,Tryd.ntmps25
  go_wp2_with (first|((with_reducible refine gate_dst (N:=3) rfl ?_);refine box_event ?hg (N:=3) ?hd (cs:=#[.slice A0_0 l0_0.length c0_0,.slice A0_1 l0_1.length c0_1]) (t:=33) ?hr ?_;(case hd=>rfl);(case hg=>rfl);(case hr=>exact zz144);intro gb879 hg w72 hbox hb;have BK879:=Aside0.mk (hbox);have GW879:=Aside0.mk ((by rw [hg];exact (below_size (zz10)):w.heap.size≤gb879));have GE879:=Aside0.mk ((by rw [hg];exact (below_size (zz10)):w.heap.size≤gb879));replace HB:=Aside0.mk (below_step (zz10) hb);clear hb hbox hg)|((with_reducible refine gate_dst (N:=6) rfl ?_);refine box_event ?hg (N:=6) ?hd (cs:=#[.slice none 0 0]) (t:=24) ?hr ?_;(case hd=>rfl);(case hg=>rfl);(case hr=>exact zz144);intro gb880 hg w73 hbox hb;have BK880:=Aside0.mk (hbox);have GW880:=Aside0.mk ((by rw [hg];exact (below_size (have h0_:=GE879;zz13)):w.heap.size≤gb880));have GE880:=Aside0.mk ((by rw [hg];exact (below_size (have h0_:=GE879;zz13)):w.heap.size≤gb880));replace HB:=Aside0.mk (below_step (have h0_:=GE879;zz13) hb);have NB879_880:=Aside0.mk ((by rw [hg];exact Nat.ne_of_lt (blk_lt (g:=gb879) (o:=.cells #[.slice A0_0 l0_0.length c0_0,.slice A0_1 l0_1.length c0_1] 33 (0,0)) (zz138)):gb879 ≠ gb880));have NB880_879:=Aside0.mk ((by rw [hg];exact Nat.ne_of_gt (blk_lt (g:=gb879) (o:=.cells #[.slice A0_0 l0_0.length c0_0,.slice A0_1 l0_1.length c0_1] 33 (0,0)) (zz138)):gb880 ≠ gb879));replace BK879:=Aside0.mk (blk_below (zz138) hb);clear hb hbox hg;have hnb74:=NB879_880.out;have hnc74:=NB880_879.out;obtain ⟨hcz75_0,hcz75_1,hfz75_0,hfz75_1⟩:=zc2 BK879.out)|((with_reducible refine gate_callee (f:=51) rfl ?_);refine goesL_ (some 19) rfl rfl Tryd.func51 (zz0) rfl #[.agg #[.slice A0_0 l0_0.length c0_0,.slice A0_1 l0_1.length c0_1]] rfl (zz5) ?_;(with_reducible refine (U3.calls k _ _ l0_0 _ _ l0_1 t881 _ ?_ ?_ ?_ ?_ A4.out).mono ?_);exact zz149;exact zz150;(exact (have h0_:=HR0_1;zz145));exact zz151;rintro e w76 ⟨rfl,hb⟩;refine ⟨_,rfl,?_⟩;replace BK879:=Aside0.mk (blk_below (zz138) hb);replace BK880:=Aside0.mk (blk_below (zz139) hb);replace HB:=Aside0.mk (below_step (zz140) hb);(try clear hb);obtain ⟨hcz77_0,hfz77_0⟩:=zc1 BK880.out))
  refine bodyPost_ret (results_ct rfl _ _ gb880 24 #[.slice none 0 0] (0,0) _ rfl (have h0_:=BK880;zz27) Tryd.underlying24 rfl (zz0)) rfl ?_
  exact ⟨_,zz14,zz28,zz140⟩
end Go.Proofs.YtfkmbjkmlfnapaaDoor.QA
