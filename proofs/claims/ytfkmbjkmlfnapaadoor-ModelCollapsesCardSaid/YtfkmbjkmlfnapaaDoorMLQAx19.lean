import Derived.Test.YtfkmbjkmlfnapaaDoorMLQAx0
import Derived.Test.YtfkmbjkmlfnapaaDoorMLQAx2
namespace Go.Proofs.YtfkmbjkmlfnapaaDoor.QA
open Go.RowKit Go.Proofs.YtfkmbjkmlfnapaaDoorW.PrintWords Go.Proofs.YtfkmbjkmlfnapaaDoorW.PrintLast Go.Proofs.YtfkmbjkmlfnapaaDoorW.PrintMore
attribute [local go_sem] max2_int min2_int max_two min_two max_three min_three max_four min_four
set_option linter.unusedVariables false
set_option linter.unusedSimpArgs false
mutual
def U4.j0:Nat→List Int→Bool→List (List Int)→Option ((List (List Int)) × Int)
 | 0,_,_,_=>none
 | k+1,x1,x32,x916000=>if x32 = true then (some (([]:List (List Int)),1)) else (U4.l0 k x1 1 x916000)
def U4.l0:Nat→List Int→Int→List (List Int)→Option ((List (List Int)) × Int)
 | 0,_,_,_=>none
 | k+1,x1,x7,x916000=>if x7 < (x1.length:Int) then (if 0≤x7 then (if 0≤(wrap64 (x7 - 1)) then (if (wrap64 (x7 - 1)) < (x1.length:Int) then (if (rd x1 x7) = (rd x1 (wrap64 (x7 - 1))) then (U4.l0 k x1 (wrap64 (x7+1)) x916000) else (if (wrap64 ((rd x1 x7) - 1)) = (rd x1 (wrap64 (x7 - 1))) then (U4.l0 k x1 (wrap64 (x7+1)) x916000) else (some (([]:List (List Int)),1)))) else (none)) else (none)) else (none)) else (if 0≤(wrap64 ((x1.length:Int) - 1)) then (if (wrap64 ((x1.length:Int) - 1)) < (x1.length:Int) then (if (wrap64 ((rd x1 (wrap64 ((x1.length:Int) - 1)))+1)) < 2 then (some (([]:List (List Int)),19)) else (U4.l1 k x1 (wrap64 ((rd x1 (wrap64 ((x1.length:Int) - 1)))+1)) 0 x916000 ([]:List (List Int)))) else (none)) else (none))
def U4.l1:Nat→List Int→Int→Int→List (List Int)→List (List Int)→Option ((List (List Int)) × Int)
 | 0,_,_,_,_,_=>none
 | k+1,x1,x8,x10,x916000,x926000=>if x10 < (x916000.length:Int) then (if 0≤x8 then (if (x8:Int).toNat≤35184372088832 then (U4.l2 k x1 x8 x10 (List.replicate (x8:Int).toNat 0) 0 x916000 x926000) else (none)) else (none)) else (some (x926000,0))
def U4.l2:Nat→List Int→Int→Int→List Int→Int→List (List Int)→List (List Int)→Option ((List (List Int)) × Int)
 | 0,_,_,_,_,_,_,_=>none
 | k+1,x1,x8,x10,x11,x12,x916000,x926000=>if x12 < (x1.length:Int) then (if 0≤x12 then (if 0≤(rd x1 x12) then (if (rd x1 x12) < (x11.length:Int) then (if 0≤x10 then (if x10 < (x916000.length:Int) then (if x12 < ((rd_L1 x916000 x10).length:Int) then (U4.l2 k x1 x8 x10 (x11.set ((rd x1 x12):Int).toNat (wrap64 ((rd x11 (rd x1 x12))+(rd (rd_L1 x916000 x10) x12)))) (wrap64 (x12+1)) x916000 x926000) else (none)) else (none)) else (none)) else (none)) else (none)) else (none)) else (if x926000.length < 5864062014805 then (U4.l1 k x1 x8 (wrap64 (x10+1)) x916000 (x926000++[x11])) else (none))
end
def U4.f (k:Nat) (l0_0:List (List Int)) (l1:List Int):Option ((List (List Int)) × Int):=(U6.f k l0_0 (l0_0.length:Int)).bind fun t917=>(if t917 = 0 then ((U3.f l0_0).bind fun t918=>(if (l1.length:Int) = t918 then (if 0 < (l1.length:Int) then (U4.j0 k l1 ((rd l1 0) != 0) l0_0) else (none)) else (U4.j0 k l1 true l0_0))) else (some (([]:List (List Int)),t917)))
theorem zm14_0 {P:Prop} (h:P:=by repeat' first|(with_reducible first|exact ih0 ..|exact ih1 ..|exact ih2 ..|exact ih3 ..|exact U6.mono ..|exact LeO.refl _|exact LeO.none _|refine LeO.ite ?_ ?_|refine LeO.bind ?_ (fun _=>?_))|exact ih0 ..|exact ih1 ..|exact ih2 ..|exact ih3 ..|exact U6.mono ..|exact LeO.none _|refine LeO.ite ?_ ?_|refine LeO.bind ?_ (fun _=>?_)):P:=h
theorem U4.mono_l:∀ k,(∀ y0 y1 y2,LeO (U4.j0 k y0 y1 y2) (U4.j0 (k+1) y0 y1 y2))∧(∀ y0 y1 y2,LeO (U4.l0 k y0 y1 y2) (U4.l0 (k+1) y0 y1 y2))∧(∀ y0 y1 y2 y3 y4,LeO (U4.l1 k y0 y1 y2 y3 y4) (U4.l1 (k+1) y0 y1 y2 y3 y4))∧(∀ y0 y1 y2 y3 y4 y5 y6,LeO (U4.l2 k y0 y1 y2 y3 y4 y5 y6) (U4.l2 (k+1) y0 y1 y2 y3 y4 y5 y6))
 | 0=>⟨fun _ _ _ r h=>by simp [U4.j0] at h,fun _ _ _ r h=>by simp [U4.l0] at h,fun _ _ _ _ _ r h=>by simp [U4.l1] at h,fun _ _ _ _ _ _ _ r h=>by simp [U4.l2] at h⟩
 | k+1=>by
  obtain ⟨ih0,ih1,ih2,ih3⟩:=U4.mono_l k;refine ⟨?_,?_,?_,?_⟩
  ·intro y0 y1 y2;unfold U4.j0
   exact zm14_0
  ·intro y0 y1 y2;unfold U4.l0
   exact zm14_0
  ·intro y0 y1 y2 y3 y4;unfold U4.l1
   exact zm14_0
  ·intro y0 y1 y2 y3 y4 y5 y6;unfold U4.l2
   exact zm14_0
theorem U4.mono:∀ a0 a1 k,LeO (U4.f k a0 a1) (U4.f (k+1) a0 a1):=by
 intro a0 a1 k;obtain ⟨ih0,ih1,ih2,ih3⟩:=U4.mono_l k;unfold U4.f
 exact zm14_0
def U4.T9:Bool × List (List Nat × List Nat):=(true,[([],[]),([],[]),([0,1],[0,1]),([2],[2]),([],[]),([],[]),([5],[5]),([4,6],[4,6]),([7],[7]),([3,8],[3,8]),([9],[9]),([10],[10]),([10],[10]),([11,12,10],[10,11,12]),([13,10],[10,13]),([14,10],[10,14]),([10],[10]),([10],[10]),([17,10],[10,17]),([16,18,10],[10,16,18]),([19,10],[10,19]),([15,20,10],[10,15,20]),([10,21],[10,21])])
def U4.B9:List Nat:=[0,0,3,7,0,0,32,112,240,511,1023,2047,2047,8191,16383,32767,2047,2047,133119,460799,985087,2097151,4194303]
theorem U4.tab9:rtab .any (opsOf Tryd.f27 9) = U4.T9:=zz0
theorem U4.bits9:waitsOk U4.T9.2 U4.B9 = true:=zz0
def U4.T22:Bool × List (List Nat × List Nat):=(true,[([],[]),([],[]),([],[]),([1,2],[1,2]),([3],[3]),([],[]),([],[]),([],[]),([6,7],[6,7]),([8],[8]),([5,9],[5,9]),([10],[10]),([],[]),([12],[12]),([],[]),([13,14],[13,14]),([15],[15]),([],[]),([16,17],[16,17]),([18],[18]),([11,19],[11,19]),([0,4,0,1,2,3,4,5,6,7,8,9,10,11,12,13,14,15,16,17,18,19,20],[0,4]),([21,20,0,1,2,3,4,5,6,7,8,9,10,11,12,13,14,15,16,17,18,19,20],[20,21])])
def U4.B22:List Nat:=[0,0,0,6,14,0,0,0,192,448,992,2016,0,4096,0,28672,61440,0,258048,520192,1048544,2097151,4194303]
theorem U4.tab22:rtab .any (opsOf Tryd.f27 22) = U4.T22:=zz0
theorem U4.bits22:waitsOk U4.T22.2 U4.B22 = true:=zz0
set_option maxHeartbeats 8000000 in
set_option maxRecDepth 100000 in
theorem U4.calls (k:Nat) (A0_0:Option Addr) (c0_0:Nat) (l0_0:List (List Int)) (A1:Option Addr) (c1:Nat) (l1:List Int) (r1:List (List Int)) (r2:Int) (w:World) (hr0_0:Kd.C (Kd.slice 3 (Kd.int .i64)) w A0_0 l0_0.length l0_0) (hc0_0:l0_0.length≤c0_0) (hr1:Kd.C (Kd.int .i64) w A1 l1.length l1) (hc1:l1.length≤c1) (h:U4.f k l0_0 l1 = some (r1,r2)) :
  Calls Tryd.prog 27 #[.agg #[.slice A0_0 l0_0.length c0_0],.slice A1 l1.length c1] w fun e w'=>∃ v0_:Value,e = .returned (.tuple #[.agg #[v0_],.int .i64 r2])∧Kd.S (Kd.slice 3 (Kd.int .i64)) 31 w' w.heap.size (fun _=>True) v0_ r1∧Below w.heap.size w w':=by
 have hu24:=Tryd.underlying24;have HR0_0:=Aside0.mk hr0_0;have HC0_0:=Aside0.mk hc0_0;clear hr0_0 hc0_0;have HR1:=Aside0.mk hr1;have HC1:=Aside0.mk hc1;clear hr1 hc1;have HB:=Aside0.mk (Below.refl w.heap.size w);have H:((U6.f k l0_0 (l0_0.length:Int)).bind fun t917=>(if t917 = 0 then ((U3.f l0_0).bind fun t918=>(if (l1.length:Int) = t918 then (if 0 < (l1.length:Int) then (U4.j0 k l1 ((rd l1 0) != 0) l0_0) else (none)) else (U4.j0 k l1 true l0_0))) else (some (([]:List (List Int)),t917)))) = some (r1,r2):=h;clear h;replace H:=zzb H;obtain ⟨t917,A3,H⟩:=H;replace H:=zzj H;rcases H with ⟨c4,H⟩|⟨c4,H⟩
 ·have c4b0:=beq_iff_eq.mpr c4;have c4b1:=bne_eq_false_iff_eq.mpr c4;clear c4;have HC5:=Aside0.mk H;clear H;go_enter Tryd.func27,Tryd.ntmps27
  go_upto_region 4 with (first|((with_reducible refine gate_dst (N:=2) rfl ?_);refine box_event ?hg (N:=2) ?hd (cs:=#[.slice A0_0 l0_0.length c0_0]) (t:=24) ?hr ?_;(case hd=>rfl);(case hg=>rfl);(case hr=>exact zz146);intro gb915 hg w6 hbox hb;have BK915:=Aside0.mk (hbox);have GW915:=Aside0.mk ((by rw [hg];exact (below_size (zz10)):w.heap.size≤gb915));have GE915:=Aside0.mk ((by rw [hg];exact (below_size (zz10)):w.heap.size≤gb915));replace HB:=Aside0.mk (below_step (zz10) hb);clear hb hbox hg)|((with_reducible refine gate_dst (N:=4) rfl ?_);refine box_event ?hg (N:=4) ?hd (cs:=#[.slice none 0 0]) (t:=24) ?hr ?_;(case hd=>rfl);(case hg=>rfl);(case hr=>exact zz146);intro gb916 hg w7 hbox hb;have BK916:=Aside0.mk (hbox);have GW916:=Aside0.mk ((by rw [hg];exact (below_size (have h0_:=GE915;zz13)):w.heap.size≤gb916));have GE916:=Aside0.mk ((by rw [hg];exact (below_size (have h0_:=GE915;zz13)):w.heap.size≤gb916));replace HB:=Aside0.mk (below_step (have h0_:=GE915;zz13) hb);have NB915_916:=Aside0.mk ((by rw [hg];exact Nat.ne_of_lt (blk_lt (g:=gb915) (o:=.cells #[.slice A0_0 l0_0.length c0_0] 24 (0,0)) (zz139)):gb915 ≠ gb916));have NB916_915:=Aside0.mk ((by rw [hg];exact Nat.ne_of_gt (blk_lt (g:=gb915) (o:=.cells #[.slice A0_0 l0_0.length c0_0] 24 (0,0)) (zz139)):gb916 ≠ gb915));replace BK915:=Aside0.mk (blk_below (zz139) hb);clear hb hbox hg;have hnb8:=NB915_916.out;have hnc8:=NB916_915.out;obtain ⟨hcz9_0,hfz9_0⟩:=zc1 BK915.out)|((with_reducible refine gate_callee (f:=15) rfl ?_);refine goesL_ (some 17) rfl rfl Tryd.func15 (zz0) rfl #[.agg #[.slice A0_0 l0_0.length c0_0],.int .i64 (l0_0.length:Int)] rfl (zz5) ?_;(with_reducible refine (U6.calls k _ _ l0_0 (l0_0.length:Int) t917 _ ?_ ?_ A3.out).mono ?_);exact zz151;exact zz152;rintro e w10 ⟨rfl,hb⟩;refine ⟨_,rfl,?_⟩;replace BK915:=Aside0.mk (blk_below (zz139) hb);replace BK916:=Aside0.mk (blk_below (zz140) hb);replace HB:=Aside0.mk (below_step (zz141) hb);(try clear hb)))
  (try simp only [Act.put,List.setIfInBounds_toArray,List.set_cons_zero,List.set_cons_succ])
  go_cut [32] (fun v32 wc=>∃ (kq:Nat) (x32_4:Bool),v32 = .bool x32_4∧Aside0 (U4.j0 kq l1 x32_4 l0_0 = some (r1,r2))∧Aside0 (kq≤k)∧Aside0 (wc.heap[gb915]? = some (.cells #[(.slice A0_0 l0_0.length c0_0)] 24 (0,0)))∧Aside0 (wc.heap[gb916]? = some (.cells #[(.slice none 0 0)] 24 (0,0)))∧Aside0 (Below w.heap.size w wc))
  case first =>
   have H:=HC5.out;clear HC5;replace H:=zzb H;obtain ⟨t918,A11,H⟩:=H;replace H:=zzj H;rcases H with ⟨c12,H⟩|⟨c12,H⟩
   ·have c12b0:=beq_iff_eq.mpr c12;have c12b1:=bne_eq_false_iff_eq.mpr c12;clear c12
    (first|rw [c12b0]|rw [c12b1]|(simp only [i64_w,i32_w];rw [c12b0])|skip)
    replace H:=zzi H;obtain ⟨c13,H⟩:=H;have c13b0:=decide_eq_true c13;have c13b1:decide (0 < l1.length) = true:=decide_eq_true (zz15);clear c13;have H':=Aside0.mk H;clear H;have hnb14:=NB915_916.out;have hnc14:=NB916_915.out;obtain ⟨hcz15_0,hfz15_0⟩:=zc1 BK915.out
    go_wp2_with (first|((with_reducible refine gate_callee (f:=17) rfl ?_);refine goesL_ (some 25) rfl rfl Tryd.func17 (zz0) rfl #[.agg #[.slice A0_0 l0_0.length c0_0]] rfl (zz5) ?_;(with_reducible refine (U3.calls _ _ l0_0 t918 _ ?_ ?_ A11.out).mono ?_);exact zz151;exact zz152;rintro e w16 ⟨rfl,hb⟩;refine ⟨_,rfl,?_⟩;replace BK915:=Aside0.mk (blk_below (zz139) hb);replace BK916:=Aside0.mk (blk_below (zz140) hb);replace HB:=Aside0.mk (below_step (zz141) hb);(try clear hb);have p919:0≤(0:Int):=(zz15);have q919:0 < (l1.length:Int):=of_decide_eq_true (zz4);obtain ⟨ad919,e919,hx919_0⟩:=Kd.at_int HR1.out 0 p919 q919;cases e919;have qi919:(0 < l1.length) = True:=eq_true (zz15);(try rw [show ((0:Int)).toNat = 0 from rfl] at hx919_0);(try rw [Addr.add_zero'] at hx919_0);replace hx919_0:=(HB.out.cell (World.block_lt_of_cell? w _ hx919_0)).trans hx919_0;replace p919:=eq_true p919;replace q919:=eq_true q919))
    go_meet
    case rel=>exact ⟨_,(((rd l1 0) != 0)),(zz1),H',⟨zz11⟩,⟨zz139⟩,⟨zz140⟩,⟨zz141⟩⟩
   ·have c12b0:=beq_eq_false_iff_ne.mpr c12;have c12b1:=bne_iff_ne.mpr c12
    (first|rw [c12b0]|rw [c12b1]|(simp only [i64_w,i32_w];rw [c12b0])|skip)
    have H':=Aside0.mk H;clear H;have hnb17:=NB915_916.out;have hnc17:=NB916_915.out;obtain ⟨hcz18_0,hfz18_0⟩:=zc1 BK915.out
    go_wp2_with (first|((with_reducible refine gate_callee (f:=17) rfl ?_);refine goesL_ (some 25) rfl rfl Tryd.func17 (zz0) rfl #[.agg #[.slice A0_0 l0_0.length c0_0]] rfl (zz5) ?_;(with_reducible refine (U3.calls _ _ l0_0 t918 _ ?_ ?_ A11.out).mono ?_);exact zz151;exact zz152;rintro e w19 ⟨rfl,hb⟩;refine ⟨_,rfl,?_⟩;replace BK915:=Aside0.mk (blk_below (zz139) hb);replace BK916:=Aside0.mk (blk_below (zz140) hb);replace HB:=Aside0.mk (below_step (zz141) hb);(try clear hb)))
    go_meet
    case rel=>exact ⟨_,(true),(zz1),H',⟨zz11⟩,⟨zz139⟩,⟨zz140⟩,⟨zz141⟩⟩
  case rest =>
   clear HC5;(try clear c1);clear c4b0 c4b1;(try clear hcz9_0);(try clear hfz9_0);obtain ⟨kq,x32_4,rfl,HA,HJ4,BK915,BK916,HB⟩:=hcut
   cases kq with
   | zero=>exact absurd HA.out (by simp [U4.j0])
   | succ kj4 =>
    have H:=HA.out;clear HA;simp only [U4.j0] at H;by_cases c20:x32_4 = true
    ·subst c20;have H1:(some (([]:List (List Int)),1)) = some (r1,r2):=zz3;clear H;have H:=H1;clear H1;simp only [Option.some.injEq,Prod.mk.injEq] at H;obtain ⟨rfl,rfl⟩:=H;have hnb21:=NB916_915.out;have hnc21:=NB915_916.out;obtain ⟨hcz22_0,hfz22_0⟩:=zc1 BK916.out
     go_wp2
     refine bodyPost_ret (results_ct rfl _ _ gb916 24 #[.slice none 0 0] (0,0) _ rfl (have h0_:=BK916;zz27) Tryd.underlying24 rfl (zz0)) rfl ?_
     exact ⟨_,zz14,zz28,zz141⟩
    ·replace c20:=Bool.eq_false_iff.mpr c20;subst c20;have H1:(U4.l0 kj4 l1 1 l0_0) = some (r1,r2):=zz7;clear H;have H:=H1;clear H1;have H':=Aside0.mk H;clear H
     go_wp2
     go_loopg [7] kj4 (fun kq v7 w'=>∃ (x7_2:Int),v7 = .int .i64 x7_2∧Aside0 (U4.l0 kq l1 x7_2 l0_0 = some (r1,r2))∧Aside0 (kq≤kj4)∧Aside0 (w'.heap[gb915]? = some (.cells #[(.slice A0_0 l0_0.length c0_0)] 24 (0,0)))∧Aside0 (w'.heap[gb916]? = some (.cells #[(.slice none 0 0)] 24 (0,0)))∧Aside0 (Below w.heap.size w w'))
     case atStart=>exact ⟨(1),(zz1),H',⟨Nat.le_refl _⟩,⟨zz139⟩,⟨zz140⟩,⟨zz141⟩⟩
     case round =>
      clear H'
      (try clear hx9);(try clear qi9);(try clear c20);(try clear hcz15_0);(try clear hcz18_0);(try clear hcz9_0);(try clear hfz15_0);(try clear hfz18_0);(try clear hfz9_0);(try clear hx919_0)
      obtain ⟨x7_2,rfl,HA,HK2,BK915,BK916,HB⟩:=hrel
      cases gk with
      | zero=>exact absurd HA.out (by simp [U4.l0])
      | succ k2 =>
       have H:=HA.out;clear HA;simp only [U4.l0] at H;replace H:=zzj H;rcases H with ⟨c23,H⟩|⟨c23,H⟩
       ·have c23b0:=decide_eq_true c23;clear c23;replace H:=zzi H;obtain ⟨c24,H⟩:=H;have c24b0:=decide_eq_true c24;clear c24;obtain ⟨ji25,hji25⟩:∃ j_:Int,(wrap64 (x7_2 - 1)) = j_:=⟨_,rfl⟩;replace H:(if 0≤(ji25) then (if (ji25) < (l1.length:Int) then (if (rd l1 x7_2) = (rd l1 (ji25)) then (U4.l0 k2 l1 (wrap64 (x7_2+1)) l0_0) else (if (wrap64 ((rd l1 x7_2) - 1)) = (rd l1 (ji25)) then (U4.l0 k2 l1 (wrap64 (x7_2+1)) l0_0) else (some (([]:List (List Int)),1)))) else (none)) else (none)) = some (r1,r2):=(have h0_:=hji25;zz19);have hji25w:(IntKind.i64.wrap (x7_2 - 1)) = ji25:=(i64_w _).trans hji25;replace H:=zzi H;obtain ⟨c26,H⟩:=H;have c26b0:=decide_eq_true c26;clear c26;replace H:=zzi H;obtain ⟨c27,H⟩:=H;have c27b0:=decide_eq_true c27;clear c27;replace H:=zzj H;rcases H with ⟨c28,H⟩|⟨c28,H⟩
        ·have c28b0:=beq_iff_eq.mpr c28;have c28b1:=bne_eq_false_iff_eq.mpr c28;clear c28;have H':=Aside0.mk H;clear H
         try go_wp2
         replace BK915:=Aside0.mk (blk_drew BK915.out);replace BK916:=Aside0.mk (blk_drew BK916.out);replace HB:=Aside0.mk (below_drew1 HB.out);have p920:0≤(x7_2:Int):=of_decide_eq_true (zz4);have q920:x7_2 < (l1.length:Int):=of_decide_eq_true (zz4);obtain ⟨ad920,e920,hx920_0⟩:=Kd.at_int HR1.out x7_2 p920 q920;have hw920_0:=hx920_0
         cases e920
         replace hx920_0:=(HB.out.cell (World.block_lt_of_cell? w _ hx920_0)).trans hx920_0;replace p920:=eq_true p920;replace q920:=eq_true q920;have p921:0≤((ji25):Int):=of_decide_eq_true (zz4);have q921:(ji25) < (l1.length:Int):=of_decide_eq_true (zz4);obtain ⟨ad921,e921,hx921_0⟩:=Kd.at_int HR1.out (ji25) p921 q921;have hw921_0:=hx921_0;obtain rfl:ad920 = ad921:=(by injection e921);replace hx921_0:=(HB.out.cell (World.block_lt_of_cell? w _ hx921_0)).trans hx921_0;replace p921:=eq_true p921;replace q921:=eq_true q921;refine start_ (n:=23) (S:=fun w'=>w'.cell? (ad920.add (x7_2).toNat) = some (.int .i64 (rd l1 x7_2))∧w'.cell? (ad920.add ((ji25)).toNat) = some (.int .i64 (rd l1 (ji25)))) (ds:=[]) #[false,false,false,false,false,false,false,false,false,false,false,false,false,false,false,false,false,false,false,false,false,false,false] (zz0) rfl rfl ⟨((HB.out.cell (World.block_lt_of_cell? w _ hw920_0)).trans hw920_0),((HB.out.cell (World.block_lt_of_cell? w _ hw921_0)).trans hw921_0)⟩ (fun hHeld=>?_);refine with_tabW U4.tab9 U4.bits9 (fun HT_ HW_=>?_)
         generalize wr.drew = w29 at BK915 BK916 HB hx920_0 hx921_0 hHeld ⊢
         refine zzp 0 40 ?_ #[true,false,false,false,false,false,false,false,false,false,false,false,false,false,false,false,false,false,false,false,false,false,false] rfl rfl (any_of HT_.out (zz0)) (fun _ _ _ h=>h) (Or.inl ⟨zz9,?_⟩) ?_ ?_ ?_;rotate_left
         ·intro w'
          go_simp
          with_reducible rfl
         rotate_left
         ·simp only [zzs]
          rfl
         refine zzp 1 41 ?_ #[true,true,false,false,false,false,false,false,false,false,false,false,false,false,false,false,false,false,false,false,false,false,false] rfl rfl (any_of HT_.out (zz0)) (fun _ _ _ h=>h) (Or.inl ⟨zz9,?_⟩) ?_ ?_ ?_;rotate_left
         ·intro w'
          go_simp
          with_reducible rfl
         rotate_left
         ·simp only [zzs]
          rfl
         refine zzp 2 42 ?_ #[true,true,true,false,false,false,false,false,false,false,false,false,false,false,false,false,false,false,false,false,false,false,false] rfl rfl (any_of HT_.out (zz0)) (fun _ _ _ h=>h) (Or.inl ⟨zz9,?_⟩) ?_ ?_ ?_;rotate_left
         ·intro w'
          go_simp
          with_reducible rfl
         rotate_left
         ·simp only [zzs]
          rfl
         refine zzp 4 44 ?_ #[true,true,true,false,true,false,false,false,false,false,false,false,false,false,false,false,false,false,false,false,false,false,false] rfl rfl (any_of HT_.out (zz0)) (fun _ _ _ h=>h) (Or.inl ⟨zz9,?_⟩) ?_ ?_ ?_;rotate_left
         ·intro w'
          go_simp
          with_reducible rfl
         rotate_left
         ·simp only [zzs]
          rfl
         refine zzp 5 45 ?_ #[true,true,true,false,true,true,false,false,false,false,false,false,false,false,false,false,false,false,false,false,false,false,false] rfl rfl (any_of HT_.out (zz0)) (fun _ _ _ h=>h) (Or.inl ⟨zz9,?_⟩) ?_ ?_ ?_;rotate_left
         ·intro w'
          go_simp
          with_reducible rfl
         rotate_left
         ·simp only [zzs]
          rfl
         refine zzp 6 46 ?_ #[true,true,true,false,true,true,true,false,false,false,false,false,false,false,false,false,false,false,false,false,false,false,false] rfl rfl (any_of HT_.out (zz0)) (fun _ _ _ h=>h) (Or.inl ⟨zz9,?_⟩) ?_ ?_ ?_;rotate_left
         ·intro w'
          go_simp
          with_reducible rfl
         rotate_left
         ·simp only [zzs]
          rfl
         refine zzp 7 47 ?_ #[true,true,true,false,true,true,true,true,false,false,false,false,false,false,false,false,false,false,false,false,false,false,false] rfl rfl (any_of HT_.out (zz0)) (fun _ _ _ h=>h) (Or.inl ⟨zz9,?_⟩) ?_ ?_ ?_;rotate_left
         ·intro w'
          go_simp
          with_reducible rfl
         rotate_left
         ·simp only [zzs]
          rfl
         refine take_ (i:=3) (N:=some 43) (v:=?_) (a':=?_) #[true,true,true,true,true,true,true,true,false,false,false,false,false,false,false,false,false,false,false,false,false,false,false] rfl rfl (take_ofW HT_.out HW_.out (zz0)) (fun _ _ _ h=>h) (Or.inl ⟨zz9,?_⟩) hHeld ?_ ?_;rotate_left
         ·rintro w' ⟨s0,s1⟩
          go_simp
          with_reducible rfl
         rotate_left
         ·simp only [zzs]
          rfl
         refine take_ (i:=8) (N:=some 48) (v:=?_) (a':=?_) #[true,true,true,true,true,true,true,true,true,false,false,false,false,false,false,false,false,false,false,false,false,false,false] rfl rfl (take_ofW HT_.out HW_.out (zz0)) (fun _ _ _ h=>h) (Or.inl ⟨zz9,?_⟩) hHeld ?_ ?_;rotate_left
         ·rintro w' ⟨s0,s1⟩
          go_simp
          with_reducible rfl
         rotate_left
         ·simp only [zzs]
          rfl
         refine zzp 9 49 ?_ #[true,true,true,true,true,true,true,true,true,true,false,false,false,false,false,false,false,false,false,false,false,false,false] rfl rfl (any_of HT_.out (zz0)) (fun _ _ _ h=>h) (Or.inl ⟨zz9,?_⟩) ?_ ?_ ?_;rotate_left
         ·intro w'
          go_simp
          with_reducible rfl
         rotate_left
         ·simp only [zzs]
          rfl
         refine zzp 10 50 ?_ #[true,true,true,true,true,true,true,true,true,true,true,false,false,false,false,false,false,false,false,false,false,false,false] rfl rfl (any_of HT_.out (zz0)) (fun _ _ _ h=>h) (Or.inl ⟨zz9,?_⟩) ?_ ?_ ?_;rotate_left
         ·intro w'
          go_simp
          with_reducible rfl
         rotate_left
         ·simp only [zzs]
          rfl
         refine pure_ (i:=11) (N:=some 51) (v:=undef) (a':=?_) #[true,true,true,true,true,true,true,true,true,true,true,true,false,false,false,false,false,false,false,false,false,false,false] rfl rfl (any_of HT_.out (zz0)) (fun _ _ _ h=>h) (Or.inr ⟨zz9,rfl⟩) ?_ ?_;rotate_left
         ·simp only [zzs]
          rfl
         refine pure_ (i:=12) (N:=some 52) (v:=undef) (a':=?_) #[true,true,true,true,true,true,true,true,true,true,true,true,true,false,false,false,false,false,false,false,false,false,false] rfl rfl (any_of HT_.out (zz0)) (fun _ _ _ h=>h) (Or.inr ⟨zz9,rfl⟩) ?_ ?_;rotate_left
         ·simp only [zzs]
          rfl
         refine pure_ (i:=13) (N:=some 53) (v:=undef) (a':=?_) #[true,true,true,true,true,true,true,true,true,true,true,true,true,true,false,false,false,false,false,false,false,false,false] rfl rfl (any_of HT_.out (zz0)) (fun _ _ _ h=>h) (Or.inr ⟨zz9,rfl⟩) ?_ ?_;rotate_left
         ·simp only [zzs]
          rfl
         refine pure_ (i:=14) (N:=some 54) (v:=undef) (a':=?_) #[true,true,true,true,true,true,true,true,true,true,true,true,true,true,true,false,false,false,false,false,false,false,false] rfl rfl (any_of HT_.out (zz0)) (fun _ _ _ h=>h) (Or.inr ⟨zz9,rfl⟩) ?_ ?_;rotate_left
         ·simp only [zzs]
          rfl
         refine pure_ (i:=15) (N:=some 55) (v:=undef) (a':=?_) #[true,true,true,true,true,true,true,true,true,true,true,true,true,true,true,true,false,false,false,false,false,false,false] rfl rfl (any_of HT_.out (zz0)) (fun _ _ _ h=>h) (Or.inr ⟨zz9,rfl⟩) ?_ ?_;rotate_left
         ·simp only [zzs]
          rfl
         refine pure_ (i:=16) (N:=some 56) (v:=undef) (a':=?_) #[true,true,true,true,true,true,true,true,true,true,true,true,true,true,true,true,true,false,false,false,false,false,false] rfl rfl (any_of HT_.out (zz0)) (fun _ _ _ h=>h) (Or.inr ⟨zz9,rfl⟩) ?_ ?_;rotate_left
         ·simp only [zzs]
          rfl
         refine pure_ (i:=17) (N:=some 57) (v:=undef) (a':=?_) #[true,true,true,true,true,true,true,true,true,true,true,true,true,true,true,true,true,true,false,false,false,false,false] rfl rfl (any_of HT_.out (zz0)) (fun _ _ _ h=>h) (Or.inr ⟨zz9,rfl⟩) ?_ ?_;rotate_left
         ·simp only [zzs]
          rfl
         refine pure_ (i:=18) (N:=some 58) (v:=undef) (a':=?_) #[true,true,true,true,true,true,true,true,true,true,true,true,true,true,true,true,true,true,true,false,false,false,false] rfl rfl (any_of HT_.out (zz0)) (fun _ _ _ h=>h) (Or.inr ⟨zz9,rfl⟩) ?_ ?_;rotate_left
         ·simp only [zzs]
          rfl
         refine pure_ (i:=19) (N:=some 59) (v:=undef) (a':=?_) #[true,true,true,true,true,true,true,true,true,true,true,true,true,true,true,true,true,true,true,true,false,false,false] rfl rfl (any_of HT_.out (zz0)) (fun _ _ _ h=>h) (Or.inr ⟨zz9,rfl⟩) ?_ ?_;rotate_left
         ·simp only [zzs]
          rfl
         refine pure_ (i:=20) (N:=some 60) (v:=undef) (a':=?_) #[true,true,true,true,true,true,true,true,true,true,true,true,true,true,true,true,true,true,true,true,true,false,false] rfl rfl (any_of HT_.out (zz0)) (fun _ _ _ h=>h) (Or.inr ⟨zz9,rfl⟩) ?_ ?_;rotate_left
         ·simp only [zzs]
          rfl
         refine pure_ (i:=21) (N:=some 61) (v:=undef) (a':=?_) #[true,true,true,true,true,true,true,true,true,true,true,true,true,true,true,true,true,true,true,true,true,true,false] rfl rfl (any_of HT_.out (zz0)) (fun _ _ _ h=>h) (Or.inr ⟨zz9,rfl⟩) ?_ ?_;rotate_left
         ·simp only [zzs]
          rfl
         refine zzp 22 62 ?_ #[true,true,true,true,true,true,true,true,true,true,true,true,true,true,true,true,true,true,true,true,true,true,true] rfl rfl (any_of HT_.out (zz0)) (fun _ _ _ h=>h) (Or.inl ⟨zz9,?_⟩) ?_ ?_ ?_;rotate_left
         ·intro w'
          go_simp
          with_reducible rfl
         rotate_left
         ·simp only [zzs]
          rfl
         refine done_ (done_of HT_.out (zz0)) ?_
         try go_wp2
         go_roundg k2
         case measure=>have:=HJ4.out;have:=HK2.out;omega
         case rel=>exact ⟨(wrap64 (x7_2+1)),(zz1),H',⟨by have:=HJ4.out;have:=HK2.out;omega⟩,⟨zz139⟩,⟨zz140⟩,⟨zz141⟩⟩
        ·have c28b0:=beq_eq_false_iff_ne.mpr c28;have c28b1:=bne_iff_ne.mpr c28;replace H:=zzj H;rcases H with ⟨c30,H⟩|⟨c30,H⟩
         ·have c30b0:=beq_iff_eq.mpr c30;have c30b1:=bne_eq_false_iff_eq.mpr c30;clear c30;have H':=Aside0.mk H;clear H
          try go_wp2
          replace BK915:=Aside0.mk (blk_drew BK915.out);replace BK916:=Aside0.mk (blk_drew BK916.out);replace HB:=Aside0.mk (below_drew1 HB.out);have p920:0≤(x7_2:Int):=of_decide_eq_true (zz4);have q920:x7_2 < (l1.length:Int):=of_decide_eq_true (zz4);obtain ⟨ad920,e920,hx920_0⟩:=Kd.at_int HR1.out x7_2 p920 q920;have hw920_0:=hx920_0
          cases e920
          replace hx920_0:=(HB.out.cell (World.block_lt_of_cell? w _ hx920_0)).trans hx920_0;replace p920:=eq_true p920;replace q920:=eq_true q920;have p921:0≤((ji25):Int):=of_decide_eq_true (zz4);have q921:(ji25) < (l1.length:Int):=of_decide_eq_true (zz4);obtain ⟨ad921,e921,hx921_0⟩:=Kd.at_int HR1.out (ji25) p921 q921;have hw921_0:=hx921_0;obtain rfl:ad920 = ad921:=(by injection e921);replace hx921_0:=(HB.out.cell (World.block_lt_of_cell? w _ hx921_0)).trans hx921_0;replace p921:=eq_true p921;replace q921:=eq_true q921;have p922:0≤(x7_2:Int):=of_decide_eq_true (zz4);have q922:x7_2 < (l1.length:Int):=of_decide_eq_true (zz4);obtain ⟨ad922,e922,hx922_0⟩:=Kd.at_int HR1.out x7_2 p922 q922;have hw922_0:=hx922_0;obtain rfl:ad920 = ad922:=(by injection e922);replace hx922_0:=(HB.out.cell (World.block_lt_of_cell? w _ hx922_0)).trans hx922_0;replace p922:=eq_true p922;replace q922:=eq_true q922;have p923:0≤((ji25):Int):=of_decide_eq_true (zz4);have q923:(ji25) < (l1.length:Int):=of_decide_eq_true (zz4);obtain ⟨ad923,e923,hx923_0⟩:=Kd.at_int HR1.out (ji25) p923 q923;have hw923_0:=hx923_0;obtain rfl:ad920 = ad923:=(by injection e923);replace hx923_0:=(HB.out.cell (World.block_lt_of_cell? w _ hx923_0)).trans hx923_0;replace p923:=eq_true p923;replace q923:=eq_true q923;refine start_ (n:=23) (S:=fun w'=>w'.cell? (ad920.add (x7_2).toNat) = some (.int .i64 (rd l1 x7_2))∧w'.cell? (ad920.add ((ji25)).toNat) = some (.int .i64 (rd l1 (ji25)))∧w'.cell? (ad920.add (x7_2).toNat) = some (.int .i64 (rd l1 x7_2))∧w'.cell? (ad920.add ((ji25)).toNat) = some (.int .i64 (rd l1 (ji25)))) (ds:=[]) #[false,false,false,false,false,false,false,false,false,false,false,false,false,false,false,false,false,false,false,false,false,false,false] (zz0) rfl rfl ⟨((HB.out.cell (World.block_lt_of_cell? w _ hw920_0)).trans hw920_0),((HB.out.cell (World.block_lt_of_cell? w _ hw921_0)).trans hw921_0),((HB.out.cell (World.block_lt_of_cell? w _ hw922_0)).trans hw922_0),((HB.out.cell (World.block_lt_of_cell? w _ hw923_0)).trans hw923_0)⟩ (fun hHeld=>?_);refine with_tabW U4.tab9 U4.bits9 (fun HT_ HW_=>?_)
          generalize wr.drew = w31 at BK915 BK916 HB hx920_0 hx921_0 hx922_0 hx923_0 hHeld ⊢
          refine zzp 0 40 ?_ #[true,false,false,false,false,false,false,false,false,false,false,false,false,false,false,false,false,false,false,false,false,false,false] rfl rfl (any_of HT_.out (zz0)) (fun _ _ _ h=>h) (Or.inl ⟨zz9,?_⟩) ?_ ?_ ?_;rotate_left
          ·intro w'
           go_simp
           with_reducible rfl
          rotate_left
          ·simp only [zzs]
           rfl
          refine zzp 1 41 ?_ #[true,true,false,false,false,false,false,false,false,false,false,false,false,false,false,false,false,false,false,false,false,false,false] rfl rfl (any_of HT_.out (zz0)) (fun _ _ _ h=>h) (Or.inl ⟨zz9,?_⟩) ?_ ?_ ?_;rotate_left
          ·intro w'
           go_simp
           with_reducible rfl
          rotate_left
          ·simp only [zzs]
           rfl
          refine zzp 2 42 ?_ #[true,true,true,false,false,false,false,false,false,false,false,false,false,false,false,false,false,false,false,false,false,false,false] rfl rfl (any_of HT_.out (zz0)) (fun _ _ _ h=>h) (Or.inl ⟨zz9,?_⟩) ?_ ?_ ?_;rotate_left
          ·intro w'
           go_simp
           with_reducible rfl
          rotate_left
          ·simp only [zzs]
           rfl
          refine zzp 4 44 ?_ #[true,true,true,false,true,false,false,false,false,false,false,false,false,false,false,false,false,false,false,false,false,false,false] rfl rfl (any_of HT_.out (zz0)) (fun _ _ _ h=>h) (Or.inl ⟨zz9,?_⟩) ?_ ?_ ?_;rotate_left
          ·intro w'
           go_simp
           with_reducible rfl
          rotate_left
          ·simp only [zzs]
           rfl
          refine zzp 5 45 ?_ #[true,true,true,false,true,true,false,false,false,false,false,false,false,false,false,false,false,false,false,false,false,false,false] rfl rfl (any_of HT_.out (zz0)) (fun _ _ _ h=>h) (Or.inl ⟨zz9,?_⟩) ?_ ?_ ?_;rotate_left
          ·intro w'
           go_simp
           with_reducible rfl
          rotate_left
          ·simp only [zzs]
           rfl
          refine zzp 6 46 ?_ #[true,true,true,false,true,true,true,false,false,false,false,false,false,false,false,false,false,false,false,false,false,false,false] rfl rfl (any_of HT_.out (zz0)) (fun _ _ _ h=>h) (Or.inl ⟨zz9,?_⟩) ?_ ?_ ?_;rotate_left
          ·intro w'
           go_simp
           with_reducible rfl
          rotate_left
          ·simp only [zzs]
           rfl
          refine zzp 7 47 ?_ #[true,true,true,false,true,true,true,true,false,false,false,false,false,false,false,false,false,false,false,false,false,false,false] rfl rfl (any_of HT_.out (zz0)) (fun _ _ _ h=>h) (Or.inl ⟨zz9,?_⟩) ?_ ?_ ?_;rotate_left
          ·intro w'
           go_simp
           with_reducible rfl
          rotate_left
          ·simp only [zzs]
           rfl
          refine take_ (i:=3) (N:=some 43) (v:=?_) (a':=?_) #[true,true,true,true,true,true,true,true,false,false,false,false,false,false,false,false,false,false,false,false,false,false,false] rfl rfl (take_ofW HT_.out HW_.out (zz0)) (fun _ _ _ h=>h) (Or.inl ⟨zz9,?_⟩) hHeld ?_ ?_;rotate_left
          ·rintro w' ⟨s0,s1,s2,s3⟩
           go_simp
           with_reducible rfl
          rotate_left
          ·simp only [zzs]
           rfl
          refine take_ (i:=8) (N:=some 48) (v:=?_) (a':=?_) #[true,true,true,true,true,true,true,true,true,false,false,false,false,false,false,false,false,false,false,false,false,false,false] rfl rfl (take_ofW HT_.out HW_.out (zz0)) (fun _ _ _ h=>h) (Or.inl ⟨zz9,?_⟩) hHeld ?_ ?_;rotate_left
          ·rintro w' ⟨s0,s1,s2,s3⟩
           go_simp
           with_reducible rfl
          rotate_left
          ·simp only [zzs]
           rfl
          refine zzp 9 49 ?_ #[true,true,true,true,true,true,true,true,true,true,false,false,false,false,false,false,false,false,false,false,false,false,false] rfl rfl (any_of HT_.out (zz0)) (fun _ _ _ h=>h) (Or.inl ⟨zz9,?_⟩) ?_ ?_ ?_;rotate_left
          ·intro w'
           go_simp
           with_reducible rfl
          rotate_left
          ·simp only [zzs]
           rfl
          refine zzp 10 50 ?_ #[true,true,true,true,true,true,true,true,true,true,true,false,false,false,false,false,false,false,false,false,false,false,false] rfl rfl (any_of HT_.out (zz0)) (fun _ _ _ h=>h) (Or.inl ⟨zz9,?_⟩) ?_ ?_ ?_;rotate_left
          ·intro w'
           go_simp
           with_reducible rfl
          rotate_left
          ·simp only [zzs]
           rfl
          refine zzp 11 51 ?_ #[true,true,true,true,true,true,true,true,true,true,true,true,false,false,false,false,false,false,false,false,false,false,false] rfl rfl (any_of HT_.out (zz0)) (fun _ _ _ h=>h) (Or.inl ⟨zz9,?_⟩) ?_ ?_ ?_;rotate_left
          ·intro w'
           go_simp
           with_reducible rfl
          rotate_left
          ·simp only [zzs]
           rfl
          refine zzp 12 52 ?_ #[true,true,true,true,true,true,true,true,true,true,true,true,true,false,false,false,false,false,false,false,false,false,false] rfl rfl (any_of HT_.out (zz0)) (fun _ _ _ h=>h) (Or.inl ⟨zz9,?_⟩) ?_ ?_ ?_;rotate_left
          ·intro w'
           go_simp
           with_reducible rfl
          rotate_left
          ·simp only [zzs]
           rfl
          refine zzp 13 53 ?_ #[true,true,true,true,true,true,true,true,true,true,true,true,true,true,false,false,false,false,false,false,false,false,false] rfl rfl (any_of HT_.out (zz0)) (fun _ _ _ h=>h) (Or.inl ⟨zz9,?_⟩) ?_ ?_ ?_;rotate_left
          ·intro w'
           go_simp
           with_reducible rfl
          rotate_left
          ·simp only [zzs]
           rfl
          refine zzp 16 56 ?_ #[true,true,true,true,true,true,true,true,true,true,true,true,true,true,false,false,true,false,false,false,false,false,false] rfl rfl (any_of HT_.out (zz0)) (fun _ _ _ h=>h) (Or.inl ⟨zz9,?_⟩) ?_ ?_ ?_;rotate_left
          ·intro w'
           go_simp
           with_reducible rfl
          rotate_left
          ·simp only [zzs]
           rfl
          refine zzp 17 57 ?_ #[true,true,true,true,true,true,true,true,true,true,true,true,true,true,false,false,true,true,false,false,false,false,false] rfl rfl (any_of HT_.out (zz0)) (fun _ _ _ h=>h) (Or.inl ⟨zz9,?_⟩) ?_ ?_ ?_;rotate_left
          ·intro w'
           go_simp
           with_reducible rfl
          rotate_left
          ·simp only [zzs]
           rfl
          refine zzp 18 58 ?_ #[true,true,true,true,true,true,true,true,true,true,true,true,true,true,false,false,true,true,true,false,false,false,false] rfl rfl (any_of HT_.out (zz0)) (fun _ _ _ h=>h) (Or.inl ⟨zz9,?_⟩) ?_ ?_ ?_;rotate_left
          ·intro w'
           go_simp
           with_reducible rfl
          rotate_left
          ·simp only [zzs]
           rfl
          refine zzp 19 59 ?_ #[true,true,true,true,true,true,true,true,true,true,true,true,true,true,false,false,true,true,true,true,false,false,false] rfl rfl (any_of HT_.out (zz0)) (fun _ _ _ h=>h) (Or.inl ⟨zz9,?_⟩) ?_ ?_ ?_;rotate_left
          ·intro w'
           go_simp
           with_reducible rfl
          rotate_left
          ·simp only [zzs]
           rfl
          refine take_ (i:=14) (N:=some 54) (v:=?_) (a':=?_) #[true,true,true,true,true,true,true,true,true,true,true,true,true,true,true,false,true,true,true,true,false,false,false] rfl rfl (take_ofW HT_.out HW_.out (zz0)) (fun _ _ _ h=>h) (Or.inl ⟨zz9,?_⟩) hHeld ?_ ?_;rotate_left
          ·rintro w' ⟨s0,s1,s2,s3⟩
           go_simp
           with_reducible rfl
          rotate_left
          ·simp only [zzs]
           rfl
          refine zzp 15 55 ?_ #[true,true,true,true,true,true,true,true,true,true,true,true,true,true,true,true,true,true,true,true,false,false,false] rfl rfl (any_of HT_.out (zz0)) (fun _ _ _ h=>h) (Or.inl ⟨zz9,?_⟩) ?_ ?_ ?_;rotate_left
          ·intro w'
           go_simp
           with_reducible rfl
          rotate_left
          ·simp only [zzs]
           rfl
          refine take_ (i:=20) (N:=some 60) (v:=?_) (a':=?_) #[true,true,true,true,true,true,true,true,true,true,true,true,true,true,true,true,true,true,true,true,true,false,false] rfl rfl (take_ofW HT_.out HW_.out (zz0)) (fun _ _ _ h=>h) (Or.inl ⟨zz9,?_⟩) hHeld ?_ ?_;rotate_left
          ·rintro w' ⟨s0,s1,s2,s3⟩
           go_simp
           with_reducible rfl
          rotate_left
          ·simp only [zzs]
           rfl
          refine zzp 21 61 ?_ #[true,true,true,true,true,true,true,true,true,true,true,true,true,true,true,true,true,true,true,true,true,true,false] rfl rfl (any_of HT_.out (zz0)) (fun _ _ _ h=>h) (Or.inl ⟨zz9,?_⟩) ?_ ?_ ?_;rotate_left
          ·intro w'
           go_simp
           with_reducible rfl
          rotate_left
          ·simp only [zzs]
           rfl
          refine zzp 22 62 ?_ #[true,true,true,true,true,true,true,true,true,true,true,true,true,true,true,true,true,true,true,true,true,true,true] rfl rfl (any_of HT_.out (zz0)) (fun _ _ _ h=>h) (Or.inl ⟨zz9,?_⟩) ?_ ?_ ?_;rotate_left
          ·intro w'
           go_simp
           with_reducible rfl
          rotate_left
          ·simp only [zzs]
           rfl
          refine done_ (done_of HT_.out (zz0)) ?_
          try go_wp2
          go_roundg k2
          case measure=>have:=HJ4.out;have:=HK2.out;omega
          case rel=>exact ⟨(wrap64 (x7_2+1)),(zz1),H',⟨by have:=HJ4.out;have:=HK2.out;omega⟩,⟨zz139⟩,⟨zz140⟩,⟨zz141⟩⟩
         ·have c30b0:=beq_eq_false_iff_ne.mpr c30;have c30b1:=bne_iff_ne.mpr c30;simp only [Option.some.injEq,Prod.mk.injEq] at H;obtain ⟨rfl,rfl⟩:=H
          try go_wp2
          replace BK915:=Aside0.mk (blk_drew BK915.out);replace BK916:=Aside0.mk (blk_drew BK916.out);replace HB:=Aside0.mk (below_drew1 HB.out);have p920:0≤(x7_2:Int):=of_decide_eq_true (zz4);have q920:x7_2 < (l1.length:Int):=of_decide_eq_true (zz4);obtain ⟨ad920,e920,hx920_0⟩:=Kd.at_int HR1.out x7_2 p920 q920;have hw920_0:=hx920_0
          cases e920
          replace hx920_0:=(HB.out.cell (World.block_lt_of_cell? w _ hx920_0)).trans hx920_0;replace p920:=eq_true p920;replace q920:=eq_true q920;have p921:0≤((ji25):Int):=of_decide_eq_true (zz4);have q921:(ji25) < (l1.length:Int):=of_decide_eq_true (zz4);obtain ⟨ad921,e921,hx921_0⟩:=Kd.at_int HR1.out (ji25) p921 q921;have hw921_0:=hx921_0;obtain rfl:ad920 = ad921:=(by injection e921);replace hx921_0:=(HB.out.cell (World.block_lt_of_cell? w _ hx921_0)).trans hx921_0;replace p921:=eq_true p921;replace q921:=eq_true q921;have p922:0≤(x7_2:Int):=of_decide_eq_true (zz4);have q922:x7_2 < (l1.length:Int):=of_decide_eq_true (zz4);obtain ⟨ad922,e922,hx922_0⟩:=Kd.at_int HR1.out x7_2 p922 q922;have hw922_0:=hx922_0;obtain rfl:ad920 = ad922:=(by injection e922);replace hx922_0:=(HB.out.cell (World.block_lt_of_cell? w _ hx922_0)).trans hx922_0;replace p922:=eq_true p922;replace q922:=eq_true q922;have p923:0≤((ji25):Int):=of_decide_eq_true (zz4);have q923:(ji25) < (l1.length:Int):=of_decide_eq_true (zz4);obtain ⟨ad923,e923,hx923_0⟩:=Kd.at_int HR1.out (ji25) p923 q923;have hw923_0:=hx923_0;obtain rfl:ad920 = ad923:=(by injection e923);replace hx923_0:=(HB.out.cell (World.block_lt_of_cell? w _ hx923_0)).trans hx923_0;replace p923:=eq_true p923;replace q923:=eq_true q923;refine start_ (n:=23) (S:=fun w'=>w'.cell? (ad920.add (x7_2).toNat) = some (.int .i64 (rd l1 x7_2))∧w'.cell? (ad920.add ((ji25)).toNat) = some (.int .i64 (rd l1 (ji25)))∧w'.cell? (ad920.add (x7_2).toNat) = some (.int .i64 (rd l1 x7_2))∧w'.cell? (ad920.add ((ji25)).toNat) = some (.int .i64 (rd l1 (ji25)))) (ds:=[]) #[false,false,false,false,false,false,false,false,false,false,false,false,false,false,false,false,false,false,false,false,false,false,false] (zz0) rfl rfl ⟨((HB.out.cell (World.block_lt_of_cell? w _ hw920_0)).trans hw920_0),((HB.out.cell (World.block_lt_of_cell? w _ hw921_0)).trans hw921_0),((HB.out.cell (World.block_lt_of_cell? w _ hw922_0)).trans hw922_0),((HB.out.cell (World.block_lt_of_cell? w _ hw923_0)).trans hw923_0)⟩ (fun hHeld=>?_);refine with_tabW U4.tab9 U4.bits9 (fun HT_ HW_=>?_)
          generalize wr.drew = w32 at BK915 BK916 HB hx920_0 hx921_0 hx922_0 hx923_0 hHeld ⊢
          refine zzp 0 40 ?_ #[true,false,false,false,false,false,false,false,false,false,false,false,false,false,false,false,false,false,false,false,false,false,false] rfl rfl (any_of HT_.out (zz0)) (fun _ _ _ h=>h) (Or.inl ⟨zz9,?_⟩) ?_ ?_ ?_;rotate_left
          ·intro w'
           go_simp
           with_reducible rfl
          rotate_left
          ·simp only [zzs]
           rfl
          refine zzp 1 41 ?_ #[true,true,false,false,false,false,false,false,false,false,false,false,false,false,false,false,false,false,false,false,false,false,false] rfl rfl (any_of HT_.out (zz0)) (fun _ _ _ h=>h) (Or.inl ⟨zz9,?_⟩) ?_ ?_ ?_;rotate_left
          ·intro w'
           go_simp
           with_reducible rfl
          rotate_left
          ·simp only [zzs]
           rfl
          refine zzp 2 42 ?_ #[true,true,true,false,false,false,false,false,false,false,false,false,false,false,false,false,false,false,false,false,false,false,false] rfl rfl (any_of HT_.out (zz0)) (fun _ _ _ h=>h) (Or.inl ⟨zz9,?_⟩) ?_ ?_ ?_;rotate_left
          ·intro w'
           go_simp
           with_reducible rfl
          rotate_left
          ·simp only [zzs]
           rfl
          refine zzp 4 44 ?_ #[true,true,true,false,true,false,false,false,false,false,false,false,false,false,false,false,false,false,false,false,false,false,false] rfl rfl (any_of HT_.out (zz0)) (fun _ _ _ h=>h) (Or.inl ⟨zz9,?_⟩) ?_ ?_ ?_;rotate_left
          ·intro w'
           go_simp
           with_reducible rfl
          rotate_left
          ·simp only [zzs]
           rfl
          refine zzp 5 45 ?_ #[true,true,true,false,true,true,false,false,false,false,false,false,false,false,false,false,false,false,false,false,false,false,false] rfl rfl (any_of HT_.out (zz0)) (fun _ _ _ h=>h) (Or.inl ⟨zz9,?_⟩) ?_ ?_ ?_;rotate_left
          ·intro w'
           go_simp
           with_reducible rfl
          rotate_left
          ·simp only [zzs]
           rfl
          refine zzp 6 46 ?_ #[true,true,true,false,true,true,true,false,false,false,false,false,false,false,false,false,false,false,false,false,false,false,false] rfl rfl (any_of HT_.out (zz0)) (fun _ _ _ h=>h) (Or.inl ⟨zz9,?_⟩) ?_ ?_ ?_;rotate_left
          ·intro w'
           go_simp
           with_reducible rfl
          rotate_left
          ·simp only [zzs]
           rfl
          refine zzp 7 47 ?_ #[true,true,true,false,true,true,true,true,false,false,false,false,false,false,false,false,false,false,false,false,false,false,false] rfl rfl (any_of HT_.out (zz0)) (fun _ _ _ h=>h) (Or.inl ⟨zz9,?_⟩) ?_ ?_ ?_;rotate_left
          ·intro w'
           go_simp
           with_reducible rfl
          rotate_left
          ·simp only [zzs]
           rfl
          refine take_ (i:=3) (N:=some 43) (v:=?_) (a':=?_) #[true,true,true,true,true,true,true,true,false,false,false,false,false,false,false,false,false,false,false,false,false,false,false] rfl rfl (take_ofW HT_.out HW_.out (zz0)) (fun _ _ _ h=>h) (Or.inl ⟨zz9,?_⟩) hHeld ?_ ?_;rotate_left
          ·rintro w' ⟨s0,s1,s2,s3⟩
           go_simp
           with_reducible rfl
          rotate_left
          ·simp only [zzs]
           rfl
          refine take_ (i:=8) (N:=some 48) (v:=?_) (a':=?_) #[true,true,true,true,true,true,true,true,true,false,false,false,false,false,false,false,false,false,false,false,false,false,false] rfl rfl (take_ofW HT_.out HW_.out (zz0)) (fun _ _ _ h=>h) (Or.inl ⟨zz9,?_⟩) hHeld ?_ ?_;rotate_left
          ·rintro w' ⟨s0,s1,s2,s3⟩
           go_simp
           with_reducible rfl
          rotate_left
          ·simp only [zzs]
           rfl
          refine zzp 9 49 ?_ #[true,true,true,true,true,true,true,true,true,true,false,false,false,false,false,false,false,false,false,false,false,false,false] rfl rfl (any_of HT_.out (zz0)) (fun _ _ _ h=>h) (Or.inl ⟨zz9,?_⟩) ?_ ?_ ?_;rotate_left
          ·intro w'
           go_simp
           with_reducible rfl
          rotate_left
          ·simp only [zzs]
           rfl
          refine zzp 10 50 ?_ #[true,true,true,true,true,true,true,true,true,true,true,false,false,false,false,false,false,false,false,false,false,false,false] rfl rfl (any_of HT_.out (zz0)) (fun _ _ _ h=>h) (Or.inl ⟨zz9,?_⟩) ?_ ?_ ?_;rotate_left
          ·intro w'
           go_simp
           with_reducible rfl
          rotate_left
          ·simp only [zzs]
           rfl
          refine zzp 11 51 ?_ #[true,true,true,true,true,true,true,true,true,true,true,true,false,false,false,false,false,false,false,false,false,false,false] rfl rfl (any_of HT_.out (zz0)) (fun _ _ _ h=>h) (Or.inl ⟨zz9,?_⟩) ?_ ?_ ?_;rotate_left
          ·intro w'
           go_simp
           with_reducible rfl
          rotate_left
          ·simp only [zzs]
           rfl
          refine zzp 12 52 ?_ #[true,true,true,true,true,true,true,true,true,true,true,true,true,false,false,false,false,false,false,false,false,false,false] rfl rfl (any_of HT_.out (zz0)) (fun _ _ _ h=>h) (Or.inl ⟨zz9,?_⟩) ?_ ?_ ?_;rotate_left
          ·intro w'
           go_simp
           with_reducible rfl
          rotate_left
          ·simp only [zzs]
           rfl
          refine zzp 13 53 ?_ #[true,true,true,true,true,true,true,true,true,true,true,true,true,true,false,false,false,false,false,false,false,false,false] rfl rfl (any_of HT_.out (zz0)) (fun _ _ _ h=>h) (Or.inl ⟨zz9,?_⟩) ?_ ?_ ?_;rotate_left
          ·intro w'
           go_simp
           with_reducible rfl
          rotate_left
          ·simp only [zzs]
           rfl
          refine zzp 16 56 ?_ #[true,true,true,true,true,true,true,true,true,true,true,true,true,true,false,false,true,false,false,false,false,false,false] rfl rfl (any_of HT_.out (zz0)) (fun _ _ _ h=>h) (Or.inl ⟨zz9,?_⟩) ?_ ?_ ?_;rotate_left
          ·intro w'
           go_simp
           with_reducible rfl
          rotate_left
          ·simp only [zzs]
           rfl
          refine zzp 17 57 ?_ #[true,true,true,true,true,true,true,true,true,true,true,true,true,true,false,false,true,true,false,false,false,false,false] rfl rfl (any_of HT_.out (zz0)) (fun _ _ _ h=>h) (Or.inl ⟨zz9,?_⟩) ?_ ?_ ?_;rotate_left
          ·intro w'
           go_simp
           with_reducible rfl
          rotate_left
          ·simp only [zzs]
           rfl
          refine zzp 18 58 ?_ #[true,true,true,true,true,true,true,true,true,true,true,true,true,true,false,false,true,true,true,false,false,false,false] rfl rfl (any_of HT_.out (zz0)) (fun _ _ _ h=>h) (Or.inl ⟨zz9,?_⟩) ?_ ?_ ?_;rotate_left
          ·intro w'
           go_simp
           with_reducible rfl
          rotate_left
          ·simp only [zzs]
           rfl
          refine zzp 19 59 ?_ #[true,true,true,true,true,true,true,true,true,true,true,true,true,true,false,false,true,true,true,true,false,false,false] rfl rfl (any_of HT_.out (zz0)) (fun _ _ _ h=>h) (Or.inl ⟨zz9,?_⟩) ?_ ?_ ?_;rotate_left
          ·intro w'
           go_simp
           with_reducible rfl
          rotate_left
          ·simp only [zzs]
           rfl
          refine take_ (i:=14) (N:=some 54) (v:=?_) (a':=?_) #[true,true,true,true,true,true,true,true,true,true,true,true,true,true,true,false,true,true,true,true,false,false,false] rfl rfl (take_ofW HT_.out HW_.out (zz0)) (fun _ _ _ h=>h) (Or.inl ⟨zz9,?_⟩) hHeld ?_ ?_;rotate_left
          ·rintro w' ⟨s0,s1,s2,s3⟩
           go_simp
           with_reducible rfl
          rotate_left
          ·simp only [zzs]
           rfl
          refine zzp 15 55 ?_ #[true,true,true,true,true,true,true,true,true,true,true,true,true,true,true,true,true,true,true,true,false,false,false] rfl rfl (any_of HT_.out (zz0)) (fun _ _ _ h=>h) (Or.inl ⟨zz9,?_⟩) ?_ ?_ ?_;rotate_left
          ·intro w'
           go_simp
           with_reducible rfl
          rotate_left
          ·simp only [zzs]
           rfl
          refine take_ (i:=20) (N:=some 60) (v:=?_) (a':=?_) #[true,true,true,true,true,true,true,true,true,true,true,true,true,true,true,true,true,true,true,true,true,false,false] rfl rfl (take_ofW HT_.out HW_.out (zz0)) (fun _ _ _ h=>h) (Or.inl ⟨zz9,?_⟩) hHeld ?_ ?_;rotate_left
          ·rintro w' ⟨s0,s1,s2,s3⟩
           go_simp
           with_reducible rfl
          rotate_left
          ·simp only [zzs]
           rfl
          refine zzp 21 61 ?_ #[true,true,true,true,true,true,true,true,true,true,true,true,true,true,true,true,true,true,true,true,true,true,false] rfl rfl (any_of HT_.out (zz0)) (fun _ _ _ h=>h) (Or.inl ⟨zz9,?_⟩) ?_ ?_ ?_;rotate_left
          ·intro w'
           go_simp
           with_reducible rfl
          rotate_left
          ·simp only [zzs]
           rfl
          refine zzp 22 62 ?_ #[true,true,true,true,true,true,true,true,true,true,true,true,true,true,true,true,true,true,true,true,true,true,true] rfl rfl (any_of HT_.out (zz0)) (fun _ _ _ h=>h) (Or.inl ⟨zz9,?_⟩) ?_ ?_ ?_;rotate_left
          ·intro w'
           go_simp
           with_reducible rfl
          rotate_left
          ·simp only [zzs]
           rfl
          refine done_ (done_of HT_.out (zz0)) ?_;have hnb33:=NB916_915.out;have hnc33:=NB915_916.out;obtain ⟨hcz34_0,hfz34_0⟩:=zc1 BK916.out
          try go_wp2
          refine bodyPost_ret (results_ct rfl _ _ gb916 24 #[.slice none 0 0] (0,0) _ rfl (have h0_:=BK916;zz27) Tryd.underlying24 rfl (zz0)) rfl ?_
          exact ⟨_,(have h0_:=hji25;zz21),zz28,zz141⟩
       ·have c23b0:=decide_eq_false c23;clear c23;obtain ⟨ji35,hji35⟩:∃ j_:Int,(wrap64 ((l1.length:Int) - 1)) = j_:=⟨_,rfl⟩;replace H:(if 0≤(ji35) then (if (ji35) < (l1.length:Int) then (if (wrap64 ((rd l1 (ji35))+1)) < 2 then (some (([]:List (List Int)),19)) else (U4.l1 k2 l1 (wrap64 ((rd l1 (ji35))+1)) 0 l0_0 ([]:List (List Int)))) else (none)) else (none)) = some (r1,r2):=(have h0_:=hji35;zz19);have hji35w:(IntKind.i64.wrap ((l1.length:Int) - 1)) = ji35:=(i64_w _).trans hji35;replace H:=zzi H;obtain ⟨c36,H⟩:=H;have c36b0:=decide_eq_true c36;clear c36;replace H:=zzi H;obtain ⟨c37,H⟩:=H;have c37b0:=decide_eq_true c37;clear c37;replace H:=zzj H;rcases H with ⟨c38,H⟩|⟨c38,H⟩
        ·have c38b0:=decide_eq_true c38;clear c38;simp only [Option.some.injEq,Prod.mk.injEq] at H;obtain ⟨rfl,rfl⟩:=H;have p924:0≤((ji35):Int):=of_decide_eq_true (zz4);have q924:(ji35) < (l1.length:Int):=of_decide_eq_true (zz4);obtain ⟨ad924,e924,hx924_0⟩:=Kd.at_int HR1.out (ji35) p924 q924
         cases e924
         replace hx924_0:=(HB.out.cell (World.block_lt_of_cell? w _ hx924_0)).trans hx924_0;replace p924:=eq_true p924;replace q924:=eq_true q924;have hnb39:=NB916_915.out;have hnc39:=NB915_916.out;obtain ⟨hcz40_0,hfz40_0⟩:=zc1 BK916.out
         go_wp2
         refine bodyPost_ret (results_ct rfl _ _ gb916 24 #[.slice none 0 0] (0,0) _ rfl (have h0_:=BK916;zz27) Tryd.underlying24 rfl (zz0)) rfl ?_
         exact ⟨_,(have h0_:=hji35;zz21),zz28,zz141⟩
        ·have c38b0:=decide_eq_false c38;clear c38;have H':=Aside0.mk H;clear H;have p924:0≤((ji35):Int):=of_decide_eq_true (zz4);have q924:(ji35) < (l1.length:Int):=of_decide_eq_true (zz4);obtain ⟨ad924,e924,hx924_0⟩:=Kd.at_int HR1.out (ji35) p924 q924
         cases e924
         replace hx924_0:=(HB.out.cell (World.block_lt_of_cell? w _ hx924_0)).trans hx924_0;replace p924:=eq_true p924;replace q924:=eq_true q924
         go_wp2_with (first|((with_reducible refine gate_dst (N:=9) rfl ?_);refine box_event ?hg (N:=9) ?hd (cs:=#[.slice none 0 0]) (t:=24) ?hr ?_;(case hd=>rfl);(case hg=>rfl);(case hr=>exact zz146);intro gb925 hg w41 hbox hb;have BK925:=Aside0.mk (hbox);have GW925:=Aside0.mk ((by rw [hg];exact (below_size (zz141)):w.heap.size≤gb925));have GE925:=Aside0.mk ((by rw [hg];exact (below_size (zz141)):w.heap.size≤gb925));replace HB:=Aside0.mk (below_step (zz141) hb);have NB915_925:=Aside0.mk ((by rw [hg];exact Nat.ne_of_lt (blk_lt (g:=gb915) (o:=.cells #[.slice A0_0 l0_0.length c0_0] 24 (0,0)) (zz139)):gb915 ≠ gb925));have NB925_915:=Aside0.mk ((by rw [hg];exact Nat.ne_of_gt (blk_lt (g:=gb915) (o:=.cells #[.slice A0_0 l0_0.length c0_0] 24 (0,0)) (zz139)):gb925 ≠ gb915));replace BK915:=Aside0.mk (blk_below (zz139) hb);have NB916_925:=Aside0.mk ((by rw [hg];exact Nat.ne_of_lt (blk_lt (g:=gb916) (o:=.cells #[.slice none 0 0] 24 (0,0)) (zz140)):gb916 ≠ gb925));have NB925_916:=Aside0.mk ((by rw [hg];exact Nat.ne_of_gt (blk_lt (g:=gb916) (o:=.cells #[.slice none 0 0] 24 (0,0)) (zz140)):gb925 ≠ gb916));replace BK916:=Aside0.mk (blk_below (zz140) hb);clear hb hbox hg;have hnb42:=NB925_915.out;have hnc42:=NB915_925.out;have hnb43:=NB925_916.out;have hnc43:=NB916_925.out;obtain ⟨hcz44_0,hfz44_0⟩:=zc1 BK925.out))
         go_loopg [10] k2 (fun kq v10 w'=>∃ (x10_3:Int) (x926000_3:List (List Int)) (u926000:Value),v10 = .int .i64 x10_3∧Aside0 (U4.l1 kq l1 (wrap64 ((rd l1 (ji35))+1)) x10_3 l0_0 x926000_3 = some (r1,r2))∧Aside0 (kq≤k2)∧Aside0 (Kd.S (Kd.slice 3 (Kd.int .i64)) 31 w' w.heap.size (fun _=>True) u926000 x926000_3)∧Aside0 (w'.heap[gb915]? = some (.cells #[(.slice A0_0 l0_0.length c0_0)] 24 (0,0)))∧Aside0 (w'.heap[gb916]? = some (.cells #[(.slice none 0 0)] 24 (0,0)))∧Aside0 (w'.heap[gb925]? = some (.cells #[u926000] 24 (0,0)))∧Aside0 (Below w.heap.size w w'))
         case atStart=>exact ⟨(0),(([]:List (List Int))),(.slice none 0 0),(zz1),H',⟨Nat.le_refl _⟩,⟨zz28⟩,⟨by (with_reducible repeat (first|refine blk_drewN ?_ _|refine blk_drew ?_|refine blk_alloc ?_ _));refine blk_far ?_ NB915_925.out _;(with_reducible repeat (first|refine blk_drewN ?_ _|refine blk_drew ?_|refine blk_alloc ?_ _));exact BK915.out⟩,⟨by (with_reducible repeat (first|refine blk_drewN ?_ _|refine blk_drew ?_|refine blk_alloc ?_ _));refine blk_far ?_ NB916_925.out _;(with_reducible repeat (first|refine blk_drewN ?_ _|refine blk_drew ?_|refine blk_alloc ?_ _));exact BK916.out⟩,⟨(have h0_:=BK925;zz27)⟩,⟨zz142⟩⟩
         case round =>
          clear H'
          (try clear hx9);clear c23b0 c36b0 c37b0 c38b0 p924 q924;(try clear hcz44_0);(try clear hfz44_0);(try clear hx924_0)
          obtain ⟨x10_3,x926000_3,u926000,rfl,HA,HK3,HO_926000,BK915,BK916,BK925,HB⟩:=hrel
          cases gk with
          | zero=>exact absurd HA.out (by simp [U4.l1])
          | succ k3 =>
           have H:=HA.out;clear HA;simp only [U4.l1] at H;replace H:=zzj H;rcases H with ⟨c45,H⟩|⟨c45,H⟩
           ·have c45b0:=decide_eq_true c45;clear c45;obtain ⟨ji46,hji46⟩:∃ j_:Int,(wrap64 ((rd l1 (ji35))+1)) = j_:=⟨_,rfl⟩;replace H:(if 0≤(ji46) then (if ((ji46):Int).toNat≤35184372088832 then (U4.l2 k3 l1 (ji46) x10_3 (List.replicate ((ji46):Int).toNat 0) 0 l0_0 x926000_3) else (none)) else (none)) = some (r1,r2):=(have h0_:=hji46;zz19)
            (try rw [hji46] at c38b0)
            have hji46w:(IntKind.i64.wrap ((rd l1 (ji35))+1)) = ji46:=(i64_w _).trans hji46;replace H:=zzi H;obtain ⟨c47,H⟩:=H;have c47b0:=eq_true c47;have c47b1:=decide_eq_true c47;clear c47;replace H:=zzi H;obtain ⟨c48,H⟩:=H;have c48b0:=eq_true c48;have c48b1:=decide_eq_true c48;clear c48;obtain ⟨y926,hy926⟩:∃ y_:List Int,y_ = (List.replicate ((ji46):Int).toNat 0):=⟨_,rfl⟩;replace H:(U4.l2 k3 l1 (ji46) x10_3 y926 0 l0_0 x926000_3) = some (r1,r2):=(have h0_:=hy926;zz16);have Ny926:=Aside0.mk hy926;clear hy926;have H':=Aside0.mk H;clear H;have hnb49:=NB915_916.out;have hnc49:=NB916_915.out;have hnb50:=NB915_925.out;have hnc50:=NB925_915.out;obtain ⟨hcz51_0,hfz51_0⟩:=zc1 BK915.out
            go_wp2_with (first|((with_reducible refine gate_dst (N:=83) rfl ?_);refine Kd.R_make (Kd.int .i64) _ 3 rfl (N:=83) rfl 31 _ _ rfl (ji46) (by first|rfl|(rw [← hji46];rfl)|(rw [← hji46w];rfl)) (by first|rfl|(rw [← hji46];rfl)|(rw [← hji46w];rfl)) Tryd.underlying31 (.int .i64 0) 8 info3 rfl (zz17) (zz15) 0 (ok:=fun _=>True) (okp:=fun _=>True) rfl (fun _ hk=>hk) trivial (of_decide_eq_true (zz4)) (Nat.le_trans (Nat.mul_le_mul_right _ (of_decide_eq_true (zz4):(ji46).toNat≤35184372088832)) (zz15)) (Below.refl _ _) (Nat.le_refl _) ?_;intro v927 w52 ho53 hb hg_ hnew_;clear hg_ hnew_;(first|rw [← Ny926.out] at ho53|(simp only [Int.reduceToNat] at ho53;rw [← Ny926.out] at ho53));replace HO_926000:=Aside0.mk (Kd.S_elder' (have h0_:=HO_926000;zz30) (Kd.R_base ho53) hb);have HO928:=Aside0.mk (Kd.R_lower ho53 (below_size (zz142)));replace BK915:=Aside0.mk (blk_below (zz139) hb);replace BK916:=Aside0.mk (blk_below (zz140) hb);replace BK925:=Aside0.mk (blk_below (have h0_:=BK925;zz12) hb);replace HB:=Aside0.mk (below_step (zz142) hb);clear hb ho53))
            go_loopg [12] k3 (fun kq v12 w'=>∃ (x11_4:List Int) (x12_4:Int),v12 = .int .i64 x12_4∧Aside0 (U4.l2 kq l1 (ji46) x10_3 x11_4 x12_4 l0_0 x926000_3 = some (r1,r2))∧Aside0 (kq≤k3)∧Aside0 (Kd.R (Kd.int .i64) 3 w' w.heap.size (fun _=>True) v927 x11_4)∧Aside0 (Kd.S (Kd.slice 3 (Kd.int .i64)) 31 w' w.heap.size (fun k_=>some k_ ≠ (v927:Value).ownBlock) u926000 x926000_3)∧Aside0 (w'.heap[gb915]? = some (.cells #[(.slice A0_0 l0_0.length c0_0)] 24 (0,0)))∧Aside0 (w'.heap[gb916]? = some (.cells #[(.slice none 0 0)] 24 (0,0)))∧Aside0 (w'.heap[gb925]? = some (.cells #[u926000] 24 (0,0)))∧Aside0 (Below w.heap.size w w'))
            case atStart=>exact ⟨(y926),(0),(zz1),H',⟨Nat.le_refl _⟩,⟨(have h0_:=HO928;zz18)⟩,⟨(have h0_:=HO_926000;zz40)⟩,⟨zz139⟩,⟨zz140⟩,⟨(have h0_:=BK925;zz12)⟩,⟨zz142⟩⟩
            case round =>
             clear H'
             (try clear hx9);clear c45b0 c47b0 c47b1 c48b0 c48b1;(try clear hcz34_0);(try clear hcz40_0);(try clear hcz44_0);(try clear hcz51_0);(try clear hfz34_0);(try clear hfz40_0);(try clear hfz44_0);(try clear hfz51_0);(try clear hx920_0);(try clear hx921_0);(try clear hx922_0);(try clear hx923_0);(try clear hx924_0)
             obtain ⟨x11_4,x12_4,rfl,HA,HK4,HO_11,HO_926000,BK915,BK916,BK925,HB⟩:=hrel
             cases gk with
             | zero=>exact absurd HA.out (by simp [U4.l2])
             | succ k4 =>
              have H:=HA.out;clear HA;simp only [U4.l2] at H;replace H:=zzj H;rcases H with ⟨c54,H⟩|⟨c54,H⟩
              ·have c54b0:=decide_eq_true c54;clear c54;replace H:=zzi H;obtain ⟨c55,H⟩:=H;have c55b0:=decide_eq_true c55;clear c55;replace H:=zzi H;obtain ⟨c56,H⟩:=H;have c56b0:=decide_eq_true c56;clear c56;replace H:=zzi H;obtain ⟨c57,H⟩:=H;have c57b0:=decide_eq_true c57;clear c57;replace H:=zzi H;obtain ⟨c58,H⟩:=H;have c58b0:=decide_eq_true c58;clear c58;replace H:=zzi H;obtain ⟨c59,H⟩:=H;have c59b0:=decide_eq_true c59;clear c59;replace H:=zzi H;obtain ⟨c60,H⟩:=H;have c60b0:=decide_eq_true c60;clear c60;obtain ⟨y934,hy934⟩:∃ y_:List Int,y_ = (x11_4.set ((rd l1 x12_4):Int).toNat (wrap64 ((rd x11_4 (rd l1 x12_4))+(rd (rd_L1 l0_0 x10_3) x12_4)))):=⟨_,rfl⟩;replace H:(U4.l2 k4 l1 (ji46) x10_3 y934 (wrap64 (x12_4+1)) l0_0 x926000_3) = some (r1,r2):=(have h0_:=hy934;zz16);have Ny934:=Aside0.mk hy934;clear hy934;have H':=Aside0.mk H;clear H
               try go_wp2
               replace HO_11:=Aside0.mk (Kd.R_drew HO_11.out);replace HO_926000:=Aside0.mk (Kd.S_drew HO_926000.out);replace BK915:=Aside0.mk (blk_drew BK915.out);replace BK916:=Aside0.mk (blk_drew BK916.out);replace BK925:=Aside0.mk (blk_drew BK925.out);replace HB:=Aside0.mk (below_drew1 HB.out);have p929:0≤(x12_4:Int):=of_decide_eq_true (zz4);have q929:x12_4 < (l1.length:Int):=of_decide_eq_true (zz4);obtain ⟨ad929,e929,hx929_0⟩:=Kd.at_int HR1.out x12_4 p929 q929;have hw929_0:=hx929_0;obtain rfl:ad924 = ad929:=(by injection e929);replace hx929_0:=(HB.out.cell (World.block_lt_of_cell? w _ hx929_0)).trans hx929_0;replace p929:=eq_true p929;replace q929:=eq_true q929;have p930:0≤(x12_4:Int):=of_decide_eq_true (zz4);have q930:x12_4 < (l1.length:Int):=of_decide_eq_true (zz4);obtain ⟨ad930,e930,hx930_0⟩:=Kd.at_int HR1.out x12_4 p930 q930;have hw930_0:=hx930_0;obtain rfl:ad924 = ad930:=(by injection e930);replace hx930_0:=(HB.out.cell (World.block_lt_of_cell? w _ hx930_0)).trans hx930_0;replace p930:=eq_true p930;replace q930:=eq_true q930;obtain ⟨Ao63,co63,eo63⟩:=Kd.R_slice HO_11.out
               (first|subst eo63|(injection eo63 with f1_ f2_ f3_;have f4_:=f1_.symm;have f5_:=f3_.symm;clear f1_ f2_ f3_;subst f4_;subst f5_))
               have p931:0≤((rd l1 x12_4):Int):=of_decide_eq_true (zz4);have q931:(rd l1 x12_4) < (x11_4.length:Int):=of_decide_eq_true (zz4);obtain ⟨ad931,e931,hx931_0⟩:=Kd.at_int (Kd.R_reads' HO_11.out).2.2 (rd l1 x12_4) p931 q931
               cases e931
               replace p931:=eq_true p931;replace q931:=eq_true q931;have p932:0≤(x10_3:Int):=of_decide_eq_true (zz4);have q932:x10_3 < (l0_0.length:Int):=of_decide_eq_true (zz4);obtain ⟨ad932,A932_0,c932_0,e932,hx932_0,hl932_0,hi932_0⟩:=at_L1 HR0_0.out x10_3 p932 q932;have hw932_0:=hx932_0
               cases e932
               replace hx932_0:=(HB.out.cell (World.block_lt_of_cell? w _ hx932_0)).trans hx932_0;have HR932_0:=Aside0.mk hi932_0;have HC932_0:=Aside0.mk hl932_0;clear hi932_0 hl932_0;replace p932:=eq_true p932;replace q932:=eq_true q932;have p933:0≤(x12_4:Int):=of_decide_eq_true (zz4);have q933:x12_4 < ((rd_L1 l0_0 x10_3).length:Int):=of_decide_eq_true (zz4);obtain ⟨ad933,e933,hx933_0⟩:=Kd.at_int HR932_0.out x12_4 p933 q933;have hw933_0:=hx933_0
               cases e933
               replace hx933_0:=(HB.out.cell (World.block_lt_of_cell? w _ hx933_0)).trans hx933_0;replace p933:=eq_true p933;replace q933:=eq_true q933;have p61:0≤((rd l1 x12_4):Int):=of_decide_eq_true (zz4);have q61:((rd l1 x12_4):Int) < ((x11_4.length:Int):Int):=of_decide_eq_true (zz4);obtain ⟨go61,co61,eo61,gb61,gl61,cl61,HG61⟩:=Kd.R_form HO_11.out (zz15)
               (first|cases eo61|(injection eo61 with ea_ en_ ec_;(first|subst ea_|(injection ea_ with ea_;subst ea_));subst ec_;clear en_))
               have GB61:=Aside0.mk gb61;have GG61:=Aside0.mk HG61;clear gb61 gl61 HG61
               (first|simp only [add_plain] at hx931_0|skip)
               obtain ⟨hx61_0,hf61_0⟩:=Kd.R_celln 0 HO_11.out ((rd l1 x12_4):Int) p61 q61;replace p61:=eq_true p61;replace q61:=eq_true q61;have HP64:=Kd.R_putn HO_11.out ((rd l1 x12_4):Int) (wrap64 ((rd x11_4 (rd l1 x12_4))+(rd (rd_L1 l0_0 x10_3) x12_4)));rw [← Ny934.out] at HP64;have HQ64:=Aside0.mk HP64;clear HP64;refine start_ (n:=23) (S:=fun w'=>w'.cell? ⟨gb915,0,none⟩ = some (.slice (some ad932) l0_0.length c0_0)∧w'.cell? (ad924.add (x12_4).toNat) = some (.int .i64 (rd l1 x12_4))∧w'.cell? (ad924.add (x12_4).toNat) = some (.int .i64 (rd l1 x12_4))∧w'.cell? ⟨go61,((rd l1 x12_4)).toNat,none⟩ = some (.int .i64 (rd x11_4 (rd l1 x12_4)))∧w'.cell? (ad932.add (x10_3).toNat) = some (.slice (some ad933) (rd_L1 l0_0 x10_3).length c932_0)∧w'.cell? (ad933.add (x12_4).toNat) = some (.int .i64 (rd (rd_L1 l0_0 x10_3) x12_4))) (ds:=[22]) #[false,false,false,false,false,false,false,false,false,false,false,false,false,false,false,false,false,false,false,false,false,false,false] (zz0) rfl rfl ⟨(blk_cell BK915.out 0).trans rfl,((HB.out.cell (World.block_lt_of_cell? w _ hw929_0)).trans hw929_0),((HB.out.cell (World.block_lt_of_cell? w _ hw930_0)).trans hw930_0),hx931_0,((HB.out.cell (World.block_lt_of_cell? w _ hw932_0)).trans hw932_0),((HB.out.cell (World.block_lt_of_cell? w _ hw933_0)).trans hw933_0)⟩ (fun hHeld=>?_);refine with_tabW U4.tab22 U4.bits22 (fun HT_ HW_=>?_)
               generalize wr.drew = w62 at HO_11 HO_926000 BK915 BK916 BK925 HB GG61 HQ64 HR932_0 hf61_0 hx61_0 hx929_0 hx930_0 hx931_0 hx932_0 hx933_0 hHeld ⊢
               refine zzp 0 90 ?_ #[true,false,false,false,false,false,false,false,false,false,false,false,false,false,false,false,false,false,false,false,false,false,false] rfl rfl (any_of HT_.out (zz0)) (fun _ _ _ h=>h) (Or.inl ⟨zz9,?_⟩) ?_ ?_ ?_;rotate_left
               ·intro w'
                go_simp
                with_reducible rfl
               rotate_left
               ·simp only [zzs]
                rfl
               refine zzp 1 91 ?_ #[true,true,false,false,false,false,false,false,false,false,false,false,false,false,false,false,false,false,false,false,false,false,false] rfl rfl (any_of HT_.out (zz0)) (fun _ _ _ h=>h) (Or.inl ⟨zz9,?_⟩) ?_ ?_ ?_;rotate_left
               ·intro w'
                go_simp
                with_reducible rfl
               rotate_left
               ·simp only [zzs]
                rfl
               refine zzp 2 92 ?_ #[true,true,true,false,false,false,false,false,false,false,false,false,false,false,false,false,false,false,false,false,false,false,false] rfl rfl (any_of HT_.out (zz0)) (fun _ _ _ h=>h) (Or.inl ⟨zz9,?_⟩) ?_ ?_ ?_;rotate_left
               ·intro w'
                go_simp
                with_reducible rfl
               rotate_left
               ·simp only [zzs]
                rfl
               refine zzp 3 93 ?_ #[true,true,true,true,false,false,false,false,false,false,false,false,false,false,false,false,false,false,false,false,false,false,false] rfl rfl (any_of HT_.out (zz0)) (fun _ _ _ h=>h) (Or.inl ⟨zz9,?_⟩) ?_ ?_ ?_;rotate_left
               ·intro w'
                go_simp
                with_reducible rfl
               rotate_left
               ·simp only [zzs]
                rfl
               refine zzp 5 95 ?_ #[true,true,true,true,false,true,false,false,false,false,false,false,false,false,false,false,false,false,false,false,false,false,false] rfl rfl (any_of HT_.out (zz0)) (fun _ _ _ h=>h) (Or.inl ⟨zz9,?_⟩) ?_ ?_ ?_;rotate_left
               ·intro w'
                go_simp
                with_reducible rfl
               rotate_left
               ·simp only [zzs]
                rfl
               refine zzp 6 96 ?_ #[true,true,true,true,false,true,true,false,false,false,false,false,false,false,false,false,false,false,false,false,false,false,false] rfl rfl (any_of HT_.out (zz0)) (fun _ _ _ h=>h) (Or.inl ⟨zz9,?_⟩) ?_ ?_ ?_;rotate_left
               ·intro w'
                go_simp
                with_reducible rfl
               rotate_left
               ·simp only [zzs]
                rfl
               refine zzp 7 97 ?_ #[true,true,true,true,false,true,true,true,false,false,false,false,false,false,false,false,false,false,false,false,false,false,false] rfl rfl (any_of HT_.out (zz0)) (fun _ _ _ h=>h) (Or.inl ⟨zz9,?_⟩) ?_ ?_ ?_;rotate_left
               ·intro w'
                go_simp
                with_reducible rfl
               rotate_left
               ·simp only [zzs]
                rfl
               refine zzp 8 98 ?_ #[true,true,true,true,false,true,true,true,true,false,false,false,false,false,false,false,false,false,false,false,false,false,false] rfl rfl (any_of HT_.out (zz0)) (fun _ _ _ h=>h) (Or.inl ⟨zz9,?_⟩) ?_ ?_ ?_;rotate_left
               ·intro w'
                go_simp
                with_reducible rfl
               rotate_left
               ·simp only [zzs]
                rfl
               refine zzp 12 102 ?_ #[true,true,true,true,false,true,true,true,true,false,false,false,true,false,false,false,false,false,false,false,false,false,false] rfl rfl (any_of HT_.out (zz0)) (fun _ _ _ h=>h) (Or.inl ⟨zz9,?_⟩) ?_ ?_ ?_;rotate_left
               ·intro w'
                go_simp
                with_reducible rfl
               rotate_left
               ·simp only [zzs]
                rfl
               refine zzp 14 104 ?_ #[true,true,true,true,false,true,true,true,true,false,false,false,true,false,true,false,false,false,false,false,false,false,false] rfl rfl (any_of HT_.out (zz0)) (fun _ _ _ h=>h) (Or.inl ⟨zz9,?_⟩) ?_ ?_ ?_;rotate_left
               ·intro w'
                go_simp
                with_reducible rfl
               rotate_left
               ·simp only [zzs]
                rfl
               refine zzp 17 107 ?_ #[true,true,true,true,false,true,true,true,true,false,false,false,true,false,true,false,false,true,false,false,false,false,false] rfl rfl (any_of HT_.out (zz0)) (fun _ _ _ h=>h) (Or.inl ⟨zz9,?_⟩) ?_ ?_ ?_;rotate_left
               ·intro w'
                go_simp
                with_reducible rfl
               rotate_left
               ·simp only [zzs]
                rfl
               refine take_ (i:=4) (N:=some 94) (v:=?_) (a':=?_) #[true,true,true,true,true,true,true,true,true,false,false,false,true,false,true,false,false,true,false,false,false,false,false] rfl rfl (take_ofW HT_.out HW_.out (zz0)) (fun _ _ _ h=>h) (Or.inl ⟨zz9,?_⟩) hHeld ?_ ?_;rotate_left
               ·rintro w' ⟨s0,s1,s2,s3,s4,s5⟩
                go_simp
                with_reducible rfl
               rotate_left
               ·simp only [zzs]
                rfl
               refine take_ (i:=9) (N:=some 99) (v:=?_) (a':=?_) #[true,true,true,true,true,true,true,true,true,true,false,false,true,false,true,false,false,true,false,false,false,false,false] rfl rfl (take_ofW HT_.out HW_.out (zz0)) (fun _ _ _ h=>h) (Or.inl ⟨zz9,?_⟩) hHeld ?_ ?_;rotate_left
               ·rintro w' ⟨s0,s1,s2,s3,s4,s5⟩
                go_simp
                with_reducible rfl
               rotate_left
               ·simp only [zzs]
                rfl
               refine zzp 10 100 ?_ #[true,true,true,true,true,true,true,true,true,true,true,false,true,false,true,false,false,true,false,false,false,false,false] rfl rfl (any_of HT_.out (zz0)) (fun _ _ _ h=>h) (Or.inl ⟨zz9,?_⟩) ?_ ?_ ?_;rotate_left
               ·intro w'
                go_simp
                with_reducible rfl
               rotate_left
               ·simp only [zzs]
                rfl
               refine take_ (i:=11) (N:=some 101) (v:=?_) (a':=?_) #[true,true,true,true,true,true,true,true,true,true,true,true,true,false,true,false,false,true,false,false,false,false,false] rfl rfl (take_ofW HT_.out HW_.out (zz0)) (fun _ _ _ h=>h) (Or.inl ⟨zz9,?_⟩) hHeld ?_ ?_;rotate_left
               ·rintro w' ⟨s0,s1,s2,s3,s4,s5⟩
                go_simp
                with_reducible rfl
               rotate_left
               ·simp only [zzs]
                rfl
               refine take_ (i:=13) (N:=some 103) (v:=?_) (a':=?_) #[true,true,true,true,true,true,true,true,true,true,true,true,true,true,true,false,false,true,false,false,false,false,false] rfl rfl (take_ofW HT_.out HW_.out (zz0)) (fun _ _ _ h=>h) (Or.inl ⟨zz9,?_⟩) hHeld ?_ ?_;rotate_left
               ·rintro w' ⟨s0,s1,s2,s3,s4,s5⟩
                go_simp
                with_reducible rfl
               rotate_left
               ·simp only [zzs]
                rfl
               refine zzp 15 105 ?_ #[true,true,true,true,true,true,true,true,true,true,true,true,true,true,true,true,false,true,false,false,false,false,false] rfl rfl (any_of HT_.out (zz0)) (fun _ _ _ h=>h) (Or.inl ⟨zz9,?_⟩) ?_ ?_ ?_;rotate_left
               ·intro w'
                go_simp
                with_reducible rfl
               rotate_left
               ·simp only [zzs]
                rfl
               refine take_ (i:=16) (N:=some 106) (v:=?_) (a':=?_) #[true,true,true,true,true,true,true,true,true,true,true,true,true,true,true,true,true,true,false,false,false,false,false] rfl rfl (take_ofW HT_.out HW_.out (zz0)) (fun _ _ _ h=>h) (Or.inl ⟨zz9,?_⟩) hHeld ?_ ?_;rotate_left
               ·rintro w' ⟨s0,s1,s2,s3,s4,s5⟩
                go_simp
                with_reducible rfl
               rotate_left
               ·simp only [zzs]
                rfl
               refine zzp 18 108 ?_ #[true,true,true,true,true,true,true,true,true,true,true,true,true,true,true,true,true,true,true,false,false,false,false] rfl rfl (any_of HT_.out (zz0)) (fun _ _ _ h=>h) (Or.inl ⟨zz9,?_⟩) ?_ ?_ ?_;rotate_left
               ·intro w'
                go_simp
                with_reducible rfl
               rotate_left
               ·simp only [zzs]
                rfl
               refine take_ (i:=19) (N:=some 109) (v:=?_) (a':=?_) #[true,true,true,true,true,true,true,true,true,true,true,true,true,true,true,true,true,true,true,true,false,false,false] rfl rfl (take_ofW HT_.out HW_.out (zz0)) (fun _ _ _ h=>h) (Or.inl ⟨zz9,?_⟩) hHeld ?_ ?_;rotate_left
               ·rintro w' ⟨s0,s1,s2,s3,s4,s5⟩
                go_simp
                with_reducible rfl
               rotate_left
               ·simp only [zzs]
                rfl
               refine zzp 20 110 ?_ #[true,true,true,true,true,true,true,true,true,true,true,true,true,true,true,true,true,true,true,true,true,false,false] rfl rfl (any_of HT_.out (zz0)) (fun _ _ _ h=>h) (Or.inl ⟨zz9,?_⟩) ?_ ?_ ?_;rotate_left
               ·intro w'
                go_simp
                with_reducible rfl
               rotate_left
               ·simp only [zzs]
                rfl
               refine zzp 21 111 ?_ #[true,true,true,true,true,true,true,true,true,true,true,true,true,true,true,true,true,true,true,true,true,true,false] rfl rfl (any_of HT_.out (zz0)) (fun _ _ _ h=>h) (Or.inl ⟨zz9,?_⟩) ?_ ?_ ?_;rotate_left
               ·intro w'
                go_simp
                with_reducible rfl
               rotate_left
               ·simp only [zzs]
                rfl
               refine last_ (i:=22) (N:=none) #[true,true,true,true,true,true,true,true,true,true,true,true,true,true,true,true,true,true,true,true,true,true,true] rfl rfl (one_of HT_.out (zz0)) (zz17) (fun K hK=>?_);refine skip_ (w1:=?_) (zz9) rfl ?_ ?_;rotate_left
               ·go_simp
                rfl
               refine hK.out _ _ ?_;clear hK K;refine done_ (done_of HT_.out (zz0)) ?_
               try go_wp2
               go_roundg k4
               case measure=>have:=HJ4.out;have:=HK2.out;have:=HK3.out;have:=HK4.out;omega
               case rel=>exact ⟨(y934),(wrap64 (x12_4+1)),(zz1),H',⟨zz41⟩,⟨(have h0_:=HQ64;zz18)⟩,⟨by (with_reducible repeat (first|apply Kd.S_alloc|apply Kd.S_drewN|apply Kd.S_drew));exact Kd.S_mono (Kd.S_far (p:=⟨go61,((rd l1 x12_4):Int).toNat,none⟩) (Kd.S_mono HO_926000.out (fun k_ hk=>(⟨hk,fun e_=>hk (by rw [e_];rfl)⟩:_∧k_ ≠ go61))) (fun _ hk=>hk.2) (.int .i64 (wrap64 ((rd x11_4 (rd l1 x12_4))+(rd (rd_L1 l0_0 x10_3) x12_4))))) (fun _ hk=>hk.1)⟩,⟨(have h0_:=HO_11;have h1_:=BK915;zz143)⟩,⟨(have h0_:=HO_11;have h1_:=BK916;zz143)⟩,⟨(have h0_:=HO_11;have h1_:=BK925;zz143)⟩,⟨by repeat (first|(with_reducible first|exact HB.out|apply below_alloc|apply pw_below_drewN|apply below_drew1|refine below_set ?_ GB61.out|refine below_set ?_ GE915.out|refine below_set ?_ GE916.out|refine below_set ?_ GE925.out)|exact HB.out)⟩⟩
              ·have c54b0:=decide_eq_false c54;clear c54;replace H:=zzi H;obtain ⟨c65,H⟩:=H;have LMc65:=Aside0.mk c65;clear c65;obtain ⟨y935,hy935⟩:∃ y_:List (List Int),y_ = (x926000_3++[x11_4]):=⟨_,rfl⟩;replace H:(U4.l1 k4 l1 (ji46) (wrap64 (x10_3+1)) l0_0 y935) = some (r1,r2):=(have h0_:=hy935;zz16);have Ny935:=Aside0.mk hy935;clear hy935;have H':=Aside0.mk H;clear H;have hnb66:=NB925_915.out;have hnc66:=NB915_925.out;have hnb67:=NB925_916.out;have hnc67:=NB916_925.out;obtain ⟨hcz68_0,hfz68_0⟩:=zc1 BK925.out;obtain ⟨Ao70,co70,eo70⟩:=Kd.R_slice HO_11.out;subst eo70
               go_wp2_with (first|((with_reducible refine gate_builtin (b:=.append) (xs:=#[.tmp 113,.tmp 115]) rfl ?_);at_builtin;refine Kd.S_append (Kd.slice 3 (Kd.int .i64)) (w0:=w) w.heap.size rfl (.tmp 113) (.tmp 115) 22 31 (.slice none 0 0) 24 rfl Tryd.underlying22 info31 rfl (zz17) (zz15) u926000 x926000_3 x11_4 [.slice Ao70 x11_4.length co70] (fun _=>True) (fun k_=>some k_ = (.slice Ao70 x11_4.length co70:Value).ownBlock) rfl rfl ?aP (fun k_ hk_=>((Kd.R_mono (ok':=fun k_=>((fun _=>True)) k_∧some k_ ≠ (u926000:Value).ownBlock) (Kd.R_apart' (HO_11.out) (Kd.S_typed HO_926000.out) (zz17)) (fun k_ hk=>⟨trivial,hk.2⟩))).1 k_ hk_.symm) ?aF ?aO ?aB ?aS ?aL ?_;(case aP=>exact Kd.M_row (Kd.R_mono (Kd.R_tight rfl (Kd.R_mono (ok':=fun k_=>((fun _=>True)) k_∧some k_ ≠ (u926000:Value).ownBlock) (Kd.R_apart' (HO_11.out) (Kd.S_typed HO_926000.out) (zz17)) (fun k_ hk=>⟨trivial,hk.2⟩))) (fun _ h_=>h_)));(case aB=>exact (zz142));(case aF=>exact zz148);(case aO=>exact (have h0_:=HO_926000;zz42));(case aS=>exact (below_size (zz142)));(case aL=>have:=LMc65.out;omega);intro v936 w69 ho hb hg hat;rw [← Ny935.out] at ho;replace BK915:=Aside0.mk (blk_grown (g:=gb915) (o:=.cells #[.slice A0_0 l0_0.length c0_0] 24 (0,0)) (zz139) hg (Kd.S_ne HO_926000.out BK915.out (zz17)));replace BK916:=Aside0.mk (blk_grown (g:=gb916) (o:=.cells #[.slice none 0 0] 24 (0,0)) (zz140) hg (Kd.S_ne HO_926000.out BK916.out (zz17)));replace BK925:=Aside0.mk (blk_grown (g:=gb925) (o:=.cells #[u926000] 24 (0,0)) (have h0_:=BK925;zz12) hg (Kd.S_ne HO_926000.out BK925.out (zz17)));replace HB:=Aside0.mk (hb);have HO937:=Aside0.mk (ho);clear HO_926000 HO_11;clear ho hb hg hat;obtain ⟨Ao71,co71,eo71⟩:=Kd.S_slice HO937.out;subst eo71;obtain ⟨hcz72_0,hfz72_0⟩:=zc1 BK925.out))
               subst hji46
               go_roundg k4
               case measure=>have:=HJ4.out;have:=HK2.out;have:=HK3.out;have:=HK4.out;omega
               case rel=>exact ⟨(wrap64 (x10_3+1)),(y935),(.slice Ao71 y935.length co71),(zz1),H',⟨zz41⟩,⟨by (with_reducible repeat (first|apply Kd.S_alloc|apply Kd.S_drewN|apply Kd.S_drew));exact Kd.S_mono (Kd.S_far (p:=⟨gb925,0,none⟩) (Kd.S_types HO937.out BK925.out (zz17)) (fun _ hk=>hk.2) (.slice Ao71 y935.length co71)) (fun _ hk=>trivial)⟩,⟨by (with_reducible repeat (first|refine blk_drewN ?_ _|refine blk_drew ?_|refine blk_alloc ?_ _));refine blk_far ?_ NB915_925.out _;(with_reducible repeat (first|refine blk_drewN ?_ _|refine blk_drew ?_|refine blk_alloc ?_ _));exact BK915.out⟩,⟨by (with_reducible repeat (first|refine blk_drewN ?_ _|refine blk_drew ?_|refine blk_alloc ?_ _));refine blk_far ?_ NB916_925.out _;(with_reducible repeat (first|refine blk_drewN ?_ _|refine blk_drew ?_|refine blk_alloc ?_ _));exact BK916.out⟩,⟨by (with_reducible repeat (first|refine blk_drewN ?_ _|refine blk_drew ?_|refine blk_alloc ?_ _));refine blk_put (cs:=#[u926000]) ?_ 0 _ rfl;(with_reducible repeat (first|refine blk_drewN ?_ _|refine blk_drew ?_|refine blk_alloc ?_ _));exact BK925.out⟩,⟨zz142⟩⟩
           ·have c45b0:=decide_eq_false c45;clear c45;simp only [Option.some.injEq,Prod.mk.injEq] at H;obtain ⟨rfl,rfl⟩:=H;have hnb73:=NB915_916.out;have hnc73:=NB916_915.out;have hnb74:=NB915_925.out;have hnc74:=NB925_915.out;obtain ⟨hcz75_0,hfz75_0⟩:=zc1 BK915.out;have hnb76:=NB925_916.out;have hnc76:=NB916_925.out;obtain ⟨hcz77_0,hfz77_0⟩:=zc1 BK925.out;obtain ⟨Ao78,co78,eo78⟩:=Kd.S_slice HO_926000.out;subst eo78;obtain ⟨hcz79_0,hfz79_0⟩:=zc1 BK916.out
            go_wp2
            refine bodyPost_ret (results_ct rfl _ _ gb916 24 #[.slice Ao78 x926000_3.length co78] (0,0) _ rfl (have h0_:=BK916;zz27) Tryd.underlying24 rfl (zz0)) rfl ?_
            exact ⟨_,(have h0_:=hji35;zz21),by (with_reducible repeat (first|apply Kd.S_alloc|apply Kd.S_drewN|apply Kd.S_drew));exact Kd.S_mono (Kd.S_far (p:=⟨gb916,0,none⟩) (Kd.S_types HO_926000.out BK916.out (zz17)) (fun _ hk=>hk.2) (.slice Ao78 x926000_3.length co78)) (fun _ hk=>trivial),zz142⟩
 ·have c4b0:=beq_eq_false_iff_ne.mpr c4;have c4b1:=bne_iff_ne.mpr c4;simp only [Option.some.injEq,Prod.mk.injEq] at H;obtain ⟨rfl,rfl⟩:=H;go_enter Tryd.func27,Tryd.ntmps27
  go_wp2_with (first|((with_reducible refine gate_dst (N:=2) rfl ?_);refine box_event ?hg (N:=2) ?hd (cs:=#[.slice A0_0 l0_0.length c0_0]) (t:=24) ?hr ?_;(case hd=>rfl);(case hg=>rfl);(case hr=>exact zz146);intro gb915 hg w80 hbox hb;have BK915:=Aside0.mk (hbox);have GW915:=Aside0.mk ((by rw [hg];exact (below_size (zz10)):w.heap.size≤gb915));have GE915:=Aside0.mk ((by rw [hg];exact (below_size (zz10)):w.heap.size≤gb915));replace HB:=Aside0.mk (below_step (zz10) hb);clear hb hbox hg)|((with_reducible refine gate_dst (N:=4) rfl ?_);refine box_event ?hg (N:=4) ?hd (cs:=#[.slice none 0 0]) (t:=24) ?hr ?_;(case hd=>rfl);(case hg=>rfl);(case hr=>exact zz146);intro gb916 hg w81 hbox hb;have BK916:=Aside0.mk (hbox);have GW916:=Aside0.mk ((by rw [hg];exact (below_size (have h0_:=GE915;zz13)):w.heap.size≤gb916));have GE916:=Aside0.mk ((by rw [hg];exact (below_size (have h0_:=GE915;zz13)):w.heap.size≤gb916));replace HB:=Aside0.mk (below_step (have h0_:=GE915;zz13) hb);have NB915_916:=Aside0.mk ((by rw [hg];exact Nat.ne_of_lt (blk_lt (g:=gb915) (o:=.cells #[.slice A0_0 l0_0.length c0_0] 24 (0,0)) (zz139)):gb915 ≠ gb916));have NB916_915:=Aside0.mk ((by rw [hg];exact Nat.ne_of_gt (blk_lt (g:=gb915) (o:=.cells #[.slice A0_0 l0_0.length c0_0] 24 (0,0)) (zz139)):gb916 ≠ gb915));replace BK915:=Aside0.mk (blk_below (zz139) hb);clear hb hbox hg;have hnb82:=NB915_916.out;have hnc82:=NB916_915.out;obtain ⟨hcz83_0,hfz83_0⟩:=zc1 BK915.out)|((with_reducible refine gate_callee (f:=15) rfl ?_);refine goesL_ (some 17) rfl rfl Tryd.func15 (zz0) rfl #[.agg #[.slice A0_0 l0_0.length c0_0],.int .i64 (l0_0.length:Int)] rfl (zz5) ?_;(with_reducible refine (U6.calls k _ _ l0_0 (l0_0.length:Int) t917 _ ?_ ?_ A3.out).mono ?_);exact zz151;exact zz152;rintro e w84 ⟨rfl,hb⟩;refine ⟨_,rfl,?_⟩;replace BK915:=Aside0.mk (blk_below (zz139) hb);replace BK916:=Aside0.mk (blk_below (zz140) hb);replace HB:=Aside0.mk (below_step (zz141) hb);(try clear hb);obtain ⟨hcz85_0,hfz85_0⟩:=zc1 BK916.out))
  refine bodyPost_ret (results_ct rfl _ _ gb916 24 #[.slice none 0 0] (0,0) _ rfl (have h0_:=BK916;zz27) Tryd.underlying24 rfl (zz0)) rfl ?_
  exact ⟨_,zz14,zz28,zz141⟩
end Go.Proofs.YtfkmbjkmlfnapaaDoor.QA
