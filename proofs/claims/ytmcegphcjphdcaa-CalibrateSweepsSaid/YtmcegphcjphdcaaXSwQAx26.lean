import Derived.Test.YtmcegphcjphdcaaXSwQAx0
import Derived.Test.YtmcegphcjphdcaaXSwQAx6
import Derived.Test.YtmcegphcjphdcaaXSwQAx16
import Derived.Test.YtmcegphcjphdcaaXSwQAx17
import Derived.Test.YtmcegphcjphdcaaXSwQAx25
namespace Go.Proofs.Ytmcegphcjphdcaa.QA
open Go.RowKit Go.Proofs.YtmcegphcjphdcaaW.PrintWords Go.Proofs.YtmcegphcjphdcaaW.PrintLast Go.Proofs.YtmcegphcjphdcaaW.PrintMore
attribute [local go_sem] max2_int min2_int max_two min_two max_three min_three max_four min_four
set_option linter.unusedVariables false
set_option linter.unusedSimpArgs false
mutual
def U32.l0:Nat→List (List (S56))→List Int→Int→List Int→List Int→List Int→List Int→List (List Int)→Option (Int)
 | 0,_,_,_,_,_,_,_,_=>none
 | k+1,x2,x3,x10,x584000,x584001,x585000,x585001,x585002=>if x10 < (x2.length:Int) then (if 0≤x10 then (if ((rd_L6 x2 x10).length:Int) > 24 then (some 5) else (U32.l0 k x2 x3 (wrap64 (x10+1)) x584000 x584001 x585000 x585001 x585002)) else (none)) else (if (x2.length:Int) = (x585001.length:Int) then (U32.j1 k x2 x3 ((x3.length:Int) != (x585001.length:Int)) x584000 x584001 x585000 x585001 x585002) else (U32.j1 k x2 x3 true x584000 x584001 x585000 x585001 x585002))
def U32.j1:Nat→List (List (S56))→List Int→Bool→List Int→List Int→List Int→List Int→List (List Int)→Option (Int)
 | 0,_,_,_,_,_,_,_,_=>none
 | k+1,x2,x3,x47,x584000,x584001,x585000,x585001,x585002=>if x47 = true then (some 1) else (U32.l1 k x2 x3 ([]:List (S56)) 0 x584000 x584001 x585000 x585001 x585002)
def U32.l1:Nat→List (List (S56))→List Int→List (S56)→Int→List Int→List Int→List Int→List Int→List (List Int)→Option (Int)
 | 0,_,_,_,_,_,_,_,_,_=>none
 | k+1,x2,x3,x11,x12,x584000,x584001,x585000,x585001,x585002=>if x12 < (x2.length:Int) then (if 0≤x12 then ((U33.f k (rd_L6 x2 x12) (x584000.length:Int)).bind fun t588=>(if t588 = 0 then (if 0 < ((rd_L6 x2 x12).length:Int) then (if x11.length < 5864062014805 then (U32.l1 k x2 x3 (x11++[(⟨(rd_T56 (rd_L6 x2 x12) 0).f0⟩:S56)]) (wrap64 (x12+1)) x584000 x584001 x585000 x585001 x585002) else (none)) else (none)) else (some t588))) else (none)) else ((U31.f k x11).bind fun t594=>((U25.f k x585000 x585001 x585002 t594).bind fun t597=>(if t597 = 0 then (U32.l2 k x2 x3 0) else (some t597))))
def U32.l2:Nat→List (List (S56))→List Int→Int→Option (Int)
 | 0,_,_,_=>none
 | k+1,x2,x3,x13=>if x13 < (x3.length:Int) then (if 0≤x13 then (if (rd x3 x13) < 0 then (some 3) else (if x13 < (x2.length:Int) then (if (rd x3 x13)≥((rd_L6 x2 x13).length:Int) then (some 3) else (U32.l2 k x2 x3 (wrap64 (x13+1)))) else (none))) else (none)) else (some 0)
end
def U32.f (k:Nat) (l0_0:List Int) (l0_1:List Int) (l1_0:List Int) (l1_1:List Int) (l1_2:List (List Int)) (l2:List (List (S56))) (l3:List Int):Option (Int):=(U21.f k l0_0 l0_1).bind fun t585=>(if t585 = 0 then (if (l2.length:Int) > 60 then (some 5) else (U32.l0 k l2 l3 0 l0_0 l0_1 l1_0 l1_1 l1_2)) else (some t585))
theorem zm24_0 {P:Prop} (h:P:=by repeat' first|(with_reducible first|exact ih0 ..|exact ih1 ..|exact ih2 ..|exact ih3 ..|exact U21.mono ..|exact U25.mono ..|exact U31.mono ..|exact U33.mono ..|exact LeO.refl _|exact LeO.none _|refine LeO.ite ?_ ?_|refine LeO.bind ?_ (fun _=>?_))|exact ih0 ..|exact ih1 ..|exact ih2 ..|exact ih3 ..|exact U21.mono ..|exact U25.mono ..|exact U31.mono ..|exact U33.mono ..|exact LeO.none _|refine LeO.ite ?_ ?_|refine LeO.bind ?_ (fun _=>?_)):P:=h
theorem U32.mono_l:∀ k,(∀ y0 y1 y2 y3 y4 y5 y6 y7,LeO (U32.l0 k y0 y1 y2 y3 y4 y5 y6 y7) (U32.l0 (k+1) y0 y1 y2 y3 y4 y5 y6 y7))∧(∀ y0 y1 y2 y3 y4 y5 y6 y7,LeO (U32.j1 k y0 y1 y2 y3 y4 y5 y6 y7) (U32.j1 (k+1) y0 y1 y2 y3 y4 y5 y6 y7))∧(∀ y0 y1 y2 y3 y4 y5 y6 y7 y8,LeO (U32.l1 k y0 y1 y2 y3 y4 y5 y6 y7 y8) (U32.l1 (k+1) y0 y1 y2 y3 y4 y5 y6 y7 y8))∧(∀ y0 y1 y2,LeO (U32.l2 k y0 y1 y2) (U32.l2 (k+1) y0 y1 y2))
 | 0=>⟨fun _ _ _ _ _ _ _ _ r h=>by simp [U32.l0] at h,fun _ _ _ _ _ _ _ _ r h=>by simp [U32.j1] at h,fun _ _ _ _ _ _ _ _ _ r h=>by simp [U32.l1] at h,fun _ _ _ r h=>by simp [U32.l2] at h⟩
 | k+1=>by
  obtain ⟨ih0,ih1,ih2,ih3⟩:=U32.mono_l k;refine ⟨?_,?_,?_,?_⟩
  ·intro y0 y1 y2 y3 y4 y5 y6 y7;unfold U32.l0
   exact zm24_0
  ·intro y0 y1 y2 y3 y4 y5 y6 y7;unfold U32.j1
   exact zm24_0
  ·intro y0 y1 y2 y3 y4 y5 y6 y7 y8;unfold U32.l1
   exact zm24_0
  ·intro y0 y1 y2;unfold U32.l2
   exact zm24_0
theorem U32.mono:∀ a0 a1 a2 a3 a4 a5 a6 k,LeO (U32.f k a0 a1 a2 a3 a4 a5 a6) (U32.f (k+1) a0 a1 a2 a3 a4 a5 a6):=by
 intro a0 a1 a2 a3 a4 a5 a6 k;obtain ⟨ih0,ih1,ih2,ih3⟩:=U32.mono_l k;unfold U32.f
 exact zm24_0
def U32.T17:Bool × List (List Nat × List Nat):=(true,[([],[]),([],[]),([0,1],[0,1]),([2],[2]),([],[]),([4],[4]),([5],[5]),([3,6],[3,6]),([7,7,0,1,2,3,4,5,6,7],[7])])
def U32.B17:List Nat:=[0,0,3,7,0,16,48,127,255]
theorem U32.tab17:rtab .any (opsOf Try.f48 17) = U32.T17:=zz0
theorem U32.bits17:waitsOk U32.T17.2 U32.B17 = true:=zz0
def U32.T27:Bool × List (List Nat × List Nat):=(true,[([],[]),([],[]),([0,1],[0,1]),([2],[2]),([3],[3]),([4],[4]),([5],[5]),([5],[5]),([6,7,5],[5,6,7]),([8,5],[5,8]),([5],[5]),([5],[5]),([10,11,5],[5,10,11]),([12,5],[5,12]),([13,5],[5,13]),([9,14,5],[5,9,14]),([5,15],[5,15])])
def U32.B27:List Nat:=[0,0,3,7,15,31,63,63,255,511,63,63,3135,7231,15423,32767,65535]
theorem U32.tab27:rtab .any (opsOf Try.f48 27) = U32.T27:=zz0
theorem U32.bits27:waitsOk U32.T27.2 U32.B27 = true:=zz0
set_option maxHeartbeats 8000000 in
set_option maxRecDepth 100000 in
theorem U32.calls (k:Nat) (A0_0:Option Addr) (c0_0:Nat) (l0_0:List Int) (A0_1:Option Addr) (c0_1:Nat) (l0_1:List Int) (A1_0:Option Addr) (c1_0:Nat) (l1_0:List Int) (A1_1:Option Addr) (c1_1:Nat) (l1_1:List Int) (A1_2:Option Addr) (c1_2:Nat) (l1_2:List (List Int)) (P2_:Nat→Prop) (A2:Option Addr) (c2:Nat) (l2:List (List (S56))) (A3:Option Addr) (c3:Nat) (l3:List Int) (r:Int) (w:World) (hr0_0:Kd.C (Kd.int .i64) w A0_0 l0_0.length l0_0) (hc0_0:l0_0.length≤c0_0) (hr0_1:Kd.C (Kd.int .i64) w A0_1 l0_1.length l0_1) (hc0_1:l0_1.length≤c0_1) (hr1_0:Kd.C (Kd.int .i64) w A1_0 l1_0.length l1_0) (hc1_0:l1_0.length≤c1_0) (hr1_1:Kd.C (Kd.int .i64) w A1_1 l1_1.length l1_1) (hc1_1:l1_1.length≤c1_1) (hr1_2:Kd.C (Kd.slice 3 (Kd.int .i64)) w A1_2 l1_2.length l1_2) (hc1_2:l1_2.length≤c1_2) (hs2:Kd.V (Kd.slice 56 k56) 25 w w.heap.size (fun k_=>P2_ k_) (.slice A2 l2.length c2) l2) (hr3:Kd.C (Kd.int .i64) w A3 l3.length l3) (hc3:l3.length≤c3) (h:U32.f k l0_0 l0_1 l1_0 l1_1 l1_2 l2 l3 = some r) :
  Calls Try.prog 48 #[.agg #[.slice A0_0 l0_0.length c0_0,.slice A0_1 l0_1.length c0_1],.agg #[.slice A1_0 l1_0.length c1_0,.slice A1_1 l1_1.length c1_1,.slice A1_2 l1_2.length c1_2],.slice A2 l2.length c2,.slice A3 l3.length c3] w fun e w'=>e = .returned (.int .i64 r)∧Below w.heap.size w w':=by
 have hu24:=Try.underlying24;have hu36:=Try.underlying36;have hu56:=Try.underlying56;have HR0_0:=Aside0.mk hr0_0;have HC0_0:=Aside0.mk hc0_0;clear hr0_0 hc0_0;have HR0_1:=Aside0.mk hr0_1;have HC0_1:=Aside0.mk hc0_1;clear hr0_1 hc0_1;have HR1_0:=Aside0.mk hr1_0;have HC1_0:=Aside0.mk hc1_0;clear hr1_0 hc1_0;have HR1_1:=Aside0.mk hr1_1;have HC1_1:=Aside0.mk hc1_1;clear hr1_1 hc1_1;have HR1_2:=Aside0.mk hr1_2;have HC1_2:=Aside0.mk hc1_2;clear hr1_2 hc1_2;have HO2:=Aside0.mk (show Kd.V (Kd.slice 56 k56) 25 w w.heap.size (fun k_=>(P2_ k_∨w.heap.size≤k_)) (.slice A2 l2.length c2) l2 from Kd.V_mono hs2 (fun k_ hk=>.inl hk));have HR3:=Aside0.mk hr3;have HC3:=Aside0.mk hc3;clear hr3 hc3;have HB:=Aside0.mk (Below.refl w.heap.size w);have H:((U21.f k l0_0 l0_1).bind fun t585=>(if t585 = 0 then (if (l2.length:Int) > 60 then (some 5) else (U32.l0 k l2 l3 0 l0_0 l0_1 l1_0 l1_1 l1_2)) else (some t585))) = some r:=h;clear h;replace H:=zzb H;obtain ⟨t585,A5,H⟩:=H;replace H:=zzj H;rcases H with ⟨c6,H⟩|⟨c6,H⟩
 ·have c6b0:=beq_iff_eq.mpr c6;have c6b1:=bne_eq_false_iff_eq.mpr c6;clear c6;replace H:=zzj H;rcases H with ⟨c7,H⟩|⟨c7,H⟩
  ·have c7b0:=decide_eq_true c7;have c7b1:decide (60 < l2.length) = true:=decide_eq_true (zz4);clear c7;obtain rfl:=Option.some.inj H;go_enter Try.func48,Try.ntmps48
   go_wp2_with (first|((with_reducible refine gate_dst (N:=4) rfl ?_);(try (refine gate_guard (zz20) ?_;dsimp only));refine box_event ?hg (N:=4) ?hd (cs:=#[.slice A0_0 l0_0.length c0_0,.slice A0_1 l0_1.length c0_1]) (t:=24) ?hr ?_;(case hd=>rfl);(case hg=>rfl);(case hr=>exact zz109);intro gb583 hg w8 hbox hb;replace HO2:=Aside0.mk (Kd.V_below (Kd.V_elderB (zz68) gb583 (Nat.le_of_eq hg.symm)) hb);have BK583:=Aside0.mk (hbox);have GW583:=Aside0.mk ((by rw [hg];exact (below_size (zz5)):w.heap.size≤gb583));have GE583:=Aside0.mk ((by rw [hg];exact (below_size (zz5)):w.heap.size≤gb583));replace HB:=Aside0.mk (below_step (zz5) hb);clear hb hbox hg)|((with_reducible refine gate_dst (N:=5) rfl ?_);(try (refine gate_guard (zz20) ?_;dsimp only));refine box_event ?hg (N:=5) ?hd (cs:=#[.slice A1_0 l1_0.length c1_0,.slice A1_1 l1_1.length c1_1,.slice A1_2 l1_2.length c1_2]) (t:=36) ?hr ?_;(case hd=>rfl);(case hg=>rfl);(case hr=>exact zz109);intro gb584 hg w9 hbox hb;replace HO2:=Aside0.mk (Kd.V_below (Kd.V_elderB (zz68) gb584 (Nat.le_of_eq hg.symm)) hb);have BK584:=Aside0.mk (hbox);have GW584:=Aside0.mk ((by rw [hg];exact (below_size (have h0_:=GE583;zz7)):w.heap.size≤gb584));have GE584:=Aside0.mk ((by rw [hg];exact (below_size (have h0_:=GE583;zz7)):w.heap.size≤gb584));replace HB:=Aside0.mk (below_step (have h0_:=GE583;zz7) hb);have NB583_584:=Aside0.mk ((by rw [hg];exact Nat.ne_of_lt (blk_lt (g:=gb583) (o:=.cells #[.slice A0_0 l0_0.length c0_0,.slice A0_1 l0_1.length c0_1] 24 (0,0)) (zz84)):gb583 ≠ gb584));have NB584_583:=Aside0.mk ((by rw [hg];exact Nat.ne_of_gt (blk_lt (g:=gb583) (o:=.cells #[.slice A0_0 l0_0.length c0_0,.slice A0_1 l0_1.length c0_1] 24 (0,0)) (zz84)):gb584 ≠ gb583));replace BK583:=Aside0.mk (blk_below (zz84) hb);clear hb hbox hg;have hnb10:=NB583_584.out;have hnc10:=NB584_583.out;obtain ⟨hcz11_0,hcz11_1,hfz11_0,hfz11_1⟩:=zc2 BK583.out)|((with_reducible refine gate_callee (f:=32) rfl ?_);refine goesL_ (some 15) rfl rfl Try.func32 (zz0) rfl #[.agg #[.slice A0_0 l0_0.length c0_0,.slice A0_1 l0_1.length c0_1]] rfl (zz19) ?_;(with_reducible refine (U21.calls k _ _ l0_0 _ _ l0_1 t585 _ ?_ ?_ ?_ ?_ A5.out).mono ?_);exact zz111;exact zz112;exact zz113;exact zz114;rintro e w12 ⟨rfl,hb⟩;refine ⟨_,rfl,?_⟩;replace HO2:=Aside0.mk (Kd.V_below (zz68) hb);replace BK583:=Aside0.mk (blk_below (zz84) hb);replace BK584:=Aside0.mk (blk_below (zz85) hb);replace HB:=Aside0.mk (below_step (zz86) hb);(try clear hb)))
   go_ret
   exact ⟨zz6,zz86⟩
  ·have c7b0:=decide_eq_false c7;have c7b1:decide (60 < l2.length) = false:=decide_eq_false (zz4);clear c7;have H':=Aside0.mk H;clear H;go_enter Try.func48,Try.ntmps48
   go_wp2_with (first|((with_reducible refine gate_dst (N:=4) rfl ?_);(try (refine gate_guard (zz20) ?_;dsimp only));refine box_event ?hg (N:=4) ?hd (cs:=#[.slice A0_0 l0_0.length c0_0,.slice A0_1 l0_1.length c0_1]) (t:=24) ?hr ?_;(case hd=>rfl);(case hg=>rfl);(case hr=>exact zz109);intro gb583 hg w13 hbox hb;replace HO2:=Aside0.mk (Kd.V_below (Kd.V_elderB (zz68) gb583 (Nat.le_of_eq hg.symm)) hb);have BK583:=Aside0.mk (hbox);have GW583:=Aside0.mk ((by rw [hg];exact (below_size (zz5)):w.heap.size≤gb583));have GE583:=Aside0.mk ((by rw [hg];exact (below_size (zz5)):w.heap.size≤gb583));replace HB:=Aside0.mk (below_step (zz5) hb);clear hb hbox hg)|((with_reducible refine gate_dst (N:=5) rfl ?_);(try (refine gate_guard (zz20) ?_;dsimp only));refine box_event ?hg (N:=5) ?hd (cs:=#[.slice A1_0 l1_0.length c1_0,.slice A1_1 l1_1.length c1_1,.slice A1_2 l1_2.length c1_2]) (t:=36) ?hr ?_;(case hd=>rfl);(case hg=>rfl);(case hr=>exact zz109);intro gb584 hg w14 hbox hb;replace HO2:=Aside0.mk (Kd.V_below (Kd.V_elderB (zz68) gb584 (Nat.le_of_eq hg.symm)) hb);have BK584:=Aside0.mk (hbox);have GW584:=Aside0.mk ((by rw [hg];exact (below_size (have h0_:=GE583;zz7)):w.heap.size≤gb584));have GE584:=Aside0.mk ((by rw [hg];exact (below_size (have h0_:=GE583;zz7)):w.heap.size≤gb584));replace HB:=Aside0.mk (below_step (have h0_:=GE583;zz7) hb);have NB583_584:=Aside0.mk ((by rw [hg];exact Nat.ne_of_lt (blk_lt (g:=gb583) (o:=.cells #[.slice A0_0 l0_0.length c0_0,.slice A0_1 l0_1.length c0_1] 24 (0,0)) (zz84)):gb583 ≠ gb584));have NB584_583:=Aside0.mk ((by rw [hg];exact Nat.ne_of_gt (blk_lt (g:=gb583) (o:=.cells #[.slice A0_0 l0_0.length c0_0,.slice A0_1 l0_1.length c0_1] 24 (0,0)) (zz84)):gb584 ≠ gb583));replace BK583:=Aside0.mk (blk_below (zz84) hb);clear hb hbox hg;have hnb15:=NB583_584.out;have hnc15:=NB584_583.out;obtain ⟨hcz16_0,hcz16_1,hfz16_0,hfz16_1⟩:=zc2 BK583.out)|((with_reducible refine gate_callee (f:=32) rfl ?_);refine goesL_ (some 15) rfl rfl Try.func32 (zz0) rfl #[.agg #[.slice A0_0 l0_0.length c0_0,.slice A0_1 l0_1.length c0_1]] rfl (zz19) ?_;(with_reducible refine (U21.calls k _ _ l0_0 _ _ l0_1 t585 _ ?_ ?_ ?_ ?_ A5.out).mono ?_);exact zz111;exact zz112;exact zz113;exact zz114;rintro e w17 ⟨rfl,hb⟩;refine ⟨_,rfl,?_⟩;replace HO2:=Aside0.mk (Kd.V_below (zz68) hb);replace BK583:=Aside0.mk (blk_below (zz84) hb);replace BK584:=Aside0.mk (blk_below (zz85) hb);replace HB:=Aside0.mk (below_step (zz86) hb);(try clear hb)))
   go_loopg [10] k (fun kq v10 w'=>∃ (x10_1:Int),v10 = .int .i64 x10_1∧Aside0 (U32.l0 kq l2 l3 x10_1 l0_0 l0_1 l1_0 l1_1 l1_2 = some r)∧Aside0 (kq≤k)∧Aside0 (Kd.V (Kd.slice 56 k56) 25 w' w.heap.size (fun k_=>(P2_ k_∨w.heap.size≤k_)∧k_ ≠ gb583∧k_ ≠ gb584) (.slice A2 l2.length c2) l2)∧Aside0 (w'.heap[gb583]? = some (.cells #[(.slice A0_0 l0_0.length c0_0),(.slice A0_1 l0_1.length c0_1)] 24 (0,0)))∧Aside0 (w'.heap[gb584]? = some (.cells #[(.slice A1_0 l1_0.length c1_0),(.slice A1_1 l1_1.length c1_1),(.slice A1_2 l1_2.length c1_2)] 36 (0,0)))∧Aside0 (Below w.heap.size w w'))
   case atStart=>exact ⟨(0),(zz2),H',⟨Nat.le_refl _⟩,⟨by (with_reducible repeat (first|apply Kd.V_alloc|apply Kd.V_drewN|apply Kd.V_drew));exact Kd.V_mono HO2.out (fun _ hk=>⟨hk.1.1,⟨hk.1.2,hk.2⟩⟩)⟩,⟨zz84⟩,⟨zz85⟩,⟨zz86⟩⟩
   case round =>
    clear H'
    (try clear c2);(try clear c3);clear c6b0 c6b1 c7b0 c7b1;(try clear hcz16_0);(try clear hcz16_1);(try clear hfz16_0);(try clear hfz16_1)
    obtain ⟨x10_1,rfl,HA,HK1,HO_2,BK583,BK584,HB⟩:=hrel
    cases gk with
    | zero=>exact absurd HA.out (by simp [U32.l0])
    | succ k1 =>
     have H:=HA.out;clear HA;simp only [U32.l0] at H;replace H:=zzj H;rcases H with ⟨c18,H⟩|⟨c18,H⟩
     ·have c18b0:=decide_eq_true c18;clear c18;replace H:=zzi H;obtain ⟨c19,H⟩:=H;have c19b0:=decide_eq_true c19;clear c19;replace H:=zzj H;rcases H with ⟨c20,H⟩|⟨c20,H⟩
      ·have c20b0:=decide_eq_true c20;have c20b1:decide (24 < (rd_L6 l2 x10_1).length) = true:=decide_eq_true (zz4);clear c20;obtain rfl:=Option.some.inj H;have p586:0≤(x10_1:Int):=of_decide_eq_true (zz11);have q586:x10_1 < (l2.length:Int):=of_decide_eq_true (zz11);obtain ⟨ad586,A586_0,c586_0,e586,hx586_0,hl586_0,hi586_0⟩:=at_L6 (Kd.V_reads' HO_2.out).2.2 x10_1 p586 q586
       cases e586
       obtain ⟨ce586,hce586,hMe586,hcc586⟩:=Kd.V_get HO_2.out [] x10_1 p586 (by first|exact q586|exact of_decide_eq_true (zz11)|(have e_:=(Kd.V_reads' HO_2.out).1;omega));obtain ⟨ua586_0,uc586_0,rfl,ul586_0,ge586_0⟩:=Kd.FK_slice_open hMe586;have hv586_0:=hcc586 0 _ rfl;rw [Nat.add_zero,show ((Kd.slice 56 k56)).sz = 1 from rfl,Nat.mul_one] at hv586_0;replace hv586_0:=Option.some.inj (hv586_0.symm.trans hx586_0)
       injection hv586_0 with hva_ hvn_ hvc_
       rw [hva_] at ge586_0;rw [hvc_] at ul586_0;have HL586_0:=Aside0.mk (show Kd.V k56 56 _ w.heap.size _ _ (rd_L6 l2 x10_1) from Kd.V_mk ul586_0 ge586_0);clear hva_ hvn_ hvc_ ge586_0 ul586_0;clear hcc586 hce586;have HR586_0:=Aside0.mk hi586_0;have HC586_0:=Aside0.mk hl586_0;clear hi586_0 hl586_0;replace p586:=eq_true p586;replace q586:=eq_true q586
       go_wp2
       go_ret
       exact ⟨zz6,zz86⟩
      ·have c20b0:=decide_eq_false c20;have c20b1:decide (24 < (rd_L6 l2 x10_1).length) = false:=decide_eq_false (zz4);clear c20;have H':=Aside0.mk H;clear H;have p586:0≤(x10_1:Int):=of_decide_eq_true (zz11);have q586:x10_1 < (l2.length:Int):=of_decide_eq_true (zz11);obtain ⟨ad586,A586_0,c586_0,e586,hx586_0,hl586_0,hi586_0⟩:=at_L6 (Kd.V_reads' HO_2.out).2.2 x10_1 p586 q586
       cases e586
       obtain ⟨ce586,hce586,hMe586,hcc586⟩:=Kd.V_get HO_2.out [] x10_1 p586 (by first|exact q586|exact of_decide_eq_true (zz11)|(have e_:=(Kd.V_reads' HO_2.out).1;omega));obtain ⟨ua586_0,uc586_0,rfl,ul586_0,ge586_0⟩:=Kd.FK_slice_open hMe586;have hv586_0:=hcc586 0 _ rfl;rw [Nat.add_zero,show ((Kd.slice 56 k56)).sz = 1 from rfl,Nat.mul_one] at hv586_0;replace hv586_0:=Option.some.inj (hv586_0.symm.trans hx586_0)
       injection hv586_0 with hva_ hvn_ hvc_
       rw [hva_] at ge586_0;rw [hvc_] at ul586_0;have HL586_0:=Aside0.mk (show Kd.V k56 56 _ w.heap.size _ _ (rd_L6 l2 x10_1) from Kd.V_mk ul586_0 ge586_0);clear hva_ hvn_ hvc_ ge586_0 ul586_0;clear hcc586 hce586;have HR586_0:=Aside0.mk hi586_0;have HC586_0:=Aside0.mk hl586_0;clear hi586_0 hl586_0;replace p586:=eq_true p586;replace q586:=eq_true q586
       go_wp2
       go_roundg k1
       case measure=>have:=HK1.out;omega
       case rel=>exact ⟨(wrap64 (x10_1+1)),(zz2),H',⟨zz12⟩,⟨zz74⟩,⟨zz84⟩,⟨zz85⟩,⟨zz86⟩⟩
     ·have c18b0:=decide_eq_false c18;clear c18;have HC21:=Aside0.mk H;clear H
      go_upto_region 11 with (fail)
      go_cut [47] (fun v47 wc=>∃ (kq:Nat) (x47_20:Bool),v47 = .bool x47_20∧Aside0 (U32.j1 kq l2 l3 x47_20 l0_0 l0_1 l1_0 l1_1 l1_2 = some r)∧Aside0 (kq≤k1)∧Aside0 (Kd.V (Kd.slice 56 k56) 25 wc w.heap.size (fun k_=>(P2_ k_∨w.heap.size≤k_)∧k_ ≠ gb583∧k_ ≠ gb584) (.slice A2 l2.length c2) l2)∧Aside0 (wc.heap[gb583]? = some (.cells #[(.slice A0_0 l0_0.length c0_0),(.slice A0_1 l0_1.length c0_1)] 24 (0,0)))∧Aside0 (wc.heap[gb584]? = some (.cells #[(.slice A1_0 l1_0.length c1_0),(.slice A1_1 l1_1.length c1_1),(.slice A1_2 l1_2.length c1_2)] 36 (0,0)))∧Aside0 (Below w.heap.size w wc))
      case first =>
       have H:=HC21.out;clear HC21;replace H:=zzj H;rcases H with ⟨c22,H⟩|⟨c22,H⟩
       ·have c22b0:=beq_iff_eq.mpr c22;have c22b1:=bne_eq_false_iff_eq.mpr c22;have c22b2:(l2.length == l1_1.length) = true:=(have h0_:=c22;zz8);clear c22
        (first|rw [c22b0]|rw [c22b1]|(simp only [i64_w,i32_w];rw [c22b0])|skip)
        have H':=Aside0.mk H;clear H;have hnb23:=NB584_583.out;have hnc23:=NB583_584.out;obtain ⟨hcz24_0,hcz24_1,hcz24_2,hfz24_0,hfz24_1,hfz24_2⟩:=zc3 BK584.out
        go_wp2
        go_meet
        case rel=>exact ⟨_,(((l3.length:Int) != (l1_1.length:Int))),(zz2),H',⟨(have h0_:=HK1;zz36)⟩,⟨zz74⟩,⟨zz84⟩,⟨zz85⟩,⟨zz86⟩⟩
       ·have c22b0:=beq_eq_false_iff_ne.mpr c22;have c22b1:=bne_iff_ne.mpr c22;have c22b2:(l2.length == l1_1.length) = false:=(have h0_:=c22;zz8)
        (first|rw [c22b0]|rw [c22b1]|(simp only [i64_w,i32_w];rw [c22b0])|skip)
        have H':=Aside0.mk H;clear H;have hnb25:=NB584_583.out;have hnc25:=NB583_584.out;obtain ⟨hcz26_0,hcz26_1,hcz26_2,hfz26_0,hfz26_1,hfz26_2⟩:=zc3 BK584.out
        go_wp2
        go_meet
        case rel=>exact ⟨_,(true),(zz2),H',⟨(have h0_:=HK1;zz36)⟩,⟨zz74⟩,⟨zz84⟩,⟨zz85⟩,⟨zz86⟩⟩
      case rest =>
       clear HC21;clear c18b0;(try clear hcz11_0);(try clear hcz11_1);(try clear hcz16_0);(try clear hcz16_1);(try clear hfz11_0);(try clear hfz11_1);(try clear hfz16_0);(try clear hfz16_1);obtain ⟨kq,x47_20,rfl,HA,HJ20,HO_2,BK583,BK584,HB⟩:=hcut
       cases kq with
       | zero=>exact absurd HA.out (by simp [U32.j1])
       | succ kj20 =>
        have H:=HA.out;clear HA;simp only [U32.j1] at H;by_cases c27:x47_20 = true
        ·subst c27;have H1:(some 1) = some r:=zz10;clear H;have H:=H1;clear H1;obtain rfl:=Option.some.inj H
         go_wp2
         go_ret
         exact ⟨zz6,zz86⟩
        ·replace c27:=Bool.eq_false_iff.mpr c27;subst c27;have H1:(U32.l1 kj20 l2 l3 ([]:List (S56)) 0 l0_0 l0_1 l1_0 l1_1 l1_2) = some r:=zz13;clear H;have H:=H1;clear H1;have H':=Aside0.mk H;clear H
         go_wp2
         go_loopg [11,12] kj20 (fun kq v11 v12 w'=>∃ (x11_3:List (S56)) (x12_3:Int),v12 = .int .i64 x12_3∧Aside0 (U32.l1 kq l2 l3 x11_3 x12_3 l0_0 l0_1 l1_0 l1_1 l1_2 = some r)∧Aside0 (kq≤kj20)∧Aside0 (Kd.V (Kd.slice 56 k56) 25 w' w.heap.size (fun k_=>(P2_ k_∨w.heap.size≤k_)∧some k_ ≠ (v11:Value).ownBlock∧k_ ≠ gb583∧k_ ≠ gb584) (.slice A2 l2.length c2) l2)∧Aside0 (Kd.N k56 56 w' w.heap.size (fun k_=>(P2_ k_∨w.heap.size≤k_)∧k_ ≠ gb583∧k_ ≠ gb584) v11 x11_3)∧Aside0 (w'.heap[gb583]? = some (.cells #[(.slice A0_0 l0_0.length c0_0),(.slice A0_1 l0_1.length c0_1)] 24 (0,0)))∧Aside0 (w'.heap[gb584]? = some (.cells #[(.slice A1_0 l1_0.length c1_0),(.slice A1_1 l1_1.length c1_1),(.slice A1_2 l1_2.length c1_2)] 36 (0,0)))∧Aside0 (Below w.heap.size w w'))
         case atStart=>exact ⟨(([]:List (S56))),(0),(zz2),H',⟨Nat.le_refl _⟩,⟨by (with_reducible repeat (first|apply Kd.V_alloc|apply Kd.V_drewN|apply Kd.V_drew));exact Kd.V_mono HO_2.out (fun _ hk=>⟨hk.1,⟨(by simp [Value.ownBlock]),⟨hk.2.1,hk.2.2⟩⟩⟩)⟩,⟨zz55⟩,⟨zz84⟩,⟨zz85⟩,⟨zz86⟩⟩
         case round =>
          clear H'
          (try clear hx5);(try clear c27);(try clear hcz11_0);(try clear hcz11_1);(try clear hcz16_0);(try clear hcz16_1);(try clear hcz24_0);(try clear hcz24_1);(try clear hcz24_2);(try clear hcz26_0);(try clear hcz26_1);(try clear hcz26_2);(try clear hfz11_0);(try clear hfz11_1);(try clear hfz16_0);(try clear hfz16_1);(try clear hfz24_0);(try clear hfz24_1);(try clear hfz24_2);(try clear hfz26_0);(try clear hfz26_1);(try clear hfz26_2);(try clear hx586_0)
          obtain ⟨x11_3,x12_3,rfl,HA,HK3,HO_2,HO_11,BK583,BK584,HB⟩:=hrel
          cases gk with
          | zero=>exact absurd HA.out (by simp [U32.l1])
          | succ k3 =>
           have H:=HA.out;clear HA;simp only [U32.l1] at H;replace H:=zzj H;rcases H with ⟨c28,H⟩|⟨c28,H⟩
           ·have c28b0:=decide_eq_true c28;clear c28;replace H:=zzi H;obtain ⟨c29,H⟩:=H;have c29b0:=decide_eq_true c29;clear c29;replace H:=zzb H;obtain ⟨t588,A30,H⟩:=H;replace H:=zzj H;rcases H with ⟨c31,H⟩|⟨c31,H⟩
            ·have c31b0:=beq_iff_eq.mpr c31;have c31b1:=bne_eq_false_iff_eq.mpr c31;clear c31;replace H:=zzi H;obtain ⟨c32,H⟩:=H;have c32b0:=decide_eq_true c32;have c32b1:decide (0 < (rd_L6 l2 x12_3).length) = true:=decide_eq_true (zz4);clear c32;replace H:=zzi H;obtain ⟨c33,H⟩:=H;have LMc33:=Aside0.mk c33;clear c33;obtain ⟨y591,hy591⟩:∃ y_:List (S56),y_ = (x11_3++[(⟨(rd_T56 (rd_L6 l2 x12_3) 0).f0⟩:S56)]):=⟨_,rfl⟩;replace H:(U32.l1 k3 l2 l3 y591 (wrap64 (x12_3+1)) l0_0 l0_1 l1_0 l1_1 l1_2) = some r:=(have h0_:=hy591;zz24);have Ny591:=Aside0.mk hy591;clear hy591;have H':=Aside0.mk H;clear H
             try go_wp2
             replace HO_2:=Aside0.mk (Kd.V_drew HO_2.out);replace HO_11:=Aside0.mk (Kd.N_drew HO_11.out);replace BK583:=Aside0.mk (blk_drew BK583.out);replace BK584:=Aside0.mk (blk_drew BK584.out);replace HB:=Aside0.mk (below_drew1 HB.out);have p587:0≤(x12_3:Int):=of_decide_eq_true (zz11);have q587:x12_3 < (l2.length:Int):=of_decide_eq_true (zz11);obtain ⟨ad587,A587_0,c587_0,e587,hx587_0,hl587_0,hi587_0⟩:=at_L6 (Kd.V_reads' HO_2.out).2.2 x12_3 p587 q587
             cases e587
             obtain ⟨ce587,hce587,hMe587,hcc587⟩:=Kd.V_get HO_2.out [] x12_3 p587 (by first|exact q587|exact of_decide_eq_true (zz11)|(have e_:=(Kd.V_reads' HO_2.out).1;omega));obtain ⟨ua587_0,uc587_0,rfl,ul587_0,ge587_0⟩:=Kd.FK_slice_open hMe587;have hv587_0:=hcc587 0 _ rfl;rw [Nat.add_zero,show ((Kd.slice 56 k56)).sz = 1 from rfl,Nat.mul_one] at hv587_0;replace hv587_0:=Option.some.inj (hv587_0.symm.trans hx587_0)
             injection hv587_0 with hva_ hvn_ hvc_
             rw [hva_] at ge587_0;rw [hvc_] at ul587_0;have HL587_0:=Aside0.mk (show Kd.V k56 56 _ w.heap.size _ _ (rd_L6 l2 x12_3) from Kd.V_mk ul587_0 ge587_0);clear hva_ hvn_ hvc_ ge587_0 ul587_0;clear hcc587 hce587;have HR587_0:=Aside0.mk hi587_0;have HC587_0:=Aside0.mk hl587_0;clear hi587_0 hl587_0;replace p587:=eq_true p587;replace q587:=eq_true q587;refine start_ (n:=9) (S:=fun w'=>w'.cell? ⟨gb583,0,none⟩ = some (.slice A0_0 l0_0.length c0_0)∧w'.cell? ⟨gb583,1,none⟩ = some (.slice A0_1 l0_1.length c0_1)∧w'.cell? (ad587.add (x12_3).toNat) = some (.slice A587_0 (rd_L6 l2 x12_3).length c587_0)) (ds:=[]) #[false,false,false,false,false,false,false,false,false] (zz0) rfl rfl ⟨(blk_cell BK583.out 0).trans rfl,(blk_cell BK583.out 1).trans rfl,hx587_0⟩ (fun hHeld=>?_);refine with_tabW U32.tab17 U32.bits17 (fun HT_ HW_=>?_)
             generalize wr.drew = w34 at HO_2 HO_11 BK583 BK584 HB HL587_0 HR587_0 hx587_0 hHeld ⊢
             refine zzp 0 54 ?_ #[true,false,false,false,false,false,false,false,false] rfl rfl (any_of HT_.out (zz0)) (fun _ _ _ h=>h) (Or.inl ⟨zz20,?_⟩) ?_ ?_ ?_;rotate_left
             ·intro w'
              go_simp
              with_reducible rfl
             rotate_left
             ·simp only [zzs]
              rfl
             refine zzp 1 55 ?_ #[true,true,false,false,false,false,false,false,false] rfl rfl (any_of HT_.out (zz0)) (fun _ _ _ h=>h) (Or.inl ⟨zz20,?_⟩) ?_ ?_ ?_;rotate_left
             ·intro w'
              go_simp
              with_reducible rfl
             rotate_left
             ·simp only [zzs]
              rfl
             refine zzp 2 56 ?_ #[true,true,true,false,false,false,false,false,false] rfl rfl (any_of HT_.out (zz0)) (fun _ _ _ h=>h) (Or.inl ⟨zz20,?_⟩) ?_ ?_ ?_;rotate_left
             ·intro w'
              go_simp
              with_reducible rfl
             rotate_left
             ·simp only [zzs]
              rfl
             refine zzp 4 58 ?_ #[true,true,true,false,true,false,false,false,false] rfl rfl (any_of HT_.out (zz0)) (fun _ _ _ h=>h) (Or.inl ⟨zz20,?_⟩) ?_ ?_ ?_;rotate_left
             ·intro w'
              go_simp
              with_reducible rfl
             rotate_left
             ·simp only [zzs]
              rfl
             refine take_ (i:=3) (N:=some 57) (v:=?_) (a':=?_) #[true,true,true,true,true,false,false,false,false] rfl rfl (take_ofW HT_.out HW_.out (zz0)) (fun _ _ _ h=>h) (Or.inl ⟨zz20,?_⟩) hHeld ?_ ?_;rotate_left
             ·rintro w' ⟨s0,s1,s2⟩
              go_simp
              with_reducible rfl
             rotate_left
             ·simp only [zzs]
              rfl
             refine take_ (i:=5) (N:=some 59) (v:=?_) (a':=?_) #[true,true,true,true,true,true,false,false,false] rfl rfl (take_ofW HT_.out HW_.out (zz0)) (fun _ _ _ h=>h) (Or.inl ⟨zz20,?_⟩) hHeld ?_ ?_;rotate_left
             ·rintro w' ⟨s0,s1,s2⟩
              go_simp
              with_reducible rfl
             rotate_left
             ·simp only [zzs]
              rfl
             refine zzp 6 60 ?_ #[true,true,true,true,true,true,true,false,false] rfl rfl (any_of HT_.out (zz0)) (fun _ _ _ h=>h) (Or.inl ⟨zz20,?_⟩) ?_ ?_ ?_;rotate_left
             ·intro w'
              go_simp
              with_reducible rfl
             rotate_left
             ·simp only [zzs]
              rfl
             refine one_ (i:=7) (N:=some 61) #[true,true,true,true,true,true,true,true,false] rfl rfl (one_of HT_.out (zz0)) (zz28) (fun K hK=>?_);refine goes_ Try.func66 (zz0) rfl #[.slice A587_0 (rd_L6 l2 x12_3).length c587_0,.int .i64 (l0_0.length:Int)] (zz20) rfl rfl (zz19) ?_
             with_reducible refine (U33.calls k3 _ _ (rd_L6 l2 x12_3) (l0_0.length:Int) t588 _ ?side1 ?side2 A30.out).mono ?_
             (case side1=>exact (have h0_:=HR587_0;zz120))
             (case side2=>exact HC587_0.out)
             rintro e w35 ⟨rfl,hb⟩;have HS2_:=(hb.cell (World.block_lt_of_cell? _ _ (hHeld.2.2))).trans (hHeld.2.2);refine ⟨_,rfl,?_⟩;replace HO_2:=Aside0.mk (Kd.V_below (zz74) hb);replace HO_11:=Aside0.mk (Kd.N_below (zz61) hb);replace HL587_0:=Aside0.mk (Kd.V_below (have h0_:=HL587_0;zz23) hb);replace BK583:=Aside0.mk (blk_below (zz84) hb);replace BK584:=Aside0.mk (blk_below (zz85) hb);replace HR587_0:=Aside0.mk (Kd.C_below (have h0_:=HR587_0;zz38) hb);replace HB:=Aside0.mk (below_step (zz86) hb)
             (try clear hb)
             (try clear hk)
             refine hK.out _ _ ⟨(blk_cell BK583.out 0).trans rfl,(blk_cell BK583.out 1).trans rfl,HS2_⟩ (fun hHeld=>?_);clear hK K;refine norm_ (a':=?_) ?_ ?_;rotate_left
             ·show Act.put _ (some 61) _ = _
              simp only [zzs]
              rfl
             refine zzp 8 9 ?_ #[true,true,true,true,true,true,true,true,true] rfl rfl (any_of HT_.out (zz0)) (fun _ _ _ h=>h) (Or.inl ⟨zz20,?_⟩) ?_ ?_ ?_;rotate_left
             ·intro w'
              go_simp
              with_reducible rfl
             rotate_left
             ·simp only [zzs]
              rfl
             refine done_ (done_of HT_.out (zz0)) ?_;have p589:0≤(x12_3:Int):=of_decide_eq_true (zz11);have q589:x12_3 < (l2.length:Int):=of_decide_eq_true (zz11);obtain ⟨ad589,A589_0,c589_0,e589,hx589_0,hl589_0,hi589_0⟩:=at_L6 (Kd.V_reads' HO_2.out).2.2 x12_3 p589 q589;obtain rfl:ad587 = ad589:=(by injection e589);obtain ⟨ce589,hce589,hMe589,hcc589⟩:=Kd.V_get HO_2.out [] x12_3 p589 (by first|exact q589|exact of_decide_eq_true (zz11)|(have e_:=(Kd.V_reads' HO_2.out).1;omega));obtain ⟨ua589_0,uc589_0,rfl,ul589_0,ge589_0⟩:=Kd.FK_slice_open hMe589;have hv589_0:=hcc589 0 _ rfl;rw [Nat.add_zero,show ((Kd.slice 56 k56)).sz = 1 from rfl,Nat.mul_one] at hv589_0;replace hv589_0:=Option.some.inj (hv589_0.symm.trans hx589_0)
             injection hv589_0 with hva_ hvn_ hvc_
             rw [hva_] at ge589_0;rw [hvc_] at ul589_0;have HL589_0:=Aside0.mk (show Kd.V k56 56 _ w.heap.size _ _ (rd_L6 l2 x12_3) from Kd.V_mk ul589_0 ge589_0);clear hva_ hvn_ hvc_ ge589_0 ul589_0;clear hcc589 hce589;have HR589_0:=Aside0.mk hi589_0;have HC589_0:=Aside0.mk hl589_0;clear hi589_0 hl589_0;replace p589:=eq_true p589;replace q589:=eq_true q589
             (try (have ea_:=Option.some.inj (hx589_0.symm.trans (by first|exact HS0_|exact HS1_|exact HS2_|exact HS3_|exact HS4_|exact HS5_));injection ea_ with ea_ en_ ec_;subst ea_;subst ec_;clear en_))
             have p590:0≤(0:Int):=(zz4);have q590:0 < ((rd_L6 l2 x12_3).length:Int):=of_decide_eq_true (zz11);obtain ⟨ad590,A590_0,c590_0,e590,hx590_0,hl590_0,hi590_0⟩:=at_T56 (have h0_:=HR589_0;zz38) 0 p590 q590
             cases e590
             obtain ⟨ce590,hce590,hMe590,hcc590⟩:=Kd.V_get HL589_0.out z56 0 p590 (by first|exact q590|exact of_decide_eq_true (zz11)|(have e_:=(Kd.V_reads' HL589_0.out).1;omega));obtain ⟨ua590_0,uc590_0,rfl,ul590_0,ge590_0⟩:=k56_openF hMe590;have hv590_0:=hcc590 0 _ rfl;rw [Nat.add_zero,show (k56).sz = 1 from rfl,Nat.mul_one] at hv590_0;replace hv590_0:=Option.some.inj (hv590_0.symm.trans hx590_0)
             injection hv590_0 with hva_ hvn_ hvc_
             rw [hva_] at ge590_0;rw [hvc_] at ul590_0;have HL590_0:=Aside0.mk (show Kd.V (Kd.slice 3 (Kd.int .i64)) 22 _ w.heap.size _ _ ((rd_T56 (rd_L6 l2 x12_3) 0).f0) from Kd.V_mk ul590_0 ge590_0);clear hva_ hvn_ hvc_ ge590_0 ul590_0;clear hcc590 hce590;have qi590:(0 < (rd_L6 l2 x12_3).length) = True:=eq_true (zz4)
             (try rw [show ((0:Int)).toNat = 0 from rfl] at hx590_0)
             (try rw [Addr.add_zero'] at hx590_0)
             have HR590_0:=Aside0.mk hi590_0;have HC590_0:=Aside0.mk hl590_0;clear hi590_0 hl590_0;replace p590:=eq_true p590;replace q590:=eq_true q590
             try go_wp2_with (first|((with_reducible refine gate_builtin (b:=.append) (xs:=#[.tmp 65,.tmp 72]) rfl ?_);(try (refine gate_guard (zz20) ?_;dsimp only));at_builtin;refine Kd.N_append k56 (w0:=w) w.heap.size rfl (.tmp 65) (.tmp 72) 25 56 (.agg #[(.slice none 0 0)]) 24 rfl Try.underlying25 info56 rfl (zz28) (zz4) u11 x11_3 (⟨(rd_T56 (rd_L6 l2 x12_3) 0).f0⟩:S56) [.slice A590_0 ((rd_T56 (rd_L6 l2 x12_3) 0).f0).length c590_0] (fun k_=>(P2_ k_∨w.heap.size≤k_)∧k_ ≠ gb583∧k_ ≠ gb584) (fun k_=>((fun k_=>(P2_ k_∨w.heap.size≤k_)∧k_ ≠ gb583∧k_ ≠ gb584)) k_∧some k_ ≠ (u11:Value).ownBlock) rfl rfl ?aP (fun _ hk=>hk) ?aF ?aO ?aB ?aS ?aL ?_;(case aP=>exact (k56_mkF _ _ (⟨(rd_T56 (rd_L6 l2 x12_3) 0).f0⟩:S56) (Kd.V_reads' (Kd.V_mono (ok':=(fun k_=>((fun k_=>(P2_ k_∨w.heap.size≤k_)∧k_ ≠ gb583∧k_ ≠ gb584)) k_∧some k_ ≠ (u11:Value).ownBlock)) (HL590_0.out) (fun k_ hk=>⟨⟨hk.1,⟨hk.2.2.1,hk.2.2.2⟩⟩,hk.2.1⟩))).2.1 (Kd.V_F (Kd.V_mono (ok':=(fun k_=>((fun k_=>(P2_ k_∨w.heap.size≤k_)∧k_ ≠ gb583∧k_ ≠ gb584)) k_∧some k_ ≠ (u11:Value).ownBlock)) (HL590_0.out) (fun k_ hk=>⟨⟨hk.1,⟨hk.2.2.1,hk.2.2.2⟩⟩,hk.2.1⟩)))));(case aB=>exact (zz86));(case aF=>exact (fun k_ hk=>⟨(.inr (Nat.le_trans (below_size (zz86)) hk)),Kd.freshB (g:=gb583) (o:=.cells #[.slice A0_0 l0_0.length c0_0,.slice A0_1 l0_1.length c0_1] 24 (0,0)) (zz84) k_ hk,Kd.freshB (g:=gb584) (o:=.cells #[.slice A1_0 l1_0.length c1_0,.slice A1_1 l1_1.length c1_1,.slice A1_2 l1_2.length c1_2] 36 (0,0)) (zz85) k_ hk⟩));(case aO=>exact (zz61));(case aS=>exact (below_size (zz86)));(case aL=>have:=LMc33.out;omega);intro v592 w36 ho hb hg hat;rw [← Ny591.out] at ho;replace HO_2:=Aside0.mk (Kd.V_afterv (ok:=(fun k_=>(P2_ k_∨w.heap.size≤k_)∧k_ ≠ gb583∧k_ ≠ gb584)) (have h0_:=HO_2;zz62) hg hat);replace BK583:=Aside0.mk (blk_grown (g:=gb583) (o:=.cells #[.slice A0_0 l0_0.length c0_0,.slice A0_1 l0_1.length c0_1] 24 (0,0)) (zz84) hg (Kd.N_ne HO_11.out BK583.out (zz28)));replace BK584:=Aside0.mk (blk_grown (g:=gb584) (o:=.cells #[.slice A1_0 l1_0.length c1_0,.slice A1_1 l1_1.length c1_1,.slice A1_2 l1_2.length c1_2] 36 (0,0)) (zz85) hg (Kd.N_ne HO_11.out BK584.out (zz28)));replace HL587_0:=Aside0.mk (Kd.V_afterv (ok:=(fun k_=>(P2_ k_∨w.heap.size≤k_)∧k_ ≠ gb583∧k_ ≠ gb584)) (have h0_:=HL587_0;zz62) hg hat);replace HL589_0:=Aside0.mk (Kd.V_afterv (ok:=(fun k_=>(P2_ k_∨w.heap.size≤k_)∧k_ ≠ gb583∧k_ ≠ gb584)) (have h0_:=HL589_0;zz62) hg hat);replace HL590_0:=Aside0.mk (Kd.V_afterv (ok:=(fun k_=>(P2_ k_∨w.heap.size≤k_)∧k_ ≠ gb583∧k_ ≠ gb584)) (have h0_:=HL590_0;zz62) hg hat);replace HB:=Aside0.mk (hb);have HO593:=Aside0.mk (ho);clear HO_11;clear ho hb hg hat))
             go_roundg k3
             case measure=>have:=HK1.out;have:=HJ20.out;have:=HK3.out;omega
             case rel=>exact ⟨(y591),(wrap64 (x12_3+1)),(zz2),H',⟨by have:=HK1.out;have:=HJ20.out;have:=HK3.out;omega⟩,⟨by (with_reducible repeat (first|apply Kd.V_alloc|apply Kd.V_drewN|apply Kd.V_drew));exact Kd.V_mono HO_2.out (fun _ hk=>⟨hk.1.1,⟨hk.2,⟨hk.1.2.1,hk.1.2.2⟩⟩⟩)⟩,⟨(have h0_:=HO593;zz27)⟩,⟨zz84⟩,⟨zz85⟩,⟨zz86⟩⟩
            ·have c31b0:=beq_eq_false_iff_ne.mpr c31;have c31b1:=bne_iff_ne.mpr c31;obtain rfl:=Option.some.inj H
             try go_wp2
             replace HO_2:=Aside0.mk (Kd.V_drew HO_2.out);replace HO_11:=Aside0.mk (Kd.N_drew HO_11.out);replace BK583:=Aside0.mk (blk_drew BK583.out);replace BK584:=Aside0.mk (blk_drew BK584.out);replace HB:=Aside0.mk (below_drew1 HB.out);have p587:0≤(x12_3:Int):=of_decide_eq_true (zz11);have q587:x12_3 < (l2.length:Int):=of_decide_eq_true (zz11);obtain ⟨ad587,A587_0,c587_0,e587,hx587_0,hl587_0,hi587_0⟩:=at_L6 (Kd.V_reads' HO_2.out).2.2 x12_3 p587 q587
             cases e587
             obtain ⟨ce587,hce587,hMe587,hcc587⟩:=Kd.V_get HO_2.out [] x12_3 p587 (by first|exact q587|exact of_decide_eq_true (zz11)|(have e_:=(Kd.V_reads' HO_2.out).1;omega));obtain ⟨ua587_0,uc587_0,rfl,ul587_0,ge587_0⟩:=Kd.FK_slice_open hMe587;have hv587_0:=hcc587 0 _ rfl;rw [Nat.add_zero,show ((Kd.slice 56 k56)).sz = 1 from rfl,Nat.mul_one] at hv587_0;replace hv587_0:=Option.some.inj (hv587_0.symm.trans hx587_0)
             injection hv587_0 with hva_ hvn_ hvc_
             rw [hva_] at ge587_0;rw [hvc_] at ul587_0;have HL587_0:=Aside0.mk (show Kd.V k56 56 _ w.heap.size _ _ (rd_L6 l2 x12_3) from Kd.V_mk ul587_0 ge587_0);clear hva_ hvn_ hvc_ ge587_0 ul587_0;clear hcc587 hce587;have HR587_0:=Aside0.mk hi587_0;have HC587_0:=Aside0.mk hl587_0;clear hi587_0 hl587_0;replace p587:=eq_true p587;replace q587:=eq_true q587;refine start_ (n:=9) (S:=fun w'=>w'.cell? ⟨gb583,0,none⟩ = some (.slice A0_0 l0_0.length c0_0)∧w'.cell? ⟨gb583,1,none⟩ = some (.slice A0_1 l0_1.length c0_1)∧w'.cell? (ad587.add (x12_3).toNat) = some (.slice A587_0 (rd_L6 l2 x12_3).length c587_0)) (ds:=[]) #[false,false,false,false,false,false,false,false,false] (zz0) rfl rfl ⟨(blk_cell BK583.out 0).trans rfl,(blk_cell BK583.out 1).trans rfl,hx587_0⟩ (fun hHeld=>?_);refine with_tabW U32.tab17 U32.bits17 (fun HT_ HW_=>?_)
             generalize wr.drew = w37 at HO_2 HO_11 BK583 BK584 HB HL587_0 HR587_0 hx587_0 hHeld ⊢
             refine zzp 0 54 ?_ #[true,false,false,false,false,false,false,false,false] rfl rfl (any_of HT_.out (zz0)) (fun _ _ _ h=>h) (Or.inl ⟨zz20,?_⟩) ?_ ?_ ?_;rotate_left
             ·intro w'
              go_simp
              with_reducible rfl
             rotate_left
             ·simp only [zzs]
              rfl
             refine zzp 1 55 ?_ #[true,true,false,false,false,false,false,false,false] rfl rfl (any_of HT_.out (zz0)) (fun _ _ _ h=>h) (Or.inl ⟨zz20,?_⟩) ?_ ?_ ?_;rotate_left
             ·intro w'
              go_simp
              with_reducible rfl
             rotate_left
             ·simp only [zzs]
              rfl
             refine zzp 2 56 ?_ #[true,true,true,false,false,false,false,false,false] rfl rfl (any_of HT_.out (zz0)) (fun _ _ _ h=>h) (Or.inl ⟨zz20,?_⟩) ?_ ?_ ?_;rotate_left
             ·intro w'
              go_simp
              with_reducible rfl
             rotate_left
             ·simp only [zzs]
              rfl
             refine zzp 4 58 ?_ #[true,true,true,false,true,false,false,false,false] rfl rfl (any_of HT_.out (zz0)) (fun _ _ _ h=>h) (Or.inl ⟨zz20,?_⟩) ?_ ?_ ?_;rotate_left
             ·intro w'
              go_simp
              with_reducible rfl
             rotate_left
             ·simp only [zzs]
              rfl
             refine take_ (i:=3) (N:=some 57) (v:=?_) (a':=?_) #[true,true,true,true,true,false,false,false,false] rfl rfl (take_ofW HT_.out HW_.out (zz0)) (fun _ _ _ h=>h) (Or.inl ⟨zz20,?_⟩) hHeld ?_ ?_;rotate_left
             ·rintro w' ⟨s0,s1,s2⟩
              go_simp
              with_reducible rfl
             rotate_left
             ·simp only [zzs]
              rfl
             refine take_ (i:=5) (N:=some 59) (v:=?_) (a':=?_) #[true,true,true,true,true,true,false,false,false] rfl rfl (take_ofW HT_.out HW_.out (zz0)) (fun _ _ _ h=>h) (Or.inl ⟨zz20,?_⟩) hHeld ?_ ?_;rotate_left
             ·rintro w' ⟨s0,s1,s2⟩
              go_simp
              with_reducible rfl
             rotate_left
             ·simp only [zzs]
              rfl
             refine zzp 6 60 ?_ #[true,true,true,true,true,true,true,false,false] rfl rfl (any_of HT_.out (zz0)) (fun _ _ _ h=>h) (Or.inl ⟨zz20,?_⟩) ?_ ?_ ?_;rotate_left
             ·intro w'
              go_simp
              with_reducible rfl
             rotate_left
             ·simp only [zzs]
              rfl
             refine one_ (i:=7) (N:=some 61) #[true,true,true,true,true,true,true,true,false] rfl rfl (one_of HT_.out (zz0)) (zz28) (fun K hK=>?_);refine goes_ Try.func66 (zz0) rfl #[.slice A587_0 (rd_L6 l2 x12_3).length c587_0,.int .i64 (l0_0.length:Int)] (zz20) rfl rfl (zz19) ?_
             with_reducible refine (U33.calls k3 _ _ (rd_L6 l2 x12_3) (l0_0.length:Int) t588 _ ?side1 ?side2 A30.out).mono ?_
             (case side1=>exact (have h0_:=HR587_0;zz120))
             (case side2=>exact HC587_0.out)
             rintro e w38 ⟨rfl,hb⟩;have HS2_:=(hb.cell (World.block_lt_of_cell? _ _ (hHeld.2.2))).trans (hHeld.2.2);refine ⟨_,rfl,?_⟩;replace HO_2:=Aside0.mk (Kd.V_below (zz74) hb);replace HO_11:=Aside0.mk (Kd.N_below (zz61) hb);replace HL587_0:=Aside0.mk (Kd.V_below (have h0_:=HL587_0;zz23) hb);replace BK583:=Aside0.mk (blk_below (zz84) hb);replace BK584:=Aside0.mk (blk_below (zz85) hb);replace HR587_0:=Aside0.mk (Kd.C_below (have h0_:=HR587_0;zz38) hb);replace HB:=Aside0.mk (below_step (zz86) hb)
             (try clear hb)
             (try clear hk)
             refine hK.out _ _ ⟨(blk_cell BK583.out 0).trans rfl,(blk_cell BK583.out 1).trans rfl,HS2_⟩ (fun hHeld=>?_);clear hK K;refine norm_ (a':=?_) ?_ ?_;rotate_left
             ·show Act.put _ (some 61) _ = _
              simp only [zzs]
              rfl
             refine zzp 8 9 ?_ #[true,true,true,true,true,true,true,true,true] rfl rfl (any_of HT_.out (zz0)) (fun _ _ _ h=>h) (Or.inl ⟨zz20,?_⟩) ?_ ?_ ?_;rotate_left
             ·intro w'
              go_simp
              with_reducible rfl
             rotate_left
             ·simp only [zzs]
              rfl
             refine done_ (done_of HT_.out (zz0)) ?_
             try go_wp2
             go_ret
             exact ⟨zz6,zz86⟩
           ·have c28b0:=decide_eq_false c28;clear c28;replace H:=zzb H;obtain ⟨t594,A39,H⟩:=H;replace H:=zzb H;obtain ⟨t597,A40,H⟩:=H;replace H:=zzj H;rcases H with ⟨c41,H⟩|⟨c41,H⟩
            ·have c41b0:=beq_iff_eq.mpr c41;have c41b1:=bne_eq_false_iff_eq.mpr c41;clear c41;have H':=Aside0.mk H;clear H
             try go_wp2
             replace HO_2:=Aside0.mk (Kd.V_drew HO_2.out);replace HO_11:=Aside0.mk (Kd.N_drew HO_11.out);replace BK583:=Aside0.mk (blk_drew BK583.out);replace BK584:=Aside0.mk (blk_drew BK584.out);replace HB:=Aside0.mk (below_drew1 HB.out);obtain ⟨Ao43,co43,eo43⟩:=Kd.N_slice HO_11.out
             (first|subst eo43|(injection eo43 with f1_ f2_ f3_;have f4_:=f1_.symm;have f5_:=f3_.symm;clear f1_ f2_ f3_;subst f4_;subst f5_))
             refine start_ (n:=5) (S:=fun w'=>w'.cell? ⟨gb584,0,none⟩ = some (.slice A1_0 l1_0.length c1_0)∧w'.cell? ⟨gb584,1,none⟩ = some (.slice A1_1 l1_1.length c1_1)∧w'.cell? ⟨gb584,2,none⟩ = some (.slice A1_2 l1_2.length c1_2)) (ds:=[]) #[false,false,false,false,false] (zz0) rfl rfl ⟨(blk_cell BK584.out 0).trans rfl,(blk_cell BK584.out 1).trans rfl,(blk_cell BK584.out 2).trans rfl⟩ (fun hHeld=>?_)
             generalize wr.drew = w42 at HO_2 HO_11 BK583 BK584 HB hHeld ⊢
             refine pure_ (i:=1) (N:=some 75) (v:=?_) (a':=?_) #[false,true,false,false,false] rfl rfl (zz0) (fun _ _ _ h=>h) (Or.inl ⟨zz20,?_⟩) ?_ ?_;rotate_left
             ·intro w'
              go_simp
              with_reducible rfl
             rotate_left
             ·simp only [zzs]
              rfl
             refine take_ (i:=0) (N:=some 74) (v:=?_) (a':=?_) #[true,true,false,false,false] rfl rfl (zz0) (fun _ _ _ h=>h) (Or.inl ⟨zz20,?_⟩) hHeld ?_ ?_;rotate_left
             ·rintro w' ⟨s0,s1,s2⟩
              go_simp
              with_reducible rfl
             rotate_left
             ·simp only [zzs]
              rfl
             refine one_ (i:=2) (N:=some 76) #[true,true,true,false,false] rfl rfl (zz0) (zz28) (fun K hK=>?_);refine goes_ Try.func42 (zz0) rfl #[.slice Ao43 x11_3.length co43] (zz20) rfl rfl (zz19) ?_
             with_reducible refine (U31.calls k3 _ _ x11_3 t594 _ ?side1 ?side2 A39.out).mono ?_
             (case side1=>exact (have h0_:=HO_11;zz130))
             (case side2=>exact (have h0_:=HO_11;zz131))
             rintro e w44 ⟨v595,rfl,ho0,hb⟩;refine ⟨_,rfl,?_⟩;replace HO_2:=Aside0.mk (Kd.V_elder' (zz74) (Kd.R_base ho0) hb);replace HO_11:=Aside0.mk (Kd.N_elder' (zz61) (Kd.R_base ho0) hb);have HO596:=Aside0.mk (Kd.R_lower (Kd.R_newM (M:=fun k_=>(w.heap.size≤k_)) ho0 (below_size (zz86)) (fun k_ h_=>h_)) (below_size (zz86)));replace BK583:=Aside0.mk (blk_below (zz84) hb);replace BK584:=Aside0.mk (blk_below (zz85) hb);replace HB:=Aside0.mk (below_step (zz86) hb)
             (try clear hb)
             (try clear hk)
             (try clear ho0)
             obtain ⟨Ao45,co45,eo45⟩:=Kd.R_slice HO596.out
             (first|subst eo45|(injection eo45 with f1_ f2_ f3_;have f4_:=f1_.symm;have f5_:=f3_.symm;clear f1_ f2_ f3_;subst f4_;subst f5_))
             refine hK.out _ _ ⟨(blk_cell BK584.out 0).trans rfl,(blk_cell BK584.out 1).trans rfl,(blk_cell BK584.out 2).trans rfl⟩ (fun hHeld=>?_);clear hK K;refine norm_ (a':=?_) ?_ ?_;rotate_left
             ·show Act.put _ (some 76) _ = _
              simp only [zzs]
              rfl
             refine one_ (i:=3) (N:=some 77) #[true,true,true,true,false] rfl rfl (zz0) (zz28) (fun K hK=>?_);refine goes_ Try.func41 (zz0) rfl #[.agg #[.slice A1_0 l1_0.length c1_0,.slice A1_1 l1_1.length c1_1,.slice A1_2 l1_2.length c1_2],.slice Ao45 t594.length co45] (zz20) rfl rfl (zz19) ?_
             with_reducible refine (U25.calls k3 _ _ l1_0 _ _ l1_1 _ _ l1_2 _ _ t594 t597 _ ?side1 ?side2 ?side3 ?side4 ?side5 ?side6 ?side7 ?side8 A40.out).mono ?_
             (case side1=>exact zz118)
             (case side2=>exact zz119)
             (case side3=>exact zz124)
             (case side4=>exact zz125)
             (case side5=>exact zz126)
             (case side6=>exact zz127)
             (case side7=>exact (have h0_:=HO596;zz121))
             (case side8=>exact (have h0_:=HO596;zz122))
             rintro e w46 ⟨rfl,hb⟩;refine ⟨_,rfl,?_⟩;replace HO_2:=Aside0.mk (Kd.V_below (zz74) hb);replace HO_11:=Aside0.mk (Kd.N_below (zz61) hb);replace HO596:=Aside0.mk (Kd.R_below (have h0_:=HO596;zz25) hb);replace BK583:=Aside0.mk (blk_below (zz84) hb);replace BK584:=Aside0.mk (blk_below (zz85) hb);replace HB:=Aside0.mk (below_step (zz86) hb)
             (try clear hb)
             (try clear hb2)
             (try clear hk)
             (try clear hi)
             refine hK.out _ _ ⟨(blk_cell BK584.out 0).trans rfl,(blk_cell BK584.out 1).trans rfl,(blk_cell BK584.out 2).trans rfl⟩ (fun hHeld=>?_);clear hK K;refine norm_ (a':=?_) ?_ ?_;rotate_left
             ·show Act.put _ (some 77) _ = _
              simp only [zzs]
              rfl
             refine pure_ (i:=4) (N:=some 9) (v:=?_) (a':=?_) #[true,true,true,true,true] rfl rfl (zz0) (fun _ _ _ h=>h) (Or.inl ⟨zz20,?_⟩) ?_ ?_;rotate_left
             ·intro w'
              go_simp
              with_reducible rfl
             rotate_left
             ·simp only [zzs]
              rfl
             refine done_ (zz0) ?_
             try go_wp2
             go_loopg [13] k3 (fun kq v13 w'=>∃ (x13_4:Int),v13 = .int .i64 x13_4∧Aside0 (U32.l2 kq l2 l3 x13_4 = some r)∧Aside0 (kq≤k3)∧Aside0 (Kd.V (Kd.slice 56 k56) 25 w' w.heap.size (fun k_=>(P2_ k_∨w.heap.size≤k_)∧k_ ≠ gb583∧k_ ≠ gb584) (.slice A2 l2.length c2) l2)∧Aside0 (w'.heap[gb583]? = some (.cells #[(.slice A0_0 l0_0.length c0_0),(.slice A0_1 l0_1.length c0_1)] 24 (0,0)))∧Aside0 (w'.heap[gb584]? = some (.cells #[(.slice A1_0 l1_0.length c1_0),(.slice A1_1 l1_1.length c1_1),(.slice A1_2 l1_2.length c1_2)] 36 (0,0)))∧Aside0 (Below w.heap.size w w'))
             case atStart=>exact ⟨(0),(zz2),H',⟨Nat.le_refl _⟩,⟨by (with_reducible repeat (first|apply Kd.V_alloc|apply Kd.V_drewN|apply Kd.V_drew));exact Kd.V_mono HO_2.out (fun _ hk=>⟨hk.1.1,⟨hk.1.2.2.1,hk.1.2.2.2⟩⟩)⟩,⟨zz84⟩,⟨zz85⟩,⟨zz86⟩⟩
             case round =>
              clear H'
              (try clear hx5);clear c28b0 c41b0 c41b1;(try clear hcz11_0);(try clear hcz11_1);(try clear hcz16_0);(try clear hcz16_1);(try clear hcz24_0);(try clear hcz24_1);(try clear hcz24_2);(try clear hcz26_0);(try clear hcz26_1);(try clear hcz26_2);(try clear hfz11_0);(try clear hfz11_1);(try clear hfz16_0);(try clear hfz16_1);(try clear hfz24_0);(try clear hfz24_1);(try clear hfz24_2);(try clear hfz26_0);(try clear hfz26_1);(try clear hfz26_2);(try clear hx586_0)
              obtain ⟨x13_4,rfl,HA,HK4,HO_2,BK583,BK584,HB⟩:=hrel
              cases gk with
              | zero=>exact absurd HA.out (by simp [U32.l2])
              | succ k4 =>
               have H:=HA.out;clear HA;simp only [U32.l2] at H;replace H:=zzj H;rcases H with ⟨c47,H⟩|⟨c47,H⟩
               ·have c47b0:=decide_eq_true c47;clear c47;replace H:=zzi H;obtain ⟨c48,H⟩:=H;have c48b0:=decide_eq_true c48;clear c48;replace H:=zzj H;rcases H with ⟨c49,H⟩|⟨c49,H⟩
                ·have c49b0:=decide_eq_true c49;clear c49;obtain rfl:=Option.some.inj H
                 try go_wp2
                 replace HO_2:=Aside0.mk (Kd.V_drew HO_2.out);replace BK583:=Aside0.mk (blk_drew BK583.out);replace BK584:=Aside0.mk (blk_drew BK584.out);replace HB:=Aside0.mk (below_drew1 HB.out);have p598:0≤(x13_4:Int):=of_decide_eq_true (zz11);have q598:x13_4 < (l3.length:Int):=of_decide_eq_true (zz11);obtain ⟨ad598,e598,hx598_0⟩:=Kd.at_int HR3.out x13_4 p598 q598;have hw598_0:=hx598_0
                 cases e598
                 replace hx598_0:=(HB.out.cell (World.block_lt_of_cell? w _ hx598_0)).trans hx598_0;replace p598:=eq_true p598;replace q598:=eq_true q598;refine start_ (n:=17) (S:=fun w'=>w'.cell? (ad598.add (x13_4).toNat) = some (.int .i64 (rd l3 x13_4))) (ds:=[]) #[false,false,false,false,false,false,false,false,false,false,false,false,false,false,false,false,false] (zz0) rfl rfl (((HB.out.cell (World.block_lt_of_cell? w _ hw598_0)).trans hw598_0)) (fun hHeld=>?_);refine with_tabW U32.tab27 U32.bits27 (fun HT_ HW_=>?_)
                 generalize wr.drew = w50 at HO_2 BK583 BK584 HB hx598_0 hHeld ⊢
                 refine zzp 0 87 ?_ #[true,false,false,false,false,false,false,false,false,false,false,false,false,false,false,false,false] rfl rfl (any_of HT_.out (zz0)) (fun _ _ _ h=>h) (Or.inl ⟨zz20,?_⟩) ?_ ?_ ?_;rotate_left
                 ·intro w'
                  go_simp
                  with_reducible rfl
                 rotate_left
                 ·simp only [zzs]
                  rfl
                 refine zzp 1 88 ?_ #[true,true,false,false,false,false,false,false,false,false,false,false,false,false,false,false,false] rfl rfl (any_of HT_.out (zz0)) (fun _ _ _ h=>h) (Or.inl ⟨zz20,?_⟩) ?_ ?_ ?_;rotate_left
                 ·intro w'
                  go_simp
                  with_reducible rfl
                 rotate_left
                 ·simp only [zzs]
                  rfl
                 refine zzp 2 89 ?_ #[true,true,true,false,false,false,false,false,false,false,false,false,false,false,false,false,false] rfl rfl (any_of HT_.out (zz0)) (fun _ _ _ h=>h) (Or.inl ⟨zz20,?_⟩) ?_ ?_ ?_;rotate_left
                 ·intro w'
                  go_simp
                  with_reducible rfl
                 rotate_left
                 ·simp only [zzs]
                  rfl
                 refine take_ (i:=3) (N:=some 90) (v:=?_) (a':=?_) #[true,true,true,true,false,false,false,false,false,false,false,false,false,false,false,false,false] rfl rfl (take_ofW HT_.out HW_.out (zz0)) (fun _ _ _ h=>h) (Or.inl ⟨zz20,?_⟩) hHeld ?_ ?_;rotate_left
                 ·intro w' s0
                  go_simp
                  with_reducible rfl
                 rotate_left
                 ·simp only [zzs]
                  rfl
                 refine zzp 4 91 ?_ #[true,true,true,true,true,false,false,false,false,false,false,false,false,false,false,false,false] rfl rfl (any_of HT_.out (zz0)) (fun _ _ _ h=>h) (Or.inl ⟨zz20,?_⟩) ?_ ?_ ?_;rotate_left
                 ·intro w'
                  go_simp
                  with_reducible rfl
                 rotate_left
                 ·simp only [zzs]
                  rfl
                 refine zzp 5 92 ?_ #[true,true,true,true,true,true,false,false,false,false,false,false,false,false,false,false,false] rfl rfl (any_of HT_.out (zz0)) (fun _ _ _ h=>h) (Or.inl ⟨zz20,?_⟩) ?_ ?_ ?_;rotate_left
                 ·intro w'
                  go_simp
                  with_reducible rfl
                 rotate_left
                 ·simp only [zzs]
                  rfl
                 refine pure_ (i:=6) (N:=some 93) (v:=undef) (a':=?_) #[true,true,true,true,true,true,true,false,false,false,false,false,false,false,false,false,false] rfl rfl (any_of HT_.out (zz0)) (fun _ _ _ h=>h) (Or.inr ⟨zz20,rfl⟩) ?_ ?_;rotate_left
                 ·simp only [zzs]
                  rfl
                 refine pure_ (i:=7) (N:=some 94) (v:=undef) (a':=?_) #[true,true,true,true,true,true,true,true,false,false,false,false,false,false,false,false,false] rfl rfl (any_of HT_.out (zz0)) (fun _ _ _ h=>h) (Or.inr ⟨zz20,rfl⟩) ?_ ?_;rotate_left
                 ·simp only [zzs]
                  rfl
                 refine pure_ (i:=8) (N:=some 95) (v:=undef) (a':=?_) #[true,true,true,true,true,true,true,true,true,false,false,false,false,false,false,false,false] rfl rfl (any_of HT_.out (zz0)) (fun _ _ _ h=>h) (Or.inr ⟨zz20,rfl⟩) ?_ ?_;rotate_left
                 ·simp only [zzs]
                  rfl
                 refine pure_ (i:=9) (N:=some 96) (v:=undef) (a':=?_) #[true,true,true,true,true,true,true,true,true,true,false,false,false,false,false,false,false] rfl rfl (any_of HT_.out (zz0)) (fun _ _ _ h=>h) (Or.inr ⟨zz20,rfl⟩) ?_ ?_;rotate_left
                 ·simp only [zzs]
                  rfl
                 refine pure_ (i:=10) (N:=some 97) (v:=undef) (a':=?_) #[true,true,true,true,true,true,true,true,true,true,true,false,false,false,false,false,false] rfl rfl (any_of HT_.out (zz0)) (fun _ _ _ h=>h) (Or.inr ⟨zz20,rfl⟩) ?_ ?_;rotate_left
                 ·simp only [zzs]
                  rfl
                 refine pure_ (i:=11) (N:=some 98) (v:=undef) (a':=?_) #[true,true,true,true,true,true,true,true,true,true,true,true,false,false,false,false,false] rfl rfl (any_of HT_.out (zz0)) (fun _ _ _ h=>h) (Or.inr ⟨zz20,rfl⟩) ?_ ?_;rotate_left
                 ·simp only [zzs]
                  rfl
                 refine pure_ (i:=12) (N:=some 99) (v:=undef) (a':=?_) #[true,true,true,true,true,true,true,true,true,true,true,true,true,false,false,false,false] rfl rfl (any_of HT_.out (zz0)) (fun _ _ _ h=>h) (Or.inr ⟨zz20,rfl⟩) ?_ ?_;rotate_left
                 ·simp only [zzs]
                  rfl
                 refine pure_ (i:=13) (N:=some 100) (v:=undef) (a':=?_) #[true,true,true,true,true,true,true,true,true,true,true,true,true,true,false,false,false] rfl rfl (any_of HT_.out (zz0)) (fun _ _ _ h=>h) (Or.inr ⟨zz20,rfl⟩) ?_ ?_;rotate_left
                 ·simp only [zzs]
                  rfl
                 refine pure_ (i:=14) (N:=some 101) (v:=undef) (a':=?_) #[true,true,true,true,true,true,true,true,true,true,true,true,true,true,true,false,false] rfl rfl (any_of HT_.out (zz0)) (fun _ _ _ h=>h) (Or.inr ⟨zz20,rfl⟩) ?_ ?_;rotate_left
                 ·simp only [zzs]
                  rfl
                 refine pure_ (i:=15) (N:=some 102) (v:=undef) (a':=?_) #[true,true,true,true,true,true,true,true,true,true,true,true,true,true,true,true,false] rfl rfl (any_of HT_.out (zz0)) (fun _ _ _ h=>h) (Or.inr ⟨zz20,rfl⟩) ?_ ?_;rotate_left
                 ·simp only [zzs]
                  rfl
                 refine zzp 16 103 ?_ #[true,true,true,true,true,true,true,true,true,true,true,true,true,true,true,true,true] rfl rfl (any_of HT_.out (zz0)) (fun _ _ _ h=>h) (Or.inl ⟨zz20,?_⟩) ?_ ?_ ?_;rotate_left
                 ·intro w'
                  go_simp
                  with_reducible rfl
                 rotate_left
                 ·simp only [zzs]
                  rfl
                 refine done_ (done_of HT_.out (zz0)) ?_
                 try go_wp2
                 go_ret
                 exact ⟨zz6,zz86⟩
                ·have c49b0:=decide_eq_false c49;clear c49;replace H:=zzi H;obtain ⟨c51,H⟩:=H;have c51b0:=decide_eq_true c51;clear c51;replace H:=zzj H;rcases H with ⟨c52,H⟩|⟨c52,H⟩
                 ·have c52b0:=decide_eq_true c52;clear c52;obtain rfl:=Option.some.inj H
                  try go_wp2
                  replace HO_2:=Aside0.mk (Kd.V_drew HO_2.out);replace BK583:=Aside0.mk (blk_drew BK583.out);replace BK584:=Aside0.mk (blk_drew BK584.out);replace HB:=Aside0.mk (below_drew1 HB.out);have p598:0≤(x13_4:Int):=of_decide_eq_true (zz11);have q598:x13_4 < (l3.length:Int):=of_decide_eq_true (zz11);obtain ⟨ad598,e598,hx598_0⟩:=Kd.at_int HR3.out x13_4 p598 q598;have hw598_0:=hx598_0
                  cases e598
                  replace hx598_0:=(HB.out.cell (World.block_lt_of_cell? w _ hx598_0)).trans hx598_0;replace p598:=eq_true p598;replace q598:=eq_true q598;have p599:0≤(x13_4:Int):=of_decide_eq_true (zz11);have q599:x13_4 < (l3.length:Int):=of_decide_eq_true (zz11);obtain ⟨ad599,e599,hx599_0⟩:=Kd.at_int HR3.out x13_4 p599 q599;have hw599_0:=hx599_0;obtain rfl:ad598 = ad599:=(by injection e599);replace hx599_0:=(HB.out.cell (World.block_lt_of_cell? w _ hx599_0)).trans hx599_0;replace p599:=eq_true p599;replace q599:=eq_true q599;have p600:0≤(x13_4:Int):=of_decide_eq_true (zz11);have q600:x13_4 < (l2.length:Int):=of_decide_eq_true (zz11);obtain ⟨ad600,A600_0,c600_0,e600,hx600_0,hl600_0,hi600_0⟩:=at_L6 (Kd.V_reads' HO_2.out).2.2 x13_4 p600 q600
                  cases e600
                  obtain ⟨ce600,hce600,hMe600,hcc600⟩:=Kd.V_get HO_2.out [] x13_4 p600 (by first|exact q600|exact of_decide_eq_true (zz11)|(have e_:=(Kd.V_reads' HO_2.out).1;omega));obtain ⟨ua600_0,uc600_0,rfl,ul600_0,ge600_0⟩:=Kd.FK_slice_open hMe600;have hv600_0:=hcc600 0 _ rfl;rw [Nat.add_zero,show ((Kd.slice 56 k56)).sz = 1 from rfl,Nat.mul_one] at hv600_0;replace hv600_0:=Option.some.inj (hv600_0.symm.trans hx600_0)
                  injection hv600_0 with hva_ hvn_ hvc_
                  rw [hva_] at ge600_0;rw [hvc_] at ul600_0;have HL600_0:=Aside0.mk (show Kd.V k56 56 _ w.heap.size _ _ (rd_L6 l2 x13_4) from Kd.V_mk ul600_0 ge600_0);clear hva_ hvn_ hvc_ ge600_0 ul600_0;clear hcc600 hce600;have HR600_0:=Aside0.mk hi600_0;have HC600_0:=Aside0.mk hl600_0;clear hi600_0 hl600_0;replace p600:=eq_true p600;replace q600:=eq_true q600;refine start_ (n:=17) (S:=fun w'=>w'.cell? (ad598.add (x13_4).toNat) = some (.int .i64 (rd l3 x13_4))∧w'.cell? (ad598.add (x13_4).toNat) = some (.int .i64 (rd l3 x13_4))∧w'.cell? (ad600.add (x13_4).toNat) = some (.slice A600_0 (rd_L6 l2 x13_4).length c600_0)) (ds:=[]) #[false,false,false,false,false,false,false,false,false,false,false,false,false,false,false,false,false] (zz0) rfl rfl ⟨((HB.out.cell (World.block_lt_of_cell? w _ hw598_0)).trans hw598_0),((HB.out.cell (World.block_lt_of_cell? w _ hw599_0)).trans hw599_0),hx600_0⟩ (fun hHeld=>?_);refine with_tabW U32.tab27 U32.bits27 (fun HT_ HW_=>?_)
                  generalize wr.drew = w53 at HO_2 BK583 BK584 HB HL600_0 HR600_0 hx598_0 hx599_0 hx600_0 hHeld ⊢
                  refine zzp 0 87 ?_ #[true,false,false,false,false,false,false,false,false,false,false,false,false,false,false,false,false] rfl rfl (any_of HT_.out (zz0)) (fun _ _ _ h=>h) (Or.inl ⟨zz20,?_⟩) ?_ ?_ ?_;rotate_left
                  ·intro w'
                   go_simp
                   with_reducible rfl
                  rotate_left
                  ·simp only [zzs]
                   rfl
                  refine zzp 1 88 ?_ #[true,true,false,false,false,false,false,false,false,false,false,false,false,false,false,false,false] rfl rfl (any_of HT_.out (zz0)) (fun _ _ _ h=>h) (Or.inl ⟨zz20,?_⟩) ?_ ?_ ?_;rotate_left
                  ·intro w'
                   go_simp
                   with_reducible rfl
                  rotate_left
                  ·simp only [zzs]
                   rfl
                  refine zzp 2 89 ?_ #[true,true,true,false,false,false,false,false,false,false,false,false,false,false,false,false,false] rfl rfl (any_of HT_.out (zz0)) (fun _ _ _ h=>h) (Or.inl ⟨zz20,?_⟩) ?_ ?_ ?_;rotate_left
                  ·intro w'
                   go_simp
                   with_reducible rfl
                  rotate_left
                  ·simp only [zzs]
                   rfl
                  refine take_ (i:=3) (N:=some 90) (v:=?_) (a':=?_) #[true,true,true,true,false,false,false,false,false,false,false,false,false,false,false,false,false] rfl rfl (take_ofW HT_.out HW_.out (zz0)) (fun _ _ _ h=>h) (Or.inl ⟨zz20,?_⟩) hHeld ?_ ?_;rotate_left
                  ·rintro w' ⟨s0,s1,s2⟩
                   go_simp
                   with_reducible rfl
                  rotate_left
                  ·simp only [zzs]
                   rfl
                  refine zzp 4 91 ?_ #[true,true,true,true,true,false,false,false,false,false,false,false,false,false,false,false,false] rfl rfl (any_of HT_.out (zz0)) (fun _ _ _ h=>h) (Or.inl ⟨zz20,?_⟩) ?_ ?_ ?_;rotate_left
                  ·intro w'
                   go_simp
                   with_reducible rfl
                  rotate_left
                  ·simp only [zzs]
                   rfl
                  refine zzp 5 92 ?_ #[true,true,true,true,true,true,false,false,false,false,false,false,false,false,false,false,false] rfl rfl (any_of HT_.out (zz0)) (fun _ _ _ h=>h) (Or.inl ⟨zz20,?_⟩) ?_ ?_ ?_;rotate_left
                  ·intro w'
                   go_simp
                   with_reducible rfl
                  rotate_left
                  ·simp only [zzs]
                   rfl
                  refine zzp 6 93 ?_ #[true,true,true,true,true,true,true,false,false,false,false,false,false,false,false,false,false] rfl rfl (any_of HT_.out (zz0)) (fun _ _ _ h=>h) (Or.inl ⟨zz20,?_⟩) ?_ ?_ ?_;rotate_left
                  ·intro w'
                   go_simp
                   with_reducible rfl
                  rotate_left
                  ·simp only [zzs]
                   rfl
                  refine zzp 7 94 ?_ #[true,true,true,true,true,true,true,true,false,false,false,false,false,false,false,false,false] rfl rfl (any_of HT_.out (zz0)) (fun _ _ _ h=>h) (Or.inl ⟨zz20,?_⟩) ?_ ?_ ?_;rotate_left
                  ·intro w'
                   go_simp
                   with_reducible rfl
                  rotate_left
                  ·simp only [zzs]
                   rfl
                  refine zzp 8 95 ?_ #[true,true,true,true,true,true,true,true,true,false,false,false,false,false,false,false,false] rfl rfl (any_of HT_.out (zz0)) (fun _ _ _ h=>h) (Or.inl ⟨zz20,?_⟩) ?_ ?_ ?_;rotate_left
                  ·intro w'
                   go_simp
                   with_reducible rfl
                  rotate_left
                  ·simp only [zzs]
                   rfl
                  refine zzp 10 97 ?_ #[true,true,true,true,true,true,true,true,true,false,true,false,false,false,false,false,false] rfl rfl (any_of HT_.out (zz0)) (fun _ _ _ h=>h) (Or.inl ⟨zz20,?_⟩) ?_ ?_ ?_;rotate_left
                  ·intro w'
                   go_simp
                   with_reducible rfl
                  rotate_left
                  ·simp only [zzs]
                   rfl
                  refine zzp 11 98 ?_ #[true,true,true,true,true,true,true,true,true,false,true,true,false,false,false,false,false] rfl rfl (any_of HT_.out (zz0)) (fun _ _ _ h=>h) (Or.inl ⟨zz20,?_⟩) ?_ ?_ ?_;rotate_left
                  ·intro w'
                   go_simp
                   with_reducible rfl
                  rotate_left
                  ·simp only [zzs]
                   rfl
                  refine zzp 12 99 ?_ #[true,true,true,true,true,true,true,true,true,false,true,true,true,false,false,false,false] rfl rfl (any_of HT_.out (zz0)) (fun _ _ _ h=>h) (Or.inl ⟨zz20,?_⟩) ?_ ?_ ?_;rotate_left
                  ·intro w'
                   go_simp
                   with_reducible rfl
                  rotate_left
                  ·simp only [zzs]
                   rfl
                  refine take_ (i:=9) (N:=some 96) (v:=?_) (a':=?_) #[true,true,true,true,true,true,true,true,true,true,true,true,true,false,false,false,false] rfl rfl (take_ofW HT_.out HW_.out (zz0)) (fun _ _ _ h=>h) (Or.inl ⟨zz20,?_⟩) hHeld ?_ ?_;rotate_left
                  ·rintro w' ⟨s0,s1,s2⟩
                   go_simp
                   with_reducible rfl
                  rotate_left
                  ·simp only [zzs]
                   rfl
                  refine take_ (i:=13) (N:=some 100) (v:=?_) (a':=?_) #[true,true,true,true,true,true,true,true,true,true,true,true,true,true,false,false,false] rfl rfl (take_ofW HT_.out HW_.out (zz0)) (fun _ _ _ h=>h) (Or.inl ⟨zz20,?_⟩) hHeld ?_ ?_;rotate_left
                  ·rintro w' ⟨s0,s1,s2⟩
                   go_simp
                   with_reducible rfl
                  rotate_left
                  ·simp only [zzs]
                   rfl
                  refine zzp 14 101 ?_ #[true,true,true,true,true,true,true,true,true,true,true,true,true,true,true,false,false] rfl rfl (any_of HT_.out (zz0)) (fun _ _ _ h=>h) (Or.inl ⟨zz20,?_⟩) ?_ ?_ ?_;rotate_left
                  ·intro w'
                   go_simp
                   with_reducible rfl
                  rotate_left
                  ·simp only [zzs]
                   rfl
                  refine zzp 15 102 ?_ #[true,true,true,true,true,true,true,true,true,true,true,true,true,true,true,true,false] rfl rfl (any_of HT_.out (zz0)) (fun _ _ _ h=>h) (Or.inl ⟨zz20,?_⟩) ?_ ?_ ?_;rotate_left
                  ·intro w'
                   go_simp
                   with_reducible rfl
                  rotate_left
                  ·simp only [zzs]
                   rfl
                  refine zzp 16 103 ?_ #[true,true,true,true,true,true,true,true,true,true,true,true,true,true,true,true,true] rfl rfl (any_of HT_.out (zz0)) (fun _ _ _ h=>h) (Or.inl ⟨zz20,?_⟩) ?_ ?_ ?_;rotate_left
                  ·intro w'
                   go_simp
                   with_reducible rfl
                  rotate_left
                  ·simp only [zzs]
                   rfl
                  refine done_ (done_of HT_.out (zz0)) ?_
                  try go_wp2
                  go_ret
                  exact ⟨zz6,zz86⟩
                 ·have c52b0:=decide_eq_false c52;clear c52;have H':=Aside0.mk H;clear H
                  try go_wp2
                  replace HO_2:=Aside0.mk (Kd.V_drew HO_2.out);replace BK583:=Aside0.mk (blk_drew BK583.out);replace BK584:=Aside0.mk (blk_drew BK584.out);replace HB:=Aside0.mk (below_drew1 HB.out);have p598:0≤(x13_4:Int):=of_decide_eq_true (zz11);have q598:x13_4 < (l3.length:Int):=of_decide_eq_true (zz11);obtain ⟨ad598,e598,hx598_0⟩:=Kd.at_int HR3.out x13_4 p598 q598;have hw598_0:=hx598_0
                  cases e598
                  replace hx598_0:=(HB.out.cell (World.block_lt_of_cell? w _ hx598_0)).trans hx598_0;replace p598:=eq_true p598;replace q598:=eq_true q598;have p599:0≤(x13_4:Int):=of_decide_eq_true (zz11);have q599:x13_4 < (l3.length:Int):=of_decide_eq_true (zz11);obtain ⟨ad599,e599,hx599_0⟩:=Kd.at_int HR3.out x13_4 p599 q599;have hw599_0:=hx599_0;obtain rfl:ad598 = ad599:=(by injection e599);replace hx599_0:=(HB.out.cell (World.block_lt_of_cell? w _ hx599_0)).trans hx599_0;replace p599:=eq_true p599;replace q599:=eq_true q599;have p600:0≤(x13_4:Int):=of_decide_eq_true (zz11);have q600:x13_4 < (l2.length:Int):=of_decide_eq_true (zz11);obtain ⟨ad600,A600_0,c600_0,e600,hx600_0,hl600_0,hi600_0⟩:=at_L6 (Kd.V_reads' HO_2.out).2.2 x13_4 p600 q600
                  cases e600
                  obtain ⟨ce600,hce600,hMe600,hcc600⟩:=Kd.V_get HO_2.out [] x13_4 p600 (by first|exact q600|exact of_decide_eq_true (zz11)|(have e_:=(Kd.V_reads' HO_2.out).1;omega));obtain ⟨ua600_0,uc600_0,rfl,ul600_0,ge600_0⟩:=Kd.FK_slice_open hMe600;have hv600_0:=hcc600 0 _ rfl;rw [Nat.add_zero,show ((Kd.slice 56 k56)).sz = 1 from rfl,Nat.mul_one] at hv600_0;replace hv600_0:=Option.some.inj (hv600_0.symm.trans hx600_0)
                  injection hv600_0 with hva_ hvn_ hvc_
                  rw [hva_] at ge600_0;rw [hvc_] at ul600_0;have HL600_0:=Aside0.mk (show Kd.V k56 56 _ w.heap.size _ _ (rd_L6 l2 x13_4) from Kd.V_mk ul600_0 ge600_0);clear hva_ hvn_ hvc_ ge600_0 ul600_0;clear hcc600 hce600;have HR600_0:=Aside0.mk hi600_0;have HC600_0:=Aside0.mk hl600_0;clear hi600_0 hl600_0;replace p600:=eq_true p600;replace q600:=eq_true q600;refine start_ (n:=17) (S:=fun w'=>w'.cell? (ad598.add (x13_4).toNat) = some (.int .i64 (rd l3 x13_4))∧w'.cell? (ad598.add (x13_4).toNat) = some (.int .i64 (rd l3 x13_4))∧w'.cell? (ad600.add (x13_4).toNat) = some (.slice A600_0 (rd_L6 l2 x13_4).length c600_0)) (ds:=[]) #[false,false,false,false,false,false,false,false,false,false,false,false,false,false,false,false,false] (zz0) rfl rfl ⟨((HB.out.cell (World.block_lt_of_cell? w _ hw598_0)).trans hw598_0),((HB.out.cell (World.block_lt_of_cell? w _ hw599_0)).trans hw599_0),hx600_0⟩ (fun hHeld=>?_);refine with_tabW U32.tab27 U32.bits27 (fun HT_ HW_=>?_)
                  generalize wr.drew = w54 at HO_2 BK583 BK584 HB HL600_0 HR600_0 hx598_0 hx599_0 hx600_0 hHeld ⊢
                  refine zzp 0 87 ?_ #[true,false,false,false,false,false,false,false,false,false,false,false,false,false,false,false,false] rfl rfl (any_of HT_.out (zz0)) (fun _ _ _ h=>h) (Or.inl ⟨zz20,?_⟩) ?_ ?_ ?_;rotate_left
                  ·intro w'
                   go_simp
                   with_reducible rfl
                  rotate_left
                  ·simp only [zzs]
                   rfl
                  refine zzp 1 88 ?_ #[true,true,false,false,false,false,false,false,false,false,false,false,false,false,false,false,false] rfl rfl (any_of HT_.out (zz0)) (fun _ _ _ h=>h) (Or.inl ⟨zz20,?_⟩) ?_ ?_ ?_;rotate_left
                  ·intro w'
                   go_simp
                   with_reducible rfl
                  rotate_left
                  ·simp only [zzs]
                   rfl
                  refine zzp 2 89 ?_ #[true,true,true,false,false,false,false,false,false,false,false,false,false,false,false,false,false] rfl rfl (any_of HT_.out (zz0)) (fun _ _ _ h=>h) (Or.inl ⟨zz20,?_⟩) ?_ ?_ ?_;rotate_left
                  ·intro w'
                   go_simp
                   with_reducible rfl
                  rotate_left
                  ·simp only [zzs]
                   rfl
                  refine take_ (i:=3) (N:=some 90) (v:=?_) (a':=?_) #[true,true,true,true,false,false,false,false,false,false,false,false,false,false,false,false,false] rfl rfl (take_ofW HT_.out HW_.out (zz0)) (fun _ _ _ h=>h) (Or.inl ⟨zz20,?_⟩) hHeld ?_ ?_;rotate_left
                  ·rintro w' ⟨s0,s1,s2⟩
                   go_simp
                   with_reducible rfl
                  rotate_left
                  ·simp only [zzs]
                   rfl
                  refine zzp 4 91 ?_ #[true,true,true,true,true,false,false,false,false,false,false,false,false,false,false,false,false] rfl rfl (any_of HT_.out (zz0)) (fun _ _ _ h=>h) (Or.inl ⟨zz20,?_⟩) ?_ ?_ ?_;rotate_left
                  ·intro w'
                   go_simp
                   with_reducible rfl
                  rotate_left
                  ·simp only [zzs]
                   rfl
                  refine zzp 5 92 ?_ #[true,true,true,true,true,true,false,false,false,false,false,false,false,false,false,false,false] rfl rfl (any_of HT_.out (zz0)) (fun _ _ _ h=>h) (Or.inl ⟨zz20,?_⟩) ?_ ?_ ?_;rotate_left
                  ·intro w'
                   go_simp
                   with_reducible rfl
                  rotate_left
                  ·simp only [zzs]
                   rfl
                  refine zzp 6 93 ?_ #[true,true,true,true,true,true,true,false,false,false,false,false,false,false,false,false,false] rfl rfl (any_of HT_.out (zz0)) (fun _ _ _ h=>h) (Or.inl ⟨zz20,?_⟩) ?_ ?_ ?_;rotate_left
                  ·intro w'
                   go_simp
                   with_reducible rfl
                  rotate_left
                  ·simp only [zzs]
                   rfl
                  refine zzp 7 94 ?_ #[true,true,true,true,true,true,true,true,false,false,false,false,false,false,false,false,false] rfl rfl (any_of HT_.out (zz0)) (fun _ _ _ h=>h) (Or.inl ⟨zz20,?_⟩) ?_ ?_ ?_;rotate_left
                  ·intro w'
                   go_simp
                   with_reducible rfl
                  rotate_left
                  ·simp only [zzs]
                   rfl
                  refine zzp 8 95 ?_ #[true,true,true,true,true,true,true,true,true,false,false,false,false,false,false,false,false] rfl rfl (any_of HT_.out (zz0)) (fun _ _ _ h=>h) (Or.inl ⟨zz20,?_⟩) ?_ ?_ ?_;rotate_left
                  ·intro w'
                   go_simp
                   with_reducible rfl
                  rotate_left
                  ·simp only [zzs]
                   rfl
                  refine zzp 10 97 ?_ #[true,true,true,true,true,true,true,true,true,false,true,false,false,false,false,false,false] rfl rfl (any_of HT_.out (zz0)) (fun _ _ _ h=>h) (Or.inl ⟨zz20,?_⟩) ?_ ?_ ?_;rotate_left
                  ·intro w'
                   go_simp
                   with_reducible rfl
                  rotate_left
                  ·simp only [zzs]
                   rfl
                  refine zzp 11 98 ?_ #[true,true,true,true,true,true,true,true,true,false,true,true,false,false,false,false,false] rfl rfl (any_of HT_.out (zz0)) (fun _ _ _ h=>h) (Or.inl ⟨zz20,?_⟩) ?_ ?_ ?_;rotate_left
                  ·intro w'
                   go_simp
                   with_reducible rfl
                  rotate_left
                  ·simp only [zzs]
                   rfl
                  refine zzp 12 99 ?_ #[true,true,true,true,true,true,true,true,true,false,true,true,true,false,false,false,false] rfl rfl (any_of HT_.out (zz0)) (fun _ _ _ h=>h) (Or.inl ⟨zz20,?_⟩) ?_ ?_ ?_;rotate_left
                  ·intro w'
                   go_simp
                   with_reducible rfl
                  rotate_left
                  ·simp only [zzs]
                   rfl
                  refine take_ (i:=9) (N:=some 96) (v:=?_) (a':=?_) #[true,true,true,true,true,true,true,true,true,true,true,true,true,false,false,false,false] rfl rfl (take_ofW HT_.out HW_.out (zz0)) (fun _ _ _ h=>h) (Or.inl ⟨zz20,?_⟩) hHeld ?_ ?_;rotate_left
                  ·rintro w' ⟨s0,s1,s2⟩
                   go_simp
                   with_reducible rfl
                  rotate_left
                  ·simp only [zzs]
                   rfl
                  refine take_ (i:=13) (N:=some 100) (v:=?_) (a':=?_) #[true,true,true,true,true,true,true,true,true,true,true,true,true,true,false,false,false] rfl rfl (take_ofW HT_.out HW_.out (zz0)) (fun _ _ _ h=>h) (Or.inl ⟨zz20,?_⟩) hHeld ?_ ?_;rotate_left
                  ·rintro w' ⟨s0,s1,s2⟩
                   go_simp
                   with_reducible rfl
                  rotate_left
                  ·simp only [zzs]
                   rfl
                  refine zzp 14 101 ?_ #[true,true,true,true,true,true,true,true,true,true,true,true,true,true,true,false,false] rfl rfl (any_of HT_.out (zz0)) (fun _ _ _ h=>h) (Or.inl ⟨zz20,?_⟩) ?_ ?_ ?_;rotate_left
                  ·intro w'
                   go_simp
                   with_reducible rfl
                  rotate_left
                  ·simp only [zzs]
                   rfl
                  refine zzp 15 102 ?_ #[true,true,true,true,true,true,true,true,true,true,true,true,true,true,true,true,false] rfl rfl (any_of HT_.out (zz0)) (fun _ _ _ h=>h) (Or.inl ⟨zz20,?_⟩) ?_ ?_ ?_;rotate_left
                  ·intro w'
                   go_simp
                   with_reducible rfl
                  rotate_left
                  ·simp only [zzs]
                   rfl
                  refine zzp 16 103 ?_ #[true,true,true,true,true,true,true,true,true,true,true,true,true,true,true,true,true] rfl rfl (any_of HT_.out (zz0)) (fun _ _ _ h=>h) (Or.inl ⟨zz20,?_⟩) ?_ ?_ ?_;rotate_left
                  ·intro w'
                   go_simp
                   with_reducible rfl
                  rotate_left
                  ·simp only [zzs]
                   rfl
                  refine done_ (done_of HT_.out (zz0)) ?_
                  try go_wp2
                  go_roundg k4
                  case measure=>have:=HK1.out;have:=HJ20.out;have:=HK3.out;have:=HK4.out;omega
                  case rel=>exact ⟨(wrap64 (x13_4+1)),(zz2),H',⟨by have:=HK1.out;have:=HJ20.out;have:=HK3.out;have:=HK4.out;omega⟩,⟨zz74⟩,⟨zz84⟩,⟨zz85⟩,⟨zz86⟩⟩
               ·have c47b0:=decide_eq_false c47;clear c47;obtain rfl:=Option.some.inj H
                go_wp2
                go_ret
                exact ⟨zz6,zz86⟩
            ·have c41b0:=beq_eq_false_iff_ne.mpr c41;have c41b1:=bne_iff_ne.mpr c41;obtain rfl:=Option.some.inj H
             try go_wp2
             replace HO_2:=Aside0.mk (Kd.V_drew HO_2.out);replace HO_11:=Aside0.mk (Kd.N_drew HO_11.out);replace BK583:=Aside0.mk (blk_drew BK583.out);replace BK584:=Aside0.mk (blk_drew BK584.out);replace HB:=Aside0.mk (below_drew1 HB.out);obtain ⟨Ao56,co56,eo56⟩:=Kd.N_slice HO_11.out
             (first|subst eo56|(injection eo56 with f1_ f2_ f3_;have f4_:=f1_.symm;have f5_:=f3_.symm;clear f1_ f2_ f3_;subst f4_;subst f5_))
             refine start_ (n:=5) (S:=fun w'=>w'.cell? ⟨gb584,0,none⟩ = some (.slice A1_0 l1_0.length c1_0)∧w'.cell? ⟨gb584,1,none⟩ = some (.slice A1_1 l1_1.length c1_1)∧w'.cell? ⟨gb584,2,none⟩ = some (.slice A1_2 l1_2.length c1_2)) (ds:=[]) #[false,false,false,false,false] (zz0) rfl rfl ⟨(blk_cell BK584.out 0).trans rfl,(blk_cell BK584.out 1).trans rfl,(blk_cell BK584.out 2).trans rfl⟩ (fun hHeld=>?_)
             generalize wr.drew = w55 at HO_2 HO_11 BK583 BK584 HB hHeld ⊢
             refine pure_ (i:=1) (N:=some 75) (v:=?_) (a':=?_) #[false,true,false,false,false] rfl rfl (zz0) (fun _ _ _ h=>h) (Or.inl ⟨zz20,?_⟩) ?_ ?_;rotate_left
             ·intro w'
              go_simp
              with_reducible rfl
             rotate_left
             ·simp only [zzs]
              rfl
             refine take_ (i:=0) (N:=some 74) (v:=?_) (a':=?_) #[true,true,false,false,false] rfl rfl (zz0) (fun _ _ _ h=>h) (Or.inl ⟨zz20,?_⟩) hHeld ?_ ?_;rotate_left
             ·rintro w' ⟨s0,s1,s2⟩
              go_simp
              with_reducible rfl
             rotate_left
             ·simp only [zzs]
              rfl
             refine one_ (i:=2) (N:=some 76) #[true,true,true,false,false] rfl rfl (zz0) (zz28) (fun K hK=>?_);refine goes_ Try.func42 (zz0) rfl #[.slice Ao56 x11_3.length co56] (zz20) rfl rfl (zz19) ?_
             with_reducible refine (U31.calls k3 _ _ x11_3 t594 _ ?side1 ?side2 A39.out).mono ?_
             (case side1=>exact (have h0_:=HO_11;zz130))
             (case side2=>exact (have h0_:=HO_11;zz131))
             rintro e w57 ⟨v595,rfl,ho0,hb⟩;refine ⟨_,rfl,?_⟩;replace HO_2:=Aside0.mk (Kd.V_elder' (zz74) (Kd.R_base ho0) hb);replace HO_11:=Aside0.mk (Kd.N_elder' (zz61) (Kd.R_base ho0) hb);have HO596:=Aside0.mk (Kd.R_lower (Kd.R_newM (M:=fun k_=>(w.heap.size≤k_)) ho0 (below_size (zz86)) (fun k_ h_=>h_)) (below_size (zz86)));replace BK583:=Aside0.mk (blk_below (zz84) hb);replace BK584:=Aside0.mk (blk_below (zz85) hb);replace HB:=Aside0.mk (below_step (zz86) hb)
             (try clear hb)
             (try clear hk)
             (try clear ho0)
             obtain ⟨Ao58,co58,eo58⟩:=Kd.R_slice HO596.out
             (first|subst eo58|(injection eo58 with f1_ f2_ f3_;have f4_:=f1_.symm;have f5_:=f3_.symm;clear f1_ f2_ f3_;subst f4_;subst f5_))
             refine hK.out _ _ ⟨(blk_cell BK584.out 0).trans rfl,(blk_cell BK584.out 1).trans rfl,(blk_cell BK584.out 2).trans rfl⟩ (fun hHeld=>?_);clear hK K;refine norm_ (a':=?_) ?_ ?_;rotate_left
             ·show Act.put _ (some 76) _ = _
              simp only [zzs]
              rfl
             refine one_ (i:=3) (N:=some 77) #[true,true,true,true,false] rfl rfl (zz0) (zz28) (fun K hK=>?_);refine goes_ Try.func41 (zz0) rfl #[.agg #[.slice A1_0 l1_0.length c1_0,.slice A1_1 l1_1.length c1_1,.slice A1_2 l1_2.length c1_2],.slice Ao58 t594.length co58] (zz20) rfl rfl (zz19) ?_
             with_reducible refine (U25.calls k3 _ _ l1_0 _ _ l1_1 _ _ l1_2 _ _ t594 t597 _ ?side1 ?side2 ?side3 ?side4 ?side5 ?side6 ?side7 ?side8 A40.out).mono ?_
             (case side1=>exact zz118)
             (case side2=>exact zz119)
             (case side3=>exact zz124)
             (case side4=>exact zz125)
             (case side5=>exact zz126)
             (case side6=>exact zz127)
             (case side7=>exact (have h0_:=HO596;zz121))
             (case side8=>exact (have h0_:=HO596;zz122))
             rintro e w59 ⟨rfl,hb⟩;refine ⟨_,rfl,?_⟩;replace HO_2:=Aside0.mk (Kd.V_below (zz74) hb);replace HO_11:=Aside0.mk (Kd.N_below (zz61) hb);replace HO596:=Aside0.mk (Kd.R_below (have h0_:=HO596;zz25) hb);replace BK583:=Aside0.mk (blk_below (zz84) hb);replace BK584:=Aside0.mk (blk_below (zz85) hb);replace HB:=Aside0.mk (below_step (zz86) hb)
             (try clear hb)
             (try clear hb2)
             (try clear hk)
             (try clear hi)
             refine hK.out _ _ ⟨(blk_cell BK584.out 0).trans rfl,(blk_cell BK584.out 1).trans rfl,(blk_cell BK584.out 2).trans rfl⟩ (fun hHeld=>?_);clear hK K;refine norm_ (a':=?_) ?_ ?_;rotate_left
             ·show Act.put _ (some 77) _ = _
              simp only [zzs]
              rfl
             refine pure_ (i:=4) (N:=some 9) (v:=?_) (a':=?_) #[true,true,true,true,true] rfl rfl (zz0) (fun _ _ _ h=>h) (Or.inl ⟨zz20,?_⟩) ?_ ?_;rotate_left
             ·intro w'
              go_simp
              with_reducible rfl
             rotate_left
             ·simp only [zzs]
              rfl
             refine done_ (zz0) ?_
             try go_wp2
             go_ret
             exact ⟨zz6,zz86⟩
 ·have c6b0:=beq_eq_false_iff_ne.mpr c6;have c6b1:=bne_iff_ne.mpr c6;obtain rfl:=Option.some.inj H;go_enter Try.func48,Try.ntmps48
  go_wp2_with (first|((with_reducible refine gate_dst (N:=4) rfl ?_);(try (refine gate_guard (zz20) ?_;dsimp only));refine box_event ?hg (N:=4) ?hd (cs:=#[.slice A0_0 l0_0.length c0_0,.slice A0_1 l0_1.length c0_1]) (t:=24) ?hr ?_;(case hd=>rfl);(case hg=>rfl);(case hr=>exact zz109);intro gb583 hg w60 hbox hb;replace HO2:=Aside0.mk (Kd.V_below (Kd.V_elderB (zz68) gb583 (Nat.le_of_eq hg.symm)) hb);have BK583:=Aside0.mk (hbox);have GW583:=Aside0.mk ((by rw [hg];exact (below_size (zz5)):w.heap.size≤gb583));have GE583:=Aside0.mk ((by rw [hg];exact (below_size (zz5)):w.heap.size≤gb583));replace HB:=Aside0.mk (below_step (zz5) hb);clear hb hbox hg)|((with_reducible refine gate_dst (N:=5) rfl ?_);(try (refine gate_guard (zz20) ?_;dsimp only));refine box_event ?hg (N:=5) ?hd (cs:=#[.slice A1_0 l1_0.length c1_0,.slice A1_1 l1_1.length c1_1,.slice A1_2 l1_2.length c1_2]) (t:=36) ?hr ?_;(case hd=>rfl);(case hg=>rfl);(case hr=>exact zz109);intro gb584 hg w61 hbox hb;replace HO2:=Aside0.mk (Kd.V_below (Kd.V_elderB (zz68) gb584 (Nat.le_of_eq hg.symm)) hb);have BK584:=Aside0.mk (hbox);have GW584:=Aside0.mk ((by rw [hg];exact (below_size (have h0_:=GE583;zz7)):w.heap.size≤gb584));have GE584:=Aside0.mk ((by rw [hg];exact (below_size (have h0_:=GE583;zz7)):w.heap.size≤gb584));replace HB:=Aside0.mk (below_step (have h0_:=GE583;zz7) hb);have NB583_584:=Aside0.mk ((by rw [hg];exact Nat.ne_of_lt (blk_lt (g:=gb583) (o:=.cells #[.slice A0_0 l0_0.length c0_0,.slice A0_1 l0_1.length c0_1] 24 (0,0)) (zz84)):gb583 ≠ gb584));have NB584_583:=Aside0.mk ((by rw [hg];exact Nat.ne_of_gt (blk_lt (g:=gb583) (o:=.cells #[.slice A0_0 l0_0.length c0_0,.slice A0_1 l0_1.length c0_1] 24 (0,0)) (zz84)):gb584 ≠ gb583));replace BK583:=Aside0.mk (blk_below (zz84) hb);clear hb hbox hg;have hnb62:=NB583_584.out;have hnc62:=NB584_583.out;obtain ⟨hcz63_0,hcz63_1,hfz63_0,hfz63_1⟩:=zc2 BK583.out)|((with_reducible refine gate_callee (f:=32) rfl ?_);refine goesL_ (some 15) rfl rfl Try.func32 (zz0) rfl #[.agg #[.slice A0_0 l0_0.length c0_0,.slice A0_1 l0_1.length c0_1]] rfl (zz19) ?_;(with_reducible refine (U21.calls k _ _ l0_0 _ _ l0_1 t585 _ ?_ ?_ ?_ ?_ A5.out).mono ?_);exact zz111;exact zz112;exact zz113;exact zz114;rintro e w64 ⟨rfl,hb⟩;refine ⟨_,rfl,?_⟩;replace HO2:=Aside0.mk (Kd.V_below (zz68) hb);replace BK583:=Aside0.mk (blk_below (zz84) hb);replace BK584:=Aside0.mk (blk_below (zz85) hb);replace HB:=Aside0.mk (below_step (zz86) hb);(try clear hb)))
  go_ret
  exact ⟨zz6,zz86⟩
end Go.Proofs.Ytmcegphcjphdcaa.QA
