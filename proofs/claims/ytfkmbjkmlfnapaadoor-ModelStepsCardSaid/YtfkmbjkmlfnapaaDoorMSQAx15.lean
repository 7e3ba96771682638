import Derived.Test.YtfkmbjkmlfnapaaDoorMSQAx0
namespace Go.Proofs.YtfkmbjkmlfnapaaDoor.QA
open Go.RowKit Go.Proofs.YtfkmbjkmlfnapaaDoorW.PrintWords Go.Proofs.YtfkmbjkmlfnapaaDoorW.PrintLast Go.Proofs.YtfkmbjkmlfnapaaDoorW.PrintMore
attribute [local go_sem] max2_int min2_int max_two min_two max_three min_three max_four min_four
set_option linter.unusedVariables false
set_option linter.unusedSimpArgs false
mutual
def U3.l0:Nat→Int→Int→List Int→List Int→Option (Int)
 | 0,_,_,_,_=>none
 | k+1,x3,x4,x847000,x847001=>if x4 < x3 then (if 0≤x4 then (if x4 < (x847000.length:Int) then (if (rd x847000 x4) < (-1000) then (some 3) else (if (rd x847000 x4) > 1000 then (some 3) else (if x4 < (x847001.length:Int) then (if (rd x847001 x4) < 1 then (some 3) else (if (rd x847001 x4) > 1000 then (some 3) else (U3.l0 k x3 (wrap64 (x4+1)) x847000 x847001))) else (none)))) else (none)) else (none)) else (U3.l1 k x3 1 x847000 x847001)
def U3.l1:Nat→Int→Int→List Int→List Int→Option (Int)
 | 0,_,_,_,_=>none
 | k+1,x3,x5,x847000,x847001=>if x5 < x3 then (if 0≤x5 then (if x5 < (x847000.length:Int) then (if 0≤(wrap64 (x5 - 1)) then (if (wrap64 (x5 - 1)) < (x847000.length:Int) then (if (rd x847000 x5)≤(rd x847000 (wrap64 (x5 - 1))) then (some 23) else (U3.l1 k x3 (wrap64 (x5+1)) x847000 x847001)) else (none)) else (none)) else (none)) else (none)) else (some 0)
end
def U3.f (k:Nat) (l0_0:List Int) (l0_1:List Int):Option (Int):=if (l0_0.length:Int) > 21 then (some 5) else (if (l0_0.length:Int) = 0 then (some 20) else (if (l0_1.length:Int) = (l0_0.length:Int) then (U3.l0 k (l0_0.length:Int) 0 l0_0 l0_1) else (some 1)))
theorem zm14_0 {P:Prop} (h:P:=by repeat' first|(with_reducible first|exact ih0 ..|exact ih1 ..|exact LeO.refl _|exact LeO.none _|refine LeO.ite ?_ ?_|refine LeO.bind ?_ (fun _=>?_))|exact ih0 ..|exact ih1 ..|exact LeO.none _|refine LeO.ite ?_ ?_|refine LeO.bind ?_ (fun _=>?_)):P:=h
theorem U3.mono_l:∀ k,(∀ y0 y1 y2 y3,LeO (U3.l0 k y0 y1 y2 y3) (U3.l0 (k+1) y0 y1 y2 y3))∧(∀ y0 y1 y2 y3,LeO (U3.l1 k y0 y1 y2 y3) (U3.l1 (k+1) y0 y1 y2 y3))
 | 0=>⟨fun _ _ _ _ r h=>by simp [U3.l0] at h,fun _ _ _ _ r h=>by simp [U3.l1] at h⟩
 | k+1=>by
  obtain ⟨ih0,ih1⟩:=U3.mono_l k;refine ⟨?_,?_⟩
  ·intro y0 y1 y2 y3;unfold U3.l0
   exact zm14_0
  ·intro y0 y1 y2 y3;unfold U3.l1
   exact zm14_0
theorem U3.mono:∀ a0 a1 k,LeO (U3.f k a0 a1) (U3.f (k+1) a0 a1):=by
 intro a0 a1 k;obtain ⟨ih0,ih1⟩:=U3.mono_l k;unfold U3.f
 exact zm14_0
set_option maxHeartbeats 8000000 in
set_option maxRecDepth 100000 in
theorem U3.calls (k:Nat) (A0_0:Option Addr) (c0_0:Nat) (l0_0:List Int) (A0_1:Option Addr) (c0_1:Nat) (l0_1:List Int) (r:Int) (w:World) (hr0_0:Kd.C (Kd.int .i64) w A0_0 l0_0.length l0_0) (hc0_0:l0_0.length≤c0_0) (hr0_1:Kd.C (Kd.int .i64) w A0_1 l0_1.length l0_1) (hc0_1:l0_1.length≤c0_1) (h:U3.f k l0_0 l0_1 = some r) :
  Calls Tryd.prog 51 #[.agg #[.slice A0_0 l0_0.length c0_0,.slice A0_1 l0_1.length c0_1]] w fun e w'=>e = .returned (.int .i64 r)∧Below w.heap.size w w':=by
 have hu33:=Tryd.underlying33;have HR0_0:=Aside0.mk hr0_0;have HC0_0:=Aside0.mk hc0_0;clear hr0_0 hc0_0;have HR0_1:=Aside0.mk hr0_1;have HC0_1:=Aside0.mk hc0_1;clear hr0_1 hc0_1;have HB:=Aside0.mk (Below.refl w.heap.size w);have H:(if (l0_0.length:Int) > 21 then (some 5) else (if (l0_0.length:Int) = 0 then (some 20) else (if (l0_1.length:Int) = (l0_0.length:Int) then (U3.l0 k (l0_0.length:Int) 0 l0_0 l0_1) else (some 1)))) = some r:=h;clear h;replace H:=zzj H;rcases H with ⟨c2,H⟩|⟨c2,H⟩
 ·have c2b0:=decide_eq_true c2;have c2b1:decide (21 < l0_0.length) = true:=decide_eq_true (zz15);clear c2;obtain rfl:=Option.some.inj H;go_enter Tryd.func51,Tryd.ntmps51
  go_wp2_with (first|((with_reducible refine gate_dst (N:=1) rfl ?_);refine box_event ?hg (N:=1) ?hd (cs:=#[.slice A0_0 l0_0.length c0_0,.slice A0_1 l0_1.length c0_1]) (t:=33) ?hr ?_;(case hd=>rfl);(case hg=>rfl);(case hr=>exact zz144);intro gb846 hg w3 hbox hb;have BK846:=Aside0.mk (hbox);have GW846:=Aside0.mk ((by rw [hg];exact (below_size (zz10)):w.heap.size≤gb846));have GE846:=Aside0.mk ((by rw [hg];exact (below_size (zz10)):w.heap.size≤gb846));replace HB:=Aside0.mk (below_step (zz10) hb);clear hb hbox hg;obtain ⟨hcz4_0,hcz4_1,hfz4_0,hfz4_1⟩:=zc2 BK846.out))
  repeat (go_quiet (first|((with_reducible refine gate_dst (N:=1) rfl ?_);refine box_event ?hg (N:=1) ?hd (cs:=#[.slice A0_0 l0_0.length c0_0,.slice A0_1 l0_1.length c0_1]) (t:=33) ?hr ?_;(case hd=>rfl);(case hg=>rfl);(case hr=>exact zz144);intro gb846 hg w3 hbox hb;have BK846:=Aside0.mk (hbox);have GW846:=Aside0.mk ((by rw [hg];exact (below_size (zz10)):w.heap.size≤gb846));have GE846:=Aside0.mk ((by rw [hg];exact (below_size (zz10)):w.heap.size≤gb846));replace HB:=Aside0.mk (below_step (zz10) hb);clear hb hbox hg;obtain ⟨hcz4_0,hcz4_1,hfz4_0,hfz4_1⟩:=zc2 BK846.out));try go_wp2_with (first|((with_reducible refine gate_dst (N:=1) rfl ?_);refine box_event ?hg (N:=1) ?hd (cs:=#[.slice A0_0 l0_0.length c0_0,.slice A0_1 l0_1.length c0_1]) (t:=33) ?hr ?_;(case hd=>rfl);(case hg=>rfl);(case hr=>exact zz144);intro gb846 hg w3 hbox hb;have BK846:=Aside0.mk (hbox);have GW846:=Aside0.mk ((by rw [hg];exact (below_size (zz10)):w.heap.size≤gb846));have GE846:=Aside0.mk ((by rw [hg];exact (below_size (zz10)):w.heap.size≤gb846));replace HB:=Aside0.mk (below_step (zz10) hb);clear hb hbox hg;obtain ⟨hcz4_0,hcz4_1,hfz4_0,hfz4_1⟩:=zc2 BK846.out)))
  go_ret
  exact ⟨zz14,(have h0_:=GE846;zz13)⟩
 ·have c2b0:=decide_eq_false c2;have c2b1:decide (21 < l0_0.length) = false:=decide_eq_false (zz15);clear c2;replace H:=zzj H;rcases H with ⟨c5,H⟩|⟨c5,H⟩
  ·have c5b0:=beq_iff_eq.mpr c5;have c5b1:=bne_eq_false_iff_eq.mpr c5;clear c5;obtain rfl:=Option.some.inj H;go_enter Tryd.func51,Tryd.ntmps51
   go_wp2_with (first|((with_reducible refine gate_dst (N:=1) rfl ?_);refine box_event ?hg (N:=1) ?hd (cs:=#[.slice A0_0 l0_0.length c0_0,.slice A0_1 l0_1.length c0_1]) (t:=33) ?hr ?_;(case hd=>rfl);(case hg=>rfl);(case hr=>exact zz144);intro gb846 hg w6 hbox hb;have BK846:=Aside0.mk (hbox);have GW846:=Aside0.mk ((by rw [hg];exact (below_size (zz10)):w.heap.size≤gb846));have GE846:=Aside0.mk ((by rw [hg];exact (below_size (zz10)):w.heap.size≤gb846));replace HB:=Aside0.mk (below_step (zz10) hb);clear hb hbox hg;obtain ⟨hcz7_0,hcz7_1,hfz7_0,hfz7_1⟩:=zc2 BK846.out))
   repeat (go_quiet (first|((with_reducible refine gate_dst (N:=1) rfl ?_);refine box_event ?hg (N:=1) ?hd (cs:=#[.slice A0_0 l0_0.length c0_0,.slice A0_1 l0_1.length c0_1]) (t:=33) ?hr ?_;(case hd=>rfl);(case hg=>rfl);(case hr=>exact zz144);intro gb846 hg w6 hbox hb;have BK846:=Aside0.mk (hbox);have GW846:=Aside0.mk ((by rw [hg];exact (below_size (zz10)):w.heap.size≤gb846));have GE846:=Aside0.mk ((by rw [hg];exact (below_size (zz10)):w.heap.size≤gb846));replace HB:=Aside0.mk (below_step (zz10) hb);clear hb hbox hg;obtain ⟨hcz7_0,hcz7_1,hfz7_0,hfz7_1⟩:=zc2 BK846.out));try go_wp2_with (first|((with_reducible refine gate_dst (N:=1) rfl ?_);refine box_event ?hg (N:=1) ?hd (cs:=#[.slice A0_0 l0_0.length c0_0,.slice A0_1 l0_1.length c0_1]) (t:=33) ?hr ?_;(case hd=>rfl);(case hg=>rfl);(case hr=>exact zz144);intro gb846 hg w6 hbox hb;have BK846:=Aside0.mk (hbox);have GW846:=Aside0.mk ((by rw [hg];exact (below_size (zz10)):w.heap.size≤gb846));have GE846:=Aside0.mk ((by rw [hg];exact (below_size (zz10)):w.heap.size≤gb846));replace HB:=Aside0.mk (below_step (zz10) hb);clear hb hbox hg;obtain ⟨hcz7_0,hcz7_1,hfz7_0,hfz7_1⟩:=zc2 BK846.out)))
   go_ret
   exact ⟨zz14,(have h0_:=GE846;zz13)⟩
  ·have c5b0:=beq_eq_false_iff_ne.mpr c5;have c5b1:=bne_iff_ne.mpr c5;have c5b2:¬ (l0_0 = []):=fun h_=>c5 (by rw [h_];rfl);replace H:=zzj H;rcases H with ⟨c8,H⟩|⟨c8,H⟩
   ·have c8b0:=beq_iff_eq.mpr c8;have c8b1:=bne_eq_false_iff_eq.mpr c8;have c8b2:(l0_1.length == l0_0.length) = true:=(have h0_:=c8;zz20);clear c8;have H':=Aside0.mk H;clear H;go_enter Tryd.func51,Tryd.ntmps51
    go_wp2_with (first|((with_reducible refine gate_dst (N:=1) rfl ?_);refine box_event ?hg (N:=1) ?hd (cs:=#[.slice A0_0 l0_0.length c0_0,.slice A0_1 l0_1.length c0_1]) (t:=33) ?hr ?_;(case hd=>rfl);(case hg=>rfl);(case hr=>exact zz144);intro gb846 hg w9 hbox hb;have BK846:=Aside0.mk (hbox);have GW846:=Aside0.mk ((by rw [hg];exact (below_size (zz10)):w.heap.size≤gb846));have GE846:=Aside0.mk ((by rw [hg];exact (below_size (zz10)):w.heap.size≤gb846));replace HB:=Aside0.mk (below_step (zz10) hb);clear hb hbox hg;obtain ⟨hcz10_0,hcz10_1,hfz10_0,hfz10_1⟩:=zc2 BK846.out))
    repeat (go_quiet (first|((with_reducible refine gate_dst (N:=1) rfl ?_);refine box_event ?hg (N:=1) ?hd (cs:=#[.slice A0_0 l0_0.length c0_0,.slice A0_1 l0_1.length c0_1]) (t:=33) ?hr ?_;(case hd=>rfl);(case hg=>rfl);(case hr=>exact zz144);intro gb846 hg w9 hbox hb;have BK846:=Aside0.mk (hbox);have GW846:=Aside0.mk ((by rw [hg];exact (below_size (zz10)):w.heap.size≤gb846));have GE846:=Aside0.mk ((by rw [hg];exact (below_size (zz10)):w.heap.size≤gb846));replace HB:=Aside0.mk (below_step (zz10) hb);clear hb hbox hg;obtain ⟨hcz10_0,hcz10_1,hfz10_0,hfz10_1⟩:=zc2 BK846.out));try go_wp2_with (first|((with_reducible refine gate_dst (N:=1) rfl ?_);refine box_event ?hg (N:=1) ?hd (cs:=#[.slice A0_0 l0_0.length c0_0,.slice A0_1 l0_1.length c0_1]) (t:=33) ?hr ?_;(case hd=>rfl);(case hg=>rfl);(case hr=>exact zz144);intro gb846 hg w9 hbox hb;have BK846:=Aside0.mk (hbox);have GW846:=Aside0.mk ((by rw [hg];exact (below_size (zz10)):w.heap.size≤gb846));have GE846:=Aside0.mk ((by rw [hg];exact (below_size (zz10)):w.heap.size≤gb846));replace HB:=Aside0.mk (below_step (zz10) hb);clear hb hbox hg;obtain ⟨hcz10_0,hcz10_1,hfz10_0,hfz10_1⟩:=zc2 BK846.out)))
    go_loopg [4] k (fun kq v4 w'=>∃ (x4_1:Int),v4 = .int .i64 x4_1∧Aside0 (U3.l0 kq (l0_0.length:Int) x4_1 l0_0 l0_1 = some r)∧Aside0 (kq≤k)∧Aside0 (w'.heap[gb846]? = some (.cells #[(.slice A0_0 l0_0.length c0_0),(.slice A0_1 l0_1.length c0_1)] 33 (0,0)))∧Aside0 (Below w.heap.size w w'))
    case atStart=>exact ⟨(0),(zz1),H',⟨Nat.le_refl _⟩,⟨(have h0_:=BK846;zz12)⟩,⟨(have h0_:=GE846;zz13)⟩⟩
    case round =>
     clear H'
     clear c2b0 c2b1 c5 c5b0 c5b1 c5b2 c8b0 c8b1 c8b2;(try clear hcz10_0);(try clear hcz10_1);(try clear hfz10_0);(try clear hfz10_1)
     obtain ⟨x4_1,rfl,HA,HK1,BK846,HB⟩:=hrel
     cases gk with
     | zero=>exact absurd HA.out (by simp [U3.l0])
     | succ k1 =>
      have H:=HA.out;clear HA;simp only [U3.l0] at H;replace H:=zzj H;rcases H with ⟨c11,H⟩|⟨c11,H⟩
      ·have c11b0:=decide_eq_true c11;clear c11;replace H:=zzi H;obtain ⟨c12,H⟩:=H;have c12b0:=decide_eq_true c12;clear c12;replace H:=zzi H;obtain ⟨c13,H⟩:=H;have c13b0:=decide_eq_true c13;clear c13;replace H:=zzj H;rcases H with ⟨c14,H⟩|⟨c14,H⟩
       ·have c14b0:=decide_eq_true c14;clear c14;obtain rfl:=Option.some.inj H;obtain ⟨hcz15_0,hcz15_1,hfz15_0,hfz15_1⟩:=zc2 BK846.out;have p847:0≤(x4_1:Int):=of_decide_eq_true (zz4);have q847:x4_1 < (l0_0.length:Int):=of_decide_eq_true (zz4);obtain ⟨ad847,e847,hx847_0⟩:=Kd.at_int HR0_0.out x4_1 p847 q847
        cases e847
        replace hx847_0:=(HB.out.cell (World.block_lt_of_cell? w _ hx847_0)).trans hx847_0;replace p847:=eq_true p847;replace q847:=eq_true q847
        go_wp2
        repeat (go_quiet (fail);try go_wp2)
        go_ret
        exact ⟨zz14,(have h0_:=GE846;zz13)⟩
       ·have c14b0:=decide_eq_false c14;clear c14;replace H:=zzj H;rcases H with ⟨c16,H⟩|⟨c16,H⟩
        ·have c16b0:=decide_eq_true c16;clear c16;obtain rfl:=Option.some.inj H;obtain ⟨hcz17_0,hcz17_1,hfz17_0,hfz17_1⟩:=zc2 BK846.out;have p847:0≤(x4_1:Int):=of_decide_eq_true (zz4);have q847:x4_1 < (l0_0.length:Int):=of_decide_eq_true (zz4);obtain ⟨ad847,e847,hx847_0⟩:=Kd.at_int HR0_0.out x4_1 p847 q847
         cases e847
         replace hx847_0:=(HB.out.cell (World.block_lt_of_cell? w _ hx847_0)).trans hx847_0;replace p847:=eq_true p847;replace q847:=eq_true q847;have p848:0≤(x4_1:Int):=of_decide_eq_true (zz4);have q848:x4_1 < (l0_0.length:Int):=of_decide_eq_true (zz4);obtain ⟨ad848,e848,hx848_0⟩:=Kd.at_int HR0_0.out x4_1 p848 q848;obtain rfl:ad847 = ad848:=(by injection e848);replace hx848_0:=(HB.out.cell (World.block_lt_of_cell? w _ hx848_0)).trans hx848_0;replace p848:=eq_true p848;replace q848:=eq_true q848
         go_wp2
         repeat (go_quiet (fail);try go_wp2)
         go_ret
         exact ⟨zz14,(have h0_:=GE846;zz13)⟩
        ·have c16b0:=decide_eq_false c16;clear c16;replace H:=zzi H;obtain ⟨c18,H⟩:=H;have c18b0:=decide_eq_true c18;clear c18;replace H:=zzj H;rcases H with ⟨c19,H⟩|⟨c19,H⟩
         ·have c19b0:=decide_eq_true c19;clear c19;obtain rfl:=Option.some.inj H;obtain ⟨hcz20_0,hcz20_1,hfz20_0,hfz20_1⟩:=zc2 BK846.out;have p847:0≤(x4_1:Int):=of_decide_eq_true (zz4);have q847:x4_1 < (l0_0.length:Int):=of_decide_eq_true (zz4);obtain ⟨ad847,e847,hx847_0⟩:=Kd.at_int HR0_0.out x4_1 p847 q847
          cases e847
          replace hx847_0:=(HB.out.cell (World.block_lt_of_cell? w _ hx847_0)).trans hx847_0;replace p847:=eq_true p847;replace q847:=eq_true q847;have p848:0≤(x4_1:Int):=of_decide_eq_true (zz4);have q848:x4_1 < (l0_0.length:Int):=of_decide_eq_true (zz4);obtain ⟨ad848,e848,hx848_0⟩:=Kd.at_int HR0_0.out x4_1 p848 q848;obtain rfl:ad847 = ad848:=(by injection e848);replace hx848_0:=(HB.out.cell (World.block_lt_of_cell? w _ hx848_0)).trans hx848_0;replace p848:=eq_true p848;replace q848:=eq_true q848;have p849:0≤(x4_1:Int):=of_decide_eq_true (zz4);have q849:x4_1 < (l0_1.length:Int):=of_decide_eq_true (zz4);obtain ⟨ad849,e849,hx849_0⟩:=Kd.at_int HR0_1.out x4_1 p849 q849
          cases e849
          replace hx849_0:=(HB.out.cell (World.block_lt_of_cell? w _ hx849_0)).trans hx849_0;replace p849:=eq_true p849;replace q849:=eq_true q849
          go_wp2
          repeat (go_quiet (fail);try go_wp2)
          go_ret
          exact ⟨zz14,(have h0_:=GE846;zz13)⟩
         ·have c19b0:=decide_eq_false c19;clear c19;replace H:=zzj H;rcases H with ⟨c21,H⟩|⟨c21,H⟩
          ·have c21b0:=decide_eq_true c21;clear c21;obtain rfl:=Option.some.inj H;obtain ⟨hcz22_0,hcz22_1,hfz22_0,hfz22_1⟩:=zc2 BK846.out;have p847:0≤(x4_1:Int):=of_decide_eq_true (zz4);have q847:x4_1 < (l0_0.length:Int):=of_decide_eq_true (zz4);obtain ⟨ad847,e847,hx847_0⟩:=Kd.at_int HR0_0.out x4_1 p847 q847
           cases e847
           replace hx847_0:=(HB.out.cell (World.block_lt_of_cell? w _ hx847_0)).trans hx847_0;replace p847:=eq_true p847;replace q847:=eq_true q847;have p848:0≤(x4_1:Int):=of_decide_eq_true (zz4);have q848:x4_1 < (l0_0.length:Int):=of_decide_eq_true (zz4);obtain ⟨ad848,e848,hx848_0⟩:=Kd.at_int HR0_0.out x4_1 p848 q848;obtain rfl:ad847 = ad848:=(by injection e848);replace hx848_0:=(HB.out.cell (World.block_lt_of_cell? w _ hx848_0)).trans hx848_0;replace p848:=eq_true p848;replace q848:=eq_true q848;have p849:0≤(x4_1:Int):=of_decide_eq_true (zz4);have q849:x4_1 < (l0_1.length:Int):=of_decide_eq_true (zz4);obtain ⟨ad849,e849,hx849_0⟩:=Kd.at_int HR0_1.out x4_1 p849 q849
           cases e849
           replace hx849_0:=(HB.out.cell (World.block_lt_of_cell? w _ hx849_0)).trans hx849_0;replace p849:=eq_true p849;replace q849:=eq_true q849;have p850:0≤(x4_1:Int):=of_decide_eq_true (zz4);have q850:x4_1 < (l0_1.length:Int):=of_decide_eq_true (zz4);obtain ⟨ad850,e850,hx850_0⟩:=Kd.at_int HR0_1.out x4_1 p850 q850;obtain rfl:ad849 = ad850:=(by injection e850);replace hx850_0:=(HB.out.cell (World.block_lt_of_cell? w _ hx850_0)).trans hx850_0;replace p850:=eq_true p850;replace q850:=eq_true q850
           go_wp2
           repeat (go_quiet (fail);try go_wp2)
           go_ret
           exact ⟨zz14,(have h0_:=GE846;zz13)⟩
          ·have c21b0:=decide_eq_false c21;clear c21;have H':=Aside0.mk H;clear H;obtain ⟨hcz23_0,hcz23_1,hfz23_0,hfz23_1⟩:=zc2 BK846.out;have p847:0≤(x4_1:Int):=of_decide_eq_true (zz4);have q847:x4_1 < (l0_0.length:Int):=of_decide_eq_true (zz4);obtain ⟨ad847,e847,hx847_0⟩:=Kd.at_int HR0_0.out x4_1 p847 q847
           cases e847
           replace hx847_0:=(HB.out.cell (World.block_lt_of_cell? w _ hx847_0)).trans hx847_0;replace p847:=eq_true p847;replace q847:=eq_true q847;have p848:0≤(x4_1:Int):=of_decide_eq_true (zz4);have q848:x4_1 < (l0_0.length:Int):=of_decide_eq_true (zz4);obtain ⟨ad848,e848,hx848_0⟩:=Kd.at_int HR0_0.out x4_1 p848 q848;obtain rfl:ad847 = ad848:=(by injection e848);replace hx848_0:=(HB.out.cell (World.block_lt_of_cell? w _ hx848_0)).trans hx848_0;replace p848:=eq_true p848;replace q848:=eq_true q848;have p849:0≤(x4_1:Int):=of_decide_eq_true (zz4);have q849:x4_1 < (l0_1.length:Int):=of_decide_eq_true (zz4);obtain ⟨ad849,e849,hx849_0⟩:=Kd.at_int HR0_1.out x4_1 p849 q849
           cases e849
           replace hx849_0:=(HB.out.cell (World.block_lt_of_cell? w _ hx849_0)).trans hx849_0;replace p849:=eq_true p849;replace q849:=eq_true q849;have p850:0≤(x4_1:Int):=of_decide_eq_true (zz4);have q850:x4_1 < (l0_1.length:Int):=of_decide_eq_true (zz4);obtain ⟨ad850,e850,hx850_0⟩:=Kd.at_int HR0_1.out x4_1 p850 q850;obtain rfl:ad849 = ad850:=(by injection e850);replace hx850_0:=(HB.out.cell (World.block_lt_of_cell? w _ hx850_0)).trans hx850_0;replace p850:=eq_true p850;replace q850:=eq_true q850
           go_wp2
           repeat (go_quiet (fail);try go_wp2)
           go_roundg k1
           case measure=>have:=HK1.out;omega
           case rel=>exact ⟨(wrap64 (x4_1+1)),(zz1),H',⟨zz6⟩,⟨(have h0_:=BK846;zz12)⟩,⟨(have h0_:=GE846;zz13)⟩⟩
      ·have c11b0:=decide_eq_false c11;clear c11;have H':=Aside0.mk H;clear H
       go_wp2
       repeat (go_quiet (fail);try go_wp2)
       go_loopg [5] k1 (fun kq v5 w'=>∃ (x5_2:Int),v5 = .int .i64 x5_2∧Aside0 (U3.l1 kq (l0_0.length:Int) x5_2 l0_0 l0_1 = some r)∧Aside0 (kq≤k1)∧Aside0 (w'.heap[gb846]? = some (.cells #[(.slice A0_0 l0_0.length c0_0),(.slice A0_1 l0_1.length c0_1)] 33 (0,0)))∧Aside0 (Below w.heap.size w w'))
       case atStart=>exact ⟨(1),(zz1),H',⟨Nat.le_refl _⟩,⟨(have h0_:=BK846;zz12)⟩,⟨(have h0_:=GE846;zz13)⟩⟩
       case round =>
        clear H'
        clear c11b0;(try clear hcz10_0);(try clear hcz10_1);(try clear hcz4_0);(try clear hcz4_1);(try clear hcz7_0);(try clear hcz7_1);(try clear hfz10_0);(try clear hfz10_1);(try clear hfz4_0);(try clear hfz4_1);(try clear hfz7_0);(try clear hfz7_1)
        obtain ⟨x5_2,rfl,HA,HK2,BK846,HB⟩:=hrel
        cases gk with
        | zero=>exact absurd HA.out (by simp [U3.l1])
        | succ k2 =>
         have H:=HA.out;clear HA;simp only [U3.l1] at H;replace H:=zzj H;rcases H with ⟨c24,H⟩|⟨c24,H⟩
         ·have c24b0:=decide_eq_true c24;clear c24;replace H:=zzi H;obtain ⟨c25,H⟩:=H;have c25b0:=decide_eq_true c25;clear c25;replace H:=zzi H;obtain ⟨c26,H⟩:=H;have c26b0:=decide_eq_true c26;clear c26;obtain ⟨ji27,hji27⟩:∃ j_:Int,(wrap64 (x5_2 - 1)) = j_:=⟨_,rfl⟩;replace H:(if 0≤(ji27) then (if (ji27) < (l0_0.length:Int) then (if (rd l0_0 x5_2)≤(rd l0_0 (ji27)) then (some 23) else (U3.l1 k2 (l0_0.length:Int) (wrap64 (x5_2+1)) l0_0 l0_1)) else (none)) else (none)) = some r:=(have h0_:=hji27;zz19);have hji27w:(IntKind.i64.wrap (x5_2 - 1)) = ji27:=(i64_w _).trans hji27;replace H:=zzi H;obtain ⟨c28,H⟩:=H;have c28b0:=decide_eq_true c28;clear c28;replace H:=zzi H;obtain ⟨c29,H⟩:=H;have c29b0:=decide_eq_true c29;clear c29;replace H:=zzj H;rcases H with ⟨c30,H⟩|⟨c30,H⟩
          ·have c30b0:=decide_eq_true c30;clear c30;obtain rfl:=Option.some.inj H;obtain ⟨hcz31_0,hcz31_1,hfz31_0,hfz31_1⟩:=zc2 BK846.out;have p851:0≤(x5_2:Int):=of_decide_eq_true (zz4);have q851:x5_2 < (l0_0.length:Int):=of_decide_eq_true (zz4);obtain ⟨ad851,e851,hx851_0⟩:=Kd.at_int HR0_0.out x5_2 p851 q851
           cases e851
           replace hx851_0:=(HB.out.cell (World.block_lt_of_cell? w _ hx851_0)).trans hx851_0;replace p851:=eq_true p851;replace q851:=eq_true q851;have p852:0≤((ji27):Int):=of_decide_eq_true (zz4);have q852:(ji27) < (l0_0.length:Int):=of_decide_eq_true (zz4);obtain ⟨ad852,e852,hx852_0⟩:=Kd.at_int HR0_0.out (ji27) p852 q852;obtain rfl:ad851 = ad852:=(by injection e852);replace hx852_0:=(HB.out.cell (World.block_lt_of_cell? w _ hx852_0)).trans hx852_0;replace p852:=eq_true p852;replace q852:=eq_true q852
           go_wp2
           repeat (go_quiet (fail);try go_wp2)
           go_ret
           exact ⟨(have h0_:=hji27;zz21),(have h0_:=GE846;zz13)⟩
          ·have c30b0:=decide_eq_false c30;clear c30;have H':=Aside0.mk H;clear H;obtain ⟨hcz32_0,hcz32_1,hfz32_0,hfz32_1⟩:=zc2 BK846.out;have p851:0≤(x5_2:Int):=of_decide_eq_true (zz4);have q851:x5_2 < (l0_0.length:Int):=of_decide_eq_true (zz4);obtain ⟨ad851,e851,hx851_0⟩:=Kd.at_int HR0_0.out x5_2 p851 q851
           cases e851
           replace hx851_0:=(HB.out.cell (World.block_lt_of_cell? w _ hx851_0)).trans hx851_0;replace p851:=eq_true p851;replace q851:=eq_true q851;have p852:0≤((ji27):Int):=of_decide_eq_true (zz4);have q852:(ji27) < (l0_0.length:Int):=of_decide_eq_true (zz4);obtain ⟨ad852,e852,hx852_0⟩:=Kd.at_int HR0_0.out (ji27) p852 q852;obtain rfl:ad851 = ad852:=(by injection e852);replace hx852_0:=(HB.out.cell (World.block_lt_of_cell? w _ hx852_0)).trans hx852_0;replace p852:=eq_true p852;replace q852:=eq_true q852
           go_wp2
           repeat (go_quiet (fail);try go_wp2)
           go_roundg k2
           case measure=>have:=HK1.out;have:=HK2.out;omega
           case rel=>exact ⟨(wrap64 (x5_2+1)),(zz1),H',⟨zz23⟩,⟨(have h0_:=BK846;zz12)⟩,⟨(have h0_:=GE846;zz13)⟩⟩
         ·have c24b0:=decide_eq_false c24;clear c24;obtain rfl:=Option.some.inj H
          go_wp2
          repeat (go_quiet (fail);try go_wp2)
          go_ret
          exact ⟨zz14,(have h0_:=GE846;zz13)⟩
   ·have c8b0:=beq_eq_false_iff_ne.mpr c8;have c8b1:=bne_iff_ne.mpr c8;have c8b2:(l0_1.length == l0_0.length) = false:=(have h0_:=c8;zz20);obtain rfl:=Option.some.inj H;go_enter Tryd.func51,Tryd.ntmps51
    go_wp2_with (first|((with_reducible refine gate_dst (N:=1) rfl ?_);refine box_event ?hg (N:=1) ?hd (cs:=#[.slice A0_0 l0_0.length c0_0,.slice A0_1 l0_1.length c0_1]) (t:=33) ?hr ?_;(case hd=>rfl);(case hg=>rfl);(case hr=>exact zz144);intro gb846 hg w33 hbox hb;have BK846:=Aside0.mk (hbox);have GW846:=Aside0.mk ((by rw [hg];exact (below_size (zz10)):w.heap.size≤gb846));have GE846:=Aside0.mk ((by rw [hg];exact (below_size (zz10)):w.heap.size≤gb846));replace HB:=Aside0.mk (below_step (zz10) hb);clear hb hbox hg;obtain ⟨hcz34_0,hcz34_1,hfz34_0,hfz34_1⟩:=zc2 BK846.out))
    repeat (go_quiet (first|((with_reducible refine gate_dst (N:=1) rfl ?_);refine box_event ?hg (N:=1) ?hd (cs:=#[.slice A0_0 l0_0.length c0_0,.slice A0_1 l0_1.length c0_1]) (t:=33) ?hr ?_;(case hd=>rfl);(case hg=>rfl);(case hr=>exact zz144);intro gb846 hg w33 hbox hb;have BK846:=Aside0.mk (hbox);have GW846:=Aside0.mk ((by rw [hg];exact (below_size (zz10)):w.heap.size≤gb846));have GE846:=Aside0.mk ((by rw [hg];exact (below_size (zz10)):w.heap.size≤gb846));replace HB:=Aside0.mk (below_step (zz10) hb);clear hb hbox hg;obtain ⟨hcz34_0,hcz34_1,hfz34_0,hfz34_1⟩:=zc2 BK846.out));try go_wp2_with (first|((with_reducible refine gate_dst (N:=1) rfl ?_);refine box_event ?hg (N:=1) ?hd (cs:=#[.slice A0_0 l0_0.length c0_0,.slice A0_1 l0_1.length c0_1]) (t:=33) ?hr ?_;(case hd=>rfl);(case hg=>rfl);(case hr=>exact zz144);intro gb846 hg w33 hbox hb;have BK846:=Aside0.mk (hbox);have GW846:=Aside0.mk ((by rw [hg];exact (below_size (zz10)):w.heap.size≤gb846));have GE846:=Aside0.mk ((by rw [hg];exact (below_size (zz10)):w.heap.size≤gb846));replace HB:=Aside0.mk (below_step (zz10) hb);clear hb hbox hg;obtain ⟨hcz34_0,hcz34_1,hfz34_0,hfz34_1⟩:=zc2 BK846.out)))
    go_ret
    exact ⟨zz14,(have h0_:=GE846;zz13)⟩
def U7.f (a0:Int) (a1:Int):Option (Bool):=if a0≥(-1000) then (if a0≤1000 then (if a1≥0 then (some (decide (a1≤2000))) else (some false)) else (some false)) else (some false)
set_option maxHeartbeats 8000000 in
set_option maxRecDepth 100000 in
theorem U7.calls (a0:Int) (a1:Int) (r:Bool) (w:World) (h:U7.f a0 a1 = some r) :
  Calls Tryd.prog 52 #[.int .i64 a0,.int .i64 a1] w fun e w'=>e = .returned (.bool r)∧Drawn0 w w':=by
 have H:(if a0≥(-1000) then (if a0≤1000 then (if a1≥0 then (some (decide (a1≤2000))) else (some false)) else (some false)) else (some false)) = some r:=h;clear h;replace H:=zzj H;rcases H with ⟨c3,H⟩|⟨c3,H⟩
 ·have c3b0:=decide_eq_true c3;clear c3;replace H:=zzj H;rcases H with ⟨c4,H⟩|⟨c4,H⟩
  ·have c4b0:=decide_eq_true c4;clear c4;replace H:=zzj H;rcases H with ⟨c5,H⟩|⟨c5,H⟩
   ·have c5b0:=decide_eq_true c5;clear c5;obtain rfl:=Option.some.inj H;go_enter Tryd.func52,Tryd.ntmps52
    go_wp2
    go_ret
    exact ⟨zz1,zz2⟩
   ·have c5b0:=decide_eq_false c5;clear c5;obtain rfl:=Option.some.inj H;go_enter Tryd.func52,Tryd.ntmps52
    go_wp2
    go_ret
    exact ⟨zz1,zz2⟩
  ·have c4b0:=decide_eq_false c4;clear c4;obtain rfl:=Option.some.inj H;go_enter Tryd.func52,Tryd.ntmps52
   go_wp2
   go_ret
   exact ⟨zz1,zz2⟩
 ·have c3b0:=decide_eq_false c3;clear c3;obtain rfl:=Option.some.inj H;go_enter Tryd.func52,Tryd.ntmps52
  go_wp2
  go_ret
  exact ⟨zz1,zz2⟩
def U6.f (a0:Int):Option (Int):=if (Int.tmod a0 100) < 0 then (some (wrap64 ((wrap64 (Int.tdiv a0 100)) - 1))) else (some (wrap64 (Int.tdiv a0 100)))
set_option maxHeartbeats 8000000 in
set_option maxRecDepth 100000 in
theorem U6.calls (a0:Int) (r:Int) (w:World) (h:U6.f a0 = some r) :
  Calls Tryd.prog 53 #[.int .i64 a0] w fun e w'=>e = .returned (.int .i64 r)∧Drawn0 w w':=by
 have H:(if (Int.tmod a0 100) < 0 then (some (wrap64 ((wrap64 (Int.tdiv a0 100)) - 1))) else (some (wrap64 (Int.tdiv a0 100)))) = some r:=h;clear h;replace H:=zzj H;rcases H with ⟨c2,H⟩|⟨c2,H⟩
 ·have c2b0:=decide_eq_true c2;clear c2;obtain rfl:=Option.some.inj H;go_enter Tryd.func53,Tryd.ntmps53
  go_wp2
  go_ret
  exact ⟨zz1,zz2⟩
 ·have c2b0:=decide_eq_false c2;clear c2;obtain rfl:=Option.some.inj H;go_enter Tryd.func53,Tryd.ntmps53
  go_wp2
  go_ret
  exact ⟨zz1,zz2⟩
end Go.Proofs.YtfkmbjkmlfnapaaDoor.QA
