import Derived.Test.YtmcegphcjphdcaaXSwQAx0
namespace Go.Proofs.Ytmcegphcjphdcaa.QA
open Go.RowKit Go.Proofs.YtmcegphcjphdcaaW.PrintWords Go.Proofs.YtmcegphcjphdcaaW.PrintLast Go.Proofs.YtmcegphcjphdcaaW.PrintMore
attribute [local go_sem] max2_int min2_int max_two min_two max_three min_three max_four min_four
set_option linter.unusedVariables false
set_option linter.unusedSimpArgs false
mutual
def U21.l0:Nat→Int→Int→List Int→List Int→Option (Int)
 | 0,_,_,_,_=>none
 | k+1,x3,x4,x216000,x216001=>if x4 < x3 then (if 0≤x4 then (if x4 < (x216000.length:Int) then (if (rd x216000 x4) < (-1000) then (some 3) else (if (rd x216000 x4) > 1000 then (some 3) else (if x4 < (x216001.length:Int) then (if (rd x216001 x4) < 1 then (some 3) else (if (rd x216001 x4) > 1000 then (some 3) else (U21.l0 k x3 (wrap64 (x4+1)) x216000 x216001))) else (none)))) else (none)) else (none)) else (U21.l1 k x3 1 x216000 x216001)
def U21.l1:Nat→Int→Int→List Int→List Int→Option (Int)
 | 0,_,_,_,_=>none
 | k+1,x3,x5,x216000,x216001=>if x5 < x3 then (if 0≤x5 then (if x5 < (x216000.length:Int) then (if 0≤(wrap64 (x5 - 1)) then (if (wrap64 (x5 - 1)) < (x216000.length:Int) then (if (rd x216000 x5)≤(rd x216000 (wrap64 (x5 - 1))) then (some 23) else (U21.l1 k x3 (wrap64 (x5+1)) x216000 x216001)) else (none)) else (none)) else (none)) else (none)) else (some 0)
end
def U21.f (k:Nat) (l0_0:List Int) (l0_1:List Int):Option (Int):=if (l0_0.length:Int) > 21 then (some 5) else (if (l0_0.length:Int) = 0 then (some 20) else (if (l0_1.length:Int) = (l0_0.length:Int) then (U21.l0 k (l0_0.length:Int) 0 l0_0 l0_1) else (some 1)))
theorem zm6_0 {P:Prop} (h:P:=by repeat' first|(with_reducible first|exact ih0 ..|exact ih1 ..|exact LeO.refl _|exact LeO.none _|refine LeO.ite ?_ ?_|refine LeO.bind ?_ (fun _=>?_))|exact ih0 ..|exact ih1 ..|exact LeO.none _|refine LeO.ite ?_ ?_|refine LeO.bind ?_ (fun _=>?_)):P:=h
theorem U21.mono_l:∀ k,(∀ y0 y1 y2 y3,LeO (U21.l0 k y0 y1 y2 y3) (U21.l0 (k+1) y0 y1 y2 y3))∧(∀ y0 y1 y2 y3,LeO (U21.l1 k y0 y1 y2 y3) (U21.l1 (k+1) y0 y1 y2 y3))
 | 0=>⟨fun _ _ _ _ r h=>by simp [U21.l0] at h,fun _ _ _ _ r h=>by simp [U21.l1] at h⟩
 | k+1=>by
  obtain ⟨ih0,ih1⟩:=U21.mono_l k;refine ⟨?_,?_⟩
  ·intro y0 y1 y2 y3;unfold U21.l0
   exact zm6_0
  ·intro y0 y1 y2 y3;unfold U21.l1
   exact zm6_0
theorem U21.mono:∀ a0 a1 k,LeO (U21.f k a0 a1) (U21.f (k+1) a0 a1):=by
 intro a0 a1 k;obtain ⟨ih0,ih1⟩:=U21.mono_l k;unfold U21.f
 exact zm6_0
set_option maxHeartbeats 8000000 in
set_option maxRecDepth 100000 in
theorem U21.calls (k:Nat) (A0_0:Option Addr) (c0_0:Nat) (l0_0:List Int) (A0_1:Option Addr) (c0_1:Nat) (l0_1:List Int) (r:Int) (w:World) (hr0_0:Kd.C (Kd.int .i64) w A0_0 l0_0.length l0_0) (hc0_0:l0_0.length≤c0_0) (hr0_1:Kd.C (Kd.int .i64) w A0_1 l0_1.length l0_1) (hc0_1:l0_1.length≤c0_1) (h:U21.f k l0_0 l0_1 = some r) :
  Calls Try.prog 32 #[.agg #[.slice A0_0 l0_0.length c0_0,.slice A0_1 l0_1.length c0_1]] w fun e w'=>e = .returned (.int .i64 r)∧Below w.heap.size w w':=by
 have hu24:=Try.underlying24;have HR0_0:=Aside0.mk hr0_0;have HC0_0:=Aside0.mk hc0_0;clear hr0_0 hc0_0;have HR0_1:=Aside0.mk hr0_1;have HC0_1:=Aside0.mk hc0_1;clear hr0_1 hc0_1;have HB:=Aside0.mk (Below.refl w.heap.size w);have H:(if (l0_0.length:Int) > 21 then (some 5) else (if (l0_0.length:Int) = 0 then (some 20) else (if (l0_1.length:Int) = (l0_0.length:Int) then (U21.l0 k (l0_0.length:Int) 0 l0_0 l0_1) else (some 1)))) = some r:=h;clear h;replace H:=zzj H;rcases H with ⟨c2,H⟩|⟨c2,H⟩
 ·have c2b0:=decide_eq_true c2;have c2b1:decide (21 < l0_0.length) = true:=decide_eq_true (zz4);clear c2;obtain rfl:=Option.some.inj H;go_enter Try.func32,Try.ntmps32
  go_wp2_with (first|((with_reducible refine gate_dst (N:=1) rfl ?_);refine box_event ?hg (N:=1) ?hd (cs:=#[.slice A0_0 l0_0.length c0_0,.slice A0_1 l0_1.length c0_1]) (t:=24) ?hr ?_;(case hd=>rfl);(case hg=>rfl);(case hr=>exact zz109);intro gb215 hg w3 hbox hb;have BK215:=Aside0.mk (hbox);have GW215:=Aside0.mk ((by rw [hg];exact (below_size (zz5)):w.heap.size≤gb215));have GE215:=Aside0.mk ((by rw [hg];exact (below_size (zz5)):w.heap.size≤gb215));replace HB:=Aside0.mk (below_step (zz5) hb);clear hb hbox hg;obtain ⟨hcz4_0,hcz4_1,hfz4_0,hfz4_1⟩:=zc2 BK215.out))
  repeat (go_quiet (first|((with_reducible refine gate_dst (N:=1) rfl ?_);refine box_event ?hg (N:=1) ?hd (cs:=#[.slice A0_0 l0_0.length c0_0,.slice A0_1 l0_1.length c0_1]) (t:=24) ?hr ?_;(case hd=>rfl);(case hg=>rfl);(case hr=>exact zz109);intro gb215 hg w3 hbox hb;have BK215:=Aside0.mk (hbox);have GW215:=Aside0.mk ((by rw [hg];exact (below_size (zz5)):w.heap.size≤gb215));have GE215:=Aside0.mk ((by rw [hg];exact (below_size (zz5)):w.heap.size≤gb215));replace HB:=Aside0.mk (below_step (zz5) hb);clear hb hbox hg;obtain ⟨hcz4_0,hcz4_1,hfz4_0,hfz4_1⟩:=zc2 BK215.out));try go_wp2_with (first|((with_reducible refine gate_dst (N:=1) rfl ?_);refine box_event ?hg (N:=1) ?hd (cs:=#[.slice A0_0 l0_0.length c0_0,.slice A0_1 l0_1.length c0_1]) (t:=24) ?hr ?_;(case hd=>rfl);(case hg=>rfl);(case hr=>exact zz109);intro gb215 hg w3 hbox hb;have BK215:=Aside0.mk (hbox);have GW215:=Aside0.mk ((by rw [hg];exact (below_size (zz5)):w.heap.size≤gb215));have GE215:=Aside0.mk ((by rw [hg];exact (below_size (zz5)):w.heap.size≤gb215));replace HB:=Aside0.mk (below_step (zz5) hb);clear hb hbox hg;obtain ⟨hcz4_0,hcz4_1,hfz4_0,hfz4_1⟩:=zc2 BK215.out)))
  go_ret
  exact ⟨zz6,(have h0_:=GE215;zz7)⟩
 ·have c2b0:=decide_eq_false c2;have c2b1:decide (21 < l0_0.length) = false:=decide_eq_false (zz4);clear c2;replace H:=zzj H;rcases H with ⟨c5,H⟩|⟨c5,H⟩
  ·have c5b0:=beq_iff_eq.mpr c5;have c5b1:=bne_eq_false_iff_eq.mpr c5;clear c5;obtain rfl:=Option.some.inj H;go_enter Try.func32,Try.ntmps32
   go_wp2_with (first|((with_reducible refine gate_dst (N:=1) rfl ?_);refine box_event ?hg (N:=1) ?hd (cs:=#[.slice A0_0 l0_0.length c0_0,.slice A0_1 l0_1.length c0_1]) (t:=24) ?hr ?_;(case hd=>rfl);(case hg=>rfl);(case hr=>exact zz109);intro gb215 hg w6 hbox hb;have BK215:=Aside0.mk (hbox);have GW215:=Aside0.mk ((by rw [hg];exact (below_size (zz5)):w.heap.size≤gb215));have GE215:=Aside0.mk ((by rw [hg];exact (below_size (zz5)):w.heap.size≤gb215));replace HB:=Aside0.mk (below_step (zz5) hb);clear hb hbox hg;obtain ⟨hcz7_0,hcz7_1,hfz7_0,hfz7_1⟩:=zc2 BK215.out))
   repeat (go_quiet (first|((with_reducible refine gate_dst (N:=1) rfl ?_);refine box_event ?hg (N:=1) ?hd (cs:=#[.slice A0_0 l0_0.length c0_0,.slice A0_1 l0_1.length c0_1]) (t:=24) ?hr ?_;(case hd=>rfl);(case hg=>rfl);(case hr=>exact zz109);intro gb215 hg w6 hbox hb;have BK215:=Aside0.mk (hbox);have GW215:=Aside0.mk ((by rw [hg];exact (below_size (zz5)):w.heap.size≤gb215));have GE215:=Aside0.mk ((by rw [hg];exact (below_size (zz5)):w.heap.size≤gb215));replace HB:=Aside0.mk (below_step (zz5) hb);clear hb hbox hg;obtain ⟨hcz7_0,hcz7_1,hfz7_0,hfz7_1⟩:=zc2 BK215.out));try go_wp2_with (first|((with_reducible refine gate_dst (N:=1) rfl ?_);refine box_event ?hg (N:=1) ?hd (cs:=#[.slice A0_0 l0_0.length c0_0,.slice A0_1 l0_1.length c0_1]) (t:=24) ?hr ?_;(case hd=>rfl);(case hg=>rfl);(case hr=>exact zz109);intro gb215 hg w6 hbox hb;have BK215:=Aside0.mk (hbox);have GW215:=Aside0.mk ((by rw [hg];exact (below_size (zz5)):w.heap.size≤gb215));have GE215:=Aside0.mk ((by rw [hg];exact (below_size (zz5)):w.heap.size≤gb215));replace HB:=Aside0.mk (below_step (zz5) hb);clear hb hbox hg;obtain ⟨hcz7_0,hcz7_1,hfz7_0,hfz7_1⟩:=zc2 BK215.out)))
   go_ret
   exact ⟨zz6,(have h0_:=GE215;zz7)⟩
  ·have c5b0:=beq_eq_false_iff_ne.mpr c5;have c5b1:=bne_iff_ne.mpr c5;have c5b2:¬ (l0_0 = []):=fun h_=>c5 (by rw [h_];rfl);replace H:=zzj H;rcases H with ⟨c8,H⟩|⟨c8,H⟩
   ·have c8b0:=beq_iff_eq.mpr c8;have c8b1:=bne_eq_false_iff_eq.mpr c8;have c8b2:(l0_1.length == l0_0.length) = true:=(have h0_:=c8;zz8);clear c8;have H':=Aside0.mk H;clear H;go_enter Try.func32,Try.ntmps32
    go_wp2_with (first|((with_reducible refine gate_dst (N:=1) rfl ?_);refine box_event ?hg (N:=1) ?hd (cs:=#[.slice A0_0 l0_0.length c0_0,.slice A0_1 l0_1.length c0_1]) (t:=24) ?hr ?_;(case hd=>rfl);(case hg=>rfl);(case hr=>exact zz109);intro gb215 hg w9 hbox hb;have BK215:=Aside0.mk (hbox);have GW215:=Aside0.mk ((by rw [hg];exact (below_size (zz5)):w.heap.size≤gb215));have GE215:=Aside0.mk ((by rw [hg];exact (below_size (zz5)):w.heap.size≤gb215));replace HB:=Aside0.mk (below_step (zz5) hb);clear hb hbox hg;obtain ⟨hcz10_0,hcz10_1,hfz10_0,hfz10_1⟩:=zc2 BK215.out))
    repeat (go_quiet (first|((with_reducible refine gate_dst (N:=1) rfl ?_);refine box_event ?hg (N:=1) ?hd (cs:=#[.slice A0_0 l0_0.length c0_0,.slice A0_1 l0_1.length c0_1]) (t:=24) ?hr ?_;(case hd=>rfl);(case hg=>rfl);(case hr=>exact zz109);intro gb215 hg w9 hbox hb;have BK215:=Aside0.mk (hbox);have GW215:=Aside0.mk ((by rw [hg];exact (below_size (zz5)):w.heap.size≤gb215));have GE215:=Aside0.mk ((by rw [hg];exact (below_size (zz5)):w.heap.size≤gb215));replace HB:=Aside0.mk (below_step (zz5) hb);clear hb hbox hg;obtain ⟨hcz10_0,hcz10_1,hfz10_0,hfz10_1⟩:=zc2 BK215.out));try go_wp2_with (first|((with_reducible refine gate_dst (N:=1) rfl ?_);refine box_event ?hg (N:=1) ?hd (cs:=#[.slice A0_0 l0_0.length c0_0,.slice A0_1 l0_1.length c0_1]) (t:=24) ?hr ?_;(case hd=>rfl);(case hg=>rfl);(case hr=>exact zz109);intro gb215 hg w9 hbox hb;have BK215:=Aside0.mk (hbox);have GW215:=Aside0.mk ((by rw [hg];exact (below_size (zz5)):w.heap.size≤gb215));have GE215:=Aside0.mk ((by rw [hg];exact (below_size (zz5)):w.heap.size≤gb215));replace HB:=Aside0.mk (below_step (zz5) hb);clear hb hbox hg;obtain ⟨hcz10_0,hcz10_1,hfz10_0,hfz10_1⟩:=zc2 BK215.out)))
    go_loopg [4] k (fun kq v4 w'=>∃ (x4_1:Int),v4 = .int .i64 x4_1∧Aside0 (U21.l0 kq (l0_0.length:Int) x4_1 l0_0 l0_1 = some r)∧Aside0 (kq≤k)∧Aside0 (w'.heap[gb215]? = some (.cells #[(.slice A0_0 l0_0.length c0_0),(.slice A0_1 l0_1.length c0_1)] 24 (0,0)))∧Aside0 (Below w.heap.size w w'))
    case atStart=>exact ⟨(0),(zz2),H',⟨Nat.le_refl _⟩,⟨(have h0_:=BK215;zz9)⟩,⟨(have h0_:=GE215;zz7)⟩⟩
    case round =>
     clear H'
     clear c2b0 c2b1 c5 c5b0 c5b1 c5b2 c8b0 c8b1 c8b2;(try clear hcz10_0);(try clear hcz10_1);(try clear hfz10_0);(try clear hfz10_1)
     obtain ⟨x4_1,rfl,HA,HK1,BK215,HB⟩:=hrel
     cases gk with
     | zero=>exact absurd HA.out (by simp [U21.l0])
     | succ k1 =>
      have H:=HA.out;clear HA;simp only [U21.l0] at H;replace H:=zzj H;rcases H with ⟨c11,H⟩|⟨c11,H⟩
      ·have c11b0:=decide_eq_true c11;clear c11;replace H:=zzi H;obtain ⟨c12,H⟩:=H;have c12b0:=decide_eq_true c12;clear c12;replace H:=zzi H;obtain ⟨c13,H⟩:=H;have c13b0:=decide_eq_true c13;clear c13;replace H:=zzj H;rcases H with ⟨c14,H⟩|⟨c14,H⟩
       ·have c14b0:=decide_eq_true c14;clear c14;obtain rfl:=Option.some.inj H;obtain ⟨hcz15_0,hcz15_1,hfz15_0,hfz15_1⟩:=zc2 BK215.out;have p216:0≤(x4_1:Int):=of_decide_eq_true (zz11);have q216:x4_1 < (l0_0.length:Int):=of_decide_eq_true (zz11);obtain ⟨ad216,e216,hx216_0⟩:=Kd.at_int HR0_0.out x4_1 p216 q216
        cases e216
        replace hx216_0:=(HB.out.cell (World.block_lt_of_cell? w _ hx216_0)).trans hx216_0;replace p216:=eq_true p216;replace q216:=eq_true q216
        go_wp2
        repeat (go_quiet (fail);try go_wp2)
        go_ret
        exact ⟨zz6,(have h0_:=GE215;zz7)⟩
       ·have c14b0:=decide_eq_false c14;clear c14;replace H:=zzj H;rcases H with ⟨c16,H⟩|⟨c16,H⟩
        ·have c16b0:=decide_eq_true c16;clear c16;obtain rfl:=Option.some.inj H;obtain ⟨hcz17_0,hcz17_1,hfz17_0,hfz17_1⟩:=zc2 BK215.out;have p216:0≤(x4_1:Int):=of_decide_eq_true (zz11);have q216:x4_1 < (l0_0.length:Int):=of_decide_eq_true (zz11);obtain ⟨ad216,e216,hx216_0⟩:=Kd.at_int HR0_0.out x4_1 p216 q216
         cases e216
         replace hx216_0:=(HB.out.cell (World.block_lt_of_cell? w _ hx216_0)).trans hx216_0;replace p216:=eq_true p216;replace q216:=eq_true q216;have p217:0≤(x4_1:Int):=of_decide_eq_true (zz11);have q217:x4_1 < (l0_0.length:Int):=of_decide_eq_true (zz11);obtain ⟨ad217,e217,hx217_0⟩:=Kd.at_int HR0_0.out x4_1 p217 q217;obtain rfl:ad216 = ad217:=(by injection e217);replace hx217_0:=(HB.out.cell (World.block_lt_of_cell? w _ hx217_0)).trans hx217_0;replace p217:=eq_true p217;replace q217:=eq_true q217
         go_wp2
         repeat (go_quiet (fail);try go_wp2)
         go_ret
         exact ⟨zz6,(have h0_:=GE215;zz7)⟩
        ·have c16b0:=decide_eq_false c16;clear c16;replace H:=zzi H;obtain ⟨c18,H⟩:=H;have c18b0:=decide_eq_true c18;clear c18;replace H:=zzj H;rcases H with ⟨c19,H⟩|⟨c19,H⟩
         ·have c19b0:=decide_eq_true c19;clear c19;obtain rfl:=Option.some.inj H;obtain ⟨hcz20_0,hcz20_1,hfz20_0,hfz20_1⟩:=zc2 BK215.out;have p216:0≤(x4_1:Int):=of_decide_eq_true (zz11);have q216:x4_1 < (l0_0.length:Int):=of_decide_eq_true (zz11);obtain ⟨ad216,e216,hx216_0⟩:=Kd.at_int HR0_0.out x4_1 p216 q216
          cases e216
          replace hx216_0:=(HB.out.cell (World.block_lt_of_cell? w _ hx216_0)).trans hx216_0;replace p216:=eq_true p216;replace q216:=eq_true q216;have p217:0≤(x4_1:Int):=of_decide_eq_true (zz11);have q217:x4_1 < (l0_0.length:Int):=of_decide_eq_true (zz11);obtain ⟨ad217,e217,hx217_0⟩:=Kd.at_int HR0_0.out x4_1 p217 q217;obtain rfl:ad216 = ad217:=(by injection e217);replace hx217_0:=(HB.out.cell (World.block_lt_of_cell? w _ hx217_0)).trans hx217_0;replace p217:=eq_true p217;replace q217:=eq_true q217;have p218:0≤(x4_1:Int):=of_decide_eq_true (zz11);have q218:x4_1 < (l0_1.length:Int):=of_decide_eq_true (zz11);obtain ⟨ad218,e218,hx218_0⟩:=Kd.at_int HR0_1.out x4_1 p218 q218
          cases e218
          replace hx218_0:=(HB.out.cell (World.block_lt_of_cell? w _ hx218_0)).trans hx218_0;replace p218:=eq_true p218;replace q218:=eq_true q218
          go_wp2
          repeat (go_quiet (fail);try go_wp2)
          go_ret
          exact ⟨zz6,(have h0_:=GE215;zz7)⟩
         ·have c19b0:=decide_eq_false c19;clear c19;replace H:=zzj H;rcases H with ⟨c21,H⟩|⟨c21,H⟩
          ·have c21b0:=decide_eq_true c21;clear c21;obtain rfl:=Option.some.inj H;obtain ⟨hcz22_0,hcz22_1,hfz22_0,hfz22_1⟩:=zc2 BK215.out;have p216:0≤(x4_1:Int):=of_decide_eq_true (zz11);have q216:x4_1 < (l0_0.length:Int):=of_decide_eq_true (zz11);obtain ⟨ad216,e216,hx216_0⟩:=Kd.at_int HR0_0.out x4_1 p216 q216
           cases e216
           replace hx216_0:=(HB.out.cell (World.block_lt_of_cell? w _ hx216_0)).trans hx216_0;replace p216:=eq_true p216;replace q216:=eq_true q216;have p217:0≤(x4_1:Int):=of_decide_eq_true (zz11);have q217:x4_1 < (l0_0.length:Int):=of_decide_eq_true (zz11);obtain ⟨ad217,e217,hx217_0⟩:=Kd.at_int HR0_0.out x4_1 p217 q217;obtain rfl:ad216 = ad217:=(by injection e217);replace hx217_0:=(HB.out.cell (World.block_lt_of_cell? w _ hx217_0)).trans hx217_0;replace p217:=eq_true p217;replace q217:=eq_true q217;have p218:0≤(x4_1:Int):=of_decide_eq_true (zz11);have q218:x4_1 < (l0_1.length:Int):=of_decide_eq_true (zz11);obtain ⟨ad218,e218,hx218_0⟩:=Kd.at_int HR0_1.out x4_1 p218 q218
           cases e218
           replace hx218_0:=(HB.out.cell (World.block_lt_of_cell? w _ hx218_0)).trans hx218_0;replace p218:=eq_true p218;replace q218:=eq_true q218;have p219:0≤(x4_1:Int):=of_decide_eq_true (zz11);have q219:x4_1 < (l0_1.length:Int):=of_decide_eq_true (zz11);obtain ⟨ad219,e219,hx219_0⟩:=Kd.at_int HR0_1.out x4_1 p219 q219;obtain rfl:ad218 = ad219:=(by injection e219);replace hx219_0:=(HB.out.cell (World.block_lt_of_cell? w _ hx219_0)).trans hx219_0;replace p219:=eq_true p219;replace q219:=eq_true q219
           go_wp2
           repeat (go_quiet (fail);try go_wp2)
           go_ret
           exact ⟨zz6,(have h0_:=GE215;zz7)⟩
          ·have c21b0:=decide_eq_false c21;clear c21;have H':=Aside0.mk H;clear H;obtain ⟨hcz23_0,hcz23_1,hfz23_0,hfz23_1⟩:=zc2 BK215.out;have p216:0≤(x4_1:Int):=of_decide_eq_true (zz11);have q216:x4_1 < (l0_0.length:Int):=of_decide_eq_true (zz11);obtain ⟨ad216,e216,hx216_0⟩:=Kd.at_int HR0_0.out x4_1 p216 q216
           cases e216
           replace hx216_0:=(HB.out.cell (World.block_lt_of_cell? w _ hx216_0)).trans hx216_0;replace p216:=eq_true p216;replace q216:=eq_true q216;have p217:0≤(x4_1:Int):=of_decide_eq_true (zz11);have q217:x4_1 < (l0_0.length:Int):=of_decide_eq_true (zz11);obtain ⟨ad217,e217,hx217_0⟩:=Kd.at_int HR0_0.out x4_1 p217 q217;obtain rfl:ad216 = ad217:=(by injection e217);replace hx217_0:=(HB.out.cell (World.block_lt_of_cell? w _ hx217_0)).trans hx217_0;replace p217:=eq_true p217;replace q217:=eq_true q217;have p218:0≤(x4_1:Int):=of_decide_eq_true (zz11);have q218:x4_1 < (l0_1.length:Int):=of_decide_eq_true (zz11);obtain ⟨ad218,e218,hx218_0⟩:=Kd.at_int HR0_1.out x4_1 p218 q218
           cases e218
           replace hx218_0:=(HB.out.cell (World.block_lt_of_cell? w _ hx218_0)).trans hx218_0;replace p218:=eq_true p218;replace q218:=eq_true q218;have p219:0≤(x4_1:Int):=of_decide_eq_true (zz11);have q219:x4_1 < (l0_1.length:Int):=of_decide_eq_true (zz11);obtain ⟨ad219,e219,hx219_0⟩:=Kd.at_int HR0_1.out x4_1 p219 q219;obtain rfl:ad218 = ad219:=(by injection e219);replace hx219_0:=(HB.out.cell (World.block_lt_of_cell? w _ hx219_0)).trans hx219_0;replace p219:=eq_true p219;replace q219:=eq_true q219
           go_wp2
           repeat (go_quiet (fail);try go_wp2)
           go_roundg k1
           case measure=>have:=HK1.out;omega
           case rel=>exact ⟨(wrap64 (x4_1+1)),(zz2),H',⟨zz12⟩,⟨(have h0_:=BK215;zz9)⟩,⟨(have h0_:=GE215;zz7)⟩⟩
      ·have c11b0:=decide_eq_false c11;clear c11;have H':=Aside0.mk H;clear H
       go_wp2
       repeat (go_quiet (fail);try go_wp2)
       go_loopg [5] k1 (fun kq v5 w'=>∃ (x5_2:Int),v5 = .int .i64 x5_2∧Aside0 (U21.l1 kq (l0_0.length:Int) x5_2 l0_0 l0_1 = some r)∧Aside0 (kq≤k1)∧Aside0 (w'.heap[gb215]? = some (.cells #[(.slice A0_0 l0_0.length c0_0),(.slice A0_1 l0_1.length c0_1)] 24 (0,0)))∧Aside0 (Below w.heap.size w w'))
       case atStart=>exact ⟨(1),(zz2),H',⟨Nat.le_refl _⟩,⟨(have h0_:=BK215;zz9)⟩,⟨(have h0_:=GE215;zz7)⟩⟩
       case round =>
        clear H'
        clear c11b0;(try clear hcz10_0);(try clear hcz10_1);(try clear hcz4_0);(try clear hcz4_1);(try clear hcz7_0);(try clear hcz7_1);(try clear hfz10_0);(try clear hfz10_1);(try clear hfz4_0);(try clear hfz4_1);(try clear hfz7_0);(try clear hfz7_1)
        obtain ⟨x5_2,rfl,HA,HK2,BK215,HB⟩:=hrel
        cases gk with
        | zero=>exact absurd HA.out (by simp [U21.l1])
        | succ k2 =>
         have H:=HA.out;clear HA;simp only [U21.l1] at H;replace H:=zzj H;rcases H with ⟨c24,H⟩|⟨c24,H⟩
         ·have c24b0:=decide_eq_true c24;clear c24;replace H:=zzi H;obtain ⟨c25,H⟩:=H;have c25b0:=decide_eq_true c25;clear c25;replace H:=zzi H;obtain ⟨c26,H⟩:=H;have c26b0:=decide_eq_true c26;clear c26;obtain ⟨ji27,hji27⟩:∃ j_:Int,(wrap64 (x5_2 - 1)) = j_:=⟨_,rfl⟩;replace H:(if 0≤(ji27) then (if (ji27) < (l0_0.length:Int) then (if (rd l0_0 x5_2)≤(rd l0_0 (ji27)) then (some 23) else (U21.l1 k2 (l0_0.length:Int) (wrap64 (x5_2+1)) l0_0 l0_1)) else (none)) else (none)) = some r:=(have h0_:=hji27;zz15);have hji27w:(IntKind.i64.wrap (x5_2 - 1)) = ji27:=(i64_w _).trans hji27;replace H:=zzi H;obtain ⟨c28,H⟩:=H;have c28b0:=decide_eq_true c28;clear c28;replace H:=zzi H;obtain ⟨c29,H⟩:=H;have c29b0:=decide_eq_true c29;clear c29;replace H:=zzj H;rcases H with ⟨c30,H⟩|⟨c30,H⟩
          ·have c30b0:=decide_eq_true c30;clear c30;obtain rfl:=Option.some.inj H;obtain ⟨hcz31_0,hcz31_1,hfz31_0,hfz31_1⟩:=zc2 BK215.out;have p220:0≤(x5_2:Int):=of_decide_eq_true (zz11);have q220:x5_2 < (l0_0.length:Int):=of_decide_eq_true (zz11);obtain ⟨ad220,e220,hx220_0⟩:=Kd.at_int HR0_0.out x5_2 p220 q220
           cases e220
           replace hx220_0:=(HB.out.cell (World.block_lt_of_cell? w _ hx220_0)).trans hx220_0;replace p220:=eq_true p220;replace q220:=eq_true q220;have p221:0≤((ji27):Int):=of_decide_eq_true (zz11);have q221:(ji27) < (l0_0.length:Int):=of_decide_eq_true (zz11);obtain ⟨ad221,e221,hx221_0⟩:=Kd.at_int HR0_0.out (ji27) p221 q221;obtain rfl:ad220 = ad221:=(by injection e221);replace hx221_0:=(HB.out.cell (World.block_lt_of_cell? w _ hx221_0)).trans hx221_0;replace p221:=eq_true p221;replace q221:=eq_true q221
           go_wp2
           repeat (go_quiet (fail);try go_wp2)
           go_ret
           exact ⟨(have h0_:=hji27;zz16),(have h0_:=GE215;zz7)⟩
          ·have c30b0:=decide_eq_false c30;clear c30;have H':=Aside0.mk H;clear H;obtain ⟨hcz32_0,hcz32_1,hfz32_0,hfz32_1⟩:=zc2 BK215.out;have p220:0≤(x5_2:Int):=of_decide_eq_true (zz11);have q220:x5_2 < (l0_0.length:Int):=of_decide_eq_true (zz11);obtain ⟨ad220,e220,hx220_0⟩:=Kd.at_int HR0_0.out x5_2 p220 q220
           cases e220
           replace hx220_0:=(HB.out.cell (World.block_lt_of_cell? w _ hx220_0)).trans hx220_0;replace p220:=eq_true p220;replace q220:=eq_true q220;have p221:0≤((ji27):Int):=of_decide_eq_true (zz11);have q221:(ji27) < (l0_0.length:Int):=of_decide_eq_true (zz11);obtain ⟨ad221,e221,hx221_0⟩:=Kd.at_int HR0_0.out (ji27) p221 q221;obtain rfl:ad220 = ad221:=(by injection e221);replace hx221_0:=(HB.out.cell (World.block_lt_of_cell? w _ hx221_0)).trans hx221_0;replace p221:=eq_true p221;replace q221:=eq_true q221
           go_wp2
           repeat (go_quiet (fail);try go_wp2)
           go_roundg k2
           case measure=>have:=HK1.out;have:=HK2.out;omega
           case rel=>exact ⟨(wrap64 (x5_2+1)),(zz2),H',⟨zz18⟩,⟨(have h0_:=BK215;zz9)⟩,⟨(have h0_:=GE215;zz7)⟩⟩
         ·have c24b0:=decide_eq_false c24;clear c24;obtain rfl:=Option.some.inj H
          go_wp2
          repeat (go_quiet (fail);try go_wp2)
          go_ret
          exact ⟨zz6,(have h0_:=GE215;zz7)⟩
   ·have c8b0:=beq_eq_false_iff_ne.mpr c8;have c8b1:=bne_iff_ne.mpr c8;have c8b2:(l0_1.length == l0_0.length) = false:=(have h0_:=c8;zz8);obtain rfl:=Option.some.inj H;go_enter Try.func32,Try.ntmps32
    go_wp2_with (first|((with_reducible refine gate_dst (N:=1) rfl ?_);refine box_event ?hg (N:=1) ?hd (cs:=#[.slice A0_0 l0_0.length c0_0,.slice A0_1 l0_1.length c0_1]) (t:=24) ?hr ?_;(case hd=>rfl);(case hg=>rfl);(case hr=>exact zz109);intro gb215 hg w33 hbox hb;have BK215:=Aside0.mk (hbox);have GW215:=Aside0.mk ((by rw [hg];exact (below_size (zz5)):w.heap.size≤gb215));have GE215:=Aside0.mk ((by rw [hg];exact (below_size (zz5)):w.heap.size≤gb215));replace HB:=Aside0.mk (below_step (zz5) hb);clear hb hbox hg;obtain ⟨hcz34_0,hcz34_1,hfz34_0,hfz34_1⟩:=zc2 BK215.out))
    repeat (go_quiet (first|((with_reducible refine gate_dst (N:=1) rfl ?_);refine box_event ?hg (N:=1) ?hd (cs:=#[.slice A0_0 l0_0.length c0_0,.slice A0_1 l0_1.length c0_1]) (t:=24) ?hr ?_;(case hd=>rfl);(case hg=>rfl);(case hr=>exact zz109);intro gb215 hg w33 hbox hb;have BK215:=Aside0.mk (hbox);have GW215:=Aside0.mk ((by rw [hg];exact (below_size (zz5)):w.heap.size≤gb215));have GE215:=Aside0.mk ((by rw [hg];exact (below_size (zz5)):w.heap.size≤gb215));replace HB:=Aside0.mk (below_step (zz5) hb);clear hb hbox hg;obtain ⟨hcz34_0,hcz34_1,hfz34_0,hfz34_1⟩:=zc2 BK215.out));try go_wp2_with (first|((with_reducible refine gate_dst (N:=1) rfl ?_);refine box_event ?hg (N:=1) ?hd (cs:=#[.slice A0_0 l0_0.length c0_0,.slice A0_1 l0_1.length c0_1]) (t:=24) ?hr ?_;(case hd=>rfl);(case hg=>rfl);(case hr=>exact zz109);intro gb215 hg w33 hbox hb;have BK215:=Aside0.mk (hbox);have GW215:=Aside0.mk ((by rw [hg];exact (below_size (zz5)):w.heap.size≤gb215));have GE215:=Aside0.mk ((by rw [hg];exact (below_size (zz5)):w.heap.size≤gb215));replace HB:=Aside0.mk (below_step (zz5) hb);clear hb hbox hg;obtain ⟨hcz34_0,hcz34_1,hfz34_0,hfz34_1⟩:=zc2 BK215.out)))
    go_ret
    exact ⟨zz6,(have h0_:=GE215;zz7)⟩
def U24.l0:Nat→List Int→Int→Int→Option (Int)
 | 0,_,_,_=>none
 | k+1,x0,x5,x6=>if x6 < (x0.length:Int) then (if 0≤x6 then (if (rd x0 x6) < 1 then (some 3) else (if (rd x0 x6) > 1000 then (some 3) else (U24.l0 k x0 (wrap64 (x5+(rd x0 x6))) (wrap64 (x6+1))))) else (none)) else (if x5 = 1000 then (some 0) else (some 19))
def U24.f (k:Nat) (l0:List Int) (a1:Int):Option (Int):=if (l0.length:Int) = a1 then (U24.l0 k l0 0 0) else (some 1)
theorem zm6_1 {P:Prop} (h:P:=by repeat' first|(with_reducible first|exact ih0 ..|exact LeO.refl _|exact LeO.none _|refine LeO.ite ?_ ?_|refine LeO.bind ?_ (fun _=>?_))|exact ih0 ..|exact LeO.none _|refine LeO.ite ?_ ?_|refine LeO.bind ?_ (fun _=>?_)):P:=h
theorem U24.mono_l:∀ k,(∀ y0 y1 y2,LeO (U24.l0 k y0 y1 y2) (U24.l0 (k+1) y0 y1 y2))
 | 0=>fun _ _ _ r h=>by simp [U24.l0] at h
 | k+1=>by
  have ih0:=U24.mono_l k
  ·intro y0 y1 y2;unfold U24.l0
   exact zm6_1
theorem U24.mono:∀ a0 a1 k,LeO (U24.f k a0 a1) (U24.f (k+1) a0 a1):=by
 intro a0 a1 k;have ih0:=U24.mono_l k;unfold U24.f
 exact zm6_1
set_option maxHeartbeats 8000000 in
set_option maxRecDepth 100000 in
theorem U24.calls (k:Nat) (A0:Option Addr) (c0:Nat) (l0:List Int) (a1:Int) (r:Int) (w:World) (hr0:Kd.C (Kd.int .i64) w A0 l0.length l0) (hc0:l0.length≤c0) (h:U24.f k l0 a1 = some r) :
  Calls Try.prog 72 #[.slice A0 l0.length c0,.int .i64 a1] w fun e w'=>e = .returned (.int .i64 r)∧Drawn0 w w':=by
 have HR0:=Aside0.mk hr0;have HC0:=Aside0.mk hc0;clear hr0 hc0;have H:(if (l0.length:Int) = a1 then (U24.l0 k l0 0 0) else (some 1)) = some r:=h;clear h;replace H:=zzj H;rcases H with ⟨c3,H⟩|⟨c3,H⟩
 ·have c3b0:=beq_iff_eq.mpr c3;have c3b1:=bne_eq_false_iff_eq.mpr c3;clear c3;have H':=Aside0.mk H;clear H;go_enter Try.func72,Try.ntmps72
  go_wp2
  go_loopg [5,6] k (fun kq v5 v6 w'=>∃ (x5_1:Int) (x6_1:Int),v5 = .int .i64 x5_1∧v6 = .int .i64 x6_1∧Aside0 (U24.l0 kq l0 x5_1 x6_1 = some r)∧Aside0 (kq≤k)∧Drawn0 w w')
  case atStart=>exact ⟨(0),(0),(zz2),(zz2),H',⟨Nat.le_refl _⟩,zz3⟩
  case round =>
   clear H';clear c3b0 c3b1;obtain ⟨x5_1,x6_1,rfl,rfl,HA,HK1,⟨m1,rfl⟩⟩:=hrel
   cases gk with
   | zero=>exact absurd HA.out (by simp [U24.l0])
   | succ k1 =>
    have H:=HA.out;clear HA;simp only [U24.l0] at H;replace H:=zzj H;rcases H with ⟨c4,H⟩|⟨c4,H⟩
    ·have c4b0:=decide_eq_true c4;clear c4;replace H:=zzi H;obtain ⟨c5,H⟩:=H;have c5b0:=decide_eq_true c5;clear c5;replace H:=zzj H;rcases H with ⟨c6,H⟩|⟨c6,H⟩
     ·have c6b0:=decide_eq_true c6;clear c6;obtain rfl:=Option.some.inj H;have p222:0≤(x6_1:Int):=of_decide_eq_true (zz11);have q222:x6_1 < (l0.length:Int):=of_decide_eq_true (zz11);obtain ⟨ad222,e222,hx222_0⟩:=Kd.at_int HR0.out x6_1 p222 q222
      cases e222
      replace p222:=eq_true p222;replace q222:=eq_true q222
      go_wp2
      go_ret
      exact ⟨zz2,zz3⟩
     ·have c6b0:=decide_eq_false c6;clear c6;replace H:=zzj H;rcases H with ⟨c7,H⟩|⟨c7,H⟩
      ·have c7b0:=decide_eq_true c7;clear c7;obtain rfl:=Option.some.inj H;have p222:0≤(x6_1:Int):=of_decide_eq_true (zz11);have q222:x6_1 < (l0.length:Int):=of_decide_eq_true (zz11);obtain ⟨ad222,e222,hx222_0⟩:=Kd.at_int HR0.out x6_1 p222 q222
       cases e222
       replace p222:=eq_true p222;replace q222:=eq_true q222;have p223:0≤(x6_1:Int):=of_decide_eq_true (zz11);have q223:x6_1 < (l0.length:Int):=of_decide_eq_true (zz11);obtain ⟨ad223,e223,hx223_0⟩:=Kd.at_int HR0.out x6_1 p223 q223;obtain rfl:ad222 = ad223:=(by injection e223);replace p223:=eq_true p223;replace q223:=eq_true q223
       go_wp2
       go_ret
       exact ⟨zz2,zz3⟩
      ·have c7b0:=decide_eq_false c7;clear c7;have H':=Aside0.mk H;clear H;have p222:0≤(x6_1:Int):=of_decide_eq_true (zz11);have q222:x6_1 < (l0.length:Int):=of_decide_eq_true (zz11);obtain ⟨ad222,e222,hx222_0⟩:=Kd.at_int HR0.out x6_1 p222 q222
       cases e222
       replace p222:=eq_true p222;replace q222:=eq_true q222;have p223:0≤(x6_1:Int):=of_decide_eq_true (zz11);have q223:x6_1 < (l0.length:Int):=of_decide_eq_true (zz11);obtain ⟨ad223,e223,hx223_0⟩:=Kd.at_int HR0.out x6_1 p223 q223;obtain rfl:ad222 = ad223:=(by injection e223);replace p223:=eq_true p223;replace q223:=eq_true q223;have p224:0≤(x6_1:Int):=of_decide_eq_true (zz11);have q224:x6_1 < (l0.length:Int):=of_decide_eq_true (zz11);obtain ⟨ad224,e224,hx224_0⟩:=Kd.at_int HR0.out x6_1 p224 q224;obtain rfl:ad222 = ad224:=(by injection e224);replace p224:=eq_true p224;replace q224:=eq_true q224
       go_wp2
       go_roundg k1
       case measure=>have:=HK1.out;omega
       case rel=>exact ⟨(wrap64 (x5_1+(rd l0 x6_1))),(wrap64 (x6_1+1)),(zz2),(zz2),H',⟨zz12⟩,zz3⟩
    ·have c4b0:=decide_eq_false c4;clear c4;replace H:=zzj H;rcases H with ⟨c8,H⟩|⟨c8,H⟩
     ·have c8b0:=beq_iff_eq.mpr c8;have c8b1:=bne_eq_false_iff_eq.mpr c8;clear c8;obtain rfl:=Option.some.inj H
      go_wp2
      go_ret
      exact ⟨zz2,zz3⟩
     ·have c8b0:=beq_eq_false_iff_ne.mpr c8;have c8b1:=bne_iff_ne.mpr c8;obtain rfl:=Option.some.inj H
      go_wp2
      go_ret
      exact ⟨zz2,zz3⟩
 ·have c3b0:=beq_eq_false_iff_ne.mpr c3;have c3b1:=bne_iff_ne.mpr c3;obtain rfl:=Option.some.inj H;go_enter Try.func72,Try.ntmps72
  go_wp2
  go_ret
  exact ⟨zz2,zz3⟩
end Go.Proofs.Ytmcegphcjphdcaa.QA
