import Derived.Test.YtmcegphcjphdcaaXStQAx0
namespace Go.Proofs.Ytmcegphcjphdcaa.QA
open Go.RowKit Go.Proofs.YtmcegphcjphdcaaW.PrintWords Go.Proofs.YtmcegphcjphdcaaW.PrintLast Go.Proofs.YtmcegphcjphdcaaW.PrintMore
attribute [local go_sem] max2_int min2_int max_two min_two max_three min_three max_four min_four
set_option linter.unusedVariables false
set_option linter.unusedSimpArgs false
def U19.l0:Nat→List (List Int)→Int→Int→List Int→List Int→List (List Int)→Option (Bool)
 | 0,_,_,_,_,_,_=>none
 | k+1,x13,x14,x15,x310000,x310001,x310002=>if x15 < x14 then (if 0≤x15 then (if x15 < (x13.length:Int) then (if ((rd_L1 x13 x15).length:Int) = (x310001.length:Int) then (U19.l0 k x13 x14 (wrap64 (x15+1)) x310000 x310001 x310002) else (some false)) else (none)) else (none)) else (some true)
def U19.f (k:Nat) (l0_0:List Int) (l0_1:List Int) (l0_2:List (List Int)):Option (Bool):=if (l0_2.length:Int) = (l0_0.length:Int) then (U19.l0 k l0_2 (l0_2.length:Int) 0 l0_0 l0_1 l0_2) else (some false)
theorem zm13_0 {P:Prop} (h:P:=by repeat' first|(with_reducible first|exact ih0 ..|exact LeO.refl _|exact LeO.none _|refine LeO.ite ?_ ?_|refine LeO.bind ?_ (fun _=>?_))|exact ih0 ..|exact LeO.none _|refine LeO.ite ?_ ?_|refine LeO.bind ?_ (fun _=>?_)):P:=h
theorem U19.mono_l:∀ k,(∀ y0 y1 y2 y3 y4 y5,LeO (U19.l0 k y0 y1 y2 y3 y4 y5) (U19.l0 (k+1) y0 y1 y2 y3 y4 y5))
 | 0=>fun _ _ _ _ _ _ r h=>by simp [U19.l0] at h
 | k+1=>by
  have ih0:=U19.mono_l k
  ·intro y0 y1 y2 y3 y4 y5;unfold U19.l0
   exact zm13_0
theorem U19.mono:∀ a0 a1 a2 k,LeO (U19.f k a0 a1 a2) (U19.f (k+1) a0 a1 a2):=by
 intro a0 a1 a2 k;have ih0:=U19.mono_l k;unfold U19.f
 exact zm13_0
set_option maxHeartbeats 8000000 in
set_option maxRecDepth 100000 in
theorem U19.calls (k:Nat) (A0_0:Option Addr) (c0_0:Nat) (l0_0:List Int) (A0_1:Option Addr) (c0_1:Nat) (l0_1:List Int) (A0_2:Option Addr) (c0_2:Nat) (l0_2:List (List Int)) (r:Bool) (w:World) (hr0_0:Kd.C (Kd.int .i64) w A0_0 l0_0.length l0_0) (hc0_0:l0_0.length≤c0_0) (hr0_1:Kd.C (Kd.int .i64) w A0_1 l0_1.length l0_1) (hc0_1:l0_1.length≤c0_1) (hr0_2:Kd.C (Kd.slice 3 (Kd.int .i64)) w A0_2 l0_2.length l0_2) (hc0_2:l0_2.length≤c0_2) (h:U19.f k l0_0 l0_1 l0_2 = some r) :
  Calls Try.prog 61 #[.agg #[.slice A0_0 l0_0.length c0_0,.slice A0_1 l0_1.length c0_1,.slice A0_2 l0_2.length c0_2]] w fun e w'=>e = .returned (.bool r)∧Below w.heap.size w w':=by
 have hu36:=Try.underlying36;have HR0_0:=Aside0.mk hr0_0;have HC0_0:=Aside0.mk hc0_0;clear hr0_0 hc0_0;have HR0_1:=Aside0.mk hr0_1;have HC0_1:=Aside0.mk hc0_1;clear hr0_1 hc0_1;have HR0_2:=Aside0.mk hr0_2;have HC0_2:=Aside0.mk hc0_2;clear hr0_2 hc0_2;have HB:=Aside0.mk (Below.refl w.heap.size w);have H:(if (l0_2.length:Int) = (l0_0.length:Int) then (U19.l0 k l0_2 (l0_2.length:Int) 0 l0_0 l0_1 l0_2) else (some false)) = some r:=h;clear h;by_cases c2:(l0_2.length:Int) = (l0_0.length:Int)
 ·rw [if_pos c2] at H;have c2b0:=beq_iff_eq.mpr c2;have c2b1:=bne_eq_false_iff_eq.mpr c2
  have c2b2:(l0_2.length == l0_0.length) = true:=by first|simpa using c2|(simp at c2 ⊢;omega)
  clear c2;have H':=Aside0.mk H;clear H;go_enter Try.func61,Try.ntmps61
  go_wp2_with (first|((with_reducible refine gate_dst (N:=1) rfl ?_);refine box_event ?hg (N:=1) ?hd (cs:=#[.slice A0_0 l0_0.length c0_0,.slice A0_1 l0_1.length c0_1,.slice A0_2 l0_2.length c0_2]) (t:=36) ?hr ?_;(case hd=>rfl);(case hg=>rfl);(case hr=>exact zz93);intro gb309 hg w3 hbox hb;have BK309:=Aside0.mk (hbox);have GW309:=Aside0.mk ((by rw [hg];exact (below_size (zz5)):w.heap.size≤gb309));have GE309:=Aside0.mk ((by rw [hg];exact (below_size (zz5)):w.heap.size≤gb309));replace HB:=Aside0.mk (below_step (zz5) hb);clear hb hbox hg;have hcz4_0:w3.cell? ⟨gb309,0,none⟩ = some (.slice A0_0 l0_0.length c0_0):=(blk_cell BK309.out 0).trans rfl;have hcz4_1:w3.cell? ⟨gb309,1,none⟩ = some (.slice A0_1 l0_1.length c0_1):=(blk_cell BK309.out 1).trans rfl;have hcz4_2:w3.cell? ⟨gb309,2,none⟩ = some (.slice A0_2 l0_2.length c0_2):=(blk_cell BK309.out 2).trans rfl;have hfz4_0:=blk_frozen BK309.out 0;have hfz4_1:=blk_frozen BK309.out 1;have hfz4_2:=blk_frozen BK309.out 2))
  go_loopg [15] k (fun kq v15 w'=>∃ (x15_1:Int),v15 = .int .i64 x15_1∧Aside0 (U19.l0 kq l0_2 (l0_2.length:Int) x15_1 l0_0 l0_1 l0_2 = some r)∧Aside0 (kq≤k)∧Aside0 (w'.heap[gb309]? = some (.cells #[(.slice A0_0 l0_0.length c0_0),(.slice A0_1 l0_1.length c0_1),(.slice A0_2 l0_2.length c0_2)] 36 (0,0)))∧Aside0 (Below w.heap.size w w'))
  case atStart=>exact ⟨(0),(zz2),H',⟨Nat.le_refl _⟩,⟨by (with_reducible repeat (first|refine blk_drewN ?_ _|refine blk_drew ?_|refine blk_alloc ?_ _));exact BK309.out⟩,⟨zz47⟩⟩
  case round =>
   clear H'
   (try clear c2);(try clear c2b0);(try clear c2b1);(try clear c2b2);(try clear p2);(try clear hcz4_0);(try clear hcz4_1);(try clear hcz4_2);(try clear hfz4_0);(try clear hfz4_1);(try clear hfz4_2)
   obtain ⟨x15_1,rfl,HA,HK1,BK309,HB⟩:=hrel
   cases gk with
   | zero=>exact absurd HA.out (by simp [U19.l0])
   | succ k1 =>
    have H:=HA.out;clear HA;simp only [U19.l0] at H;by_cases c5:x15_1 < (l0_2.length:Int)
    ·rw [if_pos c5] at H;have c5b0:=decide_eq_true c5;clear c5;by_cases c6:0≤x15_1
     ·rw [if_pos c6] at H;have c6b0:=decide_eq_true c6;clear c6;by_cases c7:x15_1 < (l0_2.length:Int)
      ·rw [if_pos c7] at H;have c7b0:=decide_eq_true c7;clear c7;by_cases c8:((rd_L1 l0_2 x15_1).length:Int) = (l0_1.length:Int)
       ·rw [if_pos c8] at H;have c8b0:=beq_iff_eq.mpr c8;have c8b1:=bne_eq_false_iff_eq.mpr c8;have c8b2:((rd_L1 l0_2 x15_1).length == l0_1.length) = true:=zz8;clear c8;have H':=Aside0.mk H;clear H;have p310:0≤(x15_1:Int):=of_decide_eq_true (zz11);have q310:x15_1 < (l0_2.length:Int):=of_decide_eq_true (zz11);obtain ⟨ad310,A310_0,c310_0,e310,hx310_0,hl310_0,hi310_0⟩:=at_L1 HR0_2.out x15_1 p310 q310
        cases e310
        replace hx310_0:=(HB.out.cell (World.block_lt_of_cell? w _ hx310_0)).trans hx310_0;have HR310_0:=Aside0.mk hi310_0;have HC310_0:=Aside0.mk hl310_0;clear hi310_0 hl310_0;replace p310:=eq_true p310;replace q310:=eq_true q310;have hcz9_0:wr.cell? ⟨gb309,0,none⟩ = some (.slice A0_0 l0_0.length c0_0):=(blk_cell BK309.out 0).trans rfl;have hcz9_1:wr.cell? ⟨gb309,1,none⟩ = some (.slice A0_1 l0_1.length c0_1):=(blk_cell BK309.out 1).trans rfl;have hcz9_2:wr.cell? ⟨gb309,2,none⟩ = some (.slice (some ad310) l0_2.length c0_2):=(blk_cell BK309.out 2).trans rfl;have hfz9_0:=blk_frozen BK309.out 0;have hfz9_1:=blk_frozen BK309.out 1;have hfz9_2:=blk_frozen BK309.out 2
        go_wp2
        go_roundg k1
        case measure=>have:=HK1.out;omega
        case rel=>exact ⟨(wrap64 (x15_1+1)),(zz2),H',⟨zz12⟩,⟨by (with_reducible repeat (first|refine blk_drewN ?_ _|refine blk_drew ?_|refine blk_alloc ?_ _));exact BK309.out⟩,⟨zz47⟩⟩
       ·rw [if_neg c8] at H;have c8b0:=beq_eq_false_iff_ne.mpr c8;have c8b1:=bne_iff_ne.mpr c8;have c8b2:((rd_L1 l0_2 x15_1).length == l0_1.length) = false:=zz8;obtain rfl:=Option.some.inj H;have p310:0≤(x15_1:Int):=of_decide_eq_true (zz11);have q310:x15_1 < (l0_2.length:Int):=of_decide_eq_true (zz11);obtain ⟨ad310,A310_0,c310_0,e310,hx310_0,hl310_0,hi310_0⟩:=at_L1 HR0_2.out x15_1 p310 q310
        cases e310
        replace hx310_0:=(HB.out.cell (World.block_lt_of_cell? w _ hx310_0)).trans hx310_0;have HR310_0:=Aside0.mk hi310_0;have HC310_0:=Aside0.mk hl310_0;clear hi310_0 hl310_0;replace p310:=eq_true p310;replace q310:=eq_true q310;have hcz10_0:wr.cell? ⟨gb309,0,none⟩ = some (.slice A0_0 l0_0.length c0_0):=(blk_cell BK309.out 0).trans rfl;have hcz10_1:wr.cell? ⟨gb309,1,none⟩ = some (.slice A0_1 l0_1.length c0_1):=(blk_cell BK309.out 1).trans rfl;have hcz10_2:wr.cell? ⟨gb309,2,none⟩ = some (.slice (some ad310) l0_2.length c0_2):=(blk_cell BK309.out 2).trans rfl;have hfz10_0:=blk_frozen BK309.out 0;have hfz10_1:=blk_frozen BK309.out 1;have hfz10_2:=blk_frozen BK309.out 2
        go_wp2
        go_ret
        exact ⟨zz6,zz47⟩
      ·rw [if_neg c7] at H
       exact absurd H (zz14)
     ·rw [if_neg c6] at H
      exact absurd H (zz14)
    ·rw [if_neg c5] at H;have c5b0:=decide_eq_false c5;clear c5;obtain rfl:=Option.some.inj H
     go_wp2
     go_ret
     exact ⟨zz6,zz47⟩
 ·rw [if_neg c2] at H;have c2b0:=beq_eq_false_iff_ne.mpr c2;have c2b1:=bne_iff_ne.mpr c2
  have c2b2:(l0_2.length == l0_0.length) = false:=by first|simpa using c2|(simp at c2 ⊢;omega)
  obtain rfl:=Option.some.inj H;go_enter Try.func61,Try.ntmps61
  go_wp2_with (first|((with_reducible refine gate_dst (N:=1) rfl ?_);refine box_event ?hg (N:=1) ?hd (cs:=#[.slice A0_0 l0_0.length c0_0,.slice A0_1 l0_1.length c0_1,.slice A0_2 l0_2.length c0_2]) (t:=36) ?hr ?_;(case hd=>rfl);(case hg=>rfl);(case hr=>exact zz93);intro gb309 hg w11 hbox hb;have BK309:=Aside0.mk (hbox);have GW309:=Aside0.mk ((by rw [hg];exact (below_size (zz5)):w.heap.size≤gb309));have GE309:=Aside0.mk ((by rw [hg];exact (below_size (zz5)):w.heap.size≤gb309));replace HB:=Aside0.mk (below_step (zz5) hb);clear hb hbox hg;have hcz12_0:w11.cell? ⟨gb309,0,none⟩ = some (.slice A0_0 l0_0.length c0_0):=(blk_cell BK309.out 0).trans rfl;have hcz12_1:w11.cell? ⟨gb309,1,none⟩ = some (.slice A0_1 l0_1.length c0_1):=(blk_cell BK309.out 1).trans rfl;have hcz12_2:w11.cell? ⟨gb309,2,none⟩ = some (.slice A0_2 l0_2.length c0_2):=(blk_cell BK309.out 2).trans rfl;have hfz12_0:=blk_frozen BK309.out 0;have hfz12_1:=blk_frozen BK309.out 1;have hfz12_2:=blk_frozen BK309.out 2))
  go_ret
  exact ⟨zz6,zz47⟩
end Go.Proofs.Ytmcegphcjphdcaa.QA
