import Derived.Test.YtmcegphcjphdcaaXAsQAx0
namespace Go.Proofs.Ytmcegphcjphdcaa.QA
open Go.RowKit Go.Proofs.YtmcegphcjphdcaaW.PrintWords Go.Proofs.YtmcegphcjphdcaaW.PrintLast Go.Proofs.YtmcegphcjphdcaaW.PrintMore
attribute [local go_sem] max2_int min2_int max_two min_two max_three min_three max_four min_four
set_option linter.unusedVariables false
set_option linter.unusedSimpArgs false
def U20.l0:Nat→List (List Int)→Int→Int→List Int→List Int→List (List Int)→Option (Bool)
 | 0,_,_,_,_,_,_=>none
 | k+1,x13,x14,x15,x310000,x310001,x310002=>if x15 < x14 then (if 0≤x15 then (if x15 < (x13.length:Int) then (if ((rd_L1 x13 x15).length:Int) = (x310001.length:Int) then (U20.l0 k x13 x14 (wrap64 (x15+1)) x310000 x310001 x310002) else (some false)) else (none)) else (none)) else (some true)
def U20.f (k:Nat) (l0_0:List Int) (l0_1:List Int) (l0_2:List (List Int)):Option (Bool):=if (l0_2.length:Int) = (l0_0.length:Int) then (U20.l0 k l0_2 (l0_2.length:Int) 0 l0_0 l0_1 l0_2) else (some false)
theorem zm12_0 {P:Prop} (h:P:=by repeat' first|(with_reducible first|exact ih0 ..|exact LeO.refl _|exact LeO.none _|refine LeO.ite ?_ ?_|refine LeO.bind ?_ (fun _=>?_))|exact ih0 ..|exact LeO.none _|refine LeO.ite ?_ ?_|refine LeO.bind ?_ (fun _=>?_)):P:=h
theorem U20.mono_l:∀ k,(∀ y0 y1 y2 y3 y4 y5,LeO (U20.l0 k y0 y1 y2 y3 y4 y5) (U20.l0 (k+1) y0 y1 y2 y3 y4 y5))
 | 0=>fun _ _ _ _ _ _ r h=>by simp [U20.l0] at h
 | k+1=>by
  have ih0:=U20.mono_l k
  ·intro y0 y1 y2 y3 y4 y5;unfold U20.l0
   exact zm12_0
theorem U20.mono:∀ a0 a1 a2 k,LeO (U20.f k a0 a1 a2) (U20.f (k+1) a0 a1 a2):=by
 intro a0 a1 a2 k;have ih0:=U20.mono_l k;unfold U20.f
 exact zm12_0
set_option maxHeartbeats 8000000 in
set_option maxRecDepth 100000 in
theorem U20.calls (k:Nat) (A0_0:Option Addr) (c0_0:Nat) (l0_0:List Int) (A0_1:Option Addr) (c0_1:Nat) (l0_1:List Int) (A0_2:Option Addr) (c0_2:Nat) (l0_2:List (List Int)) (r:Bool) (w:World) (hr0_0:Kd.C (Kd.int .i64) w A0_0 l0_0.length l0_0) (hc0_0:l0_0.length≤c0_0) (hr0_1:Kd.C (Kd.int .i64) w A0_1 l0_1.length l0_1) (hc0_1:l0_1.length≤c0_1) (hr0_2:Kd.C (Kd.slice 3 (Kd.int .i64)) w A0_2 l0_2.length l0_2) (hc0_2:l0_2.length≤c0_2) (h:U20.f k l0_0 l0_1 l0_2 = some r) :
  Calls Try.prog 61 #[.agg #[.slice A0_0 l0_0.length c0_0,.slice A0_1 l0_1.length c0_1,.slice A0_2 l0_2.length c0_2]] w fun e w'=>e = .returned (.bool r)∧Below w.heap.size w w':=by
 have hu36:=Try.underlying36;have HR0_0:=Aside0.mk hr0_0;have HC0_0:=Aside0.mk hc0_0;clear hr0_0 hc0_0;have HR0_1:=Aside0.mk hr0_1;have HC0_1:=Aside0.mk hc0_1;clear hr0_1 hc0_1;have HR0_2:=Aside0.mk hr0_2;have HC0_2:=Aside0.mk hc0_2;clear hr0_2 hc0_2;have HB:=Aside0.mk (Below.refl w.heap.size w);have H:(if (l0_2.length:Int) = (l0_0.length:Int) then (U20.l0 k l0_2 (l0_2.length:Int) 0 l0_0 l0_1 l0_2) else (some false)) = some r:=h;clear h;replace H:=zzj H;rcases H with ⟨c2,H⟩|⟨c2,H⟩
 ·have c2b0:=beq_iff_eq.mpr c2;have c2b1:=bne_eq_false_iff_eq.mpr c2;have c2b2:(l0_2.length == l0_0.length) = true:=(have h0_:=c2;zz8);clear c2;have H':=Aside0.mk H;clear H;go_enter Try.func61,Try.ntmps61
  go_wp2_with (first|((with_reducible refine gate_dst (N:=1) rfl ?_);refine box_event ?hg (N:=1) ?hd (cs:=#[.slice A0_0 l0_0.length c0_0,.slice A0_1 l0_1.length c0_1,.slice A0_2 l0_2.length c0_2]) (t:=36) ?hr ?_;(case hd=>rfl);(case hg=>rfl);(case hr=>exact zz77);intro gb309 hg w3 hbox hb;have BK309:=Aside0.mk (hbox);have GW309:=Aside0.mk ((by rw [hg];exact (below_size (zz5)):w.heap.size≤gb309));have GE309:=Aside0.mk ((by rw [hg];exact (below_size (zz5)):w.heap.size≤gb309));replace HB:=Aside0.mk (below_step (zz5) hb);clear hb hbox hg;obtain ⟨hcz4_0,hcz4_1,hcz4_2,hfz4_0,hfz4_1,hfz4_2⟩:=zc3 BK309.out))
  go_loopg [15] k (fun kq v15 w'=>∃ (x15_1:Int),v15 = .int .i64 x15_1∧Aside0 (U20.l0 kq l0_2 (l0_2.length:Int) x15_1 l0_0 l0_1 l0_2 = some r)∧Aside0 (kq≤k)∧Aside0 (w'.heap[gb309]? = some (.cells #[(.slice A0_0 l0_0.length c0_0),(.slice A0_1 l0_1.length c0_1),(.slice A0_2 l0_2.length c0_2)] 36 (0,0)))∧Aside0 (Below w.heap.size w w'))
  case atStart=>exact ⟨(0),(zz2),H',⟨Nat.le_refl _⟩,⟨(have h0_:=BK309;zz9)⟩,⟨(have h0_:=GE309;zz7)⟩⟩
  case round =>
   clear H'
   clear c2b0 c2b1 c2b2;(try clear hcz4_0);(try clear hcz4_1);(try clear hcz4_2);(try clear hfz4_0);(try clear hfz4_1);(try clear hfz4_2)
   obtain ⟨x15_1,rfl,HA,HK1,BK309,HB⟩:=hrel
   cases gk with
   | zero=>exact absurd HA.out (by simp [U20.l0])
   | succ k1 =>
    have H:=HA.out;clear HA;simp only [U20.l0] at H;replace H:=zzj H;rcases H with ⟨c5,H⟩|⟨c5,H⟩
    ·have c5b0:=decide_eq_true c5;clear c5;replace H:=zzi H;obtain ⟨c6,H⟩:=H;have c6b0:=decide_eq_true c6;clear c6;replace H:=zzi H;obtain ⟨c7,H⟩:=H;have c7b0:=decide_eq_true c7;clear c7;replace H:=zzj H;rcases H with ⟨c8,H⟩|⟨c8,H⟩
     ·have c8b0:=beq_iff_eq.mpr c8;have c8b1:=bne_eq_false_iff_eq.mpr c8;have c8b2:((rd_L1 l0_2 x15_1).length == l0_1.length) = true:=(have h0_:=c8;zz8);clear c8;have H':=Aside0.mk H;clear H;have p310:0≤(x15_1:Int):=of_decide_eq_true (zz11);have q310:x15_1 < (l0_2.length:Int):=of_decide_eq_true (zz11);obtain ⟨ad310,A310_0,c310_0,e310,hx310_0,hl310_0,hi310_0⟩:=at_L1 HR0_2.out x15_1 p310 q310
      cases e310
      replace hx310_0:=(HB.out.cell (World.block_lt_of_cell? w _ hx310_0)).trans hx310_0;have HR310_0:=Aside0.mk hi310_0;have HC310_0:=Aside0.mk hl310_0;clear hi310_0 hl310_0;replace p310:=eq_true p310;replace q310:=eq_true q310;obtain ⟨hcz9_0,hcz9_1,hcz9_2,hfz9_0,hfz9_1,hfz9_2⟩:=zc3 BK309.out
      go_wp2
      go_roundg k1
      case measure=>have:=HK1.out;omega
      case rel=>exact ⟨(wrap64 (x15_1+1)),(zz2),H',⟨zz12⟩,⟨(have h0_:=BK309;zz9)⟩,⟨(have h0_:=GE309;zz7)⟩⟩
     ·have c8b0:=beq_eq_false_iff_ne.mpr c8;have c8b1:=bne_iff_ne.mpr c8;have c8b2:((rd_L1 l0_2 x15_1).length == l0_1.length) = false:=(have h0_:=c8;zz8);obtain rfl:=Option.some.inj H;have p310:0≤(x15_1:Int):=of_decide_eq_true (zz11);have q310:x15_1 < (l0_2.length:Int):=of_decide_eq_true (zz11);obtain ⟨ad310,A310_0,c310_0,e310,hx310_0,hl310_0,hi310_0⟩:=at_L1 HR0_2.out x15_1 p310 q310
      cases e310
      replace hx310_0:=(HB.out.cell (World.block_lt_of_cell? w _ hx310_0)).trans hx310_0;have HR310_0:=Aside0.mk hi310_0;have HC310_0:=Aside0.mk hl310_0;clear hi310_0 hl310_0;replace p310:=eq_true p310;replace q310:=eq_true q310;obtain ⟨hcz10_0,hcz10_1,hcz10_2,hfz10_0,hfz10_1,hfz10_2⟩:=zc3 BK309.out
      go_wp2
      go_ret
      exact ⟨zz6,(have h0_:=GE309;zz7)⟩
    ·have c5b0:=decide_eq_false c5;clear c5;obtain rfl:=Option.some.inj H
     go_wp2
     go_ret
     exact ⟨zz6,(have h0_:=GE309;zz7)⟩
 ·have c2b0:=beq_eq_false_iff_ne.mpr c2;have c2b1:=bne_iff_ne.mpr c2;have c2b2:(l0_2.length == l0_0.length) = false:=(have h0_:=c2;zz8);obtain rfl:=Option.some.inj H;go_enter Try.func61,Try.ntmps61
  go_wp2_with (first|((with_reducible refine gate_dst (N:=1) rfl ?_);refine box_event ?hg (N:=1) ?hd (cs:=#[.slice A0_0 l0_0.length c0_0,.slice A0_1 l0_1.length c0_1,.slice A0_2 l0_2.length c0_2]) (t:=36) ?hr ?_;(case hd=>rfl);(case hg=>rfl);(case hr=>exact zz77);intro gb309 hg w11 hbox hb;have BK309:=Aside0.mk (hbox);have GW309:=Aside0.mk ((by rw [hg];exact (below_size (zz5)):w.heap.size≤gb309));have GE309:=Aside0.mk ((by rw [hg];exact (below_size (zz5)):w.heap.size≤gb309));replace HB:=Aside0.mk (below_step (zz5) hb);clear hb hbox hg;obtain ⟨hcz12_0,hcz12_1,hcz12_2,hfz12_0,hfz12_1,hfz12_2⟩:=zc3 BK309.out))
  go_ret
  exact ⟨zz6,(have h0_:=GE309;zz7)⟩
end Go.Proofs.Ytmcegphcjphdcaa.QA
