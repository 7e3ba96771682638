import Derived.Test.YtmcegphcjphdcaaXSwQAx0
import Derived.Test.YtmcegphcjphdcaaXSwQAx1
import Derived.Test.YtmcegphcjphdcaaXSwQAx2
import Derived.Test.YtmcegphcjphdcaaXSwQAx3
import Derived.Test.YtmcegphcjphdcaaXSwQAx5
import Derived.Test.YtmcegphcjphdcaaXSwQAx13
import Derived.Test.YtmcegphcjphdcaaXSwQAx14
namespace Go.Proofs.Ytmcegphcjphdcaa.QA
open Go.RowKit Go.Proofs.YtmcegphcjphdcaaW.PrintWords Go.Proofs.YtmcegphcjphdcaaW.PrintLast Go.Proofs.YtmcegphcjphdcaaW.PrintMore
attribute [local go_sem] max2_int min2_int max_two min_two max_three min_three max_four min_four
set_option linter.unusedVariables false
set_option linter.unusedSimpArgs false
def U26.l0:Nat→List Int→List Int→Int→Int→Option (Bool)
 | 0,_,_,_,_=>none
 | k+1,x0,x5,x6,x7=>if x7 < x6 then (if 0≤x7 then (if x7 < (x5.length:Int) then (if (rd x5 x7) < 1 then (some false) else (if x7 > 0 then (if 0≤(wrap64 (x7 - 1)) then (if (wrap64 (x7 - 1)) < (x0.length:Int) then (if (rd x5 x7)≤(rd x0 (wrap64 (x7 - 1))) then (some false) else (U26.l0 k x0 x5 x6 (wrap64 (x7+1)))) else (none)) else (none)) else (U26.l0 k x0 x5 x6 (wrap64 (x7+1))))) else (none)) else (none)) else (some true)
def U26.f (k:Nat) (l0:List Int):Option (Bool):=U26.l0 k l0 l0 (l0.length:Int) 0
theorem zm20_0 {P:Prop} (h:P:=by repeat' first|(with_reducible first|exact ih0 ..|exact LeO.refl _|exact LeO.none _|refine LeO.ite ?_ ?_|refine LeO.bind ?_ (fun _=>?_))|exact ih0 ..|exact LeO.none _|refine LeO.ite ?_ ?_|refine LeO.bind ?_ (fun _=>?_)):P:=h
theorem U26.mono_l:∀ k,(∀ y0 y1 y2 y3,LeO (U26.l0 k y0 y1 y2 y3) (U26.l0 (k+1) y0 y1 y2 y3))
 | 0=>fun _ _ _ _ r h=>by simp [U26.l0] at h
 | k+1=>by
  have ih0:=U26.mono_l k
  ·intro y0 y1 y2 y3;unfold U26.l0
   exact zm20_0
theorem U26.mono:∀ a0 k,LeO (U26.f k a0) (U26.f (k+1) a0):=by
 intro a0 k;have ih0:=U26.mono_l k;unfold U26.f
 exact zm20_0
set_option maxHeartbeats 8000000 in
set_option maxRecDepth 100000 in
theorem U26.calls (k:Nat) (A0:Option Addr) (c0:Nat) (l0:List Int) (r:Bool) (w:World) (hr0:Kd.C (Kd.int .i64) w A0 l0.length l0) (hc0:l0.length≤c0) (h:U26.f k l0 = some r) :
  Calls Try.prog 63 #[.slice A0 l0.length c0] w fun e w'=>e = .returned (.bool r)∧Drawn0 w w':=by
 have HR0:=Aside0.mk hr0;have HC0:=Aside0.mk hc0;clear hr0 hc0;have H:(U26.l0 k l0 l0 (l0.length:Int) 0) = some r:=h;clear h;have H':=Aside0.mk H;clear H;go_enter Try.func63,Try.ntmps63
 go_wp2
 go_loopg [7] k (fun kq v7 w'=>∃ (x7_1:Int),v7 = .int .i64 x7_1∧Aside0 (U26.l0 kq l0 l0 (l0.length:Int) x7_1 = some r)∧Aside0 (kq≤k)∧Drawn0 w w')
 case atStart=>exact ⟨(0),(zz2),H',⟨Nat.le_refl _⟩,zz3⟩
 case round =>
  clear H';obtain ⟨x7_1,rfl,HA,HK1,⟨m1,rfl⟩⟩:=hrel
  cases gk with
  | zero=>exact absurd HA.out (by simp [U26.l0])
  | succ k1 =>
   have H:=HA.out;clear HA;simp only [U26.l0] at H;replace H:=zzj H;rcases H with ⟨c2,H⟩|⟨c2,H⟩
   ·have c2b0:=decide_eq_true c2;clear c2;replace H:=zzi H;obtain ⟨c3,H⟩:=H;have c3b0:=decide_eq_true c3;clear c3;replace H:=zzi H;obtain ⟨c4,H⟩:=H;have c4b0:=decide_eq_true c4;clear c4;replace H:=zzj H;rcases H with ⟨c5,H⟩|⟨c5,H⟩
    ·have c5b0:=decide_eq_true c5;clear c5;obtain rfl:=Option.some.inj H;have p371:0≤(x7_1:Int):=of_decide_eq_true (zz11);have q371:x7_1 < (l0.length:Int):=of_decide_eq_true (zz11);obtain ⟨ad371,e371,hx371_0⟩:=Kd.at_int HR0.out x7_1 p371 q371
     cases e371
     replace p371:=eq_true p371;replace q371:=eq_true q371
     go_wp2
     go_ret
     exact ⟨zz2,zz3⟩
    ·have c5b0:=decide_eq_false c5;clear c5;replace H:=zzj H;rcases H with ⟨c6,H⟩|⟨c6,H⟩
     ·have c6b0:=decide_eq_true c6;clear c6;obtain ⟨ji7,hji7⟩:∃ j_:Int,(wrap64 (x7_1 - 1)) = j_:=⟨_,rfl⟩;replace H:(if 0≤(ji7) then (if (ji7) < (l0.length:Int) then (if (rd l0 x7_1)≤(rd l0 (ji7)) then (some false) else (U26.l0 k1 l0 l0 (l0.length:Int) (wrap64 (x7_1+1)))) else (none)) else (none)) = some r:=(have h0_:=hji7;zz15);have hji7w:(IntKind.i64.wrap (x7_1 - 1)) = ji7:=(i64_w _).trans hji7;replace H:=zzi H;obtain ⟨c8,H⟩:=H;have c8b0:=decide_eq_true c8;clear c8;replace H:=zzi H;obtain ⟨c9,H⟩:=H;have c9b0:=decide_eq_true c9;clear c9;replace H:=zzj H;rcases H with ⟨c10,H⟩|⟨c10,H⟩
      ·have c10b0:=decide_eq_true c10;clear c10;obtain rfl:=Option.some.inj H;have p371:0≤(x7_1:Int):=of_decide_eq_true (zz11);have q371:x7_1 < (l0.length:Int):=of_decide_eq_true (zz11);obtain ⟨ad371,e371,hx371_0⟩:=Kd.at_int HR0.out x7_1 p371 q371
       cases e371
       replace p371:=eq_true p371;replace q371:=eq_true q371;have p372:0≤((ji7):Int):=of_decide_eq_true (zz11);have q372:(ji7) < (l0.length:Int):=of_decide_eq_true (zz11);obtain ⟨ad372,e372,hx372_0⟩:=Kd.at_int HR0.out (ji7) p372 q372;obtain rfl:ad371 = ad372:=(by injection e372);replace p372:=eq_true p372;replace q372:=eq_true q372
       go_wp2
       go_ret
       exact ⟨(have h0_:=hji7;zz17),zz3⟩
      ·have c10b0:=decide_eq_false c10;clear c10;have H':=Aside0.mk H;clear H;have p371:0≤(x7_1:Int):=of_decide_eq_true (zz11);have q371:x7_1 < (l0.length:Int):=of_decide_eq_true (zz11);obtain ⟨ad371,e371,hx371_0⟩:=Kd.at_int HR0.out x7_1 p371 q371
       cases e371
       replace p371:=eq_true p371;replace q371:=eq_true q371;have p372:0≤((ji7):Int):=of_decide_eq_true (zz11);have q372:(ji7) < (l0.length:Int):=of_decide_eq_true (zz11);obtain ⟨ad372,e372,hx372_0⟩:=Kd.at_int HR0.out (ji7) p372 q372;obtain rfl:ad371 = ad372:=(by injection e372);replace p372:=eq_true p372;replace q372:=eq_true q372
       go_wp2
       go_roundg k1
       case measure=>have:=HK1.out;omega
       case rel=>exact ⟨(wrap64 (x7_1+1)),(zz2),H',⟨zz12⟩,zz3⟩
     ·have c6b0:=decide_eq_false c6;clear c6;have H':=Aside0.mk H;clear H;have p371:0≤(x7_1:Int):=of_decide_eq_true (zz11);have q371:x7_1 < (l0.length:Int):=of_decide_eq_true (zz11);obtain ⟨ad371,e371,hx371_0⟩:=Kd.at_int HR0.out x7_1 p371 q371
      cases e371
      replace p371:=eq_true p371;replace q371:=eq_true q371
      go_wp2
      go_roundg k1
      case measure=>have:=HK1.out;omega
      case rel=>exact ⟨(wrap64 (x7_1+1)),(zz2),H',⟨zz12⟩,zz3⟩
   ·have c2b0:=decide_eq_false c2;clear c2;obtain rfl:=Option.some.inj H
    go_wp2
    go_ret
    exact ⟨zz2,zz3⟩
def U27.l0:Nat→List (List Int)→Int→Int→List Int→List Int→List (List Int)→Option (Bool)
 | 0,_,_,_,_,_,_=>none
 | k+1,x13,x14,x15,x374000,x374001,x374002=>if x15 < x14 then (if 0≤x15 then (if x15 < (x13.length:Int) then (if ((rd_L1 x13 x15).length:Int) = (x374001.length:Int) then (U27.l0 k x13 x14 (wrap64 (x15+1)) x374000 x374001 x374002) else (some false)) else (none)) else (none)) else (some true)
def U27.f (k:Nat) (l0_0:List Int) (l0_1:List Int) (l0_2:List (List Int)):Option (Bool):=if (l0_2.length:Int) = (l0_0.length:Int) then (U27.l0 k l0_2 (l0_2.length:Int) 0 l0_0 l0_1 l0_2) else (some false)
theorem U27.mono_l:∀ k,(∀ y0 y1 y2 y3 y4 y5,LeO (U27.l0 k y0 y1 y2 y3 y4 y5) (U27.l0 (k+1) y0 y1 y2 y3 y4 y5))
 | 0=>fun _ _ _ _ _ _ r h=>by simp [U27.l0] at h
 | k+1=>by
  have ih0:=U27.mono_l k
  ·intro y0 y1 y2 y3 y4 y5;unfold U27.l0
   exact zm20_0
theorem U27.mono:∀ a0 a1 a2 k,LeO (U27.f k a0 a1 a2) (U27.f (k+1) a0 a1 a2):=by
 intro a0 a1 a2 k;have ih0:=U27.mono_l k;unfold U27.f
 exact zm20_0
set_option maxHeartbeats 8000000 in
set_option maxRecDepth 100000 in
theorem U27.calls (k:Nat) (A0_0:Option Addr) (c0_0:Nat) (l0_0:List Int) (A0_1:Option Addr) (c0_1:Nat) (l0_1:List Int) (A0_2:Option Addr) (c0_2:Nat) (l0_2:List (List Int)) (r:Bool) (w:World) (hr0_0:Kd.C (Kd.int .i64) w A0_0 l0_0.length l0_0) (hc0_0:l0_0.length≤c0_0) (hr0_1:Kd.C (Kd.int .i64) w A0_1 l0_1.length l0_1) (hc0_1:l0_1.length≤c0_1) (hr0_2:Kd.C (Kd.slice 3 (Kd.int .i64)) w A0_2 l0_2.length l0_2) (hc0_2:l0_2.length≤c0_2) (h:U27.f k l0_0 l0_1 l0_2 = some r) :
  Calls Try.prog 64 #[.agg #[.slice A0_0 l0_0.length c0_0,.slice A0_1 l0_1.length c0_1,.slice A0_2 l0_2.length c0_2]] w fun e w'=>e = .returned (.bool r)∧Below w.heap.size w w':=by
 have hu36:=Try.underlying36;have HR0_0:=Aside0.mk hr0_0;have HC0_0:=Aside0.mk hc0_0;clear hr0_0 hc0_0;have HR0_1:=Aside0.mk hr0_1;have HC0_1:=Aside0.mk hc0_1;clear hr0_1 hc0_1;have HR0_2:=Aside0.mk hr0_2;have HC0_2:=Aside0.mk hc0_2;clear hr0_2 hc0_2;have HB:=Aside0.mk (Below.refl w.heap.size w);have H:(if (l0_2.length:Int) = (l0_0.length:Int) then (U27.l0 k l0_2 (l0_2.length:Int) 0 l0_0 l0_1 l0_2) else (some false)) = some r:=h;clear h;replace H:=zzj H;rcases H with ⟨c2,H⟩|⟨c2,H⟩
 ·have c2b0:=beq_iff_eq.mpr c2;have c2b1:=bne_eq_false_iff_eq.mpr c2;have c2b2:(l0_2.length == l0_0.length) = true:=(have h0_:=c2;zz8);clear c2;have H':=Aside0.mk H;clear H;go_enter Try.func64,Try.ntmps64
  go_wp2_with (first|((with_reducible refine gate_dst (N:=1) rfl ?_);refine box_event ?hg (N:=1) ?hd (cs:=#[.slice A0_0 l0_0.length c0_0,.slice A0_1 l0_1.length c0_1,.slice A0_2 l0_2.length c0_2]) (t:=36) ?hr ?_;(case hd=>rfl);(case hg=>rfl);(case hr=>exact zz109);intro gb373 hg w3 hbox hb;have BK373:=Aside0.mk (hbox);have GW373:=Aside0.mk ((by rw [hg];exact (below_size (zz5)):w.heap.size≤gb373));have GE373:=Aside0.mk ((by rw [hg];exact (below_size (zz5)):w.heap.size≤gb373));replace HB:=Aside0.mk (below_step (zz5) hb);clear hb hbox hg;obtain ⟨hcz4_0,hcz4_1,hcz4_2,hfz4_0,hfz4_1,hfz4_2⟩:=zc3 BK373.out))
  go_loopg [15] k (fun kq v15 w'=>∃ (x15_1:Int),v15 = .int .i64 x15_1∧Aside0 (U27.l0 kq l0_2 (l0_2.length:Int) x15_1 l0_0 l0_1 l0_2 = some r)∧Aside0 (kq≤k)∧Aside0 (w'.heap[gb373]? = some (.cells #[(.slice A0_0 l0_0.length c0_0),(.slice A0_1 l0_1.length c0_1),(.slice A0_2 l0_2.length c0_2)] 36 (0,0)))∧Aside0 (Below w.heap.size w w'))
  case atStart=>exact ⟨(0),(zz2),H',⟨Nat.le_refl _⟩,⟨(have h0_:=BK373;zz9)⟩,⟨(have h0_:=GE373;zz7)⟩⟩
  case round =>
   clear H'
   clear c2b0 c2b1 c2b2;(try clear hcz4_0);(try clear hcz4_1);(try clear hcz4_2);(try clear hfz4_0);(try clear hfz4_1);(try clear hfz4_2)
   obtain ⟨x15_1,rfl,HA,HK1,BK373,HB⟩:=hrel
   cases gk with
   | zero=>exact absurd HA.out (by simp [U27.l0])
   | succ k1 =>
    have H:=HA.out;clear HA;simp only [U27.l0] at H;replace H:=zzj H;rcases H with ⟨c5,H⟩|⟨c5,H⟩
    ·have c5b0:=decide_eq_true c5;clear c5;replace H:=zzi H;obtain ⟨c6,H⟩:=H;have c6b0:=decide_eq_true c6;clear c6;replace H:=zzi H;obtain ⟨c7,H⟩:=H;have c7b0:=decide_eq_true c7;clear c7;replace H:=zzj H;rcases H with ⟨c8,H⟩|⟨c8,H⟩
     ·have c8b0:=beq_iff_eq.mpr c8;have c8b1:=bne_eq_false_iff_eq.mpr c8;have c8b2:((rd_L1 l0_2 x15_1).length == l0_1.length) = true:=(have h0_:=c8;zz8);clear c8;have H':=Aside0.mk H;clear H;have p374:0≤(x15_1:Int):=of_decide_eq_true (zz11);have q374:x15_1 < (l0_2.length:Int):=of_decide_eq_true (zz11);obtain ⟨ad374,A374_0,c374_0,e374,hx374_0,hl374_0,hi374_0⟩:=at_L1 HR0_2.out x15_1 p374 q374
      cases e374
      replace hx374_0:=(HB.out.cell (World.block_lt_of_cell? w _ hx374_0)).trans hx374_0;have HR374_0:=Aside0.mk hi374_0;have HC374_0:=Aside0.mk hl374_0;clear hi374_0 hl374_0;replace p374:=eq_true p374;replace q374:=eq_true q374;obtain ⟨hcz9_0,hcz9_1,hcz9_2,hfz9_0,hfz9_1,hfz9_2⟩:=zc3 BK373.out
      go_wp2
      go_roundg k1
      case measure=>have:=HK1.out;omega
      case rel=>exact ⟨(wrap64 (x15_1+1)),(zz2),H',⟨zz12⟩,⟨(have h0_:=BK373;zz9)⟩,⟨(have h0_:=GE373;zz7)⟩⟩
     ·have c8b0:=beq_eq_false_iff_ne.mpr c8;have c8b1:=bne_iff_ne.mpr c8;have c8b2:((rd_L1 l0_2 x15_1).length == l0_1.length) = false:=(have h0_:=c8;zz8);obtain rfl:=Option.some.inj H;have p374:0≤(x15_1:Int):=of_decide_eq_true (zz11);have q374:x15_1 < (l0_2.length:Int):=of_decide_eq_true (zz11);obtain ⟨ad374,A374_0,c374_0,e374,hx374_0,hl374_0,hi374_0⟩:=at_L1 HR0_2.out x15_1 p374 q374
      cases e374
      replace hx374_0:=(HB.out.cell (World.block_lt_of_cell? w _ hx374_0)).trans hx374_0;have HR374_0:=Aside0.mk hi374_0;have HC374_0:=Aside0.mk hl374_0;clear hi374_0 hl374_0;replace p374:=eq_true p374;replace q374:=eq_true q374;obtain ⟨hcz10_0,hcz10_1,hcz10_2,hfz10_0,hfz10_1,hfz10_2⟩:=zc3 BK373.out
      go_wp2
      go_ret
      exact ⟨zz6,(have h0_:=GE373;zz7)⟩
    ·have c5b0:=decide_eq_false c5;clear c5;obtain rfl:=Option.some.inj H
     go_wp2
     go_ret
     exact ⟨zz6,(have h0_:=GE373;zz7)⟩
 ·have c2b0:=beq_eq_false_iff_ne.mpr c2;have c2b1:=bne_iff_ne.mpr c2;have c2b2:(l0_2.length == l0_0.length) = false:=(have h0_:=c2;zz8);obtain rfl:=Option.some.inj H;go_enter Try.func64,Try.ntmps64
  go_wp2_with (first|((with_reducible refine gate_dst (N:=1) rfl ?_);refine box_event ?hg (N:=1) ?hd (cs:=#[.slice A0_0 l0_0.length c0_0,.slice A0_1 l0_1.length c0_1,.slice A0_2 l0_2.length c0_2]) (t:=36) ?hr ?_;(case hd=>rfl);(case hg=>rfl);(case hr=>exact zz109);intro gb373 hg w11 hbox hb;have BK373:=Aside0.mk (hbox);have GW373:=Aside0.mk ((by rw [hg];exact (below_size (zz5)):w.heap.size≤gb373));have GE373:=Aside0.mk ((by rw [hg];exact (below_size (zz5)):w.heap.size≤gb373));replace HB:=Aside0.mk (below_step (zz5) hb);clear hb hbox hg;obtain ⟨hcz12_0,hcz12_1,hcz12_2,hfz12_0,hfz12_1,hfz12_2⟩:=zc3 BK373.out))
  go_ret
  exact ⟨zz6,(have h0_:=GE373;zz7)⟩
end Go.Proofs.Ytmcegphcjphdcaa.QA
