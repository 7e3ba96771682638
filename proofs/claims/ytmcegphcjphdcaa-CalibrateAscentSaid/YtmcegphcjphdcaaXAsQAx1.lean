import Derived.Test.YtmcegphcjphdcaaXAsQAx0
namespace Go.Proofs.Ytmcegphcjphdcaa.QA
open Go.RowKit Go.Proofs.YtmcegphcjphdcaaW.PrintWords Go.Proofs.YtmcegphcjphdcaaW.PrintLast Go.Proofs.YtmcegphcjphdcaaW.PrintMore
attribute [local go_sem] max2_int min2_int max_two min_two max_three min_three max_four min_four
set_option linter.unusedVariables false
set_option linter.unusedSimpArgs false
def U17.f (a0:Int) (a1:Int) (a2:Int):Option (Bool):=if a0≥a1 then (some (decide (a0≤a2))) else (some false)
set_option maxHeartbeats 8000000 in
set_option maxRecDepth 100000 in
theorem U17.calls (a0:Int) (a1:Int) (a2:Int) (r:Bool) (w:World) (h:U17.f a0 a1 a2 = some r) :
  Calls Try.prog 53 #[.int .i64 a0,.int .i64 a1,.int .i64 a2] w fun e w'=>e = .returned (.bool r)∧Drawn0 w w':=by
 have H:(if a0≥a1 then (some (decide (a0≤a2))) else (some false)) = some r:=h;clear h;replace H:=zzj H;rcases H with ⟨c4,H⟩|⟨c4,H⟩
 ·have c4b0:=decide_eq_true c4;clear c4;obtain rfl:=Option.some.inj H;go_enter Try.func53,Try.ntmps53
  go_wp2
  go_ret
  exact ⟨zz2,zz3⟩
 ·have c4b0:=decide_eq_false c4;clear c4;obtain rfl:=Option.some.inj H;go_enter Try.func53,Try.ntmps53
  go_wp2
  go_ret
  exact ⟨zz2,zz3⟩
mutual
def U16.l0:Nat→List Int→Int→Int→List Int→List Int→Option (Int)
 | 0,_,_,_,_,_=>none
 | k+1,x25,x26,x27,x102000,x102001=>if x27 < x26 then (if 0≤x27 then (if x27 < (x25.length:Int) then ((U17.f (rd x25 x27) (-1000) 1000).bind fun t103=>(if t103 = true then (if x27 < (x102001.length:Int) then ((U17.f (rd x102001 x27) 1 1000).bind fun t105=>(if t105 = true then (U16.l0 k x25 x26 (wrap64 (x27+1)) x102000 x102001) else (some 3))) else (none)) else (some 3))) else (none)) else (none)) else (if 1≤(x102000.length:Int) then (U16.l1 k ((x102000.drop 1).length:Int) 0 x102000 x102001) else (none))
def U16.l1:Nat→Int→Int→List Int→List Int→Option (Int)
 | 0,_,_,_,_=>none
 | k+1,x48,x49,x102000,x102001=>if x49 < x48 then (if 0≤x49 then (if x49 < (x102000.length:Int) then (if 0≤(wrap64 (x49+1)) then (if (wrap64 (x49+1)) < (x102000.length:Int) then (if (rd x102000 x49)≥(rd x102000 (wrap64 (x49+1))) then (some 23) else (U16.l1 k x48 (wrap64 (x49+1)) x102000 x102001)) else (none)) else (none)) else (none)) else (none)) else (some 0)
end
def U16.f (k:Nat) (l0_0:List Int) (l0_1:List Int):Option (Int):=if (l0_0.length:Int) > 21 then (some 5) else (if (l0_0.length:Int) = 0 then (some 20) else (if (l0_1.length:Int) = (l0_0.length:Int) then (U16.l0 k l0_0 (l0_0.length:Int) 0 l0_0 l0_1) else (some 1)))
theorem zm1_0 {P:Prop} (h:P:=by repeat' first|(with_reducible first|exact ih0 ..|exact ih1 ..|exact LeO.refl _|exact LeO.none _|refine LeO.ite ?_ ?_|refine LeO.bind ?_ (fun _=>?_))|exact ih0 ..|exact ih1 ..|exact LeO.none _|refine LeO.ite ?_ ?_|refine LeO.bind ?_ (fun _=>?_)):P:=h
theorem U16.mono_l:∀ k,(∀ y0 y1 y2 y3 y4,LeO (U16.l0 k y0 y1 y2 y3 y4) (U16.l0 (k+1) y0 y1 y2 y3 y4))∧(∀ y0 y1 y2 y3,LeO (U16.l1 k y0 y1 y2 y3) (U16.l1 (k+1) y0 y1 y2 y3))
 | 0=>⟨fun _ _ _ _ _ r h=>by simp [U16.l0] at h,fun _ _ _ _ r h=>by simp [U16.l1] at h⟩
 | k+1=>by
  obtain ⟨ih0,ih1⟩:=U16.mono_l k;refine ⟨?_,?_⟩
  ·intro y0 y1 y2 y3 y4;unfold U16.l0
   exact zm1_0
  ·intro y0 y1 y2 y3;unfold U16.l1
   exact zm1_0
theorem U16.mono:∀ a0 a1 k,LeO (U16.f k a0 a1) (U16.f (k+1) a0 a1):=by
 intro a0 a1 k;obtain ⟨ih0,ih1⟩:=U16.mono_l k;unfold U16.f
 exact zm1_0
set_option maxHeartbeats 8000000 in
set_option maxRecDepth 100000 in
theorem U16.calls (k:Nat) (A0_0:Option Addr) (c0_0:Nat) (l0_0:List Int) (A0_1:Option Addr) (c0_1:Nat) (l0_1:List Int) (r:Int) (w:World) (hr0_0:Kd.C (Kd.int .i64) w A0_0 l0_0.length l0_0) (hc0_0:l0_0.length≤c0_0) (hr0_1:Kd.C (Kd.int .i64) w A0_1 l0_1.length l0_1) (hc0_1:l0_1.length≤c0_1) (h:U16.f k l0_0 l0_1 = some r) :
  Calls Try.prog 28 #[.agg #[.slice A0_0 l0_0.length c0_0,.slice A0_1 l0_1.length c0_1]] w fun e w'=>e = .returned (.int .i64 r)∧Below w.heap.size w w':=by
 have hu24:=Try.underlying24;have HR0_0:=Aside0.mk hr0_0;have HC0_0:=Aside0.mk hc0_0;clear hr0_0 hc0_0;have HR0_1:=Aside0.mk hr0_1;have HC0_1:=Aside0.mk hc0_1;clear hr0_1 hc0_1;have HB:=Aside0.mk (Below.refl w.heap.size w);have H:(if (l0_0.length:Int) > 21 then (some 5) else (if (l0_0.length:Int) = 0 then (some 20) else (if (l0_1.length:Int) = (l0_0.length:Int) then (U16.l0 k l0_0 (l0_0.length:Int) 0 l0_0 l0_1) else (some 1)))) = some r:=h;clear h;replace H:=zzj H;rcases H with ⟨c2,H⟩|⟨c2,H⟩
 ·have c2b0:=decide_eq_true c2;have c2b1:decide (21 < l0_0.length) = true:=decide_eq_true (zz4);clear c2;obtain rfl:=Option.some.inj H;go_enter Try.func28,Try.ntmps28
  go_wp2_with (first|((with_reducible refine gate_dst (N:=1) rfl ?_);refine box_event ?hg (N:=1) ?hd (cs:=#[.slice A0_0 l0_0.length c0_0,.slice A0_1 l0_1.length c0_1]) (t:=24) ?hr ?_;(case hd=>rfl);(case hg=>rfl);(case hr=>exact zz77);intro gb101 hg w3 hbox hb;have BK101:=Aside0.mk (hbox);have GW101:=Aside0.mk ((by rw [hg];exact (below_size (zz5)):w.heap.size≤gb101));have GE101:=Aside0.mk ((by rw [hg];exact (below_size (zz5)):w.heap.size≤gb101));replace HB:=Aside0.mk (below_step (zz5) hb);clear hb hbox hg;obtain ⟨hcz4_0,hcz4_1,hfz4_0,hfz4_1⟩:=zc2 BK101.out))
  repeat (go_quiet (first|((with_reducible refine gate_dst (N:=1) rfl ?_);refine box_event ?hg (N:=1) ?hd (cs:=#[.slice A0_0 l0_0.length c0_0,.slice A0_1 l0_1.length c0_1]) (t:=24) ?hr ?_;(case hd=>rfl);(case hg=>rfl);(case hr=>exact zz77);intro gb101 hg w3 hbox hb;have BK101:=Aside0.mk (hbox);have GW101:=Aside0.mk ((by rw [hg];exact (below_size (zz5)):w.heap.size≤gb101));have GE101:=Aside0.mk ((by rw [hg];exact (below_size (zz5)):w.heap.size≤gb101));replace HB:=Aside0.mk (below_step (zz5) hb);clear hb hbox hg;obtain ⟨hcz4_0,hcz4_1,hfz4_0,hfz4_1⟩:=zc2 BK101.out));try go_wp2_with (first|((with_reducible refine gate_dst (N:=1) rfl ?_);refine box_event ?hg (N:=1) ?hd (cs:=#[.slice A0_0 l0_0.length c0_0,.slice A0_1 l0_1.length c0_1]) (t:=24) ?hr ?_;(case hd=>rfl);(case hg=>rfl);(case hr=>exact zz77);intro gb101 hg w3 hbox hb;have BK101:=Aside0.mk (hbox);have GW101:=Aside0.mk ((by rw [hg];exact (below_size (zz5)):w.heap.size≤gb101));have GE101:=Aside0.mk ((by rw [hg];exact (below_size (zz5)):w.heap.size≤gb101));replace HB:=Aside0.mk (below_step (zz5) hb);clear hb hbox hg;obtain ⟨hcz4_0,hcz4_1,hfz4_0,hfz4_1⟩:=zc2 BK101.out)))
  go_ret
  exact ⟨zz6,(have h0_:=GE101;zz7)⟩
 ·have c2b0:=decide_eq_false c2;have c2b1:decide (21 < l0_0.length) = false:=decide_eq_false (zz4);clear c2;replace H:=zzj H;rcases H with ⟨c5,H⟩|⟨c5,H⟩
  ·have c5b0:=beq_iff_eq.mpr c5;have c5b1:=bne_eq_false_iff_eq.mpr c5;clear c5;obtain rfl:=Option.some.inj H;go_enter Try.func28,Try.ntmps28
   go_wp2_with (first|((with_reducible refine gate_dst (N:=1) rfl ?_);refine box_event ?hg (N:=1) ?hd (cs:=#[.slice A0_0 l0_0.length c0_0,.slice A0_1 l0_1.length c0_1]) (t:=24) ?hr ?_;(case hd=>rfl);(case hg=>rfl);(case hr=>exact zz77);intro gb101 hg w6 hbox hb;have BK101:=Aside0.mk (hbox);have GW101:=Aside0.mk ((by rw [hg];exact (below_size (zz5)):w.heap.size≤gb101));have GE101:=Aside0.mk ((by rw [hg];exact (below_size (zz5)):w.heap.size≤gb101));replace HB:=Aside0.mk (below_step (zz5) hb);clear hb hbox hg;obtain ⟨hcz7_0,hcz7_1,hfz7_0,hfz7_1⟩:=zc2 BK101.out))
   repeat (go_quiet (first|((with_reducible refine gate_dst (N:=1) rfl ?_);refine box_event ?hg (N:=1) ?hd (cs:=#[.slice A0_0 l0_0.length c0_0,.slice A0_1 l0_1.length c0_1]) (t:=24) ?hr ?_;(case hd=>rfl);(case hg=>rfl);(case hr=>exact zz77);intro gb101 hg w6 hbox hb;have BK101:=Aside0.mk (hbox);have GW101:=Aside0.mk ((by rw [hg];exact (below_size (zz5)):w.heap.size≤gb101));have GE101:=Aside0.mk ((by rw [hg];exact (below_size (zz5)):w.heap.size≤gb101));replace HB:=Aside0.mk (below_step (zz5) hb);clear hb hbox hg;obtain ⟨hcz7_0,hcz7_1,hfz7_0,hfz7_1⟩:=zc2 BK101.out));try go_wp2_with (first|((with_reducible refine gate_dst (N:=1) rfl ?_);refine box_event ?hg (N:=1) ?hd (cs:=#[.slice A0_0 l0_0.length c0_0,.slice A0_1 l0_1.length c0_1]) (t:=24) ?hr ?_;(case hd=>rfl);(case hg=>rfl);(case hr=>exact zz77);intro gb101 hg w6 hbox hb;have BK101:=Aside0.mk (hbox);have GW101:=Aside0.mk ((by rw [hg];exact (below_size (zz5)):w.heap.size≤gb101));have GE101:=Aside0.mk ((by rw [hg];exact (below_size (zz5)):w.heap.size≤gb101));replace HB:=Aside0.mk (below_step (zz5) hb);clear hb hbox hg;obtain ⟨hcz7_0,hcz7_1,hfz7_0,hfz7_1⟩:=zc2 BK101.out)))
   go_ret
   exact ⟨zz6,(have h0_:=GE101;zz7)⟩
  ·have c5b0:=beq_eq_false_iff_ne.mpr c5;have c5b1:=bne_iff_ne.mpr c5;have c5b2:¬ (l0_0 = []):=fun h_=>c5 (by rw [h_];rfl);replace H:=zzj H;rcases H with ⟨c8,H⟩|⟨c8,H⟩
   ·have c8b0:=beq_iff_eq.mpr c8;have c8b1:=bne_eq_false_iff_eq.mpr c8;have c8b2:(l0_1.length == l0_0.length) = true:=(have h0_:=c8;zz8);clear c8;have H':=Aside0.mk H;clear H;go_enter Try.func28,Try.ntmps28
    go_wp2_with (first|((with_reducible refine gate_dst (N:=1) rfl ?_);refine box_event ?hg (N:=1) ?hd (cs:=#[.slice A0_0 l0_0.length c0_0,.slice A0_1 l0_1.length c0_1]) (t:=24) ?hr ?_;(case hd=>rfl);(case hg=>rfl);(case hr=>exact zz77);intro gb101 hg w9 hbox hb;have BK101:=Aside0.mk (hbox);have GW101:=Aside0.mk ((by rw [hg];exact (below_size (zz5)):w.heap.size≤gb101));have GE101:=Aside0.mk ((by rw [hg];exact (below_size (zz5)):w.heap.size≤gb101));replace HB:=Aside0.mk (below_step (zz5) hb);clear hb hbox hg;obtain ⟨hcz10_0,hcz10_1,hfz10_0,hfz10_1⟩:=zc2 BK101.out))
    repeat (go_quiet (first|((with_reducible refine gate_dst (N:=1) rfl ?_);refine box_event ?hg (N:=1) ?hd (cs:=#[.slice A0_0 l0_0.length c0_0,.slice A0_1 l0_1.length c0_1]) (t:=24) ?hr ?_;(case hd=>rfl);(case hg=>rfl);(case hr=>exact zz77);intro gb101 hg w9 hbox hb;have BK101:=Aside0.mk (hbox);have GW101:=Aside0.mk ((by rw [hg];exact (below_size (zz5)):w.heap.size≤gb101));have GE101:=Aside0.mk ((by rw [hg];exact (below_size (zz5)):w.heap.size≤gb101));replace HB:=Aside0.mk (below_step (zz5) hb);clear hb hbox hg;obtain ⟨hcz10_0,hcz10_1,hfz10_0,hfz10_1⟩:=zc2 BK101.out));try go_wp2_with (first|((with_reducible refine gate_dst (N:=1) rfl ?_);refine box_event ?hg (N:=1) ?hd (cs:=#[.slice A0_0 l0_0.length c0_0,.slice A0_1 l0_1.length c0_1]) (t:=24) ?hr ?_;(case hd=>rfl);(case hg=>rfl);(case hr=>exact zz77);intro gb101 hg w9 hbox hb;have BK101:=Aside0.mk (hbox);have GW101:=Aside0.mk ((by rw [hg];exact (below_size (zz5)):w.heap.size≤gb101));have GE101:=Aside0.mk ((by rw [hg];exact (below_size (zz5)):w.heap.size≤gb101));replace HB:=Aside0.mk (below_step (zz5) hb);clear hb hbox hg;obtain ⟨hcz10_0,hcz10_1,hfz10_0,hfz10_1⟩:=zc2 BK101.out)))
    go_loopg [27] k (fun kq v27 w'=>∃ (x27_1:Int),v27 = .int .i64 x27_1∧Aside0 (U16.l0 kq l0_0 (l0_0.length:Int) x27_1 l0_0 l0_1 = some r)∧Aside0 (kq≤k)∧Aside0 (w'.heap[gb101]? = some (.cells #[(.slice A0_0 l0_0.length c0_0),(.slice A0_1 l0_1.length c0_1)] 24 (0,0)))∧Aside0 (Below w.heap.size w w'))
    case atStart=>exact ⟨(0),(zz2),H',⟨Nat.le_refl _⟩,⟨(have h0_:=BK101;zz9)⟩,⟨(have h0_:=GE101;zz7)⟩⟩
    case round =>
     clear H'
     clear c2b0 c2b1 c5 c5b0 c5b1 c5b2 c8b0 c8b1 c8b2;(try clear hcz10_0);(try clear hcz10_1);(try clear hfz10_0);(try clear hfz10_1)
     obtain ⟨x27_1,rfl,HA,HK1,BK101,HB⟩:=hrel
     cases gk with
     | zero=>exact absurd HA.out (by simp [U16.l0])
     | succ k1 =>
      have H:=HA.out;clear HA;simp only [U16.l0] at H;replace H:=zzj H;rcases H with ⟨c11,H⟩|⟨c11,H⟩
      ·have c11b0:=decide_eq_true c11;clear c11;replace H:=zzi H;obtain ⟨c12,H⟩:=H;have c12b0:=decide_eq_true c12;clear c12;replace H:=zzi H;obtain ⟨c13,H⟩:=H;have c13b0:=decide_eq_true c13;clear c13;replace H:=zzb H;obtain ⟨t103,A14,H⟩:=H;by_cases c15:t103 = true
       ·subst c15;have H1:(if x27_1 < (l0_1.length:Int) then ((U17.f (rd l0_1 x27_1) 1 1000).bind fun t105=>(if t105 = true then (U16.l0 k1 l0_0 (l0_0.length:Int) (wrap64 (x27_1+1)) l0_0 l0_1) else (some 3))) else (none)) = some r:=zz10;clear H;have H:=H1;clear H1;replace H:=zzi H;obtain ⟨c16,H⟩:=H;have c16b0:=decide_eq_true c16;clear c16;replace H:=zzb H;obtain ⟨t105,A17,H⟩:=H;by_cases c18:t105 = true
        ·subst c18;have H1:(U16.l0 k1 l0_0 (l0_0.length:Int) (wrap64 (x27_1+1)) l0_0 l0_1) = some r:=zz10;clear H;have H:=H1;clear H1;have H':=Aside0.mk H;clear H;have p102:0≤(x27_1:Int):=of_decide_eq_true (zz11);have q102:x27_1 < (l0_0.length:Int):=of_decide_eq_true (zz11);obtain ⟨ad102,e102,hx102_0⟩:=Kd.at_int HR0_0.out x27_1 p102 q102
         cases e102
         replace hx102_0:=(HB.out.cell (World.block_lt_of_cell? w _ hx102_0)).trans hx102_0;replace p102:=eq_true p102;replace q102:=eq_true q102
         go_wp2_with (first|(go_at_call 53;(with_reducible refine (U17.calls (rd l0_0 x27_1) (-1000) 1000 true _ A14.out).mono ?_);rintro e w' ⟨rfl,⟨nd,rfl⟩⟩;(try first|exact ⟨rfl,_,World.drewN_drewN _ _ _⟩|exact ⟨rfl,_,Eq.trans (World.drewN_drewN _ _ _) (congrArg (World.drewN _) (Nat.add_assoc _ _ _))⟩);obtain ⟨hcz19_0,hcz19_1,hfz19_0,hfz19_1⟩:=zc2 BK101.out;have p104:0≤(x27_1:Int):=of_decide_eq_true (zz11);have q104:x27_1 < (l0_1.length:Int):=of_decide_eq_true (zz11);obtain ⟨ad104,e104,hx104_0⟩:=Kd.at_int HR0_1.out x27_1 p104 q104;cases e104;replace hx104_0:=(HB.out.cell (World.block_lt_of_cell? w _ hx104_0)).trans hx104_0;replace p104:=eq_true p104;replace q104:=eq_true q104)|(go_at_call 53;(with_reducible refine (U17.calls (rd l0_1 x27_1) 1 1000 true _ A17.out).mono ?_);rintro e w' ⟨rfl,⟨nd,rfl⟩⟩;(try first|exact ⟨rfl,_,World.drewN_drewN _ _ _⟩|exact ⟨rfl,_,Eq.trans (World.drewN_drewN _ _ _) (congrArg (World.drewN _) (Nat.add_assoc _ _ _))⟩)))
         repeat (go_quiet (first|(go_at_call 53;(with_reducible refine (U17.calls (rd l0_0 x27_1) (-1000) 1000 true _ A14.out).mono ?_);rintro e w' ⟨rfl,⟨nd,rfl⟩⟩;(try first|exact ⟨rfl,_,World.drewN_drewN _ _ _⟩|exact ⟨rfl,_,Eq.trans (World.drewN_drewN _ _ _) (congrArg (World.drewN _) (Nat.add_assoc _ _ _))⟩);obtain ⟨hcz19_0,hcz19_1,hfz19_0,hfz19_1⟩:=zc2 BK101.out;have p104:0≤(x27_1:Int):=of_decide_eq_true (zz11);have q104:x27_1 < (l0_1.length:Int):=of_decide_eq_true (zz11);obtain ⟨ad104,e104,hx104_0⟩:=Kd.at_int HR0_1.out x27_1 p104 q104;cases e104;replace hx104_0:=(HB.out.cell (World.block_lt_of_cell? w _ hx104_0)).trans hx104_0;replace p104:=eq_true p104;replace q104:=eq_true q104)|(go_at_call 53;(with_reducible refine (U17.calls (rd l0_1 x27_1) 1 1000 true _ A17.out).mono ?_);rintro e w' ⟨rfl,⟨nd,rfl⟩⟩;(try first|exact ⟨rfl,_,World.drewN_drewN _ _ _⟩|exact ⟨rfl,_,Eq.trans (World.drewN_drewN _ _ _) (congrArg (World.drewN _) (Nat.add_assoc _ _ _))⟩)));try go_wp2_with (first|(go_at_call 53;(with_reducible refine (U17.calls (rd l0_0 x27_1) (-1000) 1000 true _ A14.out).mono ?_);rintro e w' ⟨rfl,⟨nd,rfl⟩⟩;(try first|exact ⟨rfl,_,World.drewN_drewN _ _ _⟩|exact ⟨rfl,_,Eq.trans (World.drewN_drewN _ _ _) (congrArg (World.drewN _) (Nat.add_assoc _ _ _))⟩);obtain ⟨hcz19_0,hcz19_1,hfz19_0,hfz19_1⟩:=zc2 BK101.out;have p104:0≤(x27_1:Int):=of_decide_eq_true (zz11);have q104:x27_1 < (l0_1.length:Int):=of_decide_eq_true (zz11);obtain ⟨ad104,e104,hx104_0⟩:=Kd.at_int HR0_1.out x27_1 p104 q104;cases e104;replace hx104_0:=(HB.out.cell (World.block_lt_of_cell? w _ hx104_0)).trans hx104_0;replace p104:=eq_true p104;replace q104:=eq_true q104)|(go_at_call 53;(with_reducible refine (U17.calls (rd l0_1 x27_1) 1 1000 true _ A17.out).mono ?_);rintro e w' ⟨rfl,⟨nd,rfl⟩⟩;(try first|exact ⟨rfl,_,World.drewN_drewN _ _ _⟩|exact ⟨rfl,_,Eq.trans (World.drewN_drewN _ _ _) (congrArg (World.drewN _) (Nat.add_assoc _ _ _))⟩))))
         go_roundg k1
         case measure=>have:=HK1.out;omega
         case rel=>exact ⟨(wrap64 (x27_1+1)),(zz2),H',⟨zz12⟩,⟨(have h0_:=BK101;zz9)⟩,⟨(have h0_:=GE101;zz7)⟩⟩
        ·replace c18:=Bool.eq_false_iff.mpr c18;subst c18;have H1:(some 3) = some r:=zz13;clear H;have H:=H1;clear H1;obtain rfl:=Option.some.inj H;have p102:0≤(x27_1:Int):=of_decide_eq_true (zz11);have q102:x27_1 < (l0_0.length:Int):=of_decide_eq_true (zz11);obtain ⟨ad102,e102,hx102_0⟩:=Kd.at_int HR0_0.out x27_1 p102 q102
         cases e102
         replace hx102_0:=(HB.out.cell (World.block_lt_of_cell? w _ hx102_0)).trans hx102_0;replace p102:=eq_true p102;replace q102:=eq_true q102
         go_wp2_with (first|(go_at_call 53;(with_reducible refine (U17.calls (rd l0_0 x27_1) (-1000) 1000 true _ A14.out).mono ?_);rintro e w' ⟨rfl,⟨nd,rfl⟩⟩;(try first|exact ⟨rfl,_,World.drewN_drewN _ _ _⟩|exact ⟨rfl,_,Eq.trans (World.drewN_drewN _ _ _) (congrArg (World.drewN _) (Nat.add_assoc _ _ _))⟩);obtain ⟨hcz20_0,hcz20_1,hfz20_0,hfz20_1⟩:=zc2 BK101.out;have p104:0≤(x27_1:Int):=of_decide_eq_true (zz11);have q104:x27_1 < (l0_1.length:Int):=of_decide_eq_true (zz11);obtain ⟨ad104,e104,hx104_0⟩:=Kd.at_int HR0_1.out x27_1 p104 q104;cases e104;replace hx104_0:=(HB.out.cell (World.block_lt_of_cell? w _ hx104_0)).trans hx104_0;replace p104:=eq_true p104;replace q104:=eq_true q104)|(go_at_call 53;(with_reducible refine (U17.calls (rd l0_1 x27_1) 1 1000 false _ A17.out).mono ?_);rintro e w' ⟨rfl,⟨nd,rfl⟩⟩;(try first|exact ⟨rfl,_,World.drewN_drewN _ _ _⟩|exact ⟨rfl,_,Eq.trans (World.drewN_drewN _ _ _) (congrArg (World.drewN _) (Nat.add_assoc _ _ _))⟩)))
         repeat (go_quiet (first|(go_at_call 53;(with_reducible refine (U17.calls (rd l0_0 x27_1) (-1000) 1000 true _ A14.out).mono ?_);rintro e w' ⟨rfl,⟨nd,rfl⟩⟩;(try first|exact ⟨rfl,_,World.drewN_drewN _ _ _⟩|exact ⟨rfl,_,Eq.trans (World.drewN_drewN _ _ _) (congrArg (World.drewN _) (Nat.add_assoc _ _ _))⟩);obtain ⟨hcz20_0,hcz20_1,hfz20_0,hfz20_1⟩:=zc2 BK101.out;have p104:0≤(x27_1:Int):=of_decide_eq_true (zz11);have q104:x27_1 < (l0_1.length:Int):=of_decide_eq_true (zz11);obtain ⟨ad104,e104,hx104_0⟩:=Kd.at_int HR0_1.out x27_1 p104 q104;cases e104;replace hx104_0:=(HB.out.cell (World.block_lt_of_cell? w _ hx104_0)).trans hx104_0;replace p104:=eq_true p104;replace q104:=eq_true q104)|(go_at_call 53;(with_reducible refine (U17.calls (rd l0_1 x27_1) 1 1000 false _ A17.out).mono ?_);rintro e w' ⟨rfl,⟨nd,rfl⟩⟩;(try first|exact ⟨rfl,_,World.drewN_drewN _ _ _⟩|exact ⟨rfl,_,Eq.trans (World.drewN_drewN _ _ _) (congrArg (World.drewN _) (Nat.add_assoc _ _ _))⟩)));try go_wp2_with (first|(go_at_call 53;(with_reducible refine (U17.calls (rd l0_0 x27_1) (-1000) 1000 true _ A14.out).mono ?_);rintro e w' ⟨rfl,⟨nd,rfl⟩⟩;(try first|exact ⟨rfl,_,World.drewN_drewN _ _ _⟩|exact ⟨rfl,_,Eq.trans (World.drewN_drewN _ _ _) (congrArg (World.drewN _) (Nat.add_assoc _ _ _))⟩);obtain ⟨hcz20_0,hcz20_1,hfz20_0,hfz20_1⟩:=zc2 BK101.out;have p104:0≤(x27_1:Int):=of_decide_eq_true (zz11);have q104:x27_1 < (l0_1.length:Int):=of_decide_eq_true (zz11);obtain ⟨ad104,e104,hx104_0⟩:=Kd.at_int HR0_1.out x27_1 p104 q104;cases e104;replace hx104_0:=(HB.out.cell (World.block_lt_of_cell? w _ hx104_0)).trans hx104_0;replace p104:=eq_true p104;replace q104:=eq_true q104)|(go_at_call 53;(with_reducible refine (U17.calls (rd l0_1 x27_1) 1 1000 false _ A17.out).mono ?_);rintro e w' ⟨rfl,⟨nd,rfl⟩⟩;(try first|exact ⟨rfl,_,World.drewN_drewN _ _ _⟩|exact ⟨rfl,_,Eq.trans (World.drewN_drewN _ _ _) (congrArg (World.drewN _) (Nat.add_assoc _ _ _))⟩))))
         go_ret
         exact ⟨zz6,(have h0_:=GE101;zz7)⟩
       ·replace c15:=Bool.eq_false_iff.mpr c15;subst c15;have H1:(some 3) = some r:=zz13;clear H;have H:=H1;clear H1;obtain rfl:=Option.some.inj H;have p102:0≤(x27_1:Int):=of_decide_eq_true (zz11);have q102:x27_1 < (l0_0.length:Int):=of_decide_eq_true (zz11);obtain ⟨ad102,e102,hx102_0⟩:=Kd.at_int HR0_0.out x27_1 p102 q102
        cases e102
        replace hx102_0:=(HB.out.cell (World.block_lt_of_cell? w _ hx102_0)).trans hx102_0;replace p102:=eq_true p102;replace q102:=eq_true q102
        go_wp2_with (first|(go_at_call 53;(with_reducible refine (U17.calls (rd l0_0 x27_1) (-1000) 1000 false _ A14.out).mono ?_);rintro e w' ⟨rfl,⟨nd,rfl⟩⟩;(try first|exact ⟨rfl,_,World.drewN_drewN _ _ _⟩|exact ⟨rfl,_,Eq.trans (World.drewN_drewN _ _ _) (congrArg (World.drewN _) (Nat.add_assoc _ _ _))⟩)))
        repeat (go_quiet (first|(go_at_call 53;(with_reducible refine (U17.calls (rd l0_0 x27_1) (-1000) 1000 false _ A14.out).mono ?_);rintro e w' ⟨rfl,⟨nd,rfl⟩⟩;(try first|exact ⟨rfl,_,World.drewN_drewN _ _ _⟩|exact ⟨rfl,_,Eq.trans (World.drewN_drewN _ _ _) (congrArg (World.drewN _) (Nat.add_assoc _ _ _))⟩)));try go_wp2_with (first|(go_at_call 53;(with_reducible refine (U17.calls (rd l0_0 x27_1) (-1000) 1000 false _ A14.out).mono ?_);rintro e w' ⟨rfl,⟨nd,rfl⟩⟩;(try first|exact ⟨rfl,_,World.drewN_drewN _ _ _⟩|exact ⟨rfl,_,Eq.trans (World.drewN_drewN _ _ _) (congrArg (World.drewN _) (Nat.add_assoc _ _ _))⟩))))
        go_ret
        exact ⟨zz6,(have h0_:=GE101;zz7)⟩
      ·have c11b0:=decide_eq_false c11;clear c11;replace H:=zzi H;obtain ⟨c21,H⟩:=H;have c21b0:=eq_true c21;have c21b1:=decide_eq_true c21;clear c21;have H':=Aside0.mk H;clear H;obtain ⟨hcz22_0,hcz22_1,hfz22_0,hfz22_1⟩:=zc2 BK101.out;obtain ⟨i023,hi023,_,hsz23,_⟩:=info_parts info3;obtain ⟨A23,hcut23,hA23,hC23⟩:=print_drop_of (P:=Try.prog) (Value.int .i64) 0 22 3 .i64 Try.underlying22 hi023 hsz23 A0_0 c0_0 l0_0 1 (zz4) (of_decide_eq_true (zz11)) HC0_0.out;have HR106:=Aside0.mk (Kd.C_of_reads (h1:=fun _=>rfl) (hA23 _ (Kd.reads_of_C HR0_0.out)));have HC106:=Aside0.mk hC23;clear hA23 hC23 hi023 hsz23
       go_wp2
       repeat (go_quiet (fail);try go_wp2)
       go_loopg [49] k1 (fun kq v49 w'=>∃ (x49_2:Int),v49 = .int .i64 x49_2∧Aside0 (U16.l1 kq ((l0_0.drop 1).length:Int) x49_2 l0_0 l0_1 = some r)∧Aside0 (kq≤k1)∧Aside0 (w'.heap[gb101]? = some (.cells #[(.slice A0_0 l0_0.length c0_0),(.slice A0_1 l0_1.length c0_1)] 24 (0,0)))∧Aside0 (Below w.heap.size w w'))
       case atStart=>exact ⟨(0),(zz2),H',⟨Nat.le_refl _⟩,⟨(have h0_:=BK101;zz9)⟩,⟨(have h0_:=GE101;zz7)⟩⟩
       case round =>
        clear H'
        clear c11b0 c21b0 c21b1;(try clear hcz10_0);(try clear hcz10_1);(try clear hcz22_0);(try clear hcz22_1);(try clear hcz4_0);(try clear hcz4_1);(try clear hcz7_0);(try clear hcz7_1);(try clear hfz10_0);(try clear hfz10_1);(try clear hfz22_0);(try clear hfz22_1);(try clear hfz4_0);(try clear hfz4_1);(try clear hfz7_0);(try clear hfz7_1)
        obtain ⟨x49_2,rfl,HA,HK2,BK101,HB⟩:=hrel
        cases gk with
        | zero=>exact absurd HA.out (by simp [U16.l1])
        | succ k2 =>
         have H:=HA.out;clear HA;simp only [U16.l1] at H;replace H:=zzj H;rcases H with ⟨c24,H⟩|⟨c24,H⟩
         ·have c24b0:=decide_eq_true c24;clear c24
          (try (have c24b0_:=c24b0;simp only [List.length_drop,List.length_take] at c24b0_))
          (try (have c24b1_:=c24b1;simp only [List.length_drop,List.length_take] at c24b1_))
          (try (have c24b2_:=c24b2;simp only [List.length_drop,List.length_take] at c24b2_))
          (try (have c24b3_:=c24b3;simp only [List.length_drop,List.length_take] at c24b3_))
          replace H:=zzi H;obtain ⟨c25,H⟩:=H;have c25b0:=decide_eq_true c25;clear c25;replace H:=zzi H;obtain ⟨c26,H⟩:=H;have c26b0:=decide_eq_true c26;clear c26;obtain ⟨ji27,hji27⟩:∃ j_:Int,(wrap64 (x49_2+1)) = j_:=⟨_,rfl⟩;replace H:(if 0≤(ji27) then (if (ji27) < (l0_0.length:Int) then (if (rd l0_0 x49_2)≥(rd l0_0 (ji27)) then (some 23) else (U16.l1 k2 ((l0_0.drop 1).length:Int) ji27 l0_0 l0_1)) else (none)) else (none)) = some r:=(have h0_:=hji27;zz15);have hji27w:(IntKind.i64.wrap (x49_2+1)) = ji27:=(i64_w _).trans hji27;replace H:=zzi H;obtain ⟨c28,H⟩:=H;have c28b0:=decide_eq_true c28;clear c28;replace H:=zzi H;obtain ⟨c29,H⟩:=H;have c29b0:=decide_eq_true c29;clear c29;replace H:=zzj H;rcases H with ⟨c30,H⟩|⟨c30,H⟩
          ·have c30b0:=decide_eq_true c30;clear c30;obtain rfl:=Option.some.inj H;obtain ⟨hcz31_0,hcz31_1,hfz31_0,hfz31_1⟩:=zc2 BK101.out;have p107:0≤(x49_2:Int):=of_decide_eq_true (zz11);have q107:x49_2 < (l0_0.length:Int):=of_decide_eq_true (zz11);obtain ⟨ad107,e107,hx107_0⟩:=Kd.at_int HR0_0.out x49_2 p107 q107
           cases e107
           replace hx107_0:=(HB.out.cell (World.block_lt_of_cell? w _ hx107_0)).trans hx107_0;replace p107:=eq_true p107;replace q107:=eq_true q107;have p108:0≤((ji27):Int):=of_decide_eq_true (zz11);have q108:(ji27) < (l0_0.length:Int):=of_decide_eq_true (zz11);obtain ⟨ad108,e108,hx108_0⟩:=Kd.at_int HR0_0.out (ji27) p108 q108;obtain rfl:ad107 = ad108:=(by injection e108);replace hx108_0:=(HB.out.cell (World.block_lt_of_cell? w _ hx108_0)).trans hx108_0;replace p108:=eq_true p108;replace q108:=eq_true q108
           go_wp2
           repeat (go_quiet (fail);try go_wp2)
           go_ret
           exact ⟨(have h0_:=hji27;zz16),(have h0_:=GE101;zz7)⟩
          ·have c30b0:=decide_eq_false c30;clear c30;have H':=Aside0.mk H;clear H;obtain ⟨hcz32_0,hcz32_1,hfz32_0,hfz32_1⟩:=zc2 BK101.out;have p107:0≤(x49_2:Int):=of_decide_eq_true (zz11);have q107:x49_2 < (l0_0.length:Int):=of_decide_eq_true (zz11);obtain ⟨ad107,e107,hx107_0⟩:=Kd.at_int HR0_0.out x49_2 p107 q107
           cases e107
           replace hx107_0:=(HB.out.cell (World.block_lt_of_cell? w _ hx107_0)).trans hx107_0;replace p107:=eq_true p107;replace q107:=eq_true q107;have p108:0≤((ji27):Int):=of_decide_eq_true (zz11);have q108:(ji27) < (l0_0.length:Int):=of_decide_eq_true (zz11);obtain ⟨ad108,e108,hx108_0⟩:=Kd.at_int HR0_0.out (ji27) p108 q108;obtain rfl:ad107 = ad108:=(by injection e108);replace hx108_0:=(HB.out.cell (World.block_lt_of_cell? w _ hx108_0)).trans hx108_0;replace p108:=eq_true p108;replace q108:=eq_true q108
           go_wp2
           repeat (go_quiet (fail);try go_wp2)
           go_roundg k2
           case measure=>have:=HK1.out;have:=HK2.out;omega
           case rel=>exact ⟨(ji27),(have h0_:=hji27;zz17),H',⟨by have:=HK1.out;have:=HK2.out;omega⟩,⟨(have h0_:=BK101;zz9)⟩,⟨(have h0_:=GE101;zz7)⟩⟩
         ·have c24b0:=decide_eq_false c24;clear c24
          (try (have c24b0_:=c24b0;simp only [List.length_drop,List.length_take] at c24b0_))
          (try (have c24b1_:=c24b1;simp only [List.length_drop,List.length_take] at c24b1_))
          (try (have c24b2_:=c24b2;simp only [List.length_drop,List.length_take] at c24b2_))
          (try (have c24b3_:=c24b3;simp only [List.length_drop,List.length_take] at c24b3_))
          obtain rfl:=Option.some.inj H
          go_wp2
          repeat (go_quiet (fail);try go_wp2)
          go_ret
          exact ⟨zz6,(have h0_:=GE101;zz7)⟩
   ·have c8b0:=beq_eq_false_iff_ne.mpr c8;have c8b1:=bne_iff_ne.mpr c8;have c8b2:(l0_1.length == l0_0.length) = false:=(have h0_:=c8;zz8);obtain rfl:=Option.some.inj H;go_enter Try.func28,Try.ntmps28
    go_wp2_with (first|((with_reducible refine gate_dst (N:=1) rfl ?_);refine box_event ?hg (N:=1) ?hd (cs:=#[.slice A0_0 l0_0.length c0_0,.slice A0_1 l0_1.length c0_1]) (t:=24) ?hr ?_;(case hd=>rfl);(case hg=>rfl);(case hr=>exact zz77);intro gb101 hg w33 hbox hb;have BK101:=Aside0.mk (hbox);have GW101:=Aside0.mk ((by rw [hg];exact (below_size (zz5)):w.heap.size≤gb101));have GE101:=Aside0.mk ((by rw [hg];exact (below_size (zz5)):w.heap.size≤gb101));replace HB:=Aside0.mk (below_step (zz5) hb);clear hb hbox hg;obtain ⟨hcz34_0,hcz34_1,hfz34_0,hfz34_1⟩:=zc2 BK101.out))
    repeat (go_quiet (first|((with_reducible refine gate_dst (N:=1) rfl ?_);refine box_event ?hg (N:=1) ?hd (cs:=#[.slice A0_0 l0_0.length c0_0,.slice A0_1 l0_1.length c0_1]) (t:=24) ?hr ?_;(case hd=>rfl);(case hg=>rfl);(case hr=>exact zz77);intro gb101 hg w33 hbox hb;have BK101:=Aside0.mk (hbox);have GW101:=Aside0.mk ((by rw [hg];exact (below_size (zz5)):w.heap.size≤gb101));have GE101:=Aside0.mk ((by rw [hg];exact (below_size (zz5)):w.heap.size≤gb101));replace HB:=Aside0.mk (below_step (zz5) hb);clear hb hbox hg;obtain ⟨hcz34_0,hcz34_1,hfz34_0,hfz34_1⟩:=zc2 BK101.out));try go_wp2_with (first|((with_reducible refine gate_dst (N:=1) rfl ?_);refine box_event ?hg (N:=1) ?hd (cs:=#[.slice A0_0 l0_0.length c0_0,.slice A0_1 l0_1.length c0_1]) (t:=24) ?hr ?_;(case hd=>rfl);(case hg=>rfl);(case hr=>exact zz77);intro gb101 hg w33 hbox hb;have BK101:=Aside0.mk (hbox);have GW101:=Aside0.mk ((by rw [hg];exact (below_size (zz5)):w.heap.size≤gb101));have GE101:=Aside0.mk ((by rw [hg];exact (below_size (zz5)):w.heap.size≤gb101));replace HB:=Aside0.mk (below_step (zz5) hb);clear hb hbox hg;obtain ⟨hcz34_0,hcz34_1,hfz34_0,hfz34_1⟩:=zc2 BK101.out)))
    go_ret
    exact ⟨zz6,(have h0_:=GE101;zz7)⟩
def U24.f (a0:Int) (a1:Int) (a2:Int):Option (Bool):=if a1≤a0 then (some (decide (a0≤a2))) else (some false)
set_option maxHeartbeats 8000000 in
set_option maxRecDepth 100000 in
theorem U24.calls (a0:Int) (a1:Int) (a2:Int) (r:Bool) (w:World) (h:U24.f a0 a1 a2 = some r) :
  Calls Try.prog 69 #[.int .i64 a0,.int .i64 a1,.int .i64 a2] w fun e w'=>e = .returned (.bool r)∧Drawn0 w w':=by
 have H:(if a1≤a0 then (some (decide (a0≤a2))) else (some false)) = some r:=h;clear h;replace H:=zzj H;rcases H with ⟨c4,H⟩|⟨c4,H⟩
 ·have c4b0:=decide_eq_true c4;clear c4;obtain rfl:=Option.some.inj H;go_enter Try.func69,Try.ntmps69
  go_wp2
  go_ret
  exact ⟨zz2,zz3⟩
 ·have c4b0:=decide_eq_false c4;clear c4;obtain rfl:=Option.some.inj H;go_enter Try.func69,Try.ntmps69
  go_wp2
  go_ret
  exact ⟨zz2,zz3⟩
def U23.l0:Nat→Int→List Int→Int→Int→Option (Int)
 | 0,_,_,_,_=>none
 | k+1,x5,x12,x13,x14=>if x14 < x13 then (if 0≤x14 then (if x14 < (x12.length:Int) then ((U24.f (rd x12 x14) 1 1000).bind fun t110=>(if t110 = true then (U23.l0 k (wrap64 (x5+(rd x12 x14))) x12 x13 (wrap64 (x14+1))) else (some 3))) else (none)) else (none)) else (if x5 = 1000 then (some 0) else (some 19))
def U23.f (k:Nat) (l0:List Int) (a1:Int):Option (Int):=if (l0.length:Int) = a1 then (U23.l0 k 0 l0 (l0.length:Int) 0) else (some 1)
theorem zm1_1 {P:Prop} (h:P:=by repeat' first|(with_reducible first|exact ih0 ..|exact LeO.refl _|exact LeO.none _|refine LeO.ite ?_ ?_|refine LeO.bind ?_ (fun _=>?_))|exact ih0 ..|exact LeO.none _|refine LeO.ite ?_ ?_|refine LeO.bind ?_ (fun _=>?_)):P:=h
theorem U23.mono_l:∀ k,(∀ y0 y1 y2 y3,LeO (U23.l0 k y0 y1 y2 y3) (U23.l0 (k+1) y0 y1 y2 y3))
 | 0=>fun _ _ _ _ r h=>by simp [U23.l0] at h
 | k+1=>by
  have ih0:=U23.mono_l k
  ·intro y0 y1 y2 y3;unfold U23.l0
   exact zm1_1
theorem U23.mono:∀ a0 a1 k,LeO (U23.f k a0 a1) (U23.f (k+1) a0 a1):=by
 intro a0 a1 k;have ih0:=U23.mono_l k;unfold U23.f
 exact zm1_1
set_option maxHeartbeats 8000000 in
set_option maxRecDepth 100000 in
theorem U23.calls (k:Nat) (A0:Option Addr) (c0:Nat) (l0:List Int) (a1:Int) (r:Int) (w:World) (hr0:Kd.C (Kd.int .i64) w A0 l0.length l0) (hc0:l0.length≤c0) (h:U23.f k l0 a1 = some r) :
  Calls Try.prog 70 #[.slice A0 l0.length c0,.int .i64 a1] w fun e w'=>e = .returned (.int .i64 r)∧Drawn0 w w':=by
 have HR0:=Aside0.mk hr0;have HC0:=Aside0.mk hc0;clear hr0 hc0;have H:(if (l0.length:Int) = a1 then (U23.l0 k 0 l0 (l0.length:Int) 0) else (some 1)) = some r:=h;clear h;replace H:=zzj H;rcases H with ⟨c3,H⟩|⟨c3,H⟩
 ·have c3b0:=beq_iff_eq.mpr c3;have c3b1:=bne_eq_false_iff_eq.mpr c3;clear c3;have H':=Aside0.mk H;clear H;go_enter Try.func70,Try.ntmps70
  go_wp2
  go_loopg [5,14] k (fun kq v5 v14 w'=>∃ (x5_1:Int) (x14_1:Int),v5 = .int .i64 x5_1∧v14 = .int .i64 x14_1∧Aside0 (U23.l0 kq x5_1 l0 (l0.length:Int) x14_1 = some r)∧Aside0 (kq≤k)∧Drawn0 w w')
  case atStart=>exact ⟨(0),(0),(zz2),(zz2),H',⟨Nat.le_refl _⟩,zz3⟩
  case round =>
   clear H';clear c3b0 c3b1;obtain ⟨x5_1,x14_1,rfl,rfl,HA,HK1,⟨m1,rfl⟩⟩:=hrel
   cases gk with
   | zero=>exact absurd HA.out (by simp [U23.l0])
   | succ k1 =>
    have H:=HA.out;clear HA;simp only [U23.l0] at H;replace H:=zzj H;rcases H with ⟨c4,H⟩|⟨c4,H⟩
    ·have c4b0:=decide_eq_true c4;clear c4;replace H:=zzi H;obtain ⟨c5,H⟩:=H;have c5b0:=decide_eq_true c5;clear c5;replace H:=zzi H;obtain ⟨c6,H⟩:=H;have c6b0:=decide_eq_true c6;clear c6;replace H:=zzb H;obtain ⟨t110,A7,H⟩:=H;by_cases c8:t110 = true
     ·subst c8;have H1:(U23.l0 k1 (wrap64 (x5_1+(rd l0 x14_1))) l0 (l0.length:Int) (wrap64 (x14_1+1))) = some r:=zz10;clear H;have H:=H1;clear H1;have H':=Aside0.mk H;clear H;have p109:0≤(x14_1:Int):=of_decide_eq_true (zz11);have q109:x14_1 < (l0.length:Int):=of_decide_eq_true (zz11);obtain ⟨ad109,e109,hx109_0⟩:=Kd.at_int HR0.out x14_1 p109 q109
      cases e109
      replace p109:=eq_true p109;replace q109:=eq_true q109
      go_wp2_with (first|((with_reducible refine gate_callee (f:=69) rfl ?_);refine goesL_ (some 19) rfl rfl Try.func69 (zz0) rfl #[.int .i64 (rd l0 x14_1),.int .i64 1,.int .i64 1000] rfl (zz18) ?_;(with_reducible refine (U24.calls (rd l0 x14_1) 1 1000 true _ A7.out).mono ?_);rintro e w' ⟨rfl,⟨nd,rfl⟩⟩;refine ⟨_,rfl,?_⟩))
      go_roundg k1
      case measure=>have:=HK1.out;omega
      case rel=>exact ⟨(wrap64 (x5_1+(rd l0 x14_1))),(wrap64 (x14_1+1)),(zz2),(zz2),H',⟨zz12⟩,zz3⟩
     ·replace c8:=Bool.eq_false_iff.mpr c8;subst c8;have H1:(some 3) = some r:=zz13;clear H;have H:=H1;clear H1;obtain rfl:=Option.some.inj H;have p109:0≤(x14_1:Int):=of_decide_eq_true (zz11);have q109:x14_1 < (l0.length:Int):=of_decide_eq_true (zz11);obtain ⟨ad109,e109,hx109_0⟩:=Kd.at_int HR0.out x14_1 p109 q109
      cases e109
      replace p109:=eq_true p109;replace q109:=eq_true q109
      go_wp2_with (first|((with_reducible refine gate_callee (f:=69) rfl ?_);refine goesL_ (some 19) rfl rfl Try.func69 (zz0) rfl #[.int .i64 (rd l0 x14_1),.int .i64 1,.int .i64 1000] rfl (zz18) ?_;(with_reducible refine (U24.calls (rd l0 x14_1) 1 1000 false _ A7.out).mono ?_);rintro e w' ⟨rfl,⟨nd,rfl⟩⟩;refine ⟨_,rfl,?_⟩))
      go_ret
      exact ⟨zz2,zz3⟩
    ·have c4b0:=decide_eq_false c4;clear c4;replace H:=zzj H;rcases H with ⟨c9,H⟩|⟨c9,H⟩
     ·have c9b0:=beq_iff_eq.mpr c9;have c9b1:=bne_eq_false_iff_eq.mpr c9;clear c9;obtain rfl:=Option.some.inj H
      go_wp2
      go_ret
      exact ⟨zz2,zz3⟩
     ·have c9b0:=beq_eq_false_iff_ne.mpr c9;have c9b1:=bne_iff_ne.mpr c9;obtain rfl:=Option.some.inj H
      go_wp2
      go_ret
      exact ⟨zz2,zz3⟩
 ·have c3b0:=beq_eq_false_iff_ne.mpr c3;have c3b1:=bne_iff_ne.mpr c3;obtain rfl:=Option.some.inj H;go_enter Try.func70,Try.ntmps70
  go_wp2
  go_ret
  exact ⟨zz2,zz3⟩
end Go.Proofs.Ytmcegphcjphdcaa.QA
