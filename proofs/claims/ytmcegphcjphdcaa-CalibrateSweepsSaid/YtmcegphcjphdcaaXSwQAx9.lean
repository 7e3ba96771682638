import Derived.Test.YtmcegphcjphdcaaXSwQAx0
import Derived.Test.YtmcegphcjphdcaaXSwQAx7
import Derived.Test.YtmcegphcjphdcaaXSwQAx8
namespace Go.Proofs.Ytmcegphcjphdcaa.QA
open Go.RowKit Go.Proofs.YtmcegphcjphdcaaW.PrintWords Go.Proofs.YtmcegphcjphdcaaW.PrintLast Go.Proofs.YtmcegphcjphdcaaW.PrintMore
attribute [local go_sem] max2_int min2_int max_two min_two max_three min_three max_four min_four
set_option linter.unusedVariables false
set_option linter.unusedSimpArgs false
mutual
def U37.l0:Nat→List (S56)→List Int→Int→List (List Int)→Int→List Int→List Int→Option ((List (List Int)))
 | 0,_,_,_,_,_,_,_=>none
 | k+1,x1,x2,x3,x9,x10,x264000,x264001=>if x10 < (x264000.length:Int) then (if 0≤x10 then (if x10 < (x264001.length:Int) then ((U19.f k (IntKind.u64.wrap (rd x264001 x10))).bind fun t265=>(U37.l1 k x1 x2 x3 x9 x10 t265 0 x264000 x264001)) else (none)) else (none)) else (some x9)
def U37.l1:Nat→List (S56)→List Int→Int→List (List Int)→Int→List Int→Int→List Int→List Int→Option ((List (List Int)))
 | 0,_,_,_,_,_,_,_,_,_=>none
 | k+1,x1,x2,x3,x9,x10,x11,x12,x264000,x264001=>if x12 < (x1.length:Int) then (if x12 = x3 then (U37.j2 k x1 x2 x3 x9 x10 x11 x12 false x264000 x264001) else (if 0≤x12 then (if x12 < (x2.length:Int) then (U37.j2 k x1 x2 x3 x9 x10 x11 x12 (decide ((rd x2 x12)≥0)) x264000 x264001) else (none)) else (none))) else (if x9.length < 5864062014805 then (U37.l0 k x1 x2 x3 (x9++[x11]) (wrap64 (x10+1)) x264000 x264001) else (none))
def U37.j2:Nat→List (S56)→List Int→Int→List (List Int)→Int→List Int→Int→Bool→List Int→List Int→Option ((List (List Int)))
 | 0,_,_,_,_,_,_,_,_,_,_=>none
 | k+1,x1,x2,x3,x9,x10,x11,x12,x42,x264000,x264001=>if x42 = true then (if 0≤x12 then (if x12 < (x1.length:Int) then (if 0≤x10 then (if x10 < (((rd_T56 x1 x12).f0).length:Int) then (if x12 < (x2.length:Int) then (if 0≤(rd x2 x12) then (if (rd x2 x12) < ((rd_L1 ((rd_T56 x1 x12).f0) x10).length:Int) then ((U19.f k (IntKind.u64.wrap (rd (rd_L1 ((rd_T56 x1 x12).f0) x10) (rd x2 x12)))).bind fun t276=>((U17.f k x11 t276).bind fun t279=>(U37.l1 k x1 x2 x3 x9 x10 t279 (wrap64 (x12+1)) x264000 x264001))) else (none)) else (none)) else (none)) else (none)) else (none)) else (none)) else (none)) else (U37.l1 k x1 x2 x3 x9 x10 x11 (wrap64 (x12+1)) x264000 x264001)
end
def U37.f (k:Nat) (l0_0:List Int) (l0_1:List Int) (l1:List (S56)) (l2:List Int) (a3:Int):Option ((List (List Int))):=U37.l0 k l1 l2 a3 ([]:List (List Int)) 0 l0_0 l0_1
theorem zm9_0 {P:Prop} (h:P:=by repeat' first|(with_reducible first|exact ih0 ..|exact ih1 ..|exact ih2 ..|exact U17.mono ..|exact U19.mono ..|exact LeO.refl _|exact LeO.none _|refine LeO.ite ?_ ?_|refine LeO.bind ?_ (fun _=>?_))|exact ih0 ..|exact ih1 ..|exact ih2 ..|exact U17.mono ..|exact U19.mono ..|exact LeO.none _|refine LeO.ite ?_ ?_|refine LeO.bind ?_ (fun _=>?_)):P:=h
theorem U37.mono_l:∀ k,(∀ y0 y1 y2 y3 y4 y5 y6,LeO (U37.l0 k y0 y1 y2 y3 y4 y5 y6) (U37.l0 (k+1) y0 y1 y2 y3 y4 y5 y6))∧(∀ y0 y1 y2 y3 y4 y5 y6 y7 y8,LeO (U37.l1 k y0 y1 y2 y3 y4 y5 y6 y7 y8) (U37.l1 (k+1) y0 y1 y2 y3 y4 y5 y6 y7 y8))∧(∀ y0 y1 y2 y3 y4 y5 y6 y7 y8 y9,LeO (U37.j2 k y0 y1 y2 y3 y4 y5 y6 y7 y8 y9) (U37.j2 (k+1) y0 y1 y2 y3 y4 y5 y6 y7 y8 y9))
 | 0=>⟨fun _ _ _ _ _ _ _ r h=>by simp [U37.l0] at h,fun _ _ _ _ _ _ _ _ _ r h=>by simp [U37.l1] at h,fun _ _ _ _ _ _ _ _ _ _ r h=>by simp [U37.j2] at h⟩
 | k+1=>by
  obtain ⟨ih0,ih1,ih2⟩:=U37.mono_l k;refine ⟨?_,?_,?_⟩
  ·intro y0 y1 y2 y3 y4 y5 y6;unfold U37.l0
   exact zm9_0
  ·intro y0 y1 y2 y3 y4 y5 y6 y7 y8;unfold U37.l1
   exact zm9_0
  ·intro y0 y1 y2 y3 y4 y5 y6 y7 y8 y9;unfold U37.j2
   exact zm9_0
theorem U37.mono:∀ a0 a1 a2 a3 a4 k,LeO (U37.f k a0 a1 a2 a3 a4) (U37.f (k+1) a0 a1 a2 a3 a4):=by
 intro a0 a1 a2 a3 a4 k;obtain ⟨ih0,ih1,ih2⟩:=U37.mono_l k;unfold U37.f
 exact zm9_0
def U37.T10:Bool × List (List Nat × List Nat):=(true,[([],[]),([],[]),([],[]),([1,2],[1,2]),([3],[3]),([4],[4]),([],[]),([5,6],[5,6]),([7],[7]),([],[]),([],[]),([9,10],[9,10]),([11],[11]),([8,12],[8,12]),([13],[13]),([14],[14]),([15],[15]),([0,16,16],[0,16]),([17,17,0,1,2,3,4,5,6,7,8,9,10,11,12,13,14,15,16,17],[0,17])])
def U37.B10:List Nat:=[0,0,0,6,14,30,0,126,254,0,0,1536,3584,8190,16382,32766,65534,131071,262143]
theorem U37.tab10:rtab .any (opsOf Try.f35 10) = U37.T10:=zz0
theorem U37.bits10:waitsOk U37.T10.2 U37.B10 = true:=zz0
set_option maxHeartbeats 8000000 in
set_option maxRecDepth 100000 in
theorem U37.calls (k:Nat) (A0_0:Option Addr) (c0_0:Nat) (l0_0:List Int) (A0_1:Option Addr) (c0_1:Nat) (l0_1:List Int) (A1:Option Addr) (c1:Nat) (l1:List (S56)) (A2:Option Addr) (c2:Nat) (l2:List Int) (a3:Int) (r:List (List Int)) (w:World) (hr0_0:Kd.C (Kd.int .i64) w A0_0 l0_0.length l0_0) (hc0_0:l0_0.length≤c0_0) (hr0_1:Kd.C (Kd.int .i64) w A0_1 l0_1.length l0_1) (hc0_1:l0_1.length≤c0_1) (hr1:Kd.C k56 w A1 l1.length l1) (hc1:l1.length≤c1) (hr2:Kd.C (Kd.int .i64) w A2 l2.length l2) (hc2:l2.length≤c2) (h:U37.f k l0_0 l0_1 l1 l2 a3 = some r) :
  Calls Try.prog 35 #[.agg #[.slice A0_0 l0_0.length c0_0,.slice A0_1 l0_1.length c0_1],.slice A1 l1.length c1,.slice A2 l2.length c2,.int .i64 a3] w fun e w'=>∃ v0_:Value,e = .returned (v0_)∧Kd.S (Kd.slice 65 (Kd.int .u32)) 32 w' w.heap.size (fun _=>True) v0_ r∧Below w.heap.size w w':=by
 have hu24:=Try.underlying24;have HR0_0:=Aside0.mk hr0_0;have HC0_0:=Aside0.mk hc0_0;clear hr0_0 hc0_0;have HR0_1:=Aside0.mk hr0_1;have HC0_1:=Aside0.mk hc0_1;clear hr0_1 hc0_1;have HR1:=Aside0.mk hr1;have HC1:=Aside0.mk hc1;clear hr1 hc1;have HR2:=Aside0.mk hr2;have HC2:=Aside0.mk hc2;clear hr2 hc2;have HB:=Aside0.mk (Below.refl w.heap.size w);have H:(U37.l0 k l1 l2 a3 ([]:List (List Int)) 0 l0_0 l0_1) = some r:=h;clear h;have H':=Aside0.mk H;clear H;go_enter Try.func35,Try.ntmps35
 go_wp2_with (first|((with_reducible refine gate_dst (N:=4) rfl ?_);refine box_event ?hg (N:=4) ?hd (cs:=#[.slice A0_0 l0_0.length c0_0,.slice A0_1 l0_1.length c0_1]) (t:=24) ?hr ?_;(case hd=>rfl);(case hg=>rfl);(case hr=>exact zz109);intro gb263 hg w5 hbox hb;have BK263:=Aside0.mk (hbox);have GW263:=Aside0.mk ((by rw [hg];exact (below_size (zz5)):w.heap.size≤gb263));have GE263:=Aside0.mk ((by rw [hg];exact (below_size (zz5)):w.heap.size≤gb263));replace HB:=Aside0.mk (below_step (zz5) hb);clear hb hbox hg))
 go_loopg [9,10] k (fun kq v9 v10 w'=>∃ (x9_1:List (List Int)) (x10_1:Int),v10 = .int .i64 x10_1∧Aside0 (U37.l0 kq l1 l2 a3 x9_1 x10_1 l0_0 l0_1 = some r)∧Aside0 (kq≤k)∧Aside0 (Kd.S (Kd.slice 65 (Kd.int .u32)) 32 w' w.heap.size (fun _=>True) v9 x9_1)∧Aside0 (w'.heap[gb263]? = some (.cells #[(.slice A0_0 l0_0.length c0_0),(.slice A0_1 l0_1.length c0_1)] 24 (0,0)))∧Aside0 (Below w.heap.size w w'))
 case atStart=>exact ⟨(([]:List (List Int))),(0),(zz2),H',⟨Nat.le_refl _⟩,⟨zz26⟩,⟨(have h0_:=BK263;zz9)⟩,⟨zz45⟩⟩
 case round =>
  clear H'
  (try clear c1);(try clear c2)
  obtain ⟨x9_1,x10_1,rfl,HA,HK1,HO_9,BK263,HB⟩:=hrel
  cases gk with
  | zero=>exact absurd HA.out (by simp [U37.l0])
  | succ k1 =>
   have H:=HA.out;clear HA;simp only [U37.l0] at H;replace H:=zzj H;rcases H with ⟨c6,H⟩|⟨c6,H⟩
   ·have c6b0:=decide_eq_true c6;clear c6;replace H:=zzi H;obtain ⟨c7,H⟩:=H;have c7b0:=decide_eq_true c7;clear c7;replace H:=zzi H;obtain ⟨c8,H⟩:=H;have c8b0:=decide_eq_true c8;clear c8;replace H:=zzb H;obtain ⟨t265,A9,H⟩:=H;have H':=Aside0.mk H;clear H;obtain ⟨hcz10_0,hcz10_1,hfz10_0,hfz10_1⟩:=zc2 BK263.out;have p264:0≤(x10_1:Int):=of_decide_eq_true (zz11);have q264:x10_1 < (l0_1.length:Int):=of_decide_eq_true (zz11);obtain ⟨ad264,e264,hx264_0⟩:=Kd.at_int HR0_1.out x10_1 p264 q264
    cases e264
    replace hx264_0:=(HB.out.cell (World.block_lt_of_cell? w _ hx264_0)).trans hx264_0;replace p264:=eq_true p264;replace q264:=eq_true q264
    go_wp2_with (first|((with_reducible refine gate_callee (f:=58) rfl ?_);refine goesL_ (some 26) rfl rfl Try.func58 (zz0) rfl #[.int .u64 (IntKind.u64.wrap (rd l0_1 x10_1))] rfl (zz19) ?_;(with_reducible refine (U19.calls k1 (IntKind.u64.wrap (rd l0_1 x10_1)) t265 _ A9.out).mono ?_);rintro e w11 ⟨v266,rfl,ho0,hb⟩;refine ⟨_,rfl,?_⟩;replace HO_9:=Aside0.mk (Kd.S_elder' (have h0_:=HO_9;zz46) (Kd.R_base ho0) hb);have HO267:=Aside0.mk (Kd.R_lower ho0 (below_size (zz45)));replace BK263:=Aside0.mk (blk_below (have h0_:=BK263;zz9) hb);replace HB:=Aside0.mk (below_step (zz45) hb);(try clear hb);(try clear ho0)))
    go_loopg [11,12] k1 (fun kq v11 v12 w'=>∃ (x11_2:List Int) (x12_2:Int),v12 = .int .i64 x12_2∧Aside0 (U37.l1 kq l1 l2 a3 x9_1 x10_1 x11_2 x12_2 l0_0 l0_1 = some r)∧Aside0 (kq≤k1)∧Aside0 (Kd.S (Kd.slice 65 (Kd.int .u32)) 32 w' w.heap.size (fun k_=>some k_ ≠ (v11:Value).ownBlock) u9 x9_1)∧Aside0 (Kd.R (Kd.int .u32) 65 w' w.heap.size (fun _=>True) v11 x11_2)∧Aside0 (w'.heap[gb263]? = some (.cells #[(.slice A0_0 l0_0.length c0_0),(.slice (some ad264) l0_1.length c0_1)] 24 (0,0)))∧Aside0 (Below w.heap.size w w'))
    case atStart=>exact ⟨(t265),(0),(zz2),H',⟨Nat.le_refl _⟩,⟨by (with_reducible repeat (first|apply Kd.S_alloc|apply Kd.S_drewN|apply Kd.S_drew));exact Kd.S_mono HO_9.out (fun _ hk=>hk.2)⟩,⟨(have h0_:=HO267;zz25)⟩,⟨(have h0_:=BK263;zz9)⟩,⟨zz45⟩⟩
    case round =>
     clear H'
     clear c6b0 c7b0 c8b0 p264 q264;(try clear hcz10_0);(try clear hcz10_1);(try clear hfz10_0);(try clear hfz10_1);(try clear hx264_0)
     obtain ⟨x11_2,x12_2,rfl,HA,HK2,HO_9,HO_11,BK263,HB⟩:=hrel
     cases gk with
     | zero=>exact absurd HA.out (by simp [U37.l1])
     | succ k2 =>
      have H:=HA.out;clear HA;simp only [U37.l1] at H;replace H:=zzj H;rcases H with ⟨c12,H⟩|⟨c12,H⟩
      ·have c12b0:=decide_eq_true c12;clear c12;have HC13:=Aside0.mk H;clear H
       go_upto_region 9 with (fail)
       go_cut [42] (fun v42 wc=>∃ (kq:Nat) (x42_12:Bool),v42 = .bool x42_12∧Aside0 (U37.j2 kq l1 l2 a3 x9_1 x10_1 x11_2 x12_2 x42_12 l0_0 l0_1 = some r)∧Aside0 (kq≤k2)∧Aside0 (Kd.S (Kd.slice 65 (Kd.int .u32)) 32 wc w.heap.size (fun k_=>some k_ ≠ (u11:Value).ownBlock) u9 x9_1)∧Aside0 (Kd.R (Kd.int .u32) 65 wc w.heap.size (fun _=>True) u11 x11_2)∧Aside0 (wc.heap[gb263]? = some (.cells #[(.slice A0_0 l0_0.length c0_0),(.slice (some ad264) l0_1.length c0_1)] 24 (0,0)))∧Aside0 (Below w.heap.size w wc))
       case first =>
        have H:=HC13.out;clear HC13;replace H:=zzj H;rcases H with ⟨c14,H⟩|⟨c14,H⟩
        ·have c14b0:=beq_iff_eq.mpr c14;have c14b1:=bne_eq_false_iff_eq.mpr c14;clear c14
         (first|rw [c14b0]|rw [c14b1]|(simp only [i64_w,i32_w];rw [c14b0])|skip)
         have H':=Aside0.mk H;clear H
         go_wp2
         go_meet
         case rel=>exact ⟨_,(false),(zz2),H',⟨by have:=HK1.out;have:=HK2.out;first|omega|exact Nat.le_refl _⟩,⟨(have h0_:=HO_9;zz46)⟩,⟨zz47⟩,⟨(have h0_:=BK263;zz9)⟩,⟨zz45⟩⟩
        ·have c14b0:=beq_eq_false_iff_ne.mpr c14;have c14b1:=bne_iff_ne.mpr c14
         (first|rw [c14b0]|rw [c14b1]|(simp only [i64_w,i32_w];rw [c14b0])|skip)
         replace H:=zzi H;obtain ⟨c15,H⟩:=H;have c15b0:=decide_eq_true c15;clear c15;replace H:=zzi H;obtain ⟨c16,H⟩:=H;have c16b0:=decide_eq_true c16;clear c16;have H':=Aside0.mk H;clear H;have p271:0≤(x12_2:Int):=of_decide_eq_true (zz11);have q271:x12_2 < (l2.length:Int):=of_decide_eq_true (zz11);obtain ⟨ad271,e271,hx271_0⟩:=Kd.at_int HR2.out x12_2 p271 q271
         cases e271
         replace hx271_0:=(HB.out.cell (World.block_lt_of_cell? w _ hx271_0)).trans hx271_0;replace p271:=eq_true p271;replace q271:=eq_true q271
         go_wp2
         go_meet
         case rel=>exact ⟨_,(decide ((rd l2 x12_2)≥0)),(zz2),H',⟨by have:=HK1.out;have:=HK2.out;first|omega|exact Nat.le_refl _⟩,⟨(have h0_:=HO_9;zz46)⟩,⟨zz47⟩,⟨(have h0_:=BK263;zz9)⟩,⟨zz45⟩⟩
       case rest =>
        clear HC13;(try clear hx2);clear c12b0;(try clear hcz10_0);(try clear hcz10_1);(try clear hfz10_0);(try clear hfz10_1);(try clear hx264_0);obtain ⟨kq,x42_12,rfl,HA,HJ12,HO_9,HO_11,BK263,HB⟩:=hcut
        cases kq with
        | zero=>exact absurd HA.out (by simp [U37.j2])
        | succ kj12 =>
         have H:=HA.out;clear HA;simp only [U37.j2] at H;by_cases c17:x42_12 = true
         ·subst c17;have H1:(if 0≤x12_2 then (if x12_2 < (l1.length:Int) then (if 0≤x10_1 then (if x10_1 < (((rd_T56 l1 x12_2).f0).length:Int) then (if x12_2 < (l2.length:Int) then (if 0≤(rd l2 x12_2) then (if (rd l2 x12_2) < ((rd_L1 ((rd_T56 l1 x12_2).f0) x10_1).length:Int) then ((U19.f kj12 (IntKind.u64.wrap (rd (rd_L1 ((rd_T56 l1 x12_2).f0) x10_1) (rd l2 x12_2)))).bind fun t276=>((U17.f kj12 x11_2 t276).bind fun t279=>(U37.l1 kj12 l1 l2 a3 x9_1 x10_1 t279 (wrap64 (x12_2+1)) l0_0 l0_1))) else (none)) else (none)) else (none)) else (none)) else (none)) else (none)) else (none)) = some r:=zz10;clear H;have H:=H1;clear H1;replace H:=zzi H;obtain ⟨c18,H⟩:=H;have c18b0:=decide_eq_true c18;clear c18;replace H:=zzi H;obtain ⟨c19,H⟩:=H;have c19b0:=decide_eq_true c19;clear c19;replace H:=zzi H;obtain ⟨c20,H⟩:=H;have c20b0:=decide_eq_true c20;clear c20;replace H:=zzi H;obtain ⟨c21,H⟩:=H;have c21b0:=decide_eq_true c21;clear c21;replace H:=zzi H;obtain ⟨c22,H⟩:=H;have c22b0:=decide_eq_true c22;clear c22;replace H:=zzi H;obtain ⟨c23,H⟩:=H;have c23b0:=decide_eq_true c23;clear c23;replace H:=zzi H;obtain ⟨c24,H⟩:=H;have c24b0:=decide_eq_true c24;clear c24;replace H:=zzb H;obtain ⟨t276,A25,H⟩:=H;replace H:=zzb H;obtain ⟨t279,A26,H⟩:=H;have H':=Aside0.mk H;clear H
          try go_wp2
          replace HO_9:=Aside0.mk (Kd.S_drew HO_9.out);replace HO_11:=Aside0.mk (Kd.R_drew HO_11.out);replace BK263:=Aside0.mk (blk_drew BK263.out);replace HB:=Aside0.mk (below_drew1 HB.out);have p272:0≤(x12_2:Int):=of_decide_eq_true (zz11);have q272:x12_2 < (l1.length:Int):=of_decide_eq_true (zz11);obtain ⟨ad272,A272_0,c272_0,e272,hx272_0,hl272_0,hi272_0⟩:=at_T56 HR1.out x12_2 p272 q272;have hw272_0:=hx272_0
          cases e272
          replace hx272_0:=(HB.out.cell (World.block_lt_of_cell? w _ hx272_0)).trans hx272_0;have HR272_0:=Aside0.mk hi272_0;have HC272_0:=Aside0.mk hl272_0;clear hi272_0 hl272_0;replace p272:=eq_true p272;replace q272:=eq_true q272;have p273:0≤(x10_1:Int):=of_decide_eq_true (zz11);have q273:x10_1 < (((rd_T56 l1 x12_2).f0).length:Int):=of_decide_eq_true (zz11);obtain ⟨ad273,A273_0,c273_0,e273,hx273_0,hl273_0,hi273_0⟩:=at_L1 HR272_0.out x10_1 p273 q273;have hw273_0:=hx273_0
          cases e273
          replace hx273_0:=(HB.out.cell (World.block_lt_of_cell? w _ hx273_0)).trans hx273_0;have HR273_0:=Aside0.mk hi273_0;have HC273_0:=Aside0.mk hl273_0;clear hi273_0 hl273_0;replace p273:=eq_true p273;replace q273:=eq_true q273;have p274:0≤(x12_2:Int):=of_decide_eq_true (zz11);have q274:x12_2 < (l2.length:Int):=of_decide_eq_true (zz11);obtain ⟨ad274,e274,hx274_0⟩:=Kd.at_int HR2.out x12_2 p274 q274;have hw274_0:=hx274_0
          cases e274
          replace hx274_0:=(HB.out.cell (World.block_lt_of_cell? w _ hx274_0)).trans hx274_0;replace p274:=eq_true p274;replace q274:=eq_true q274;have p275:0≤((rd l2 x12_2):Int):=of_decide_eq_true (zz11);have q275:(rd l2 x12_2) < ((rd_L1 ((rd_T56 l1 x12_2).f0) x10_1).length:Int):=of_decide_eq_true (zz11);obtain ⟨ad275,e275,hx275_0⟩:=Kd.at_int HR273_0.out (rd l2 x12_2) p275 q275;have hw275_0:=hx275_0
          cases e275
          replace hx275_0:=(HB.out.cell (World.block_lt_of_cell? w _ hx275_0)).trans hx275_0;replace p275:=eq_true p275;replace q275:=eq_true q275;refine start_ (n:=19) (S:=fun w'=>w'.cell? (ad272.add (x12_2).toNat) = some (.slice (some ad273) ((rd_T56 l1 x12_2).f0).length c272_0)∧w'.cell? (ad273.add (x10_1).toNat) = some (.slice (some ad275) (rd_L1 ((rd_T56 l1 x12_2).f0) x10_1).length c273_0)∧w'.cell? (ad274.add (x12_2).toNat) = some (.int .i64 (rd l2 x12_2))∧w'.cell? (ad275.add ((rd l2 x12_2)).toNat) = some (.int .i64 (rd (rd_L1 ((rd_T56 l1 x12_2).f0) x10_1) (rd l2 x12_2)))) (ds:=[]) #[false,false,false,false,false,false,false,false,false,false,false,false,false,false,false,false,false,false,false] (zz0) rfl rfl ⟨((HB.out.cell (World.block_lt_of_cell? w _ hw272_0)).trans hw272_0),((HB.out.cell (World.block_lt_of_cell? w _ hw273_0)).trans hw273_0),((HB.out.cell (World.block_lt_of_cell? w _ hw274_0)).trans hw274_0),((HB.out.cell (World.block_lt_of_cell? w _ hw275_0)).trans hw275_0)⟩ (fun hHeld=>?_);refine with_tabW U37.tab10 U37.bits10 (fun HT_ HW_=>?_)
          generalize wc.drew = w27 at HO_9 HO_11 BK263 HB HR272_0 HR273_0 hx272_0 hx273_0 hx274_0 hx275_0 hHeld ⊢
          refine zzp 0 43 ?_ #[true,false,false,false,false,false,false,false,false,false,false,false,false,false,false,false,false,false,false] rfl rfl (any_of HT_.out (zz0)) (fun _ _ _ h=>h) (Or.inl ⟨zz20,?_⟩) ?_ ?_ ?_;rotate_left
          ·intro w'
           go_simp
           with_reducible rfl
          rotate_left
          ·simp only [zzs]
           rfl
          refine zzp 1 44 ?_ #[true,true,false,false,false,false,false,false,false,false,false,false,false,false,false,false,false,false,false] rfl rfl (any_of HT_.out (zz0)) (fun _ _ _ h=>h) (Or.inl ⟨zz20,?_⟩) ?_ ?_ ?_;rotate_left
          ·intro w'
           go_simp
           with_reducible rfl
          rotate_left
          ·simp only [zzs]
           rfl
          refine zzp 2 45 ?_ #[true,true,true,false,false,false,false,false,false,false,false,false,false,false,false,false,false,false,false] rfl rfl (any_of HT_.out (zz0)) (fun _ _ _ h=>h) (Or.inl ⟨zz20,?_⟩) ?_ ?_ ?_;rotate_left
          ·intro w'
           go_simp
           with_reducible rfl
          rotate_left
          ·simp only [zzs]
           rfl
          refine zzp 3 46 ?_ #[true,true,true,true,false,false,false,false,false,false,false,false,false,false,false,false,false,false,false] rfl rfl (any_of HT_.out (zz0)) (fun _ _ _ h=>h) (Or.inl ⟨zz20,?_⟩) ?_ ?_ ?_;rotate_left
          ·intro w'
           go_simp
           with_reducible rfl
          rotate_left
          ·simp only [zzs]
           rfl
          refine zzp 4 47 ?_ #[true,true,true,true,true,false,false,false,false,false,false,false,false,false,false,false,false,false,false] rfl rfl (any_of HT_.out (zz0)) (fun _ _ _ h=>h) (Or.inl ⟨zz20,?_⟩) ?_ ?_ ?_;rotate_left
          ·intro w'
           go_simp
           with_reducible rfl
          rotate_left
          ·simp only [zzs]
           rfl
          refine zzp 6 49 ?_ #[true,true,true,true,true,false,true,false,false,false,false,false,false,false,false,false,false,false,false] rfl rfl (any_of HT_.out (zz0)) (fun _ _ _ h=>h) (Or.inl ⟨zz20,?_⟩) ?_ ?_ ?_;rotate_left
          ·intro w'
           go_simp
           with_reducible rfl
          rotate_left
          ·simp only [zzs]
           rfl
          refine zzp 9 52 ?_ #[true,true,true,true,true,false,true,false,false,true,false,false,false,false,false,false,false,false,false] rfl rfl (any_of HT_.out (zz0)) (fun _ _ _ h=>h) (Or.inl ⟨zz20,?_⟩) ?_ ?_ ?_;rotate_left
          ·intro w'
           go_simp
           with_reducible rfl
          rotate_left
          ·simp only [zzs]
           rfl
          refine zzp 10 53 ?_ #[true,true,true,true,true,false,true,false,false,true,true,false,false,false,false,false,false,false,false] rfl rfl (any_of HT_.out (zz0)) (fun _ _ _ h=>h) (Or.inl ⟨zz20,?_⟩) ?_ ?_ ?_;rotate_left
          ·intro w'
           go_simp
           with_reducible rfl
          rotate_left
          ·simp only [zzs]
           rfl
          refine zzp 11 54 ?_ #[true,true,true,true,true,false,true,false,false,true,true,true,false,false,false,false,false,false,false] rfl rfl (any_of HT_.out (zz0)) (fun _ _ _ h=>h) (Or.inl ⟨zz20,?_⟩) ?_ ?_ ?_;rotate_left
          ·intro w'
           go_simp
           with_reducible rfl
          rotate_left
          ·simp only [zzs]
           rfl
          refine take_ (i:=5) (N:=some 48) (v:=?_) (a':=?_) #[true,true,true,true,true,true,true,false,false,true,true,true,false,false,false,false,false,false,false] rfl rfl (take_ofW HT_.out HW_.out (zz0)) (fun _ _ _ h=>h) (Or.inl ⟨zz20,?_⟩) hHeld ?_ ?_;rotate_left
          ·rintro w' ⟨s0,s1,s2,s3⟩
           go_simp
           with_reducible rfl
          rotate_left
          ·simp only [zzs]
           rfl
          refine zzp 7 50 ?_ #[true,true,true,true,true,true,true,true,false,true,true,true,false,false,false,false,false,false,false] rfl rfl (any_of HT_.out (zz0)) (fun _ _ _ h=>h) (Or.inl ⟨zz20,?_⟩) ?_ ?_ ?_;rotate_left
          ·intro w'
           go_simp
           with_reducible rfl
          rotate_left
          ·simp only [zzs]
           rfl
          refine take_ (i:=8) (N:=some 51) (v:=?_) (a':=?_) #[true,true,true,true,true,true,true,true,true,true,true,true,false,false,false,false,false,false,false] rfl rfl (take_ofW HT_.out HW_.out (zz0)) (fun _ _ _ h=>h) (Or.inl ⟨zz20,?_⟩) hHeld ?_ ?_;rotate_left
          ·rintro w' ⟨s0,s1,s2,s3⟩
           go_simp
           with_reducible rfl
          rotate_left
          ·simp only [zzs]
           rfl
          refine take_ (i:=12) (N:=some 55) (v:=?_) (a':=?_) #[true,true,true,true,true,true,true,true,true,true,true,true,true,false,false,false,false,false,false] rfl rfl (take_ofW HT_.out HW_.out (zz0)) (fun _ _ _ h=>h) (Or.inl ⟨zz20,?_⟩) hHeld ?_ ?_;rotate_left
          ·rintro w' ⟨s0,s1,s2,s3⟩
           go_simp
           with_reducible rfl
          rotate_left
          ·simp only [zzs]
           rfl
          refine zzp 13 56 ?_ #[true,true,true,true,true,true,true,true,true,true,true,true,true,true,false,false,false,false,false] rfl rfl (any_of HT_.out (zz0)) (fun _ _ _ h=>h) (Or.inl ⟨zz20,?_⟩) ?_ ?_ ?_;rotate_left
          ·intro w'
           go_simp
           with_reducible rfl
          rotate_left
          ·simp only [zzs]
           rfl
          refine take_ (i:=14) (N:=some 57) (v:=?_) (a':=?_) #[true,true,true,true,true,true,true,true,true,true,true,true,true,true,true,false,false,false,false] rfl rfl (take_ofW HT_.out HW_.out (zz0)) (fun _ _ _ h=>h) (Or.inl ⟨zz20,?_⟩) hHeld ?_ ?_;rotate_left
          ·rintro w' ⟨s0,s1,s2,s3⟩
           go_simp
           with_reducible rfl
          rotate_left
          ·simp only [zzs]
           rfl
          refine zzp 15 58 ?_ #[true,true,true,true,true,true,true,true,true,true,true,true,true,true,true,true,false,false,false] rfl rfl (any_of HT_.out (zz0)) (fun _ _ _ h=>h) (Or.inl ⟨zz20,?_⟩) ?_ ?_ ?_;rotate_left
          ·intro w'
           go_simp
           with_reducible rfl
          rotate_left
          ·simp only [zzs]
           rfl
          refine one_ (i:=16) (N:=some 59) #[true,true,true,true,true,true,true,true,true,true,true,true,true,true,true,true,true,false,false] rfl rfl (one_of HT_.out (zz0)) (zz28) (fun K hK=>?_);refine goes_ Try.func58 (zz0) rfl #[.int .u64 (IntKind.u64.wrap (rd (rd_L1 ((rd_T56 l1 x12_2).f0) x10_1) (rd l2 x12_2)))] (zz20) rfl rfl (zz19) ?_
          with_reducible refine (U19.calls kj12 (IntKind.u64.wrap (rd (rd_L1 ((rd_T56 l1 x12_2).f0) x10_1) (rd l2 x12_2))) t276 _ A25.out).mono ?_
          rintro e w28 ⟨v277,rfl,ho0,hb⟩;refine ⟨_,rfl,?_⟩;replace HO_9:=Aside0.mk (Kd.S_elder' (have h0_:=HO_9;zz46) (Kd.R_base ho0) hb);have HO278:=Aside0.mk (Kd.R_lower (Kd.R_new' ho0 (Kd.R_lt (zz47))) (below_size (zz45)));replace HO_11:=Aside0.mk (Kd.R_elder' (zz47) (Kd.R_base ho0) hb);replace BK263:=Aside0.mk (blk_below (have h0_:=BK263;zz9) hb);replace HB:=Aside0.mk (below_step (zz45) hb)
          (try clear hb)
          (try clear hk)
          (try clear ho0)
          obtain ⟨Ao29,co29,eo29⟩:=Kd.R_slice HO_11.out
          (first|subst eo29|(injection eo29 with f1_ f2_ f3_;have f4_:=f1_.symm;have f5_:=f3_.symm;clear f1_ f2_ f3_;subst f4_;subst f5_))
          obtain ⟨Ao30,co30,eo30⟩:=Kd.R_slice HO278.out
          (first|subst eo30|(injection eo30 with f1_ f2_ f3_;have f4_:=f1_.symm;have f5_:=f3_.symm;clear f1_ f2_ f3_;subst f4_;subst f5_))
          refine hK.out _ _ ⟨((HB.out.cell (World.block_lt_of_cell? w _ hw272_0)).trans hw272_0),((HB.out.cell (World.block_lt_of_cell? w _ hw273_0)).trans hw273_0),((HB.out.cell (World.block_lt_of_cell? w _ hw274_0)).trans hw274_0),((HB.out.cell (World.block_lt_of_cell? w _ hw275_0)).trans hw275_0)⟩ (fun hHeld=>?_);clear hK K;refine norm_ (a':=?_) ?_ ?_;rotate_left
          ·show Act.put _ (some 59) _ = _
           simp only [zzs]
           rfl
          refine one_ (i:=17) (N:=some 60) #[true,true,true,true,true,true,true,true,true,true,true,true,true,true,true,true,true,true,false] rfl rfl (one_of HT_.out (zz0)) (zz28) (fun K hK=>?_);refine goes_ Try.func59 (zz0) rfl #[.slice Ao29 x11_2.length co29,.slice Ao30 t276.length co30] (zz20) rfl rfl (zz19) ?_
          with_reducible refine (U17.calls kj12 _ _ x11_2 _ _ t276 t279 _ ?side1 ?side2 ?side3 ?side4 A26.out).mono ?_
          (case side1=>exact (have h0_:=HO_11;zz121))
          (case side2=>exact (have h0_:=HO_11;zz122))
          (case side3=>exact (have h0_:=HO278;zz121))
          (case side4=>exact (have h0_:=HO278;zz122))
          rintro e w31 ⟨v280,rfl,ho0,hb⟩;refine ⟨_,rfl,?_⟩;replace HO_9:=Aside0.mk (Kd.S_elder' (have h0_:=HO_9;zz46) (Kd.R_base ho0) hb);have HO281:=Aside0.mk (Kd.R_lower (Kd.R_new' (Kd.R_new' ho0 (Kd.R_lt (zz47))) (Kd.R_lt (have h0_:=HO278;zz25))) (below_size (zz45)));replace HO_11:=Aside0.mk (Kd.R_elder' (zz47) (Kd.R_base ho0) hb);replace HO278:=Aside0.mk (Kd.R_elder' (have h0_:=HO278;zz25) (Kd.R_base ho0) hb);replace BK263:=Aside0.mk (blk_below (have h0_:=BK263;zz9) hb);replace HB:=Aside0.mk (below_step (zz45) hb)
          (try clear hb)
          (try clear hb2)
          (try clear hk)
          (try clear hi)
          (try clear ho0)
          refine hK.out _ _ ⟨((HB.out.cell (World.block_lt_of_cell? w _ hw272_0)).trans hw272_0),((HB.out.cell (World.block_lt_of_cell? w _ hw273_0)).trans hw273_0),((HB.out.cell (World.block_lt_of_cell? w _ hw274_0)).trans hw274_0),((HB.out.cell (World.block_lt_of_cell? w _ hw275_0)).trans hw275_0)⟩ (fun hHeld=>?_);clear hK K;refine norm_ (a':=?_) ?_ ?_;rotate_left
          ·show Act.put _ (some 60) _ = _
           simp only [zzs]
           rfl
          refine zzp 18 11 ?_ #[true,true,true,true,true,true,true,true,true,true,true,true,true,true,true,true,true,true,true] rfl rfl (any_of HT_.out (zz0)) (fun _ _ _ h=>h) (Or.inl ⟨zz20,?_⟩) ?_ ?_ ?_;rotate_left
          ·intro w'
           go_simp
           with_reducible rfl
          rotate_left
          ·simp only [zzs]
           rfl
          refine done_ (done_of HT_.out (zz0)) ?_
          try go_wp2
          go_roundg kj12
          case measure=>have:=HK1.out;have:=HK2.out;have:=HJ12.out;omega
          case rel=>exact ⟨(t279),(wrap64 (x12_2+1)),(zz2),H',⟨by have:=HK1.out;have:=HK2.out;have:=HJ12.out;omega⟩,⟨by (with_reducible repeat (first|apply Kd.S_alloc|apply Kd.S_drewN|apply Kd.S_drew));exact Kd.S_mono HO_9.out (fun _ hk=>hk.2)⟩,⟨(have h0_:=HO281;zz43)⟩,⟨(have h0_:=BK263;zz9)⟩,⟨zz45⟩⟩
         ·replace c17:=Bool.eq_false_iff.mpr c17;subst c17;have H1:(U37.l1 kj12 l1 l2 a3 x9_1 x10_1 x11_2 (wrap64 (x12_2+1)) l0_0 l0_1) = some r:=zz13;clear H;have H:=H1;clear H1;have H':=Aside0.mk H;clear H
          go_wp2
          go_roundg kj12
          case measure=>have:=HK1.out;have:=HK2.out;have:=HJ12.out;omega
          case rel=>exact ⟨(x11_2),(wrap64 (x12_2+1)),(zz2),H',⟨by have:=HK1.out;have:=HK2.out;have:=HJ12.out;omega⟩,⟨(have h0_:=HO_9;zz46)⟩,⟨zz47⟩,⟨(have h0_:=BK263;zz9)⟩,⟨zz45⟩⟩
      ·have c12b0:=decide_eq_false c12;clear c12;replace H:=zzi H;obtain ⟨c32,H⟩:=H;have LMc32:=Aside0.mk c32;clear c32;obtain ⟨y268,hy268⟩:∃ y_:List (List Int),y_ = (x9_1++[x11_2]):=⟨_,rfl⟩;replace H:(U37.l0 k2 l1 l2 a3 y268 (wrap64 (x10_1+1)) l0_0 l0_1) = some r:=(have h0_:=hy268;zz24);have Ny268:=Aside0.mk hy268;clear hy268;have H':=Aside0.mk H;clear H;obtain ⟨Ao34,co34,eo34⟩:=Kd.R_slice HO_11.out;subst eo34
       go_wp2_with (first|((with_reducible refine gate_builtin (b:=.append) (xs:=#[.tmp 61,.tmp 63]) rfl ?_);at_builtin;refine Kd.S_append (Kd.slice 65 (Kd.int .u32)) (w0:=w) w.heap.size rfl (.tmp 61) (.tmp 63) 26 32 (.slice none 0 0) 24 rfl Try.underlying26 info32 rfl (zz28) (zz4) u9 x9_1 x11_2 [.slice Ao34 x11_2.length co34] (fun _=>True) (fun k_=>some k_ = (.slice Ao34 x11_2.length co34:Value).ownBlock) rfl rfl ?aP (fun k_ hk_=>((Kd.R_mono (ok':=fun k_=>((fun _=>True)) k_∧some k_ ≠ (u9:Value).ownBlock) (Kd.R_apart' (HO_11.out) (Kd.S_typed HO_9.out) (zz28)) (fun k_ hk=>⟨trivial,hk.2⟩))).1 k_ hk_.symm) ?aF ?aO ?aB ?aS ?aL ?_;(case aP=>exact Kd.M_row (Kd.R_mono (Kd.R_tight rfl (Kd.R_mono (ok':=fun k_=>((fun _=>True)) k_∧some k_ ≠ (u9:Value).ownBlock) (Kd.R_apart' (HO_11.out) (Kd.S_typed HO_9.out) (zz28)) (fun k_ hk=>⟨trivial,hk.2⟩))) (fun _ h_=>h_)));(case aB=>exact (zz45));(case aF=>exact zz117);(case aO=>exact (by (with_reducible repeat (first|apply Kd.S_alloc|apply Kd.S_drewN|apply Kd.S_drew));exact Kd.S_mono HO_9.out (fun k_ hk=>⟨trivial,fun e_=>hk e_⟩)));(case aS=>exact (below_size (zz45)));(case aL=>have:=LMc32.out;omega);intro v269 w33 ho hb hg hat;rw [← Ny268.out] at ho;replace BK263:=Aside0.mk (blk_grown (g:=gb263) (o:=.cells #[.slice A0_0 l0_0.length c0_0,.slice (some ad264) l0_1.length c0_1] 24 (0,0)) (have h0_:=BK263;zz9) hg (Kd.S_ne HO_9.out BK263.out (zz28)));replace HB:=Aside0.mk (hb);have HO270:=Aside0.mk (ho);clear HO_9 HO_11;clear ho hb hg hat))
       go_roundg k2
       case measure=>have:=HK1.out;have:=HK2.out;omega
       case rel=>exact ⟨(y268),(wrap64 (x10_1+1)),(zz2),H',⟨zz18⟩,⟨(have h0_:=HO270;zz46)⟩,⟨(have h0_:=BK263;zz9)⟩,⟨zz45⟩⟩
   ·have c6b0:=decide_eq_false c6;clear c6;obtain rfl:=Option.some.inj H;obtain ⟨hcz35_0,hcz35_1,hfz35_0,hfz35_1⟩:=zc2 BK263.out
    go_wp2
    go_ret
    exact ⟨_,zz6,(have h0_:=HO_9;zz46),zz45⟩
end Go.Proofs.Ytmcegphcjphdcaa.QA
