import Derived.Test.YtmcegphcjphdcaaCBQAx0
import Derived.Test.YtmcegphcjphdcaaCBQAx1
import Derived.Test.YtmcegphcjphdcaaCBQAx2
import Derived.Test.YtmcegphcjphdcaaCBQAx4
namespace Go.Proofs.Ytmcegphcjphdcaa.QA
open Go.RowKit Go.Proofs.YtmcegphcjphdcaaW.PrintWords Go.Proofs.YtmcegphcjphdcaaW.PrintLast Go.Proofs.YtmcegphcjphdcaaW.PrintMore
attribute [local go_sem] max2_int min2_int max_two min_two max_three min_three max_four min_four
set_option linter.unusedVariables false
set_option linter.unusedSimpArgs false
def U7.l0:Nat→List (S56)→Int→List (List Int)→List Int→Int→Int→Option ((List (List Int)))
 | 0,_,_,_,_,_,_=>none
 | k+1,x1,x3,x9,x18,x19,x20=>if x20 < x19 then (if 0≤x20 then (if x20 < (x18.length:Int) then (if x20 = x3 then (U7.l0 k x1 x3 x9 x18 x19 (wrap64 (x20+1))) else (if x20 < (x1.length:Int) then ((U55.f k x9 ((rd_T56 x1 x20).f0) (rd x18 x20)).bind fun bt202=>(U7.l0 k x1 x3 bt202.1 x18 x19 (wrap64 (x20+1)))) else (none))) else (none)) else (none)) else (some x9)
def U7.f (k:Nat) (l0_0:List Int) (l0_1:List Int) (l1:List (S56)) (l2:List Int) (a3:Int):Option ((List (List Int))):=(U54.f k l0_0 l0_1).bind fun bt196=>(U7.l0 k l1 a3 bt196.1 l2 (l2.length:Int) 0)
theorem zm5_0 {P:Prop} (h:P:=by repeat' first|(with_reducible first|exact ih0 ..|exact U54.mono ..|exact U55.mono ..|exact LeO.refl _|exact LeO.none _|refine LeO.ite ?_ ?_|refine LeO.bind ?_ (fun _=>?_))|exact ih0 ..|exact U54.mono ..|exact U55.mono ..|exact LeO.none _|refine LeO.ite ?_ ?_|refine LeO.bind ?_ (fun _=>?_)):P:=h
theorem U7.mono_l:∀ k,(∀ y0 y1 y2 y3 y4 y5,LeO (U7.l0 k y0 y1 y2 y3 y4 y5) (U7.l0 (k+1) y0 y1 y2 y3 y4 y5))
 | 0=>fun _ _ _ _ _ _ r h=>by simp [U7.l0] at h
 | k+1=>by
  have ih0:=U7.mono_l k
  ·intro y0 y1 y2 y3 y4 y5;unfold U7.l0
   exact zm5_0
theorem U7.mono:∀ a0 a1 a2 a3 a4 k,LeO (U7.f k a0 a1 a2 a3 a4) (U7.f (k+1) a0 a1 a2 a3 a4):=by
 intro a0 a1 a2 a3 a4 k;have ih0:=U7.mono_l k;unfold U7.f
 exact zm5_0
set_option maxHeartbeats 8000000 in
set_option maxRecDepth 100000 in
theorem U7.calls (k:Nat) (A0_0:Option Addr) (c0_0:Nat) (l0_0:List Int) (A0_1:Option Addr) (c0_1:Nat) (l0_1:List Int) (A1:Option Addr) (c1:Nat) (l1:List (S56)) (A2:Option Addr) (c2:Nat) (l2:List Int) (a3:Int) (r:List (List Int)) (w:World) (hr0_0:Kd.C (Kd.int .i64) w A0_0 l0_0.length l0_0) (hc0_0:l0_0.length≤c0_0) (hr0_1:Kd.C (Kd.int .i64) w A0_1 l0_1.length l0_1) (hc0_1:l0_1.length≤c0_1) (hr1:Kd.C k56 w A1 l1.length l1) (hc1:l1.length≤c1) (hr2:Kd.C (Kd.int .i64) w A2 l2.length l2) (hc2:l2.length≤c2) (h:U7.f k l0_0 l0_1 l1 l2 a3 = some r) :
  Calls Try.prog 31 #[.agg #[.slice A0_0 l0_0.length c0_0,.slice A0_1 l0_1.length c0_1],.slice A1 l1.length c1,.slice A2 l2.length c2,.int .i64 a3] w fun e w'=>∃ v0_:Value,e = .returned (v0_)∧Kd.N (Kd.slice 65 (Kd.int .u32)) 32 w' w.heap.size (fun k_=>(w.heap.size≤k_)) v0_ r∧Below w.heap.size w w':=by
 have hu24:=Try.underlying24;have hu56:=Try.underlying56;have HR0_0:=Aside0.mk hr0_0;have HC0_0:=Aside0.mk hc0_0;clear hr0_0 hc0_0;have HR0_1:=Aside0.mk hr0_1;have HC0_1:=Aside0.mk hc0_1;clear hr0_1 hc0_1;have HR1:=Aside0.mk hr1;have HC1:=Aside0.mk hc1;clear hr1 hc1;have HR2:=Aside0.mk hr2;have HC2:=Aside0.mk hc2;clear hr2 hc2;have HB:=Aside0.mk (Below.refl w.heap.size w);have H:((U54.f k l0_0 l0_1).bind fun bt196=>(U7.l0 k l1 a3 bt196.1 l2 (l2.length:Int) 0)) = some r:=h;clear h;replace H:=Option.bind_eq_some_iff.mp H;obtain ⟨⟨t196,t199⟩,A50,H⟩:=H;have A5:=Aside0.mk A50;clear A50;have H':=Aside0.mk H;clear H;go_enter Try.func31,Try.ntmps31
 go_wp2_with (first|((with_reducible refine gate_dst (N:=4) rfl ?_);refine box_event ?hg (N:=4) ?hd (cs:=#[.slice A0_0 l0_0.length c0_0,.slice A0_1 l0_1.length c0_1]) (t:=24) ?hr ?_;(case hd=>rfl);(case hg=>rfl);(case hr=>exact zz146);intro gb195 hg w6 hbox hb;have BK195:=Aside0.mk (hbox);have GW195:=Aside0.mk ((by rw [hg];exact (below_size (zz5)):w.heap.size≤gb195));have GE195:=Aside0.mk ((by rw [hg];exact (below_size (zz5)):w.heap.size≤gb195));replace HB:=Aside0.mk (below_step (zz5) hb);clear hb hbox hg;have hcz7_0:w6.cell? ⟨gb195,0,none⟩ = some (.slice A0_0 l0_0.length c0_0):=(blk_cell BK195.out 0).trans rfl;have hcz7_1:w6.cell? ⟨gb195,1,none⟩ = some (.slice A0_1 l0_1.length c0_1):=(blk_cell BK195.out 1).trans rfl;have hfz7_0:=blk_frozen BK195.out 0;have hfz7_1:=blk_frozen BK195.out 1)|((with_reducible refine gate_callee (f:=55) rfl ?_);refine goesL_ (some 15) rfl rfl Try.func55 (zz0) rfl #[.agg #[.slice A0_0 l0_0.length c0_0,.slice A0_1 l0_1.length c0_1]] rfl (zz16) ?_;(with_reducible refine (U54.calls k _ _ l0_0 _ _ l0_1 t196 t199 _ ?side1 ?side2 ?side3 ?side4 A5.out).mono ?_);(case side1=>exact zz147);(case side2=>exact zz148);(case side3=>exact zz149);(case side4=>exact zz150);rintro e w8 ⟨v197,rfl,ho0,hb⟩;refine ⟨_,rfl,?_⟩;have HO198:=Aside0.mk (Kd.N_lower (Kd.N_mono (ok':=fun k_=>(w.heap.size≤k_)∧k_ ≠ gb195) ho0 (fun k_ hk_=>⟨(Nat.le_trans (below_size (zz47)) hk_),(Kd.freshB (g:=gb195) (o:=.cells #[.slice A0_0 l0_0.length c0_0,.slice A0_1 l0_1.length c0_1] 24 (0,0)) (zz48) k_ hk_)⟩)) (below_size (zz47)));replace BK195:=Aside0.mk (blk_below (zz48) hb);replace HB:=Aside0.mk (below_step (zz47) hb);(try clear hb);(try clear hb2);(try clear hk);(try clear hi);(try clear ho0)))
 go_loopg [9,20] k (fun kq v9 v20 w'=>∃ (x9_1:List (List Int)) (x20_1:Int),v20 = .int .i64 x20_1∧Aside0 (U7.l0 kq l1 a3 x9_1 l2 (l2.length:Int) x20_1 = some r)∧Aside0 (kq≤k)∧Aside0 (Kd.N (Kd.slice 65 (Kd.int .u32)) 32 w' w.heap.size (fun k_=>(w.heap.size≤k_)∧k_ ≠ gb195) v9 x9_1)∧Aside0 (w'.heap[gb195]? = some (.cells #[(.slice A0_0 l0_0.length c0_0),(.slice A0_1 l0_1.length c0_1)] 24 (0,0)))∧Aside0 (Below w.heap.size w w'))
 case atStart=>exact ⟨(t196),(0),(zz2),H',⟨Nat.le_refl _⟩,⟨by (with_reducible repeat (first|apply Kd.N_alloc|apply Kd.N_drewN|apply Kd.N_drew));exact HO198.out⟩,⟨zz48⟩,⟨zz47⟩⟩
 case round =>
  clear H'
  (try clear c1);(try clear c2);(try clear p2);(try clear c3);(try clear c5);(try clear hcz7_0);(try clear hcz7_1);(try clear hfz7_0);(try clear hfz7_1)
  obtain ⟨x9_1,x20_1,rfl,HA,HK1,HO_9,BK195,HB⟩:=hrel
  cases gk with
  | zero=>exact absurd HA.out (by simp [U7.l0])
  | succ k1 =>
   have H:=HA.out;clear HA;simp only [U7.l0] at H;by_cases c9:x20_1 < (l2.length:Int)
   ·rw [if_pos c9] at H;have c9b0:=decide_eq_true c9;clear c9;by_cases c10:0≤x20_1
    ·rw [if_pos c10] at H;have c10b0:=decide_eq_true c10;clear c10;by_cases c11:x20_1 < (l2.length:Int)
     ·rw [if_pos c11] at H;have c11b0:=decide_eq_true c11;clear c11;by_cases c12:x20_1 = a3
      ·rw [if_pos c12] at H;have c12b0:=beq_iff_eq.mpr c12;have c12b1:=bne_eq_false_iff_eq.mpr c12;clear c12;have H':=Aside0.mk H;clear H;have p200:0≤(x20_1:Int):=of_decide_eq_true (zz11);have q200:x20_1 < (l2.length:Int):=of_decide_eq_true (zz11);obtain ⟨ad200,e200,hx200_0⟩:=Kd.at_int HR2.out x20_1 p200 q200
       cases e200
       replace hx200_0:=(HB.out.cell (World.block_lt_of_cell? w _ hx200_0)).trans hx200_0;replace p200:=eq_true p200;replace q200:=eq_true q200
       go_wp2
       go_roundg k1
       case measure=>have:=HK1.out;omega
       case rel=>exact ⟨(x9_1),(wrap64 (x20_1+1)),(zz2),H',⟨zz12⟩,⟨zz49⟩,⟨zz48⟩,⟨zz47⟩⟩
      ·rw [if_neg c12] at H;have c12b0:=beq_eq_false_iff_ne.mpr c12;have c12b1:=bne_iff_ne.mpr c12;by_cases c13:x20_1 < (l1.length:Int)
       ·rw [if_pos c13] at H;have c13b0:=decide_eq_true c13;clear c13;replace H:=Option.bind_eq_some_iff.mp H;obtain ⟨⟨t202,t205⟩,A140,H⟩:=H;have A14:=Aside0.mk A140;clear A140;have H':=Aside0.mk H;clear H;have p200:0≤(x20_1:Int):=of_decide_eq_true (zz11);have q200:x20_1 < (l2.length:Int):=of_decide_eq_true (zz11);obtain ⟨ad200,e200,hx200_0⟩:=Kd.at_int HR2.out x20_1 p200 q200
        cases e200
        replace hx200_0:=(HB.out.cell (World.block_lt_of_cell? w _ hx200_0)).trans hx200_0;replace p200:=eq_true p200;replace q200:=eq_true q200;have p201:0≤(x20_1:Int):=of_decide_eq_true (zz11);have q201:x20_1 < (l1.length:Int):=of_decide_eq_true (zz11);obtain ⟨ad201,A201_0,c201_0,e201,hx201_0,hl201_0,hi201_0⟩:=at_T56 HR1.out x20_1 p201 q201
        cases e201
        replace hx201_0:=(HB.out.cell (World.block_lt_of_cell? w _ hx201_0)).trans hx201_0;have HR201_0:=Aside0.mk hi201_0;have HC201_0:=Aside0.mk hl201_0;clear hi201_0 hl201_0;replace p201:=eq_true p201;replace q201:=eq_true q201;obtain ⟨Ao15,co15,eo15⟩:=Kd.N_slice HO_9.out;subst eo15
        go_wp2_with (first|((with_reducible refine gate_callee (f:=56) rfl ?_);refine goesL_ (some 35) rfl rfl Try.func56 (zz0) rfl #[.slice Ao15 x9_1.length co15,.agg #[.slice A201_0 ((rd_T56 l1 x20_1).f0).length c201_0],.int .i64 (rd l2 x20_1)] rfl (zz16) ?_;(with_reducible refine (U55.calls k1 (fun k_=>((w.heap.size≤k_)∧k_ ≠ gb195)) _ _ x9_1 _ _ ((rd_T56 l1 x20_1).f0) (rd l2 x20_1) t202 t205 _ ?side1 ?side2 ?side3 A14.out).mono ?_);(case side1=>exact Kd.N_V (HO_9.out));(case side2=>repeat (first|exact (Kd.C_below HR201_0.out HB.out)|(with_reducible refine Kd.C_alloc ?_ _)|(with_reducible refine Kd.C_drewN ?_ _)|(with_reducible refine Kd.C_drew ?_)));(case side3=>exact HC201_0.out);rintro e w16 ⟨v203,rfl,ho0,hb⟩;refine ⟨_,rfl,?_⟩;replace HO_9:=Aside0.mk (Kd.N_elder' (zz49) (Kd.N_base ho0) hb);have HO204:=Aside0.mk (Kd.N_lower (Kd.N_mono (ok':=fun k_=>(w.heap.size≤k_)∧k_ ≠ gb195) ho0 (fun k_ hk_=>⟨Or.elim hk_ (fun hs_=>hs_.1) (fun hn_=>(Nat.le_trans (below_size (zz47)) hn_)),Or.elim hk_ (fun hs_=>hs_.2) (fun hn_=>(Kd.freshB (g:=gb195) (o:=.cells #[.slice A0_0 l0_0.length c0_0,.slice A0_1 l0_1.length c0_1] 24 (0,0)) (zz48) k_ hn_))⟩)) (below_size (zz47)));replace BK195:=Aside0.mk (blk_below (zz48) hb);replace HB:=Aside0.mk (below_step (zz47) hb);(try clear hb);(try clear hb2);(try clear hk);(try clear hi);(try clear ho0)))
        go_roundg k1
        case measure=>have:=HK1.out;omega
        case rel=>exact ⟨(t202),(wrap64 (x20_1+1)),(zz2),H',⟨zz12⟩,⟨by (with_reducible repeat (first|apply Kd.N_alloc|apply Kd.N_drewN|apply Kd.N_drew));exact HO204.out⟩,⟨zz48⟩,⟨zz47⟩⟩
       ·rw [if_neg c13] at H
        exact absurd H (zz14)
     ·rw [if_neg c11] at H
      exact absurd H (zz14)
    ·rw [if_neg c10] at H
     exact absurd H (zz14)
   ·rw [if_neg c9] at H;have c9b0:=decide_eq_false c9;clear c9;obtain rfl:=Option.some.inj H
    go_wp2
    go_ret
    exact ⟨_,zz6,by (with_reducible repeat (first|apply Kd.N_alloc|apply Kd.N_drewN|apply Kd.N_drew));exact Kd.N_mono HO_9.out (fun _ hk=>hk.1),zz47⟩
def U2.l0:Nat→List (S56)→List Int→Int→List Int→Int→Int→List Int→List Int→Option ((List (List Int)) × Int)
 | 0,_,_,_,_,_,_,_,_=>none
 | k+1,x1,x2,x3,x35,x36,x37,x207000,x207001=>if x37 < x36 then (if 0≤x37 then (if x37 < (x35.length:Int) then (if (rd x35 x37) < (-2) then (some (([]:List (List Int)),3)) else (if x37 < (x1.length:Int) then ((U44.f ((rd_T56 x1 x37).f0)).bind fun t211=>(if (rd x35 x37)≥t211 then (some (([]:List (List Int)),3)) else (U2.l0 k x1 x2 x3 x35 x36 (wrap64 (x37+1)) x207000 x207001))) else (none))) else (none)) else (none)) else (if x3 < (-1) then (some (([]:List (List Int)),3)) else (if x3≥(x1.length:Int) then (some (([]:List (List Int)),3)) else ((U7.f k x207000 x207001 x1 x2 x3).bind fun t212=>(some (t212,0)))))
def U2.f (k:Nat) (l0_0:List Int) (l0_1:List Int) (l1:List (S56)) (l2:List Int) (a3:Int):Option ((List (List Int)) × Int):=(U39.f k l0_0 l0_1).bind fun t207=>(if t207 = 0 then (if (l1.length:Int) > 60 then (some (([]:List (List Int)),5)) else (if (l2.length:Int) = (l1.length:Int) then ((U9.f k l1 (l0_0.length:Int) (-1)).bind fun t208=>(if t208 = 0 then (U2.l0 k l1 l2 a3 l2 (l2.length:Int) 0 l0_0 l0_1) else (some (([]:List (List Int)),t208)))) else (some (([]:List (List Int)),1)))) else (some (([]:List (List Int)),t207)))
theorem zm5_1 {P:Prop} (h:P:=by repeat' first|(with_reducible first|exact ih0 ..|exact U7.mono ..|exact U9.mono ..|exact U39.mono ..|exact LeO.refl _|exact LeO.none _|refine LeO.ite ?_ ?_|refine LeO.bind ?_ (fun _=>?_))|exact ih0 ..|exact U7.mono ..|exact U9.mono ..|exact U39.mono ..|exact LeO.none _|refine LeO.ite ?_ ?_|refine LeO.bind ?_ (fun _=>?_)):P:=h
theorem U2.mono_l:∀ k,(∀ y0 y1 y2 y3 y4 y5 y6 y7,LeO (U2.l0 k y0 y1 y2 y3 y4 y5 y6 y7) (U2.l0 (k+1) y0 y1 y2 y3 y4 y5 y6 y7))
 | 0=>fun _ _ _ _ _ _ _ _ r h=>by simp [U2.l0] at h
 | k+1=>by
  have ih0:=U2.mono_l k
  ·intro y0 y1 y2 y3 y4 y5 y6 y7;unfold U2.l0
   exact zm5_1
theorem U2.mono:∀ a0 a1 a2 a3 a4 k,LeO (U2.f k a0 a1 a2 a3 a4) (U2.f (k+1) a0 a1 a2 a3 a4):=by
 intro a0 a1 a2 a3 a4 k;have ih0:=U2.mono_l k;unfold U2.f
 exact zm5_1
set_option maxHeartbeats 8000000 in
set_option maxRecDepth 100000 in
theorem U2.calls (k:Nat) (A0_0:Option Addr) (c0_0:Nat) (l0_0:List Int) (A0_1:Option Addr) (c0_1:Nat) (l0_1:List Int) (A1:Option Addr) (c1:Nat) (l1:List (S56)) (A2:Option Addr) (c2:Nat) (l2:List Int) (a3:Int) (r1:List (List Int)) (r2:Int) (w:World) (hr0_0:Kd.C (Kd.int .i64) w A0_0 l0_0.length l0_0) (hc0_0:l0_0.length≤c0_0) (hr0_1:Kd.C (Kd.int .i64) w A0_1 l0_1.length l0_1) (hc0_1:l0_1.length≤c0_1) (hr1:Kd.C k56 w A1 l1.length l1) (hc1:l1.length≤c1) (hr2:Kd.C (Kd.int .i64) w A2 l2.length l2) (hc2:l2.length≤c2) (h:U2.f k l0_0 l0_1 l1 l2 a3 = some (r1,r2)) :
  Calls Try.prog 10 #[.agg #[.slice A0_0 l0_0.length c0_0,.slice A0_1 l0_1.length c0_1],.slice A1 l1.length c1,.slice A2 l2.length c2,.int .i64 a3] w fun e w'=>∃ v0_:Value,e = .returned (.tuple #[v0_,.int .i64 r2])∧Kd.N (Kd.slice 65 (Kd.int .u32)) 32 w' w.heap.size (fun k_=>(w.heap.size≤k_)) v0_ r1∧Below w.heap.size w w':=by
 have hu24:=Try.underlying24;have hu56:=Try.underlying56;have HR0_0:=Aside0.mk hr0_0;have HC0_0:=Aside0.mk hc0_0;clear hr0_0 hc0_0;have HR0_1:=Aside0.mk hr0_1;have HC0_1:=Aside0.mk hc0_1;clear hr0_1 hc0_1;have HR1:=Aside0.mk hr1;have HC1:=Aside0.mk hc1;clear hr1 hc1;have HR2:=Aside0.mk hr2;have HC2:=Aside0.mk hc2;clear hr2 hc2;have HB:=Aside0.mk (Below.refl w.heap.size w);have H:((U39.f k l0_0 l0_1).bind fun t207=>(if t207 = 0 then (if (l1.length:Int) > 60 then (some (([]:List (List Int)),5)) else (if (l2.length:Int) = (l1.length:Int) then ((U9.f k l1 (l0_0.length:Int) (-1)).bind fun t208=>(if t208 = 0 then (U2.l0 k l1 l2 a3 l2 (l2.length:Int) 0 l0_0 l0_1) else (some (([]:List (List Int)),t208)))) else (some (([]:List (List Int)),1)))) else (some (([]:List (List Int)),t207)))) = some (r1,r2):=h;clear h;replace H:=Option.bind_eq_some_iff.mp H;obtain ⟨t207,A50,H⟩:=H;have A5:=Aside0.mk A50;clear A50;by_cases c6:t207 = 0
 ·rw [if_pos c6] at H;have c6b0:=beq_iff_eq.mpr c6;have c6b1:=bne_eq_false_iff_eq.mpr c6;clear c6;by_cases c7:(l1.length:Int) > 60
  ·rw [if_pos c7] at H;have c7b0:=decide_eq_true c7;have c7b1:decide (60 < l1.length) = true:=decide_eq_true (zz4);clear c7;simp only [Option.some.injEq,Prod.mk.injEq] at H;obtain ⟨rfl,rfl⟩:=H;go_enter Try.func10,Try.ntmps10
   go_wp2_with (first|((with_reducible refine gate_dst (N:=4) rfl ?_);(try (refine gate_guard (zz17) ?_;dsimp only));refine box_event ?hg (N:=4) ?hd (cs:=#[.slice A0_0 l0_0.length c0_0,.slice A0_1 l0_1.length c0_1]) (t:=24) ?hr ?_;(case hd=>rfl);(case hg=>rfl);(case hr=>exact zz146);intro gb206 hg w8 hbox hb;have BK206:=Aside0.mk (hbox);have GW206:=Aside0.mk ((by rw [hg];exact (below_size (zz5)):w.heap.size≤gb206));have GE206:=Aside0.mk ((by rw [hg];exact (below_size (zz5)):w.heap.size≤gb206));replace HB:=Aside0.mk (below_step (zz5) hb);clear hb hbox hg;have hcz9_0:w8.cell? ⟨gb206,0,none⟩ = some (.slice A0_0 l0_0.length c0_0):=(blk_cell BK206.out 0).trans rfl;have hcz9_1:w8.cell? ⟨gb206,1,none⟩ = some (.slice A0_1 l0_1.length c0_1):=(blk_cell BK206.out 1).trans rfl;have hfz9_0:=blk_frozen BK206.out 0;have hfz9_1:=blk_frozen BK206.out 1)|((with_reducible refine gate_callee (f:=28) rfl ?_);refine goesL_ (some 15) rfl rfl Try.func28 (zz0) rfl #[.agg #[.slice A0_0 l0_0.length c0_0,.slice A0_1 l0_1.length c0_1]] rfl (zz16) ?_;(with_reducible refine (U39.calls k _ _ l0_0 _ _ l0_1 t207 _ ?side1 ?side2 ?side3 ?side4 A5.out).mono ?_);(case side1=>exact zz147);(case side2=>exact zz148);(case side3=>exact zz149);(case side4=>exact zz150);rintro e w10 ⟨rfl,hb⟩;refine ⟨_,rfl,?_⟩;replace BK206:=Aside0.mk (blk_below (zz50) hb);replace HB:=Aside0.mk (below_step (zz51) hb);(try clear hb);(try clear hb2);(try clear hk);(try clear hi)))
   go_ret2
   exact ⟨_,zz6,zz29,zz51⟩
  ·rw [if_neg c7] at H;have c7b0:=decide_eq_false c7;have c7b1:decide (60 < l1.length) = false:=decide_eq_false (zz4);clear c7;by_cases c11:(l2.length:Int) = (l1.length:Int)
   ·rw [if_pos c11] at H;have c11b0:=beq_iff_eq.mpr c11;have c11b1:=bne_eq_false_iff_eq.mpr c11;have c11b2:(l2.length == l1.length) = true:=zz52;clear c11;replace H:=Option.bind_eq_some_iff.mp H;obtain ⟨t208,A120,H⟩:=H;have A12:=Aside0.mk A120;clear A120;by_cases c13:t208 = 0
    ·rw [if_pos c13] at H;have c13b0:=beq_iff_eq.mpr c13;have c13b1:=bne_eq_false_iff_eq.mpr c13;clear c13;have H':=Aside0.mk H;clear H;go_enter Try.func10,Try.ntmps10
     go_wp2_with (first|((with_reducible refine gate_dst (N:=4) rfl ?_);(try (refine gate_guard (zz17) ?_;dsimp only));refine box_event ?hg (N:=4) ?hd (cs:=#[.slice A0_0 l0_0.length c0_0,.slice A0_1 l0_1.length c0_1]) (t:=24) ?hr ?_;(case hd=>rfl);(case hg=>rfl);(case hr=>exact zz146);intro gb206 hg w14 hbox hb;have BK206:=Aside0.mk (hbox);have GW206:=Aside0.mk ((by rw [hg];exact (below_size (zz5)):w.heap.size≤gb206));have GE206:=Aside0.mk ((by rw [hg];exact (below_size (zz5)):w.heap.size≤gb206));replace HB:=Aside0.mk (below_step (zz5) hb);clear hb hbox hg;have hcz15_0:w14.cell? ⟨gb206,0,none⟩ = some (.slice A0_0 l0_0.length c0_0):=(blk_cell BK206.out 0).trans rfl;have hcz15_1:w14.cell? ⟨gb206,1,none⟩ = some (.slice A0_1 l0_1.length c0_1):=(blk_cell BK206.out 1).trans rfl;have hfz15_0:=blk_frozen BK206.out 0;have hfz15_1:=blk_frozen BK206.out 1)|((with_reducible refine gate_callee (f:=28) rfl ?_);refine goesL_ (some 15) rfl rfl Try.func28 (zz0) rfl #[.agg #[.slice A0_0 l0_0.length c0_0,.slice A0_1 l0_1.length c0_1]] rfl (zz16) ?_;(with_reducible refine (U39.calls k _ _ l0_0 _ _ l0_1 t207 _ ?side1 ?side2 ?side3 ?side4 A5.out).mono ?_);(case side1=>exact zz147);(case side2=>exact zz148);(case side3=>exact zz149);(case side4=>exact zz150);rintro e w16 ⟨rfl,hb⟩;refine ⟨_,rfl,?_⟩;replace BK206:=Aside0.mk (blk_below (zz50) hb);replace HB:=Aside0.mk (below_step (zz51) hb);(try clear hb);(try clear hb2);(try clear hk);(try clear hi);have hcz17_0:w16.cell? ⟨gb206,0,none⟩ = some (.slice A0_0 l0_0.length c0_0):=(blk_cell BK206.out 0).trans rfl;have hcz17_1:w16.cell? ⟨gb206,1,none⟩ = some (.slice A0_1 l0_1.length c0_1):=(blk_cell BK206.out 1).trans rfl;have hfz17_0:=blk_frozen BK206.out 0;have hfz17_1:=blk_frozen BK206.out 1)|((with_reducible refine gate_callee (f:=29) rfl ?_);refine goesL_ (some 31) rfl rfl Try.func29 (zz0) rfl #[.slice A1 l1.length c1,.int .i64 (l0_0.length:Int),.int .i64 (-1)] rfl (zz16) ?_;(with_reducible refine (U9.calls k _ _ l1 (l0_0.length:Int) (-1) t208 _ ?side1 ?side2 A12.out).mono ?_);(case side1=>exact zz153);(case side2=>exact HC1.out);rintro e w18 ⟨rfl,hb⟩;refine ⟨_,rfl,?_⟩;replace BK206:=Aside0.mk (blk_below (zz50) hb);replace HB:=Aside0.mk (below_step (zz51) hb);(try clear hb);(try clear hb2);(try clear hk);(try clear hi)))
     go_loopg [37] k (fun kq v37 w'=>∃ (x37_1:Int),v37 = .int .i64 x37_1∧Aside0 (U2.l0 kq l1 l2 a3 l2 (l2.length:Int) x37_1 l0_0 l0_1 = some (r1,r2))∧Aside0 (kq≤k)∧Aside0 (w'.heap[gb206]? = some (.cells #[(.slice A0_0 l0_0.length c0_0),(.slice A0_1 l0_1.length c0_1)] 24 (0,0)))∧Aside0 (Below w.heap.size w w'))
     case atStart=>exact ⟨(0),(zz2),H',⟨Nat.le_refl _⟩,⟨zz50⟩,⟨zz51⟩⟩
     case round =>
      clear H'
      (try clear c1);(try clear c2);(try clear p2);(try clear c6);(try clear c6b0);(try clear c6b1);(try clear c7);(try clear c7b0);(try clear c7b1);(try clear c10);(try clear c11);(try clear c11b0);(try clear c11b1);(try clear c11b2);(try clear c13);(try clear c13b0);(try clear c13b1);(try clear hcz15_0);(try clear hcz15_1);(try clear hcz17_0);(try clear hcz17_1);(try clear hcz9_0);(try clear hcz9_1);(try clear hfz15_0);(try clear hfz15_1);(try clear hfz17_0);(try clear hfz17_1);(try clear hfz9_0);(try clear hfz9_1)
      obtain ⟨x37_1,rfl,HA,HK1,BK206,HB⟩:=hrel
      cases gk with
      | zero=>exact absurd HA.out (by simp [U2.l0])
      | succ k1 =>
       have H:=HA.out;clear HA;simp only [U2.l0] at H;by_cases c19:x37_1 < (l2.length:Int)
       ·rw [if_pos c19] at H;have c19b0:=decide_eq_true c19;clear c19;by_cases c20:0≤x37_1
        ·rw [if_pos c20] at H;have c20b0:=decide_eq_true c20;clear c20;by_cases c21:x37_1 < (l2.length:Int)
         ·rw [if_pos c21] at H;have c21b0:=decide_eq_true c21;clear c21;by_cases c22:(rd l2 x37_1) < (-2)
          ·rw [if_pos c22] at H;have c22b0:=decide_eq_true c22;clear c22;simp only [Option.some.injEq,Prod.mk.injEq] at H;obtain ⟨rfl,rfl⟩:=H;have p209:0≤(x37_1:Int):=of_decide_eq_true (zz11);have q209:x37_1 < (l2.length:Int):=of_decide_eq_true (zz11);obtain ⟨ad209,e209,hx209_0⟩:=Kd.at_int HR2.out x37_1 p209 q209
           cases e209
           replace hx209_0:=(HB.out.cell (World.block_lt_of_cell? w _ hx209_0)).trans hx209_0;replace p209:=eq_true p209;replace q209:=eq_true q209
           go_wp2
           go_ret2
           exact ⟨_,zz6,zz29,zz51⟩
          ·rw [if_neg c22] at H;have c22b0:=decide_eq_false c22;clear c22;by_cases c23:x37_1 < (l1.length:Int)
           ·rw [if_pos c23] at H;have c23b0:=decide_eq_true c23;clear c23;replace H:=Option.bind_eq_some_iff.mp H;obtain ⟨t211,A240,H⟩:=H;have A24:=Aside0.mk A240;clear A240;by_cases c25:(rd l2 x37_1)≥t211
            ·rw [if_pos c25] at H;have c25b0:=decide_eq_true c25;clear c25;simp only [Option.some.injEq,Prod.mk.injEq] at H;obtain ⟨rfl,rfl⟩:=H;have p209:0≤(x37_1:Int):=of_decide_eq_true (zz11);have q209:x37_1 < (l2.length:Int):=of_decide_eq_true (zz11);obtain ⟨ad209,e209,hx209_0⟩:=Kd.at_int HR2.out x37_1 p209 q209
             cases e209
             replace hx209_0:=(HB.out.cell (World.block_lt_of_cell? w _ hx209_0)).trans hx209_0;replace p209:=eq_true p209;replace q209:=eq_true q209;have p210:0≤(x37_1:Int):=of_decide_eq_true (zz11);have q210:x37_1 < (l1.length:Int):=of_decide_eq_true (zz11);obtain ⟨ad210,A210_0,c210_0,e210,hx210_0,hl210_0,hi210_0⟩:=at_T56 HR1.out x37_1 p210 q210
             cases e210
             replace hx210_0:=(HB.out.cell (World.block_lt_of_cell? w _ hx210_0)).trans hx210_0;have HR210_0:=Aside0.mk hi210_0;have HC210_0:=Aside0.mk hl210_0;clear hi210_0 hl210_0;replace p210:=eq_true p210;replace q210:=eq_true q210
             go_wp2_with (first|(go_at_call 30;(with_reducible refine (U44.calls _ _ ((rd_T56 l1 x37_1).f0) t211 _ ?side1 ?side2 A24.out).mono ?_);(case side1=>repeat (first|exact (Kd.C_below HR210_0.out HB.out)|(with_reducible refine Kd.C_alloc ?_ _)|(with_reducible refine Kd.C_drewN ?_ _)|(with_reducible refine Kd.C_drew ?_)));(case side2=>exact HC210_0.out);rintro e w26 ⟨rfl,hb⟩;replace BK206:=Aside0.mk (blk_below (zz50) hb);replace HB:=Aside0.mk (below_step (zz51) hb);(try clear hb);(try clear hb2);(try clear hk);(try clear hi)))
             go_ret2
             exact ⟨_,zz6,zz29,zz51⟩
            ·rw [if_neg c25] at H;have c25b0:=decide_eq_false c25;clear c25;have H':=Aside0.mk H;clear H;have p209:0≤(x37_1:Int):=of_decide_eq_true (zz11);have q209:x37_1 < (l2.length:Int):=of_decide_eq_true (zz11);obtain ⟨ad209,e209,hx209_0⟩:=Kd.at_int HR2.out x37_1 p209 q209
             cases e209
             replace hx209_0:=(HB.out.cell (World.block_lt_of_cell? w _ hx209_0)).trans hx209_0;replace p209:=eq_true p209;replace q209:=eq_true q209;have p210:0≤(x37_1:Int):=of_decide_eq_true (zz11);have q210:x37_1 < (l1.length:Int):=of_decide_eq_true (zz11);obtain ⟨ad210,A210_0,c210_0,e210,hx210_0,hl210_0,hi210_0⟩:=at_T56 HR1.out x37_1 p210 q210
             cases e210
             replace hx210_0:=(HB.out.cell (World.block_lt_of_cell? w _ hx210_0)).trans hx210_0;have HR210_0:=Aside0.mk hi210_0;have HC210_0:=Aside0.mk hl210_0;clear hi210_0 hl210_0;replace p210:=eq_true p210;replace q210:=eq_true q210
             go_wp2_with (first|(go_at_call 30;(with_reducible refine (U44.calls _ _ ((rd_T56 l1 x37_1).f0) t211 _ ?side1 ?side2 A24.out).mono ?_);(case side1=>repeat (first|exact (Kd.C_below HR210_0.out HB.out)|(with_reducible refine Kd.C_alloc ?_ _)|(with_reducible refine Kd.C_drewN ?_ _)|(with_reducible refine Kd.C_drew ?_)));(case side2=>exact HC210_0.out);rintro e w27 ⟨rfl,hb⟩;replace BK206:=Aside0.mk (blk_below (zz50) hb);replace HB:=Aside0.mk (below_step (zz51) hb);(try clear hb);(try clear hb2);(try clear hk);(try clear hi)))
             go_roundg k1
             case measure=>have:=HK1.out;omega
             case rel=>exact ⟨(wrap64 (x37_1+1)),(zz2),H',⟨zz12⟩,⟨zz50⟩,⟨zz51⟩⟩
           ·rw [if_neg c23] at H
            exact absurd H (zz14)
         ·rw [if_neg c21] at H
          exact absurd H (zz14)
        ·rw [if_neg c20] at H
         exact absurd H (zz14)
       ·rw [if_neg c19] at H;have c19b0:=decide_eq_false c19;clear c19;by_cases c28:a3 < (-1)
        ·rw [if_pos c28] at H;have c28b0:=decide_eq_true c28;clear c28;simp only [Option.some.injEq,Prod.mk.injEq] at H;obtain ⟨rfl,rfl⟩:=H
         go_wp2
         go_ret2
         exact ⟨_,zz6,zz29,zz51⟩
        ·rw [if_neg c28] at H;have c28b0:=decide_eq_false c28;clear c28;by_cases c29:a3≥(l1.length:Int)
         ·rw [if_pos c29] at H;have c29b0:=decide_eq_true c29;clear c29;simp only [Option.some.injEq,Prod.mk.injEq] at H;obtain ⟨rfl,rfl⟩:=H
          go_wp2
          go_ret2
          exact ⟨_,zz6,zz29,zz51⟩
         ·rw [if_neg c29] at H;have c29b0:=decide_eq_false c29;clear c29;replace H:=Option.bind_eq_some_iff.mp H;obtain ⟨t212,A300,H⟩:=H;have A30:=Aside0.mk A300;clear A300;simp only [Option.some.injEq,Prod.mk.injEq] at H;obtain ⟨rfl,rfl⟩:=H;have hcz31_0:wr.cell? ⟨gb206,0,none⟩ = some (.slice A0_0 l0_0.length c0_0):=(blk_cell BK206.out 0).trans rfl;have hcz31_1:wr.cell? ⟨gb206,1,none⟩ = some (.slice A0_1 l0_1.length c0_1):=(blk_cell BK206.out 1).trans rfl;have hfz31_0:=blk_frozen BK206.out 0;have hfz31_1:=blk_frozen BK206.out 1
          go_wp2_with (first|((with_reducible refine gate_callee (f:=31) rfl ?_);refine goesL_ (some 66) rfl rfl Try.func31 (zz0) rfl #[.agg #[.slice A0_0 l0_0.length c0_0,.slice A0_1 l0_1.length c0_1],.slice A1 l1.length c1,.slice A2 l2.length c2,.int .i64 a3] rfl (zz16) ?_;(with_reducible refine (U7.calls k1 _ _ l0_0 _ _ l0_1 _ _ l1 _ _ l2 a3 t212 _ ?side1 ?side2 ?side3 ?side4 ?side5 ?side6 ?side7 ?side8 A30.out).mono ?_);(case side1=>exact zz147);(case side2=>exact zz148);(case side3=>exact zz149);(case side4=>exact zz150);(case side5=>exact zz153);(case side6=>exact HC1.out);(case side7=>exact zz154);(case side8=>exact HC2.out);rintro e w32 ⟨v213,rfl,ho0,hb⟩;refine ⟨_,rfl,?_⟩;have HO214:=Aside0.mk (Kd.N_lower (Kd.N_mono (ok':=fun k_=>(w.heap.size≤k_)∧k_ ≠ gb206) ho0 (fun k_ hk_=>⟨(Nat.le_trans (below_size (zz51)) hk_),(Kd.freshB (g:=gb206) (o:=.cells #[.slice A0_0 l0_0.length c0_0,.slice A0_1 l0_1.length c0_1] 24 (0,0)) (zz50) k_ hk_)⟩)) (below_size (zz51)));replace BK206:=Aside0.mk (blk_below (zz50) hb);replace HB:=Aside0.mk (below_step (zz51) hb);(try clear hb);(try clear hb2);(try clear hk);(try clear hi);(try clear ho0)))
          go_ret2
          exact ⟨_,zz6,by (with_reducible repeat (first|apply Kd.N_alloc|apply Kd.N_drewN|apply Kd.N_drew));exact Kd.N_mono HO214.out (fun _ hk=>hk.1),zz51⟩
    ·rw [if_neg c13] at H;have c13b0:=beq_eq_false_iff_ne.mpr c13;have c13b1:=bne_iff_ne.mpr c13;simp only [Option.some.injEq,Prod.mk.injEq] at H;obtain ⟨rfl,rfl⟩:=H;go_enter Try.func10,Try.ntmps10
     go_wp2_with (first|((with_reducible refine gate_dst (N:=4) rfl ?_);(try (refine gate_guard (zz17) ?_;dsimp only));refine box_event ?hg (N:=4) ?hd (cs:=#[.slice A0_0 l0_0.length c0_0,.slice A0_1 l0_1.length c0_1]) (t:=24) ?hr ?_;(case hd=>rfl);(case hg=>rfl);(case hr=>exact zz146);intro gb206 hg w33 hbox hb;have BK206:=Aside0.mk (hbox);have GW206:=Aside0.mk ((by rw [hg];exact (below_size (zz5)):w.heap.size≤gb206));have GE206:=Aside0.mk ((by rw [hg];exact (below_size (zz5)):w.heap.size≤gb206));replace HB:=Aside0.mk (below_step (zz5) hb);clear hb hbox hg;have hcz34_0:w33.cell? ⟨gb206,0,none⟩ = some (.slice A0_0 l0_0.length c0_0):=(blk_cell BK206.out 0).trans rfl;have hcz34_1:w33.cell? ⟨gb206,1,none⟩ = some (.slice A0_1 l0_1.length c0_1):=(blk_cell BK206.out 1).trans rfl;have hfz34_0:=blk_frozen BK206.out 0;have hfz34_1:=blk_frozen BK206.out 1)|((with_reducible refine gate_callee (f:=28) rfl ?_);refine goesL_ (some 15) rfl rfl Try.func28 (zz0) rfl #[.agg #[.slice A0_0 l0_0.length c0_0,.slice A0_1 l0_1.length c0_1]] rfl (zz16) ?_;(with_reducible refine (U39.calls k _ _ l0_0 _ _ l0_1 t207 _ ?side1 ?side2 ?side3 ?side4 A5.out).mono ?_);(case side1=>exact zz147);(case side2=>exact zz148);(case side3=>exact zz149);(case side4=>exact zz150);rintro e w35 ⟨rfl,hb⟩;refine ⟨_,rfl,?_⟩;replace BK206:=Aside0.mk (blk_below (zz50) hb);replace HB:=Aside0.mk (below_step (zz51) hb);(try clear hb);(try clear hb2);(try clear hk);(try clear hi);have hcz36_0:w35.cell? ⟨gb206,0,none⟩ = some (.slice A0_0 l0_0.length c0_0):=(blk_cell BK206.out 0).trans rfl;have hcz36_1:w35.cell? ⟨gb206,1,none⟩ = some (.slice A0_1 l0_1.length c0_1):=(blk_cell BK206.out 1).trans rfl;have hfz36_0:=blk_frozen BK206.out 0;have hfz36_1:=blk_frozen BK206.out 1)|((with_reducible refine gate_callee (f:=29) rfl ?_);refine goesL_ (some 31) rfl rfl Try.func29 (zz0) rfl #[.slice A1 l1.length c1,.int .i64 (l0_0.length:Int),.int .i64 (-1)] rfl (zz16) ?_;(with_reducible refine (U9.calls k _ _ l1 (l0_0.length:Int) (-1) t208 _ ?side1 ?side2 A12.out).mono ?_);(case side1=>exact zz153);(case side2=>exact HC1.out);rintro e w37 ⟨rfl,hb⟩;refine ⟨_,rfl,?_⟩;replace BK206:=Aside0.mk (blk_below (zz50) hb);replace HB:=Aside0.mk (below_step (zz51) hb);(try clear hb);(try clear hb2);(try clear hk);(try clear hi)))
     go_ret2
     exact ⟨_,zz6,zz29,zz51⟩
   ·rw [if_neg c11] at H;have c11b0:=beq_eq_false_iff_ne.mpr c11;have c11b1:=bne_iff_ne.mpr c11;have c11b2:(l2.length == l1.length) = false:=zz52;simp only [Option.some.injEq,Prod.mk.injEq] at H;obtain ⟨rfl,rfl⟩:=H;go_enter Try.func10,Try.ntmps10
    go_wp2_with (first|((with_reducible refine gate_dst (N:=4) rfl ?_);(try (refine gate_guard (zz17) ?_;dsimp only));refine box_event ?hg (N:=4) ?hd (cs:=#[.slice A0_0 l0_0.length c0_0,.slice A0_1 l0_1.length c0_1]) (t:=24) ?hr ?_;(case hd=>rfl);(case hg=>rfl);(case hr=>exact zz146);intro gb206 hg w38 hbox hb;have BK206:=Aside0.mk (hbox);have GW206:=Aside0.mk ((by rw [hg];exact (below_size (zz5)):w.heap.size≤gb206));have GE206:=Aside0.mk ((by rw [hg];exact (below_size (zz5)):w.heap.size≤gb206));replace HB:=Aside0.mk (below_step (zz5) hb);clear hb hbox hg;have hcz39_0:w38.cell? ⟨gb206,0,none⟩ = some (.slice A0_0 l0_0.length c0_0):=(blk_cell BK206.out 0).trans rfl;have hcz39_1:w38.cell? ⟨gb206,1,none⟩ = some (.slice A0_1 l0_1.length c0_1):=(blk_cell BK206.out 1).trans rfl;have hfz39_0:=blk_frozen BK206.out 0;have hfz39_1:=blk_frozen BK206.out 1)|((with_reducible refine gate_callee (f:=28) rfl ?_);refine goesL_ (some 15) rfl rfl Try.func28 (zz0) rfl #[.agg #[.slice A0_0 l0_0.length c0_0,.slice A0_1 l0_1.length c0_1]] rfl (zz16) ?_;(with_reducible refine (U39.calls k _ _ l0_0 _ _ l0_1 t207 _ ?side1 ?side2 ?side3 ?side4 A5.out).mono ?_);(case side1=>exact zz147);(case side2=>exact zz148);(case side3=>exact zz149);(case side4=>exact zz150);rintro e w40 ⟨rfl,hb⟩;refine ⟨_,rfl,?_⟩;replace BK206:=Aside0.mk (blk_below (zz50) hb);replace HB:=Aside0.mk (below_step (zz51) hb);(try clear hb);(try clear hb2);(try clear hk);(try clear hi)))
    go_ret2
    exact ⟨_,zz6,zz29,zz51⟩
 ·rw [if_neg c6] at H;have c6b0:=beq_eq_false_iff_ne.mpr c6;have c6b1:=bne_iff_ne.mpr c6;simp only [Option.some.injEq,Prod.mk.injEq] at H;obtain ⟨rfl,rfl⟩:=H;go_enter Try.func10,Try.ntmps10
  go_wp2_with (first|((with_reducible refine gate_dst (N:=4) rfl ?_);(try (refine gate_guard (zz17) ?_;dsimp only));refine box_event ?hg (N:=4) ?hd (cs:=#[.slice A0_0 l0_0.length c0_0,.slice A0_1 l0_1.length c0_1]) (t:=24) ?hr ?_;(case hd=>rfl);(case hg=>rfl);(case hr=>exact zz146);intro gb206 hg w41 hbox hb;have BK206:=Aside0.mk (hbox);have GW206:=Aside0.mk ((by rw [hg];exact (below_size (zz5)):w.heap.size≤gb206));have GE206:=Aside0.mk ((by rw [hg];exact (below_size (zz5)):w.heap.size≤gb206));replace HB:=Aside0.mk (below_step (zz5) hb);clear hb hbox hg;have hcz42_0:w41.cell? ⟨gb206,0,none⟩ = some (.slice A0_0 l0_0.length c0_0):=(blk_cell BK206.out 0).trans rfl;have hcz42_1:w41.cell? ⟨gb206,1,none⟩ = some (.slice A0_1 l0_1.length c0_1):=(blk_cell BK206.out 1).trans rfl;have hfz42_0:=blk_frozen BK206.out 0;have hfz42_1:=blk_frozen BK206.out 1)|((with_reducible refine gate_callee (f:=28) rfl ?_);refine goesL_ (some 15) rfl rfl Try.func28 (zz0) rfl #[.agg #[.slice A0_0 l0_0.length c0_0,.slice A0_1 l0_1.length c0_1]] rfl (zz16) ?_;(with_reducible refine (U39.calls k _ _ l0_0 _ _ l0_1 t207 _ ?side1 ?side2 ?side3 ?side4 A5.out).mono ?_);(case side1=>exact zz147);(case side2=>exact zz148);(case side3=>exact zz149);(case side4=>exact zz150);rintro e w43 ⟨rfl,hb⟩;refine ⟨_,rfl,?_⟩;replace BK206:=Aside0.mk (blk_below (zz50) hb);replace HB:=Aside0.mk (below_step (zz51) hb);(try clear hb);(try clear hb2);(try clear hk);(try clear hi)))
  go_ret2
  exact ⟨_,zz6,zz29,zz51⟩
end Go.Proofs.Ytmcegphcjphdcaa.QA
