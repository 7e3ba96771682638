import Derived.Test.YtmcegphcjphdcaaCBQAx0
import Derived.Test.YtmcegphcjphdcaaCBQAx1
import Derived.Test.YtmcegphcjphdcaaCBQAx2
import Derived.Test.YtmcegphcjphdcaaCBQAx3
import Derived.Test.YtmcegphcjphdcaaCBQAx5
import Derived.Test.YtmcegphcjphdcaaCBQAx13
import Derived.Test.YtmcegphcjphdcaaCBQAx14
namespace Go.Proofs.Ytmcegphcjphdcaa.QA
open Go.RowKit Go.Proofs.YtmcegphcjphdcaaW.PrintWords Go.Proofs.YtmcegphcjphdcaaW.PrintLast Go.Proofs.YtmcegphcjphdcaaW.PrintMore
attribute [local go_sem] max2_int min2_int max_two min_two max_three min_three max_four min_four
set_option linter.unusedVariables false
set_option linter.unusedSimpArgs false
def U1.l0:Nat→List (S56)→List Int→List (List Int)→Int→Int→List Int→List Int→Option (List Int × Int)
 | 0,_,_,_,_,_,_,_=>none
 | k+1,x1,x11,x45,x46,x47,x351000,x351001=>if x47 < x46 then (if 0≤x47 then (if x47 < (x45.length:Int) then ((U7.f k x351000 x351001 x1 (rd_L1 x45 x47) (-1)).bind fun t362=>((U8.f k t362).bind fun t365=>((U51.f k x11 t365).bind fun t368=>(U1.l0 k x1 t368 x45 x46 (wrap64 (x47+1)) x351000 x351001)))) else (none)) else (none)) else (some (x11,0))
def U1.f (k:Nat) (l0_0:List Int) (l0_1:List Int) (l1:List (S56)) (l2_0:List Int) (l2_1:List Int) (l2_2:List (List Int)):Option (List Int × Int):=(U39.f k l0_0 l0_1).bind fun t352=>(if t352 = 0 then (if (l1.length:Int) > 60 then (some (([]:List Int),5)) else (if (l1.length:Int) = (l2_1.length:Int) then ((U9.f k l1 (l0_0.length:Int) (-1)).bind fun t353=>(if t353 = 0 then ((U3.f k l1).bind fun t354=>((U41.f k l2_0 l2_1 l2_2 t354).bind fun t357=>(if t357 = 0 then ((nat_Of.f k 1).bind fun t358=>(U1.l0 k l1 t358 l2_2 (l2_2.length:Int) 0 l0_0 l0_1)) else (some (([]:List Int),t357))))) else (some (([]:List Int),t353)))) else (some (([]:List Int),1)))) else (some (([]:List Int),t352)))
theorem zm15_0 {P:Prop} (h:P:=by repeat' first|(with_reducible first|exact ih0 ..|exact U3.mono ..|exact U7.mono ..|exact U8.mono ..|exact U9.mono ..|exact U39.mono ..|exact U41.mono ..|exact U51.mono ..|exact nat_Of.mono ..|exact LeO.refl _|exact LeO.none _|refine LeO.ite ?_ ?_|refine LeO.bind ?_ (fun _=>?_))|exact ih0 ..|exact U3.mono ..|exact U7.mono ..|exact U8.mono ..|exact U9.mono ..|exact U39.mono ..|exact U41.mono ..|exact U51.mono ..|exact nat_Of.mono ..|exact LeO.none _|refine LeO.ite ?_ ?_|refine LeO.bind ?_ (fun _=>?_)):P:=h
theorem U1.mono_l:∀ k,(∀ y0 y1 y2 y3 y4 y5 y6,LeO (U1.l0 k y0 y1 y2 y3 y4 y5 y6) (U1.l0 (k+1) y0 y1 y2 y3 y4 y5 y6))
 | 0=>fun _ _ _ _ _ _ _ r h=>by simp [U1.l0] at h
 | k+1=>by
  have ih0:=U1.mono_l k
  ·intro y0 y1 y2 y3 y4 y5 y6;unfold U1.l0
   exact zm15_0
theorem U1.mono:∀ a0 a1 a2 a3 a4 a5 k,LeO (U1.f k a0 a1 a2 a3 a4 a5) (U1.f (k+1) a0 a1 a2 a3 a4 a5):=by
 intro a0 a1 a2 a3 a4 a5 k;have ih0:=U1.mono_l k;unfold U1.f
 exact zm15_0
set_option maxHeartbeats 8000000 in
set_option maxRecDepth 100000 in
theorem U1.calls (k:Nat) (A0_0:Option Addr) (c0_0:Nat) (l0_0:List Int) (A0_1:Option Addr) (c0_1:Nat) (l0_1:List Int) (A1:Option Addr) (c1:Nat) (l1:List (S56)) (A2_0:Option Addr) (c2_0:Nat) (l2_0:List Int) (A2_1:Option Addr) (c2_1:Nat) (l2_1:List Int) (A2_2:Option Addr) (c2_2:Nat) (l2_2:List (List Int)) (r1:List Int) (r2:Int) (w:World) (hr0_0:Kd.C (Kd.int .i64) w A0_0 l0_0.length l0_0) (hc0_0:l0_0.length≤c0_0) (hr0_1:Kd.C (Kd.int .i64) w A0_1 l0_1.length l0_1) (hc0_1:l0_1.length≤c0_1) (hr1:Kd.C k56 w A1 l1.length l1) (hc1:l1.length≤c1) (hr2_0:Kd.C (Kd.int .i64) w A2_0 l2_0.length l2_0) (hc2_0:l2_0.length≤c2_0) (hr2_1:Kd.C (Kd.int .i64) w A2_1 l2_1.length l2_1) (hc2_1:l2_1.length≤c2_1) (hr2_2:Kd.C (Kd.slice 3 (Kd.int .i64)) w A2_2 l2_2.length l2_2) (hc2_2:l2_2.length≤c2_2) (h:U1.f k l0_0 l0_1 l1 l2_0 l2_1 l2_2 = some (r1,r2)) :
  Calls Try.prog 14 #[.agg #[.slice A0_0 l0_0.length c0_0,.slice A0_1 l0_1.length c0_1],.slice A1 l1.length c1,.agg #[.slice A2_0 l2_0.length c2_0,.slice A2_1 l2_1.length c2_1,.slice A2_2 l2_2.length c2_2]] w fun e w'=>∃ v0_:Value,e = .returned (.tuple #[v0_,.int .i64 r2])∧Kd.V (Kd.int .u32) 65 w' w.heap.size (fun k_=>(w.heap.size≤k_)) v0_ r1∧Below w.heap.size w w':=by
 have hu24:=Try.underlying24;have hu36:=Try.underlying36;have HR0_0:=Aside0.mk hr0_0;have HC0_0:=Aside0.mk hc0_0;clear hr0_0 hc0_0;have HR0_1:=Aside0.mk hr0_1;have HC0_1:=Aside0.mk hc0_1;clear hr0_1 hc0_1;have HR1:=Aside0.mk hr1;have HC1:=Aside0.mk hc1;clear hr1 hc1;have HR2_0:=Aside0.mk hr2_0;have HC2_0:=Aside0.mk hc2_0;clear hr2_0 hc2_0;have HR2_1:=Aside0.mk hr2_1;have HC2_1:=Aside0.mk hc2_1;clear hr2_1 hc2_1;have HR2_2:=Aside0.mk hr2_2;have HC2_2:=Aside0.mk hc2_2;clear hr2_2 hc2_2;have HB:=Aside0.mk (Below.refl w.heap.size w);have H:((U39.f k l0_0 l0_1).bind fun t352=>(if t352 = 0 then (if (l1.length:Int) > 60 then (some (([]:List Int),5)) else (if (l1.length:Int) = (l2_1.length:Int) then ((U9.f k l1 (l0_0.length:Int) (-1)).bind fun t353=>(if t353 = 0 then ((U3.f k l1).bind fun t354=>((U41.f k l2_0 l2_1 l2_2 t354).bind fun t357=>(if t357 = 0 then ((nat_Of.f k 1).bind fun t358=>(U1.l0 k l1 t358 l2_2 (l2_2.length:Int) 0 l0_0 l0_1)) else (some (([]:List Int),t357))))) else (some (([]:List Int),t353)))) else (some (([]:List Int),1)))) else (some (([]:List Int),t352)))) = some (r1,r2):=h;clear h;replace H:=Option.bind_eq_some_iff.mp H;obtain ⟨t352,A40,H⟩:=H;have A4:=Aside0.mk A40;clear A40;by_cases c5:t352 = 0
 ·rw [if_pos c5] at H;have c5b0:=beq_iff_eq.mpr c5;have c5b1:=bne_eq_false_iff_eq.mpr c5;clear c5;by_cases c6:(l1.length:Int) > 60
  ·rw [if_pos c6] at H;have c6b0:=decide_eq_true c6;have c6b1:decide (60 < l1.length) = true:=decide_eq_true (zz4);clear c6;simp only [Option.some.injEq,Prod.mk.injEq] at H;obtain ⟨rfl,rfl⟩:=H;go_enter Try.func14,Try.ntmps14
   go_wp2_with (first|((with_reducible refine gate_dst (N:=3) rfl ?_);refine box_event ?hg (N:=3) ?hd (cs:=#[.slice A0_0 l0_0.length c0_0,.slice A0_1 l0_1.length c0_1]) (t:=24) ?hr ?_;(case hd=>rfl);(case hg=>rfl);(case hr=>exact zz146);intro gb350 hg w7 hbox hb;have BK350:=Aside0.mk (hbox);have GW350:=Aside0.mk ((by rw [hg];exact (below_size (zz5)):w.heap.size≤gb350));have GE350:=Aside0.mk ((by rw [hg];exact (below_size (zz5)):w.heap.size≤gb350));replace HB:=Aside0.mk (below_step (zz5) hb);clear hb hbox hg)|((with_reducible refine gate_dst (N:=5) rfl ?_);refine box_event ?hg (N:=5) ?hd (cs:=#[.slice A2_0 l2_0.length c2_0,.slice A2_1 l2_1.length c2_1,.slice A2_2 l2_2.length c2_2]) (t:=36) ?hr ?_;(case hd=>rfl);(case hg=>rfl);(case hr=>exact zz146);intro gb351 hg w8 hbox hb;have BK351:=Aside0.mk (hbox);have GW351:=Aside0.mk ((by rw [hg];exact (below_size (zz86)):w.heap.size≤gb351));have GE351:=Aside0.mk ((by rw [hg];exact (below_size (zz86)):w.heap.size≤gb351));replace HB:=Aside0.mk (below_step (zz86) hb);have NB350_351:=Aside0.mk ((by rw [hg];exact Nat.ne_of_lt (blk_lt (g:=gb350) (o:=.cells #[.slice A0_0 l0_0.length c0_0,.slice A0_1 l0_1.length c0_1] 24 (0,0)) (zz85)):gb350 ≠ gb351));have NB351_350:=Aside0.mk ((by rw [hg];exact Nat.ne_of_gt (blk_lt (g:=gb350) (o:=.cells #[.slice A0_0 l0_0.length c0_0,.slice A0_1 l0_1.length c0_1] 24 (0,0)) (zz85)):gb351 ≠ gb350));replace BK350:=Aside0.mk (blk_below (zz85) hb);clear hb hbox hg;have hnb9:=NB350_351.out;have hnc9:=NB351_350.out;have hcz10_0:w8.cell? ⟨gb350,0,none⟩ = some (.slice A0_0 l0_0.length c0_0):=(blk_cell BK350.out 0).trans rfl;have hcz10_1:w8.cell? ⟨gb350,1,none⟩ = some (.slice A0_1 l0_1.length c0_1):=(blk_cell BK350.out 1).trans rfl;have hfz10_0:=blk_frozen BK350.out 0;have hfz10_1:=blk_frozen BK350.out 1)|((with_reducible refine gate_callee (f:=28) rfl ?_);refine goesL_ (some 15) rfl rfl Try.func28 (zz0) rfl #[.agg #[.slice A0_0 l0_0.length c0_0,.slice A0_1 l0_1.length c0_1]] rfl (zz16) ?_;(with_reducible refine (U39.calls k _ _ l0_0 _ _ l0_1 t352 _ ?side1 ?side2 ?side3 ?side4 A4.out).mono ?_);(case side1=>exact zz147);(case side2=>exact zz148);(case side3=>exact zz149);(case side4=>exact zz150);rintro e w11 ⟨rfl,hb⟩;refine ⟨_,rfl,?_⟩;replace BK350:=Aside0.mk (blk_below (zz85) hb);replace BK351:=Aside0.mk (blk_below (zz87) hb);replace HB:=Aside0.mk (below_step (zz88) hb);(try clear hb);(try clear hb2);(try clear hk);(try clear hi)))
   go_ret2
   exact ⟨_,zz6,(Kd.V_nil _ _ _ _ _),zz88⟩
  ·rw [if_neg c6] at H;have c6b0:=decide_eq_false c6;have c6b1:decide (60 < l1.length) = false:=decide_eq_false (zz4);clear c6;by_cases c12:(l1.length:Int) = (l2_1.length:Int)
   ·rw [if_pos c12] at H;have c12b0:=beq_iff_eq.mpr c12;have c12b1:=bne_eq_false_iff_eq.mpr c12;have c12b2:(l1.length == l2_1.length) = true:=zz89;clear c12;replace H:=Option.bind_eq_some_iff.mp H;obtain ⟨t353,A130,H⟩:=H;have A13:=Aside0.mk A130;clear A130;by_cases c14:t353 = 0
    ·rw [if_pos c14] at H;have c14b0:=beq_iff_eq.mpr c14;have c14b1:=bne_eq_false_iff_eq.mpr c14;clear c14;replace H:=Option.bind_eq_some_iff.mp H;obtain ⟨t354,A150,H⟩:=H;have A15:=Aside0.mk A150;clear A150;replace H:=Option.bind_eq_some_iff.mp H;obtain ⟨t357,A160,H⟩:=H;have A16:=Aside0.mk A160;clear A160;by_cases c17:t357 = 0
     ·rw [if_pos c17] at H;have c17b0:=beq_iff_eq.mpr c17;have c17b1:=bne_eq_false_iff_eq.mpr c17;clear c17;replace H:=Option.bind_eq_some_iff.mp H;obtain ⟨t358,A180,H⟩:=H;have A18:=Aside0.mk A180;clear A180;have H':=Aside0.mk H;clear H;go_enter Try.func14,Try.ntmps14
      try go_wp2_with (first|((with_reducible refine gate_dst (N:=3) rfl ?_);refine box_event ?hg (N:=3) ?hd (cs:=#[.slice A0_0 l0_0.length c0_0,.slice A0_1 l0_1.length c0_1]) (t:=24) ?hr ?_;(case hd=>rfl);(case hg=>rfl);(case hr=>exact zz146);intro gb350 hg w19 hbox hb;have BK350:=Aside0.mk (hbox);have GW350:=Aside0.mk ((by rw [hg];exact (below_size (zz5)):w.heap.size≤gb350));have GE350:=Aside0.mk ((by rw [hg];exact (below_size (zz5)):w.heap.size≤gb350));replace HB:=Aside0.mk (below_step (zz5) hb);clear hb hbox hg)|((with_reducible refine gate_dst (N:=5) rfl ?_);refine box_event ?hg (N:=5) ?hd (cs:=#[.slice A2_0 l2_0.length c2_0,.slice A2_1 l2_1.length c2_1,.slice A2_2 l2_2.length c2_2]) (t:=36) ?hr ?_;(case hd=>rfl);(case hg=>rfl);(case hr=>exact zz146);intro gb351 hg w20 hbox hb;have BK351:=Aside0.mk (hbox);have GW351:=Aside0.mk ((by rw [hg];exact (below_size (zz86)):w.heap.size≤gb351));have GE351:=Aside0.mk ((by rw [hg];exact (below_size (zz86)):w.heap.size≤gb351));replace HB:=Aside0.mk (below_step (zz86) hb);have NB350_351:=Aside0.mk ((by rw [hg];exact Nat.ne_of_lt (blk_lt (g:=gb350) (o:=.cells #[.slice A0_0 l0_0.length c0_0,.slice A0_1 l0_1.length c0_1] 24 (0,0)) (zz85)):gb350 ≠ gb351));have NB351_350:=Aside0.mk ((by rw [hg];exact Nat.ne_of_gt (blk_lt (g:=gb350) (o:=.cells #[.slice A0_0 l0_0.length c0_0,.slice A0_1 l0_1.length c0_1] 24 (0,0)) (zz85)):gb351 ≠ gb350));replace BK350:=Aside0.mk (blk_below (zz85) hb);clear hb hbox hg;have hnb21:=NB350_351.out;have hnc21:=NB351_350.out;have hcz22_0:w20.cell? ⟨gb350,0,none⟩ = some (.slice A0_0 l0_0.length c0_0):=(blk_cell BK350.out 0).trans rfl;have hcz22_1:w20.cell? ⟨gb350,1,none⟩ = some (.slice A0_1 l0_1.length c0_1):=(blk_cell BK350.out 1).trans rfl;have hfz22_0:=blk_frozen BK350.out 0;have hfz22_1:=blk_frozen BK350.out 1)|((with_reducible refine gate_callee (f:=28) rfl ?_);refine goesL_ (some 15) rfl rfl Try.func28 (zz0) rfl #[.agg #[.slice A0_0 l0_0.length c0_0,.slice A0_1 l0_1.length c0_1]] rfl (zz16) ?_;(with_reducible refine (U39.calls k _ _ l0_0 _ _ l0_1 t352 _ ?side1 ?side2 ?side3 ?side4 A4.out).mono ?_);(case side1=>exact zz147);(case side2=>exact zz148);(case side3=>exact zz149);(case side4=>exact zz150);rintro e w23 ⟨rfl,hb⟩;refine ⟨_,rfl,?_⟩;replace BK350:=Aside0.mk (blk_below (zz85) hb);replace BK351:=Aside0.mk (blk_below (zz87) hb);replace HB:=Aside0.mk (below_step (zz88) hb);(try clear hb);(try clear hb2);(try clear hk);(try clear hi);have hcz24_0:w23.cell? ⟨gb351,0,none⟩ = some (.slice A2_0 l2_0.length c2_0):=(blk_cell BK351.out 0).trans rfl;have hcz24_1:w23.cell? ⟨gb351,1,none⟩ = some (.slice A2_1 l2_1.length c2_1):=(blk_cell BK351.out 1).trans rfl;have hcz24_2:w23.cell? ⟨gb351,2,none⟩ = some (.slice A2_2 l2_2.length c2_2):=(blk_cell BK351.out 2).trans rfl;have hfz24_0:=blk_frozen BK351.out 0;have hfz24_1:=blk_frozen BK351.out 1;have hfz24_2:=blk_frozen BK351.out 2;have hcz25_0:w23.cell? ⟨gb350,0,none⟩ = some (.slice A0_0 l0_0.length c0_0):=(blk_cell BK350.out 0).trans rfl;have hcz25_1:w23.cell? ⟨gb350,1,none⟩ = some (.slice A0_1 l0_1.length c0_1):=(blk_cell BK350.out 1).trans rfl;have hfz25_0:=blk_frozen BK350.out 0;have hfz25_1:=blk_frozen BK350.out 1)|((with_reducible refine gate_callee (f:=29) rfl ?_);refine goesL_ (some 32) rfl rfl Try.func29 (zz0) rfl #[.slice A1 l1.length c1,.int .i64 (l0_0.length:Int),.int .i64 (-1)] rfl (zz16) ?_;(with_reducible refine (U9.calls k _ _ l1 (l0_0.length:Int) (-1) t353 _ ?side1 ?side2 A13.out).mono ?_);(case side1=>exact zz153);(case side2=>exact HC1.out);rintro e w26 ⟨rfl,hb⟩;refine ⟨_,rfl,?_⟩;replace BK350:=Aside0.mk (blk_below (zz85) hb);replace BK351:=Aside0.mk (blk_below (zz87) hb);replace HB:=Aside0.mk (below_step (zz88) hb);(try clear hb);(try clear hb2);(try clear hk);(try clear hi)))
      have n0_:=Aside0.mk (blk_drew BK350.out);have n1_:=Aside0.mk (blk_drew BK351.out);have n2_:=Aside0.mk (below_drew1 HB.out);clear BK350;clear BK351;clear HB;have BK350:=n0_;have BK351:=n1_;have HB:=n2_;clear n0_ n1_ n2_;refine start_ (n:=5) (S:=fun w'=>w'.cell? ⟨gb351,0,none⟩ = some (.slice A2_0 l2_0.length c2_0)∧w'.cell? ⟨gb351,1,none⟩ = some (.slice A2_1 l2_1.length c2_1)∧w'.cell? ⟨gb351,2,none⟩ = some (.slice A2_2 l2_2.length c2_2)) (ds:=[]) #[false,false,false,false,false] (zz0) rfl rfl ⟨(blk_cell BK351.out 0).trans rfl,(blk_cell BK351.out 1).trans rfl,(blk_cell BK351.out 2).trans rfl⟩ (fun hHeld=>?_)
      generalize w26.drew = w27 at BK350 BK351 HB hHeld ⊢
      refine pure_ (i:=1) (N:=some 37) (v:=?_) (a':=?_) #[false,true,false,false,false] rfl rfl (zz0) (fun _ _ _ h=>h) (Or.inl ⟨zz17,?_⟩) ?_ ?_;rotate_left
      ·intro w'
       go_simp
       with_reducible rfl
      rotate_left
      ·simp only [zzs]
       rfl
      refine take_ (i:=0) (N:=some 36) (v:=?_) (a':=?_) #[true,true,false,false,false] rfl rfl (zz0) (fun _ _ _ h=>h) (Or.inl ⟨zz17,?_⟩) hHeld ?_ ?_;rotate_left
      ·rintro w' ⟨s0,s1,s2⟩
       go_simp
       with_reducible rfl
      rotate_left
      ·simp only [zzs]
       rfl
      refine one_ (i:=2) (N:=some 38) #[true,true,true,false,false] rfl rfl (zz0) (zz31) (fun K hK=>?_);refine goes_ Try.func37 (zz0) rfl #[.slice A1 l1.length c1] (zz17) rfl rfl (zz16) ?_
      with_reducible refine (U3.calls k _ _ l1 t354 _ ?side1 ?side2 A15.out).mono ?_
      (case side1=>exact zz153)
      (case side2=>exact HC1.out)
      rintro e w28 ⟨v355,rfl,ho0,hb⟩;refine ⟨_,rfl,?_⟩;have n0_:=Aside0.mk (Kd.R_lower (Kd.R_newM (M:=fun k_=>(w.heap.size≤k_)) ho0 (below_size (zz88)) (fun k_ h_=>h_)) (below_size (zz88)));have n1_:=Aside0.mk (blk_below (zz85) hb);have n2_:=Aside0.mk (blk_below (zz87) hb);have n3_:=Aside0.mk (below_step (zz88) hb);clear BK350;clear BK351;clear HB;have HO356:=n0_;have BK350:=n1_;have BK351:=n2_;have HB:=n3_;clear n0_ n1_ n2_ n3_
      (try clear hb)
      (try clear hb2)
      (try clear hk)
      (try clear hi)
      (try clear ho0)
      obtain ⟨Ao29,co29,eo29⟩:=Kd.R_slice HO356.out
      (first|subst eo29|(injection eo29 with f1_ f2_ f3_;have f4_:=f1_.symm;have f5_:=f3_.symm;clear f1_ f2_ f3_;subst f4_;subst f5_))
      refine hK.out _ _ ⟨(blk_cell BK351.out 0).trans rfl,(blk_cell BK351.out 1).trans rfl,(blk_cell BK351.out 2).trans rfl⟩ (fun hHeld=>?_);clear hK K;refine norm_ (a':=?_) ?_ ?_;rotate_left
      ·show Act.put _ (some 38) _ = _
       simp only [zzs]
       rfl
      refine one_ (i:=3) (N:=some 39) #[true,true,true,true,false] rfl rfl (zz0) (zz31) (fun K hK=>?_);refine goes_ Try.func36 (zz0) rfl #[.agg #[.slice A2_0 l2_0.length c2_0,.slice A2_1 l2_1.length c2_1,.slice A2_2 l2_2.length c2_2],.slice Ao29 t354.length co29] (zz17) rfl rfl (zz16) ?_
      with_reducible refine (U41.calls k _ _ l2_0 _ _ l2_1 _ _ l2_2 _ _ t354 t357 _ ?side1 ?side2 ?side3 ?side4 ?side5 ?side6 ?side7 ?side8 A16.out).mono ?_
      (case side1=>exact zz161)
      (case side2=>exact zz162)
      (case side3=>exact zz163)
      (case side4=>exact zz164)
      (case side5=>exact zz165)
      (case side6=>exact zz166)
      (case side7=>repeat (first|exact (Kd.R_reads' HO356.out).2.2|(with_reducible refine Kd.C_alloc ?_ _)|(with_reducible refine Kd.C_drewN ?_ _)|(with_reducible refine Kd.C_drew ?_)))
      (case side8=>exact (Kd.R_reads' HO356.out).2.1)
      rintro e w30 ⟨rfl,hb⟩;refine ⟨_,rfl,?_⟩;have n0_:=Aside0.mk (Kd.R_below (zz90) hb);have n1_:=Aside0.mk (blk_below (zz85) hb);have n2_:=Aside0.mk (blk_below (zz87) hb);have n3_:=Aside0.mk (below_step (zz88) hb);clear HO356;clear BK350;clear BK351;clear HB;have HO356:=n0_;have BK350:=n1_;have BK351:=n2_;have HB:=n3_;clear n0_ n1_ n2_ n3_
      (try clear hb)
      (try clear hb2)
      (try clear hk)
      (try clear hi)
      refine hK.out _ _ ⟨(blk_cell BK351.out 0).trans rfl,(blk_cell BK351.out 1).trans rfl,(blk_cell BK351.out 2).trans rfl⟩ (fun hHeld=>?_);clear hK K;refine norm_ (a':=?_) ?_ ?_;rotate_left
      ·show Act.put _ (some 39) _ = _
       simp only [zzs]
       rfl
      refine pure_ (i:=4) (N:=some 10) (v:=?_) (a':=?_) #[true,true,true,true,true] rfl rfl (zz0) (fun _ _ _ h=>h) (Or.inl ⟨zz17,?_⟩) ?_ ?_;rotate_left
      ·intro w'
       go_simp
       with_reducible rfl
      rotate_left
      ·simp only [zzs]
       rfl
      refine done_ (zz0) ?_
      try go_wp2_with (first|((with_reducible refine gate_callee (f:=38) rfl ?_);refine goesL_ (some 43) rfl rfl Try.func38 (zz0) rfl #[.int .u64 1] rfl (zz16) ?_;(with_reducible refine (nat_Of.calls k 1 t358 _ A18.out).mono ?_);rintro e w31 ⟨v359,rfl,ho0,hb⟩;refine ⟨_,rfl,?_⟩;have HO360:=Aside0.mk (Kd.V_lower (Kd.V_mono (ok':=fun k_=>(w.heap.size≤k_)∧some k_ ≠ (.slice Ao29 t354.length co29:Value).ownBlock∧k_ ≠ gb350∧k_ ≠ gb351) ho0 (fun k_ hk_=>⟨(Nat.le_trans (below_size (zz88)) hk_),(Kd.fresh' (Kd.R_lt (zz90)) k_ hk_),(Kd.freshB (g:=gb350) (o:=.cells #[.slice A0_0 l0_0.length c0_0,.slice A0_1 l0_1.length c0_1] 24 (0,0)) (zz85) k_ hk_),(Kd.freshB (g:=gb351) (o:=.cells #[.slice A2_0 l2_0.length c2_0,.slice A2_1 l2_1.length c2_1,.slice A2_2 l2_2.length c2_2] 36 (0,0)) (zz87) k_ hk_)⟩)) (below_size (zz88)));replace HO356:=Aside0.mk (Kd.R_below (zz90) hb);replace BK350:=Aside0.mk (blk_below (zz85) hb);replace BK351:=Aside0.mk (blk_below (zz87) hb);replace HB:=Aside0.mk (below_step (zz88) hb);(try clear hb);(try clear hb2);(try clear hk);(try clear hi);(try clear ho0);have hcz32_0:w31.cell? ⟨gb351,0,none⟩ = some (.slice A2_0 l2_0.length c2_0):=(blk_cell BK351.out 0).trans rfl;have hcz32_1:w31.cell? ⟨gb351,1,none⟩ = some (.slice A2_1 l2_1.length c2_1):=(blk_cell BK351.out 1).trans rfl;have hcz32_2:w31.cell? ⟨gb351,2,none⟩ = some (.slice A2_2 l2_2.length c2_2):=(blk_cell BK351.out 2).trans rfl;have hfz32_0:=blk_frozen BK351.out 0;have hfz32_1:=blk_frozen BK351.out 1;have hfz32_2:=blk_frozen BK351.out 2))
      go_loopg [11,47] k (fun kq v11 v47 w'=>∃ (x11_1:List Int) (x47_1:Int),v47 = .int .i64 x47_1∧Aside0 (U1.l0 kq l1 x11_1 l2_2 (l2_2.length:Int) x47_1 l0_0 l0_1 = some (r1,r2))∧Aside0 (kq≤k)∧Aside0 (Kd.V (Kd.int .u32) 65 w' w.heap.size (fun k_=>(w.heap.size≤k_)∧k_ ≠ gb350∧k_ ≠ gb351) v11 x11_1)∧Aside0 (w'.heap[gb350]? = some (.cells #[(.slice A0_0 l0_0.length c0_0),(.slice A0_1 l0_1.length c0_1)] 24 (0,0)))∧Aside0 (w'.heap[gb351]? = some (.cells #[(.slice A2_0 l2_0.length c2_0),(.slice A2_1 l2_1.length c2_1),(.slice A2_2 l2_2.length c2_2)] 36 (0,0)))∧Aside0 (Below w.heap.size w w'))
      case atStart=>exact ⟨(t358),(0),(zz2),H',⟨Nat.le_refl _⟩,⟨by (with_reducible repeat (first|apply Kd.V_alloc|apply Kd.V_drewN|apply Kd.V_drew));exact Kd.V_mono HO360.out (fun _ hk=>⟨hk.1,⟨hk.2.2.1,hk.2.2.2⟩⟩)⟩,⟨zz85⟩,⟨zz87⟩,⟨zz88⟩⟩
      case round =>
       clear H'
       (try clear c1);(try clear c2);(try clear p2);(try clear c3);(try clear c5);(try clear c5b0);(try clear c5b1);(try clear c6);(try clear c6b0);(try clear c6b1);(try clear c9);(try clear c12);(try clear c12b0);(try clear c12b1);(try clear c12b2);(try clear c14);(try clear c14b0);(try clear c14b1);(try clear c17);(try clear c17b0);(try clear c17b1);(try clear c21);(try clear c28);(try clear c29);(try clear hcz10_0);(try clear hcz10_1);(try clear hcz22_0);(try clear hcz22_1);(try clear hcz24_0);(try clear hcz24_1);(try clear hcz24_2);(try clear hcz25_0);(try clear hcz25_1);(try clear hcz32_0);(try clear hcz32_1);(try clear hcz32_2);(try clear hfz10_0);(try clear hfz10_1);(try clear hfz22_0);(try clear hfz22_1);(try clear hfz24_0);(try clear hfz24_1);(try clear hfz24_2);(try clear hfz25_0);(try clear hfz25_1);(try clear hfz32_0);(try clear hfz32_1);(try clear hfz32_2)
       obtain ⟨x11_1,x47_1,rfl,HA,HK1,HO_11,BK350,BK351,HB⟩:=hrel
       cases gk with
       | zero=>exact absurd HA.out (by simp [U1.l0])
       | succ k1 =>
        have H:=HA.out;clear HA;simp only [U1.l0] at H;by_cases c33:x47_1 < (l2_2.length:Int)
        ·rw [if_pos c33] at H;have c33b0:=decide_eq_true c33;clear c33;by_cases c34:0≤x47_1
         ·rw [if_pos c34] at H;have c34b0:=decide_eq_true c34;clear c34;by_cases c35:x47_1 < (l2_2.length:Int)
          ·rw [if_pos c35] at H;have c35b0:=decide_eq_true c35;clear c35;replace H:=Option.bind_eq_some_iff.mp H;obtain ⟨t362,A360,H⟩:=H;have A36:=Aside0.mk A360;clear A360;replace H:=Option.bind_eq_some_iff.mp H;obtain ⟨t365,A370,H⟩:=H;have A37:=Aside0.mk A370;clear A370;replace H:=Option.bind_eq_some_iff.mp H;obtain ⟨t368,A380,H⟩:=H;have A38:=Aside0.mk A380;clear A380;have H':=Aside0.mk H;clear H;have p361:0≤(x47_1:Int):=of_decide_eq_true (zz11);have q361:x47_1 < (l2_2.length:Int):=of_decide_eq_true (zz11);obtain ⟨ad361,A361_0,c361_0,e361,hx361_0,hl361_0,hi361_0⟩:=at_L1 HR2_2.out x47_1 p361 q361
           cases e361
           replace hx361_0:=(HB.out.cell (World.block_lt_of_cell? w _ hx361_0)).trans hx361_0;have HR361_0:=Aside0.mk hi361_0;have HC361_0:=Aside0.mk hl361_0;clear hi361_0 hl361_0;replace p361:=eq_true p361;replace q361:=eq_true q361;have hnb39:=NB350_351.out;have hnc39:=NB351_350.out;have hcz40_0:wr.cell? ⟨gb350,0,none⟩ = some (.slice A0_0 l0_0.length c0_0):=(blk_cell BK350.out 0).trans rfl;have hcz40_1:wr.cell? ⟨gb350,1,none⟩ = some (.slice A0_1 l0_1.length c0_1):=(blk_cell BK350.out 1).trans rfl;have hfz40_0:=blk_frozen BK350.out 0;have hfz40_1:=blk_frozen BK350.out 1
           go_wp2_with (first|((with_reducible refine gate_callee (f:=31) rfl ?_);refine goesL_ (some 55) rfl rfl Try.func31 (zz0) rfl #[.agg #[.slice A0_0 l0_0.length c0_0,.slice A0_1 l0_1.length c0_1],.slice A1 l1.length c1,.slice A361_0 (rd_L1 l2_2 x47_1).length c361_0,.int .i64 (-1)] rfl (zz16) ?_;(with_reducible refine (U7.calls k1 _ _ l0_0 _ _ l0_1 _ _ l1 _ _ (rd_L1 l2_2 x47_1) (-1) t362 _ ?side1 ?side2 ?side3 ?side4 ?side5 ?side6 ?side7 ?side8 A36.out).mono ?_);(case side1=>exact zz147);(case side2=>exact zz148);(case side3=>exact zz149);(case side4=>exact zz150);(case side5=>exact zz153);(case side6=>exact HC1.out);(case side7=>repeat (first|exact (Kd.C_below HR361_0.out HB.out)|(with_reducible refine Kd.C_alloc ?_ _)|(with_reducible refine Kd.C_drewN ?_ _)|(with_reducible refine Kd.C_drew ?_)));(case side8=>exact HC361_0.out);rintro e w41 ⟨v363,rfl,ho0,hb⟩;refine ⟨_,rfl,?_⟩;replace HO_11:=Aside0.mk (Kd.V_elder' (zz91) (Kd.N_base ho0) hb);have HO364:=Aside0.mk (Kd.N_lower (Kd.N_mono (ok':=fun k_=>(w.heap.size≤k_)∧k_ ≠ gb350∧k_ ≠ gb351) ho0 (fun k_ hk_=>⟨(Nat.le_trans (below_size (zz88)) hk_),(Kd.freshB (g:=gb350) (o:=.cells #[.slice A0_0 l0_0.length c0_0,.slice A0_1 l0_1.length c0_1] 24 (0,0)) (zz85) k_ hk_),(Kd.freshB (g:=gb351) (o:=.cells #[.slice A2_0 l2_0.length c2_0,.slice A2_1 l2_1.length c2_1,.slice (some ad361) l2_2.length c2_2] 36 (0,0)) (zz87) k_ hk_)⟩)) (below_size (zz88)));replace BK350:=Aside0.mk (blk_below (zz85) hb);replace BK351:=Aside0.mk (blk_below (zz87) hb);replace HB:=Aside0.mk (below_step (zz88) hb);(try clear hb);(try clear hb2);(try clear hk);(try clear hi);(try clear ho0);obtain ⟨Ao42,co42,eo42⟩:=Kd.N_slice HO364.out;subst eo42)|((with_reducible refine gate_callee (f:=40) rfl ?_);refine goesL_ (some 56) rfl rfl Try.func40 (zz0) rfl #[.slice Ao42 t362.length co42] rfl (zz16) ?_;(with_reducible refine (U8.calls k1 _ _ t362 t365 _ ?side1 ?side2 A37.out).mono ?_);(case side1=>repeat (first|exact (Kd.N_reads' HO364.out).2.2|(with_reducible refine Kd.C_alloc ?_ _)|(with_reducible refine Kd.C_drewN ?_ _)|(with_reducible refine Kd.C_drew ?_)));(case side2=>exact (Kd.N_reads' HO364.out).2.1);rintro e w43 ⟨v366,rfl,ho0,hb⟩;refine ⟨_,rfl,?_⟩;replace HO_11:=Aside0.mk (Kd.V_elder' (zz91) (Kd.R_base ho0) hb);replace HO364:=Aside0.mk (Kd.N_elder' (zz92) (Kd.R_base ho0) hb);have HO367:=Aside0.mk (Kd.R_lower (Kd.R_newM (M:=fun k_=>(w.heap.size≤k_)) ho0 (below_size (zz88)) (fun k_ h_=>h_)) (below_size (zz88)));replace BK350:=Aside0.mk (blk_below (zz85) hb);replace BK351:=Aside0.mk (blk_below (zz87) hb);replace HB:=Aside0.mk (below_step (zz88) hb);(try clear hb);(try clear hb2);(try clear hk);(try clear hi);(try clear ho0);obtain ⟨Ao44,co44,eo44⟩:=Kd.V_slice HO_11.out;subst eo44;obtain ⟨Ao45,co45,eo45⟩:=Kd.R_slice HO367.out;subst eo45)|((with_reducible refine gate_callee (f:=39) rfl ?_);refine goesL_ (some 57) rfl rfl Try.func39 (zz0) rfl #[.slice Ao44 x11_1.length co44,.slice Ao45 t365.length co45] rfl (zz16) ?_;(with_reducible refine (U51.calls k1 (fun k_=>((((w.heap.size≤k_)∧(k_ ≠ gb350∧k_ ≠ gb351))∧some k_ ≠ (.slice Ao42 t362.length co42:Value).ownBlock)∧some k_ ≠ (.slice Ao45 t365.length co45:Value).ownBlock)) _ _ x11_1 (fun k_=>some k_ = (.slice Ao45 t365.length co45:Value).ownBlock) _ _ t365 t368 _ ?side1 ?side2 A38.out).mono ?_);(case side1=>exact HO_11.out);(case side2=>exact Kd.R_V (Kd.R_tight rfl (Kd.R_types (Kd.R_types (Kd.R_apart' (HO367.out) (Kd.N_typed HO364.out) (zz31)) BK350.out (zz31)) BK351.out (zz31))));rintro e w46 ⟨v369,rfl,ho0,hb⟩;refine ⟨_,rfl,?_⟩;replace HO_11:=Aside0.mk (Kd.V_below (zz91) hb);have HO370:=Aside0.mk (Kd.V_lower (Kd.V_mono (ok':=fun k_=>(w.heap.size≤k_)∧some k_ ≠ (.slice Ao42 t362.length co42:Value).ownBlock∧k_ ≠ gb350∧k_ ≠ gb351) ho0 (fun k_ hk_=>⟨Or.elim hk_ (fun hs_=>Or.elim hs_ (fun hs_=>hs_.1.1.1) (fun hs_=>((Kd.R_types (Kd.R_types (Kd.R_apart' (HO367.out) (Kd.N_typed HO364.out) (zz31)) BK350.out (zz31)) BK351.out (zz31)).1 k_ hs_.symm).1.1.1.1)) (fun hn_=>(Nat.le_trans (below_size (zz88)) hn_)),Or.elim hk_ (fun hs_=>Or.elim hs_ (fun hs_=>hs_.1.2) (fun hs_=>((Kd.R_types (Kd.R_types (Kd.R_apart' (HO367.out) (Kd.N_typed HO364.out) (zz31)) BK350.out (zz31)) BK351.out (zz31)).1 k_ hs_.symm).1.1.2)) (fun hn_=>(Kd.fresh' (Kd.N_lt (zz92)) k_ hn_)),Or.elim hk_ (fun hs_=>Or.elim hs_ (fun hs_=>hs_.1.1.2.1) (fun hs_=>((Kd.R_types (Kd.R_types (Kd.R_apart' (HO367.out) (Kd.N_typed HO364.out) (zz31)) BK350.out (zz31)) BK351.out (zz31)).1 k_ hs_.symm).1.2)) (fun hn_=>(Kd.freshB (g:=gb350) (o:=.cells #[.slice A0_0 l0_0.length c0_0,.slice A0_1 l0_1.length c0_1] 24 (0,0)) (zz85) k_ hn_)),Or.elim hk_ (fun hs_=>Or.elim hs_ (fun hs_=>hs_.1.1.2.2) (fun hs_=>((Kd.R_types (Kd.R_types (Kd.R_apart' (HO367.out) (Kd.N_typed HO364.out) (zz31)) BK350.out (zz31)) BK351.out (zz31)).1 k_ hs_.symm).2)) (fun hn_=>(Kd.freshB (g:=gb351) (o:=.cells #[.slice A2_0 l2_0.length c2_0,.slice A2_1 l2_1.length c2_1,.slice (some ad361) l2_2.length c2_2] 36 (0,0)) (zz87) k_ hn_))⟩)) (below_size (zz88)));replace HO364:=Aside0.mk (Kd.N_below (zz92) hb);replace HO367:=Aside0.mk (Kd.R_below (by (with_reducible repeat (first|apply Kd.R_alloc|apply Kd.R_drewN|apply Kd.R_drew));exact HO367.out) hb);replace BK350:=Aside0.mk (blk_below (zz85) hb);replace BK351:=Aside0.mk (blk_below (zz87) hb);replace HB:=Aside0.mk (below_step (zz88) hb);(try clear hb);(try clear hb2);(try clear hk);(try clear hi);(try clear ho0)))
           go_roundg k1
           case measure=>have:=HK1.out;omega
           case rel=>exact ⟨(t368),(wrap64 (x47_1+1)),(zz2),H',⟨zz12⟩,⟨by (with_reducible repeat (first|apply Kd.V_alloc|apply Kd.V_drewN|apply Kd.V_drew));exact Kd.V_mono HO370.out (fun _ hk=>⟨hk.1,⟨hk.2.2.1,hk.2.2.2⟩⟩)⟩,⟨zz85⟩,⟨zz87⟩,⟨zz88⟩⟩
          ·rw [if_neg c35] at H
           exact absurd H (zz14)
         ·rw [if_neg c34] at H
          exact absurd H (zz14)
        ·rw [if_neg c33] at H;have c33b0:=decide_eq_false c33;clear c33;simp only [Option.some.injEq,Prod.mk.injEq] at H;obtain ⟨rfl,rfl⟩:=H
         go_wp2
         go_ret2
         exact ⟨_,zz6,by (with_reducible repeat (first|apply Kd.V_alloc|apply Kd.V_drewN|apply Kd.V_drew));exact Kd.V_mono HO_11.out (fun _ hk=>hk.1),zz88⟩
     ·rw [if_neg c17] at H;have c17b0:=beq_eq_false_iff_ne.mpr c17;have c17b1:=bne_iff_ne.mpr c17;simp only [Option.some.injEq,Prod.mk.injEq] at H;obtain ⟨rfl,rfl⟩:=H;go_enter Try.func14,Try.ntmps14
      try go_wp2_with (first|((with_reducible refine gate_dst (N:=3) rfl ?_);refine box_event ?hg (N:=3) ?hd (cs:=#[.slice A0_0 l0_0.length c0_0,.slice A0_1 l0_1.length c0_1]) (t:=24) ?hr ?_;(case hd=>rfl);(case hg=>rfl);(case hr=>exact zz146);intro gb350 hg w47 hbox hb;have BK350:=Aside0.mk (hbox);have GW350:=Aside0.mk ((by rw [hg];exact (below_size (zz5)):w.heap.size≤gb350));have GE350:=Aside0.mk ((by rw [hg];exact (below_size (zz5)):w.heap.size≤gb350));replace HB:=Aside0.mk (below_step (zz5) hb);clear hb hbox hg)|((with_reducible refine gate_dst (N:=5) rfl ?_);refine box_event ?hg (N:=5) ?hd (cs:=#[.slice A2_0 l2_0.length c2_0,.slice A2_1 l2_1.length c2_1,.slice A2_2 l2_2.length c2_2]) (t:=36) ?hr ?_;(case hd=>rfl);(case hg=>rfl);(case hr=>exact zz146);intro gb351 hg w48 hbox hb;have BK351:=Aside0.mk (hbox);have GW351:=Aside0.mk ((by rw [hg];exact (below_size (zz86)):w.heap.size≤gb351));have GE351:=Aside0.mk ((by rw [hg];exact (below_size (zz86)):w.heap.size≤gb351));replace HB:=Aside0.mk (below_step (zz86) hb);have NB350_351:=Aside0.mk ((by rw [hg];exact Nat.ne_of_lt (blk_lt (g:=gb350) (o:=.cells #[.slice A0_0 l0_0.length c0_0,.slice A0_1 l0_1.length c0_1] 24 (0,0)) (zz85)):gb350 ≠ gb351));have NB351_350:=Aside0.mk ((by rw [hg];exact Nat.ne_of_gt (blk_lt (g:=gb350) (o:=.cells #[.slice A0_0 l0_0.length c0_0,.slice A0_1 l0_1.length c0_1] 24 (0,0)) (zz85)):gb351 ≠ gb350));replace BK350:=Aside0.mk (blk_below (zz85) hb);clear hb hbox hg;have hnb49:=NB350_351.out;have hnc49:=NB351_350.out;have hcz50_0:w48.cell? ⟨gb350,0,none⟩ = some (.slice A0_0 l0_0.length c0_0):=(blk_cell BK350.out 0).trans rfl;have hcz50_1:w48.cell? ⟨gb350,1,none⟩ = some (.slice A0_1 l0_1.length c0_1):=(blk_cell BK350.out 1).trans rfl;have hfz50_0:=blk_frozen BK350.out 0;have hfz50_1:=blk_frozen BK350.out 1)|((with_reducible refine gate_callee (f:=28) rfl ?_);refine goesL_ (some 15) rfl rfl Try.func28 (zz0) rfl #[.agg #[.slice A0_0 l0_0.length c0_0,.slice A0_1 l0_1.length c0_1]] rfl (zz16) ?_;(with_reducible refine (U39.calls k _ _ l0_0 _ _ l0_1 t352 _ ?side1 ?side2 ?side3 ?side4 A4.out).mono ?_);(case side1=>exact zz147);(case side2=>exact zz148);(case side3=>exact zz149);(case side4=>exact zz150);rintro e w51 ⟨rfl,hb⟩;refine ⟨_,rfl,?_⟩;replace BK350:=Aside0.mk (blk_below (zz85) hb);replace BK351:=Aside0.mk (blk_below (zz87) hb);replace HB:=Aside0.mk (below_step (zz88) hb);(try clear hb);(try clear hb2);(try clear hk);(try clear hi);have hcz52_0:w51.cell? ⟨gb351,0,none⟩ = some (.slice A2_0 l2_0.length c2_0):=(blk_cell BK351.out 0).trans rfl;have hcz52_1:w51.cell? ⟨gb351,1,none⟩ = some (.slice A2_1 l2_1.length c2_1):=(blk_cell BK351.out 1).trans rfl;have hcz52_2:w51.cell? ⟨gb351,2,none⟩ = some (.slice A2_2 l2_2.length c2_2):=(blk_cell BK351.out 2).trans rfl;have hfz52_0:=blk_frozen BK351.out 0;have hfz52_1:=blk_frozen BK351.out 1;have hfz52_2:=blk_frozen BK351.out 2;have hcz53_0:w51.cell? ⟨gb350,0,none⟩ = some (.slice A0_0 l0_0.length c0_0):=(blk_cell BK350.out 0).trans rfl;have hcz53_1:w51.cell? ⟨gb350,1,none⟩ = some (.slice A0_1 l0_1.length c0_1):=(blk_cell BK350.out 1).trans rfl;have hfz53_0:=blk_frozen BK350.out 0;have hfz53_1:=blk_frozen BK350.out 1)|((with_reducible refine gate_callee (f:=29) rfl ?_);refine goesL_ (some 32) rfl rfl Try.func29 (zz0) rfl #[.slice A1 l1.length c1,.int .i64 (l0_0.length:Int),.int .i64 (-1)] rfl (zz16) ?_;(with_reducible refine (U9.calls k _ _ l1 (l0_0.length:Int) (-1) t353 _ ?side1 ?side2 A13.out).mono ?_);(case side1=>exact zz153);(case side2=>exact HC1.out);rintro e w54 ⟨rfl,hb⟩;refine ⟨_,rfl,?_⟩;replace BK350:=Aside0.mk (blk_below (zz85) hb);replace BK351:=Aside0.mk (blk_below (zz87) hb);replace HB:=Aside0.mk (below_step (zz88) hb);(try clear hb);(try clear hb2);(try clear hk);(try clear hi)))
      have n0_:=Aside0.mk (blk_drew BK350.out);have n1_:=Aside0.mk (blk_drew BK351.out);have n2_:=Aside0.mk (below_drew1 HB.out);clear BK350;clear BK351;clear HB;have BK350:=n0_;have BK351:=n1_;have HB:=n2_;clear n0_ n1_ n2_;refine start_ (n:=5) (S:=fun w'=>w'.cell? ⟨gb351,0,none⟩ = some (.slice A2_0 l2_0.length c2_0)∧w'.cell? ⟨gb351,1,none⟩ = some (.slice A2_1 l2_1.length c2_1)∧w'.cell? ⟨gb351,2,none⟩ = some (.slice A2_2 l2_2.length c2_2)) (ds:=[]) #[false,false,false,false,false] (zz0) rfl rfl ⟨(blk_cell BK351.out 0).trans rfl,(blk_cell BK351.out 1).trans rfl,(blk_cell BK351.out 2).trans rfl⟩ (fun hHeld=>?_)
      generalize w54.drew = w55 at BK350 BK351 HB hHeld ⊢
      refine pure_ (i:=1) (N:=some 37) (v:=?_) (a':=?_) #[false,true,false,false,false] rfl rfl (zz0) (fun _ _ _ h=>h) (Or.inl ⟨zz17,?_⟩) ?_ ?_;rotate_left
      ·intro w'
       go_simp
       with_reducible rfl
      rotate_left
      ·simp only [zzs]
       rfl
      refine take_ (i:=0) (N:=some 36) (v:=?_) (a':=?_) #[true,true,false,false,false] rfl rfl (zz0) (fun _ _ _ h=>h) (Or.inl ⟨zz17,?_⟩) hHeld ?_ ?_;rotate_left
      ·rintro w' ⟨s0,s1,s2⟩
       go_simp
       with_reducible rfl
      rotate_left
      ·simp only [zzs]
       rfl
      refine one_ (i:=2) (N:=some 38) #[true,true,true,false,false] rfl rfl (zz0) (zz31) (fun K hK=>?_);refine goes_ Try.func37 (zz0) rfl #[.slice A1 l1.length c1] (zz17) rfl rfl (zz16) ?_
      with_reducible refine (U3.calls k _ _ l1 t354 _ ?side1 ?side2 A15.out).mono ?_
      (case side1=>exact zz153)
      (case side2=>exact HC1.out)
      rintro e w56 ⟨v355,rfl,ho0,hb⟩;refine ⟨_,rfl,?_⟩;have n0_:=Aside0.mk (Kd.R_lower (Kd.R_newM (M:=fun k_=>(w.heap.size≤k_)) ho0 (below_size (zz88)) (fun k_ h_=>h_)) (below_size (zz88)));have n1_:=Aside0.mk (blk_below (zz85) hb);have n2_:=Aside0.mk (blk_below (zz87) hb);have n3_:=Aside0.mk (below_step (zz88) hb);clear BK350;clear BK351;clear HB;have HO356:=n0_;have BK350:=n1_;have BK351:=n2_;have HB:=n3_;clear n0_ n1_ n2_ n3_
      (try clear hb)
      (try clear hb2)
      (try clear hk)
      (try clear hi)
      (try clear ho0)
      obtain ⟨Ao57,co57,eo57⟩:=Kd.R_slice HO356.out
      (first|subst eo57|(injection eo57 with f1_ f2_ f3_;have f4_:=f1_.symm;have f5_:=f3_.symm;clear f1_ f2_ f3_;subst f4_;subst f5_))
      refine hK.out _ _ ⟨(blk_cell BK351.out 0).trans rfl,(blk_cell BK351.out 1).trans rfl,(blk_cell BK351.out 2).trans rfl⟩ (fun hHeld=>?_);clear hK K;refine norm_ (a':=?_) ?_ ?_;rotate_left
      ·show Act.put _ (some 38) _ = _
       simp only [zzs]
       rfl
      refine one_ (i:=3) (N:=some 39) #[true,true,true,true,false] rfl rfl (zz0) (zz31) (fun K hK=>?_);refine goes_ Try.func36 (zz0) rfl #[.agg #[.slice A2_0 l2_0.length c2_0,.slice A2_1 l2_1.length c2_1,.slice A2_2 l2_2.length c2_2],.slice Ao57 t354.length co57] (zz17) rfl rfl (zz16) ?_
      with_reducible refine (U41.calls k _ _ l2_0 _ _ l2_1 _ _ l2_2 _ _ t354 t357 _ ?side1 ?side2 ?side3 ?side4 ?side5 ?side6 ?side7 ?side8 A16.out).mono ?_
      (case side1=>exact zz161)
      (case side2=>exact zz162)
      (case side3=>exact zz163)
      (case side4=>exact zz164)
      (case side5=>exact zz165)
      (case side6=>exact zz166)
      (case side7=>repeat (first|exact (Kd.R_reads' HO356.out).2.2|(with_reducible refine Kd.C_alloc ?_ _)|(with_reducible refine Kd.C_drewN ?_ _)|(with_reducible refine Kd.C_drew ?_)))
      (case side8=>exact (Kd.R_reads' HO356.out).2.1)
      rintro e w58 ⟨rfl,hb⟩;refine ⟨_,rfl,?_⟩;have n0_:=Aside0.mk (Kd.R_below (zz90) hb);have n1_:=Aside0.mk (blk_below (zz85) hb);have n2_:=Aside0.mk (blk_below (zz87) hb);have n3_:=Aside0.mk (below_step (zz88) hb);clear HO356;clear BK350;clear BK351;clear HB;have HO356:=n0_;have BK350:=n1_;have BK351:=n2_;have HB:=n3_;clear n0_ n1_ n2_ n3_
      (try clear hb)
      (try clear hb2)
      (try clear hk)
      (try clear hi)
      refine hK.out _ _ ⟨(blk_cell BK351.out 0).trans rfl,(blk_cell BK351.out 1).trans rfl,(blk_cell BK351.out 2).trans rfl⟩ (fun hHeld=>?_);clear hK K;refine norm_ (a':=?_) ?_ ?_;rotate_left
      ·show Act.put _ (some 39) _ = _
       simp only [zzs]
       rfl
      refine pure_ (i:=4) (N:=some 10) (v:=?_) (a':=?_) #[true,true,true,true,true] rfl rfl (zz0) (fun _ _ _ h=>h) (Or.inl ⟨zz17,?_⟩) ?_ ?_;rotate_left
      ·intro w'
       go_simp
       with_reducible rfl
      rotate_left
      ·simp only [zzs]
       rfl
      refine done_ (zz0) ?_
      try go_wp2
      go_ret2
      exact ⟨_,zz6,(Kd.V_nil _ _ _ _ _),zz88⟩
    ·rw [if_neg c14] at H;have c14b0:=beq_eq_false_iff_ne.mpr c14;have c14b1:=bne_iff_ne.mpr c14;simp only [Option.some.injEq,Prod.mk.injEq] at H;obtain ⟨rfl,rfl⟩:=H;go_enter Try.func14,Try.ntmps14
     go_wp2_with (first|((with_reducible refine gate_dst (N:=3) rfl ?_);refine box_event ?hg (N:=3) ?hd (cs:=#[.slice A0_0 l0_0.length c0_0,.slice A0_1 l0_1.length c0_1]) (t:=24) ?hr ?_;(case hd=>rfl);(case hg=>rfl);(case hr=>exact zz146);intro gb350 hg w59 hbox hb;have BK350:=Aside0.mk (hbox);have GW350:=Aside0.mk ((by rw [hg];exact (below_size (zz5)):w.heap.size≤gb350));have GE350:=Aside0.mk ((by rw [hg];exact (below_size (zz5)):w.heap.size≤gb350));replace HB:=Aside0.mk (below_step (zz5) hb);clear hb hbox hg)|((with_reducible refine gate_dst (N:=5) rfl ?_);refine box_event ?hg (N:=5) ?hd (cs:=#[.slice A2_0 l2_0.length c2_0,.slice A2_1 l2_1.length c2_1,.slice A2_2 l2_2.length c2_2]) (t:=36) ?hr ?_;(case hd=>rfl);(case hg=>rfl);(case hr=>exact zz146);intro gb351 hg w60 hbox hb;have BK351:=Aside0.mk (hbox);have GW351:=Aside0.mk ((by rw [hg];exact (below_size (zz86)):w.heap.size≤gb351));have GE351:=Aside0.mk ((by rw [hg];exact (below_size (zz86)):w.heap.size≤gb351));replace HB:=Aside0.mk (below_step (zz86) hb);have NB350_351:=Aside0.mk ((by rw [hg];exact Nat.ne_of_lt (blk_lt (g:=gb350) (o:=.cells #[.slice A0_0 l0_0.length c0_0,.slice A0_1 l0_1.length c0_1] 24 (0,0)) (zz85)):gb350 ≠ gb351));have NB351_350:=Aside0.mk ((by rw [hg];exact Nat.ne_of_gt (blk_lt (g:=gb350) (o:=.cells #[.slice A0_0 l0_0.length c0_0,.slice A0_1 l0_1.length c0_1] 24 (0,0)) (zz85)):gb351 ≠ gb350));replace BK350:=Aside0.mk (blk_below (zz85) hb);clear hb hbox hg;have hnb61:=NB350_351.out;have hnc61:=NB351_350.out;have hcz62_0:w60.cell? ⟨gb350,0,none⟩ = some (.slice A0_0 l0_0.length c0_0):=(blk_cell BK350.out 0).trans rfl;have hcz62_1:w60.cell? ⟨gb350,1,none⟩ = some (.slice A0_1 l0_1.length c0_1):=(blk_cell BK350.out 1).trans rfl;have hfz62_0:=blk_frozen BK350.out 0;have hfz62_1:=blk_frozen BK350.out 1)|((with_reducible refine gate_callee (f:=28) rfl ?_);refine goesL_ (some 15) rfl rfl Try.func28 (zz0) rfl #[.agg #[.slice A0_0 l0_0.length c0_0,.slice A0_1 l0_1.length c0_1]] rfl (zz16) ?_;(with_reducible refine (U39.calls k _ _ l0_0 _ _ l0_1 t352 _ ?side1 ?side2 ?side3 ?side4 A4.out).mono ?_);(case side1=>exact zz147);(case side2=>exact zz148);(case side3=>exact zz149);(case side4=>exact zz150);rintro e w63 ⟨rfl,hb⟩;refine ⟨_,rfl,?_⟩;replace BK350:=Aside0.mk (blk_below (zz85) hb);replace BK351:=Aside0.mk (blk_below (zz87) hb);replace HB:=Aside0.mk (below_step (zz88) hb);(try clear hb);(try clear hb2);(try clear hk);(try clear hi);have hcz64_0:w63.cell? ⟨gb351,0,none⟩ = some (.slice A2_0 l2_0.length c2_0):=(blk_cell BK351.out 0).trans rfl;have hcz64_1:w63.cell? ⟨gb351,1,none⟩ = some (.slice A2_1 l2_1.length c2_1):=(blk_cell BK351.out 1).trans rfl;have hcz64_2:w63.cell? ⟨gb351,2,none⟩ = some (.slice A2_2 l2_2.length c2_2):=(blk_cell BK351.out 2).trans rfl;have hfz64_0:=blk_frozen BK351.out 0;have hfz64_1:=blk_frozen BK351.out 1;have hfz64_2:=blk_frozen BK351.out 2;have hcz65_0:w63.cell? ⟨gb350,0,none⟩ = some (.slice A0_0 l0_0.length c0_0):=(blk_cell BK350.out 0).trans rfl;have hcz65_1:w63.cell? ⟨gb350,1,none⟩ = some (.slice A0_1 l0_1.length c0_1):=(blk_cell BK350.out 1).trans rfl;have hfz65_0:=blk_frozen BK350.out 0;have hfz65_1:=blk_frozen BK350.out 1)|((with_reducible refine gate_callee (f:=29) rfl ?_);refine goesL_ (some 32) rfl rfl Try.func29 (zz0) rfl #[.slice A1 l1.length c1,.int .i64 (l0_0.length:Int),.int .i64 (-1)] rfl (zz16) ?_;(with_reducible refine (U9.calls k _ _ l1 (l0_0.length:Int) (-1) t353 _ ?side1 ?side2 A13.out).mono ?_);(case side1=>exact zz153);(case side2=>exact HC1.out);rintro e w66 ⟨rfl,hb⟩;refine ⟨_,rfl,?_⟩;replace BK350:=Aside0.mk (blk_below (zz85) hb);replace BK351:=Aside0.mk (blk_below (zz87) hb);replace HB:=Aside0.mk (below_step (zz88) hb);(try clear hb);(try clear hb2);(try clear hk);(try clear hi)))
     go_ret2
     exact ⟨_,zz6,(Kd.V_nil _ _ _ _ _),zz88⟩
   ·rw [if_neg c12] at H;have c12b0:=beq_eq_false_iff_ne.mpr c12;have c12b1:=bne_iff_ne.mpr c12;have c12b2:(l1.length == l2_1.length) = false:=zz89;simp only [Option.some.injEq,Prod.mk.injEq] at H;obtain ⟨rfl,rfl⟩:=H;go_enter Try.func14,Try.ntmps14
    go_wp2_with (first|((with_reducible refine gate_dst (N:=3) rfl ?_);refine box_event ?hg (N:=3) ?hd (cs:=#[.slice A0_0 l0_0.length c0_0,.slice A0_1 l0_1.length c0_1]) (t:=24) ?hr ?_;(case hd=>rfl);(case hg=>rfl);(case hr=>exact zz146);intro gb350 hg w67 hbox hb;have BK350:=Aside0.mk (hbox);have GW350:=Aside0.mk ((by rw [hg];exact (below_size (zz5)):w.heap.size≤gb350));have GE350:=Aside0.mk ((by rw [hg];exact (below_size (zz5)):w.heap.size≤gb350));replace HB:=Aside0.mk (below_step (zz5) hb);clear hb hbox hg)|((with_reducible refine gate_dst (N:=5) rfl ?_);refine box_event ?hg (N:=5) ?hd (cs:=#[.slice A2_0 l2_0.length c2_0,.slice A2_1 l2_1.length c2_1,.slice A2_2 l2_2.length c2_2]) (t:=36) ?hr ?_;(case hd=>rfl);(case hg=>rfl);(case hr=>exact zz146);intro gb351 hg w68 hbox hb;have BK351:=Aside0.mk (hbox);have GW351:=Aside0.mk ((by rw [hg];exact (below_size (zz86)):w.heap.size≤gb351));have GE351:=Aside0.mk ((by rw [hg];exact (below_size (zz86)):w.heap.size≤gb351));replace HB:=Aside0.mk (below_step (zz86) hb);have NB350_351:=Aside0.mk ((by rw [hg];exact Nat.ne_of_lt (blk_lt (g:=gb350) (o:=.cells #[.slice A0_0 l0_0.length c0_0,.slice A0_1 l0_1.length c0_1] 24 (0,0)) (zz85)):gb350 ≠ gb351));have NB351_350:=Aside0.mk ((by rw [hg];exact Nat.ne_of_gt (blk_lt (g:=gb350) (o:=.cells #[.slice A0_0 l0_0.length c0_0,.slice A0_1 l0_1.length c0_1] 24 (0,0)) (zz85)):gb351 ≠ gb350));replace BK350:=Aside0.mk (blk_below (zz85) hb);clear hb hbox hg;have hnb69:=NB350_351.out;have hnc69:=NB351_350.out;have hcz70_0:w68.cell? ⟨gb350,0,none⟩ = some (.slice A0_0 l0_0.length c0_0):=(blk_cell BK350.out 0).trans rfl;have hcz70_1:w68.cell? ⟨gb350,1,none⟩ = some (.slice A0_1 l0_1.length c0_1):=(blk_cell BK350.out 1).trans rfl;have hfz70_0:=blk_frozen BK350.out 0;have hfz70_1:=blk_frozen BK350.out 1)|((with_reducible refine gate_callee (f:=28) rfl ?_);refine goesL_ (some 15) rfl rfl Try.func28 (zz0) rfl #[.agg #[.slice A0_0 l0_0.length c0_0,.slice A0_1 l0_1.length c0_1]] rfl (zz16) ?_;(with_reducible refine (U39.calls k _ _ l0_0 _ _ l0_1 t352 _ ?side1 ?side2 ?side3 ?side4 A4.out).mono ?_);(case side1=>exact zz147);(case side2=>exact zz148);(case side3=>exact zz149);(case side4=>exact zz150);rintro e w71 ⟨rfl,hb⟩;refine ⟨_,rfl,?_⟩;replace BK350:=Aside0.mk (blk_below (zz85) hb);replace BK351:=Aside0.mk (blk_below (zz87) hb);replace HB:=Aside0.mk (below_step (zz88) hb);(try clear hb);(try clear hb2);(try clear hk);(try clear hi);have hcz72_0:w71.cell? ⟨gb351,0,none⟩ = some (.slice A2_0 l2_0.length c2_0):=(blk_cell BK351.out 0).trans rfl;have hcz72_1:w71.cell? ⟨gb351,1,none⟩ = some (.slice A2_1 l2_1.length c2_1):=(blk_cell BK351.out 1).trans rfl;have hcz72_2:w71.cell? ⟨gb351,2,none⟩ = some (.slice A2_2 l2_2.length c2_2):=(blk_cell BK351.out 2).trans rfl;have hfz72_0:=blk_frozen BK351.out 0;have hfz72_1:=blk_frozen BK351.out 1;have hfz72_2:=blk_frozen BK351.out 2))
    go_ret2
    exact ⟨_,zz6,(Kd.V_nil _ _ _ _ _),zz88⟩
 ·rw [if_neg c5] at H;have c5b0:=beq_eq_false_iff_ne.mpr c5;have c5b1:=bne_iff_ne.mpr c5;simp only [Option.some.injEq,Prod.mk.injEq] at H;obtain ⟨rfl,rfl⟩:=H;go_enter Try.func14,Try.ntmps14
  go_wp2_with (first|((with_reducible refine gate_dst (N:=3) rfl ?_);refine box_event ?hg (N:=3) ?hd (cs:=#[.slice A0_0 l0_0.length c0_0,.slice A0_1 l0_1.length c0_1]) (t:=24) ?hr ?_;(case hd=>rfl);(case hg=>rfl);(case hr=>exact zz146);intro gb350 hg w73 hbox hb;have BK350:=Aside0.mk (hbox);have GW350:=Aside0.mk ((by rw [hg];exact (below_size (zz5)):w.heap.size≤gb350));have GE350:=Aside0.mk ((by rw [hg];exact (below_size (zz5)):w.heap.size≤gb350));replace HB:=Aside0.mk (below_step (zz5) hb);clear hb hbox hg)|((with_reducible refine gate_dst (N:=5) rfl ?_);refine box_event ?hg (N:=5) ?hd (cs:=#[.slice A2_0 l2_0.length c2_0,.slice A2_1 l2_1.length c2_1,.slice A2_2 l2_2.length c2_2]) (t:=36) ?hr ?_;(case hd=>rfl);(case hg=>rfl);(case hr=>exact zz146);intro gb351 hg w74 hbox hb;have BK351:=Aside0.mk (hbox);have GW351:=Aside0.mk ((by rw [hg];exact (below_size (zz86)):w.heap.size≤gb351));have GE351:=Aside0.mk ((by rw [hg];exact (below_size (zz86)):w.heap.size≤gb351));replace HB:=Aside0.mk (below_step (zz86) hb);have NB350_351:=Aside0.mk ((by rw [hg];exact Nat.ne_of_lt (blk_lt (g:=gb350) (o:=.cells #[.slice A0_0 l0_0.length c0_0,.slice A0_1 l0_1.length c0_1] 24 (0,0)) (zz85)):gb350 ≠ gb351));have NB351_350:=Aside0.mk ((by rw [hg];exact Nat.ne_of_gt (blk_lt (g:=gb350) (o:=.cells #[.slice A0_0 l0_0.length c0_0,.slice A0_1 l0_1.length c0_1] 24 (0,0)) (zz85)):gb351 ≠ gb350));replace BK350:=Aside0.mk (blk_below (zz85) hb);clear hb hbox hg;have hnb75:=NB350_351.out;have hnc75:=NB351_350.out;have hcz76_0:w74.cell? ⟨gb350,0,none⟩ = some (.slice A0_0 l0_0.length c0_0):=(blk_cell BK350.out 0).trans rfl;have hcz76_1:w74.cell? ⟨gb350,1,none⟩ = some (.slice A0_1 l0_1.length c0_1):=(blk_cell BK350.out 1).trans rfl;have hfz76_0:=blk_frozen BK350.out 0;have hfz76_1:=blk_frozen BK350.out 1)|((with_reducible refine gate_callee (f:=28) rfl ?_);refine goesL_ (some 15) rfl rfl Try.func28 (zz0) rfl #[.agg #[.slice A0_0 l0_0.length c0_0,.slice A0_1 l0_1.length c0_1]] rfl (zz16) ?_;(with_reducible refine (U39.calls k _ _ l0_0 _ _ l0_1 t352 _ ?side1 ?side2 ?side3 ?side4 A4.out).mono ?_);(case side1=>exact zz147);(case side2=>exact zz148);(case side3=>exact zz149);(case side4=>exact zz150);rintro e w77 ⟨rfl,hb⟩;refine ⟨_,rfl,?_⟩;replace BK350:=Aside0.mk (blk_below (zz85) hb);replace BK351:=Aside0.mk (blk_below (zz87) hb);replace HB:=Aside0.mk (below_step (zz88) hb);(try clear hb);(try clear hb2);(try clear hk);(try clear hi)))
  go_ret2
  exact ⟨_,zz6,(Kd.V_nil _ _ _ _ _),zz88⟩
def U29.l0:Nat→List Int→List Int→Int→Int→Option (Bool)
 | 0,_,_,_,_=>none
 | k+1,x0,x5,x6,x7=>if x7 < x6 then (if 0≤x7 then (if x7 < (x5.length:Int) then (if (rd x5 x7) < 1 then (some false) else (if x7 > 0 then (if 0≤(wrap64 (x7 - 1)) then (if (wrap64 (x7 - 1)) < (x0.length:Int) then (if (rd x5 x7)≤(rd x0 (wrap64 (x7 - 1))) then (some false) else (U29.l0 k x0 x5 x6 (wrap64 (x7+1)))) else (none)) else (none)) else (U29.l0 k x0 x5 x6 (wrap64 (x7+1))))) else (none)) else (none)) else (some true)
def U29.f (k:Nat) (l0:List Int):Option (Bool):=U29.l0 k l0 l0 (l0.length:Int) 0
theorem zm15_1 {P:Prop} (h:P:=by repeat' first|(with_reducible first|exact ih0 ..|exact LeO.refl _|exact LeO.none _|refine LeO.ite ?_ ?_|refine LeO.bind ?_ (fun _=>?_))|exact ih0 ..|exact LeO.none _|refine LeO.ite ?_ ?_|refine LeO.bind ?_ (fun _=>?_)):P:=h
theorem U29.mono_l:∀ k,(∀ y0 y1 y2 y3,LeO (U29.l0 k y0 y1 y2 y3) (U29.l0 (k+1) y0 y1 y2 y3))
 | 0=>fun _ _ _ _ r h=>by simp [U29.l0] at h
 | k+1=>by
  have ih0:=U29.mono_l k
  ·intro y0 y1 y2 y3;unfold U29.l0
   exact zm15_1
theorem U29.mono:∀ a0 k,LeO (U29.f k a0) (U29.f (k+1) a0):=by
 intro a0 k;have ih0:=U29.mono_l k;unfold U29.f
 exact zm15_1
set_option maxHeartbeats 8000000 in
set_option maxRecDepth 100000 in
theorem U29.calls (k:Nat) (A0:Option Addr) (c0:Nat) (l0:List Int) (r:Bool) (w:World) (hr0:Kd.C (Kd.int .i64) w A0 l0.length l0) (hc0:l0.length≤c0) (h:U29.f k l0 = some r) :
  Calls Try.prog 63 #[.slice A0 l0.length c0] w fun e w'=>e = .returned (.bool r)∧Drawn0 w w':=by
 have HR0:=Aside0.mk hr0;have HC0:=Aside0.mk hc0;clear hr0 hc0;have H:(U29.l0 k l0 l0 (l0.length:Int) 0) = some r:=h;clear h;have H':=Aside0.mk H;clear H;go_enter Try.func63,Try.ntmps63
 go_wp2
 go_loopg [7] k (fun kq v7 w'=>∃ (x7_1:Int),v7 = .int .i64 x7_1∧Aside0 (U29.l0 kq l0 l0 (l0.length:Int) x7_1 = some r)∧Aside0 (kq≤k)∧Drawn0 w w')
 case atStart=>exact ⟨(0),(zz2),H',⟨Nat.le_refl _⟩,zz3⟩
 case round =>
  clear H';obtain ⟨x7_1,rfl,HA,HK1,⟨m1,rfl⟩⟩:=hrel
  cases gk with
  | zero=>exact absurd HA.out (by simp [U29.l0])
  | succ k1 =>
   have H:=HA.out;clear HA;simp only [U29.l0] at H;by_cases c2:x7_1 < (l0.length:Int)
   ·rw [if_pos c2] at H;have c2b0:=decide_eq_true c2;clear c2;by_cases c3:0≤x7_1
    ·rw [if_pos c3] at H;have c3b0:=decide_eq_true c3;clear c3;by_cases c4:x7_1 < (l0.length:Int)
     ·rw [if_pos c4] at H;have c4b0:=decide_eq_true c4;clear c4;by_cases c5:(rd l0 x7_1) < 1
      ·rw [if_pos c5] at H;have c5b0:=decide_eq_true c5;clear c5;obtain rfl:=Option.some.inj H;have p371:0≤(x7_1:Int):=of_decide_eq_true (zz11);have q371:x7_1 < (l0.length:Int):=of_decide_eq_true (zz11);obtain ⟨ad371,e371,hx371_0⟩:=Kd.at_int HR0.out x7_1 p371 q371
       cases e371
       replace p371:=eq_true p371;replace q371:=eq_true q371
       go_wp2
       go_ret
       exact ⟨zz2,zz3⟩
      ·rw [if_neg c5] at H;have c5b0:=decide_eq_false c5;clear c5;by_cases c6:x7_1 > 0
       ·rw [if_pos c6] at H;have c6b0:=decide_eq_true c6;clear c6;obtain ⟨ji7,hji7⟩:∃ j_:Int,(wrap64 (x7_1 - 1)) = j_:=⟨_,rfl⟩
        replace H:(if 0≤(ji7) then (if (ji7) < (l0.length:Int) then (if (rd l0 x7_1)≤(rd l0 (ji7)) then (some false) else (U29.l0 k1 l0 l0 (l0.length:Int) (wrap64 (x7_1+1)))) else (none)) else (none)) = some r:=by first|(rw [hji7] at H;exact H)|(simp only [hji7] at H ⊢;exact H)
        have hji7w:(IntKind.i64.wrap (x7_1 - 1)) = ji7:=(i64_w _).trans hji7;by_cases c8:0≤(ji7)
        ·rw [if_pos c8] at H;have c8b0:=decide_eq_true c8;clear c8;by_cases c9:(ji7) < (l0.length:Int)
         ·rw [if_pos c9] at H;have c9b0:=decide_eq_true c9;clear c9;by_cases c10:(rd l0 x7_1)≤(rd l0 (ji7))
          ·rw [if_pos c10] at H;have c10b0:=decide_eq_true c10;clear c10;obtain rfl:=Option.some.inj H;have p371:0≤(x7_1:Int):=of_decide_eq_true (zz11);have q371:x7_1 < (l0.length:Int):=of_decide_eq_true (zz11);obtain ⟨ad371,e371,hx371_0⟩:=Kd.at_int HR0.out x7_1 p371 q371
           cases e371
           replace p371:=eq_true p371;replace q371:=eq_true q371;have p372:0≤((ji7):Int):=of_decide_eq_true (zz11);have q372:(ji7) < (l0.length:Int):=of_decide_eq_true (zz11);obtain ⟨ad372,e372,hx372_0⟩:=Kd.at_int HR0.out (ji7) p372 q372;obtain rfl:ad371 = ad372:=(by injection e372);replace p372:=eq_true p372;replace q372:=eq_true q372
           go_wp2
           go_ret
           exact ⟨by first|rfl|(simp;done)|(simp only [← hji7]<;>(first|rfl|simp))|(simp [*];done),zz3⟩
          ·rw [if_neg c10] at H;have c10b0:=decide_eq_false c10;clear c10;have H':=Aside0.mk H;clear H;have p371:0≤(x7_1:Int):=of_decide_eq_true (zz11);have q371:x7_1 < (l0.length:Int):=of_decide_eq_true (zz11);obtain ⟨ad371,e371,hx371_0⟩:=Kd.at_int HR0.out x7_1 p371 q371
           cases e371
           replace p371:=eq_true p371;replace q371:=eq_true q371;have p372:0≤((ji7):Int):=of_decide_eq_true (zz11);have q372:(ji7) < (l0.length:Int):=of_decide_eq_true (zz11);obtain ⟨ad372,e372,hx372_0⟩:=Kd.at_int HR0.out (ji7) p372 q372;obtain rfl:ad371 = ad372:=(by injection e372);replace p372:=eq_true p372;replace q372:=eq_true q372
           go_wp2
           go_roundg k1
           case measure=>have:=HK1.out;omega
           case rel=>exact ⟨(wrap64 (x7_1+1)),(zz2),H',⟨zz12⟩,zz3⟩
         ·rw [if_neg c9] at H
          exact absurd H (zz14)
        ·rw [if_neg c8] at H
         exact absurd H (zz14)
       ·rw [if_neg c6] at H;have c6b0:=decide_eq_false c6;clear c6;have H':=Aside0.mk H;clear H;have p371:0≤(x7_1:Int):=of_decide_eq_true (zz11);have q371:x7_1 < (l0.length:Int):=of_decide_eq_true (zz11);obtain ⟨ad371,e371,hx371_0⟩:=Kd.at_int HR0.out x7_1 p371 q371
        cases e371
        replace p371:=eq_true p371;replace q371:=eq_true q371
        go_wp2
        go_roundg k1
        case measure=>have:=HK1.out;omega
        case rel=>exact ⟨(wrap64 (x7_1+1)),(zz2),H',⟨zz12⟩,zz3⟩
     ·rw [if_neg c4] at H
      exact absurd H (zz14)
    ·rw [if_neg c3] at H
     exact absurd H (zz14)
   ·rw [if_neg c2] at H;have c2b0:=decide_eq_false c2;clear c2;obtain rfl:=Option.some.inj H
    go_wp2
    go_ret
    exact ⟨zz2,zz3⟩
def U30.l0:Nat→List (List Int)→Int→Int→List Int→List Int→List (List Int)→Option (Bool)
 | 0,_,_,_,_,_,_=>none
 | k+1,x13,x14,x15,x374000,x374001,x374002=>if x15 < x14 then (if 0≤x15 then (if x15 < (x13.length:Int) then (if ((rd_L1 x13 x15).length:Int) = (x374001.length:Int) then (U30.l0 k x13 x14 (wrap64 (x15+1)) x374000 x374001 x374002) else (some false)) else (none)) else (none)) else (some true)
def U30.f (k:Nat) (l0_0:List Int) (l0_1:List Int) (l0_2:List (List Int)):Option (Bool):=if (l0_2.length:Int) = (l0_0.length:Int) then (U30.l0 k l0_2 (l0_2.length:Int) 0 l0_0 l0_1 l0_2) else (some false)
theorem U30.mono_l:∀ k,(∀ y0 y1 y2 y3 y4 y5,LeO (U30.l0 k y0 y1 y2 y3 y4 y5) (U30.l0 (k+1) y0 y1 y2 y3 y4 y5))
 | 0=>fun _ _ _ _ _ _ r h=>by simp [U30.l0] at h
 | k+1=>by
  have ih0:=U30.mono_l k
  ·intro y0 y1 y2 y3 y4 y5;unfold U30.l0
   exact zm15_1
theorem U30.mono:∀ a0 a1 a2 k,LeO (U30.f k a0 a1 a2) (U30.f (k+1) a0 a1 a2):=by
 intro a0 a1 a2 k;have ih0:=U30.mono_l k;unfold U30.f
 exact zm15_1
set_option maxHeartbeats 8000000 in
set_option maxRecDepth 100000 in
theorem U30.calls (k:Nat) (A0_0:Option Addr) (c0_0:Nat) (l0_0:List Int) (A0_1:Option Addr) (c0_1:Nat) (l0_1:List Int) (A0_2:Option Addr) (c0_2:Nat) (l0_2:List (List Int)) (r:Bool) (w:World) (hr0_0:Kd.C (Kd.int .i64) w A0_0 l0_0.length l0_0) (hc0_0:l0_0.length≤c0_0) (hr0_1:Kd.C (Kd.int .i64) w A0_1 l0_1.length l0_1) (hc0_1:l0_1.length≤c0_1) (hr0_2:Kd.C (Kd.slice 3 (Kd.int .i64)) w A0_2 l0_2.length l0_2) (hc0_2:l0_2.length≤c0_2) (h:U30.f k l0_0 l0_1 l0_2 = some r) :
  Calls Try.prog 64 #[.agg #[.slice A0_0 l0_0.length c0_0,.slice A0_1 l0_1.length c0_1,.slice A0_2 l0_2.length c0_2]] w fun e w'=>e = .returned (.bool r)∧Below w.heap.size w w':=by
 have hu36:=Try.underlying36;have HR0_0:=Aside0.mk hr0_0;have HC0_0:=Aside0.mk hc0_0;clear hr0_0 hc0_0;have HR0_1:=Aside0.mk hr0_1;have HC0_1:=Aside0.mk hc0_1;clear hr0_1 hc0_1;have HR0_2:=Aside0.mk hr0_2;have HC0_2:=Aside0.mk hc0_2;clear hr0_2 hc0_2;have HB:=Aside0.mk (Below.refl w.heap.size w);have H:(if (l0_2.length:Int) = (l0_0.length:Int) then (U30.l0 k l0_2 (l0_2.length:Int) 0 l0_0 l0_1 l0_2) else (some false)) = some r:=h;clear h;by_cases c2:(l0_2.length:Int) = (l0_0.length:Int)
 ·rw [if_pos c2] at H;have c2b0:=beq_iff_eq.mpr c2;have c2b1:=bne_eq_false_iff_eq.mpr c2;have c2b2:(l0_2.length == l0_0.length) = true:=zz72;clear c2;have H':=Aside0.mk H;clear H;go_enter Try.func64,Try.ntmps64
  go_wp2_with (first|((with_reducible refine gate_dst (N:=1) rfl ?_);refine box_event ?hg (N:=1) ?hd (cs:=#[.slice A0_0 l0_0.length c0_0,.slice A0_1 l0_1.length c0_1,.slice A0_2 l0_2.length c0_2]) (t:=36) ?hr ?_;(case hd=>rfl);(case hg=>rfl);(case hr=>exact zz146);intro gb373 hg w3 hbox hb;have BK373:=Aside0.mk (hbox);have GW373:=Aside0.mk ((by rw [hg];exact (below_size (zz5)):w.heap.size≤gb373));have GE373:=Aside0.mk ((by rw [hg];exact (below_size (zz5)):w.heap.size≤gb373));replace HB:=Aside0.mk (below_step (zz5) hb);clear hb hbox hg;have hcz4_0:w3.cell? ⟨gb373,0,none⟩ = some (.slice A0_0 l0_0.length c0_0):=(blk_cell BK373.out 0).trans rfl;have hcz4_1:w3.cell? ⟨gb373,1,none⟩ = some (.slice A0_1 l0_1.length c0_1):=(blk_cell BK373.out 1).trans rfl;have hcz4_2:w3.cell? ⟨gb373,2,none⟩ = some (.slice A0_2 l0_2.length c0_2):=(blk_cell BK373.out 2).trans rfl;have hfz4_0:=blk_frozen BK373.out 0;have hfz4_1:=blk_frozen BK373.out 1;have hfz4_2:=blk_frozen BK373.out 2))
  go_loopg [15] k (fun kq v15 w'=>∃ (x15_1:Int),v15 = .int .i64 x15_1∧Aside0 (U30.l0 kq l0_2 (l0_2.length:Int) x15_1 l0_0 l0_1 l0_2 = some r)∧Aside0 (kq≤k)∧Aside0 (w'.heap[gb373]? = some (.cells #[(.slice A0_0 l0_0.length c0_0),(.slice A0_1 l0_1.length c0_1),(.slice A0_2 l0_2.length c0_2)] 36 (0,0)))∧Aside0 (Below w.heap.size w w'))
  case atStart=>exact ⟨(0),(zz2),H',⟨Nat.le_refl _⟩,⟨by (with_reducible repeat (first|refine blk_drewN ?_ _|refine blk_drew ?_|refine blk_alloc ?_ _));exact BK373.out⟩,⟨zz93⟩⟩
  case round =>
   clear H'
   (try clear c2);(try clear c2b0);(try clear c2b1);(try clear c2b2);(try clear p2);(try clear hcz4_0);(try clear hcz4_1);(try clear hcz4_2);(try clear hfz4_0);(try clear hfz4_1);(try clear hfz4_2)
   obtain ⟨x15_1,rfl,HA,HK1,BK373,HB⟩:=hrel
   cases gk with
   | zero=>exact absurd HA.out (by simp [U30.l0])
   | succ k1 =>
    have H:=HA.out;clear HA;simp only [U30.l0] at H;by_cases c5:x15_1 < (l0_2.length:Int)
    ·rw [if_pos c5] at H;have c5b0:=decide_eq_true c5;clear c5;by_cases c6:0≤x15_1
     ·rw [if_pos c6] at H;have c6b0:=decide_eq_true c6;clear c6;by_cases c7:x15_1 < (l0_2.length:Int)
      ·rw [if_pos c7] at H;have c7b0:=decide_eq_true c7;clear c7;by_cases c8:((rd_L1 l0_2 x15_1).length:Int) = (l0_1.length:Int)
       ·rw [if_pos c8] at H;have c8b0:=beq_iff_eq.mpr c8;have c8b1:=bne_eq_false_iff_eq.mpr c8;have c8b2:((rd_L1 l0_2 x15_1).length == l0_1.length) = true:=zz8;clear c8;have H':=Aside0.mk H;clear H;have p374:0≤(x15_1:Int):=of_decide_eq_true (zz11);have q374:x15_1 < (l0_2.length:Int):=of_decide_eq_true (zz11);obtain ⟨ad374,A374_0,c374_0,e374,hx374_0,hl374_0,hi374_0⟩:=at_L1 HR0_2.out x15_1 p374 q374
        cases e374
        replace hx374_0:=(HB.out.cell (World.block_lt_of_cell? w _ hx374_0)).trans hx374_0;have HR374_0:=Aside0.mk hi374_0;have HC374_0:=Aside0.mk hl374_0;clear hi374_0 hl374_0;replace p374:=eq_true p374;replace q374:=eq_true q374;have hcz9_0:wr.cell? ⟨gb373,0,none⟩ = some (.slice A0_0 l0_0.length c0_0):=(blk_cell BK373.out 0).trans rfl;have hcz9_1:wr.cell? ⟨gb373,1,none⟩ = some (.slice A0_1 l0_1.length c0_1):=(blk_cell BK373.out 1).trans rfl;have hcz9_2:wr.cell? ⟨gb373,2,none⟩ = some (.slice (some ad374) l0_2.length c0_2):=(blk_cell BK373.out 2).trans rfl;have hfz9_0:=blk_frozen BK373.out 0;have hfz9_1:=blk_frozen BK373.out 1;have hfz9_2:=blk_frozen BK373.out 2
        go_wp2
        go_roundg k1
        case measure=>have:=HK1.out;omega
        case rel=>exact ⟨(wrap64 (x15_1+1)),(zz2),H',⟨zz12⟩,⟨by (with_reducible repeat (first|refine blk_drewN ?_ _|refine blk_drew ?_|refine blk_alloc ?_ _));exact BK373.out⟩,⟨zz93⟩⟩
       ·rw [if_neg c8] at H;have c8b0:=beq_eq_false_iff_ne.mpr c8;have c8b1:=bne_iff_ne.mpr c8;have c8b2:((rd_L1 l0_2 x15_1).length == l0_1.length) = false:=zz8;obtain rfl:=Option.some.inj H;have p374:0≤(x15_1:Int):=of_decide_eq_true (zz11);have q374:x15_1 < (l0_2.length:Int):=of_decide_eq_true (zz11);obtain ⟨ad374,A374_0,c374_0,e374,hx374_0,hl374_0,hi374_0⟩:=at_L1 HR0_2.out x15_1 p374 q374
        cases e374
        replace hx374_0:=(HB.out.cell (World.block_lt_of_cell? w _ hx374_0)).trans hx374_0;have HR374_0:=Aside0.mk hi374_0;have HC374_0:=Aside0.mk hl374_0;clear hi374_0 hl374_0;replace p374:=eq_true p374;replace q374:=eq_true q374;have hcz10_0:wr.cell? ⟨gb373,0,none⟩ = some (.slice A0_0 l0_0.length c0_0):=(blk_cell BK373.out 0).trans rfl;have hcz10_1:wr.cell? ⟨gb373,1,none⟩ = some (.slice A0_1 l0_1.length c0_1):=(blk_cell BK373.out 1).trans rfl;have hcz10_2:wr.cell? ⟨gb373,2,none⟩ = some (.slice (some ad374) l0_2.length c0_2):=(blk_cell BK373.out 2).trans rfl;have hfz10_0:=blk_frozen BK373.out 0;have hfz10_1:=blk_frozen BK373.out 1;have hfz10_2:=blk_frozen BK373.out 2
        go_wp2
        go_ret
        exact ⟨zz6,zz93⟩
      ·rw [if_neg c7] at H
       exact absurd H (zz14)
     ·rw [if_neg c6] at H
      exact absurd H (zz14)
    ·rw [if_neg c5] at H;have c5b0:=decide_eq_false c5;clear c5;obtain rfl:=Option.some.inj H
     go_wp2
     go_ret
     exact ⟨zz6,zz93⟩
 ·rw [if_neg c2] at H;have c2b0:=beq_eq_false_iff_ne.mpr c2;have c2b1:=bne_iff_ne.mpr c2;have c2b2:(l0_2.length == l0_0.length) = false:=zz72;obtain rfl:=Option.some.inj H;go_enter Try.func64,Try.ntmps64
  go_wp2_with (first|((with_reducible refine gate_dst (N:=1) rfl ?_);refine box_event ?hg (N:=1) ?hd (cs:=#[.slice A0_0 l0_0.length c0_0,.slice A0_1 l0_1.length c0_1,.slice A0_2 l0_2.length c0_2]) (t:=36) ?hr ?_;(case hd=>rfl);(case hg=>rfl);(case hr=>exact zz146);intro gb373 hg w11 hbox hb;have BK373:=Aside0.mk (hbox);have GW373:=Aside0.mk ((by rw [hg];exact (below_size (zz5)):w.heap.size≤gb373));have GE373:=Aside0.mk ((by rw [hg];exact (below_size (zz5)):w.heap.size≤gb373));replace HB:=Aside0.mk (below_step (zz5) hb);clear hb hbox hg;have hcz12_0:w11.cell? ⟨gb373,0,none⟩ = some (.slice A0_0 l0_0.length c0_0):=(blk_cell BK373.out 0).trans rfl;have hcz12_1:w11.cell? ⟨gb373,1,none⟩ = some (.slice A0_1 l0_1.length c0_1):=(blk_cell BK373.out 1).trans rfl;have hcz12_2:w11.cell? ⟨gb373,2,none⟩ = some (.slice A0_2 l0_2.length c0_2):=(blk_cell BK373.out 2).trans rfl;have hfz12_0:=blk_frozen BK373.out 0;have hfz12_1:=blk_frozen BK373.out 1;have hfz12_2:=blk_frozen BK373.out 2))
  go_ret
  exact ⟨zz6,zz93⟩
end Go.Proofs.Ytmcegphcjphdcaa.QA
