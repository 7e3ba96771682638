import Derived.Test.YtmcegphcjphdcaaCOQAx0
import Derived.Test.YtmcegphcjphdcaaCOQAx2
import Derived.Test.YtmcegphcjphdcaaCOQAx6
import Derived.Test.YtmcegphcjphdcaaCOQAx7
import Derived.Test.YtmcegphcjphdcaaCOQAx11
import Derived.Test.YtmcegphcjphdcaaCOQAx15
import Derived.Test.YtmcegphcjphdcaaCOQAx16
import Derived.Test.YtmcegphcjphdcaaCOQAx17
namespace Go.Proofs.Ytmcegphcjphdcaa.QA
open Go.RowKit Go.Proofs.YtmcegphcjphdcaaW.PrintWords Go.Proofs.YtmcegphcjphdcaaW.PrintLast Go.Proofs.YtmcegphcjphdcaaW.PrintMore
attribute [local go_sem] max2_int min2_int max_two min_two max_three min_three max_four min_four
set_option linter.unusedVariables false
set_option linter.unusedSimpArgs false
def examboardref28_Total.f (k:Nat) (l0_0:List Int) (l0_1:List Int) (l1:List (S56)) (l2_0:List Int) (l2_1:List Int) (l2_2:List (List Int)):Option (List Int × Int):=(examboardref18_Valid.f k l0_0 l0_1).bind fun t419=>(if t419 = 0 then (if (l1.length:Int) > 60 then (some (([]:List Int),5)) else (if (l1.length:Int) = (l2_1.length:Int) then ((examboardref28_valid.f k l1 (l0_0.length:Int) (-1)).bind fun t420=>(if t420 = 0 then ((examboardref28_categories.f k l1).bind fun t421=>((examboardref24_Valid.f k l2_0 l2_1 l2_2 t421).bind fun t424=>(if t424 = 0 then ((examboardref28_total.f k l0_0 l0_1 l1 l2_0 l2_1 l2_2).bind fun t425=>(some (t425,0))) else (some (([]:List Int),t424))))) else (some (([]:List Int),t420)))) else (some (([]:List Int),1)))) else (some (([]:List Int),t419)))
theorem examboardref28_Total.mono:∀ a0 a1 a2 a3 a4 a5 k,LeO (examboardref28_Total.f k a0 a1 a2 a3 a4 a5) (examboardref28_Total.f (k+1) a0 a1 a2 a3 a4 a5):=by
 intro a0 a1 a2 a3 a4 a5 k
 unfold examboardref28_Total.f
 repeat' first
   | (with_reducible exact examboardref18_Valid.mono _ _ _)
   | (with_reducible exact examboardref24_Valid.mono _ _ _ _ _)
   | (with_reducible exact examboardref28_categories.mono _ _)
   | (with_reducible exact examboardref28_total.mono _ _ _ _ _ _ _)
   | (with_reducible exact examboardref28_valid.mono _ _ _ _)
   | (with_reducible exact LeO.refl _)
   | (with_reducible exact LeO.none _)
   | (with_reducible refine LeO.ite ?_ ?_)
   | (with_reducible refine LeO.bind ?_ (fun _=>?_))
   | exact examboardref18_Valid.mono _ _ _
   | exact examboardref24_Valid.mono _ _ _ _ _
   | exact examboardref28_categories.mono _ _
   | exact examboardref28_total.mono _ _ _ _ _ _ _
   | exact examboardref28_valid.mono _ _ _ _
   | exact LeO.none _
   | refine LeO.ite ?_ ?_
   | refine LeO.bind ?_ (fun _=>?_)
set_option maxHeartbeats 8000000 in
set_option maxRecDepth 100000 in
theorem examboardref28_Total.calls (k:Nat) (A0_0:Option Addr) (c0_0:Nat) (l0_0:List Int) (A0_1:Option Addr) (c0_1:Nat) (l0_1:List Int) (A1:Option Addr) (c1:Nat) (l1:List (S56)) (A2_0:Option Addr) (c2_0:Nat) (l2_0:List Int) (A2_1:Option Addr) (c2_1:Nat) (l2_1:List Int) (A2_2:Option Addr) (c2_2:Nat) (l2_2:List (List Int)) (r1:List Int) (r2:Int) (w:World) (hr0_0:Kd.C (Kd.int .i64) w A0_0 l0_0.length l0_0) (hc0_0:l0_0.length≤c0_0) (hr0_1:Kd.C (Kd.int .i64) w A0_1 l0_1.length l0_1) (hc0_1:l0_1.length≤c0_1) (hr1:Kd.C k56 w A1 l1.length l1) (hc1:l1.length≤c1) (hr2_0:Kd.C (Kd.int .i64) w A2_0 l2_0.length l2_0) (hc2_0:l2_0.length≤c2_0) (hr2_1:Kd.C (Kd.int .i64) w A2_1 l2_1.length l2_1) (hc2_1:l2_1.length≤c2_1) (hr2_2:Kd.C (Kd.slice 3 (Kd.int .i64)) w A2_2 l2_2.length l2_2) (hc2_2:l2_2.length≤c2_2) (h:examboardref28_Total.f k l0_0 l0_1 l1 l2_0 l2_1 l2_2 = some (r1,r2)) :
  Calls Try.prog 15 #[.agg #[.slice A0_0 l0_0.length c0_0,.slice A0_1 l0_1.length c0_1],.slice A1 l1.length c1,.agg #[.slice A2_0 l2_0.length c2_0,.slice A2_1 l2_1.length c2_1,.slice A2_2 l2_2.length c2_2]] w fun e w'=>∃ v0_:Value,e = .returned (.tuple #[v0_,.int .i64 r2])∧Kd.R (Kd.int .u32) 65 w' w.heap.size (fun _=>True) v0_ r1∧Below w.heap.size w w':=by
 have hu24:=Try.underlying24
 have hu36:=Try.underlying36
 have HR0_0:=Aside0.mk hr0_0
 have HC0_0:=Aside0.mk hc0_0
 clear hr0_0 hc0_0
 have HR0_1:=Aside0.mk hr0_1
 have HC0_1:=Aside0.mk hc0_1
 clear hr0_1 hc0_1
 have HR1:=Aside0.mk hr1
 have HC1:=Aside0.mk hc1
 clear hr1 hc1
 have HR2_0:=Aside0.mk hr2_0
 have HC2_0:=Aside0.mk hc2_0
 clear hr2_0 hc2_0
 have HR2_1:=Aside0.mk hr2_1
 have HC2_1:=Aside0.mk hc2_1
 clear hr2_1 hc2_1
 have HR2_2:=Aside0.mk hr2_2
 have HC2_2:=Aside0.mk hc2_2
 clear hr2_2 hc2_2
 have HB:=Aside0.mk (Below.refl w.heap.size w)
 have H:((examboardref18_Valid.f k l0_0 l0_1).bind fun t419=>(if t419 = 0 then (if (l1.length:Int) > 60 then (some (([]:List Int),5)) else (if (l1.length:Int) = (l2_1.length:Int) then ((examboardref28_valid.f k l1 (l0_0.length:Int) (-1)).bind fun t420=>(if t420 = 0 then ((examboardref28_categories.f k l1).bind fun t421=>((examboardref24_Valid.f k l2_0 l2_1 l2_2 t421).bind fun t424=>(if t424 = 0 then ((examboardref28_total.f k l0_0 l0_1 l1 l2_0 l2_1 l2_2).bind fun t425=>(some (t425,0))) else (some (([]:List Int),t424))))) else (some (([]:List Int),t420)))) else (some (([]:List Int),1)))) else (some (([]:List Int),t419)))) = some (r1,r2):=h
 clear h
 replace H:=Option.bind_eq_some_iff.mp H
 obtain ⟨t419,A40,H⟩:=H
 replace H:(if t419 = 0 then (if (l1.length:Int) > 60 then (some (([]:List Int),5)) else (if (l1.length:Int) = (l2_1.length:Int) then ((examboardref28_valid.f k l1 (l0_0.length:Int) (-1)).bind fun t420=>(if t420 = 0 then ((examboardref28_categories.f k l1).bind fun t421=>((examboardref24_Valid.f k l2_0 l2_1 l2_2 t421).bind fun t424=>(if t424 = 0 then ((examboardref28_total.f k l0_0 l0_1 l1 l2_0 l2_1 l2_2).bind fun t425=>(some (t425,0))) else (some (([]:List Int),t424))))) else (some (([]:List Int),t420)))) else (some (([]:List Int),1)))) else (some (([]:List Int),t419))) = some (r1,r2):=H
 have A4:=Aside0.mk A40
 clear A40
 by_cases c5:t419 = 0
 ·rw [if_pos c5] at H
  have c5b0:(t419 == 0) = true:=beq_iff_eq.mpr c5
  have c5b1:(t419 != 0) = false:=bne_eq_false_iff_eq.mpr c5
  clear c5
  by_cases c6:(l1.length:Int) > 60
  ·rw [if_pos c6] at H
   have c6b0:decide (60 < (l1.length:Int)) = true:=decide_eq_true c6
   have c6b1:decide (60 < l1.length) = true:=decide_eq_true (zz3)
   clear c6
   simp only [Option.some.injEq,Prod.mk.injEq] at H
   obtain ⟨rfl,rfl⟩:=H
   go_enter Try.func15,Try.ntmps15
   go_wp2_with (first|((with_reducible refine gate_dst (N:=3) rfl ?_);refine box_event ?hg (N:=3) ?hd (cs:=#[.slice A0_0 l0_0.length c0_0,.slice A0_1 l0_1.length c0_1]) (t:=24) ?hr ?_;(case hd=>rfl);(case hg=>rfl);(case hr=>exact zz122);intro gb417 hg w7 hbox hb;have BK417:=Aside0.mk (hbox);have GW417:=Aside0.mk ((by rw [hg];exact (below_size (zz4)):w.heap.size≤gb417));have GE417:=Aside0.mk ((by rw [hg];exact (below_size (zz4)):w.heap.size≤gb417));replace HB:=Aside0.mk (below_step (zz4) hb);clear hb hbox hg)|((with_reducible refine gate_dst (N:=5) rfl ?_);refine box_event ?hg (N:=5) ?hd (cs:=#[.slice A2_0 l2_0.length c2_0,.slice A2_1 l2_1.length c2_1,.slice A2_2 l2_2.length c2_2]) (t:=36) ?hr ?_;(case hd=>rfl);(case hg=>rfl);(case hr=>exact zz122);intro gb418 hg w8 hbox hb;have BK418:=Aside0.mk (hbox);have GW418:=Aside0.mk ((by rw [hg];exact (below_size (zz95)):w.heap.size≤gb418));have GE418:=Aside0.mk ((by rw [hg];exact (below_size (zz95)):w.heap.size≤gb418));replace HB:=Aside0.mk (below_step (zz95) hb);have NB417_418:=Aside0.mk ((by rw [hg];exact Nat.ne_of_lt (blk_lt (g:=gb417) (o:=.cells #[.slice A0_0 l0_0.length c0_0,.slice A0_1 l0_1.length c0_1] 24 (0,0)) (zz94)):gb417 ≠ gb418));have NB418_417:=Aside0.mk ((by rw [hg];exact Nat.ne_of_gt (blk_lt (g:=gb417) (o:=.cells #[.slice A0_0 l0_0.length c0_0,.slice A0_1 l0_1.length c0_1] 24 (0,0)) (zz94)):gb418 ≠ gb417));replace BK417:=Aside0.mk (blk_below (g:=gb417) (o:=.cells #[.slice A0_0 l0_0.length c0_0,.slice A0_1 l0_1.length c0_1] 24 (0,0)) (zz94) hb);clear hb hbox hg;have hnb9:=NB417_418.out;have hnc9:=NB418_417.out;have hcz10_0:w8.cell? ⟨gb417,0,none⟩ = some (.slice A0_0 l0_0.length c0_0):=(blk_cell BK417.out 0).trans rfl;have hcz10_1:w8.cell? ⟨gb417,1,none⟩ = some (.slice A0_1 l0_1.length c0_1):=(blk_cell BK417.out 1).trans rfl;have hfz10_0:=blk_frozen BK417.out 0;have hfz10_1:=blk_frozen BK417.out 1)|((with_reducible refine gate_callee (f:=32) rfl ?_);refine goesL_ (some 10) rfl rfl Try.func32 (zz0) rfl #[.agg #[.slice A0_0 l0_0.length c0_0,.slice A0_1 l0_1.length c0_1]] rfl (zz15) ?_;(with_reducible refine (examboardref18_Valid.calls k _ _ l0_0 _ _ l0_1 t419 _ ?side1 ?side2 ?side3 ?side4 A4.out).mono ?_);(case side1=>exact zz123);(case side2=>exact zz124);(case side3=>exact zz125);(case side4=>exact zz126);rintro e w11 ⟨rfl,hb⟩;refine ⟨_,rfl,?_⟩;replace BK417:=Aside0.mk (blk_below (g:=gb417) (o:=.cells #[.slice A0_0 l0_0.length c0_0,.slice A0_1 l0_1.length c0_1] 24 (0,0)) (zz94) hb);replace BK418:=Aside0.mk (blk_below (g:=gb418) (o:=.cells #[.slice A2_0 l2_0.length c2_0,.slice A2_1 l2_1.length c2_1,.slice A2_2 l2_2.length c2_2] 36 (0,0)) (zz96) hb);replace HB:=Aside0.mk (below_step (zz97) hb);(try clear hb);(try clear hb2);(try clear hk);(try clear hi)))
   go_ret2
   exact ⟨_,zz5,zz77,zz97⟩
  ·rw [if_neg c6] at H
   have c6b0:decide (60 < (l1.length:Int)) = false:=decide_eq_false c6
   have c6b1:decide (60 < l1.length) = false:=decide_eq_false (zz3)
   clear c6
   by_cases c12:(l1.length:Int) = (l2_1.length:Int)
   ·rw [if_pos c12] at H
    have c12b0:((l1.length:Int) == (l2_1.length:Int)) = true:=beq_iff_eq.mpr c12
    have c12b1:((l1.length:Int) != (l2_1.length:Int)) = false:=bne_eq_false_iff_eq.mpr c12
    have c12b2:(l1.length == l2_1.length) = true:=zz82
    clear c12
    replace H:=Option.bind_eq_some_iff.mp H
    obtain ⟨t420,A130,H⟩:=H
    replace H:(if t420 = 0 then ((examboardref28_categories.f k l1).bind fun t421=>((examboardref24_Valid.f k l2_0 l2_1 l2_2 t421).bind fun t424=>(if t424 = 0 then ((examboardref28_total.f k l0_0 l0_1 l1 l2_0 l2_1 l2_2).bind fun t425=>(some (t425,0))) else (some (([]:List Int),t424))))) else (some (([]:List Int),t420))) = some (r1,r2):=H
    have A13:=Aside0.mk A130
    clear A130
    by_cases c14:t420 = 0
    ·rw [if_pos c14] at H
     have c14b0:(t420 == 0) = true:=beq_iff_eq.mpr c14
     have c14b1:(t420 != 0) = false:=bne_eq_false_iff_eq.mpr c14
     clear c14
     replace H:=Option.bind_eq_some_iff.mp H
     obtain ⟨t421,A150,H⟩:=H
     replace H:((examboardref24_Valid.f k l2_0 l2_1 l2_2 t421).bind fun t424=>(if t424 = 0 then ((examboardref28_total.f k l0_0 l0_1 l1 l2_0 l2_1 l2_2).bind fun t425=>(some (t425,0))) else (some (([]:List Int),t424)))) = some (r1,r2):=H
     have A15:=Aside0.mk A150
     clear A150
     replace H:=Option.bind_eq_some_iff.mp H
     obtain ⟨t424,A160,H⟩:=H
     replace H:(if t424 = 0 then ((examboardref28_total.f k l0_0 l0_1 l1 l2_0 l2_1 l2_2).bind fun t425=>(some (t425,0))) else (some (([]:List Int),t424))) = some (r1,r2):=H
     have A16:=Aside0.mk A160
     clear A160
     by_cases c17:t424 = 0
     ·rw [if_pos c17] at H
      have c17b0:(t424 == 0) = true:=beq_iff_eq.mpr c17
      have c17b1:(t424 != 0) = false:=bne_eq_false_iff_eq.mpr c17
      clear c17
      replace H:=Option.bind_eq_some_iff.mp H
      obtain ⟨t425,A180,H⟩:=H
      replace H:(some (t425,0)) = some (r1,r2):=H
      have A18:=Aside0.mk A180
      clear A180
      simp only [Option.some.injEq,Prod.mk.injEq] at H
      obtain ⟨rfl,rfl⟩:=H
      go_enter Try.func15,Try.ntmps15
      try go_wp2_with (first|((with_reducible refine gate_dst (N:=3) rfl ?_);refine box_event ?hg (N:=3) ?hd (cs:=#[.slice A0_0 l0_0.length c0_0,.slice A0_1 l0_1.length c0_1]) (t:=24) ?hr ?_;(case hd=>rfl);(case hg=>rfl);(case hr=>exact zz122);intro gb417 hg w19 hbox hb;have BK417:=Aside0.mk (hbox);have GW417:=Aside0.mk ((by rw [hg];exact (below_size (zz4)):w.heap.size≤gb417));have GE417:=Aside0.mk ((by rw [hg];exact (below_size (zz4)):w.heap.size≤gb417));replace HB:=Aside0.mk (below_step (zz4) hb);clear hb hbox hg)|((with_reducible refine gate_dst (N:=5) rfl ?_);refine box_event ?hg (N:=5) ?hd (cs:=#[.slice A2_0 l2_0.length c2_0,.slice A2_1 l2_1.length c2_1,.slice A2_2 l2_2.length c2_2]) (t:=36) ?hr ?_;(case hd=>rfl);(case hg=>rfl);(case hr=>exact zz122);intro gb418 hg w20 hbox hb;have BK418:=Aside0.mk (hbox);have GW418:=Aside0.mk ((by rw [hg];exact (below_size (zz95)):w.heap.size≤gb418));have GE418:=Aside0.mk ((by rw [hg];exact (below_size (zz95)):w.heap.size≤gb418));replace HB:=Aside0.mk (below_step (zz95) hb);have NB417_418:=Aside0.mk ((by rw [hg];exact Nat.ne_of_lt (blk_lt (g:=gb417) (o:=.cells #[.slice A0_0 l0_0.length c0_0,.slice A0_1 l0_1.length c0_1] 24 (0,0)) (zz94)):gb417 ≠ gb418));have NB418_417:=Aside0.mk ((by rw [hg];exact Nat.ne_of_gt (blk_lt (g:=gb417) (o:=.cells #[.slice A0_0 l0_0.length c0_0,.slice A0_1 l0_1.length c0_1] 24 (0,0)) (zz94)):gb418 ≠ gb417));replace BK417:=Aside0.mk (blk_below (g:=gb417) (o:=.cells #[.slice A0_0 l0_0.length c0_0,.slice A0_1 l0_1.length c0_1] 24 (0,0)) (zz94) hb);clear hb hbox hg;have hnb21:=NB417_418.out;have hnc21:=NB418_417.out;have hcz22_0:w20.cell? ⟨gb417,0,none⟩ = some (.slice A0_0 l0_0.length c0_0):=(blk_cell BK417.out 0).trans rfl;have hcz22_1:w20.cell? ⟨gb417,1,none⟩ = some (.slice A0_1 l0_1.length c0_1):=(blk_cell BK417.out 1).trans rfl;have hfz22_0:=blk_frozen BK417.out 0;have hfz22_1:=blk_frozen BK417.out 1)|((with_reducible refine gate_callee (f:=32) rfl ?_);refine goesL_ (some 10) rfl rfl Try.func32 (zz0) rfl #[.agg #[.slice A0_0 l0_0.length c0_0,.slice A0_1 l0_1.length c0_1]] rfl (zz15) ?_;(with_reducible refine (examboardref18_Valid.calls k _ _ l0_0 _ _ l0_1 t419 _ ?side1 ?side2 ?side3 ?side4 A4.out).mono ?_);(case side1=>exact zz123);(case side2=>exact zz124);(case side3=>exact zz125);(case side4=>exact zz126);rintro e w23 ⟨rfl,hb⟩;refine ⟨_,rfl,?_⟩;replace BK417:=Aside0.mk (blk_below (g:=gb417) (o:=.cells #[.slice A0_0 l0_0.length c0_0,.slice A0_1 l0_1.length c0_1] 24 (0,0)) (zz94) hb);replace BK418:=Aside0.mk (blk_below (g:=gb418) (o:=.cells #[.slice A2_0 l2_0.length c2_0,.slice A2_1 l2_1.length c2_1,.slice A2_2 l2_2.length c2_2] 36 (0,0)) (zz96) hb);replace HB:=Aside0.mk (below_step (zz97) hb);(try clear hb);(try clear hb2);(try clear hk);(try clear hi);have hcz24_0:w23.cell? ⟨gb418,0,none⟩ = some (.slice A2_0 l2_0.length c2_0):=(blk_cell BK418.out 0).trans rfl;have hcz24_1:w23.cell? ⟨gb418,1,none⟩ = some (.slice A2_1 l2_1.length c2_1):=(blk_cell BK418.out 1).trans rfl;have hcz24_2:w23.cell? ⟨gb418,2,none⟩ = some (.slice A2_2 l2_2.length c2_2):=(blk_cell BK418.out 2).trans rfl;have hfz24_0:=blk_frozen BK418.out 0;have hfz24_1:=blk_frozen BK418.out 1;have hfz24_2:=blk_frozen BK418.out 2;have hcz25_0:w23.cell? ⟨gb417,0,none⟩ = some (.slice A0_0 l0_0.length c0_0):=(blk_cell BK417.out 0).trans rfl;have hcz25_1:w23.cell? ⟨gb417,1,none⟩ = some (.slice A0_1 l0_1.length c0_1):=(blk_cell BK417.out 1).trans rfl;have hfz25_0:=blk_frozen BK417.out 0;have hfz25_1:=blk_frozen BK417.out 1)|((with_reducible refine gate_callee (f:=33) rfl ?_);refine goesL_ (some 27) rfl rfl Try.func33 (zz0) rfl #[.slice A1 l1.length c1,.int .i64 (l0_0.length:Int),.int .i64 (-1)] rfl (zz15) ?_;(with_reducible refine (examboardref28_valid.calls k _ _ l1 (l0_0.length:Int) (-1) t420 _ ?side1 ?side2 A13.out).mono ?_);(case side1=>exact zz129);(case side2=>exact HC1.out);rintro e w26 ⟨rfl,hb⟩;refine ⟨_,rfl,?_⟩;replace BK417:=Aside0.mk (blk_below (g:=gb417) (o:=.cells #[.slice A0_0 l0_0.length c0_0,.slice A0_1 l0_1.length c0_1] 24 (0,0)) (zz94) hb);replace BK418:=Aside0.mk (blk_below (g:=gb418) (o:=.cells #[.slice A2_0 l2_0.length c2_0,.slice A2_1 l2_1.length c2_1,.slice A2_2 l2_2.length c2_2] 36 (0,0)) (zz96) hb);replace HB:=Aside0.mk (below_step (zz97) hb);(try clear hb);(try clear hb2);(try clear hk);(try clear hi)))
      have n0_:=Aside0.mk (blk_drew BK417.out)
      have n1_:=Aside0.mk (blk_drew BK418.out)
      have n2_:=Aside0.mk (below_drew1 HB.out)
      clear BK417;clear BK418;clear HB
      have BK417:=n0_
      have BK418:=n1_
      have HB:=n2_
      clear n0_ n1_ n2_
      refine start_ (n:=5) (S:=fun w'=>w'.cell? ⟨gb418,0,none⟩ = some (.slice A2_0 l2_0.length c2_0)∧w'.cell? ⟨gb418,1,none⟩ = some (.slice A2_1 l2_1.length c2_1)∧w'.cell? ⟨gb418,2,none⟩ = some (.slice A2_2 l2_2.length c2_2)) (ds:=[]) #[false,false,false,false,false] (zz0) rfl rfl ⟨(blk_cell BK418.out 0).trans rfl,(blk_cell BK418.out 1).trans rfl,(blk_cell BK418.out 2).trans rfl⟩ (fun hHeld=>?_)
      generalize w26.drew = w27 at BK417 BK418 HB hHeld ⊢
      refine pure_ (i:=1) (N:=some 32) (v:=?_) (a':=?_) #[false,true,false,false,false] rfl rfl (zz0) (fun _ _ _ h=>h) (Or.inl ⟨zz16,?_⟩) ?_ ?_
      rotate_left
      ·intro w'
       go_simp
       with_reducible rfl
      rotate_left
      ·simp only [Act.put,List.setIfInBounds_toArray,List.set_cons_zero,List.set_cons_succ,i64_w,i32_w]
       rfl
      refine take_ (i:=0) (N:=some 31) (v:=?_) (a':=?_) #[true,true,false,false,false] rfl rfl (zz0) (fun _ _ _ h=>h) (Or.inl ⟨zz16,?_⟩) hHeld ?_ ?_
      rotate_left
      ·rintro w' ⟨s0,s1,s2⟩
       go_simp
       with_reducible rfl
      rotate_left
      ·simp only [Act.put,List.setIfInBounds_toArray,List.set_cons_zero,List.set_cons_succ,i64_w,i32_w]
       rfl
      refine one_ (i:=2) (N:=some 33) #[true,true,true,false,false] rfl rfl (zz0) (zz29) (fun K hK=>?_)
      refine goes_ Try.func42 (zz0) rfl #[.slice A1 l1.length c1] (zz16) rfl rfl (zz15) ?_
      with_reducible refine (examboardref28_categories.calls k _ _ l1 t421 _ ?side1 ?side2 A15.out).mono ?_
      (case side1=>exact zz129)
      (case side2=>exact HC1.out)
      rintro e w28 ⟨v422,rfl,ho0,hb⟩
      refine ⟨_,rfl,?_⟩
      have n0_:=Aside0.mk (Kd.R_lower ho0 (below_size (zz97)))
      have n1_:=Aside0.mk (blk_below (g:=gb417) (o:=.cells #[.slice A0_0 l0_0.length c0_0,.slice A0_1 l0_1.length c0_1] 24 (0,0)) (zz94) hb)
      have n2_:=Aside0.mk (blk_below (g:=gb418) (o:=.cells #[.slice A2_0 l2_0.length c2_0,.slice A2_1 l2_1.length c2_1,.slice A2_2 l2_2.length c2_2] 36 (0,0)) (zz96) hb)
      have n3_:=Aside0.mk (below_step (zz97) hb)
      clear BK417;clear BK418;clear HB
      have HO423:=n0_
      have BK417:=n1_
      have BK418:=n2_
      have HB:=n3_
      clear n0_ n1_ n2_ n3_
      (try clear hb)
      (try clear hb2)
      (try clear hk)
      (try clear hi)
      (try clear ho0)
      obtain ⟨Ao29,co29,eo29⟩:=Kd.R_slice HO423.out
      (first|subst eo29|(injection eo29 with f1_ f2_ f3_;have f4_:=f1_.symm;have f5_:=f3_.symm;clear f1_ f2_ f3_;subst f4_;subst f5_))
      refine hK.out _ _ ⟨(blk_cell BK418.out 0).trans rfl,(blk_cell BK418.out 1).trans rfl,(blk_cell BK418.out 2).trans rfl⟩ (fun hHeld=>?_)
      clear hK K
      refine norm_ (a':=?_) ?_ ?_
      rotate_left
      ·show Act.put _ (some 33) _ = _
       simp only [Act.put,List.setIfInBounds_toArray,List.set_cons_zero,List.set_cons_succ,i64_w,i32_w]
       rfl
      refine one_ (i:=3) (N:=some 34) #[true,true,true,true,false] rfl rfl (zz0) (zz29) (fun K hK=>?_)
      refine goes_ Try.func41 (zz0) rfl #[.agg #[.slice A2_0 l2_0.length c2_0,.slice A2_1 l2_1.length c2_1,.slice A2_2 l2_2.length c2_2],.slice Ao29 t421.length co29] (zz16) rfl rfl (zz15) ?_
      with_reducible refine (examboardref24_Valid.calls k _ _ l2_0 _ _ l2_1 _ _ l2_2 _ _ t421 t424 _ ?side1 ?side2 ?side3 ?side4 ?side5 ?side6 ?side7 ?side8 A16.out).mono ?_
      (case side1=>exact zz136)
      (case side2=>exact HC2_0.out)
      (case side3=>exact zz137)
      (case side4=>exact HC2_1.out)
      (case side5=>exact zz138)
      (case side6=>exact HC2_2.out)
      (case side7=>repeat (first|exact (Kd.R_reads' HO423.out).2.2|(with_reducible refine Kd.C_alloc ?_ _)|(with_reducible refine Kd.C_drewN ?_ _)|(with_reducible refine Kd.C_drew ?_)))
      (case side8=>exact (Kd.R_reads' HO423.out).2.1)
      rintro e w30 ⟨rfl,hb⟩
      refine ⟨_,rfl,?_⟩
      have n0_:=Aside0.mk (Kd.R_below (zz98) hb)
      have n1_:=Aside0.mk (blk_below (g:=gb417) (o:=.cells #[.slice A0_0 l0_0.length c0_0,.slice A0_1 l0_1.length c0_1] 24 (0,0)) (zz94) hb)
      have n2_:=Aside0.mk (blk_below (g:=gb418) (o:=.cells #[.slice A2_0 l2_0.length c2_0,.slice A2_1 l2_1.length c2_1,.slice A2_2 l2_2.length c2_2] 36 (0,0)) (zz96) hb)
      have n3_:=Aside0.mk (below_step (zz97) hb)
      clear HO423;clear BK417;clear BK418;clear HB
      have HO423:=n0_
      have BK417:=n1_
      have BK418:=n2_
      have HB:=n3_
      clear n0_ n1_ n2_ n3_
      (try clear hb)
      (try clear hb2)
      (try clear hk)
      (try clear hi)
      refine hK.out _ _ ⟨(blk_cell BK418.out 0).trans rfl,(blk_cell BK418.out 1).trans rfl,(blk_cell BK418.out 2).trans rfl⟩ (fun hHeld=>?_)
      clear hK K
      refine norm_ (a':=?_) ?_ ?_
      rotate_left
      ·show Act.put _ (some 34) _ = _
       simp only [Act.put,List.setIfInBounds_toArray,List.set_cons_zero,List.set_cons_succ,i64_w,i32_w]
       rfl
      refine pure_ (i:=4) (N:=some 8) (v:=?_) (a':=?_) #[true,true,true,true,true] rfl rfl (zz0) (fun _ _ _ h=>h) (Or.inl ⟨zz16,?_⟩) ?_ ?_
      rotate_left
      ·intro w'
       go_simp
       with_reducible rfl
      rotate_left
      ·simp only [Act.put,List.setIfInBounds_toArray,List.set_cons_zero,List.set_cons_succ,i64_w,i32_w]
       rfl
      refine done_ (zz0) ?_
      have hcz31_0:w30.cell? ⟨gb417,0,none⟩ = some (.slice A0_0 l0_0.length c0_0):=(blk_cell BK417.out 0).trans rfl
      have hcz31_1:w30.cell? ⟨gb417,1,none⟩ = some (.slice A0_1 l0_1.length c0_1):=(blk_cell BK417.out 1).trans rfl
      have hfz31_0:=blk_frozen BK417.out 0
      have hfz31_1:=blk_frozen BK417.out 1
      have hcz32_0:w30.cell? ⟨gb418,0,none⟩ = some (.slice A2_0 l2_0.length c2_0):=(blk_cell BK418.out 0).trans rfl
      have hcz32_1:w30.cell? ⟨gb418,1,none⟩ = some (.slice A2_1 l2_1.length c2_1):=(blk_cell BK418.out 1).trans rfl
      have hcz32_2:w30.cell? ⟨gb418,2,none⟩ = some (.slice A2_2 l2_2.length c2_2):=(blk_cell BK418.out 2).trans rfl
      have hfz32_0:=blk_frozen BK418.out 0
      have hfz32_1:=blk_frozen BK418.out 1
      have hfz32_2:=blk_frozen BK418.out 2
      try go_wp2_with (first|((with_reducible refine gate_callee (f:=43) rfl ?_);refine goesL_ (some 41) rfl rfl Try.func43 (zz0) rfl #[.agg #[.slice A0_0 l0_0.length c0_0,.slice A0_1 l0_1.length c0_1],.slice A1 l1.length c1,.agg #[.slice A2_0 l2_0.length c2_0,.slice A2_1 l2_1.length c2_1,.slice A2_2 l2_2.length c2_2]] rfl (zz15) ?_;(with_reducible refine (examboardref28_total.calls k _ _ l0_0 _ _ l0_1 _ _ l1 _ _ l2_0 _ _ l2_1 _ _ l2_2 t425 _ ?side1 ?side2 ?side3 ?side4 ?side5 ?side6 ?side7 ?side8 ?side9 ?side10 ?side11 ?side12 A18.out).mono ?_);(case side1=>exact zz123);(case side2=>exact zz124);(case side3=>exact zz125);(case side4=>exact zz126);(case side5=>exact zz129);(case side6=>exact HC1.out);(case side7=>exact zz136);(case side8=>exact HC2_0.out);(case side9=>exact zz137);(case side10=>exact HC2_1.out);(case side11=>exact zz138);(case side12=>exact HC2_2.out);rintro e w33 ⟨v426,rfl,ho0,hb⟩;refine ⟨_,rfl,?_⟩;replace HO423:=Aside0.mk (Kd.R_below (zz98) hb);have HO427:=Aside0.mk (Kd.R_lower ho0 (below_size (zz97)));replace BK417:=Aside0.mk (blk_below (g:=gb417) (o:=.cells #[.slice A0_0 l0_0.length c0_0,.slice A0_1 l0_1.length c0_1] 24 (0,0)) (zz94) hb);replace BK418:=Aside0.mk (blk_below (g:=gb418) (o:=.cells #[.slice A2_0 l2_0.length c2_0,.slice A2_1 l2_1.length c2_1,.slice A2_2 l2_2.length c2_2] 36 (0,0)) (zz96) hb);replace HB:=Aside0.mk (below_step (zz97) hb);(try clear hb);(try clear hb2);(try clear hk);(try clear hi);(try clear ho0)))
      go_ret2
      exact ⟨_,zz5,by (with_reducible repeat (first|apply Kd.R_alloc|apply Kd.R_drewN|apply Kd.R_drew));exact HO427.out,zz97⟩
     ·rw [if_neg c17] at H
      have c17b0:(t424 == 0) = false:=beq_eq_false_iff_ne.mpr c17
      have c17b1:(t424 != 0) = true:=bne_iff_ne.mpr c17
      simp only [Option.some.injEq,Prod.mk.injEq] at H
      obtain ⟨rfl,rfl⟩:=H
      go_enter Try.func15,Try.ntmps15
      try go_wp2_with (first|((with_reducible refine gate_dst (N:=3) rfl ?_);refine box_event ?hg (N:=3) ?hd (cs:=#[.slice A0_0 l0_0.length c0_0,.slice A0_1 l0_1.length c0_1]) (t:=24) ?hr ?_;(case hd=>rfl);(case hg=>rfl);(case hr=>exact zz122);intro gb417 hg w34 hbox hb;have BK417:=Aside0.mk (hbox);have GW417:=Aside0.mk ((by rw [hg];exact (below_size (zz4)):w.heap.size≤gb417));have GE417:=Aside0.mk ((by rw [hg];exact (below_size (zz4)):w.heap.size≤gb417));replace HB:=Aside0.mk (below_step (zz4) hb);clear hb hbox hg)|((with_reducible refine gate_dst (N:=5) rfl ?_);refine box_event ?hg (N:=5) ?hd (cs:=#[.slice A2_0 l2_0.length c2_0,.slice A2_1 l2_1.length c2_1,.slice A2_2 l2_2.length c2_2]) (t:=36) ?hr ?_;(case hd=>rfl);(case hg=>rfl);(case hr=>exact zz122);intro gb418 hg w35 hbox hb;have BK418:=Aside0.mk (hbox);have GW418:=Aside0.mk ((by rw [hg];exact (below_size (zz95)):w.heap.size≤gb418));have GE418:=Aside0.mk ((by rw [hg];exact (below_size (zz95)):w.heap.size≤gb418));replace HB:=Aside0.mk (below_step (zz95) hb);have NB417_418:=Aside0.mk ((by rw [hg];exact Nat.ne_of_lt (blk_lt (g:=gb417) (o:=.cells #[.slice A0_0 l0_0.length c0_0,.slice A0_1 l0_1.length c0_1] 24 (0,0)) (zz94)):gb417 ≠ gb418));have NB418_417:=Aside0.mk ((by rw [hg];exact Nat.ne_of_gt (blk_lt (g:=gb417) (o:=.cells #[.slice A0_0 l0_0.length c0_0,.slice A0_1 l0_1.length c0_1] 24 (0,0)) (zz94)):gb418 ≠ gb417));replace BK417:=Aside0.mk (blk_below (g:=gb417) (o:=.cells #[.slice A0_0 l0_0.length c0_0,.slice A0_1 l0_1.length c0_1] 24 (0,0)) (zz94) hb);clear hb hbox hg;have hnb36:=NB417_418.out;have hnc36:=NB418_417.out;have hcz37_0:w35.cell? ⟨gb417,0,none⟩ = some (.slice A0_0 l0_0.length c0_0):=(blk_cell BK417.out 0).trans rfl;have hcz37_1:w35.cell? ⟨gb417,1,none⟩ = some (.slice A0_1 l0_1.length c0_1):=(blk_cell BK417.out 1).trans rfl;have hfz37_0:=blk_frozen BK417.out 0;have hfz37_1:=blk_frozen BK417.out 1)|((with_reducible refine gate_callee (f:=32) rfl ?_);refine goesL_ (some 10) rfl rfl Try.func32 (zz0) rfl #[.agg #[.slice A0_0 l0_0.length c0_0,.slice A0_1 l0_1.length c0_1]] rfl (zz15) ?_;(with_reducible refine (examboardref18_Valid.calls k _ _ l0_0 _ _ l0_1 t419 _ ?side1 ?side2 ?side3 ?side4 A4.out).mono ?_);(case side1=>exact zz123);(case side2=>exact zz124);(case side3=>exact zz125);(case side4=>exact zz126);rintro e w38 ⟨rfl,hb⟩;refine ⟨_,rfl,?_⟩;replace BK417:=Aside0.mk (blk_below (g:=gb417) (o:=.cells #[.slice A0_0 l0_0.length c0_0,.slice A0_1 l0_1.length c0_1] 24 (0,0)) (zz94) hb);replace BK418:=Aside0.mk (blk_below (g:=gb418) (o:=.cells #[.slice A2_0 l2_0.length c2_0,.slice A2_1 l2_1.length c2_1,.slice A2_2 l2_2.length c2_2] 36 (0,0)) (zz96) hb);replace HB:=Aside0.mk (below_step (zz97) hb);(try clear hb);(try clear hb2);(try clear hk);(try clear hi);have hcz39_0:w38.cell? ⟨gb418,0,none⟩ = some (.slice A2_0 l2_0.length c2_0):=(blk_cell BK418.out 0).trans rfl;have hcz39_1:w38.cell? ⟨gb418,1,none⟩ = some (.slice A2_1 l2_1.length c2_1):=(blk_cell BK418.out 1).trans rfl;have hcz39_2:w38.cell? ⟨gb418,2,none⟩ = some (.slice A2_2 l2_2.length c2_2):=(blk_cell BK418.out 2).trans rfl;have hfz39_0:=blk_frozen BK418.out 0;have hfz39_1:=blk_frozen BK418.out 1;have hfz39_2:=blk_frozen BK418.out 2;have hcz40_0:w38.cell? ⟨gb417,0,none⟩ = some (.slice A0_0 l0_0.length c0_0):=(blk_cell BK417.out 0).trans rfl;have hcz40_1:w38.cell? ⟨gb417,1,none⟩ = some (.slice A0_1 l0_1.length c0_1):=(blk_cell BK417.out 1).trans rfl;have hfz40_0:=blk_frozen BK417.out 0;have hfz40_1:=blk_frozen BK417.out 1)|((with_reducible refine gate_callee (f:=33) rfl ?_);refine goesL_ (some 27) rfl rfl Try.func33 (zz0) rfl #[.slice A1 l1.length c1,.int .i64 (l0_0.length:Int),.int .i64 (-1)] rfl (zz15) ?_;(with_reducible refine (examboardref28_valid.calls k _ _ l1 (l0_0.length:Int) (-1) t420 _ ?side1 ?side2 A13.out).mono ?_);(case side1=>exact zz129);(case side2=>exact HC1.out);rintro e w41 ⟨rfl,hb⟩;refine ⟨_,rfl,?_⟩;replace BK417:=Aside0.mk (blk_below (g:=gb417) (o:=.cells #[.slice A0_0 l0_0.length c0_0,.slice A0_1 l0_1.length c0_1] 24 (0,0)) (zz94) hb);replace BK418:=Aside0.mk (blk_below (g:=gb418) (o:=.cells #[.slice A2_0 l2_0.length c2_0,.slice A2_1 l2_1.length c2_1,.slice A2_2 l2_2.length c2_2] 36 (0,0)) (zz96) hb);replace HB:=Aside0.mk (below_step (zz97) hb);(try clear hb);(try clear hb2);(try clear hk);(try clear hi)))
      have n0_:=Aside0.mk (blk_drew BK417.out)
      have n1_:=Aside0.mk (blk_drew BK418.out)
      have n2_:=Aside0.mk (below_drew1 HB.out)
      clear BK417;clear BK418;clear HB
      have BK417:=n0_
      have BK418:=n1_
      have HB:=n2_
      clear n0_ n1_ n2_
      refine start_ (n:=5) (S:=fun w'=>w'.cell? ⟨gb418,0,none⟩ = some (.slice A2_0 l2_0.length c2_0)∧w'.cell? ⟨gb418,1,none⟩ = some (.slice A2_1 l2_1.length c2_1)∧w'.cell? ⟨gb418,2,none⟩ = some (.slice A2_2 l2_2.length c2_2)) (ds:=[]) #[false,false,false,false,false] (zz0) rfl rfl ⟨(blk_cell BK418.out 0).trans rfl,(blk_cell BK418.out 1).trans rfl,(blk_cell BK418.out 2).trans rfl⟩ (fun hHeld=>?_)
      generalize w41.drew = w42 at BK417 BK418 HB hHeld ⊢
      refine pure_ (i:=1) (N:=some 32) (v:=?_) (a':=?_) #[false,true,false,false,false] rfl rfl (zz0) (fun _ _ _ h=>h) (Or.inl ⟨zz16,?_⟩) ?_ ?_
      rotate_left
      ·intro w'
       go_simp
       with_reducible rfl
      rotate_left
      ·simp only [Act.put,List.setIfInBounds_toArray,List.set_cons_zero,List.set_cons_succ,i64_w,i32_w]
       rfl
      refine take_ (i:=0) (N:=some 31) (v:=?_) (a':=?_) #[true,true,false,false,false] rfl rfl (zz0) (fun _ _ _ h=>h) (Or.inl ⟨zz16,?_⟩) hHeld ?_ ?_
      rotate_left
      ·rintro w' ⟨s0,s1,s2⟩
       go_simp
       with_reducible rfl
      rotate_left
      ·simp only [Act.put,List.setIfInBounds_toArray,List.set_cons_zero,List.set_cons_succ,i64_w,i32_w]
       rfl
      refine one_ (i:=2) (N:=some 33) #[true,true,true,false,false] rfl rfl (zz0) (zz29) (fun K hK=>?_)
      refine goes_ Try.func42 (zz0) rfl #[.slice A1 l1.length c1] (zz16) rfl rfl (zz15) ?_
      with_reducible refine (examboardref28_categories.calls k _ _ l1 t421 _ ?side1 ?side2 A15.out).mono ?_
      (case side1=>exact zz129)
      (case side2=>exact HC1.out)
      rintro e w43 ⟨v422,rfl,ho0,hb⟩
      refine ⟨_,rfl,?_⟩
      have n0_:=Aside0.mk (Kd.R_lower ho0 (below_size (zz97)))
      have n1_:=Aside0.mk (blk_below (g:=gb417) (o:=.cells #[.slice A0_0 l0_0.length c0_0,.slice A0_1 l0_1.length c0_1] 24 (0,0)) (zz94) hb)
      have n2_:=Aside0.mk (blk_below (g:=gb418) (o:=.cells #[.slice A2_0 l2_0.length c2_0,.slice A2_1 l2_1.length c2_1,.slice A2_2 l2_2.length c2_2] 36 (0,0)) (zz96) hb)
      have n3_:=Aside0.mk (below_step (zz97) hb)
      clear BK417;clear BK418;clear HB
      have HO423:=n0_
      have BK417:=n1_
      have BK418:=n2_
      have HB:=n3_
      clear n0_ n1_ n2_ n3_
      (try clear hb)
      (try clear hb2)
      (try clear hk)
      (try clear hi)
      (try clear ho0)
      obtain ⟨Ao44,co44,eo44⟩:=Kd.R_slice HO423.out
      (first|subst eo44|(injection eo44 with f1_ f2_ f3_;have f4_:=f1_.symm;have f5_:=f3_.symm;clear f1_ f2_ f3_;subst f4_;subst f5_))
      refine hK.out _ _ ⟨(blk_cell BK418.out 0).trans rfl,(blk_cell BK418.out 1).trans rfl,(blk_cell BK418.out 2).trans rfl⟩ (fun hHeld=>?_)
      clear hK K
      refine norm_ (a':=?_) ?_ ?_
      rotate_left
      ·show Act.put _ (some 33) _ = _
       simp only [Act.put,List.setIfInBounds_toArray,List.set_cons_zero,List.set_cons_succ,i64_w,i32_w]
       rfl
      refine one_ (i:=3) (N:=some 34) #[true,true,true,true,false] rfl rfl (zz0) (zz29) (fun K hK=>?_)
      refine goes_ Try.func41 (zz0) rfl #[.agg #[.slice A2_0 l2_0.length c2_0,.slice A2_1 l2_1.length c2_1,.slice A2_2 l2_2.length c2_2],.slice Ao44 t421.length co44] (zz16) rfl rfl (zz15) ?_
      with_reducible refine (examboardref24_Valid.calls k _ _ l2_0 _ _ l2_1 _ _ l2_2 _ _ t421 t424 _ ?side1 ?side2 ?side3 ?side4 ?side5 ?side6 ?side7 ?side8 A16.out).mono ?_
      (case side1=>exact zz136)
      (case side2=>exact HC2_0.out)
      (case side3=>exact zz137)
      (case side4=>exact HC2_1.out)
      (case side5=>exact zz138)
      (case side6=>exact HC2_2.out)
      (case side7=>repeat (first|exact (Kd.R_reads' HO423.out).2.2|(with_reducible refine Kd.C_alloc ?_ _)|(with_reducible refine Kd.C_drewN ?_ _)|(with_reducible refine Kd.C_drew ?_)))
      (case side8=>exact (Kd.R_reads' HO423.out).2.1)
      rintro e w45 ⟨rfl,hb⟩
      refine ⟨_,rfl,?_⟩
      have n0_:=Aside0.mk (Kd.R_below (zz98) hb)
      have n1_:=Aside0.mk (blk_below (g:=gb417) (o:=.cells #[.slice A0_0 l0_0.length c0_0,.slice A0_1 l0_1.length c0_1] 24 (0,0)) (zz94) hb)
      have n2_:=Aside0.mk (blk_below (g:=gb418) (o:=.cells #[.slice A2_0 l2_0.length c2_0,.slice A2_1 l2_1.length c2_1,.slice A2_2 l2_2.length c2_2] 36 (0,0)) (zz96) hb)
      have n3_:=Aside0.mk (below_step (zz97) hb)
      clear HO423;clear BK417;clear BK418;clear HB
      have HO423:=n0_
      have BK417:=n1_
      have BK418:=n2_
      have HB:=n3_
      clear n0_ n1_ n2_ n3_
      (try clear hb)
      (try clear hb2)
      (try clear hk)
      (try clear hi)
      refine hK.out _ _ ⟨(blk_cell BK418.out 0).trans rfl,(blk_cell BK418.out 1).trans rfl,(blk_cell BK418.out 2).trans rfl⟩ (fun hHeld=>?_)
      clear hK K
      refine norm_ (a':=?_) ?_ ?_
      rotate_left
      ·show Act.put _ (some 34) _ = _
       simp only [Act.put,List.setIfInBounds_toArray,List.set_cons_zero,List.set_cons_succ,i64_w,i32_w]
       rfl
      refine pure_ (i:=4) (N:=some 8) (v:=?_) (a':=?_) #[true,true,true,true,true] rfl rfl (zz0) (fun _ _ _ h=>h) (Or.inl ⟨zz16,?_⟩) ?_ ?_
      rotate_left
      ·intro w'
       go_simp
       with_reducible rfl
      rotate_left
      ·simp only [Act.put,List.setIfInBounds_toArray,List.set_cons_zero,List.set_cons_succ,i64_w,i32_w]
       rfl
      refine done_ (zz0) ?_
      try go_wp2
      go_ret2
      exact ⟨_,zz5,zz77,zz97⟩
    ·rw [if_neg c14] at H
     have c14b0:(t420 == 0) = false:=beq_eq_false_iff_ne.mpr c14
     have c14b1:(t420 != 0) = true:=bne_iff_ne.mpr c14
     simp only [Option.some.injEq,Prod.mk.injEq] at H
     obtain ⟨rfl,rfl⟩:=H
     go_enter Try.func15,Try.ntmps15
     go_wp2_with (first|((with_reducible refine gate_dst (N:=3) rfl ?_);refine box_event ?hg (N:=3) ?hd (cs:=#[.slice A0_0 l0_0.length c0_0,.slice A0_1 l0_1.length c0_1]) (t:=24) ?hr ?_;(case hd=>rfl);(case hg=>rfl);(case hr=>exact zz122);intro gb417 hg w46 hbox hb;have BK417:=Aside0.mk (hbox);have GW417:=Aside0.mk ((by rw [hg];exact (below_size (zz4)):w.heap.size≤gb417));have GE417:=Aside0.mk ((by rw [hg];exact (below_size (zz4)):w.heap.size≤gb417));replace HB:=Aside0.mk (below_step (zz4) hb);clear hb hbox hg)|((with_reducible refine gate_dst (N:=5) rfl ?_);refine box_event ?hg (N:=5) ?hd (cs:=#[.slice A2_0 l2_0.length c2_0,.slice A2_1 l2_1.length c2_1,.slice A2_2 l2_2.length c2_2]) (t:=36) ?hr ?_;(case hd=>rfl);(case hg=>rfl);(case hr=>exact zz122);intro gb418 hg w47 hbox hb;have BK418:=Aside0.mk (hbox);have GW418:=Aside0.mk ((by rw [hg];exact (below_size (zz95)):w.heap.size≤gb418));have GE418:=Aside0.mk ((by rw [hg];exact (below_size (zz95)):w.heap.size≤gb418));replace HB:=Aside0.mk (below_step (zz95) hb);have NB417_418:=Aside0.mk ((by rw [hg];exact Nat.ne_of_lt (blk_lt (g:=gb417) (o:=.cells #[.slice A0_0 l0_0.length c0_0,.slice A0_1 l0_1.length c0_1] 24 (0,0)) (zz94)):gb417 ≠ gb418));have NB418_417:=Aside0.mk ((by rw [hg];exact Nat.ne_of_gt (blk_lt (g:=gb417) (o:=.cells #[.slice A0_0 l0_0.length c0_0,.slice A0_1 l0_1.length c0_1] 24 (0,0)) (zz94)):gb418 ≠ gb417));replace BK417:=Aside0.mk (blk_below (g:=gb417) (o:=.cells #[.slice A0_0 l0_0.length c0_0,.slice A0_1 l0_1.length c0_1] 24 (0,0)) (zz94) hb);clear hb hbox hg;have hnb48:=NB417_418.out;have hnc48:=NB418_417.out;have hcz49_0:w47.cell? ⟨gb417,0,none⟩ = some (.slice A0_0 l0_0.length c0_0):=(blk_cell BK417.out 0).trans rfl;have hcz49_1:w47.cell? ⟨gb417,1,none⟩ = some (.slice A0_1 l0_1.length c0_1):=(blk_cell BK417.out 1).trans rfl;have hfz49_0:=blk_frozen BK417.out 0;have hfz49_1:=blk_frozen BK417.out 1)|((with_reducible refine gate_callee (f:=32) rfl ?_);refine goesL_ (some 10) rfl rfl Try.func32 (zz0) rfl #[.agg #[.slice A0_0 l0_0.length c0_0,.slice A0_1 l0_1.length c0_1]] rfl (zz15) ?_;(with_reducible refine (examboardref18_Valid.calls k _ _ l0_0 _ _ l0_1 t419 _ ?side1 ?side2 ?side3 ?side4 A4.out).mono ?_);(case side1=>exact zz123);(case side2=>exact zz124);(case side3=>exact zz125);(case side4=>exact zz126);rintro e w50 ⟨rfl,hb⟩;refine ⟨_,rfl,?_⟩;replace BK417:=Aside0.mk (blk_below (g:=gb417) (o:=.cells #[.slice A0_0 l0_0.length c0_0,.slice A0_1 l0_1.length c0_1] 24 (0,0)) (zz94) hb);replace BK418:=Aside0.mk (blk_below (g:=gb418) (o:=.cells #[.slice A2_0 l2_0.length c2_0,.slice A2_1 l2_1.length c2_1,.slice A2_2 l2_2.length c2_2] 36 (0,0)) (zz96) hb);replace HB:=Aside0.mk (below_step (zz97) hb);(try clear hb);(try clear hb2);(try clear hk);(try clear hi);have hcz51_0:w50.cell? ⟨gb418,0,none⟩ = some (.slice A2_0 l2_0.length c2_0):=(blk_cell BK418.out 0).trans rfl;have hcz51_1:w50.cell? ⟨gb418,1,none⟩ = some (.slice A2_1 l2_1.length c2_1):=(blk_cell BK418.out 1).trans rfl;have hcz51_2:w50.cell? ⟨gb418,2,none⟩ = some (.slice A2_2 l2_2.length c2_2):=(blk_cell BK418.out 2).trans rfl;have hfz51_0:=blk_frozen BK418.out 0;have hfz51_1:=blk_frozen BK418.out 1;have hfz51_2:=blk_frozen BK418.out 2;have hcz52_0:w50.cell? ⟨gb417,0,none⟩ = some (.slice A0_0 l0_0.length c0_0):=(blk_cell BK417.out 0).trans rfl;have hcz52_1:w50.cell? ⟨gb417,1,none⟩ = some (.slice A0_1 l0_1.length c0_1):=(blk_cell BK417.out 1).trans rfl;have hfz52_0:=blk_frozen BK417.out 0;have hfz52_1:=blk_frozen BK417.out 1)|((with_reducible refine gate_callee (f:=33) rfl ?_);refine goesL_ (some 27) rfl rfl Try.func33 (zz0) rfl #[.slice A1 l1.length c1,.int .i64 (l0_0.length:Int),.int .i64 (-1)] rfl (zz15) ?_;(with_reducible refine (examboardref28_valid.calls k _ _ l1 (l0_0.length:Int) (-1) t420 _ ?side1 ?side2 A13.out).mono ?_);(case side1=>exact zz129);(case side2=>exact HC1.out);rintro e w53 ⟨rfl,hb⟩;refine ⟨_,rfl,?_⟩;replace BK417:=Aside0.mk (blk_below (g:=gb417) (o:=.cells #[.slice A0_0 l0_0.length c0_0,.slice A0_1 l0_1.length c0_1] 24 (0,0)) (zz94) hb);replace BK418:=Aside0.mk (blk_below (g:=gb418) (o:=.cells #[.slice A2_0 l2_0.length c2_0,.slice A2_1 l2_1.length c2_1,.slice A2_2 l2_2.length c2_2] 36 (0,0)) (zz96) hb);replace HB:=Aside0.mk (below_step (zz97) hb);(try clear hb);(try clear hb2);(try clear hk);(try clear hi)))
     go_ret2
     exact ⟨_,zz5,zz77,zz97⟩
   ·rw [if_neg c12] at H
    have c12b0:((l1.length:Int) == (l2_1.length:Int)) = false:=beq_eq_false_iff_ne.mpr c12
    have c12b1:((l1.length:Int) != (l2_1.length:Int)) = true:=bne_iff_ne.mpr c12
    have c12b2:(l1.length == l2_1.length) = false:=zz82
    simp only [Option.some.injEq,Prod.mk.injEq] at H
    obtain ⟨rfl,rfl⟩:=H
    go_enter Try.func15,Try.ntmps15
    go_wp2_with (first|((with_reducible refine gate_dst (N:=3) rfl ?_);refine box_event ?hg (N:=3) ?hd (cs:=#[.slice A0_0 l0_0.length c0_0,.slice A0_1 l0_1.length c0_1]) (t:=24) ?hr ?_;(case hd=>rfl);(case hg=>rfl);(case hr=>exact zz122);intro gb417 hg w54 hbox hb;have BK417:=Aside0.mk (hbox);have GW417:=Aside0.mk ((by rw [hg];exact (below_size (zz4)):w.heap.size≤gb417));have GE417:=Aside0.mk ((by rw [hg];exact (below_size (zz4)):w.heap.size≤gb417));replace HB:=Aside0.mk (below_step (zz4) hb);clear hb hbox hg)|((with_reducible refine gate_dst (N:=5) rfl ?_);refine box_event ?hg (N:=5) ?hd (cs:=#[.slice A2_0 l2_0.length c2_0,.slice A2_1 l2_1.length c2_1,.slice A2_2 l2_2.length c2_2]) (t:=36) ?hr ?_;(case hd=>rfl);(case hg=>rfl);(case hr=>exact zz122);intro gb418 hg w55 hbox hb;have BK418:=Aside0.mk (hbox);have GW418:=Aside0.mk ((by rw [hg];exact (below_size (zz95)):w.heap.size≤gb418));have GE418:=Aside0.mk ((by rw [hg];exact (below_size (zz95)):w.heap.size≤gb418));replace HB:=Aside0.mk (below_step (zz95) hb);have NB417_418:=Aside0.mk ((by rw [hg];exact Nat.ne_of_lt (blk_lt (g:=gb417) (o:=.cells #[.slice A0_0 l0_0.length c0_0,.slice A0_1 l0_1.length c0_1] 24 (0,0)) (zz94)):gb417 ≠ gb418));have NB418_417:=Aside0.mk ((by rw [hg];exact Nat.ne_of_gt (blk_lt (g:=gb417) (o:=.cells #[.slice A0_0 l0_0.length c0_0,.slice A0_1 l0_1.length c0_1] 24 (0,0)) (zz94)):gb418 ≠ gb417));replace BK417:=Aside0.mk (blk_below (g:=gb417) (o:=.cells #[.slice A0_0 l0_0.length c0_0,.slice A0_1 l0_1.length c0_1] 24 (0,0)) (zz94) hb);clear hb hbox hg;have hnb56:=NB417_418.out;have hnc56:=NB418_417.out;have hcz57_0:w55.cell? ⟨gb417,0,none⟩ = some (.slice A0_0 l0_0.length c0_0):=(blk_cell BK417.out 0).trans rfl;have hcz57_1:w55.cell? ⟨gb417,1,none⟩ = some (.slice A0_1 l0_1.length c0_1):=(blk_cell BK417.out 1).trans rfl;have hfz57_0:=blk_frozen BK417.out 0;have hfz57_1:=blk_frozen BK417.out 1)|((with_reducible refine gate_callee (f:=32) rfl ?_);refine goesL_ (some 10) rfl rfl Try.func32 (zz0) rfl #[.agg #[.slice A0_0 l0_0.length c0_0,.slice A0_1 l0_1.length c0_1]] rfl (zz15) ?_;(with_reducible refine (examboardref18_Valid.calls k _ _ l0_0 _ _ l0_1 t419 _ ?side1 ?side2 ?side3 ?side4 A4.out).mono ?_);(case side1=>exact zz123);(case side2=>exact zz124);(case side3=>exact zz125);(case side4=>exact zz126);rintro e w58 ⟨rfl,hb⟩;refine ⟨_,rfl,?_⟩;replace BK417:=Aside0.mk (blk_below (g:=gb417) (o:=.cells #[.slice A0_0 l0_0.length c0_0,.slice A0_1 l0_1.length c0_1] 24 (0,0)) (zz94) hb);replace BK418:=Aside0.mk (blk_below (g:=gb418) (o:=.cells #[.slice A2_0 l2_0.length c2_0,.slice A2_1 l2_1.length c2_1,.slice A2_2 l2_2.length c2_2] 36 (0,0)) (zz96) hb);replace HB:=Aside0.mk (below_step (zz97) hb);(try clear hb);(try clear hb2);(try clear hk);(try clear hi);have hcz59_0:w58.cell? ⟨gb418,0,none⟩ = some (.slice A2_0 l2_0.length c2_0):=(blk_cell BK418.out 0).trans rfl;have hcz59_1:w58.cell? ⟨gb418,1,none⟩ = some (.slice A2_1 l2_1.length c2_1):=(blk_cell BK418.out 1).trans rfl;have hcz59_2:w58.cell? ⟨gb418,2,none⟩ = some (.slice A2_2 l2_2.length c2_2):=(blk_cell BK418.out 2).trans rfl;have hfz59_0:=blk_frozen BK418.out 0;have hfz59_1:=blk_frozen BK418.out 1;have hfz59_2:=blk_frozen BK418.out 2))
    go_ret2
    exact ⟨_,zz5,zz77,zz97⟩
 ·rw [if_neg c5] at H
  have c5b0:(t419 == 0) = false:=beq_eq_false_iff_ne.mpr c5
  have c5b1:(t419 != 0) = true:=bne_iff_ne.mpr c5
  simp only [Option.some.injEq,Prod.mk.injEq] at H
  obtain ⟨rfl,rfl⟩:=H
  go_enter Try.func15,Try.ntmps15
  go_wp2_with (first|((with_reducible refine gate_dst (N:=3) rfl ?_);refine box_event ?hg (N:=3) ?hd (cs:=#[.slice A0_0 l0_0.length c0_0,.slice A0_1 l0_1.length c0_1]) (t:=24) ?hr ?_;(case hd=>rfl);(case hg=>rfl);(case hr=>exact zz122);intro gb417 hg w60 hbox hb;have BK417:=Aside0.mk (hbox);have GW417:=Aside0.mk ((by rw [hg];exact (below_size (zz4)):w.heap.size≤gb417));have GE417:=Aside0.mk ((by rw [hg];exact (below_size (zz4)):w.heap.size≤gb417));replace HB:=Aside0.mk (below_step (zz4) hb);clear hb hbox hg)|((with_reducible refine gate_dst (N:=5) rfl ?_);refine box_event ?hg (N:=5) ?hd (cs:=#[.slice A2_0 l2_0.length c2_0,.slice A2_1 l2_1.length c2_1,.slice A2_2 l2_2.length c2_2]) (t:=36) ?hr ?_;(case hd=>rfl);(case hg=>rfl);(case hr=>exact zz122);intro gb418 hg w61 hbox hb;have BK418:=Aside0.mk (hbox);have GW418:=Aside0.mk ((by rw [hg];exact (below_size (zz95)):w.heap.size≤gb418));have GE418:=Aside0.mk ((by rw [hg];exact (below_size (zz95)):w.heap.size≤gb418));replace HB:=Aside0.mk (below_step (zz95) hb);have NB417_418:=Aside0.mk ((by rw [hg];exact Nat.ne_of_lt (blk_lt (g:=gb417) (o:=.cells #[.slice A0_0 l0_0.length c0_0,.slice A0_1 l0_1.length c0_1] 24 (0,0)) (zz94)):gb417 ≠ gb418));have NB418_417:=Aside0.mk ((by rw [hg];exact Nat.ne_of_gt (blk_lt (g:=gb417) (o:=.cells #[.slice A0_0 l0_0.length c0_0,.slice A0_1 l0_1.length c0_1] 24 (0,0)) (zz94)):gb418 ≠ gb417));replace BK417:=Aside0.mk (blk_below (g:=gb417) (o:=.cells #[.slice A0_0 l0_0.length c0_0,.slice A0_1 l0_1.length c0_1] 24 (0,0)) (zz94) hb);clear hb hbox hg;have hnb62:=NB417_418.out;have hnc62:=NB418_417.out;have hcz63_0:w61.cell? ⟨gb417,0,none⟩ = some (.slice A0_0 l0_0.length c0_0):=(blk_cell BK417.out 0).trans rfl;have hcz63_1:w61.cell? ⟨gb417,1,none⟩ = some (.slice A0_1 l0_1.length c0_1):=(blk_cell BK417.out 1).trans rfl;have hfz63_0:=blk_frozen BK417.out 0;have hfz63_1:=blk_frozen BK417.out 1)|((with_reducible refine gate_callee (f:=32) rfl ?_);refine goesL_ (some 10) rfl rfl Try.func32 (zz0) rfl #[.agg #[.slice A0_0 l0_0.length c0_0,.slice A0_1 l0_1.length c0_1]] rfl (zz15) ?_;(with_reducible refine (examboardref18_Valid.calls k _ _ l0_0 _ _ l0_1 t419 _ ?side1 ?side2 ?side3 ?side4 A4.out).mono ?_);(case side1=>exact zz123);(case side2=>exact zz124);(case side3=>exact zz125);(case side4=>exact zz126);rintro e w64 ⟨rfl,hb⟩;refine ⟨_,rfl,?_⟩;replace BK417:=Aside0.mk (blk_below (g:=gb417) (o:=.cells #[.slice A0_0 l0_0.length c0_0,.slice A0_1 l0_1.length c0_1] 24 (0,0)) (zz94) hb);replace BK418:=Aside0.mk (blk_below (g:=gb418) (o:=.cells #[.slice A2_0 l2_0.length c2_0,.slice A2_1 l2_1.length c2_1,.slice A2_2 l2_2.length c2_2] 36 (0,0)) (zz96) hb);replace HB:=Aside0.mk (below_step (zz97) hb);(try clear hb);(try clear hb2);(try clear hk);(try clear hi)))
  go_ret2
  exact ⟨_,zz5,zz77,zz97⟩
def examboardlaw28_CalibrateTotals.f (k:Nat) (l0_0:List Int) (l0_1:List Int) (l1:List (S56)) (l2_0:List Int) (l2_1:List Int) (l2_2:List (List Int)):Option (Bool):=(examboardlaw28_heavy.f l2_0 l2_1 l2_2).bind fun t430=>(if t430 = true then (some true) else ((calibrate_Total.f k l0_0 l0_1 l1 l2_0 l2_1 l2_2).bind fun bt431=>((examboardref28_Total.f k l0_0 l0_1 l1 l2_0 l2_1 l2_2).bind fun bt435=>(if bt431.2 = bt435.2 then ((examboardlaw28_limbs.f k bt431.1 bt435.1).bind fun t439=>(some t439)) else (some false)))))
theorem examboardlaw28_CalibrateTotals.mono:∀ a0 a1 a2 a3 a4 a5 k,LeO (examboardlaw28_CalibrateTotals.f k a0 a1 a2 a3 a4 a5) (examboardlaw28_CalibrateTotals.f (k+1) a0 a1 a2 a3 a4 a5):=by
 intro a0 a1 a2 a3 a4 a5 k
 unfold examboardlaw28_CalibrateTotals.f
 repeat' first
   | (with_reducible exact calibrate_Total.mono _ _ _ _ _ _ _)
   | (with_reducible exact examboardlaw28_limbs.mono _ _ _)
   | (with_reducible exact examboardref28_Total.mono _ _ _ _ _ _ _)
   | (with_reducible exact LeO.refl _)
   | (with_reducible exact LeO.none _)
   | (with_reducible refine LeO.ite ?_ ?_)
   | (with_reducible refine LeO.bind ?_ (fun _=>?_))
   | exact calibrate_Total.mono _ _ _ _ _ _ _
   | exact examboardlaw28_limbs.mono _ _ _
   | exact examboardref28_Total.mono _ _ _ _ _ _ _
   | exact LeO.none _
   | refine LeO.ite ?_ ?_
   | refine LeO.bind ?_ (fun _=>?_)
set_option maxHeartbeats 8000000 in
set_option maxRecDepth 100000 in
theorem examboardlaw28_CalibrateTotals.calls (k:Nat) (A0_0:Option Addr) (c0_0:Nat) (l0_0:List Int) (A0_1:Option Addr) (c0_1:Nat) (l0_1:List Int) (A1:Option Addr) (c1:Nat) (l1:List (S56)) (A2_0:Option Addr) (c2_0:Nat) (l2_0:List Int) (A2_1:Option Addr) (c2_1:Nat) (l2_1:List Int) (A2_2:Option Addr) (c2_2:Nat) (l2_2:List (List Int)) (r:Bool) (w:World) (hr0_0:Kd.C (Kd.int .i64) w A0_0 l0_0.length l0_0) (hc0_0:l0_0.length≤c0_0) (hr0_1:Kd.C (Kd.int .i64) w A0_1 l0_1.length l0_1) (hc0_1:l0_1.length≤c0_1) (hr1:Kd.C k56 w A1 l1.length l1) (hc1:l1.length≤c1) (hr2_0:Kd.C (Kd.int .i64) w A2_0 l2_0.length l2_0) (hc2_0:l2_0.length≤c2_0) (hr2_1:Kd.C (Kd.int .i64) w A2_1 l2_1.length l2_1) (hc2_1:l2_1.length≤c2_1) (hr2_2:Kd.C (Kd.slice 3 (Kd.int .i64)) w A2_2 l2_2.length l2_2) (hc2_2:l2_2.length≤c2_2) (h:examboardlaw28_CalibrateTotals.f k l0_0 l0_1 l1 l2_0 l2_1 l2_2 = some r) :
  Calls Try.prog 4 #[.agg #[.slice A0_0 l0_0.length c0_0,.slice A0_1 l0_1.length c0_1],.slice A1 l1.length c1,.agg #[.slice A2_0 l2_0.length c2_0,.slice A2_1 l2_1.length c2_1,.slice A2_2 l2_2.length c2_2]] w fun e w'=>e = .returned (.bool r)∧Below w.heap.size w w':=by
 have hu24:=Try.underlying24
 have hu36:=Try.underlying36
 have HR0_0:=Aside0.mk hr0_0
 have HC0_0:=Aside0.mk hc0_0
 clear hr0_0 hc0_0
 have HR0_1:=Aside0.mk hr0_1
 have HC0_1:=Aside0.mk hc0_1
 clear hr0_1 hc0_1
 have HR1:=Aside0.mk hr1
 have HC1:=Aside0.mk hc1
 clear hr1 hc1
 have HR2_0:=Aside0.mk hr2_0
 have HC2_0:=Aside0.mk hc2_0
 clear hr2_0 hc2_0
 have HR2_1:=Aside0.mk hr2_1
 have HC2_1:=Aside0.mk hc2_1
 clear hr2_1 hc2_1
 have HR2_2:=Aside0.mk hr2_2
 have HC2_2:=Aside0.mk hc2_2
 clear hr2_2 hc2_2
 have HB:=Aside0.mk (Below.refl w.heap.size w)
 have H:((examboardlaw28_heavy.f l2_0 l2_1 l2_2).bind fun t430=>(if t430 = true then (some true) else ((calibrate_Total.f k l0_0 l0_1 l1 l2_0 l2_1 l2_2).bind fun bt431=>((examboardref28_Total.f k l0_0 l0_1 l1 l2_0 l2_1 l2_2).bind fun bt435=>(if bt431.2 = bt435.2 then ((examboardlaw28_limbs.f k bt431.1 bt435.1).bind fun t439=>(some t439)) else (some false)))))) = some r:=h
 clear h
 replace H:=Option.bind_eq_some_iff.mp H
 obtain ⟨t430,A40,H⟩:=H
 replace H:(if t430 = true then (some true) else ((calibrate_Total.f k l0_0 l0_1 l1 l2_0 l2_1 l2_2).bind fun bt431=>((examboardref28_Total.f k l0_0 l0_1 l1 l2_0 l2_1 l2_2).bind fun bt435=>(if bt431.2 = bt435.2 then ((examboardlaw28_limbs.f k bt431.1 bt435.1).bind fun t439=>(some t439)) else (some false))))) = some r:=H
 have A4:=Aside0.mk A40
 clear A40
 by_cases c5:t430 = true
 ·subst c5
  have H1:(some true) = some r:=zz9
  clear H
  have H:=H1
  clear H1
  obtain rfl:=Option.some.inj H
  go_enter Try.func4,Try.ntmps4
  go_wp2_with (first|((with_reducible refine gate_dst (N:=3) rfl ?_);refine box_event ?hg (N:=3) ?hd (cs:=#[.slice A0_0 l0_0.length c0_0,.slice A0_1 l0_1.length c0_1]) (t:=24) ?hr ?_;(case hd=>rfl);(case hg=>rfl);(case hr=>exact zz122);intro gb428 hg w6 hbox hb;have BK428:=Aside0.mk (hbox);have GW428:=Aside0.mk ((by rw [hg];exact (below_size (zz4)):w.heap.size≤gb428));have GE428:=Aside0.mk ((by rw [hg];exact (below_size (zz4)):w.heap.size≤gb428));replace HB:=Aside0.mk (below_step (zz4) hb);clear hb hbox hg)|((with_reducible refine gate_dst (N:=5) rfl ?_);refine box_event ?hg (N:=5) ?hd (cs:=#[.slice A2_0 l2_0.length c2_0,.slice A2_1 l2_1.length c2_1,.slice A2_2 l2_2.length c2_2]) (t:=36) ?hr ?_;(case hd=>rfl);(case hg=>rfl);(case hr=>exact zz122);intro gb429 hg w7 hbox hb;have BK429:=Aside0.mk (hbox);have GW429:=Aside0.mk ((by rw [hg];exact (below_size (zz100)):w.heap.size≤gb429));have GE429:=Aside0.mk ((by rw [hg];exact (below_size (zz100)):w.heap.size≤gb429));replace HB:=Aside0.mk (below_step (zz100) hb);have NB428_429:=Aside0.mk ((by rw [hg];exact Nat.ne_of_lt (blk_lt (g:=gb428) (o:=.cells #[.slice A0_0 l0_0.length c0_0,.slice A0_1 l0_1.length c0_1] 24 (0,0)) (zz99)):gb428 ≠ gb429));have NB429_428:=Aside0.mk ((by rw [hg];exact Nat.ne_of_gt (blk_lt (g:=gb428) (o:=.cells #[.slice A0_0 l0_0.length c0_0,.slice A0_1 l0_1.length c0_1] 24 (0,0)) (zz99)):gb429 ≠ gb428));replace BK428:=Aside0.mk (blk_below (g:=gb428) (o:=.cells #[.slice A0_0 l0_0.length c0_0,.slice A0_1 l0_1.length c0_1] 24 (0,0)) (zz99) hb);clear hb hbox hg;have hnb8:=NB429_428.out;have hnc8:=NB428_429.out;have hcz9_0:w7.cell? ⟨gb429,0,none⟩ = some (.slice A2_0 l2_0.length c2_0):=(blk_cell BK429.out 0).trans rfl;have hcz9_1:w7.cell? ⟨gb429,1,none⟩ = some (.slice A2_1 l2_1.length c2_1):=(blk_cell BK429.out 1).trans rfl;have hcz9_2:w7.cell? ⟨gb429,2,none⟩ = some (.slice A2_2 l2_2.length c2_2):=(blk_cell BK429.out 2).trans rfl;have hfz9_0:=blk_frozen BK429.out 0;have hfz9_1:=blk_frozen BK429.out 1;have hfz9_2:=blk_frozen BK429.out 2)|((with_reducible refine gate_callee (f:=13) rfl ?_);refine goesL_ (some 12) rfl rfl Try.func13 (zz0) rfl #[.agg #[.slice A2_0 l2_0.length c2_0,.slice A2_1 l2_1.length c2_1,.slice A2_2 l2_2.length c2_2]] rfl (zz15) ?_;(with_reducible refine (examboardlaw28_heavy.calls _ _ l2_0 _ _ l2_1 _ _ l2_2 true _ ?side1 ?side2 ?side3 ?side4 ?side5 ?side6 A4.out).mono ?_);(case side1=>exact zz136);(case side2=>exact HC2_0.out);(case side3=>exact zz137);(case side4=>exact HC2_1.out);(case side5=>exact zz138);(case side6=>exact HC2_2.out);rintro e w10 ⟨rfl,hb⟩;refine ⟨_,rfl,?_⟩;replace BK428:=Aside0.mk (blk_below (g:=gb428) (o:=.cells #[.slice A0_0 l0_0.length c0_0,.slice A0_1 l0_1.length c0_1] 24 (0,0)) (zz99) hb);replace BK429:=Aside0.mk (blk_below (g:=gb429) (o:=.cells #[.slice A2_0 l2_0.length c2_0,.slice A2_1 l2_1.length c2_1,.slice A2_2 l2_2.length c2_2] 36 (0,0)) (zz101) hb);replace HB:=Aside0.mk (below_step (zz102) hb);(try clear hb);(try clear hb2);(try clear hk);(try clear hi)))
  go_ret
  exact ⟨zz5,zz102⟩
 ·replace c5:=Bool.eq_false_iff.mpr c5
  subst c5
  have H1:((calibrate_Total.f k l0_0 l0_1 l1 l2_0 l2_1 l2_2).bind fun bt431=>((examboardref28_Total.f k l0_0 l0_1 l1 l2_0 l2_1 l2_2).bind fun bt435=>(if bt431.2 = bt435.2 then ((examboardlaw28_limbs.f k bt431.1 bt435.1).bind fun t439=>(some t439)) else (some false)))) = some r:=zz12
  clear H
  have H:=H1
  clear H1
  replace H:=Option.bind_eq_some_iff.mp H
  obtain ⟨⟨t431,t434⟩,A110,H⟩:=H
  replace H:((examboardref28_Total.f k l0_0 l0_1 l1 l2_0 l2_1 l2_2).bind fun bt435=>(if t434 = bt435.2 then ((examboardlaw28_limbs.f k t431 bt435.1).bind fun t439=>(some t439)) else (some false))) = some r:=H
  have A11:=Aside0.mk A110
  clear A110
  replace H:=Option.bind_eq_some_iff.mp H
  obtain ⟨⟨t435,t438⟩,A120,H⟩:=H
  replace H:(if t434 = t438 then ((examboardlaw28_limbs.f k t431 t435).bind fun t439=>(some t439)) else (some false)) = some r:=H
  have A12:=Aside0.mk A120
  clear A120
  by_cases c13:t434 = t438
  ·rw [if_pos c13] at H
   have c13b0:(t434 == t438) = true:=beq_iff_eq.mpr c13
   have c13b1:(t434 != t438) = false:=bne_eq_false_iff_eq.mpr c13
   clear c13
   replace H:=Option.bind_eq_some_iff.mp H
   obtain ⟨t439,A140,H⟩:=H
   replace H:(some t439) = some r:=H
   have A14:=Aside0.mk A140
   clear A140
   obtain rfl:=Option.some.inj H
   go_enter Try.func4,Try.ntmps4
   go_wp2_with (first|((with_reducible refine gate_dst (N:=3) rfl ?_);refine box_event ?hg (N:=3) ?hd (cs:=#[.slice A0_0 l0_0.length c0_0,.slice A0_1 l0_1.length c0_1]) (t:=24) ?hr ?_;(case hd=>rfl);(case hg=>rfl);(case hr=>exact zz122);intro gb428 hg w15 hbox hb;have BK428:=Aside0.mk (hbox);have GW428:=Aside0.mk ((by rw [hg];exact (below_size (zz4)):w.heap.size≤gb428));have GE428:=Aside0.mk ((by rw [hg];exact (below_size (zz4)):w.heap.size≤gb428));replace HB:=Aside0.mk (below_step (zz4) hb);clear hb hbox hg)|((with_reducible refine gate_dst (N:=5) rfl ?_);refine box_event ?hg (N:=5) ?hd (cs:=#[.slice A2_0 l2_0.length c2_0,.slice A2_1 l2_1.length c2_1,.slice A2_2 l2_2.length c2_2]) (t:=36) ?hr ?_;(case hd=>rfl);(case hg=>rfl);(case hr=>exact zz122);intro gb429 hg w16 hbox hb;have BK429:=Aside0.mk (hbox);have GW429:=Aside0.mk ((by rw [hg];exact (below_size (zz100)):w.heap.size≤gb429));have GE429:=Aside0.mk ((by rw [hg];exact (below_size (zz100)):w.heap.size≤gb429));replace HB:=Aside0.mk (below_step (zz100) hb);have NB428_429:=Aside0.mk ((by rw [hg];exact Nat.ne_of_lt (blk_lt (g:=gb428) (o:=.cells #[.slice A0_0 l0_0.length c0_0,.slice A0_1 l0_1.length c0_1] 24 (0,0)) (zz99)):gb428 ≠ gb429));have NB429_428:=Aside0.mk ((by rw [hg];exact Nat.ne_of_gt (blk_lt (g:=gb428) (o:=.cells #[.slice A0_0 l0_0.length c0_0,.slice A0_1 l0_1.length c0_1] 24 (0,0)) (zz99)):gb429 ≠ gb428));replace BK428:=Aside0.mk (blk_below (g:=gb428) (o:=.cells #[.slice A0_0 l0_0.length c0_0,.slice A0_1 l0_1.length c0_1] 24 (0,0)) (zz99) hb);clear hb hbox hg;have hnb17:=NB429_428.out;have hnc17:=NB428_429.out;have hcz18_0:w16.cell? ⟨gb429,0,none⟩ = some (.slice A2_0 l2_0.length c2_0):=(blk_cell BK429.out 0).trans rfl;have hcz18_1:w16.cell? ⟨gb429,1,none⟩ = some (.slice A2_1 l2_1.length c2_1):=(blk_cell BK429.out 1).trans rfl;have hcz18_2:w16.cell? ⟨gb429,2,none⟩ = some (.slice A2_2 l2_2.length c2_2):=(blk_cell BK429.out 2).trans rfl;have hfz18_0:=blk_frozen BK429.out 0;have hfz18_1:=blk_frozen BK429.out 1;have hfz18_2:=blk_frozen BK429.out 2)|((with_reducible refine gate_callee (f:=13) rfl ?_);refine goesL_ (some 12) rfl rfl Try.func13 (zz0) rfl #[.agg #[.slice A2_0 l2_0.length c2_0,.slice A2_1 l2_1.length c2_1,.slice A2_2 l2_2.length c2_2]] rfl (zz15) ?_;(with_reducible refine (examboardlaw28_heavy.calls _ _ l2_0 _ _ l2_1 _ _ l2_2 false _ ?side1 ?side2 ?side3 ?side4 ?side5 ?side6 A4.out).mono ?_);(case side1=>exact zz136);(case side2=>exact HC2_0.out);(case side3=>exact zz137);(case side4=>exact HC2_1.out);(case side5=>exact zz138);(case side6=>exact HC2_2.out);rintro e w19 ⟨rfl,hb⟩;refine ⟨_,rfl,?_⟩;replace BK428:=Aside0.mk (blk_below (g:=gb428) (o:=.cells #[.slice A0_0 l0_0.length c0_0,.slice A0_1 l0_1.length c0_1] 24 (0,0)) (zz99) hb);replace BK429:=Aside0.mk (blk_below (g:=gb429) (o:=.cells #[.slice A2_0 l2_0.length c2_0,.slice A2_1 l2_1.length c2_1,.slice A2_2 l2_2.length c2_2] 36 (0,0)) (zz101) hb);replace HB:=Aside0.mk (below_step (zz102) hb);(try clear hb);(try clear hb2);(try clear hk);(try clear hi);have hcz20_0:w19.cell? ⟨gb428,0,none⟩ = some (.slice A0_0 l0_0.length c0_0):=(blk_cell BK428.out 0).trans rfl;have hcz20_1:w19.cell? ⟨gb428,1,none⟩ = some (.slice A0_1 l0_1.length c0_1):=(blk_cell BK428.out 1).trans rfl;have hfz20_0:=blk_frozen BK428.out 0;have hfz20_1:=blk_frozen BK428.out 1;have hcz21_0:w19.cell? ⟨gb429,0,none⟩ = some (.slice A2_0 l2_0.length c2_0):=(blk_cell BK429.out 0).trans rfl;have hcz21_1:w19.cell? ⟨gb429,1,none⟩ = some (.slice A2_1 l2_1.length c2_1):=(blk_cell BK429.out 1).trans rfl;have hcz21_2:w19.cell? ⟨gb429,2,none⟩ = some (.slice A2_2 l2_2.length c2_2):=(blk_cell BK429.out 2).trans rfl;have hfz21_0:=blk_frozen BK429.out 0;have hfz21_1:=blk_frozen BK429.out 1;have hfz21_2:=blk_frozen BK429.out 2)|((with_reducible refine gate_callee (f:=14) rfl ?_);refine goesL_ (some 17) rfl rfl Try.func14 (zz0) rfl #[.agg #[.slice A0_0 l0_0.length c0_0,.slice A0_1 l0_1.length c0_1],.slice A1 l1.length c1,.agg #[.slice A2_0 l2_0.length c2_0,.slice A2_1 l2_1.length c2_1,.slice A2_2 l2_2.length c2_2]] rfl (zz15) ?_;(with_reducible refine (calibrate_Total.calls k _ _ l0_0 _ _ l0_1 _ _ l1 _ _ l2_0 _ _ l2_1 _ _ l2_2 t431 t434 _ ?side1 ?side2 ?side3 ?side4 ?side5 ?side6 ?side7 ?side8 ?side9 ?side10 ?side11 ?side12 A11.out).mono ?_);(case side1=>exact zz123);(case side2=>exact zz124);(case side3=>exact zz125);(case side4=>exact zz126);(case side5=>exact zz129);(case side6=>exact HC1.out);(case side7=>exact zz136);(case side8=>exact HC2_0.out);(case side9=>exact zz137);(case side10=>exact HC2_1.out);(case side11=>exact zz138);(case side12=>exact HC2_2.out);rintro e w22 ⟨v432,rfl,ho0,hb⟩;refine ⟨_,rfl,?_⟩;have HO433:=Aside0.mk (Kd.V_lower (Kd.V_mono (ok':=fun k_=>k_ ≠ gb428∧k_ ≠ gb429) ho0 (fun k_ hk_=>⟨(Kd.freshB (g:=gb428) (o:=.cells #[.slice A0_0 l0_0.length c0_0,.slice A0_1 l0_1.length c0_1] 24 (0,0)) (zz99) k_ hk_),(Kd.freshB (g:=gb429) (o:=.cells #[.slice A2_0 l2_0.length c2_0,.slice A2_1 l2_1.length c2_1,.slice A2_2 l2_2.length c2_2] 36 (0,0)) (zz101) k_ hk_)⟩)) (below_size (zz102)));replace BK428:=Aside0.mk (blk_below (g:=gb428) (o:=.cells #[.slice A0_0 l0_0.length c0_0,.slice A0_1 l0_1.length c0_1] 24 (0,0)) (zz99) hb);replace BK429:=Aside0.mk (blk_below (g:=gb429) (o:=.cells #[.slice A2_0 l2_0.length c2_0,.slice A2_1 l2_1.length c2_1,.slice A2_2 l2_2.length c2_2] 36 (0,0)) (zz101) hb);replace HB:=Aside0.mk (below_step (zz102) hb);(try clear hb);(try clear hb2);(try clear hk);(try clear hi);(try clear ho0);have hcz23_0:w22.cell? ⟨gb428,0,none⟩ = some (.slice A0_0 l0_0.length c0_0):=(blk_cell BK428.out 0).trans rfl;have hcz23_1:w22.cell? ⟨gb428,1,none⟩ = some (.slice A0_1 l0_1.length c0_1):=(blk_cell BK428.out 1).trans rfl;have hfz23_0:=blk_frozen BK428.out 0;have hfz23_1:=blk_frozen BK428.out 1;have hcz24_0:w22.cell? ⟨gb429,0,none⟩ = some (.slice A2_0 l2_0.length c2_0):=(blk_cell BK429.out 0).trans rfl;have hcz24_1:w22.cell? ⟨gb429,1,none⟩ = some (.slice A2_1 l2_1.length c2_1):=(blk_cell BK429.out 1).trans rfl;have hcz24_2:w22.cell? ⟨gb429,2,none⟩ = some (.slice A2_2 l2_2.length c2_2):=(blk_cell BK429.out 2).trans rfl;have hfz24_0:=blk_frozen BK429.out 0;have hfz24_1:=blk_frozen BK429.out 1;have hfz24_2:=blk_frozen BK429.out 2)|((with_reducible refine gate_callee (f:=15) rfl ?_);refine goesL_ (some 24) rfl rfl Try.func15 (zz0) rfl #[.agg #[.slice A0_0 l0_0.length c0_0,.slice A0_1 l0_1.length c0_1],.slice A1 l1.length c1,.agg #[.slice A2_0 l2_0.length c2_0,.slice A2_1 l2_1.length c2_1,.slice A2_2 l2_2.length c2_2]] rfl (zz15) ?_;(with_reducible refine (examboardref28_Total.calls k _ _ l0_0 _ _ l0_1 _ _ l1 _ _ l2_0 _ _ l2_1 _ _ l2_2 t435 t438 _ ?side1 ?side2 ?side3 ?side4 ?side5 ?side6 ?side7 ?side8 ?side9 ?side10 ?side11 ?side12 A12.out).mono ?_);(case side1=>exact zz123);(case side2=>exact zz124);(case side3=>exact zz125);(case side4=>exact zz126);(case side5=>exact zz129);(case side6=>exact HC1.out);(case side7=>exact zz136);(case side8=>exact HC2_0.out);(case side9=>exact zz137);(case side10=>exact HC2_1.out);(case side11=>exact zz138);(case side12=>exact HC2_2.out);rintro e w25 ⟨v436,rfl,ho0,hb⟩;refine ⟨_,rfl,?_⟩;replace HO433:=Aside0.mk (Kd.V_elder' (by (with_reducible repeat (first|apply Kd.V_alloc|apply Kd.V_drewN|apply Kd.V_drew));exact HO433.out) (Kd.R_base ho0) hb);have HO437:=Aside0.mk (Kd.R_lower ho0 (below_size (zz102)));replace BK428:=Aside0.mk (blk_below (g:=gb428) (o:=.cells #[.slice A0_0 l0_0.length c0_0,.slice A0_1 l0_1.length c0_1] 24 (0,0)) (zz99) hb);replace BK429:=Aside0.mk (blk_below (g:=gb429) (o:=.cells #[.slice A2_0 l2_0.length c2_0,.slice A2_1 l2_1.length c2_1,.slice A2_2 l2_2.length c2_2] 36 (0,0)) (zz101) hb);replace HB:=Aside0.mk (below_step (zz102) hb);(try clear hb);(try clear hb2);(try clear hk);(try clear hi);(try clear ho0);obtain ⟨Ao26,co26,eo26⟩:=Kd.V_slice HO433.out;subst eo26;obtain ⟨Ao27,co27,eo27⟩:=Kd.R_slice HO437.out;subst eo27)|(go_at_call 12;(with_reducible refine (examboardlaw28_limbs.calls k _ _ t431 _ _ t435 t439 _ ?side1 ?side2 ?side3 ?side4 A14.out).mono ?_);(case side1=>repeat (first|exact (Kd.V_reads' HO433.out).2.2|(with_reducible refine Kd.C_alloc ?_ _)|(with_reducible refine Kd.C_drewN ?_ _)|(with_reducible refine Kd.C_drew ?_)));(case side2=>exact (Kd.V_reads' HO433.out).2.1);(case side3=>repeat (first|exact (Kd.R_reads' HO437.out).2.2|(with_reducible refine Kd.C_alloc ?_ _)|(with_reducible refine Kd.C_drewN ?_ _)|(with_reducible refine Kd.C_drew ?_)));(case side4=>exact (Kd.R_reads' HO437.out).2.1);rintro e w' ⟨rfl,⟨nd,rfl⟩⟩))
   go_ret
   exact ⟨zz5,zz102⟩
  ·rw [if_neg c13] at H
   have c13b0:(t434 == t438) = false:=beq_eq_false_iff_ne.mpr c13
   have c13b1:(t434 != t438) = true:=bne_iff_ne.mpr c13
   obtain rfl:=Option.some.inj H
   go_enter Try.func4,Try.ntmps4
   go_wp2_with (first|((with_reducible refine gate_dst (N:=3) rfl ?_);refine box_event ?hg (N:=3) ?hd (cs:=#[.slice A0_0 l0_0.length c0_0,.slice A0_1 l0_1.length c0_1]) (t:=24) ?hr ?_;(case hd=>rfl);(case hg=>rfl);(case hr=>exact zz122);intro gb428 hg w28 hbox hb;have BK428:=Aside0.mk (hbox);have GW428:=Aside0.mk ((by rw [hg];exact (below_size (zz4)):w.heap.size≤gb428));have GE428:=Aside0.mk ((by rw [hg];exact (below_size (zz4)):w.heap.size≤gb428));replace HB:=Aside0.mk (below_step (zz4) hb);clear hb hbox hg)|((with_reducible refine gate_dst (N:=5) rfl ?_);refine box_event ?hg (N:=5) ?hd (cs:=#[.slice A2_0 l2_0.length c2_0,.slice A2_1 l2_1.length c2_1,.slice A2_2 l2_2.length c2_2]) (t:=36) ?hr ?_;(case hd=>rfl);(case hg=>rfl);(case hr=>exact zz122);intro gb429 hg w29 hbox hb;have BK429:=Aside0.mk (hbox);have GW429:=Aside0.mk ((by rw [hg];exact (below_size (zz100)):w.heap.size≤gb429));have GE429:=Aside0.mk ((by rw [hg];exact (below_size (zz100)):w.heap.size≤gb429));replace HB:=Aside0.mk (below_step (zz100) hb);have NB428_429:=Aside0.mk ((by rw [hg];exact Nat.ne_of_lt (blk_lt (g:=gb428) (o:=.cells #[.slice A0_0 l0_0.length c0_0,.slice A0_1 l0_1.length c0_1] 24 (0,0)) (zz99)):gb428 ≠ gb429));have NB429_428:=Aside0.mk ((by rw [hg];exact Nat.ne_of_gt (blk_lt (g:=gb428) (o:=.cells #[.slice A0_0 l0_0.length c0_0,.slice A0_1 l0_1.length c0_1] 24 (0,0)) (zz99)):gb429 ≠ gb428));replace BK428:=Aside0.mk (blk_below (g:=gb428) (o:=.cells #[.slice A0_0 l0_0.length c0_0,.slice A0_1 l0_1.length c0_1] 24 (0,0)) (zz99) hb);clear hb hbox hg;have hnb30:=NB429_428.out;have hnc30:=NB428_429.out;have hcz31_0:w29.cell? ⟨gb429,0,none⟩ = some (.slice A2_0 l2_0.length c2_0):=(blk_cell BK429.out 0).trans rfl;have hcz31_1:w29.cell? ⟨gb429,1,none⟩ = some (.slice A2_1 l2_1.length c2_1):=(blk_cell BK429.out 1).trans rfl;have hcz31_2:w29.cell? ⟨gb429,2,none⟩ = some (.slice A2_2 l2_2.length c2_2):=(blk_cell BK429.out 2).trans rfl;have hfz31_0:=blk_frozen BK429.out 0;have hfz31_1:=blk_frozen BK429.out 1;have hfz31_2:=blk_frozen BK429.out 2)|((with_reducible refine gate_callee (f:=13) rfl ?_);refine goesL_ (some 12) rfl rfl Try.func13 (zz0) rfl #[.agg #[.slice A2_0 l2_0.length c2_0,.slice A2_1 l2_1.length c2_1,.slice A2_2 l2_2.length c2_2]] rfl (zz15) ?_;(with_reducible refine (examboardlaw28_heavy.calls _ _ l2_0 _ _ l2_1 _ _ l2_2 false _ ?side1 ?side2 ?side3 ?side4 ?side5 ?side6 A4.out).mono ?_);(case side1=>exact zz136);(case side2=>exact HC2_0.out);(case side3=>exact zz137);(case side4=>exact HC2_1.out);(case side5=>exact zz138);(case side6=>exact HC2_2.out);rintro e w32 ⟨rfl,hb⟩;refine ⟨_,rfl,?_⟩;replace BK428:=Aside0.mk (blk_below (g:=gb428) (o:=.cells #[.slice A0_0 l0_0.length c0_0,.slice A0_1 l0_1.length c0_1] 24 (0,0)) (zz99) hb);replace BK429:=Aside0.mk (blk_below (g:=gb429) (o:=.cells #[.slice A2_0 l2_0.length c2_0,.slice A2_1 l2_1.length c2_1,.slice A2_2 l2_2.length c2_2] 36 (0,0)) (zz101) hb);replace HB:=Aside0.mk (below_step (zz102) hb);(try clear hb);(try clear hb2);(try clear hk);(try clear hi);have hcz33_0:w32.cell? ⟨gb428,0,none⟩ = some (.slice A0_0 l0_0.length c0_0):=(blk_cell BK428.out 0).trans rfl;have hcz33_1:w32.cell? ⟨gb428,1,none⟩ = some (.slice A0_1 l0_1.length c0_1):=(blk_cell BK428.out 1).trans rfl;have hfz33_0:=blk_frozen BK428.out 0;have hfz33_1:=blk_frozen BK428.out 1;have hcz34_0:w32.cell? ⟨gb429,0,none⟩ = some (.slice A2_0 l2_0.length c2_0):=(blk_cell BK429.out 0).trans rfl;have hcz34_1:w32.cell? ⟨gb429,1,none⟩ = some (.slice A2_1 l2_1.length c2_1):=(blk_cell BK429.out 1).trans rfl;have hcz34_2:w32.cell? ⟨gb429,2,none⟩ = some (.slice A2_2 l2_2.length c2_2):=(blk_cell BK429.out 2).trans rfl;have hfz34_0:=blk_frozen BK429.out 0;have hfz34_1:=blk_frozen BK429.out 1;have hfz34_2:=blk_frozen BK429.out 2)|((with_reducible refine gate_callee (f:=14) rfl ?_);refine goesL_ (some 17) rfl rfl Try.func14 (zz0) rfl #[.agg #[.slice A0_0 l0_0.length c0_0,.slice A0_1 l0_1.length c0_1],.slice A1 l1.length c1,.agg #[.slice A2_0 l2_0.length c2_0,.slice A2_1 l2_1.length c2_1,.slice A2_2 l2_2.length c2_2]] rfl (zz15) ?_;(with_reducible refine (calibrate_Total.calls k _ _ l0_0 _ _ l0_1 _ _ l1 _ _ l2_0 _ _ l2_1 _ _ l2_2 t431 t434 _ ?side1 ?side2 ?side3 ?side4 ?side5 ?side6 ?side7 ?side8 ?side9 ?side10 ?side11 ?side12 A11.out).mono ?_);(case side1=>exact zz123);(case side2=>exact zz124);(case side3=>exact zz125);(case side4=>exact zz126);(case side5=>exact zz129);(case side6=>exact HC1.out);(case side7=>exact zz136);(case side8=>exact HC2_0.out);(case side9=>exact zz137);(case side10=>exact HC2_1.out);(case side11=>exact zz138);(case side12=>exact HC2_2.out);rintro e w35 ⟨v432,rfl,ho0,hb⟩;refine ⟨_,rfl,?_⟩;have HO433:=Aside0.mk (Kd.V_lower (Kd.V_mono (ok':=fun k_=>k_ ≠ gb428∧k_ ≠ gb429) ho0 (fun k_ hk_=>⟨(Kd.freshB (g:=gb428) (o:=.cells #[.slice A0_0 l0_0.length c0_0,.slice A0_1 l0_1.length c0_1] 24 (0,0)) (zz99) k_ hk_),(Kd.freshB (g:=gb429) (o:=.cells #[.slice A2_0 l2_0.length c2_0,.slice A2_1 l2_1.length c2_1,.slice A2_2 l2_2.length c2_2] 36 (0,0)) (zz101) k_ hk_)⟩)) (below_size (zz102)));replace BK428:=Aside0.mk (blk_below (g:=gb428) (o:=.cells #[.slice A0_0 l0_0.length c0_0,.slice A0_1 l0_1.length c0_1] 24 (0,0)) (zz99) hb);replace BK429:=Aside0.mk (blk_below (g:=gb429) (o:=.cells #[.slice A2_0 l2_0.length c2_0,.slice A2_1 l2_1.length c2_1,.slice A2_2 l2_2.length c2_2] 36 (0,0)) (zz101) hb);replace HB:=Aside0.mk (below_step (zz102) hb);(try clear hb);(try clear hb2);(try clear hk);(try clear hi);(try clear ho0);have hcz36_0:w35.cell? ⟨gb428,0,none⟩ = some (.slice A0_0 l0_0.length c0_0):=(blk_cell BK428.out 0).trans rfl;have hcz36_1:w35.cell? ⟨gb428,1,none⟩ = some (.slice A0_1 l0_1.length c0_1):=(blk_cell BK428.out 1).trans rfl;have hfz36_0:=blk_frozen BK428.out 0;have hfz36_1:=blk_frozen BK428.out 1;have hcz37_0:w35.cell? ⟨gb429,0,none⟩ = some (.slice A2_0 l2_0.length c2_0):=(blk_cell BK429.out 0).trans rfl;have hcz37_1:w35.cell? ⟨gb429,1,none⟩ = some (.slice A2_1 l2_1.length c2_1):=(blk_cell BK429.out 1).trans rfl;have hcz37_2:w35.cell? ⟨gb429,2,none⟩ = some (.slice A2_2 l2_2.length c2_2):=(blk_cell BK429.out 2).trans rfl;have hfz37_0:=blk_frozen BK429.out 0;have hfz37_1:=blk_frozen BK429.out 1;have hfz37_2:=blk_frozen BK429.out 2)|((with_reducible refine gate_callee (f:=15) rfl ?_);refine goesL_ (some 24) rfl rfl Try.func15 (zz0) rfl #[.agg #[.slice A0_0 l0_0.length c0_0,.slice A0_1 l0_1.length c0_1],.slice A1 l1.length c1,.agg #[.slice A2_0 l2_0.length c2_0,.slice A2_1 l2_1.length c2_1,.slice A2_2 l2_2.length c2_2]] rfl (zz15) ?_;(with_reducible refine (examboardref28_Total.calls k _ _ l0_0 _ _ l0_1 _ _ l1 _ _ l2_0 _ _ l2_1 _ _ l2_2 t435 t438 _ ?side1 ?side2 ?side3 ?side4 ?side5 ?side6 ?side7 ?side8 ?side9 ?side10 ?side11 ?side12 A12.out).mono ?_);(case side1=>exact zz123);(case side2=>exact zz124);(case side3=>exact zz125);(case side4=>exact zz126);(case side5=>exact zz129);(case side6=>exact HC1.out);(case side7=>exact zz136);(case side8=>exact HC2_0.out);(case side9=>exact zz137);(case side10=>exact HC2_1.out);(case side11=>exact zz138);(case side12=>exact HC2_2.out);rintro e w38 ⟨v436,rfl,ho0,hb⟩;refine ⟨_,rfl,?_⟩;replace HO433:=Aside0.mk (Kd.V_elder' (by (with_reducible repeat (first|apply Kd.V_alloc|apply Kd.V_drewN|apply Kd.V_drew));exact HO433.out) (Kd.R_base ho0) hb);have HO437:=Aside0.mk (Kd.R_lower ho0 (below_size (zz102)));replace BK428:=Aside0.mk (blk_below (g:=gb428) (o:=.cells #[.slice A0_0 l0_0.length c0_0,.slice A0_1 l0_1.length c0_1] 24 (0,0)) (zz99) hb);replace BK429:=Aside0.mk (blk_below (g:=gb429) (o:=.cells #[.slice A2_0 l2_0.length c2_0,.slice A2_1 l2_1.length c2_1,.slice A2_2 l2_2.length c2_2] 36 (0,0)) (zz101) hb);replace HB:=Aside0.mk (below_step (zz102) hb);(try clear hb);(try clear hb2);(try clear hk);(try clear hi);(try clear ho0)))
   go_ret
   exact ⟨zz5,zz102⟩
def bits_Len32.f (a0:Int):Option (Int):=if 0≤a0 then (if a0≤4294967295 then (some (Lib.bitLen a0.toNat:Int)) else (none)) else (none)
theorem bits_Len32.calls (a0:Int) (r:Int) (w:World) (h:bits_Len32.f a0 = some r) :
  Calls Try.prog 45 #[.int .u32 a0] w fun e w'=>e = .returned (.int .i64 r)∧Drawn0 w w':=by
 unfold bits_Len32.f at h
 split at h
 ·split at h
  ·rename_i h0 h1
   obtain rfl:=Option.some.inj h
   exact (Try.bits_Len32 a0 w h0 h1).mono fun e w' he=>⟨he.1,he.2 ▸ Drawn0.refl w⟩
  ·exact absurd h (zz13)
 ·exact absurd h (zz13)
def nat_Bits.f (k:Nat) (l0:List Int):Option (Int):=(nat_trim.f k l0).bind fun t440=>(if (t440.length:Int) = 0 then (some 0) else (if 0≤(wrap64 ((t440.length:Int) - 1)) then (if (wrap64 ((t440.length:Int) - 1)) < (t440.length:Int) then ((bits_Len32.f (rd t440 (wrap64 ((t440.length:Int) - 1)))).bind fun t444=>(some (wrap64 ((wrap64 (32 * (wrap64 ((t440.length:Int) - 1))))+t444)))) else (none)) else (none)))
theorem nat_Bits.mono:∀ a0 k,LeO (nat_Bits.f k a0) (nat_Bits.f (k+1) a0):=by
 intro a0 k
 unfold nat_Bits.f
 repeat' first
   | (with_reducible exact nat_trim.mono _ _)
   | (with_reducible exact LeO.refl _)
   | (with_reducible exact LeO.none _)
   | (with_reducible refine LeO.ite ?_ ?_)
   | (with_reducible refine LeO.bind ?_ (fun _=>?_))
   | exact nat_trim.mono _ _
   | exact LeO.none _
   | refine LeO.ite ?_ ?_
   | refine LeO.bind ?_ (fun _=>?_)
set_option maxHeartbeats 8000000 in
set_option maxRecDepth 100000 in
theorem nat_Bits.calls (k:Nat) (A0:Option Addr) (c0:Nat) (l0:List Int) (r:Int) (w:World) (hr0:Kd.C (Kd.int .u32) w A0 l0.length l0) (hc0:l0.length≤c0) (h:nat_Bits.f k l0 = some r) :
  Calls Try.prog 16 #[.slice A0 l0.length c0] w fun e w'=>e = .returned (.int .i64 r)∧Below w.heap.size w w':=by
 have HR0:=Aside0.mk hr0
 have HC0:=Aside0.mk hc0
 clear hr0 hc0
 have HB:=Aside0.mk (Below.refl w.heap.size w)
 have H:((nat_trim.f k l0).bind fun t440=>(if (t440.length:Int) = 0 then (some 0) else (if 0≤(wrap64 ((t440.length:Int) - 1)) then (if (wrap64 ((t440.length:Int) - 1)) < (t440.length:Int) then ((bits_Len32.f (rd t440 (wrap64 ((t440.length:Int) - 1)))).bind fun t444=>(some (wrap64 ((wrap64 (32 * (wrap64 ((t440.length:Int) - 1))))+t444)))) else (none)) else (none)))) = some r:=h
 clear h
 replace H:=Option.bind_eq_some_iff.mp H
 obtain ⟨t440,A20,H⟩:=H
 replace H:(if (t440.length:Int) = 0 then (some 0) else (if 0≤(wrap64 ((t440.length:Int) - 1)) then (if (wrap64 ((t440.length:Int) - 1)) < (t440.length:Int) then ((bits_Len32.f (rd t440 (wrap64 ((t440.length:Int) - 1)))).bind fun t444=>(some (wrap64 ((wrap64 (32 * (wrap64 ((t440.length:Int) - 1))))+t444)))) else (none)) else (none))) = some r:=H
 have A2:=Aside0.mk A20
 clear A20
 by_cases c3:(t440.length:Int) = 0
 ·rw [if_pos c3] at H
  have c3b0:((t440.length:Int) == 0) = true:=beq_iff_eq.mpr c3
  have c3b1:((t440.length:Int) != 0) = false:=bne_eq_false_iff_eq.mpr c3
  clear c3
  obtain rfl:=Option.some.inj H
  go_enter Try.func16,Try.ntmps16
  go_wp2_with (first|((with_reducible refine gate_callee (f:=44) rfl ?_);refine goesL_ (some 5) rfl rfl Try.func44 (zz0) rfl #[.slice A0 l0.length c0] rfl (zz15) ?_;(with_reducible refine (nat_trim.calls k (fun k_=>k_ < w.heap.size) _ _ l0 t440 _ ?side1 A2.out).mono ?_);(case side1=>exact zz127);rintro e w4 ⟨v441,rfl,ho0,hb⟩;refine ⟨_,rfl,?_⟩;have HO442:=Aside0.mk (Kd.V_lower (Kd.V_mono (ok':=fun k_=>True) ho0 (fun k_ hk_=>trivial)) (below_size (zz4)));replace HB:=Aside0.mk (below_step (zz4) hb);(try clear hb);(try clear hb2);(try clear hk);(try clear hi);(try clear ho0);obtain ⟨Ao5,co5,eo5⟩:=Kd.V_slice HO442.out;subst eo5))
  go_ret
  exact ⟨zz5,zz4⟩
 ·rw [if_neg c3] at H
  have c3b0:((t440.length:Int) == 0) = false:=beq_eq_false_iff_ne.mpr c3
  have c3b1:((t440.length:Int) != 0) = true:=bne_iff_ne.mpr c3
  have c3b2:¬ (t440 = []):=fun h_=>c3 (by rw [h_];rfl)
  obtain ⟨ji6,hji6⟩:∃ j_:Int,(wrap64 ((t440.length:Int) - 1)) = j_:=⟨_,rfl⟩
  replace H:(if 0≤(ji6) then (if (ji6) < (t440.length:Int) then ((bits_Len32.f (rd t440 (ji6))).bind fun t444=>(some (wrap64 ((wrap64 (32 * (ji6)))+t444)))) else (none)) else (none)) = some r:=by first|(rw [hji6] at H;exact H)|(simp only [hji6] at H ⊢;exact H)
  (try rw [hji6] at A2)
  have hji6w:(IntKind.i64.wrap ((t440.length:Int) - 1)) = ji6:=(i64_w _).trans hji6
  by_cases c7:0≤(ji6)
  ·rw [if_pos c7] at H
   have c7b0:decide (0≤(ji6)) = true:=decide_eq_true c7
   clear c7
   by_cases c8:(ji6) < (t440.length:Int)
   ·rw [if_pos c8] at H
    have c8b0:decide ((ji6) < (t440.length:Int)) = true:=decide_eq_true c8
    clear c8
    replace H:=Option.bind_eq_some_iff.mp H
    obtain ⟨t444,A90,H⟩:=H
    replace H:(some (wrap64 ((wrap64 (32 * (ji6)))+t444))) = some r:=H
    have A9:=Aside0.mk A90
    clear A90
    obtain rfl:=Option.some.inj H
    go_enter Try.func16,Try.ntmps16
    go_wp2_with (first|((with_reducible refine gate_callee (f:=44) rfl ?_);refine goesL_ (some 5) rfl rfl Try.func44 (zz0) rfl #[.slice A0 l0.length c0] rfl (zz15) ?_;(with_reducible refine (nat_trim.calls k (fun k_=>k_ < w.heap.size) _ _ l0 t440 _ ?side1 A2.out).mono ?_);(case side1=>exact zz127);rintro e w10 ⟨v441,rfl,ho0,hb⟩;refine ⟨_,rfl,?_⟩;have HO442:=Aside0.mk (Kd.V_lower (Kd.V_mono (ok':=fun k_=>True) ho0 (fun k_ hk_=>trivial)) (below_size (zz4)));replace HB:=Aside0.mk (below_step (zz4) hb);(try clear hb);(try clear hb2);(try clear hk);(try clear hi);(try clear ho0);obtain ⟨Ao11,co11,eo11⟩:=Kd.V_slice HO442.out;subst eo11;have p443:0≤((ji6):Int):=of_decide_eq_true (zz10);have q443:(ji6) < (t440.length:Int):=of_decide_eq_true (zz10);obtain ⟨ad443,e443,hx443_0⟩:=Kd.at_int (Kd.V_reads' HO442.out).2.2 (ji6) p443 q443;cases e443;replace p443:=eq_true p443;replace q443:=eq_true q443)|((with_reducible refine gate_callee (f:=45) rfl ?_);refine goesL_ (some 19) rfl rfl Try.func45 (zz0) rfl #[.int .u32 (rd t440 (ji6))] rfl (by (try simp only [List.map_toArray,List.map_cons,List.map_nil]);first|done|(simp only [hji6];rfl)|rfl|(simp only [List.length_drop,List.length_take];rfl)) ?_;(with_reducible refine (bits_Len32.calls (rd t440 (ji6)) t444 _ A9.out).mono ?_);rintro e w' ⟨rfl,⟨nd,rfl⟩⟩;refine ⟨_,rfl,?_⟩))
    go_ret
    exact ⟨by first|rfl|(simp [errW_none,errW_some]<;>rfl)|(simp only [← hji6];first|rfl|(simp [errW_none,errW_some]<;>rfl))|(simp [*,errW_none,errW_some]<;>rfl),zz4⟩
   ·rw [if_neg c8] at H
    exact absurd H (zz13)
  ·rw [if_neg c7] at H
   exact absurd H (zz13)
end Go.Proofs.Ytmcegphcjphdcaa.QA
