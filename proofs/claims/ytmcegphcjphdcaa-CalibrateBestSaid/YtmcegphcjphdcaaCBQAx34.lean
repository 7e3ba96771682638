import Derived.Test.YtmcegphcjphdcaaCBQAx0
import Derived.Test.YtmcegphcjphdcaaCBQAx11
import Derived.Test.YtmcegphcjphdcaaCBQAx18
import Derived.Test.YtmcegphcjphdcaaCBQAx20
import Derived.Test.YtmcegphcjphdcaaCBQAx22
import Derived.Test.YtmcegphcjphdcaaCBQAx33
namespace Go.Proofs.Ytmcegphcjphdcaa.QA
open Go.RowKit Go.Proofs.YtmcegphcjphdcaaW.PrintWords Go.Proofs.YtmcegphcjphdcaaW.PrintLast Go.Proofs.YtmcegphcjphdcaaW.PrintMore
attribute [local go_sem] max2_int min2_int max_two min_two max_three min_three max_four min_four
set_option linter.unusedVariables false
set_option linter.unusedSimpArgs false
mutual
def U10.j0:Nat→List (S56)→Int→List (S56)→Bool→List Int→List Int→List Int→List Int→List (List Int)→Option (Bool)
 | 0,_,_,_,_,_,_,_,_,_=>none
 | k+1,x1,x3,x4,x24,x761000,x761001,x762000,x762001,x762002=>if x24 = true then (some true) else ((U0.f k x761000 x761001 x1 x762000 x762001 x762002 x3 x4).bind fun bt764=>(if bt764.2 = 0 then (if bt764.1 < 0 then (U10.j1 k x1 x3 x4 bt764.1 true x761000 x761001 x762000 x762001 x762002) else (if bt764.1≥(x4.length:Int) then (U10.j1 k x1 x3 x4 bt764.1 true x761000 x761001 x762000 x762001 x762002) else (if x3 < 0 then (U10.j1 k x1 x3 x4 bt764.1 true x761000 x761001 x762000 x762001 x762002) else (U10.j1 k x1 x3 x4 bt764.1 (decide (x3≥(x1.length:Int))) x761000 x761001 x762000 x762001 x762002)))) else (some (bt764.1 == 0))))
def U10.j1:Nat→List (S56)→Int→List (S56)→Int→Bool→List Int→List Int→List Int→List Int→List (List Int)→Option (Bool)
 | 0,_,_,_,_,_,_,_,_,_,_=>none
 | k+1,x1,x3,x4,x11,x55,x761000,x761001,x762000,x762001,x762002=>if x55 = true then (some false) else (if 0≤x11 then (if x11 < (x4.length:Int) then ((U16.f k x761000 x761001 x1 x762000 x762001 x762002 x3 ((rd_T56 x4 x11).f0)).bind fun bt767=>(if bt767.2 = 0 then ((U49.f k bt767.1).bind fun t771=>(U10.j2 k x1 x3 x4 x11 bt767.1 (t771 == 0) x761000 x761001 x762000 x762001 x762002)) else (U10.j2 k x1 x3 x4 x11 bt767.1 true x761000 x761001 x762000 x762001 x762002))) else (none)) else (none))
def U10.j2:Nat→List (S56)→Int→List (S56)→Int→List Int→Bool→List Int→List Int→List Int→List Int→List (List Int)→Option (Bool)
 | 0,_,_,_,_,_,_,_,_,_,_,_=>none
 | k+1,x1,x3,x4,x11,x13,x74,x761000,x761001,x762000,x762001,x762002=>if x74 = true then (some false) else (U10.l0 k x1 x3 x4 x11 x13 0 x761000 x761001 x762000 x762001 x762002)
def U10.l0:Nat→List (S56)→Int→List (S56)→Int→List Int→Int→List Int→List Int→List Int→List Int→List (List Int)→Option (Bool)
 | 0,_,_,_,_,_,_,_,_,_,_,_=>none
 | k+1,x1,x3,x4,x11,x13,x15,x761000,x761001,x762000,x762001,x762002=>if x15 < (x4.length:Int) then (if 0≤x15 then ((U16.f k x761000 x761001 x1 x762000 x762001 x762002 x3 ((rd_T56 x4 x15).f0)).bind fun bt773=>((U50.f k bt773.1 x13).bind fun t777=>(if bt773.2 = 0 then (if t777 > 0 then (some false) else (if t777 = 0 then (if x15 < x11 then (some false) else (U10.l0 k x1 x3 x4 x11 x13 (wrap64 (x15+1)) x761000 x761001 x762000 x762001 x762002)) else (U10.l0 k x1 x3 x4 x11 x13 (wrap64 (x15+1)) x761000 x761001 x762000 x762001 x762002))) else (some false)))) else (none)) else (some true)
end
def U10.f (k:Nat) (l0_0:List Int) (l0_1:List Int) (l1:List (S56)) (l2_0:List Int) (l2_1:List Int) (l2_2:List (List Int)) (a3:Int) (l4:List (S56)):Option (Bool):=(U14.f l2_0 l2_1 l2_2).bind fun t762=>(if t762 = true then (U10.j0 k l1 a3 l4 true l0_0 l0_1 l2_0 l2_1 l2_2) else ((U17.f l4).bind fun t763=>(U10.j0 k l1 a3 l4 t763 l0_0 l0_1 l2_0 l2_1 l2_2)))
theorem zm23_0 {P:Prop} (h:P:=by repeat' first|(with_reducible first|exact ih0 ..|exact ih1 ..|exact ih2 ..|exact ih3 ..|exact U0.mono ..|exact U16.mono ..|exact U49.mono ..|exact U50.mono ..|exact LeO.refl _|exact LeO.none _|refine LeO.ite ?_ ?_|refine LeO.bind ?_ (fun _=>?_))|exact ih0 ..|exact ih1 ..|exact ih2 ..|exact ih3 ..|exact U0.mono ..|exact U16.mono ..|exact U49.mono ..|exact U50.mono ..|exact LeO.none _|refine LeO.ite ?_ ?_|refine LeO.bind ?_ (fun _=>?_)):P:=h
theorem U10.mono_l:∀ k,(∀ y0 y1 y2 y3 y4 y5 y6 y7 y8,LeO (U10.j0 k y0 y1 y2 y3 y4 y5 y6 y7 y8) (U10.j0 (k+1) y0 y1 y2 y3 y4 y5 y6 y7 y8))∧(∀ y0 y1 y2 y3 y4 y5 y6 y7 y8 y9,LeO (U10.j1 k y0 y1 y2 y3 y4 y5 y6 y7 y8 y9) (U10.j1 (k+1) y0 y1 y2 y3 y4 y5 y6 y7 y8 y9))∧(∀ y0 y1 y2 y3 y4 y5 y6 y7 y8 y9 y10,LeO (U10.j2 k y0 y1 y2 y3 y4 y5 y6 y7 y8 y9 y10) (U10.j2 (k+1) y0 y1 y2 y3 y4 y5 y6 y7 y8 y9 y10))∧(∀ y0 y1 y2 y3 y4 y5 y6 y7 y8 y9 y10,LeO (U10.l0 k y0 y1 y2 y3 y4 y5 y6 y7 y8 y9 y10) (U10.l0 (k+1) y0 y1 y2 y3 y4 y5 y6 y7 y8 y9 y10))
 | 0=>⟨fun _ _ _ _ _ _ _ _ _ r h=>by simp [U10.j0] at h,fun _ _ _ _ _ _ _ _ _ _ r h=>by simp [U10.j1] at h,fun _ _ _ _ _ _ _ _ _ _ _ r h=>by simp [U10.j2] at h,fun _ _ _ _ _ _ _ _ _ _ _ r h=>by simp [U10.l0] at h⟩
 | k+1=>by
  obtain ⟨ih0,ih1,ih2,ih3⟩:=U10.mono_l k;refine ⟨?_,?_,?_,?_⟩
  ·intro y0 y1 y2 y3 y4 y5 y6 y7 y8;unfold U10.j0
   exact zm23_0
  ·intro y0 y1 y2 y3 y4 y5 y6 y7 y8 y9;unfold U10.j1
   exact zm23_0
  ·intro y0 y1 y2 y3 y4 y5 y6 y7 y8 y9 y10;unfold U10.j2
   exact zm23_0
  ·intro y0 y1 y2 y3 y4 y5 y6 y7 y8 y9 y10;unfold U10.l0
   exact zm23_0
theorem U10.mono:∀ a0 a1 a2 a3 a4 a5 a6 a7 k,LeO (U10.f k a0 a1 a2 a3 a4 a5 a6 a7) (U10.f (k+1) a0 a1 a2 a3 a4 a5 a6 a7):=by
 intro a0 a1 a2 a3 a4 a5 a6 a7 k;obtain ⟨ih0,ih1,ih2,ih3⟩:=U10.mono_l k;unfold U10.f
 exact zm23_0
def U10.T8:Bool × List (List Nat × List Nat):=(true,[([],[]),([],[]),([],[]),([],[]),([],[]),([],[]),([4,5],[4,5]),([6],[6]),([0,1,2,3,7],[0,1,2,3,7]),([8],[8]),([9],[9]),([9],[9]),([10,8,0,1,2,3,4,5,6,7,8,9,10],[10]),([11,12,0,1,2,3,4,5,6,7,8,9,10,11,12],[11])])
def U10.B8:List Nat:=[0,0,0,0,0,0,48,112,255,511,1023,1023,2047,8191]
theorem U10.tab8:rtab .any (opsOf Try.f8 8) = U10.T8:=zz0
theorem U10.bits8:waitsOk U10.T8.2 U10.B8 = true:=zz0
def U10.T14:Bool × List (List Nat × List Nat):=(true,[([],[]),([],[]),([],[]),([],[]),([],[]),([],[]),([4,5],[4,5]),([6],[6]),([0,1,2,3,7],[0,1,2,3,7]),([8],[8]),([9],[9]),([9],[9]),([10,8,0,1,2,3,4,5,6,7,8,9,10],[10]),([11,12,0,1,2,3,4,5,6,7,8,9,10,11,12],[11])])
def U10.B14:List Nat:=[0,0,0,0,0,0,48,112,255,511,1023,1023,2047,8191]
theorem U10.tab14:rtab .any (opsOf Try.f8 14) = U10.T14:=zz0
theorem U10.bits14:waitsOk U10.T14.2 U10.B14 = true:=zz0
set_option maxHeartbeats 8000000 in
set_option maxRecDepth 100000 in
theorem U10.calls (k:Nat) (A0_0:Option Addr) (c0_0:Nat) (l0_0:List Int) (A0_1:Option Addr) (c0_1:Nat) (l0_1:List Int) (A1:Option Addr) (c1:Nat) (l1:List (S56)) (A2_0:Option Addr) (c2_0:Nat) (l2_0:List Int) (A2_1:Option Addr) (c2_1:Nat) (l2_1:List Int) (A2_2:Option Addr) (c2_2:Nat) (l2_2:List (List Int)) (a3:Int) (A4:Option Addr) (c4:Nat) (l4:List (S56)) (r:Bool) (w:World) (hr0_0:Kd.C (Kd.int .i64) w A0_0 l0_0.length l0_0) (hc0_0:l0_0.length≤c0_0) (hr0_1:Kd.C (Kd.int .i64) w A0_1 l0_1.length l0_1) (hc0_1:l0_1.length≤c0_1) (hr1:Kd.C k56 w A1 l1.length l1) (hc1:l1.length≤c1) (hr2_0:Kd.C (Kd.int .i64) w A2_0 l2_0.length l2_0) (hc2_0:l2_0.length≤c2_0) (hr2_1:Kd.C (Kd.int .i64) w A2_1 l2_1.length l2_1) (hc2_1:l2_1.length≤c2_1) (hr2_2:Kd.C (Kd.slice 3 (Kd.int .i64)) w A2_2 l2_2.length l2_2) (hc2_2:l2_2.length≤c2_2) (hr4:Kd.C k56 w A4 l4.length l4) (hc4:l4.length≤c4) (h:U10.f k l0_0 l0_1 l1 l2_0 l2_1 l2_2 a3 l4 = some r) :
  Calls Try.prog 8 #[.agg #[.slice A0_0 l0_0.length c0_0,.slice A0_1 l0_1.length c0_1],.slice A1 l1.length c1,.agg #[.slice A2_0 l2_0.length c2_0,.slice A2_1 l2_1.length c2_1,.slice A2_2 l2_2.length c2_2],.int .i64 a3,.slice A4 l4.length c4] w fun e w'=>e = .returned (.bool r)∧Below w.heap.size w w':=by
 have hu24:=Try.underlying24;have hu36:=Try.underlying36;have hu56:=Try.underlying56;have HR0_0:=Aside0.mk hr0_0;have HC0_0:=Aside0.mk hc0_0;clear hr0_0 hc0_0;have HR0_1:=Aside0.mk hr0_1;have HC0_1:=Aside0.mk hc0_1;clear hr0_1 hc0_1;have HR1:=Aside0.mk hr1;have HC1:=Aside0.mk hc1;clear hr1 hc1;have HR2_0:=Aside0.mk hr2_0;have HC2_0:=Aside0.mk hc2_0;clear hr2_0 hc2_0;have HR2_1:=Aside0.mk hr2_1;have HC2_1:=Aside0.mk hc2_1;clear hr2_1 hc2_1;have HR2_2:=Aside0.mk hr2_2;have HC2_2:=Aside0.mk hc2_2;clear hr2_2 hc2_2;have HR4:=Aside0.mk hr4;have HC4:=Aside0.mk hc4;clear hr4 hc4;have HB:=Aside0.mk (Below.refl w.heap.size w);have H:((U14.f l2_0 l2_1 l2_2).bind fun t762=>(if t762 = true then (U10.j0 k l1 a3 l4 true l0_0 l0_1 l2_0 l2_1 l2_2) else ((U17.f l4).bind fun t763=>(U10.j0 k l1 a3 l4 t763 l0_0 l0_1 l2_0 l2_1 l2_2)))) = some r:=h;clear h;have HC6:=Aside0.mk H;clear H;go_enter Try.func8,Try.ntmps8
 go_upto_region 1 with (first|((with_reducible refine gate_dst (N:=5) rfl ?_);(try (refine gate_guard (zz17) ?_;dsimp only));refine box_event ?hg (N:=5) ?hd (cs:=#[.slice A0_0 l0_0.length c0_0,.slice A0_1 l0_1.length c0_1]) (t:=24) ?hr ?_;(case hd=>rfl);(case hg=>rfl);(case hr=>exact zz146);intro gb760 hg w7 hbox hb;have BK760:=Aside0.mk (hbox);have GW760:=Aside0.mk ((by rw [hg];exact (below_size (zz5)):w.heap.size≤gb760));have GE760:=Aside0.mk ((by rw [hg];exact (below_size (zz5)):w.heap.size≤gb760));replace HB:=Aside0.mk (below_step (zz5) hb);clear hb hbox hg)|((with_reducible refine gate_dst (N:=7) rfl ?_);(try (refine gate_guard (zz17) ?_;dsimp only));refine box_event ?hg (N:=7) ?hd (cs:=#[.slice A2_0 l2_0.length c2_0,.slice A2_1 l2_1.length c2_1,.slice A2_2 l2_2.length c2_2]) (t:=36) ?hr ?_;(case hd=>rfl);(case hg=>rfl);(case hr=>exact zz146);intro gb761 hg w8 hbox hb;have BK761:=Aside0.mk (hbox);have GW761:=Aside0.mk ((by rw [hg];exact (below_size (zz135)):w.heap.size≤gb761));have GE761:=Aside0.mk ((by rw [hg];exact (below_size (zz135)):w.heap.size≤gb761));replace HB:=Aside0.mk (below_step (zz135) hb);have NB760_761:=Aside0.mk ((by rw [hg];exact Nat.ne_of_lt (blk_lt (g:=gb760) (o:=.cells #[.slice A0_0 l0_0.length c0_0,.slice A0_1 l0_1.length c0_1] 24 (0,0)) (zz134)):gb760 ≠ gb761));have NB761_760:=Aside0.mk ((by rw [hg];exact Nat.ne_of_gt (blk_lt (g:=gb760) (o:=.cells #[.slice A0_0 l0_0.length c0_0,.slice A0_1 l0_1.length c0_1] 24 (0,0)) (zz134)):gb761 ≠ gb760));replace BK760:=Aside0.mk (blk_below (zz134) hb);clear hb hbox hg))
 (try simp only [Act.put,List.setIfInBounds_toArray,List.set_cons_zero,List.set_cons_succ])
 go_cut [24] (fun v24 wc=>∃ (kq:Nat) (x24_5:Bool),v24 = .bool x24_5∧Aside0 (U10.j0 kq l1 a3 l4 x24_5 l0_0 l0_1 l2_0 l2_1 l2_2 = some r)∧Aside0 (kq≤k)∧Aside0 (wc.heap[gb760]? = some (.cells #[(.slice A0_0 l0_0.length c0_0),(.slice A0_1 l0_1.length c0_1)] 24 (0,0)))∧Aside0 (wc.heap[gb761]? = some (.cells #[(.slice A2_0 l2_0.length c2_0),(.slice A2_1 l2_1.length c2_1),(.slice A2_2 l2_2.length c2_2)] 36 (0,0)))∧Aside0 (Below w.heap.size w wc))
 case first =>
  have H:=HC6.out;clear HC6;replace H:=Option.bind_eq_some_iff.mp H;obtain ⟨t762,A90,H⟩:=H;have A9:=Aside0.mk A90;clear A90;by_cases c10:t762 = true
  ·subst c10;have H1:(U10.j0 k l1 a3 l4 true l0_0 l0_1 l2_0 l2_1 l2_2) = some r:=zz10;clear H;have H:=H1;clear H1;have H':=Aside0.mk H;clear H;have hnb11:=NB761_760.out;have hnc11:=NB760_761.out;have hcz12_0:w8.cell? ⟨gb761,0,none⟩ = some (.slice A2_0 l2_0.length c2_0):=(blk_cell BK761.out 0).trans rfl;have hcz12_1:w8.cell? ⟨gb761,1,none⟩ = some (.slice A2_1 l2_1.length c2_1):=(blk_cell BK761.out 1).trans rfl;have hcz12_2:w8.cell? ⟨gb761,2,none⟩ = some (.slice A2_2 l2_2.length c2_2):=(blk_cell BK761.out 2).trans rfl;have hfz12_0:=blk_frozen BK761.out 0;have hfz12_1:=blk_frozen BK761.out 1;have hfz12_2:=blk_frozen BK761.out 2
   go_wp2_with (first|((with_reducible refine gate_callee (f:=13) rfl ?_);refine goesL_ (some 20) rfl rfl Try.func13 (zz0) rfl #[.agg #[.slice A2_0 l2_0.length c2_0,.slice A2_1 l2_1.length c2_1,.slice A2_2 l2_2.length c2_2]] rfl (zz16) ?_;(with_reducible refine (U14.calls _ _ l2_0 _ _ l2_1 _ _ l2_2 true _ ?side1 ?side2 ?side3 ?side4 ?side5 ?side6 A9.out).mono ?_);(case side1=>exact zz161);(case side2=>exact zz162);(case side3=>exact zz163);(case side4=>exact zz164);(case side5=>exact zz165);(case side6=>exact zz166);rintro e w13 ⟨rfl,hb⟩;refine ⟨_,rfl,?_⟩;replace BK760:=Aside0.mk (blk_below (zz134) hb);replace BK761:=Aside0.mk (blk_below (zz136) hb);replace HB:=Aside0.mk (below_step (zz137) hb);(try clear hb);(try clear hb2);(try clear hk);(try clear hi)))
   go_meet
   case rel=>exact ⟨_,(true),(zz2),H',⟨zz18⟩,⟨zz134⟩,⟨zz136⟩,⟨zz137⟩⟩
  ·replace c10:=Bool.eq_false_iff.mpr c10;subst c10;have H1:((U17.f l4).bind fun t763=>(U10.j0 k l1 a3 l4 t763 l0_0 l0_1 l2_0 l2_1 l2_2)) = some r:=zz13;clear H;have H:=H1;clear H1;replace H:=Option.bind_eq_some_iff.mp H;obtain ⟨t763,A140,H⟩:=H;have A14:=Aside0.mk A140;clear A140;have H':=Aside0.mk H;clear H;have hnb15:=NB761_760.out;have hnc15:=NB760_761.out;have hcz16_0:w8.cell? ⟨gb761,0,none⟩ = some (.slice A2_0 l2_0.length c2_0):=(blk_cell BK761.out 0).trans rfl;have hcz16_1:w8.cell? ⟨gb761,1,none⟩ = some (.slice A2_1 l2_1.length c2_1):=(blk_cell BK761.out 1).trans rfl;have hcz16_2:w8.cell? ⟨gb761,2,none⟩ = some (.slice A2_2 l2_2.length c2_2):=(blk_cell BK761.out 2).trans rfl;have hfz16_0:=blk_frozen BK761.out 0;have hfz16_1:=blk_frozen BK761.out 1;have hfz16_2:=blk_frozen BK761.out 2
   go_wp2_with (first|((with_reducible refine gate_callee (f:=13) rfl ?_);refine goesL_ (some 20) rfl rfl Try.func13 (zz0) rfl #[.agg #[.slice A2_0 l2_0.length c2_0,.slice A2_1 l2_1.length c2_1,.slice A2_2 l2_2.length c2_2]] rfl (zz16) ?_;(with_reducible refine (U14.calls _ _ l2_0 _ _ l2_1 _ _ l2_2 false _ ?side1 ?side2 ?side3 ?side4 ?side5 ?side6 A9.out).mono ?_);(case side1=>exact zz161);(case side2=>exact zz162);(case side3=>exact zz163);(case side4=>exact zz164);(case side5=>exact zz165);(case side6=>exact zz166);rintro e w17 ⟨rfl,hb⟩;refine ⟨_,rfl,?_⟩;replace BK760:=Aside0.mk (blk_below (zz134) hb);replace BK761:=Aside0.mk (blk_below (zz136) hb);replace HB:=Aside0.mk (below_step (zz137) hb);(try clear hb);(try clear hb2);(try clear hk);(try clear hi))|(go_at_call 23;(with_reducible refine (U17.calls _ _ l4 t763 _ ?side1 ?side2 A14.out).mono ?_);(case side1=>exact zz168);(case side2=>exact HC4.out);rintro e w' ⟨rfl,⟨nd,rfl⟩⟩))
   go_meet
   case rel=>exact ⟨_,(t763),(zz2),H',⟨zz18⟩,⟨zz134⟩,⟨zz136⟩,⟨zz137⟩⟩
 case rest =>
  clear HC6;(try clear c1);(try clear c2);(try clear p2);(try clear c4);(try clear c8);(try clear c10);(try clear c11);(try clear c13);(try clear c15);(try clear hcz12_0);(try clear hcz12_1);(try clear hcz12_2);(try clear hcz16_0);(try clear hcz16_1);(try clear hcz16_2);(try clear hfz12_0);(try clear hfz12_1);(try clear hfz12_2);(try clear hfz16_0);(try clear hfz16_1);(try clear hfz16_2);obtain ⟨kq,x24_5,rfl,HA,HJ5,BK760,BK761,HB⟩:=hcut
  cases kq with
  | zero=>exact absurd HA.out (by simp [U10.j0])
  | succ kj5 =>
   have H:=HA.out;clear HA;simp only [U10.j0] at H;by_cases c18:x24_5 = true
   ·subst c18;have H1:(some true) = some r:=zz10;clear H;have H:=H1;clear H1;obtain rfl:=Option.some.inj H
    go_wp2
    go_ret
    exact ⟨zz6,zz137⟩
   ·replace c18:=Bool.eq_false_iff.mpr c18;subst c18;have H1:((U0.f kj5 l0_0 l0_1 l1 l2_0 l2_1 l2_2 a3 l4).bind fun bt764=>(if bt764.2 = 0 then (if bt764.1 < 0 then (U10.j1 kj5 l1 a3 l4 bt764.1 true l0_0 l0_1 l2_0 l2_1 l2_2) else (if bt764.1≥(l4.length:Int) then (U10.j1 kj5 l1 a3 l4 bt764.1 true l0_0 l0_1 l2_0 l2_1 l2_2) else (if a3 < 0 then (U10.j1 kj5 l1 a3 l4 bt764.1 true l0_0 l0_1 l2_0 l2_1 l2_2) else (U10.j1 kj5 l1 a3 l4 bt764.1 (decide (a3≥(l1.length:Int))) l0_0 l0_1 l2_0 l2_1 l2_2)))) else (some (bt764.1 == 0)))) = some r:=zz13;clear H;have H:=H1;clear H1;replace H:=Option.bind_eq_some_iff.mp H;obtain ⟨⟨t764,t765⟩,A190,H⟩:=H;have A19:=Aside0.mk A190;clear A190;by_cases c20:t765 = 0
    ·rw [if_pos c20] at H;have c20b0:=beq_iff_eq.mpr c20;have c20b1:=bne_eq_false_iff_eq.mpr c20;clear c20;have HC21:=Aside0.mk H;clear H;have hnb22:=NB760_761.out;have hnc22:=NB761_760.out;have hcz23_0:wc.cell? ⟨gb760,0,none⟩ = some (.slice A0_0 l0_0.length c0_0):=(blk_cell BK760.out 0).trans rfl;have hcz23_1:wc.cell? ⟨gb760,1,none⟩ = some (.slice A0_1 l0_1.length c0_1):=(blk_cell BK760.out 1).trans rfl;have hfz23_0:=blk_frozen BK760.out 0;have hfz23_1:=blk_frozen BK760.out 1;have hcz24_0:wc.cell? ⟨gb761,0,none⟩ = some (.slice A2_0 l2_0.length c2_0):=(blk_cell BK761.out 0).trans rfl;have hcz24_1:wc.cell? ⟨gb761,1,none⟩ = some (.slice A2_1 l2_1.length c2_1):=(blk_cell BK761.out 1).trans rfl;have hcz24_2:wc.cell? ⟨gb761,2,none⟩ = some (.slice A2_2 l2_2.length c2_2):=(blk_cell BK761.out 2).trans rfl;have hfz24_0:=blk_frozen BK761.out 0;have hfz24_1:=blk_frozen BK761.out 1;have hfz24_2:=blk_frozen BK761.out 2
     go_upto_region 6 with (first|((with_reducible refine gate_callee (f:=24) rfl ?_);refine goesL_ (some 31) rfl rfl Try.func24 (zz0) rfl #[.agg #[.slice A0_0 l0_0.length c0_0,.slice A0_1 l0_1.length c0_1],.slice A1 l1.length c1,.agg #[.slice A2_0 l2_0.length c2_0,.slice A2_1 l2_1.length c2_1,.slice A2_2 l2_2.length c2_2],.int .i64 a3,.slice A4 l4.length c4] rfl (zz16) ?_;(with_reducible refine (U0.calls kj5 _ _ l0_0 _ _ l0_1 _ _ l1 _ _ l2_0 _ _ l2_1 _ _ l2_2 a3 _ _ l4 t764 t765 _ ?side1 ?side2 ?side3 ?side4 ?side5 ?side6 ?side7 ?side8 ?side9 ?side10 ?side11 ?side12 ?side13 ?side14 A19.out).mono ?_);(case side1=>exact zz147);(case side2=>exact zz148);(case side3=>exact zz149);(case side4=>exact zz150);(case side5=>exact zz153);(case side6=>exact HC1.out);(case side7=>exact zz161);(case side8=>exact zz162);(case side9=>exact zz163);(case side10=>exact zz164);(case side11=>exact zz165);(case side12=>exact zz166);(case side13=>exact zz168);(case side14=>exact HC4.out);rintro e w25 ⟨rfl,hb⟩;refine ⟨_,rfl,?_⟩;replace BK760:=Aside0.mk (blk_below (zz134) hb);replace BK761:=Aside0.mk (blk_below (zz136) hb);replace HB:=Aside0.mk (below_step (zz137) hb);(try clear hb);(try clear hb2);(try clear hk);(try clear hi)))
     (try simp only [Act.put,List.setIfInBounds_toArray,List.set_cons_zero,List.set_cons_succ])
     go_cut [55] (fun v55 wc=>∃ (kq:Nat) (x55_20:Bool),v55 = .bool x55_20∧Aside0 (U10.j1 kq l1 a3 l4 t764 x55_20 l0_0 l0_1 l2_0 l2_1 l2_2 = some r)∧Aside0 (kq≤kj5)∧Aside0 (wc.heap[gb760]? = some (.cells #[(.slice A0_0 l0_0.length c0_0),(.slice A0_1 l0_1.length c0_1)] 24 (0,0)))∧Aside0 (wc.heap[gb761]? = some (.cells #[(.slice A2_0 l2_0.length c2_0),(.slice A2_1 l2_1.length c2_1),(.slice A2_2 l2_2.length c2_2)] 36 (0,0)))∧Aside0 (Below w.heap.size w wc))
     case first =>
      have H:=HC21.out;clear HC21;by_cases c26:t764 < 0
      ·rw [if_pos c26] at H;have c26b0:=decide_eq_true c26;clear c26
       (first|rw [c26b0]|rw [c26b1]|(simp only [i64_w,i32_w];rw [c26b0])|skip)
       have H':=Aside0.mk H;clear H
       go_wp2
       go_meet
       case rel=>exact ⟨_,(true),(zz2),H',⟨zz138⟩,⟨zz134⟩,⟨zz136⟩,⟨zz137⟩⟩
      ·rw [if_neg c26] at H;have c26b0:=decide_eq_false c26;clear c26
       (first|rw [c26b0]|rw [c26b1]|(simp only [i64_w,i32_w];rw [c26b0])|skip)
       by_cases c27:t764≥(l4.length:Int)
       ·rw [if_pos c27] at H;have c27b0:=decide_eq_true c27;clear c27;have H':=Aside0.mk H;clear H
        go_wp2
        go_meet
        case rel=>exact ⟨_,(true),(zz2),H',⟨zz138⟩,⟨zz134⟩,⟨zz136⟩,⟨zz137⟩⟩
       ·rw [if_neg c27] at H;have c27b0:=decide_eq_false c27;clear c27;by_cases c28:a3 < 0
        ·rw [if_pos c28] at H;have c28b0:=decide_eq_true c28;clear c28;have H':=Aside0.mk H;clear H
         go_wp2
         go_meet
         case rel=>exact ⟨_,(true),(zz2),H',⟨zz138⟩,⟨zz134⟩,⟨zz136⟩,⟨zz137⟩⟩
        ·rw [if_neg c28] at H;have c28b0:=decide_eq_false c28;clear c28;have H':=Aside0.mk H;clear H
         go_wp2
         go_meet
         case rel=>exact ⟨_,(decide (a3≥(l1.length:Int))),(zz2),H',⟨zz138⟩,⟨zz134⟩,⟨zz136⟩,⟨zz137⟩⟩
     case rest =>
      clear HC21;(try clear c1);(try clear c2);(try clear p2);(try clear c4);(try clear c8);(try clear c10);(try clear c11);(try clear c13);(try clear c15);(try clear c18);(try clear c20);(try clear c20b0);(try clear c20b1);(try clear c22);(try clear c24);(try clear c26);(try clear c26b0);(try clear c26b1);(try clear c27);(try clear c27b0);(try clear c28);(try clear c28b0);(try clear hcz12_0);(try clear hcz12_1);(try clear hcz12_2);(try clear hcz16_0);(try clear hcz16_1);(try clear hcz16_2);(try clear hcz23_0);(try clear hcz23_1);(try clear hcz24_0);(try clear hcz24_1);(try clear hcz24_2);(try clear hfz12_0);(try clear hfz12_1);(try clear hfz12_2);(try clear hfz16_0);(try clear hfz16_1);(try clear hfz16_2);(try clear hfz23_0);(try clear hfz23_1);(try clear hfz24_0);(try clear hfz24_1);(try clear hfz24_2);(try clear p2);obtain ⟨kq,x55_20,rfl,HA,HJ20,BK760,BK761,HB⟩:=hcut
      cases kq with
      | zero=>exact absurd HA.out (by simp [U10.j1])
      | succ kj20 =>
       have H:=HA.out;clear HA;simp only [U10.j1] at H;by_cases c29:x55_20 = true
       ·subst c29;have H1:(some false) = some r:=zz10;clear H;have H:=H1;clear H1;obtain rfl:=Option.some.inj H
        go_wp2
        go_ret
        exact ⟨zz6,zz137⟩
       ·replace c29:=Bool.eq_false_iff.mpr c29;subst c29;have H1:(if 0≤t764 then (if t764 < (l4.length:Int) then ((U16.f kj20 l0_0 l0_1 l1 l2_0 l2_1 l2_2 a3 ((rd_T56 l4 t764).f0)).bind fun bt767=>(if bt767.2 = 0 then ((U49.f kj20 bt767.1).bind fun t771=>(U10.j2 kj20 l1 a3 l4 t764 bt767.1 (t771 == 0) l0_0 l0_1 l2_0 l2_1 l2_2)) else (U10.j2 kj20 l1 a3 l4 t764 bt767.1 true l0_0 l0_1 l2_0 l2_1 l2_2))) else (none)) else (none)) = some r:=zz13;clear H;have H:=H1;clear H1;by_cases c30:0≤t764
        ·rw [if_pos c30] at H;have c30b0:=decide_eq_true c30;clear c30;by_cases c31:t764 < (l4.length:Int)
         ·rw [if_pos c31] at H;have c31b0:=decide_eq_true c31;clear c31;replace H:=Option.bind_eq_some_iff.mp H;obtain ⟨⟨t767,t770⟩,A320,H⟩:=H;have A32:=Aside0.mk A320;clear A320;have HC33:=Aside0.mk H;clear H
          try go_wp2
          have n0_:=Aside0.mk (blk_drew BK760.out);have n1_:=Aside0.mk (blk_drew BK761.out);have n2_:=Aside0.mk (below_drew1 HB.out);clear BK760;clear BK761;clear HB;have BK760:=n0_;have BK761:=n1_;have HB:=n2_;clear n0_ n1_ n2_;have p766:0≤(t764:Int):=of_decide_eq_true (zz11);have q766:t764 < (l4.length:Int):=of_decide_eq_true (zz11);obtain ⟨ad766,A766_0,c766_0,e766,hx766_0,hl766_0,hi766_0⟩:=at_T56 HR4.out t764 p766 q766;have hw766_0:=hx766_0
          cases e766
          replace hx766_0:=(HB.out.cell (World.block_lt_of_cell? w _ hx766_0)).trans hx766_0;have HR766_0:=Aside0.mk hi766_0;have HC766_0:=Aside0.mk hl766_0;clear hi766_0 hl766_0;replace p766:=eq_true p766;replace q766:=eq_true q766;refine start_ (n:=14) (S:=fun w'=>w'.cell? ⟨gb760,0,none⟩ = some (.slice A0_0 l0_0.length c0_0)∧w'.cell? ⟨gb760,1,none⟩ = some (.slice A0_1 l0_1.length c0_1)∧w'.cell? ⟨gb761,0,none⟩ = some (.slice A2_0 l2_0.length c2_0)∧w'.cell? ⟨gb761,1,none⟩ = some (.slice A2_1 l2_1.length c2_1)∧w'.cell? ⟨gb761,2,none⟩ = some (.slice A2_2 l2_2.length c2_2)∧w'.cell? (ad766.add (t764).toNat) = some (.slice A766_0 ((rd_T56 l4 t764).f0).length c766_0)) (ds:=[]) #[false,false,false,false,false,false,false,false,false,false,false,false,false,false] (zz0) rfl rfl ⟨(blk_cell BK760.out 0).trans rfl,(blk_cell BK760.out 1).trans rfl,(blk_cell BK761.out 0).trans rfl,(blk_cell BK761.out 1).trans rfl,(blk_cell BK761.out 2).trans rfl,((HB.out.cell (World.block_lt_of_cell? w _ hw766_0)).trans hw766_0)⟩ (fun hHeld=>?_);refine with_tabW U10.tab8 U10.bits8 (fun HT_ HW_=>?_)
          generalize wc.drew = w34 at BK760 BK761 HB HR766_0 hx766_0 hHeld ⊢
          refine zzp 1 58 ?_ #[false,true,false,false,false,false,false,false,false,false,false,false,false,false] rfl rfl (any_of HT_.out (zz0)) (fun _ _ _ h=>h) (Or.inl ⟨zz17,?_⟩) ?_ ?_ ?_;rotate_left
          ·intro w'
           go_simp
           with_reducible rfl
          rotate_left
          ·simp only [zzs]
           rfl
          refine zzp 3 60 ?_ #[false,true,false,true,false,false,false,false,false,false,false,false,false,false] rfl rfl (any_of HT_.out (zz0)) (fun _ _ _ h=>h) (Or.inl ⟨zz17,?_⟩) ?_ ?_ ?_;rotate_left
          ·intro w'
           go_simp
           with_reducible rfl
          rotate_left
          ·simp only [zzs]
           rfl
          refine zzp 4 61 ?_ #[false,true,false,true,true,false,false,false,false,false,false,false,false,false] rfl rfl (any_of HT_.out (zz0)) (fun _ _ _ h=>h) (Or.inl ⟨zz17,?_⟩) ?_ ?_ ?_;rotate_left
          ·intro w'
           go_simp
           with_reducible rfl
          rotate_left
          ·simp only [zzs]
           rfl
          refine zzp 5 62 ?_ #[false,true,false,true,true,true,false,false,false,false,false,false,false,false] rfl rfl (any_of HT_.out (zz0)) (fun _ _ _ h=>h) (Or.inl ⟨zz17,?_⟩) ?_ ?_ ?_;rotate_left
          ·intro w'
           go_simp
           with_reducible rfl
          rotate_left
          ·simp only [zzs]
           rfl
          refine zzp 6 63 ?_ #[false,true,false,true,true,true,true,false,false,false,false,false,false,false] rfl rfl (any_of HT_.out (zz0)) (fun _ _ _ h=>h) (Or.inl ⟨zz17,?_⟩) ?_ ?_ ?_;rotate_left
          ·intro w'
           go_simp
           with_reducible rfl
          rotate_left
          ·simp only [zzs]
           rfl
          refine take_ (i:=0) (N:=some 57) (v:=?_) (a':=?_) #[true,true,false,true,true,true,true,false,false,false,false,false,false,false] rfl rfl (take_ofW HT_.out HW_.out (zz0)) (fun _ _ _ h=>h) (Or.inl ⟨zz17,?_⟩) hHeld ?_ ?_;rotate_left
          ·rintro w' ⟨s0,s1,s2,s3,s4,s5⟩
           go_simp
           with_reducible rfl
          rotate_left
          ·simp only [zzs]
           rfl
          refine take_ (i:=2) (N:=some 59) (v:=?_) (a':=?_) #[true,true,true,true,true,true,true,false,false,false,false,false,false,false] rfl rfl (take_ofW HT_.out HW_.out (zz0)) (fun _ _ _ h=>h) (Or.inl ⟨zz17,?_⟩) hHeld ?_ ?_;rotate_left
          ·rintro w' ⟨s0,s1,s2,s3,s4,s5⟩
           go_simp
           with_reducible rfl
          rotate_left
          ·simp only [zzs]
           rfl
          refine take_ (i:=7) (N:=some 64) (v:=?_) (a':=?_) #[true,true,true,true,true,true,true,true,false,false,false,false,false,false] rfl rfl (take_ofW HT_.out HW_.out (zz0)) (fun _ _ _ h=>h) (Or.inl ⟨zz17,?_⟩) hHeld ?_ ?_;rotate_left
          ·rintro w' ⟨s0,s1,s2,s3,s4,s5⟩
           go_simp
           with_reducible rfl
          rotate_left
          ·simp only [zzs]
           rfl
          refine one_ (i:=8) (N:=some 65) #[true,true,true,true,true,true,true,true,true,false,false,false,false,false] rfl rfl (one_of HT_.out (zz0)) (zz31) (fun K hK=>?_);refine goes_ Try.func25 (zz0) rfl #[.agg #[.slice A0_0 l0_0.length c0_0,.slice A0_1 l0_1.length c0_1],.slice A1 l1.length c1,.agg #[.slice A2_0 l2_0.length c2_0,.slice A2_1 l2_1.length c2_1,.slice A2_2 l2_2.length c2_2],.int .i64 a3,.agg #[.slice A766_0 ((rd_T56 l4 t764).f0).length c766_0]] (zz17) rfl rfl (zz16) ?_
          with_reducible refine (U16.calls kj20 _ _ l0_0 _ _ l0_1 (fun k_=>k_ < w.heap.size) _ _ l1 _ _ l2_0 _ _ l2_1 _ _ l2_2 a3 (fun k_=>k_ < w.heap.size) _ _ ((rd_T56 l4 t764).f0) t767 t770 _ ?side1 ?side2 ?side3 ?side4 ?side5 ?side6 ?side7 ?side8 ?side9 ?side10 ?side11 ?side12 A32.out).mono ?_
          (case side1=>exact zz147)
          (case side2=>exact zz148)
          (case side3=>exact zz149)
          (case side4=>exact zz150)
          (case side5=>exact zz170)
          (case side6=>exact zz161)
          (case side7=>exact zz162)
          (case side8=>exact zz163)
          (case side9=>exact zz164)
          (case side10=>exact zz165)
          (case side11=>exact zz166)
          (case side12=>exact Kd.V_mk HC766_0.out (Kd.F_below (Kd.C_F (Kd.heap_slice 3 (Kd.heap_int .i64)) HR766_0.out) (zz137)))
          rintro e w35 ⟨v768,rfl,ho0,hb⟩;refine ⟨_,rfl,?_⟩;have n0_:=Aside0.mk (Kd.V_lower (Kd.V_mono (ok':=fun k_=>k_ ≠ gb760∧k_ ≠ gb761) ho0 (fun k_ hk_=>⟨Or.elim hk_ (fun hs_=>Or.elim hs_ (fun hs_=>fun e_=>Nat.not_le.2 hs_ (zz139)) (fun hs_=>fun e_=>Nat.not_le.2 hs_ (zz139))) (fun hn_=>(Kd.freshB (g:=gb760) (o:=.cells #[.slice A0_0 l0_0.length c0_0,.slice A0_1 l0_1.length c0_1] 24 (0,0)) (zz134) k_ hn_)),Or.elim hk_ (fun hs_=>Or.elim hs_ (fun hs_=>fun e_=>Nat.not_le.2 hs_ (zz140)) (fun hs_=>fun e_=>Nat.not_le.2 hs_ (zz140))) (fun hn_=>(Kd.freshB (g:=gb761) (o:=.cells #[.slice A2_0 l2_0.length c2_0,.slice A2_1 l2_1.length c2_1,.slice A2_2 l2_2.length c2_2] 36 (0,0)) (zz136) k_ hn_))⟩)) (below_size (zz137)));have n1_:=Aside0.mk (blk_below (zz134) hb);have n2_:=Aside0.mk (blk_below (zz136) hb);have n3_:=Aside0.mk (below_step (zz137) hb);clear BK760;clear BK761;clear HB;have HO769:=n0_;have BK760:=n1_;have BK761:=n2_;have HB:=n3_;clear n0_ n1_ n2_ n3_
          (try clear hb)
          (try clear hb2)
          (try clear hk)
          (try clear hi)
          (try clear ho0)
          refine hK.out _ _ ⟨(blk_cell BK760.out 0).trans rfl,(blk_cell BK760.out 1).trans rfl,(blk_cell BK761.out 0).trans rfl,(blk_cell BK761.out 1).trans rfl,(blk_cell BK761.out 2).trans rfl,((HB.out.cell (World.block_lt_of_cell? w _ hw766_0)).trans hw766_0)⟩ (fun hHeld=>?_);clear hK K;refine norm_ (a':=?_) ?_ ?_;rotate_left
          ·show Act.put _ (some 65) _ = _
           simp only [zzs]
           rfl
          refine zzp 9 56 ?_ #[true,true,true,true,true,true,true,true,true,true,false,false,false,false] rfl rfl (any_of HT_.out (zz0)) (fun _ _ _ h=>h) (Or.inl ⟨zz17,?_⟩) ?_ ?_ ?_;rotate_left
          ·intro w'
           go_simp
           with_reducible rfl
          rotate_left
          ·simp only [zzs]
           rfl
          refine zzp 10 66 ?_ #[true,true,true,true,true,true,true,true,true,true,true,false,false,false] rfl rfl (any_of HT_.out (zz0)) (fun _ _ _ h=>h) (Or.inl ⟨zz17,?_⟩) ?_ ?_ ?_;rotate_left
          ·intro w'
           go_simp
           with_reducible rfl
          rotate_left
          ·simp only [zzs]
           rfl
          refine zzp 11 67 ?_ #[true,true,true,true,true,true,true,true,true,true,true,true,false,false] rfl rfl (any_of HT_.out (zz0)) (fun _ _ _ h=>h) (Or.inl ⟨zz17,?_⟩) ?_ ?_ ?_;rotate_left
          ·intro w'
           go_simp
           with_reducible rfl
          rotate_left
          ·simp only [zzs]
           rfl
          refine zzp 12 13 ?_ #[true,true,true,true,true,true,true,true,true,true,true,true,true,false] rfl rfl (any_of HT_.out (zz0)) (fun _ _ _ h=>h) (Or.inl ⟨zz17,?_⟩) ?_ ?_ ?_;rotate_left
          ·intro w'
           go_simp
           with_reducible rfl
          rotate_left
          ·simp only [zzs]
           rfl
          refine zzp 13 14 ?_ #[true,true,true,true,true,true,true,true,true,true,true,true,true,true] rfl rfl (any_of HT_.out (zz0)) (fun _ _ _ h=>h) (Or.inl ⟨zz17,?_⟩) ?_ ?_ ?_;rotate_left
          ·intro w'
           go_simp
           with_reducible rfl
          rotate_left
          ·simp only [zzs]
           rfl
          refine done_ (done_of HT_.out (zz0)) ?_
          go_upto_region 9 with (fail)
          go_cut [74] (fun v74 wc=>∃ (kq:Nat) (x74_32:Bool),v74 = .bool x74_32∧Aside0 (U10.j2 kq l1 a3 l4 t764 t767 x74_32 l0_0 l0_1 l2_0 l2_1 l2_2 = some r)∧Aside0 (kq≤kj20)∧Aside0 (Kd.V (Kd.int .u32) 65 wc w.heap.size (fun k_=>k_ ≠ gb760∧k_ ≠ gb761) v768 t767)∧Aside0 (wc.heap[gb760]? = some (.cells #[(.slice A0_0 l0_0.length c0_0),(.slice A0_1 l0_1.length c0_1)] 24 (0,0)))∧Aside0 (wc.heap[gb761]? = some (.cells #[(.slice A2_0 l2_0.length c2_0),(.slice A2_1 l2_1.length c2_1),(.slice A2_2 l2_2.length c2_2)] 36 (0,0)))∧Aside0 (Below w.heap.size w wc))
          case first =>
           have H:=HC33.out;clear HC33;by_cases c36:t770 = 0
           ·rw [if_pos c36] at H;have c36b0:=beq_iff_eq.mpr c36;have c36b1:=bne_eq_false_iff_eq.mpr c36;clear c36
            (first|rw [c36b0]|rw [c36b1]|(simp only [i64_w,i32_w];rw [c36b0])|skip)
            replace H:=Option.bind_eq_some_iff.mp H;obtain ⟨t771,A370,H⟩:=H;have A37:=Aside0.mk A370;clear A370;have H':=Aside0.mk H;clear H;obtain ⟨Ao38,co38,eo38⟩:=Kd.V_slice HO769.out;subst eo38
            go_wp2_with (first|(go_at_call 16;(with_reducible refine (U49.calls kj20 _ _ t767 t771 _ ?side1 ?side2 A37.out).mono ?_);(case side1=>repeat (first|exact (Kd.V_reads' HO769.out).2.2|(with_reducible refine Kd.C_alloc ?_ _)|(with_reducible refine Kd.C_drewN ?_ _)|(with_reducible refine Kd.C_drew ?_)));(case side2=>exact (Kd.V_reads' HO769.out).2.1);rintro e w39 ⟨rfl,hb⟩;replace HO769:=Aside0.mk (Kd.V_below (zz141) hb);replace BK760:=Aside0.mk (blk_below (zz134) hb);replace BK761:=Aside0.mk (blk_below (zz136) hb);replace HB:=Aside0.mk (below_step (zz137) hb);(try clear hb);(try clear hb2);(try clear hk);(try clear hi)))
            go_meet
            case rel=>exact ⟨_,((t771 == 0)),(zz2),H',⟨by have:=HJ5.out;have:=HJ20.out;first|omega|exact Nat.le_refl _⟩,⟨zz141⟩,⟨zz134⟩,⟨zz136⟩,⟨zz137⟩⟩
           ·rw [if_neg c36] at H;have c36b0:=beq_eq_false_iff_ne.mpr c36;have c36b1:=bne_iff_ne.mpr c36
            (first|rw [c36b0]|rw [c36b1]|(simp only [i64_w,i32_w];rw [c36b0])|skip)
            have H':=Aside0.mk H;clear H
            go_wp2
            go_meet
            case rel=>exact ⟨_,(true),(zz2),H',⟨by have:=HJ5.out;have:=HJ20.out;first|omega|exact Nat.le_refl _⟩,⟨zz141⟩,⟨zz134⟩,⟨zz136⟩,⟨zz137⟩⟩
          case rest =>
           clear HC33;(try clear c1);(try clear c2);(try clear p2);(try clear c3);(try clear c4);(try clear c7);(try clear p7);(try clear q7);(try clear hx7);(try clear c8);(try clear c10);(try clear c11);(try clear c13);(try clear c15);(try clear c18);(try clear c20);(try clear c20b0);(try clear c20b1);(try clear c22);(try clear c24);(try clear c25);(try clear c26);(try clear c26b0);(try clear c26b1);(try clear c27);(try clear c27b0);(try clear c28);(try clear c28b0);(try clear c29);(try clear c30);(try clear c30b0);(try clear c31);(try clear c31b0);(try clear c36);(try clear c36b0);(try clear c36b1);(try clear hcz12_0);(try clear hcz12_1);(try clear hcz12_2);(try clear hcz16_0);(try clear hcz16_1);(try clear hcz16_2);(try clear hcz23_0);(try clear hcz23_1);(try clear hcz24_0);(try clear hcz24_1);(try clear hcz24_2);(try clear hfz12_0);(try clear hfz12_1);(try clear hfz12_2);(try clear hfz16_0);(try clear hfz16_1);(try clear hfz16_2);(try clear hfz23_0);(try clear hfz23_1);(try clear hfz24_0);(try clear hfz24_1);(try clear hfz24_2);(try clear hx766_0);(try clear p2);(try clear p766);(try clear q766);obtain ⟨kq,x74_32,rfl,HA,HJ32,HO_13,BK760,BK761,HB⟩:=hcut
           cases kq with
           | zero=>exact absurd HA.out (by simp [U10.j2])
           | succ kj32 =>
            have H:=HA.out;clear HA;simp only [U10.j2] at H;by_cases c40:x74_32 = true
            ·subst c40;have H1:(some false) = some r:=zz10;clear H;have H:=H1;clear H1;obtain rfl:=Option.some.inj H
             go_wp2
             go_ret
             exact ⟨zz6,zz137⟩
            ·replace c40:=Bool.eq_false_iff.mpr c40;subst c40;have H1:(U10.l0 kj32 l1 a3 l4 t764 t767 0 l0_0 l0_1 l2_0 l2_1 l2_2) = some r:=zz13;clear H;have H:=H1;clear H1;have H':=Aside0.mk H;clear H
             go_wp2
             go_loopg [15] kj32 (fun kq v15 w'=>∃ (x15_4:Int),v15 = .int .i64 x15_4∧Aside0 (U10.l0 kq l1 a3 l4 t764 t767 x15_4 l0_0 l0_1 l2_0 l2_1 l2_2 = some r)∧Aside0 (kq≤kj32)∧Aside0 (Kd.V (Kd.int .u32) 65 w' w.heap.size (fun k_=>k_ ≠ gb760∧k_ ≠ gb761) v768 t767)∧Aside0 (w'.heap[gb760]? = some (.cells #[(.slice A0_0 l0_0.length c0_0),(.slice A0_1 l0_1.length c0_1)] 24 (0,0)))∧Aside0 (w'.heap[gb761]? = some (.cells #[(.slice A2_0 l2_0.length c2_0),(.slice A2_1 l2_1.length c2_1),(.slice A2_2 l2_2.length c2_2)] 36 (0,0)))∧Aside0 (Below w.heap.size w w'))
             case atStart=>exact ⟨(0),(zz2),H',⟨Nat.le_refl _⟩,⟨zz142⟩,⟨zz134⟩,⟨zz136⟩,⟨zz137⟩⟩
             case round =>
              clear H'
              (try clear c1);(try clear c2);(try clear p2);(try clear c3);(try clear c4);(try clear c7);(try clear p7);(try clear q7);(try clear hx7);(try clear c8);(try clear c10);(try clear c11);(try clear c13);(try clear c15);(try clear c18);(try clear c20);(try clear c20b0);(try clear c20b1);(try clear c22);(try clear c24);(try clear c25);(try clear c26);(try clear c26b0);(try clear c26b1);(try clear c27);(try clear c27b0);(try clear c28);(try clear c28b0);(try clear c29);(try clear c30);(try clear c30b0);(try clear c31);(try clear c31b0);(try clear c36);(try clear c36b0);(try clear c36b1);(try clear c40);(try clear hcz12_0);(try clear hcz12_1);(try clear hcz12_2);(try clear hcz16_0);(try clear hcz16_1);(try clear hcz16_2);(try clear hcz23_0);(try clear hcz23_1);(try clear hcz24_0);(try clear hcz24_1);(try clear hcz24_2);(try clear hfz12_0);(try clear hfz12_1);(try clear hfz12_2);(try clear hfz16_0);(try clear hfz16_1);(try clear hfz16_2);(try clear hfz23_0);(try clear hfz23_1);(try clear hfz24_0);(try clear hfz24_1);(try clear hfz24_2);(try clear hx766_0);(try clear p2);(try clear p7);(try clear p766);(try clear q7);(try clear q766)
              obtain ⟨x15_4,rfl,HA,HK4,HO_13,BK760,BK761,HB⟩:=hrel
              cases gk with
              | zero=>exact absurd HA.out (by simp [U10.l0])
              | succ k4 =>
               have H:=HA.out;clear HA;simp only [U10.l0] at H;by_cases c41:x15_4 < (l4.length:Int)
               ·rw [if_pos c41] at H;have c41b0:=decide_eq_true c41;clear c41;by_cases c42:0≤x15_4
                ·rw [if_pos c42] at H;have c42b0:=decide_eq_true c42;clear c42;replace H:=Option.bind_eq_some_iff.mp H;obtain ⟨⟨t773,t776⟩,A430,H⟩:=H;have A43:=Aside0.mk A430;clear A430;replace H:=Option.bind_eq_some_iff.mp H;obtain ⟨t777,A440,H⟩:=H;have A44:=Aside0.mk A440;clear A440;by_cases c45:t776 = 0
                 ·rw [if_pos c45] at H;have c45b0:=beq_iff_eq.mpr c45;have c45b1:=bne_eq_false_iff_eq.mpr c45;clear c45;by_cases c46:t777 > 0
                  ·rw [if_pos c46] at H;have c46b0:=decide_eq_true c46;clear c46;obtain rfl:=Option.some.inj H
                   try go_wp2
                   have n0_:=Aside0.mk (Kd.V_drew HO_13.out);have n1_:=Aside0.mk (blk_drew BK760.out);have n2_:=Aside0.mk (blk_drew BK761.out);have n3_:=Aside0.mk (below_drew1 HB.out);clear HO_13;clear BK760;clear BK761;clear HB;have HO_13:=n0_;have BK760:=n1_;have BK761:=n2_;have HB:=n3_;clear n0_ n1_ n2_ n3_;have p772:0≤(x15_4:Int):=of_decide_eq_true (zz11);have q772:x15_4 < (l4.length:Int):=of_decide_eq_true (zz11);obtain ⟨ad772,A772_0,c772_0,e772,hx772_0,hl772_0,hi772_0⟩:=at_T56 HR4.out x15_4 p772 q772;have hw772_0:=hx772_0;obtain rfl:ad766 = ad772:=(by injection e772);replace hx772_0:=(HB.out.cell (World.block_lt_of_cell? w _ hx772_0)).trans hx772_0;have HR772_0:=Aside0.mk hi772_0;have HC772_0:=Aside0.mk hl772_0;clear hi772_0 hl772_0;replace p772:=eq_true p772;replace q772:=eq_true q772;refine start_ (n:=14) (S:=fun w'=>w'.cell? ⟨gb760,0,none⟩ = some (.slice A0_0 l0_0.length c0_0)∧w'.cell? ⟨gb760,1,none⟩ = some (.slice A0_1 l0_1.length c0_1)∧w'.cell? ⟨gb761,0,none⟩ = some (.slice A2_0 l2_0.length c2_0)∧w'.cell? ⟨gb761,1,none⟩ = some (.slice A2_1 l2_1.length c2_1)∧w'.cell? ⟨gb761,2,none⟩ = some (.slice A2_2 l2_2.length c2_2)∧w'.cell? (ad766.add (x15_4).toNat) = some (.slice A772_0 ((rd_T56 l4 x15_4).f0).length c772_0)) (ds:=[]) #[false,false,false,false,false,false,false,false,false,false,false,false,false,false] (zz0) rfl rfl ⟨(blk_cell BK760.out 0).trans rfl,(blk_cell BK760.out 1).trans rfl,(blk_cell BK761.out 0).trans rfl,(blk_cell BK761.out 1).trans rfl,(blk_cell BK761.out 2).trans rfl,((HB.out.cell (World.block_lt_of_cell? w _ hw772_0)).trans hw772_0)⟩ (fun hHeld=>?_);refine with_tabW U10.tab14 U10.bits14 (fun HT_ HW_=>?_)
                   generalize wr.drew = w47 at HO_13 BK760 BK761 HB HR772_0 hx772_0 hHeld ⊢
                   refine zzp 1 83 ?_ #[false,true,false,false,false,false,false,false,false,false,false,false,false,false] rfl rfl (any_of HT_.out (zz0)) (fun _ _ _ h=>h) (Or.inl ⟨zz17,?_⟩) ?_ ?_ ?_;rotate_left
                   ·intro w'
                    go_simp
                    with_reducible rfl
                   rotate_left
                   ·simp only [zzs]
                    rfl
                   refine zzp 3 85 ?_ #[false,true,false,true,false,false,false,false,false,false,false,false,false,false] rfl rfl (any_of HT_.out (zz0)) (fun _ _ _ h=>h) (Or.inl ⟨zz17,?_⟩) ?_ ?_ ?_;rotate_left
                   ·intro w'
                    go_simp
                    with_reducible rfl
                   rotate_left
                   ·simp only [zzs]
                    rfl
                   refine zzp 4 86 ?_ #[false,true,false,true,true,false,false,false,false,false,false,false,false,false] rfl rfl (any_of HT_.out (zz0)) (fun _ _ _ h=>h) (Or.inl ⟨zz17,?_⟩) ?_ ?_ ?_;rotate_left
                   ·intro w'
                    go_simp
                    with_reducible rfl
                   rotate_left
                   ·simp only [zzs]
                    rfl
                   refine zzp 5 87 ?_ #[false,true,false,true,true,true,false,false,false,false,false,false,false,false] rfl rfl (any_of HT_.out (zz0)) (fun _ _ _ h=>h) (Or.inl ⟨zz17,?_⟩) ?_ ?_ ?_;rotate_left
                   ·intro w'
                    go_simp
                    with_reducible rfl
                   rotate_left
                   ·simp only [zzs]
                    rfl
                   refine zzp 6 88 ?_ #[false,true,false,true,true,true,true,false,false,false,false,false,false,false] rfl rfl (any_of HT_.out (zz0)) (fun _ _ _ h=>h) (Or.inl ⟨zz17,?_⟩) ?_ ?_ ?_;rotate_left
                   ·intro w'
                    go_simp
                    with_reducible rfl
                   rotate_left
                   ·simp only [zzs]
                    rfl
                   refine take_ (i:=0) (N:=some 82) (v:=?_) (a':=?_) #[true,true,false,true,true,true,true,false,false,false,false,false,false,false] rfl rfl (take_ofW HT_.out HW_.out (zz0)) (fun _ _ _ h=>h) (Or.inl ⟨zz17,?_⟩) hHeld ?_ ?_;rotate_left
                   ·rintro w' ⟨s0,s1,s2,s3,s4,s5⟩
                    go_simp
                    with_reducible rfl
                   rotate_left
                   ·simp only [zzs]
                    rfl
                   refine take_ (i:=2) (N:=some 84) (v:=?_) (a':=?_) #[true,true,true,true,true,true,true,false,false,false,false,false,false,false] rfl rfl (take_ofW HT_.out HW_.out (zz0)) (fun _ _ _ h=>h) (Or.inl ⟨zz17,?_⟩) hHeld ?_ ?_;rotate_left
                   ·rintro w' ⟨s0,s1,s2,s3,s4,s5⟩
                    go_simp
                    with_reducible rfl
                   rotate_left
                   ·simp only [zzs]
                    rfl
                   refine take_ (i:=7) (N:=some 89) (v:=?_) (a':=?_) #[true,true,true,true,true,true,true,true,false,false,false,false,false,false] rfl rfl (take_ofW HT_.out HW_.out (zz0)) (fun _ _ _ h=>h) (Or.inl ⟨zz17,?_⟩) hHeld ?_ ?_;rotate_left
                   ·rintro w' ⟨s0,s1,s2,s3,s4,s5⟩
                    go_simp
                    with_reducible rfl
                   rotate_left
                   ·simp only [zzs]
                    rfl
                   refine one_ (i:=8) (N:=some 90) #[true,true,true,true,true,true,true,true,true,false,false,false,false,false] rfl rfl (one_of HT_.out (zz0)) (zz31) (fun K hK=>?_);refine goes_ Try.func25 (zz0) rfl #[.agg #[.slice A0_0 l0_0.length c0_0,.slice A0_1 l0_1.length c0_1],.slice A1 l1.length c1,.agg #[.slice A2_0 l2_0.length c2_0,.slice A2_1 l2_1.length c2_1,.slice A2_2 l2_2.length c2_2],.int .i64 a3,.agg #[.slice A772_0 ((rd_T56 l4 x15_4).f0).length c772_0]] (zz17) rfl rfl (zz16) ?_
                   with_reducible refine (U16.calls k4 _ _ l0_0 _ _ l0_1 (fun k_=>k_ < w.heap.size) _ _ l1 _ _ l2_0 _ _ l2_1 _ _ l2_2 a3 (fun k_=>k_ < w.heap.size) _ _ ((rd_T56 l4 x15_4).f0) t773 t776 _ ?side1 ?side2 ?side3 ?side4 ?side5 ?side6 ?side7 ?side8 ?side9 ?side10 ?side11 ?side12 A43.out).mono ?_
                   (case side1=>exact zz147)
                   (case side2=>exact zz148)
                   (case side3=>exact zz149)
                   (case side4=>exact zz150)
                   (case side5=>exact zz170)
                   (case side6=>exact zz161)
                   (case side7=>exact zz162)
                   (case side8=>exact zz163)
                   (case side9=>exact zz164)
                   (case side10=>exact zz165)
                   (case side11=>exact zz166)
                   (case side12=>exact zz171)
                   rintro e w48 ⟨v774,rfl,ho0,hb⟩;refine ⟨_,rfl,?_⟩;have n0_:=Aside0.mk (Kd.V_below (zz142) hb);have n1_:=Aside0.mk (Kd.V_lower (Kd.V_mono (ok':=fun k_=>k_ ≠ gb760∧k_ ≠ gb761) ho0 (fun k_ hk_=>⟨Or.elim hk_ (fun hs_=>Or.elim hs_ (fun hs_=>fun e_=>Nat.not_le.2 hs_ (zz139)) (fun hs_=>fun e_=>Nat.not_le.2 hs_ (zz139))) (fun hn_=>(Kd.freshB (g:=gb760) (o:=.cells #[.slice A0_0 l0_0.length c0_0,.slice A0_1 l0_1.length c0_1] 24 (0,0)) (zz134) k_ hn_)),Or.elim hk_ (fun hs_=>Or.elim hs_ (fun hs_=>fun e_=>Nat.not_le.2 hs_ (zz140)) (fun hs_=>fun e_=>Nat.not_le.2 hs_ (zz140))) (fun hn_=>(Kd.freshB (g:=gb761) (o:=.cells #[.slice A2_0 l2_0.length c2_0,.slice A2_1 l2_1.length c2_1,.slice A2_2 l2_2.length c2_2] 36 (0,0)) (zz136) k_ hn_))⟩)) (below_size (zz137)));have n2_:=Aside0.mk (blk_below (zz134) hb);have n3_:=Aside0.mk (blk_below (zz136) hb);have n4_:=Aside0.mk (below_step (zz137) hb);clear HO_13;clear BK760;clear BK761;clear HB;have HO_13:=n0_;have HO775:=n1_;have BK760:=n2_;have BK761:=n3_;have HB:=n4_;clear n0_ n1_ n2_ n3_ n4_
                   (try clear hb)
                   (try clear hb2)
                   (try clear hk)
                   (try clear hi)
                   (try clear ho0)
                   refine hK.out _ _ ⟨(blk_cell BK760.out 0).trans rfl,(blk_cell BK760.out 1).trans rfl,(blk_cell BK761.out 0).trans rfl,(blk_cell BK761.out 1).trans rfl,(blk_cell BK761.out 2).trans rfl,((HB.out.cell (World.block_lt_of_cell? w _ hw772_0)).trans hw772_0)⟩ (fun hHeld=>?_);clear hK K;refine norm_ (a':=?_) ?_ ?_;rotate_left
                   ·show Act.put _ (some 90) _ = _
                    simp only [zzs]
                    rfl
                   refine zzp 9 81 ?_ #[true,true,true,true,true,true,true,true,true,true,false,false,false,false] rfl rfl (any_of HT_.out (zz0)) (fun _ _ _ h=>h) (Or.inl ⟨zz17,?_⟩) ?_ ?_ ?_;rotate_left
                   ·intro w'
                    go_simp
                    with_reducible rfl
                   rotate_left
                   ·simp only [zzs]
                    rfl
                   refine zzp 10 91 ?_ #[true,true,true,true,true,true,true,true,true,true,true,false,false,false] rfl rfl (any_of HT_.out (zz0)) (fun _ _ _ h=>h) (Or.inl ⟨zz17,?_⟩) ?_ ?_ ?_;rotate_left
                   ·intro w'
                    go_simp
                    with_reducible rfl
                   rotate_left
                   ·simp only [zzs]
                    rfl
                   refine zzp 11 92 ?_ #[true,true,true,true,true,true,true,true,true,true,true,true,false,false] rfl rfl (any_of HT_.out (zz0)) (fun _ _ _ h=>h) (Or.inl ⟨zz17,?_⟩) ?_ ?_ ?_;rotate_left
                   ·intro w'
                    go_simp
                    with_reducible rfl
                   rotate_left
                   ·simp only [zzs]
                    rfl
                   refine zzp 12 16 ?_ #[true,true,true,true,true,true,true,true,true,true,true,true,true,false] rfl rfl (any_of HT_.out (zz0)) (fun _ _ _ h=>h) (Or.inl ⟨zz17,?_⟩) ?_ ?_ ?_;rotate_left
                   ·intro w'
                    go_simp
                    with_reducible rfl
                   rotate_left
                   ·simp only [zzs]
                    rfl
                   refine zzp 13 17 ?_ #[true,true,true,true,true,true,true,true,true,true,true,true,true,true] rfl rfl (any_of HT_.out (zz0)) (fun _ _ _ h=>h) (Or.inl ⟨zz17,?_⟩) ?_ ?_ ?_;rotate_left
                   ·intro w'
                    go_simp
                    with_reducible rfl
                   rotate_left
                   ·simp only [zzs]
                    rfl
                   refine done_ (done_of HT_.out (zz0)) ?_;obtain ⟨Ao49,co49,eo49⟩:=Kd.V_slice HO775.out;subst eo49;obtain ⟨Ao50,co50,eo50⟩:=Kd.V_slice HO_13.out;subst eo50
                   try go_wp2_with (first|((with_reducible refine gate_callee (f:=26) rfl ?_);refine goesL_ (some 95) rfl rfl Try.func26 (zz0) rfl #[.slice Ao49 t773.length co49,.slice Ao50 t767.length co50] rfl (zz16) ?_;(with_reducible refine (U50.calls k4 _ _ t773 _ _ t767 t777 _ ?side1 ?side2 ?side3 ?side4 A44.out).mono ?_);(case side1=>exact zz172);(case side2=>exact (Kd.V_reads' HO775.out).2.1);(case side3=>exact zz173);(case side4=>exact (Kd.V_reads' HO_13.out).2.1);rintro e w51 ⟨rfl,hb⟩;refine ⟨_,rfl,?_⟩;replace HO_13:=Aside0.mk (Kd.V_below (zz142) hb);replace HO775:=Aside0.mk (Kd.V_below (zz143) hb);replace BK760:=Aside0.mk (blk_below (zz134) hb);replace BK761:=Aside0.mk (blk_below (zz136) hb);replace HB:=Aside0.mk (below_step (zz137) hb);(try clear hb);(try clear hb2);(try clear hk);(try clear hi)))
                   go_ret
                   exact ⟨zz6,zz137⟩
                  ·rw [if_neg c46] at H;have c46b0:=decide_eq_false c46;clear c46;by_cases c52:t777 = 0
                   ·rw [if_pos c52] at H;have c52b0:=beq_iff_eq.mpr c52;have c52b1:=bne_eq_false_iff_eq.mpr c52;clear c52;by_cases c53:x15_4 < t764
                    ·rw [if_pos c53] at H;have c53b0:=decide_eq_true c53;clear c53;obtain rfl:=Option.some.inj H
                     try go_wp2
                     have n0_:=Aside0.mk (Kd.V_drew HO_13.out);have n1_:=Aside0.mk (blk_drew BK760.out);have n2_:=Aside0.mk (blk_drew BK761.out);have n3_:=Aside0.mk (below_drew1 HB.out);clear HO_13;clear BK760;clear BK761;clear HB;have HO_13:=n0_;have BK760:=n1_;have BK761:=n2_;have HB:=n3_;clear n0_ n1_ n2_ n3_;have p772:0≤(x15_4:Int):=of_decide_eq_true (zz11);have q772:x15_4 < (l4.length:Int):=of_decide_eq_true (zz11);obtain ⟨ad772,A772_0,c772_0,e772,hx772_0,hl772_0,hi772_0⟩:=at_T56 HR4.out x15_4 p772 q772;have hw772_0:=hx772_0;obtain rfl:ad766 = ad772:=(by injection e772);replace hx772_0:=(HB.out.cell (World.block_lt_of_cell? w _ hx772_0)).trans hx772_0;have HR772_0:=Aside0.mk hi772_0;have HC772_0:=Aside0.mk hl772_0;clear hi772_0 hl772_0;replace p772:=eq_true p772;replace q772:=eq_true q772;refine start_ (n:=14) (S:=fun w'=>w'.cell? ⟨gb760,0,none⟩ = some (.slice A0_0 l0_0.length c0_0)∧w'.cell? ⟨gb760,1,none⟩ = some (.slice A0_1 l0_1.length c0_1)∧w'.cell? ⟨gb761,0,none⟩ = some (.slice A2_0 l2_0.length c2_0)∧w'.cell? ⟨gb761,1,none⟩ = some (.slice A2_1 l2_1.length c2_1)∧w'.cell? ⟨gb761,2,none⟩ = some (.slice A2_2 l2_2.length c2_2)∧w'.cell? (ad766.add (x15_4).toNat) = some (.slice A772_0 ((rd_T56 l4 x15_4).f0).length c772_0)) (ds:=[]) #[false,false,false,false,false,false,false,false,false,false,false,false,false,false] (zz0) rfl rfl ⟨(blk_cell BK760.out 0).trans rfl,(blk_cell BK760.out 1).trans rfl,(blk_cell BK761.out 0).trans rfl,(blk_cell BK761.out 1).trans rfl,(blk_cell BK761.out 2).trans rfl,((HB.out.cell (World.block_lt_of_cell? w _ hw772_0)).trans hw772_0)⟩ (fun hHeld=>?_);refine with_tabW U10.tab14 U10.bits14 (fun HT_ HW_=>?_)
                     generalize wr.drew = w54 at HO_13 BK760 BK761 HB HR772_0 hx772_0 hHeld ⊢
                     refine zzp 1 83 ?_ #[false,true,false,false,false,false,false,false,false,false,false,false,false,false] rfl rfl (any_of HT_.out (zz0)) (fun _ _ _ h=>h) (Or.inl ⟨zz17,?_⟩) ?_ ?_ ?_;rotate_left
                     ·intro w'
                      go_simp
                      with_reducible rfl
                     rotate_left
                     ·simp only [zzs]
                      rfl
                     refine zzp 3 85 ?_ #[false,true,false,true,false,false,false,false,false,false,false,false,false,false] rfl rfl (any_of HT_.out (zz0)) (fun _ _ _ h=>h) (Or.inl ⟨zz17,?_⟩) ?_ ?_ ?_;rotate_left
                     ·intro w'
                      go_simp
                      with_reducible rfl
                     rotate_left
                     ·simp only [zzs]
                      rfl
                     refine zzp 4 86 ?_ #[false,true,false,true,true,false,false,false,false,false,false,false,false,false] rfl rfl (any_of HT_.out (zz0)) (fun _ _ _ h=>h) (Or.inl ⟨zz17,?_⟩) ?_ ?_ ?_;rotate_left
                     ·intro w'
                      go_simp
                      with_reducible rfl
                     rotate_left
                     ·simp only [zzs]
                      rfl
                     refine zzp 5 87 ?_ #[false,true,false,true,true,true,false,false,false,false,false,false,false,false] rfl rfl (any_of HT_.out (zz0)) (fun _ _ _ h=>h) (Or.inl ⟨zz17,?_⟩) ?_ ?_ ?_;rotate_left
                     ·intro w'
                      go_simp
                      with_reducible rfl
                     rotate_left
                     ·simp only [zzs]
                      rfl
                     refine zzp 6 88 ?_ #[false,true,false,true,true,true,true,false,false,false,false,false,false,false] rfl rfl (any_of HT_.out (zz0)) (fun _ _ _ h=>h) (Or.inl ⟨zz17,?_⟩) ?_ ?_ ?_;rotate_left
                     ·intro w'
                      go_simp
                      with_reducible rfl
                     rotate_left
                     ·simp only [zzs]
                      rfl
                     refine take_ (i:=0) (N:=some 82) (v:=?_) (a':=?_) #[true,true,false,true,true,true,true,false,false,false,false,false,false,false] rfl rfl (take_ofW HT_.out HW_.out (zz0)) (fun _ _ _ h=>h) (Or.inl ⟨zz17,?_⟩) hHeld ?_ ?_;rotate_left
                     ·rintro w' ⟨s0,s1,s2,s3,s4,s5⟩
                      go_simp
                      with_reducible rfl
                     rotate_left
                     ·simp only [zzs]
                      rfl
                     refine take_ (i:=2) (N:=some 84) (v:=?_) (a':=?_) #[true,true,true,true,true,true,true,false,false,false,false,false,false,false] rfl rfl (take_ofW HT_.out HW_.out (zz0)) (fun _ _ _ h=>h) (Or.inl ⟨zz17,?_⟩) hHeld ?_ ?_;rotate_left
                     ·rintro w' ⟨s0,s1,s2,s3,s4,s5⟩
                      go_simp
                      with_reducible rfl
                     rotate_left
                     ·simp only [zzs]
                      rfl
                     refine take_ (i:=7) (N:=some 89) (v:=?_) (a':=?_) #[true,true,true,true,true,true,true,true,false,false,false,false,false,false] rfl rfl (take_ofW HT_.out HW_.out (zz0)) (fun _ _ _ h=>h) (Or.inl ⟨zz17,?_⟩) hHeld ?_ ?_;rotate_left
                     ·rintro w' ⟨s0,s1,s2,s3,s4,s5⟩
                      go_simp
                      with_reducible rfl
                     rotate_left
                     ·simp only [zzs]
                      rfl
                     refine one_ (i:=8) (N:=some 90) #[true,true,true,true,true,true,true,true,true,false,false,false,false,false] rfl rfl (one_of HT_.out (zz0)) (zz31) (fun K hK=>?_);refine goes_ Try.func25 (zz0) rfl #[.agg #[.slice A0_0 l0_0.length c0_0,.slice A0_1 l0_1.length c0_1],.slice A1 l1.length c1,.agg #[.slice A2_0 l2_0.length c2_0,.slice A2_1 l2_1.length c2_1,.slice A2_2 l2_2.length c2_2],.int .i64 a3,.agg #[.slice A772_0 ((rd_T56 l4 x15_4).f0).length c772_0]] (zz17) rfl rfl (zz16) ?_
                     with_reducible refine (U16.calls k4 _ _ l0_0 _ _ l0_1 (fun k_=>k_ < w.heap.size) _ _ l1 _ _ l2_0 _ _ l2_1 _ _ l2_2 a3 (fun k_=>k_ < w.heap.size) _ _ ((rd_T56 l4 x15_4).f0) t773 t776 _ ?side1 ?side2 ?side3 ?side4 ?side5 ?side6 ?side7 ?side8 ?side9 ?side10 ?side11 ?side12 A43.out).mono ?_
                     (case side1=>exact zz147)
                     (case side2=>exact zz148)
                     (case side3=>exact zz149)
                     (case side4=>exact zz150)
                     (case side5=>exact zz170)
                     (case side6=>exact zz161)
                     (case side7=>exact zz162)
                     (case side8=>exact zz163)
                     (case side9=>exact zz164)
                     (case side10=>exact zz165)
                     (case side11=>exact zz166)
                     (case side12=>exact zz171)
                     rintro e w55 ⟨v774,rfl,ho0,hb⟩;refine ⟨_,rfl,?_⟩;have n0_:=Aside0.mk (Kd.V_below (zz142) hb);have n1_:=Aside0.mk (Kd.V_lower (Kd.V_mono (ok':=fun k_=>k_ ≠ gb760∧k_ ≠ gb761) ho0 (fun k_ hk_=>⟨Or.elim hk_ (fun hs_=>Or.elim hs_ (fun hs_=>fun e_=>Nat.not_le.2 hs_ (zz139)) (fun hs_=>fun e_=>Nat.not_le.2 hs_ (zz139))) (fun hn_=>(Kd.freshB (g:=gb760) (o:=.cells #[.slice A0_0 l0_0.length c0_0,.slice A0_1 l0_1.length c0_1] 24 (0,0)) (zz134) k_ hn_)),Or.elim hk_ (fun hs_=>Or.elim hs_ (fun hs_=>fun e_=>Nat.not_le.2 hs_ (zz140)) (fun hs_=>fun e_=>Nat.not_le.2 hs_ (zz140))) (fun hn_=>(Kd.freshB (g:=gb761) (o:=.cells #[.slice A2_0 l2_0.length c2_0,.slice A2_1 l2_1.length c2_1,.slice A2_2 l2_2.length c2_2] 36 (0,0)) (zz136) k_ hn_))⟩)) (below_size (zz137)));have n2_:=Aside0.mk (blk_below (zz134) hb);have n3_:=Aside0.mk (blk_below (zz136) hb);have n4_:=Aside0.mk (below_step (zz137) hb);clear HO_13;clear BK760;clear BK761;clear HB;have HO_13:=n0_;have HO775:=n1_;have BK760:=n2_;have BK761:=n3_;have HB:=n4_;clear n0_ n1_ n2_ n3_ n4_
                     (try clear hb)
                     (try clear hb2)
                     (try clear hk)
                     (try clear hi)
                     (try clear ho0)
                     refine hK.out _ _ ⟨(blk_cell BK760.out 0).trans rfl,(blk_cell BK760.out 1).trans rfl,(blk_cell BK761.out 0).trans rfl,(blk_cell BK761.out 1).trans rfl,(blk_cell BK761.out 2).trans rfl,((HB.out.cell (World.block_lt_of_cell? w _ hw772_0)).trans hw772_0)⟩ (fun hHeld=>?_);clear hK K;refine norm_ (a':=?_) ?_ ?_;rotate_left
                     ·show Act.put _ (some 90) _ = _
                      simp only [zzs]
                      rfl
                     refine zzp 9 81 ?_ #[true,true,true,true,true,true,true,true,true,true,false,false,false,false] rfl rfl (any_of HT_.out (zz0)) (fun _ _ _ h=>h) (Or.inl ⟨zz17,?_⟩) ?_ ?_ ?_;rotate_left
                     ·intro w'
                      go_simp
                      with_reducible rfl
                     rotate_left
                     ·simp only [zzs]
                      rfl
                     refine zzp 10 91 ?_ #[true,true,true,true,true,true,true,true,true,true,true,false,false,false] rfl rfl (any_of HT_.out (zz0)) (fun _ _ _ h=>h) (Or.inl ⟨zz17,?_⟩) ?_ ?_ ?_;rotate_left
                     ·intro w'
                      go_simp
                      with_reducible rfl
                     rotate_left
                     ·simp only [zzs]
                      rfl
                     refine zzp 11 92 ?_ #[true,true,true,true,true,true,true,true,true,true,true,true,false,false] rfl rfl (any_of HT_.out (zz0)) (fun _ _ _ h=>h) (Or.inl ⟨zz17,?_⟩) ?_ ?_ ?_;rotate_left
                     ·intro w'
                      go_simp
                      with_reducible rfl
                     rotate_left
                     ·simp only [zzs]
                      rfl
                     refine zzp 12 16 ?_ #[true,true,true,true,true,true,true,true,true,true,true,true,true,false] rfl rfl (any_of HT_.out (zz0)) (fun _ _ _ h=>h) (Or.inl ⟨zz17,?_⟩) ?_ ?_ ?_;rotate_left
                     ·intro w'
                      go_simp
                      with_reducible rfl
                     rotate_left
                     ·simp only [zzs]
                      rfl
                     refine zzp 13 17 ?_ #[true,true,true,true,true,true,true,true,true,true,true,true,true,true] rfl rfl (any_of HT_.out (zz0)) (fun _ _ _ h=>h) (Or.inl ⟨zz17,?_⟩) ?_ ?_ ?_;rotate_left
                     ·intro w'
                      go_simp
                      with_reducible rfl
                     rotate_left
                     ·simp only [zzs]
                      rfl
                     refine done_ (done_of HT_.out (zz0)) ?_;obtain ⟨Ao56,co56,eo56⟩:=Kd.V_slice HO775.out;subst eo56;obtain ⟨Ao57,co57,eo57⟩:=Kd.V_slice HO_13.out;subst eo57
                     try go_wp2_with (first|((with_reducible refine gate_callee (f:=26) rfl ?_);refine goesL_ (some 95) rfl rfl Try.func26 (zz0) rfl #[.slice Ao56 t773.length co56,.slice Ao57 t767.length co57] rfl (zz16) ?_;(with_reducible refine (U50.calls k4 _ _ t773 _ _ t767 t777 _ ?side1 ?side2 ?side3 ?side4 A44.out).mono ?_);(case side1=>exact zz172);(case side2=>exact (Kd.V_reads' HO775.out).2.1);(case side3=>exact zz173);(case side4=>exact (Kd.V_reads' HO_13.out).2.1);rintro e w58 ⟨rfl,hb⟩;refine ⟨_,rfl,?_⟩;replace HO_13:=Aside0.mk (Kd.V_below (zz142) hb);replace HO775:=Aside0.mk (Kd.V_below (zz143) hb);replace BK760:=Aside0.mk (blk_below (zz134) hb);replace BK761:=Aside0.mk (blk_below (zz136) hb);replace HB:=Aside0.mk (below_step (zz137) hb);(try clear hb);(try clear hb2);(try clear hk);(try clear hi)))
                     go_ret
                     exact ⟨zz6,zz137⟩
                    ·rw [if_neg c53] at H;have c53b0:=decide_eq_false c53;clear c53;have H':=Aside0.mk H;clear H
                     try go_wp2
                     have n0_:=Aside0.mk (Kd.V_drew HO_13.out);have n1_:=Aside0.mk (blk_drew BK760.out);have n2_:=Aside0.mk (blk_drew BK761.out);have n3_:=Aside0.mk (below_drew1 HB.out);clear HO_13;clear BK760;clear BK761;clear HB;have HO_13:=n0_;have BK760:=n1_;have BK761:=n2_;have HB:=n3_;clear n0_ n1_ n2_ n3_;have p772:0≤(x15_4:Int):=of_decide_eq_true (zz11);have q772:x15_4 < (l4.length:Int):=of_decide_eq_true (zz11);obtain ⟨ad772,A772_0,c772_0,e772,hx772_0,hl772_0,hi772_0⟩:=at_T56 HR4.out x15_4 p772 q772;have hw772_0:=hx772_0;obtain rfl:ad766 = ad772:=(by injection e772);replace hx772_0:=(HB.out.cell (World.block_lt_of_cell? w _ hx772_0)).trans hx772_0;have HR772_0:=Aside0.mk hi772_0;have HC772_0:=Aside0.mk hl772_0;clear hi772_0 hl772_0;replace p772:=eq_true p772;replace q772:=eq_true q772;refine start_ (n:=14) (S:=fun w'=>w'.cell? ⟨gb760,0,none⟩ = some (.slice A0_0 l0_0.length c0_0)∧w'.cell? ⟨gb760,1,none⟩ = some (.slice A0_1 l0_1.length c0_1)∧w'.cell? ⟨gb761,0,none⟩ = some (.slice A2_0 l2_0.length c2_0)∧w'.cell? ⟨gb761,1,none⟩ = some (.slice A2_1 l2_1.length c2_1)∧w'.cell? ⟨gb761,2,none⟩ = some (.slice A2_2 l2_2.length c2_2)∧w'.cell? (ad766.add (x15_4).toNat) = some (.slice A772_0 ((rd_T56 l4 x15_4).f0).length c772_0)) (ds:=[]) #[false,false,false,false,false,false,false,false,false,false,false,false,false,false] (zz0) rfl rfl ⟨(blk_cell BK760.out 0).trans rfl,(blk_cell BK760.out 1).trans rfl,(blk_cell BK761.out 0).trans rfl,(blk_cell BK761.out 1).trans rfl,(blk_cell BK761.out 2).trans rfl,((HB.out.cell (World.block_lt_of_cell? w _ hw772_0)).trans hw772_0)⟩ (fun hHeld=>?_);refine with_tabW U10.tab14 U10.bits14 (fun HT_ HW_=>?_)
                     generalize wr.drew = w59 at HO_13 BK760 BK761 HB HR772_0 hx772_0 hHeld ⊢
                     refine zzp 1 83 ?_ #[false,true,false,false,false,false,false,false,false,false,false,false,false,false] rfl rfl (any_of HT_.out (zz0)) (fun _ _ _ h=>h) (Or.inl ⟨zz17,?_⟩) ?_ ?_ ?_;rotate_left
                     ·intro w'
                      go_simp
                      with_reducible rfl
                     rotate_left
                     ·simp only [zzs]
                      rfl
                     refine zzp 3 85 ?_ #[false,true,false,true,false,false,false,false,false,false,false,false,false,false] rfl rfl (any_of HT_.out (zz0)) (fun _ _ _ h=>h) (Or.inl ⟨zz17,?_⟩) ?_ ?_ ?_;rotate_left
                     ·intro w'
                      go_simp
                      with_reducible rfl
                     rotate_left
                     ·simp only [zzs]
                      rfl
                     refine zzp 4 86 ?_ #[false,true,false,true,true,false,false,false,false,false,false,false,false,false] rfl rfl (any_of HT_.out (zz0)) (fun _ _ _ h=>h) (Or.inl ⟨zz17,?_⟩) ?_ ?_ ?_;rotate_left
                     ·intro w'
                      go_simp
                      with_reducible rfl
                     rotate_left
                     ·simp only [zzs]
                      rfl
                     refine zzp 5 87 ?_ #[false,true,false,true,true,true,false,false,false,false,false,false,false,false] rfl rfl (any_of HT_.out (zz0)) (fun _ _ _ h=>h) (Or.inl ⟨zz17,?_⟩) ?_ ?_ ?_;rotate_left
                     ·intro w'
                      go_simp
                      with_reducible rfl
                     rotate_left
                     ·simp only [zzs]
                      rfl
                     refine zzp 6 88 ?_ #[false,true,false,true,true,true,true,false,false,false,false,false,false,false] rfl rfl (any_of HT_.out (zz0)) (fun _ _ _ h=>h) (Or.inl ⟨zz17,?_⟩) ?_ ?_ ?_;rotate_left
                     ·intro w'
                      go_simp
                      with_reducible rfl
                     rotate_left
                     ·simp only [zzs]
                      rfl
                     refine take_ (i:=0) (N:=some 82) (v:=?_) (a':=?_) #[true,true,false,true,true,true,true,false,false,false,false,false,false,false] rfl rfl (take_ofW HT_.out HW_.out (zz0)) (fun _ _ _ h=>h) (Or.inl ⟨zz17,?_⟩) hHeld ?_ ?_;rotate_left
                     ·rintro w' ⟨s0,s1,s2,s3,s4,s5⟩
                      go_simp
                      with_reducible rfl
                     rotate_left
                     ·simp only [zzs]
                      rfl
                     refine take_ (i:=2) (N:=some 84) (v:=?_) (a':=?_) #[true,true,true,true,true,true,true,false,false,false,false,false,false,false] rfl rfl (take_ofW HT_.out HW_.out (zz0)) (fun _ _ _ h=>h) (Or.inl ⟨zz17,?_⟩) hHeld ?_ ?_;rotate_left
                     ·rintro w' ⟨s0,s1,s2,s3,s4,s5⟩
                      go_simp
                      with_reducible rfl
                     rotate_left
                     ·simp only [zzs]
                      rfl
                     refine take_ (i:=7) (N:=some 89) (v:=?_) (a':=?_) #[true,true,true,true,true,true,true,true,false,false,false,false,false,false] rfl rfl (take_ofW HT_.out HW_.out (zz0)) (fun _ _ _ h=>h) (Or.inl ⟨zz17,?_⟩) hHeld ?_ ?_;rotate_left
                     ·rintro w' ⟨s0,s1,s2,s3,s4,s5⟩
                      go_simp
                      with_reducible rfl
                     rotate_left
                     ·simp only [zzs]
                      rfl
                     refine one_ (i:=8) (N:=some 90) #[true,true,true,true,true,true,true,true,true,false,false,false,false,false] rfl rfl (one_of HT_.out (zz0)) (zz31) (fun K hK=>?_);refine goes_ Try.func25 (zz0) rfl #[.agg #[.slice A0_0 l0_0.length c0_0,.slice A0_1 l0_1.length c0_1],.slice A1 l1.length c1,.agg #[.slice A2_0 l2_0.length c2_0,.slice A2_1 l2_1.length c2_1,.slice A2_2 l2_2.length c2_2],.int .i64 a3,.agg #[.slice A772_0 ((rd_T56 l4 x15_4).f0).length c772_0]] (zz17) rfl rfl (zz16) ?_
                     with_reducible refine (U16.calls k4 _ _ l0_0 _ _ l0_1 (fun k_=>k_ < w.heap.size) _ _ l1 _ _ l2_0 _ _ l2_1 _ _ l2_2 a3 (fun k_=>k_ < w.heap.size) _ _ ((rd_T56 l4 x15_4).f0) t773 t776 _ ?side1 ?side2 ?side3 ?side4 ?side5 ?side6 ?side7 ?side8 ?side9 ?side10 ?side11 ?side12 A43.out).mono ?_
                     (case side1=>exact zz147)
                     (case side2=>exact zz148)
                     (case side3=>exact zz149)
                     (case side4=>exact zz150)
                     (case side5=>exact zz170)
                     (case side6=>exact zz161)
                     (case side7=>exact zz162)
                     (case side8=>exact zz163)
                     (case side9=>exact zz164)
                     (case side10=>exact zz165)
                     (case side11=>exact zz166)
                     (case side12=>exact zz171)
                     rintro e w60 ⟨v774,rfl,ho0,hb⟩;refine ⟨_,rfl,?_⟩;have n0_:=Aside0.mk (Kd.V_below (zz142) hb);have n1_:=Aside0.mk (Kd.V_lower (Kd.V_mono (ok':=fun k_=>k_ ≠ gb760∧k_ ≠ gb761) ho0 (fun k_ hk_=>⟨Or.elim hk_ (fun hs_=>Or.elim hs_ (fun hs_=>fun e_=>Nat.not_le.2 hs_ (zz139)) (fun hs_=>fun e_=>Nat.not_le.2 hs_ (zz139))) (fun hn_=>(Kd.freshB (g:=gb760) (o:=.cells #[.slice A0_0 l0_0.length c0_0,.slice A0_1 l0_1.length c0_1] 24 (0,0)) (zz134) k_ hn_)),Or.elim hk_ (fun hs_=>Or.elim hs_ (fun hs_=>fun e_=>Nat.not_le.2 hs_ (zz140)) (fun hs_=>fun e_=>Nat.not_le.2 hs_ (zz140))) (fun hn_=>(Kd.freshB (g:=gb761) (o:=.cells #[.slice A2_0 l2_0.length c2_0,.slice A2_1 l2_1.length c2_1,.slice A2_2 l2_2.length c2_2] 36 (0,0)) (zz136) k_ hn_))⟩)) (below_size (zz137)));have n2_:=Aside0.mk (blk_below (zz134) hb);have n3_:=Aside0.mk (blk_below (zz136) hb);have n4_:=Aside0.mk (below_step (zz137) hb);clear HO_13;clear BK760;clear BK761;clear HB;have HO_13:=n0_;have HO775:=n1_;have BK760:=n2_;have BK761:=n3_;have HB:=n4_;clear n0_ n1_ n2_ n3_ n4_
                     (try clear hb)
                     (try clear hb2)
                     (try clear hk)
                     (try clear hi)
                     (try clear ho0)
                     refine hK.out _ _ ⟨(blk_cell BK760.out 0).trans rfl,(blk_cell BK760.out 1).trans rfl,(blk_cell BK761.out 0).trans rfl,(blk_cell BK761.out 1).trans rfl,(blk_cell BK761.out 2).trans rfl,((HB.out.cell (World.block_lt_of_cell? w _ hw772_0)).trans hw772_0)⟩ (fun hHeld=>?_);clear hK K;refine norm_ (a':=?_) ?_ ?_;rotate_left
                     ·show Act.put _ (some 90) _ = _
                      simp only [zzs]
                      rfl
                     refine zzp 9 81 ?_ #[true,true,true,true,true,true,true,true,true,true,false,false,false,false] rfl rfl (any_of HT_.out (zz0)) (fun _ _ _ h=>h) (Or.inl ⟨zz17,?_⟩) ?_ ?_ ?_;rotate_left
                     ·intro w'
                      go_simp
                      with_reducible rfl
                     rotate_left
                     ·simp only [zzs]
                      rfl
                     refine zzp 10 91 ?_ #[true,true,true,true,true,true,true,true,true,true,true,false,false,false] rfl rfl (any_of HT_.out (zz0)) (fun _ _ _ h=>h) (Or.inl ⟨zz17,?_⟩) ?_ ?_ ?_;rotate_left
                     ·intro w'
                      go_simp
                      with_reducible rfl
                     rotate_left
                     ·simp only [zzs]
                      rfl
                     refine zzp 11 92 ?_ #[true,true,true,true,true,true,true,true,true,true,true,true,false,false] rfl rfl (any_of HT_.out (zz0)) (fun _ _ _ h=>h) (Or.inl ⟨zz17,?_⟩) ?_ ?_ ?_;rotate_left
                     ·intro w'
                      go_simp
                      with_reducible rfl
                     rotate_left
                     ·simp only [zzs]
                      rfl
                     refine zzp 12 16 ?_ #[true,true,true,true,true,true,true,true,true,true,true,true,true,false] rfl rfl (any_of HT_.out (zz0)) (fun _ _ _ h=>h) (Or.inl ⟨zz17,?_⟩) ?_ ?_ ?_;rotate_left
                     ·intro w'
                      go_simp
                      with_reducible rfl
                     rotate_left
                     ·simp only [zzs]
                      rfl
                     refine zzp 13 17 ?_ #[true,true,true,true,true,true,true,true,true,true,true,true,true,true] rfl rfl (any_of HT_.out (zz0)) (fun _ _ _ h=>h) (Or.inl ⟨zz17,?_⟩) ?_ ?_ ?_;rotate_left
                     ·intro w'
                      go_simp
                      with_reducible rfl
                     rotate_left
                     ·simp only [zzs]
                      rfl
                     refine done_ (done_of HT_.out (zz0)) ?_;obtain ⟨Ao61,co61,eo61⟩:=Kd.V_slice HO775.out;subst eo61;obtain ⟨Ao62,co62,eo62⟩:=Kd.V_slice HO_13.out;subst eo62
                     try go_wp2_with (first|((with_reducible refine gate_callee (f:=26) rfl ?_);refine goesL_ (some 95) rfl rfl Try.func26 (zz0) rfl #[.slice Ao61 t773.length co61,.slice Ao62 t767.length co62] rfl (zz16) ?_;(with_reducible refine (U50.calls k4 _ _ t773 _ _ t767 t777 _ ?side1 ?side2 ?side3 ?side4 A44.out).mono ?_);(case side1=>exact zz172);(case side2=>exact (Kd.V_reads' HO775.out).2.1);(case side3=>exact zz173);(case side4=>exact (Kd.V_reads' HO_13.out).2.1);rintro e w63 ⟨rfl,hb⟩;refine ⟨_,rfl,?_⟩;replace HO_13:=Aside0.mk (Kd.V_below (zz142) hb);replace HO775:=Aside0.mk (Kd.V_below (zz143) hb);replace BK760:=Aside0.mk (blk_below (zz134) hb);replace BK761:=Aside0.mk (blk_below (zz136) hb);replace HB:=Aside0.mk (below_step (zz137) hb);(try clear hb);(try clear hb2);(try clear hk);(try clear hi)))
                     go_roundg k4
                     case measure=>have:=HJ5.out;have:=HJ20.out;have:=HJ32.out;have:=HK4.out;omega
                     case rel=>exact ⟨(wrap64 (x15_4+1)),(zz2),H',⟨by have:=HJ5.out;have:=HJ20.out;have:=HJ32.out;have:=HK4.out;omega⟩,⟨zz142⟩,⟨zz134⟩,⟨zz136⟩,⟨zz137⟩⟩
                   ·rw [if_neg c52] at H;have c52b0:=beq_eq_false_iff_ne.mpr c52;have c52b1:=bne_iff_ne.mpr c52;have H':=Aside0.mk H;clear H
                    try go_wp2
                    have n0_:=Aside0.mk (Kd.V_drew HO_13.out);have n1_:=Aside0.mk (blk_drew BK760.out);have n2_:=Aside0.mk (blk_drew BK761.out);have n3_:=Aside0.mk (below_drew1 HB.out);clear HO_13;clear BK760;clear BK761;clear HB;have HO_13:=n0_;have BK760:=n1_;have BK761:=n2_;have HB:=n3_;clear n0_ n1_ n2_ n3_;have p772:0≤(x15_4:Int):=of_decide_eq_true (zz11);have q772:x15_4 < (l4.length:Int):=of_decide_eq_true (zz11);obtain ⟨ad772,A772_0,c772_0,e772,hx772_0,hl772_0,hi772_0⟩:=at_T56 HR4.out x15_4 p772 q772;have hw772_0:=hx772_0;obtain rfl:ad766 = ad772:=(by injection e772);replace hx772_0:=(HB.out.cell (World.block_lt_of_cell? w _ hx772_0)).trans hx772_0;have HR772_0:=Aside0.mk hi772_0;have HC772_0:=Aside0.mk hl772_0;clear hi772_0 hl772_0;replace p772:=eq_true p772;replace q772:=eq_true q772;refine start_ (n:=14) (S:=fun w'=>w'.cell? ⟨gb760,0,none⟩ = some (.slice A0_0 l0_0.length c0_0)∧w'.cell? ⟨gb760,1,none⟩ = some (.slice A0_1 l0_1.length c0_1)∧w'.cell? ⟨gb761,0,none⟩ = some (.slice A2_0 l2_0.length c2_0)∧w'.cell? ⟨gb761,1,none⟩ = some (.slice A2_1 l2_1.length c2_1)∧w'.cell? ⟨gb761,2,none⟩ = some (.slice A2_2 l2_2.length c2_2)∧w'.cell? (ad766.add (x15_4).toNat) = some (.slice A772_0 ((rd_T56 l4 x15_4).f0).length c772_0)) (ds:=[]) #[false,false,false,false,false,false,false,false,false,false,false,false,false,false] (zz0) rfl rfl ⟨(blk_cell BK760.out 0).trans rfl,(blk_cell BK760.out 1).trans rfl,(blk_cell BK761.out 0).trans rfl,(blk_cell BK761.out 1).trans rfl,(blk_cell BK761.out 2).trans rfl,((HB.out.cell (World.block_lt_of_cell? w _ hw772_0)).trans hw772_0)⟩ (fun hHeld=>?_);refine with_tabW U10.tab14 U10.bits14 (fun HT_ HW_=>?_)
                    generalize wr.drew = w64 at HO_13 BK760 BK761 HB HR772_0 hx772_0 hHeld ⊢
                    refine zzp 1 83 ?_ #[false,true,false,false,false,false,false,false,false,false,false,false,false,false] rfl rfl (any_of HT_.out (zz0)) (fun _ _ _ h=>h) (Or.inl ⟨zz17,?_⟩) ?_ ?_ ?_;rotate_left
                    ·intro w'
                     go_simp
                     with_reducible rfl
                    rotate_left
                    ·simp only [zzs]
                     rfl
                    refine zzp 3 85 ?_ #[false,true,false,true,false,false,false,false,false,false,false,false,false,false] rfl rfl (any_of HT_.out (zz0)) (fun _ _ _ h=>h) (Or.inl ⟨zz17,?_⟩) ?_ ?_ ?_;rotate_left
                    ·intro w'
                     go_simp
                     with_reducible rfl
                    rotate_left
                    ·simp only [zzs]
                     rfl
                    refine zzp 4 86 ?_ #[false,true,false,true,true,false,false,false,false,false,false,false,false,false] rfl rfl (any_of HT_.out (zz0)) (fun _ _ _ h=>h) (Or.inl ⟨zz17,?_⟩) ?_ ?_ ?_;rotate_left
                    ·intro w'
                     go_simp
                     with_reducible rfl
                    rotate_left
                    ·simp only [zzs]
                     rfl
                    refine zzp 5 87 ?_ #[false,true,false,true,true,true,false,false,false,false,false,false,false,false] rfl rfl (any_of HT_.out (zz0)) (fun _ _ _ h=>h) (Or.inl ⟨zz17,?_⟩) ?_ ?_ ?_;rotate_left
                    ·intro w'
                     go_simp
                     with_reducible rfl
                    rotate_left
                    ·simp only [zzs]
                     rfl
                    refine zzp 6 88 ?_ #[false,true,false,true,true,true,true,false,false,false,false,false,false,false] rfl rfl (any_of HT_.out (zz0)) (fun _ _ _ h=>h) (Or.inl ⟨zz17,?_⟩) ?_ ?_ ?_;rotate_left
                    ·intro w'
                     go_simp
                     with_reducible rfl
                    rotate_left
                    ·simp only [zzs]
                     rfl
                    refine take_ (i:=0) (N:=some 82) (v:=?_) (a':=?_) #[true,true,false,true,true,true,true,false,false,false,false,false,false,false] rfl rfl (take_ofW HT_.out HW_.out (zz0)) (fun _ _ _ h=>h) (Or.inl ⟨zz17,?_⟩) hHeld ?_ ?_;rotate_left
                    ·rintro w' ⟨s0,s1,s2,s3,s4,s5⟩
                     go_simp
                     with_reducible rfl
                    rotate_left
                    ·simp only [zzs]
                     rfl
                    refine take_ (i:=2) (N:=some 84) (v:=?_) (a':=?_) #[true,true,true,true,true,true,true,false,false,false,false,false,false,false] rfl rfl (take_ofW HT_.out HW_.out (zz0)) (fun _ _ _ h=>h) (Or.inl ⟨zz17,?_⟩) hHeld ?_ ?_;rotate_left
                    ·rintro w' ⟨s0,s1,s2,s3,s4,s5⟩
                     go_simp
                     with_reducible rfl
                    rotate_left
                    ·simp only [zzs]
                     rfl
                    refine take_ (i:=7) (N:=some 89) (v:=?_) (a':=?_) #[true,true,true,true,true,true,true,true,false,false,false,false,false,false] rfl rfl (take_ofW HT_.out HW_.out (zz0)) (fun _ _ _ h=>h) (Or.inl ⟨zz17,?_⟩) hHeld ?_ ?_;rotate_left
                    ·rintro w' ⟨s0,s1,s2,s3,s4,s5⟩
                     go_simp
                     with_reducible rfl
                    rotate_left
                    ·simp only [zzs]
                     rfl
                    refine one_ (i:=8) (N:=some 90) #[true,true,true,true,true,true,true,true,true,false,false,false,false,false] rfl rfl (one_of HT_.out (zz0)) (zz31) (fun K hK=>?_);refine goes_ Try.func25 (zz0) rfl #[.agg #[.slice A0_0 l0_0.length c0_0,.slice A0_1 l0_1.length c0_1],.slice A1 l1.length c1,.agg #[.slice A2_0 l2_0.length c2_0,.slice A2_1 l2_1.length c2_1,.slice A2_2 l2_2.length c2_2],.int .i64 a3,.agg #[.slice A772_0 ((rd_T56 l4 x15_4).f0).length c772_0]] (zz17) rfl rfl (zz16) ?_
                    with_reducible refine (U16.calls k4 _ _ l0_0 _ _ l0_1 (fun k_=>k_ < w.heap.size) _ _ l1 _ _ l2_0 _ _ l2_1 _ _ l2_2 a3 (fun k_=>k_ < w.heap.size) _ _ ((rd_T56 l4 x15_4).f0) t773 t776 _ ?side1 ?side2 ?side3 ?side4 ?side5 ?side6 ?side7 ?side8 ?side9 ?side10 ?side11 ?side12 A43.out).mono ?_
                    (case side1=>exact zz147)
                    (case side2=>exact zz148)
                    (case side3=>exact zz149)
                    (case side4=>exact zz150)
                    (case side5=>exact zz170)
                    (case side6=>exact zz161)
                    (case side7=>exact zz162)
                    (case side8=>exact zz163)
                    (case side9=>exact zz164)
                    (case side10=>exact zz165)
                    (case side11=>exact zz166)
                    (case side12=>exact zz171)
                    rintro e w65 ⟨v774,rfl,ho0,hb⟩;refine ⟨_,rfl,?_⟩;have n0_:=Aside0.mk (Kd.V_below (zz142) hb);have n1_:=Aside0.mk (Kd.V_lower (Kd.V_mono (ok':=fun k_=>k_ ≠ gb760∧k_ ≠ gb761) ho0 (fun k_ hk_=>⟨Or.elim hk_ (fun hs_=>Or.elim hs_ (fun hs_=>fun e_=>Nat.not_le.2 hs_ (zz139)) (fun hs_=>fun e_=>Nat.not_le.2 hs_ (zz139))) (fun hn_=>(Kd.freshB (g:=gb760) (o:=.cells #[.slice A0_0 l0_0.length c0_0,.slice A0_1 l0_1.length c0_1] 24 (0,0)) (zz134) k_ hn_)),Or.elim hk_ (fun hs_=>Or.elim hs_ (fun hs_=>fun e_=>Nat.not_le.2 hs_ (zz140)) (fun hs_=>fun e_=>Nat.not_le.2 hs_ (zz140))) (fun hn_=>(Kd.freshB (g:=gb761) (o:=.cells #[.slice A2_0 l2_0.length c2_0,.slice A2_1 l2_1.length c2_1,.slice A2_2 l2_2.length c2_2] 36 (0,0)) (zz136) k_ hn_))⟩)) (below_size (zz137)));have n2_:=Aside0.mk (blk_below (zz134) hb);have n3_:=Aside0.mk (blk_below (zz136) hb);have n4_:=Aside0.mk (below_step (zz137) hb);clear HO_13;clear BK760;clear BK761;clear HB;have HO_13:=n0_;have HO775:=n1_;have BK760:=n2_;have BK761:=n3_;have HB:=n4_;clear n0_ n1_ n2_ n3_ n4_
                    (try clear hb)
                    (try clear hb2)
                    (try clear hk)
                    (try clear hi)
                    (try clear ho0)
                    refine hK.out _ _ ⟨(blk_cell BK760.out 0).trans rfl,(blk_cell BK760.out 1).trans rfl,(blk_cell BK761.out 0).trans rfl,(blk_cell BK761.out 1).trans rfl,(blk_cell BK761.out 2).trans rfl,((HB.out.cell (World.block_lt_of_cell? w _ hw772_0)).trans hw772_0)⟩ (fun hHeld=>?_);clear hK K;refine norm_ (a':=?_) ?_ ?_;rotate_left
                    ·show Act.put _ (some 90) _ = _
                     simp only [zzs]
                     rfl
                    refine zzp 9 81 ?_ #[true,true,true,true,true,true,true,true,true,true,false,false,false,false] rfl rfl (any_of HT_.out (zz0)) (fun _ _ _ h=>h) (Or.inl ⟨zz17,?_⟩) ?_ ?_ ?_;rotate_left
                    ·intro w'
                     go_simp
                     with_reducible rfl
                    rotate_left
                    ·simp only [zzs]
                     rfl
                    refine zzp 10 91 ?_ #[true,true,true,true,true,true,true,true,true,true,true,false,false,false] rfl rfl (any_of HT_.out (zz0)) (fun _ _ _ h=>h) (Or.inl ⟨zz17,?_⟩) ?_ ?_ ?_;rotate_left
                    ·intro w'
                     go_simp
                     with_reducible rfl
                    rotate_left
                    ·simp only [zzs]
                     rfl
                    refine zzp 11 92 ?_ #[true,true,true,true,true,true,true,true,true,true,true,true,false,false] rfl rfl (any_of HT_.out (zz0)) (fun _ _ _ h=>h) (Or.inl ⟨zz17,?_⟩) ?_ ?_ ?_;rotate_left
                    ·intro w'
                     go_simp
                     with_reducible rfl
                    rotate_left
                    ·simp only [zzs]
                     rfl
                    refine zzp 12 16 ?_ #[true,true,true,true,true,true,true,true,true,true,true,true,true,false] rfl rfl (any_of HT_.out (zz0)) (fun _ _ _ h=>h) (Or.inl ⟨zz17,?_⟩) ?_ ?_ ?_;rotate_left
                    ·intro w'
                     go_simp
                     with_reducible rfl
                    rotate_left
                    ·simp only [zzs]
                     rfl
                    refine zzp 13 17 ?_ #[true,true,true,true,true,true,true,true,true,true,true,true,true,true] rfl rfl (any_of HT_.out (zz0)) (fun _ _ _ h=>h) (Or.inl ⟨zz17,?_⟩) ?_ ?_ ?_;rotate_left
                    ·intro w'
                     go_simp
                     with_reducible rfl
                    rotate_left
                    ·simp only [zzs]
                     rfl
                    refine done_ (done_of HT_.out (zz0)) ?_;obtain ⟨Ao66,co66,eo66⟩:=Kd.V_slice HO775.out;subst eo66;obtain ⟨Ao67,co67,eo67⟩:=Kd.V_slice HO_13.out;subst eo67
                    try go_wp2_with (first|((with_reducible refine gate_callee (f:=26) rfl ?_);refine goesL_ (some 95) rfl rfl Try.func26 (zz0) rfl #[.slice Ao66 t773.length co66,.slice Ao67 t767.length co67] rfl (zz16) ?_;(with_reducible refine (U50.calls k4 _ _ t773 _ _ t767 t777 _ ?side1 ?side2 ?side3 ?side4 A44.out).mono ?_);(case side1=>exact zz172);(case side2=>exact (Kd.V_reads' HO775.out).2.1);(case side3=>exact zz173);(case side4=>exact (Kd.V_reads' HO_13.out).2.1);rintro e w68 ⟨rfl,hb⟩;refine ⟨_,rfl,?_⟩;replace HO_13:=Aside0.mk (Kd.V_below (zz142) hb);replace HO775:=Aside0.mk (Kd.V_below (zz143) hb);replace BK760:=Aside0.mk (blk_below (zz134) hb);replace BK761:=Aside0.mk (blk_below (zz136) hb);replace HB:=Aside0.mk (below_step (zz137) hb);(try clear hb);(try clear hb2);(try clear hk);(try clear hi)))
                    go_roundg k4
                    case measure=>have:=HJ5.out;have:=HJ20.out;have:=HJ32.out;have:=HK4.out;omega
                    case rel=>exact ⟨(wrap64 (x15_4+1)),(zz2),H',⟨by have:=HJ5.out;have:=HJ20.out;have:=HJ32.out;have:=HK4.out;omega⟩,⟨zz142⟩,⟨zz134⟩,⟨zz136⟩,⟨zz137⟩⟩
                 ·rw [if_neg c45] at H;have c45b0:=beq_eq_false_iff_ne.mpr c45;have c45b1:=bne_iff_ne.mpr c45;obtain rfl:=Option.some.inj H
                  try go_wp2
                  have n0_:=Aside0.mk (Kd.V_drew HO_13.out);have n1_:=Aside0.mk (blk_drew BK760.out);have n2_:=Aside0.mk (blk_drew BK761.out);have n3_:=Aside0.mk (below_drew1 HB.out);clear HO_13;clear BK760;clear BK761;clear HB;have HO_13:=n0_;have BK760:=n1_;have BK761:=n2_;have HB:=n3_;clear n0_ n1_ n2_ n3_;have p772:0≤(x15_4:Int):=of_decide_eq_true (zz11);have q772:x15_4 < (l4.length:Int):=of_decide_eq_true (zz11);obtain ⟨ad772,A772_0,c772_0,e772,hx772_0,hl772_0,hi772_0⟩:=at_T56 HR4.out x15_4 p772 q772;have hw772_0:=hx772_0;obtain rfl:ad766 = ad772:=(by injection e772);replace hx772_0:=(HB.out.cell (World.block_lt_of_cell? w _ hx772_0)).trans hx772_0;have HR772_0:=Aside0.mk hi772_0;have HC772_0:=Aside0.mk hl772_0;clear hi772_0 hl772_0;replace p772:=eq_true p772;replace q772:=eq_true q772;refine start_ (n:=14) (S:=fun w'=>w'.cell? ⟨gb760,0,none⟩ = some (.slice A0_0 l0_0.length c0_0)∧w'.cell? ⟨gb760,1,none⟩ = some (.slice A0_1 l0_1.length c0_1)∧w'.cell? ⟨gb761,0,none⟩ = some (.slice A2_0 l2_0.length c2_0)∧w'.cell? ⟨gb761,1,none⟩ = some (.slice A2_1 l2_1.length c2_1)∧w'.cell? ⟨gb761,2,none⟩ = some (.slice A2_2 l2_2.length c2_2)∧w'.cell? (ad766.add (x15_4).toNat) = some (.slice A772_0 ((rd_T56 l4 x15_4).f0).length c772_0)) (ds:=[]) #[false,false,false,false,false,false,false,false,false,false,false,false,false,false] (zz0) rfl rfl ⟨(blk_cell BK760.out 0).trans rfl,(blk_cell BK760.out 1).trans rfl,(blk_cell BK761.out 0).trans rfl,(blk_cell BK761.out 1).trans rfl,(blk_cell BK761.out 2).trans rfl,((HB.out.cell (World.block_lt_of_cell? w _ hw772_0)).trans hw772_0)⟩ (fun hHeld=>?_);refine with_tabW U10.tab14 U10.bits14 (fun HT_ HW_=>?_)
                  generalize wr.drew = w69 at HO_13 BK760 BK761 HB HR772_0 hx772_0 hHeld ⊢
                  refine zzp 1 83 ?_ #[false,true,false,false,false,false,false,false,false,false,false,false,false,false] rfl rfl (any_of HT_.out (zz0)) (fun _ _ _ h=>h) (Or.inl ⟨zz17,?_⟩) ?_ ?_ ?_;rotate_left
                  ·intro w'
                   go_simp
                   with_reducible rfl
                  rotate_left
                  ·simp only [zzs]
                   rfl
                  refine zzp 3 85 ?_ #[false,true,false,true,false,false,false,false,false,false,false,false,false,false] rfl rfl (any_of HT_.out (zz0)) (fun _ _ _ h=>h) (Or.inl ⟨zz17,?_⟩) ?_ ?_ ?_;rotate_left
                  ·intro w'
                   go_simp
                   with_reducible rfl
                  rotate_left
                  ·simp only [zzs]
                   rfl
                  refine zzp 4 86 ?_ #[false,true,false,true,true,false,false,false,false,false,false,false,false,false] rfl rfl (any_of HT_.out (zz0)) (fun _ _ _ h=>h) (Or.inl ⟨zz17,?_⟩) ?_ ?_ ?_;rotate_left
                  ·intro w'
                   go_simp
                   with_reducible rfl
                  rotate_left
                  ·simp only [zzs]
                   rfl
                  refine zzp 5 87 ?_ #[false,true,false,true,true,true,false,false,false,false,false,false,false,false] rfl rfl (any_of HT_.out (zz0)) (fun _ _ _ h=>h) (Or.inl ⟨zz17,?_⟩) ?_ ?_ ?_;rotate_left
                  ·intro w'
                   go_simp
                   with_reducible rfl
                  rotate_left
                  ·simp only [zzs]
                   rfl
                  refine zzp 6 88 ?_ #[false,true,false,true,true,true,true,false,false,false,false,false,false,false] rfl rfl (any_of HT_.out (zz0)) (fun _ _ _ h=>h) (Or.inl ⟨zz17,?_⟩) ?_ ?_ ?_;rotate_left
                  ·intro w'
                   go_simp
                   with_reducible rfl
                  rotate_left
                  ·simp only [zzs]
                   rfl
                  refine take_ (i:=0) (N:=some 82) (v:=?_) (a':=?_) #[true,true,false,true,true,true,true,false,false,false,false,false,false,false] rfl rfl (take_ofW HT_.out HW_.out (zz0)) (fun _ _ _ h=>h) (Or.inl ⟨zz17,?_⟩) hHeld ?_ ?_;rotate_left
                  ·rintro w' ⟨s0,s1,s2,s3,s4,s5⟩
                   go_simp
                   with_reducible rfl
                  rotate_left
                  ·simp only [zzs]
                   rfl
                  refine take_ (i:=2) (N:=some 84) (v:=?_) (a':=?_) #[true,true,true,true,true,true,true,false,false,false,false,false,false,false] rfl rfl (take_ofW HT_.out HW_.out (zz0)) (fun _ _ _ h=>h) (Or.inl ⟨zz17,?_⟩) hHeld ?_ ?_;rotate_left
                  ·rintro w' ⟨s0,s1,s2,s3,s4,s5⟩
                   go_simp
                   with_reducible rfl
                  rotate_left
                  ·simp only [zzs]
                   rfl
                  refine take_ (i:=7) (N:=some 89) (v:=?_) (a':=?_) #[true,true,true,true,true,true,true,true,false,false,false,false,false,false] rfl rfl (take_ofW HT_.out HW_.out (zz0)) (fun _ _ _ h=>h) (Or.inl ⟨zz17,?_⟩) hHeld ?_ ?_;rotate_left
                  ·rintro w' ⟨s0,s1,s2,s3,s4,s5⟩
                   go_simp
                   with_reducible rfl
                  rotate_left
                  ·simp only [zzs]
                   rfl
                  refine one_ (i:=8) (N:=some 90) #[true,true,true,true,true,true,true,true,true,false,false,false,false,false] rfl rfl (one_of HT_.out (zz0)) (zz31) (fun K hK=>?_);refine goes_ Try.func25 (zz0) rfl #[.agg #[.slice A0_0 l0_0.length c0_0,.slice A0_1 l0_1.length c0_1],.slice A1 l1.length c1,.agg #[.slice A2_0 l2_0.length c2_0,.slice A2_1 l2_1.length c2_1,.slice A2_2 l2_2.length c2_2],.int .i64 a3,.agg #[.slice A772_0 ((rd_T56 l4 x15_4).f0).length c772_0]] (zz17) rfl rfl (zz16) ?_
                  with_reducible refine (U16.calls k4 _ _ l0_0 _ _ l0_1 (fun k_=>k_ < w.heap.size) _ _ l1 _ _ l2_0 _ _ l2_1 _ _ l2_2 a3 (fun k_=>k_ < w.heap.size) _ _ ((rd_T56 l4 x15_4).f0) t773 t776 _ ?side1 ?side2 ?side3 ?side4 ?side5 ?side6 ?side7 ?side8 ?side9 ?side10 ?side11 ?side12 A43.out).mono ?_
                  (case side1=>exact zz147)
                  (case side2=>exact zz148)
                  (case side3=>exact zz149)
                  (case side4=>exact zz150)
                  (case side5=>exact zz170)
                  (case side6=>exact zz161)
                  (case side7=>exact zz162)
                  (case side8=>exact zz163)
                  (case side9=>exact zz164)
                  (case side10=>exact zz165)
                  (case side11=>exact zz166)
                  (case side12=>exact zz171)
                  rintro e w70 ⟨v774,rfl,ho0,hb⟩;refine ⟨_,rfl,?_⟩;have n0_:=Aside0.mk (Kd.V_below (zz142) hb);have n1_:=Aside0.mk (Kd.V_lower (Kd.V_mono (ok':=fun k_=>k_ ≠ gb760∧k_ ≠ gb761) ho0 (fun k_ hk_=>⟨Or.elim hk_ (fun hs_=>Or.elim hs_ (fun hs_=>fun e_=>Nat.not_le.2 hs_ (zz139)) (fun hs_=>fun e_=>Nat.not_le.2 hs_ (zz139))) (fun hn_=>(Kd.freshB (g:=gb760) (o:=.cells #[.slice A0_0 l0_0.length c0_0,.slice A0_1 l0_1.length c0_1] 24 (0,0)) (zz134) k_ hn_)),Or.elim hk_ (fun hs_=>Or.elim hs_ (fun hs_=>fun e_=>Nat.not_le.2 hs_ (zz140)) (fun hs_=>fun e_=>Nat.not_le.2 hs_ (zz140))) (fun hn_=>(Kd.freshB (g:=gb761) (o:=.cells #[.slice A2_0 l2_0.length c2_0,.slice A2_1 l2_1.length c2_1,.slice A2_2 l2_2.length c2_2] 36 (0,0)) (zz136) k_ hn_))⟩)) (below_size (zz137)));have n2_:=Aside0.mk (blk_below (zz134) hb);have n3_:=Aside0.mk (blk_below (zz136) hb);have n4_:=Aside0.mk (below_step (zz137) hb);clear HO_13;clear BK760;clear BK761;clear HB;have HO_13:=n0_;have HO775:=n1_;have BK760:=n2_;have BK761:=n3_;have HB:=n4_;clear n0_ n1_ n2_ n3_ n4_
                  (try clear hb)
                  (try clear hb2)
                  (try clear hk)
                  (try clear hi)
                  (try clear ho0)
                  refine hK.out _ _ ⟨(blk_cell BK760.out 0).trans rfl,(blk_cell BK760.out 1).trans rfl,(blk_cell BK761.out 0).trans rfl,(blk_cell BK761.out 1).trans rfl,(blk_cell BK761.out 2).trans rfl,((HB.out.cell (World.block_lt_of_cell? w _ hw772_0)).trans hw772_0)⟩ (fun hHeld=>?_);clear hK K;refine norm_ (a':=?_) ?_ ?_;rotate_left
                  ·show Act.put _ (some 90) _ = _
                   simp only [zzs]
                   rfl
                  refine zzp 9 81 ?_ #[true,true,true,true,true,true,true,true,true,true,false,false,false,false] rfl rfl (any_of HT_.out (zz0)) (fun _ _ _ h=>h) (Or.inl ⟨zz17,?_⟩) ?_ ?_ ?_;rotate_left
                  ·intro w'
                   go_simp
                   with_reducible rfl
                  rotate_left
                  ·simp only [zzs]
                   rfl
                  refine zzp 10 91 ?_ #[true,true,true,true,true,true,true,true,true,true,true,false,false,false] rfl rfl (any_of HT_.out (zz0)) (fun _ _ _ h=>h) (Or.inl ⟨zz17,?_⟩) ?_ ?_ ?_;rotate_left
                  ·intro w'
                   go_simp
                   with_reducible rfl
                  rotate_left
                  ·simp only [zzs]
                   rfl
                  refine zzp 11 92 ?_ #[true,true,true,true,true,true,true,true,true,true,true,true,false,false] rfl rfl (any_of HT_.out (zz0)) (fun _ _ _ h=>h) (Or.inl ⟨zz17,?_⟩) ?_ ?_ ?_;rotate_left
                  ·intro w'
                   go_simp
                   with_reducible rfl
                  rotate_left
                  ·simp only [zzs]
                   rfl
                  refine zzp 12 16 ?_ #[true,true,true,true,true,true,true,true,true,true,true,true,true,false] rfl rfl (any_of HT_.out (zz0)) (fun _ _ _ h=>h) (Or.inl ⟨zz17,?_⟩) ?_ ?_ ?_;rotate_left
                  ·intro w'
                   go_simp
                   with_reducible rfl
                  rotate_left
                  ·simp only [zzs]
                   rfl
                  refine zzp 13 17 ?_ #[true,true,true,true,true,true,true,true,true,true,true,true,true,true] rfl rfl (any_of HT_.out (zz0)) (fun _ _ _ h=>h) (Or.inl ⟨zz17,?_⟩) ?_ ?_ ?_;rotate_left
                  ·intro w'
                   go_simp
                   with_reducible rfl
                  rotate_left
                  ·simp only [zzs]
                   rfl
                  refine done_ (done_of HT_.out (zz0)) ?_;obtain ⟨Ao71,co71,eo71⟩:=Kd.V_slice HO775.out;subst eo71;obtain ⟨Ao72,co72,eo72⟩:=Kd.V_slice HO_13.out;subst eo72
                  try go_wp2_with (first|((with_reducible refine gate_callee (f:=26) rfl ?_);refine goesL_ (some 95) rfl rfl Try.func26 (zz0) rfl #[.slice Ao71 t773.length co71,.slice Ao72 t767.length co72] rfl (zz16) ?_;(with_reducible refine (U50.calls k4 _ _ t773 _ _ t767 t777 _ ?side1 ?side2 ?side3 ?side4 A44.out).mono ?_);(case side1=>exact zz172);(case side2=>exact (Kd.V_reads' HO775.out).2.1);(case side3=>exact zz173);(case side4=>exact (Kd.V_reads' HO_13.out).2.1);rintro e w73 ⟨rfl,hb⟩;refine ⟨_,rfl,?_⟩;replace HO_13:=Aside0.mk (Kd.V_below (zz142) hb);replace HO775:=Aside0.mk (Kd.V_below (zz143) hb);replace BK760:=Aside0.mk (blk_below (zz134) hb);replace BK761:=Aside0.mk (blk_below (zz136) hb);replace HB:=Aside0.mk (below_step (zz137) hb);(try clear hb);(try clear hb2);(try clear hk);(try clear hi)))
                  go_ret
                  exact ⟨zz6,zz137⟩
                ·rw [if_neg c42] at H
                 exact absurd H (zz14)
               ·rw [if_neg c41] at H;have c41b0:=decide_eq_false c41;clear c41;obtain rfl:=Option.some.inj H
                go_wp2
                go_ret
                exact ⟨zz6,zz137⟩
         ·rw [if_neg c31] at H
          exact absurd H (zz14)
        ·rw [if_neg c30] at H
         exact absurd H (zz14)
    ·rw [if_neg c20] at H;have c20b0:=beq_eq_false_iff_ne.mpr c20;have c20b1:=bne_iff_ne.mpr c20;obtain rfl:=Option.some.inj H;have hnb74:=NB760_761.out;have hnc74:=NB761_760.out;have hcz75_0:wc.cell? ⟨gb760,0,none⟩ = some (.slice A0_0 l0_0.length c0_0):=(blk_cell BK760.out 0).trans rfl;have hcz75_1:wc.cell? ⟨gb760,1,none⟩ = some (.slice A0_1 l0_1.length c0_1):=(blk_cell BK760.out 1).trans rfl;have hfz75_0:=blk_frozen BK760.out 0;have hfz75_1:=blk_frozen BK760.out 1;have hcz76_0:wc.cell? ⟨gb761,0,none⟩ = some (.slice A2_0 l2_0.length c2_0):=(blk_cell BK761.out 0).trans rfl;have hcz76_1:wc.cell? ⟨gb761,1,none⟩ = some (.slice A2_1 l2_1.length c2_1):=(blk_cell BK761.out 1).trans rfl;have hcz76_2:wc.cell? ⟨gb761,2,none⟩ = some (.slice A2_2 l2_2.length c2_2):=(blk_cell BK761.out 2).trans rfl;have hfz76_0:=blk_frozen BK761.out 0;have hfz76_1:=blk_frozen BK761.out 1;have hfz76_2:=blk_frozen BK761.out 2
     go_wp2_with (first|((with_reducible refine gate_callee (f:=24) rfl ?_);refine goesL_ (some 31) rfl rfl Try.func24 (zz0) rfl #[.agg #[.slice A0_0 l0_0.length c0_0,.slice A0_1 l0_1.length c0_1],.slice A1 l1.length c1,.agg #[.slice A2_0 l2_0.length c2_0,.slice A2_1 l2_1.length c2_1,.slice A2_2 l2_2.length c2_2],.int .i64 a3,.slice A4 l4.length c4] rfl (zz16) ?_;(with_reducible refine (U0.calls kj5 _ _ l0_0 _ _ l0_1 _ _ l1 _ _ l2_0 _ _ l2_1 _ _ l2_2 a3 _ _ l4 t764 t765 _ ?side1 ?side2 ?side3 ?side4 ?side5 ?side6 ?side7 ?side8 ?side9 ?side10 ?side11 ?side12 ?side13 ?side14 A19.out).mono ?_);(case side1=>exact zz147);(case side2=>exact zz148);(case side3=>exact zz149);(case side4=>exact zz150);(case side5=>exact zz153);(case side6=>exact HC1.out);(case side7=>exact zz161);(case side8=>exact zz162);(case side9=>exact zz163);(case side10=>exact zz164);(case side11=>exact zz165);(case side12=>exact zz166);(case side13=>exact zz168);(case side14=>exact HC4.out);rintro e w77 ⟨rfl,hb⟩;refine ⟨_,rfl,?_⟩;replace BK760:=Aside0.mk (blk_below (zz134) hb);replace BK761:=Aside0.mk (blk_below (zz136) hb);replace HB:=Aside0.mk (below_step (zz137) hb);(try clear hb);(try clear hb2);(try clear hk);(try clear hi)))
     go_ret
     exact ⟨zz6,zz137⟩
end Go.Proofs.Ytmcegphcjphdcaa.QA
