import Derived.Test.YtmcegphcjphdcaaXSwQAx0
import Derived.Test.YtmcegphcjphdcaaXSwQAx26
import Derived.Test.YtmcegphcjphdcaaXSwQAx27
import Derived.Test.YtmcegphcjphdcaaXSwQAx28
namespace Go.Proofs.Ytmcegphcjphdcaa.QA
open Go.RowKit Go.Proofs.YtmcegphcjphdcaaW.PrintWords Go.Proofs.YtmcegphcjphdcaaW.PrintLast Go.Proofs.YtmcegphcjphdcaaW.PrintMore
attribute [local go_sem] max2_int min2_int max_two min_two max_three min_three max_four min_four
set_option linter.unusedVariables false
set_option linter.unusedSimpArgs false
mutual
def U34.l0:Nat→List (List (S56))→List Int→List (S56)→Int→List Int→List Int→List Int→List Int→List (List Int)→Option (List Int)
 | 0,_,_,_,_,_,_,_,_,_=>none
 | k+1,x2,x3,x9,x10,x629000,x629001,x630000,x630001,x630002=>if x10 < (x2.length:Int) then (if 0≤x10 then (if x10 < (x3.length:Int) then (if 0≤(rd x3 x10) then (if (rd x3 x10) < ((rd_L6 x2 x10).length:Int) then (if x9.length < 5864062014805 then (U34.l0 k x2 x3 (x9++[(⟨(rd_T56 (rd_L6 x2 x10) (rd x3 x10)).f0⟩:S56)]) (wrap64 (x10+1)) x629000 x629001 x630000 x630001 x630002) else (none)) else (none)) else (none)) else (none)) else (none)) else (U34.l1 k x2 x3 x9 ([]:List Int) 0 x629000 x629001 x630000 x630001 x630002)
def U34.l1:Nat→List (List (S56))→List Int→List (S56)→List Int→Int→List Int→List Int→List Int→List Int→List (List Int)→Option (List Int)
 | 0,_,_,_,_,_,_,_,_,_,_=>none
 | k+1,x2,x3,x9,x11,x12,x629000,x629001,x630000,x630001,x630002=>if x12 < (x2.length:Int) then (if 0≤x12 then (if x12 < (x3.length:Int) then ((U30.f k x629000 x629001 x9 x630000 x630001 x630002 x12 (rd_L6 x2 x12) (rd x3 x12)).bind fun t638=>(if 0≤t638 then (if t638 < ((rd_L6 x2 x12).length:Int) then ((U38.f k x9 x12 ((rd_T56 (rd_L6 x2 x12) t638).f0)).bind fun t641=>(if x11.length < 17592186044416 then (U34.l1 k x2 x3 t641 (x11++[t638]) (wrap64 (x12+1)) x629000 x629001 x630000 x630001 x630002) else (none))) else (none)) else (none))) else (none)) else (none)) else (some x11)
end
def U34.f (k:Nat) (l0_0:List Int) (l0_1:List Int) (l1_0:List Int) (l1_1:List Int) (l1_2:List (List Int)) (l2:List (List (S56))) (l3:List Int):Option (List Int):=U34.l0 k l2 l3 ([]:List (S56)) 0 l0_0 l0_1 l1_0 l1_1 l1_2
theorem zm27_0 {P:Prop} (h:P:=by repeat' first|(with_reducible first|exact ih0 ..|exact ih1 ..|exact U30.mono ..|exact U38.mono ..|exact LeO.refl _|exact LeO.none _|refine LeO.ite ?_ ?_|refine LeO.bind ?_ (fun _=>?_))|exact ih0 ..|exact ih1 ..|exact U30.mono ..|exact U38.mono ..|exact LeO.none _|refine LeO.ite ?_ ?_|refine LeO.bind ?_ (fun _=>?_)):P:=h
theorem U34.mono_l:∀ k,(∀ y0 y1 y2 y3 y4 y5 y6 y7 y8,LeO (U34.l0 k y0 y1 y2 y3 y4 y5 y6 y7 y8) (U34.l0 (k+1) y0 y1 y2 y3 y4 y5 y6 y7 y8))∧(∀ y0 y1 y2 y3 y4 y5 y6 y7 y8 y9,LeO (U34.l1 k y0 y1 y2 y3 y4 y5 y6 y7 y8 y9) (U34.l1 (k+1) y0 y1 y2 y3 y4 y5 y6 y7 y8 y9))
 | 0=>⟨fun _ _ _ _ _ _ _ _ _ r h=>by simp [U34.l0] at h,fun _ _ _ _ _ _ _ _ _ _ r h=>by simp [U34.l1] at h⟩
 | k+1=>by
  obtain ⟨ih0,ih1⟩:=U34.mono_l k;refine ⟨?_,?_⟩
  ·intro y0 y1 y2 y3 y4 y5 y6 y7 y8;unfold U34.l0
   exact zm27_0
  ·intro y0 y1 y2 y3 y4 y5 y6 y7 y8 y9;unfold U34.l1
   exact zm27_0
theorem U34.mono:∀ a0 a1 a2 a3 a4 a5 a6 k,LeO (U34.f k a0 a1 a2 a3 a4 a5 a6) (U34.f (k+1) a0 a1 a2 a3 a4 a5 a6):=by
 intro a0 a1 a2 a3 a4 a5 a6 k;obtain ⟨ih0,ih1⟩:=U34.mono_l k;unfold U34.f
 exact zm27_0
def U34.T5:Bool × List (List Nat × List Nat):=(true,[([],[]),([],[]),([],[]),([1,2],[1,2]),([3],[3]),([],[]),([],[]),([5,6],[5,6]),([7],[7]),([4,8],[4,8]),([9],[9]),([10],[10]),([0,11],[0,11]),([12,12,0,1,2,3,4,5,6,7,8,9,10,11,12],[0,12])])
def U34.B5:List Nat:=[0,0,0,6,14,0,0,96,224,510,1022,2046,4095,8191]
theorem U34.tab5:rtab .any (opsOf Try.f49 5) = U34.T5:=zz0
theorem U34.bits5:waitsOk U34.T5.2 U34.B5 = true:=zz0
def U34.T10:Bool × List (List Nat × List Nat):=(true,[([],[]),([],[]),([],[]),([],[]),([],[]),([],[]),([4,5],[4,5]),([6],[6]),([],[]),([],[]),([8,9],[8,9]),([10],[10]),([0,1,2,3,7,11],[0,1,2,3,7,11]),([12,12,0,1,2,3,4,5,6,7,8,9,10,11,12],[12])])
def U34.B10:List Nat:=[0,0,0,0,0,0,48,112,0,0,768,1792,4095,8191]
theorem U34.tab10:rtab .any (opsOf Try.f49 10) = U34.T10:=zz0
theorem U34.bits10:waitsOk U34.T10.2 U34.B10 = true:=zz0
set_option maxHeartbeats 8000000 in
set_option maxRecDepth 100000 in
theorem U34.calls (k:Nat) (A0_0:Option Addr) (c0_0:Nat) (l0_0:List Int) (A0_1:Option Addr) (c0_1:Nat) (l0_1:List Int) (A1_0:Option Addr) (c1_0:Nat) (l1_0:List Int) (A1_1:Option Addr) (c1_1:Nat) (l1_1:List Int) (A1_2:Option Addr) (c1_2:Nat) (l1_2:List (List Int)) (P2_:Nat→Prop) (A2:Option Addr) (c2:Nat) (l2:List (List (S56))) (A3:Option Addr) (c3:Nat) (l3:List Int) (r:List Int) (w:World) (hr0_0:Kd.C (Kd.int .i64) w A0_0 l0_0.length l0_0) (hc0_0:l0_0.length≤c0_0) (hr0_1:Kd.C (Kd.int .i64) w A0_1 l0_1.length l0_1) (hc0_1:l0_1.length≤c0_1) (hr1_0:Kd.C (Kd.int .i64) w A1_0 l1_0.length l1_0) (hc1_0:l1_0.length≤c1_0) (hr1_1:Kd.C (Kd.int .i64) w A1_1 l1_1.length l1_1) (hc1_1:l1_1.length≤c1_1) (hr1_2:Kd.C (Kd.slice 3 (Kd.int .i64)) w A1_2 l1_2.length l1_2) (hc1_2:l1_2.length≤c1_2) (hs2:Kd.V (Kd.slice 56 k56) 25 w w.heap.size (fun k_=>P2_ k_) (.slice A2 l2.length c2) l2) (hr3:Kd.C (Kd.int .i64) w A3 l3.length l3) (hc3:l3.length≤c3) (h:U34.f k l0_0 l0_1 l1_0 l1_1 l1_2 l2 l3 = some r) :
  Calls Try.prog 49 #[.agg #[.slice A0_0 l0_0.length c0_0,.slice A0_1 l0_1.length c0_1],.agg #[.slice A1_0 l1_0.length c1_0,.slice A1_1 l1_1.length c1_1,.slice A1_2 l1_2.length c1_2],.slice A2 l2.length c2,.slice A3 l3.length c3] w fun e w'=>∃ v0_:Value,e = .returned (v0_)∧Kd.R (Kd.int .i64) 3 w' w.heap.size (fun k_=>(w.heap.size≤k_)) v0_ r∧Below w.heap.size w w':=by
 have hu24:=Try.underlying24;have hu36:=Try.underlying36;have hu56:=Try.underlying56;have HR0_0:=Aside0.mk hr0_0;have HC0_0:=Aside0.mk hc0_0;clear hr0_0 hc0_0;have HR0_1:=Aside0.mk hr0_1;have HC0_1:=Aside0.mk hc0_1;clear hr0_1 hc0_1;have HR1_0:=Aside0.mk hr1_0;have HC1_0:=Aside0.mk hc1_0;clear hr1_0 hc1_0;have HR1_1:=Aside0.mk hr1_1;have HC1_1:=Aside0.mk hc1_1;clear hr1_1 hc1_1;have HR1_2:=Aside0.mk hr1_2;have HC1_2:=Aside0.mk hc1_2;clear hr1_2 hc1_2;have HO2:=Aside0.mk (show Kd.V (Kd.slice 56 k56) 25 w w.heap.size (fun k_=>(P2_ k_∨w.heap.size≤k_)) (.slice A2 l2.length c2) l2 from Kd.V_mono hs2 (fun k_ hk=>.inl hk));have HR3:=Aside0.mk hr3;have HC3:=Aside0.mk hc3;clear hr3 hc3;have HB:=Aside0.mk (Below.refl w.heap.size w);have H:(U34.l0 k l2 l3 ([]:List (S56)) 0 l0_0 l0_1 l1_0 l1_1 l1_2) = some r:=h;clear h;have H':=Aside0.mk H;clear H;go_enter Try.func49,Try.ntmps49
 go_wp2_with (first|((with_reducible refine gate_dst (N:=4) rfl ?_);refine box_event ?hg (N:=4) ?hd (cs:=#[.slice A0_0 l0_0.length c0_0,.slice A0_1 l0_1.length c0_1]) (t:=24) ?hr ?_;(case hd=>rfl);(case hg=>rfl);(case hr=>exact zz109);intro gb628 hg w5 hbox hb;replace HO2:=Aside0.mk (Kd.V_below (Kd.V_elderB (zz68) gb628 (Nat.le_of_eq hg.symm)) hb);have BK628:=Aside0.mk (hbox);have GW628:=Aside0.mk ((by rw [hg];exact (below_size (zz5)):w.heap.size≤gb628));have GE628:=Aside0.mk ((by rw [hg];exact (below_size (zz5)):w.heap.size≤gb628));replace HB:=Aside0.mk (below_step (zz5) hb);clear hb hbox hg)|((with_reducible refine gate_dst (N:=5) rfl ?_);refine box_event ?hg (N:=5) ?hd (cs:=#[.slice A1_0 l1_0.length c1_0,.slice A1_1 l1_1.length c1_1,.slice A1_2 l1_2.length c1_2]) (t:=36) ?hr ?_;(case hd=>rfl);(case hg=>rfl);(case hr=>exact zz109);intro gb629 hg w6 hbox hb;replace HO2:=Aside0.mk (Kd.V_below (Kd.V_elderB (zz68) gb629 (Nat.le_of_eq hg.symm)) hb);have BK629:=Aside0.mk (hbox);have GW629:=Aside0.mk ((by rw [hg];exact (below_size (have h0_:=GE628;zz7)):w.heap.size≤gb629));have GE629:=Aside0.mk ((by rw [hg];exact (below_size (have h0_:=GE628;zz7)):w.heap.size≤gb629));replace HB:=Aside0.mk (below_step (have h0_:=GE628;zz7) hb);have NB628_629:=Aside0.mk ((by rw [hg];exact Nat.ne_of_lt (blk_lt (g:=gb628) (o:=.cells #[.slice A0_0 l0_0.length c0_0,.slice A0_1 l0_1.length c0_1] 24 (0,0)) (zz94)):gb628 ≠ gb629));have NB629_628:=Aside0.mk ((by rw [hg];exact Nat.ne_of_gt (blk_lt (g:=gb628) (o:=.cells #[.slice A0_0 l0_0.length c0_0,.slice A0_1 l0_1.length c0_1] 24 (0,0)) (zz94)):gb629 ≠ gb628));replace BK628:=Aside0.mk (blk_below (zz94) hb);clear hb hbox hg))
 go_loopg [9,10] k (fun kq v9 v10 w'=>∃ (x9_1:List (S56)) (x10_1:Int),v10 = .int .i64 x10_1∧Aside0 (U34.l0 kq l2 l3 x9_1 x10_1 l0_0 l0_1 l1_0 l1_1 l1_2 = some r)∧Aside0 (kq≤k)∧Aside0 (Kd.V (Kd.slice 56 k56) 25 w' w.heap.size (fun k_=>(P2_ k_∨w.heap.size≤k_)∧some k_ ≠ (v9:Value).ownBlock∧k_ ≠ gb628∧k_ ≠ gb629) (.slice A2 l2.length c2) l2)∧Aside0 (Kd.N k56 56 w' w.heap.size (fun k_=>(P2_ k_∨w.heap.size≤k_)∧k_ ≠ gb628∧k_ ≠ gb629) v9 x9_1)∧Aside0 (w'.heap[gb628]? = some (.cells #[(.slice A0_0 l0_0.length c0_0),(.slice A0_1 l0_1.length c0_1)] 24 (0,0)))∧Aside0 (w'.heap[gb629]? = some (.cells #[(.slice A1_0 l1_0.length c1_0),(.slice A1_1 l1_1.length c1_1),(.slice A1_2 l1_2.length c1_2)] 36 (0,0)))∧Aside0 (Below w.heap.size w w'))
 case atStart=>exact ⟨(([]:List (S56))),(0),(zz2),H',⟨Nat.le_refl _⟩,⟨by (with_reducible repeat (first|apply Kd.V_alloc|apply Kd.V_drewN|apply Kd.V_drew));exact Kd.V_mono HO2.out (fun _ hk=>⟨hk.1.1,⟨(by simp [Value.ownBlock]),⟨hk.1.2,hk.2⟩⟩⟩)⟩,⟨zz55⟩,⟨zz94⟩,⟨(have h0_:=BK629;zz9)⟩,⟨zz95⟩⟩
 case round =>
  clear H'
  (try clear c2);(try clear c3)
  obtain ⟨x9_1,x10_1,rfl,HA,HK1,HO_2,HO_9,BK628,BK629,HB⟩:=hrel
  cases gk with
  | zero=>exact absurd HA.out (by simp [U34.l0])
  | succ k1 =>
   have H:=HA.out;clear HA;simp only [U34.l0] at H;replace H:=zzj H;rcases H with ⟨c7,H⟩|⟨c7,H⟩
   ·have c7b0:=decide_eq_true c7;clear c7;replace H:=zzi H;obtain ⟨c8,H⟩:=H;have c8b0:=decide_eq_true c8;clear c8;replace H:=zzi H;obtain ⟨c9,H⟩:=H;have c9b0:=decide_eq_true c9;clear c9;replace H:=zzi H;obtain ⟨c10,H⟩:=H;have c10b0:=decide_eq_true c10;clear c10;replace H:=zzi H;obtain ⟨c11,H⟩:=H;have c11b0:=decide_eq_true c11;clear c11;replace H:=zzi H;obtain ⟨c12,H⟩:=H;have LMc12:=Aside0.mk c12;clear c12;obtain ⟨y633,hy633⟩:∃ y_:List (S56),y_ = (x9_1++[(⟨(rd_T56 (rd_L6 l2 x10_1) (rd l3 x10_1)).f0⟩:S56)]):=⟨_,rfl⟩;replace H:(U34.l0 k1 l2 l3 y633 (wrap64 (x10_1+1)) l0_0 l0_1 l1_0 l1_1 l1_2) = some r:=(have h0_:=hy633;zz24);have Ny633:=Aside0.mk hy633;clear hy633;have H':=Aside0.mk H;clear H
    try go_wp2
    replace HO_2:=Aside0.mk (Kd.V_drew HO_2.out);replace HO_9:=Aside0.mk (Kd.N_drew HO_9.out);replace BK628:=Aside0.mk (blk_drew BK628.out);replace BK629:=Aside0.mk (blk_drew BK629.out);replace HB:=Aside0.mk (below_drew1 HB.out);have p630:0≤(x10_1:Int):=of_decide_eq_true (zz11);have q630:x10_1 < (l2.length:Int):=of_decide_eq_true (zz11);obtain ⟨ad630,A630_0,c630_0,e630,hx630_0,hl630_0,hi630_0⟩:=at_L6 (Kd.V_reads' HO_2.out).2.2 x10_1 p630 q630
    cases e630
    obtain ⟨ce630,hce630,hMe630,hcc630⟩:=Kd.V_get HO_2.out [] x10_1 p630 (by first|exact q630|exact of_decide_eq_true (zz11)|(have e_:=(Kd.V_reads' HO_2.out).1;omega));obtain ⟨ua630_0,uc630_0,rfl,ul630_0,ge630_0⟩:=Kd.FK_slice_open hMe630;have hv630_0:=hcc630 0 _ rfl;rw [Nat.add_zero,show ((Kd.slice 56 k56)).sz = 1 from rfl,Nat.mul_one] at hv630_0;replace hv630_0:=Option.some.inj (hv630_0.symm.trans hx630_0)
    injection hv630_0 with hva_ hvn_ hvc_
    rw [hva_] at ge630_0;rw [hvc_] at ul630_0;have HL630_0:=Aside0.mk (show Kd.V k56 56 _ w.heap.size _ _ (rd_L6 l2 x10_1) from Kd.V_mk ul630_0 ge630_0);clear hva_ hvn_ hvc_ ge630_0 ul630_0;clear hcc630 hce630;have HR630_0:=Aside0.mk hi630_0;have HC630_0:=Aside0.mk hl630_0;clear hi630_0 hl630_0;replace p630:=eq_true p630;replace q630:=eq_true q630;have p631:0≤(x10_1:Int):=of_decide_eq_true (zz11);have q631:x10_1 < (l3.length:Int):=of_decide_eq_true (zz11);obtain ⟨ad631,e631,hx631_0⟩:=Kd.at_int HR3.out x10_1 p631 q631;have hw631_0:=hx631_0
    cases e631
    replace hx631_0:=(HB.out.cell (World.block_lt_of_cell? w _ hx631_0)).trans hx631_0;replace p631:=eq_true p631;replace q631:=eq_true q631;have p632:0≤((rd l3 x10_1):Int):=of_decide_eq_true (zz11);have q632:(rd l3 x10_1) < ((rd_L6 l2 x10_1).length:Int):=of_decide_eq_true (zz11);obtain ⟨ad632,A632_0,c632_0,e632,hx632_0,hl632_0,hi632_0⟩:=at_T56 (have h0_:=HR630_0;zz38) (rd l3 x10_1) p632 q632
    cases e632
    obtain ⟨ce632,hce632,hMe632,hcc632⟩:=Kd.V_get HL630_0.out z56 (rd l3 x10_1) p632 (by first|exact q632|exact of_decide_eq_true (zz11)|(have e_:=(Kd.V_reads' HL630_0.out).1;omega));obtain ⟨ua632_0,uc632_0,rfl,ul632_0,ge632_0⟩:=k56_openF hMe632;have hv632_0:=hcc632 0 _ rfl;rw [Nat.add_zero,show (k56).sz = 1 from rfl,Nat.mul_one] at hv632_0;replace hv632_0:=Option.some.inj (hv632_0.symm.trans hx632_0)
    injection hv632_0 with hva_ hvn_ hvc_
    rw [hva_] at ge632_0;rw [hvc_] at ul632_0;have HL632_0:=Aside0.mk (show Kd.V (Kd.slice 3 (Kd.int .i64)) 22 _ w.heap.size _ _ ((rd_T56 (rd_L6 l2 x10_1) (rd l3 x10_1)).f0) from Kd.V_mk ul632_0 ge632_0);clear hva_ hvn_ hvc_ ge632_0 ul632_0;clear hcc632 hce632;have HR632_0:=Aside0.mk hi632_0;have HC632_0:=Aside0.mk hl632_0;clear hi632_0 hl632_0;replace p632:=eq_true p632;replace q632:=eq_true q632;refine start_ (n:=14) (S:=fun w'=>w'.cell? (ad630.add (x10_1).toNat) = some (.slice (some ad632) (rd_L6 l2 x10_1).length c630_0)∧w'.cell? (ad631.add (x10_1).toNat) = some (.int .i64 (rd l3 x10_1))∧w'.cell? (ad632.add ((rd l3 x10_1)).toNat) = some (.slice A632_0 ((rd_T56 (rd_L6 l2 x10_1) (rd l3 x10_1)).f0).length c632_0)) (ds:=[11,12]) #[false,false,false,false,false,false,false,false,false,false,false,false,false,false] (zz0) rfl rfl ⟨hx630_0,((HB.out.cell (World.block_lt_of_cell? w _ hw631_0)).trans hw631_0),hx632_0⟩ (fun hHeld=>?_);refine with_tabW U34.tab5 U34.bits5 (fun HT_ HW_=>?_)
    generalize wr.drew = w13 at HO_2 HO_9 BK628 BK629 HB HL630_0 HL632_0 HR630_0 HR632_0 hx630_0 hx631_0 hx632_0 hHeld ⊢
    refine zzp 0 20 ?_ #[true,false,false,false,false,false,false,false,false,false,false,false,false,false] rfl rfl (any_of HT_.out (zz0)) (fun _ _ _ h=>h) (Or.inl ⟨zz20,?_⟩) ?_ ?_ ?_;rotate_left
    ·intro w'
     go_simp
     with_reducible rfl
    rotate_left
    ·simp only [zzs]
     rfl
    refine zzp 1 21 ?_ #[true,true,false,false,false,false,false,false,false,false,false,false,false,false] rfl rfl (any_of HT_.out (zz0)) (fun _ _ _ h=>h) (Or.inl ⟨zz20,?_⟩) ?_ ?_ ?_;rotate_left
    ·intro w'
     go_simp
     with_reducible rfl
    rotate_left
    ·simp only [zzs]
     rfl
    refine zzp 2 22 ?_ #[true,true,true,false,false,false,false,false,false,false,false,false,false,false] rfl rfl (any_of HT_.out (zz0)) (fun _ _ _ h=>h) (Or.inl ⟨zz20,?_⟩) ?_ ?_ ?_;rotate_left
    ·intro w'
     go_simp
     with_reducible rfl
    rotate_left
    ·simp only [zzs]
     rfl
    refine zzp 3 23 ?_ #[true,true,true,true,false,false,false,false,false,false,false,false,false,false] rfl rfl (any_of HT_.out (zz0)) (fun _ _ _ h=>h) (Or.inl ⟨zz20,?_⟩) ?_ ?_ ?_;rotate_left
    ·intro w'
     go_simp
     with_reducible rfl
    rotate_left
    ·simp only [zzs]
     rfl
    refine zzp 5 25 ?_ #[true,true,true,true,false,true,false,false,false,false,false,false,false,false] rfl rfl (any_of HT_.out (zz0)) (fun _ _ _ h=>h) (Or.inl ⟨zz20,?_⟩) ?_ ?_ ?_;rotate_left
    ·intro w'
     go_simp
     with_reducible rfl
    rotate_left
    ·simp only [zzs]
     rfl
    refine zzp 6 26 ?_ #[true,true,true,true,false,true,true,false,false,false,false,false,false,false] rfl rfl (any_of HT_.out (zz0)) (fun _ _ _ h=>h) (Or.inl ⟨zz20,?_⟩) ?_ ?_ ?_;rotate_left
    ·intro w'
     go_simp
     with_reducible rfl
    rotate_left
    ·simp only [zzs]
     rfl
    refine zzp 7 27 ?_ #[true,true,true,true,false,true,true,true,false,false,false,false,false,false] rfl rfl (any_of HT_.out (zz0)) (fun _ _ _ h=>h) (Or.inl ⟨zz20,?_⟩) ?_ ?_ ?_;rotate_left
    ·intro w'
     go_simp
     with_reducible rfl
    rotate_left
    ·simp only [zzs]
     rfl
    refine take_ (i:=4) (N:=some 24) (v:=?_) (a':=?_) #[true,true,true,true,true,true,true,true,false,false,false,false,false,false] rfl rfl (take_ofW HT_.out HW_.out (zz0)) (fun _ _ _ h=>h) (Or.inl ⟨zz20,?_⟩) hHeld ?_ ?_;rotate_left
    ·rintro w' ⟨s0,s1,s2⟩
     go_simp
     with_reducible rfl
    rotate_left
    ·simp only [zzs]
     rfl
    refine take_ (i:=8) (N:=some 28) (v:=?_) (a':=?_) #[true,true,true,true,true,true,true,true,true,false,false,false,false,false] rfl rfl (take_ofW HT_.out HW_.out (zz0)) (fun _ _ _ h=>h) (Or.inl ⟨zz20,?_⟩) hHeld ?_ ?_;rotate_left
    ·rintro w' ⟨s0,s1,s2⟩
     go_simp
     with_reducible rfl
    rotate_left
    ·simp only [zzs]
     rfl
    refine zzp 9 29 ?_ #[true,true,true,true,true,true,true,true,true,true,false,false,false,false] rfl rfl (any_of HT_.out (zz0)) (fun _ _ _ h=>h) (Or.inl ⟨zz20,?_⟩) ?_ ?_ ?_;rotate_left
    ·intro w'
     go_simp
     with_reducible rfl
    rotate_left
    ·simp only [zzs]
     rfl
    refine take_ (i:=10) (N:=some 30) (v:=?_) (a':=?_) #[true,true,true,true,true,true,true,true,true,true,true,false,false,false] rfl rfl (take_ofW HT_.out HW_.out (zz0)) (fun _ _ _ h=>h) (Or.inl ⟨zz20,?_⟩) hHeld ?_ ?_;rotate_left
    ·rintro w' ⟨s0,s1,s2⟩
     go_simp
     with_reducible rfl
    rotate_left
    ·simp only [zzs]
     rfl
    refine last_ (i:=11) (N:=some 31) #[true,true,true,true,true,true,true,true,true,true,true,true,false,false] rfl rfl (one_of HT_.out (zz0)) (zz28) (fun K hK=>?_);refine value_ (w1:=?_) (v:=?_) (zz20) rfl ?_ ?_;rotate_left 2
    ·go_simp
     constructor
     ·rfl
     ·rfl
    refine hK.out _ _ ?_;clear hK K;refine norm_ (a':=?_) ?_ ?_;rotate_left
    ·show Act.put _ (some 31) _ = _
     simp only [zzs]
     rfl
    refine last_ (i:=12) (N:=some 32) #[true,true,true,true,true,true,true,true,true,true,true,true,true,false] rfl rfl (one_of HT_.out (zz0)) (zz28) (fun K hK=>?_);refine Kd.N_append_step k56 (w0:=w) w.heap.size (zz20) (.tmp 20) (.tmp 31) 25 56 (.agg #[(.slice none 0 0)]) 24 rfl Try.underlying25 info56 rfl (zz28) (zz4) u9 x9_1 (⟨(rd_T56 (rd_L6 l2 x10_1) (rd l3 x10_1)).f0⟩:S56) [.slice A632_0 ((rd_T56 (rd_L6 l2 x10_1) (rd l3 x10_1)).f0).length c632_0] (fun k_=>(P2_ k_∨w.heap.size≤k_)∧k_ ≠ gb628∧k_ ≠ gb629) (fun k_=>((fun k_=>(P2_ k_∨w.heap.size≤k_)∧k_ ≠ gb628∧k_ ≠ gb629)) k_∧some k_ ≠ (u9:Value).ownBlock) rfl rfl ?aP (fun _ hk=>hk) ?aF ?aO ?aB ?aS ?aL ?_
    (case aP=>exact (k56_mkF _ _ (⟨(rd_T56 (rd_L6 l2 x10_1) (rd l3 x10_1)).f0⟩:S56) (Kd.V_reads' (Kd.V_mono (ok':=(fun k_=>((fun k_=>(P2_ k_∨w.heap.size≤k_)∧k_ ≠ gb628∧k_ ≠ gb629)) k_∧some k_ ≠ (u9:Value).ownBlock)) (HL632_0.out) (fun k_ hk=>⟨⟨hk.1,⟨hk.2.2.1,hk.2.2.2⟩⟩,hk.2.1⟩))).2.1 (Kd.V_F (Kd.V_mono (ok':=(fun k_=>((fun k_=>(P2_ k_∨w.heap.size≤k_)∧k_ ≠ gb628∧k_ ≠ gb629)) k_∧some k_ ≠ (u9:Value).ownBlock)) (HL632_0.out) (fun k_ hk=>⟨⟨hk.1,⟨hk.2.2.1,hk.2.2.2⟩⟩,hk.2.1⟩)))))
    (case aB=>exact (zz95))
    (case aF=>exact (fun k_ hk=>⟨(.inr (Nat.le_trans (below_size (zz95)) hk)),Kd.freshB (g:=gb628) (o:=.cells #[.slice A0_0 l0_0.length c0_0,.slice A0_1 l0_1.length c0_1] 24 (0,0)) (zz94) k_ hk,Kd.freshB (g:=gb629) (o:=.cells #[.slice A1_0 l1_0.length c1_0,.slice A1_1 l1_1.length c1_1,.slice A1_2 l1_2.length c1_2] 36 (0,0)) (have h0_:=BK629;zz9) k_ hk⟩))
    (case aO=>exact (have h0_:=HO_9;zz27))
    (case aS=>exact (below_size (zz95)))
    (case aL=>have:=LMc12.out;omega)
    intro v634 w14 ho hb hg hat;rw [← Ny633.out] at ho;replace HO_2:=Aside0.mk (Kd.V_afterv (ok:=(fun k_=>(P2_ k_∨w.heap.size≤k_)∧k_ ≠ gb628∧k_ ≠ gb629)) (have h0_:=HO_2;zz62) hg hat);replace BK628:=Aside0.mk (blk_grown (g:=gb628) (o:=.cells #[.slice A0_0 l0_0.length c0_0,.slice A0_1 l0_1.length c0_1] 24 (0,0)) (zz94) hg (Kd.N_ne HO_9.out BK628.out (zz28)));replace BK629:=Aside0.mk (blk_grown (g:=gb629) (o:=.cells #[.slice A1_0 l1_0.length c1_0,.slice A1_1 l1_1.length c1_1,.slice A1_2 l1_2.length c1_2] 36 (0,0)) (have h0_:=BK629;zz9) hg (Kd.N_ne HO_9.out BK629.out (zz28)));replace HL630_0:=Aside0.mk (Kd.V_afterv (ok:=(fun k_=>(P2_ k_∨w.heap.size≤k_)∧k_ ≠ gb628∧k_ ≠ gb629)) (have h0_:=HL630_0;zz62) hg hat);replace HL632_0:=Aside0.mk (Kd.V_afterv (ok:=(fun k_=>(P2_ k_∨w.heap.size≤k_)∧k_ ≠ gb628∧k_ ≠ gb629)) (have h0_:=HL632_0;zz62) hg hat);replace HB:=Aside0.mk (hb);have HO635:=Aside0.mk (ho);clear HO_9;clear ho hb hg hat;refine hK.out _ _ ?_;clear hK K;refine norm_ (a':=?_) ?_ ?_;rotate_left
    ·show Act.put _ (some 32) _ = _
     simp only [zzs]
     rfl
    refine zzp 13 9 ?_ #[true,true,true,true,true,true,true,true,true,true,true,true,true,true] rfl rfl (any_of HT_.out (zz0)) (fun _ _ _ h=>h) (Or.inl ⟨zz20,?_⟩) ?_ ?_ ?_;rotate_left
    ·intro w'
     go_simp
     with_reducible rfl
    rotate_left
    ·simp only [zzs]
     rfl
    refine done_ (done_of HT_.out (zz0)) ?_
    try go_wp2
    go_roundg k1
    case measure=>have:=HK1.out;omega
    case rel=>exact ⟨(y633),(wrap64 (x10_1+1)),(zz2),H',⟨zz12⟩,⟨by (with_reducible repeat (first|apply Kd.V_alloc|apply Kd.V_drewN|apply Kd.V_drew));exact Kd.V_mono HO_2.out (fun _ hk=>⟨hk.1.1,⟨hk.2,⟨hk.1.2.1,hk.1.2.2⟩⟩⟩)⟩,⟨(have h0_:=HO635;zz27)⟩,⟨zz94⟩,⟨(have h0_:=BK629;zz9)⟩,⟨zz95⟩⟩
   ·have c7b0:=decide_eq_false c7;clear c7;have H':=Aside0.mk H;clear H
    go_wp2
    go_loopg [9,11,12] k1 (fun kq v9 v11 v12 w'=>∃ (x9_2:List (S56)) (x11_2:List Int) (x12_2:Int),v12 = .int .i64 x12_2∧Aside0 (U34.l1 kq l2 l3 x9_2 x11_2 x12_2 l0_0 l0_1 l1_0 l1_1 l1_2 = some r)∧Aside0 (kq≤k1)∧Aside0 (Kd.V (Kd.slice 56 k56) 25 w' w.heap.size (fun k_=>(P2_ k_∨w.heap.size≤k_)∧some k_ ≠ (v9:Value).ownBlock∧some k_ ≠ (v11:Value).ownBlock∧k_ ≠ gb628∧k_ ≠ gb629) (.slice A2 l2.length c2) l2)∧Aside0 (Kd.N k56 56 w' w.heap.size (fun k_=>(P2_ k_∨w.heap.size≤k_)∧some k_ ≠ (v11:Value).ownBlock∧k_ ≠ gb628∧k_ ≠ gb629) v9 x9_2)∧Aside0 (Kd.R (Kd.int .i64) 3 w' w.heap.size (fun k_=>(w.heap.size≤k_)) v11 x11_2)∧Aside0 (w'.heap[gb628]? = some (.cells #[(.slice A0_0 l0_0.length c0_0),(.slice A0_1 l0_1.length c0_1)] 24 (0,0)))∧Aside0 (w'.heap[gb629]? = some (.cells #[(.slice A1_0 l1_0.length c1_0),(.slice A1_1 l1_1.length c1_1),(.slice A1_2 l1_2.length c1_2)] 36 (0,0)))∧Aside0 (Below w.heap.size w w'))
    case atStart=>exact ⟨(x9_1),(([]:List Int)),(0),(zz2),H',⟨Nat.le_refl _⟩,⟨by (with_reducible repeat (first|apply Kd.V_alloc|apply Kd.V_drewN|apply Kd.V_drew));exact Kd.V_mono HO_2.out (fun _ hk=>⟨hk.1,⟨hk.2.1,⟨(by simp [Value.ownBlock]),⟨hk.2.2.1,hk.2.2.2⟩⟩⟩⟩)⟩,⟨by (with_reducible repeat (first|apply Kd.N_alloc|apply Kd.N_drewN|apply Kd.N_drew));exact Kd.N_mono HO_9.out (fun _ hk=>⟨hk.1,⟨(by simp [Value.ownBlock]),⟨hk.2.1,hk.2.2⟩⟩⟩)⟩,⟨zz55⟩,⟨zz94⟩,⟨(have h0_:=BK629;zz9)⟩,⟨zz95⟩⟩
    case round =>
     clear H';clear c7b0;obtain ⟨x9_2,x11_2,x12_2,rfl,HA,HK2,HO_2,HO_9,HO_11,BK628,BK629,HB⟩:=hrel
     cases gk with
     | zero=>exact absurd HA.out (by simp [U34.l1])
     | succ k2 =>
      have H:=HA.out;clear HA;simp only [U34.l1] at H;replace H:=zzj H;rcases H with ⟨c15,H⟩|⟨c15,H⟩
      ·have c15b0:=decide_eq_true c15;clear c15;replace H:=zzi H;obtain ⟨c16,H⟩:=H;have c16b0:=decide_eq_true c16;clear c16;replace H:=zzi H;obtain ⟨c17,H⟩:=H;have c17b0:=decide_eq_true c17;clear c17;replace H:=zzb H;obtain ⟨t638,A18,H⟩:=H;replace H:=zzi H;obtain ⟨c19,H⟩:=H;have c19b0:=decide_eq_true c19;clear c19;replace H:=zzi H;obtain ⟨c20,H⟩:=H;have c20b0:=decide_eq_true c20;clear c20;replace H:=zzb H;obtain ⟨t641,A21,H⟩:=H;replace H:=zzi H;obtain ⟨c22,H⟩:=H;have LMc22:=Aside0.mk c22;clear c22;obtain ⟨y644,hy644⟩:∃ y_:List Int,y_ = (x11_2++[t638]):=⟨_,rfl⟩;replace H:(U34.l1 k2 l2 l3 t641 y644 (wrap64 (x12_2+1)) l0_0 l0_1 l1_0 l1_1 l1_2) = some r:=(have h0_:=hy644;zz24);have Ny644:=Aside0.mk hy644;clear hy644;have H':=Aside0.mk H;clear H
       try go_wp2
       replace HO_2:=Aside0.mk (Kd.V_drew HO_2.out);replace HO_9:=Aside0.mk (Kd.N_drew HO_9.out);replace HO_11:=Aside0.mk (Kd.R_drew HO_11.out);replace BK628:=Aside0.mk (blk_drew BK628.out);replace BK629:=Aside0.mk (blk_drew BK629.out);replace HB:=Aside0.mk (below_drew1 HB.out);have p636:0≤(x12_2:Int):=of_decide_eq_true (zz11);have q636:x12_2 < (l2.length:Int):=of_decide_eq_true (zz11);obtain ⟨ad636,A636_0,c636_0,e636,hx636_0,hl636_0,hi636_0⟩:=at_L6 (Kd.V_reads' HO_2.out).2.2 x12_2 p636 q636
       cases e636
       obtain ⟨ce636,hce636,hMe636,hcc636⟩:=Kd.V_get HO_2.out [] x12_2 p636 (by first|exact q636|exact of_decide_eq_true (zz11)|(have e_:=(Kd.V_reads' HO_2.out).1;omega));obtain ⟨ua636_0,uc636_0,rfl,ul636_0,ge636_0⟩:=Kd.FK_slice_open hMe636;have hv636_0:=hcc636 0 _ rfl;rw [Nat.add_zero,show ((Kd.slice 56 k56)).sz = 1 from rfl,Nat.mul_one] at hv636_0;replace hv636_0:=Option.some.inj (hv636_0.symm.trans hx636_0)
       injection hv636_0 with hva_ hvn_ hvc_
       rw [hva_] at ge636_0;rw [hvc_] at ul636_0;have HL636_0:=Aside0.mk (show Kd.V k56 56 _ w.heap.size _ _ (rd_L6 l2 x12_2) from Kd.V_mk ul636_0 ge636_0);clear hva_ hvn_ hvc_ ge636_0 ul636_0;clear hcc636 hce636;have HR636_0:=Aside0.mk hi636_0;have HC636_0:=Aside0.mk hl636_0;clear hi636_0 hl636_0;replace p636:=eq_true p636;replace q636:=eq_true q636;have p637:0≤(x12_2:Int):=of_decide_eq_true (zz11);have q637:x12_2 < (l3.length:Int):=of_decide_eq_true (zz11);obtain ⟨ad637,e637,hx637_0⟩:=Kd.at_int HR3.out x12_2 p637 q637;have hw637_0:=hx637_0
       cases e637
       replace hx637_0:=(HB.out.cell (World.block_lt_of_cell? w _ hx637_0)).trans hx637_0;replace p637:=eq_true p637;replace q637:=eq_true q637;obtain ⟨Ao24,co24,eo24⟩:=Kd.N_slice HO_9.out
       (first|subst eo24|(injection eo24 with f1_ f2_ f3_;have f4_:=f1_.symm;have f5_:=f3_.symm;clear f1_ f2_ f3_;subst f4_;subst f5_))
       refine start_ (n:=14) (S:=fun w'=>w'.cell? ⟨gb628,0,none⟩ = some (.slice A0_0 l0_0.length c0_0)∧w'.cell? ⟨gb628,1,none⟩ = some (.slice A0_1 l0_1.length c0_1)∧w'.cell? ⟨gb629,0,none⟩ = some (.slice A1_0 l1_0.length c1_0)∧w'.cell? ⟨gb629,1,none⟩ = some (.slice A1_1 l1_1.length c1_1)∧w'.cell? ⟨gb629,2,none⟩ = some (.slice A1_2 l1_2.length c1_2)∧w'.cell? (ad636.add (x12_2).toNat) = some (.slice A636_0 (rd_L6 l2 x12_2).length c636_0)∧w'.cell? (ad637.add (x12_2).toNat) = some (.int .i64 (rd l3 x12_2))) (ds:=[]) #[false,false,false,false,false,false,false,false,false,false,false,false,false,false] (zz0) rfl rfl ⟨(blk_cell BK628.out 0).trans rfl,(blk_cell BK628.out 1).trans rfl,(blk_cell BK629.out 0).trans rfl,(blk_cell BK629.out 1).trans rfl,(blk_cell BK629.out 2).trans rfl,hx636_0,((HB.out.cell (World.block_lt_of_cell? w _ hw637_0)).trans hw637_0)⟩ (fun hHeld=>?_);refine with_tabW U34.tab10 U34.bits10 (fun HT_ HW_=>?_)
       generalize wr.drew = w23 at HO_2 HO_9 HO_11 BK628 BK629 HB HL636_0 HR636_0 hx636_0 hx637_0 hHeld ⊢
       refine zzp 1 40 ?_ #[false,true,false,false,false,false,false,false,false,false,false,false,false,false] rfl rfl (any_of HT_.out (zz0)) (fun _ _ _ h=>h) (Or.inl ⟨zz20,?_⟩) ?_ ?_ ?_;rotate_left
       ·intro w'
        go_simp
        with_reducible rfl
       rotate_left
       ·simp only [zzs]
        rfl
       refine zzp 3 42 ?_ #[false,true,false,true,false,false,false,false,false,false,false,false,false,false] rfl rfl (any_of HT_.out (zz0)) (fun _ _ _ h=>h) (Or.inl ⟨zz20,?_⟩) ?_ ?_ ?_;rotate_left
       ·intro w'
        go_simp
        with_reducible rfl
       rotate_left
       ·simp only [zzs]
        rfl
       refine zzp 4 43 ?_ #[false,true,false,true,true,false,false,false,false,false,false,false,false,false] rfl rfl (any_of HT_.out (zz0)) (fun _ _ _ h=>h) (Or.inl ⟨zz20,?_⟩) ?_ ?_ ?_;rotate_left
       ·intro w'
        go_simp
        with_reducible rfl
       rotate_left
       ·simp only [zzs]
        rfl
       refine zzp 5 44 ?_ #[false,true,false,true,true,true,false,false,false,false,false,false,false,false] rfl rfl (any_of HT_.out (zz0)) (fun _ _ _ h=>h) (Or.inl ⟨zz20,?_⟩) ?_ ?_ ?_;rotate_left
       ·intro w'
        go_simp
        with_reducible rfl
       rotate_left
       ·simp only [zzs]
        rfl
       refine zzp 6 45 ?_ #[false,true,false,true,true,true,true,false,false,false,false,false,false,false] rfl rfl (any_of HT_.out (zz0)) (fun _ _ _ h=>h) (Or.inl ⟨zz20,?_⟩) ?_ ?_ ?_;rotate_left
       ·intro w'
        go_simp
        with_reducible rfl
       rotate_left
       ·simp only [zzs]
        rfl
       refine zzp 8 47 ?_ #[false,true,false,true,true,true,true,false,true,false,false,false,false,false] rfl rfl (any_of HT_.out (zz0)) (fun _ _ _ h=>h) (Or.inl ⟨zz20,?_⟩) ?_ ?_ ?_;rotate_left
       ·intro w'
        go_simp
        with_reducible rfl
       rotate_left
       ·simp only [zzs]
        rfl
       refine zzp 9 48 ?_ #[false,true,false,true,true,true,true,false,true,true,false,false,false,false] rfl rfl (any_of HT_.out (zz0)) (fun _ _ _ h=>h) (Or.inl ⟨zz20,?_⟩) ?_ ?_ ?_;rotate_left
       ·intro w'
        go_simp
        with_reducible rfl
       rotate_left
       ·simp only [zzs]
        rfl
       refine zzp 10 49 ?_ #[false,true,false,true,true,true,true,false,true,true,true,false,false,false] rfl rfl (any_of HT_.out (zz0)) (fun _ _ _ h=>h) (Or.inl ⟨zz20,?_⟩) ?_ ?_ ?_;rotate_left
       ·intro w'
        go_simp
        with_reducible rfl
       rotate_left
       ·simp only [zzs]
        rfl
       refine take_ (i:=0) (N:=some 39) (v:=?_) (a':=?_) #[true,true,false,true,true,true,true,false,true,true,true,false,false,false] rfl rfl (take_ofW HT_.out HW_.out (zz0)) (fun _ _ _ h=>h) (Or.inl ⟨zz20,?_⟩) hHeld ?_ ?_;rotate_left
       ·rintro w' ⟨s0,s1,s2,s3,s4,s5,s6⟩
        go_simp
        with_reducible rfl
       rotate_left
       ·simp only [zzs]
        rfl
       refine take_ (i:=2) (N:=some 41) (v:=?_) (a':=?_) #[true,true,true,true,true,true,true,false,true,true,true,false,false,false] rfl rfl (take_ofW HT_.out HW_.out (zz0)) (fun _ _ _ h=>h) (Or.inl ⟨zz20,?_⟩) hHeld ?_ ?_;rotate_left
       ·rintro w' ⟨s0,s1,s2,s3,s4,s5,s6⟩
        go_simp
        with_reducible rfl
       rotate_left
       ·simp only [zzs]
        rfl
       refine take_ (i:=7) (N:=some 46) (v:=?_) (a':=?_) #[true,true,true,true,true,true,true,true,true,true,true,false,false,false] rfl rfl (take_ofW HT_.out HW_.out (zz0)) (fun _ _ _ h=>h) (Or.inl ⟨zz20,?_⟩) hHeld ?_ ?_;rotate_left
       ·rintro w' ⟨s0,s1,s2,s3,s4,s5,s6⟩
        go_simp
        with_reducible rfl
       rotate_left
       ·simp only [zzs]
        rfl
       refine take_ (i:=11) (N:=some 50) (v:=?_) (a':=?_) #[true,true,true,true,true,true,true,true,true,true,true,true,false,false] rfl rfl (take_ofW HT_.out HW_.out (zz0)) (fun _ _ _ h=>h) (Or.inl ⟨zz20,?_⟩) hHeld ?_ ?_;rotate_left
       ·rintro w' ⟨s0,s1,s2,s3,s4,s5,s6⟩
        go_simp
        with_reducible rfl
       rotate_left
       ·simp only [zzs]
        rfl
       refine one_ (i:=12) (N:=some 51) #[true,true,true,true,true,true,true,true,true,true,true,true,true,false] rfl rfl (one_of HT_.out (zz0)) (zz28) (fun K hK=>?_);refine goes_ Try.func67 (zz0) rfl #[.agg #[.slice A0_0 l0_0.length c0_0,.slice A0_1 l0_1.length c0_1],.slice Ao24 x9_2.length co24,.agg #[.slice A1_0 l1_0.length c1_0,.slice A1_1 l1_1.length c1_1,.slice A1_2 l1_2.length c1_2],.int .i64 x12_2,.slice A636_0 (rd_L6 l2 x12_2).length c636_0,.int .i64 (rd l3 x12_2)] (zz20) rfl rfl (zz19) ?_
       with_reducible refine (U30.calls k2 _ _ l0_0 _ _ l0_1 _ _ x9_2 _ _ l1_0 _ _ l1_1 _ _ l1_2 x12_2 _ _ (rd_L6 l2 x12_2) (rd l3 x12_2) t638 _ ?side1 ?side2 ?side3 ?side4 ?side5 ?side6 ?side7 ?side8 ?side9 ?side10 ?side11 ?side12 ?side13 ?side14 A18.out).mono ?_
       (case side1=>exact zz111)
       (case side2=>exact zz112)
       (case side3=>exact zz113)
       (case side4=>exact zz114)
       (case side5=>exact (have h0_:=HO_9;zz130))
       (case side6=>exact (have h0_:=HO_9;zz131))
       (case side7=>exact zz118)
       (case side8=>exact zz119)
       (case side9=>exact zz124)
       (case side10=>exact zz125)
       (case side11=>exact zz126)
       (case side12=>exact zz127)
       (case side13=>exact (have h0_:=HR636_0;zz120))
       (case side14=>exact HC636_0.out)
       rintro e w25 ⟨rfl,hb⟩;have HS5_:=(hb.cell (World.block_lt_of_cell? _ _ (hHeld.2.2.2.2.2.1))).trans (hHeld.2.2.2.2.2.1);refine ⟨_,rfl,?_⟩;replace HO_2:=Aside0.mk (Kd.V_below (zz74) hb);replace HO_9:=Aside0.mk (Kd.N_below (have h0_:=HO_9;zz27) hb);replace HO_11:=Aside0.mk (Kd.R_below (zz47) hb);replace HL636_0:=Aside0.mk (Kd.V_below (have h0_:=HL636_0;zz23) hb);replace BK628:=Aside0.mk (blk_below (zz94) hb);replace BK629:=Aside0.mk (blk_below (have h0_:=BK629;zz9) hb);replace HR636_0:=Aside0.mk (Kd.C_below (have h0_:=HR636_0;zz38) hb);replace HB:=Aside0.mk (below_step (zz95) hb)
       (try clear hb)
       (try clear hk)
       refine hK.out _ _ ⟨(blk_cell BK628.out 0).trans rfl,(blk_cell BK628.out 1).trans rfl,(blk_cell BK629.out 0).trans rfl,(blk_cell BK629.out 1).trans rfl,(blk_cell BK629.out 2).trans rfl,HS5_,((HB.out.cell (World.block_lt_of_cell? w _ hw637_0)).trans hw637_0)⟩ (fun hHeld=>?_);clear hK K;refine norm_ (a':=?_) ?_ ?_;rotate_left
       ·show Act.put _ (some 51) _ = _
        simp only [zzs]
        rfl
       refine zzp 13 13 ?_ #[true,true,true,true,true,true,true,true,true,true,true,true,true,true] rfl rfl (any_of HT_.out (zz0)) (fun _ _ _ h=>h) (Or.inl ⟨zz20,?_⟩) ?_ ?_ ?_;rotate_left
       ·intro w'
        go_simp
        with_reducible rfl
       rotate_left
       ·simp only [zzs]
        rfl
       refine done_ (done_of HT_.out (zz0)) ?_;have p639:0≤(x12_2:Int):=of_decide_eq_true (zz11);have q639:x12_2 < (l2.length:Int):=of_decide_eq_true (zz11);obtain ⟨ad639,A639_0,c639_0,e639,hx639_0,hl639_0,hi639_0⟩:=at_L6 (Kd.V_reads' HO_2.out).2.2 x12_2 p639 q639;obtain rfl:ad636 = ad639:=(by injection e639);obtain ⟨ce639,hce639,hMe639,hcc639⟩:=Kd.V_get HO_2.out [] x12_2 p639 (by first|exact q639|exact of_decide_eq_true (zz11)|(have e_:=(Kd.V_reads' HO_2.out).1;omega));obtain ⟨ua639_0,uc639_0,rfl,ul639_0,ge639_0⟩:=Kd.FK_slice_open hMe639;have hv639_0:=hcc639 0 _ rfl;rw [Nat.add_zero,show ((Kd.slice 56 k56)).sz = 1 from rfl,Nat.mul_one] at hv639_0;replace hv639_0:=Option.some.inj (hv639_0.symm.trans hx639_0)
       injection hv639_0 with hva_ hvn_ hvc_
       rw [hva_] at ge639_0;rw [hvc_] at ul639_0;have HL639_0:=Aside0.mk (show Kd.V k56 56 _ w.heap.size _ _ (rd_L6 l2 x12_2) from Kd.V_mk ul639_0 ge639_0);clear hva_ hvn_ hvc_ ge639_0 ul639_0;clear hcc639 hce639;have HR639_0:=Aside0.mk hi639_0;have HC639_0:=Aside0.mk hl639_0;clear hi639_0 hl639_0;replace p639:=eq_true p639;replace q639:=eq_true q639
       (try (have ea_:=Option.some.inj (hx639_0.symm.trans (by first|exact HS0_|exact HS1_|exact HS2_|exact HS3_|exact HS4_|exact HS5_));injection ea_ with ea_ en_ ec_;subst ea_;subst ec_;clear en_))
       have p640:0≤(t638:Int):=of_decide_eq_true (zz11);have q640:t638 < ((rd_L6 l2 x12_2).length:Int):=of_decide_eq_true (zz11);obtain ⟨ad640,A640_0,c640_0,e640,hx640_0,hl640_0,hi640_0⟩:=at_T56 (have h0_:=HR639_0;zz38) t638 p640 q640
       cases e640
       obtain ⟨ce640,hce640,hMe640,hcc640⟩:=Kd.V_get HL639_0.out z56 t638 p640 (by first|exact q640|exact of_decide_eq_true (zz11)|(have e_:=(Kd.V_reads' HL639_0.out).1;omega));obtain ⟨ua640_0,uc640_0,rfl,ul640_0,ge640_0⟩:=k56_openF hMe640;have hv640_0:=hcc640 0 _ rfl;rw [Nat.add_zero,show (k56).sz = 1 from rfl,Nat.mul_one] at hv640_0;replace hv640_0:=Option.some.inj (hv640_0.symm.trans hx640_0)
       injection hv640_0 with hva_ hvn_ hvc_
       rw [hva_] at ge640_0;rw [hvc_] at ul640_0;have HL640_0:=Aside0.mk (show Kd.V (Kd.slice 3 (Kd.int .i64)) 22 _ w.heap.size _ _ ((rd_T56 (rd_L6 l2 x12_2) t638).f0) from Kd.V_mk ul640_0 ge640_0);clear hva_ hvn_ hvc_ ge640_0 ul640_0;clear hcc640 hce640;have HR640_0:=Aside0.mk hi640_0;have HC640_0:=Aside0.mk hl640_0;clear hi640_0 hl640_0;replace p640:=eq_true p640;replace q640:=eq_true q640
       try go_wp2_with (first|((with_reducible refine gate_callee (f:=68) rfl ?_);refine goesL_ (some 61) rfl rfl Try.func68 (zz0) rfl #[.slice Ao24 x9_2.length co24,.int .i64 x12_2,.agg #[.slice A640_0 ((rd_T56 (rd_L6 l2 x12_2) t638).f0).length c640_0]] rfl (zz19) ?_;(with_reducible refine (U38.calls k2 (fun k_=>((P2_ k_∨w.heap.size≤k_)∧(some k_ ≠ (u11:Value).ownBlock∧(k_ ≠ gb628∧k_ ≠ gb629)))) _ _ x9_2 x12_2 (fun k_=>((P2_ k_∨w.heap.size≤k_)∧(some k_ ≠ (.slice Ao24 x9_2.length co24:Value).ownBlock∧(some k_ ≠ (u11:Value).ownBlock∧(k_ ≠ gb628∧k_ ≠ gb629))))) _ _ ((rd_T56 (rd_L6 l2 x12_2) t638).f0) t641 _ ?_ ?_ A21.out).mono ?_);exact Kd.N_V (HO_9.out);exact HL640_0.out;rintro e w26 ⟨v642,rfl,ho0,hb⟩;refine ⟨_,rfl,?_⟩;replace HO_2:=Aside0.mk (Kd.V_elder' (zz74) (Kd.N_base ho0) hb);replace HO_9:=Aside0.mk (Kd.N_elder' (have h0_:=HO_9;zz27) (Kd.N_base ho0) hb);replace HL636_0:=Aside0.mk (Kd.V_elder' (have h0_:=HL636_0;zz23) (Kd.N_base ho0) hb);replace HL639_0:=Aside0.mk (Kd.V_elder' (have h0_:=HL639_0;zz23) (Kd.N_base ho0) hb);replace HL640_0:=Aside0.mk (Kd.V_elder' (have h0_:=HL640_0;zz23) (Kd.N_base ho0) hb);have HO643:=Aside0.mk (Kd.N_lower (Kd.N_mono (ok':=fun k_=>(P2_ k_∨w.heap.size≤k_)∧some k_ ≠ (u11:Value).ownBlock∧k_ ≠ gb628∧k_ ≠ gb629) ho0 (fun k_ hk_=>⟨Or.elim hk_ (fun hs_=>Or.elim hs_ (fun hs_=>hs_.1) (fun hs_=>hs_.1)) (fun hn_=>(.inr (Nat.le_trans (below_size (zz95)) hn_))),Or.elim hk_ (fun hs_=>Or.elim hs_ (fun hs_=>hs_.2.1) (fun hs_=>hs_.2.2.1)) (fun hn_=>(Kd.fresh' (Kd.R_lt (zz47)) k_ hn_)),Or.elim hk_ (fun hs_=>Or.elim hs_ (fun hs_=>hs_.2.2.1) (fun hs_=>hs_.2.2.2.1)) (fun hn_=>(Kd.freshB (g:=gb628) (o:=.cells #[.slice A0_0 l0_0.length c0_0,.slice A0_1 l0_1.length c0_1] 24 (0,0)) (zz94) k_ hn_)),Or.elim hk_ (fun hs_=>Or.elim hs_ (fun hs_=>hs_.2.2.2) (fun hs_=>hs_.2.2.2.2)) (fun hn_=>(Kd.freshB (g:=gb629) (o:=.cells #[.slice A1_0 l1_0.length c1_0,.slice A1_1 l1_1.length c1_1,.slice A1_2 l1_2.length c1_2] 36 (0,0)) (have h0_:=BK629;zz9) k_ hn_))⟩)) (below_size (zz95)));replace HO_11:=Aside0.mk (Kd.R_below (zz47) hb);replace BK628:=Aside0.mk (blk_below (zz94) hb);replace BK629:=Aside0.mk (blk_below (have h0_:=BK629;zz9) hb);replace HR636_0:=Aside0.mk (Kd.C_below (have h0_:=HR636_0;zz38) hb);replace HR639_0:=Aside0.mk (Kd.C_below (have h0_:=HR639_0;zz38) hb);replace HR640_0:=Aside0.mk (Kd.C_below (have h0_:=HR640_0;zz38) hb);replace HB:=Aside0.mk (below_step (zz95) hb);(try clear hb);(try clear ho0))|((with_reducible refine gate_builtin (b:=.append) (xs:=#[.tmp 62,.tmp 64]) rfl ?_);at_builtin;refine Kd.R_append (Kd.int .i64) (w0:=w) w.heap.size rfl (.tmp 62) (.tmp 64) 22 3 (.int .i64 0) 8 rfl Try.underlying22 info3 rfl (zz28) (zz4) u11 x11_2 t638 [.int .i64 t638] (fun k_=>(w.heap.size≤k_)) (fun _=>False) rfl rfl ?aP (fun _ hk=>hk.elim) ?aF ?aO ?aB ?aS ?aL ?_;(case aP=>exact rfl);(case aB=>exact (zz95));(case aF=>exact (fun k_ hk=>(Nat.le_trans (below_size (zz95)) hk)));(case aO=>exact (zz47));(case aS=>exact (below_size (zz95)));(case aL=>have:=LMc22.out;omega);intro v645 w27 ho hb hg hat;rw [← Ny644.out] at ho;replace HO_2:=Aside0.mk (Kd.V_afterv (ok:=(fun k_=>(P2_ k_∨w.heap.size≤k_)∧some k_ ≠ (.slice Ao24 x9_2.length co24:Value).ownBlock∧some k_ ≠ (v642:Value).ownBlock∧k_ ≠ gb628∧k_ ≠ gb629)) (have h0_:=HO_2;zz96) hg hat);replace HO_9:=Aside0.mk (Kd.N_afterv (ok:=(fun k_=>(P2_ k_∨w.heap.size≤k_)∧some k_ ≠ (v642:Value).ownBlock∧k_ ≠ gb628∧k_ ≠ gb629)) (by (with_reducible repeat (first|apply Kd.N_alloc|apply Kd.N_drewN|apply Kd.N_drew));exact Kd.N_mono HO_9.out (fun _ hk=>⟨⟨hk.1.1,⟨hk.2,⟨hk.1.2.2.1,hk.1.2.2.2⟩⟩⟩,hk.1.2.1⟩)) hg hat);replace BK628:=Aside0.mk (blk_grown (g:=gb628) (o:=.cells #[.slice A0_0 l0_0.length c0_0,.slice A0_1 l0_1.length c0_1] 24 (0,0)) (zz94) hg (Kd.R_ne HO_11.out BK628.out (zz28)));replace BK629:=Aside0.mk (blk_grown (g:=gb629) (o:=.cells #[.slice A1_0 l1_0.length c1_0,.slice A1_1 l1_1.length c1_1,.slice A1_2 l1_2.length c1_2] 36 (0,0)) (have h0_:=BK629;zz9) hg (Kd.R_ne HO_11.out BK629.out (zz28)));replace HL636_0:=Aside0.mk (Kd.V_afterv (ok:=(fun k_=>(P2_ k_∨w.heap.size≤k_)∧some k_ ≠ (.slice Ao24 x9_2.length co24:Value).ownBlock∧some k_ ≠ (v642:Value).ownBlock∧k_ ≠ gb628∧k_ ≠ gb629)) (have h0_:=HL636_0;zz96) hg hat);replace HL639_0:=Aside0.mk (Kd.V_afterv (ok:=(fun k_=>(P2_ k_∨w.heap.size≤k_)∧some k_ ≠ (.slice Ao24 x9_2.length co24:Value).ownBlock∧some k_ ≠ (v642:Value).ownBlock∧k_ ≠ gb628∧k_ ≠ gb629)) (have h0_:=HL639_0;zz96) hg hat);replace HL640_0:=Aside0.mk (Kd.V_afterv (ok:=(fun k_=>(P2_ k_∨w.heap.size≤k_)∧some k_ ≠ (.slice Ao24 x9_2.length co24:Value).ownBlock∧some k_ ≠ (v642:Value).ownBlock∧k_ ≠ gb628∧k_ ≠ gb629)) (have h0_:=HL640_0;zz96) hg hat);replace HO643:=Aside0.mk (Kd.N_afterv (ok:=(fun k_=>(P2_ k_∨w.heap.size≤k_)∧k_ ≠ gb628∧k_ ≠ gb629)) (by (with_reducible repeat (first|apply Kd.N_alloc|apply Kd.N_drewN|apply Kd.N_drew));exact Kd.N_mono HO643.out (fun _ hk=>⟨⟨hk.1,⟨hk.2.2.1,hk.2.2.2⟩⟩,hk.2.1⟩)) hg hat);replace HB:=Aside0.mk (hb);have HO646:=Aside0.mk (ho);clear HO_11;clear ho hb hg hat))
       go_roundg k2
       case measure=>have:=HK1.out;have:=HK2.out;omega
       case rel=>exact ⟨(t641),(y644),(wrap64 (x12_2+1)),(zz2),H',⟨zz18⟩,⟨by (with_reducible repeat (first|apply Kd.V_alloc|apply Kd.V_drewN|apply Kd.V_drew));exact Kd.V_mono HO_2.out (fun _ hk=>⟨hk.1.1,⟨hk.1.2.2.1,⟨hk.2,⟨hk.1.2.2.2.1,hk.1.2.2.2.2⟩⟩⟩⟩)⟩,⟨by (with_reducible repeat (first|apply Kd.N_alloc|apply Kd.N_drewN|apply Kd.N_drew));exact Kd.N_mono HO643.out (fun _ hk=>⟨hk.1.1,⟨hk.2,⟨hk.1.2.1,hk.1.2.2⟩⟩⟩)⟩,⟨(have h0_:=HO646;zz25)⟩,⟨zz94⟩,⟨(have h0_:=BK629;zz9)⟩,⟨zz95⟩⟩
      ·have c15b0:=decide_eq_false c15;clear c15;obtain rfl:=Option.some.inj H
       go_wp2
       go_ret
       exact ⟨_,zz6,zz47,zz95⟩
def U29.f (k:Nat) (l0_0:List Int) (l0_1:List Int) (l1_0:List Int) (l1_1:List Int) (l1_2:List (List Int)) (l2:List (List (S56))) (l3:List Int):Option (List Int × Int):=(U32.f k l0_0 l0_1 l1_0 l1_1 l1_2 l2 l3).bind fun t649=>(if t649 = 0 then ((U34.f k l0_0 l0_1 l1_0 l1_1 l1_2 l2 l3).bind fun t650=>(some (t650,0))) else (some (([]:List Int),t649)))
theorem zm27_1 {P:Prop} (h:P:=by repeat' first|(with_reducible first|exact U32.mono ..|exact U34.mono ..|exact LeO.refl _|exact LeO.none _|refine LeO.ite ?_ ?_|refine LeO.bind ?_ (fun _=>?_))|exact U32.mono ..|exact U34.mono ..|exact LeO.none _|refine LeO.ite ?_ ?_|refine LeO.bind ?_ (fun _=>?_)):P:=h
theorem U29.mono:∀ a0 a1 a2 a3 a4 a5 a6 k,LeO (U29.f k a0 a1 a2 a3 a4 a5 a6) (U29.f (k+1) a0 a1 a2 a3 a4 a5 a6):=by
 intro a0 a1 a2 a3 a4 a5 a6 k;unfold U29.f
 exact zm27_1
set_option maxHeartbeats 8000000 in
set_option maxRecDepth 100000 in
theorem U29.calls (k:Nat) (A0_0:Option Addr) (c0_0:Nat) (l0_0:List Int) (A0_1:Option Addr) (c0_1:Nat) (l0_1:List Int) (A1_0:Option Addr) (c1_0:Nat) (l1_0:List Int) (A1_1:Option Addr) (c1_1:Nat) (l1_1:List Int) (A1_2:Option Addr) (c1_2:Nat) (l1_2:List (List Int)) (A2:Option Addr) (c2:Nat) (l2:List (List (S56))) (A3:Option Addr) (c3:Nat) (l3:List Int) (r1:List Int) (r2:Int) (w:World) (hr0_0:Kd.C (Kd.int .i64) w A0_0 l0_0.length l0_0) (hc0_0:l0_0.length≤c0_0) (hr0_1:Kd.C (Kd.int .i64) w A0_1 l0_1.length l0_1) (hc0_1:l0_1.length≤c0_1) (hr1_0:Kd.C (Kd.int .i64) w A1_0 l1_0.length l1_0) (hc1_0:l1_0.length≤c1_0) (hr1_1:Kd.C (Kd.int .i64) w A1_1 l1_1.length l1_1) (hc1_1:l1_1.length≤c1_1) (hr1_2:Kd.C (Kd.slice 3 (Kd.int .i64)) w A1_2 l1_2.length l1_2) (hc1_2:l1_2.length≤c1_2) (hr2:Kd.C (Kd.slice 56 k56) w A2 l2.length l2) (hc2:l2.length≤c2) (hr3:Kd.C (Kd.int .i64) w A3 l3.length l3) (hc3:l3.length≤c3) (h:U29.f k l0_0 l0_1 l1_0 l1_1 l1_2 l2 l3 = some (r1,r2)) :
  Calls Try.prog 19 #[.agg #[.slice A0_0 l0_0.length c0_0,.slice A0_1 l0_1.length c0_1],.agg #[.slice A1_0 l1_0.length c1_0,.slice A1_1 l1_1.length c1_1,.slice A1_2 l1_2.length c1_2],.slice A2 l2.length c2,.slice A3 l3.length c3] w fun e w'=>∃ v0_:Value,e = .returned (.tuple #[v0_,.int .i64 r2])∧Kd.R (Kd.int .i64) 3 w' w.heap.size (fun _=>True) v0_ r1∧Below w.heap.size w w':=by
 have hu24:=Try.underlying24;have hu36:=Try.underlying36;have HR0_0:=Aside0.mk hr0_0;have HC0_0:=Aside0.mk hc0_0;clear hr0_0 hc0_0;have HR0_1:=Aside0.mk hr0_1;have HC0_1:=Aside0.mk hc0_1;clear hr0_1 hc0_1;have HR1_0:=Aside0.mk hr1_0;have HC1_0:=Aside0.mk hc1_0;clear hr1_0 hc1_0;have HR1_1:=Aside0.mk hr1_1;have HC1_1:=Aside0.mk hc1_1;clear hr1_1 hc1_1;have HR1_2:=Aside0.mk hr1_2;have HC1_2:=Aside0.mk hc1_2;clear hr1_2 hc1_2;have HR2:=Aside0.mk hr2;have HC2:=Aside0.mk hc2;clear hr2 hc2;have HR3:=Aside0.mk hr3;have HC3:=Aside0.mk hc3;clear hr3 hc3;have HB:=Aside0.mk (Below.refl w.heap.size w);have H:((U32.f k l0_0 l0_1 l1_0 l1_1 l1_2 l2 l3).bind fun t649=>(if t649 = 0 then ((U34.f k l0_0 l0_1 l1_0 l1_1 l1_2 l2 l3).bind fun t650=>(some (t650,0))) else (some (([]:List Int),t649)))) = some (r1,r2):=h;clear h;replace H:=zzb H;obtain ⟨t649,A5,H⟩:=H;replace H:=zzj H;rcases H with ⟨c6,H⟩|⟨c6,H⟩
 ·have c6b0:=beq_iff_eq.mpr c6;have c6b1:=bne_eq_false_iff_eq.mpr c6;clear c6;replace H:=zzb H;obtain ⟨t650,A7,H⟩:=H;simp only [Option.some.injEq,Prod.mk.injEq] at H;obtain ⟨rfl,rfl⟩:=H;go_enter Try.func19,Try.ntmps19
  go_wp2_with (first|((with_reducible refine gate_dst (N:=4) rfl ?_);refine box_event ?hg (N:=4) ?hd (cs:=#[.slice A0_0 l0_0.length c0_0,.slice A0_1 l0_1.length c0_1]) (t:=24) ?hr ?_;(case hd=>rfl);(case hg=>rfl);(case hr=>exact zz109);intro gb647 hg w8 hbox hb;have BK647:=Aside0.mk (hbox);have GW647:=Aside0.mk ((by rw [hg];exact (below_size (zz5)):w.heap.size≤gb647));have GE647:=Aside0.mk ((by rw [hg];exact (below_size (zz5)):w.heap.size≤gb647));replace HB:=Aside0.mk (below_step (zz5) hb);clear hb hbox hg)|((with_reducible refine gate_dst (N:=5) rfl ?_);refine box_event ?hg (N:=5) ?hd (cs:=#[.slice A1_0 l1_0.length c1_0,.slice A1_1 l1_1.length c1_1,.slice A1_2 l1_2.length c1_2]) (t:=36) ?hr ?_;(case hd=>rfl);(case hg=>rfl);(case hr=>exact zz109);intro gb648 hg w9 hbox hb;have BK648:=Aside0.mk (hbox);have GW648:=Aside0.mk ((by rw [hg];exact (below_size (have h0_:=GE647;zz7)):w.heap.size≤gb648));have GE648:=Aside0.mk ((by rw [hg];exact (below_size (have h0_:=GE647;zz7)):w.heap.size≤gb648));replace HB:=Aside0.mk (below_step (have h0_:=GE647;zz7) hb);have NB647_648:=Aside0.mk ((by rw [hg];exact Nat.ne_of_lt (blk_lt (g:=gb647) (o:=.cells #[.slice A0_0 l0_0.length c0_0,.slice A0_1 l0_1.length c0_1] 24 (0,0)) (have h0_:=BK647;zz9)):gb647 ≠ gb648));have NB648_647:=Aside0.mk ((by rw [hg];exact Nat.ne_of_gt (blk_lt (g:=gb647) (o:=.cells #[.slice A0_0 l0_0.length c0_0,.slice A0_1 l0_1.length c0_1] 24 (0,0)) (have h0_:=BK647;zz9)):gb648 ≠ gb647));replace BK647:=Aside0.mk (blk_below (have h0_:=BK647;zz9) hb);clear hb hbox hg;have hnb10:=NB647_648.out;have hnc10:=NB648_647.out;obtain ⟨hcz11_0,hcz11_1,hfz11_0,hfz11_1⟩:=zc2 BK647.out;obtain ⟨hcz12_0,hcz12_1,hcz12_2,hfz12_0,hfz12_1,hfz12_2⟩:=zc3 BK648.out)|((with_reducible refine gate_callee (f:=48) rfl ?_);refine goesL_ (some 15) rfl rfl Try.func48 (zz0) rfl #[.agg #[.slice A0_0 l0_0.length c0_0,.slice A0_1 l0_1.length c0_1],.agg #[.slice A1_0 l1_0.length c1_0,.slice A1_1 l1_1.length c1_1,.slice A1_2 l1_2.length c1_2],.slice A2 l2.length c2,.slice A3 l3.length c3] rfl (zz19) ?_;(with_reducible refine (U32.calls k _ _ l0_0 _ _ l0_1 _ _ l1_0 _ _ l1_1 _ _ l1_2 (fun k_=>k_ < w.heap.size) _ _ l2 _ _ l3 t649 _ ?_ ?_ ?_ ?_ ?_ ?_ ?_ ?_ ?_ ?_ ?_ ?_ ?_ A5.out).mono ?_);exact zz111;exact zz112;exact zz113;exact zz114;exact zz118;exact zz119;exact zz124;exact zz125;exact zz126;exact zz127;exact Kd.V_mk HC2.out (Kd.F_below (Kd.C_F (Kd.heap_slice 56 k56_heap) HR2.out) (zz97));exact zz132;exact HC3.out;rintro e w13 ⟨rfl,hb⟩;refine ⟨_,rfl,?_⟩;replace BK647:=Aside0.mk (blk_below (have h0_:=BK647;zz9) hb);replace BK648:=Aside0.mk (blk_below (have h0_:=BK648;zz9) hb);replace HB:=Aside0.mk (below_step (zz97) hb);(try clear hb);obtain ⟨hcz14_0,hcz14_1,hfz14_0,hfz14_1⟩:=zc2 BK647.out;obtain ⟨hcz15_0,hcz15_1,hcz15_2,hfz15_0,hfz15_1,hfz15_2⟩:=zc3 BK648.out)|((with_reducible refine gate_callee (f:=49) rfl ?_);refine goesL_ (some 23) rfl rfl Try.func49 (zz0) rfl #[.agg #[.slice A0_0 l0_0.length c0_0,.slice A0_1 l0_1.length c0_1],.agg #[.slice A1_0 l1_0.length c1_0,.slice A1_1 l1_1.length c1_1,.slice A1_2 l1_2.length c1_2],.slice A2 l2.length c2,.slice A3 l3.length c3] rfl (zz19) ?_;(with_reducible refine (U34.calls k _ _ l0_0 _ _ l0_1 _ _ l1_0 _ _ l1_1 _ _ l1_2 (fun k_=>k_ < w.heap.size) _ _ l2 _ _ l3 t650 _ ?_ ?_ ?_ ?_ ?_ ?_ ?_ ?_ ?_ ?_ ?_ ?_ ?_ A7.out).mono ?_);exact zz111;exact zz112;exact zz113;exact zz114;exact zz118;exact zz119;exact zz124;exact zz125;exact zz126;exact zz127;exact Kd.V_mk HC2.out (Kd.F_below (Kd.C_F (Kd.heap_slice 56 k56_heap) HR2.out) (zz97));exact zz132;exact HC3.out;rintro e w16 ⟨v651,rfl,ho0,hb⟩;refine ⟨_,rfl,?_⟩;have HO652:=Aside0.mk (Kd.R_lower (Kd.R_mono (ok':=fun k_=>True) ho0 (fun _ hk_=>trivial)) (below_size (zz97)));replace BK647:=Aside0.mk (blk_below (have h0_:=BK647;zz9) hb);replace BK648:=Aside0.mk (blk_below (have h0_:=BK648;zz9) hb);replace HB:=Aside0.mk (below_step (zz97) hb);(try clear hb);(try clear ho0)))
  go_ret2
  exact ⟨_,zz6,(have h0_:=HO652;zz25),zz97⟩
 ·have c6b0:=beq_eq_false_iff_ne.mpr c6;have c6b1:=bne_iff_ne.mpr c6;simp only [Option.some.injEq,Prod.mk.injEq] at H;obtain ⟨rfl,rfl⟩:=H;go_enter Try.func19,Try.ntmps19
  go_wp2_with (first|((with_reducible refine gate_dst (N:=4) rfl ?_);refine box_event ?hg (N:=4) ?hd (cs:=#[.slice A0_0 l0_0.length c0_0,.slice A0_1 l0_1.length c0_1]) (t:=24) ?hr ?_;(case hd=>rfl);(case hg=>rfl);(case hr=>exact zz109);intro gb647 hg w17 hbox hb;have BK647:=Aside0.mk (hbox);have GW647:=Aside0.mk ((by rw [hg];exact (below_size (zz5)):w.heap.size≤gb647));have GE647:=Aside0.mk ((by rw [hg];exact (below_size (zz5)):w.heap.size≤gb647));replace HB:=Aside0.mk (below_step (zz5) hb);clear hb hbox hg)|((with_reducible refine gate_dst (N:=5) rfl ?_);refine box_event ?hg (N:=5) ?hd (cs:=#[.slice A1_0 l1_0.length c1_0,.slice A1_1 l1_1.length c1_1,.slice A1_2 l1_2.length c1_2]) (t:=36) ?hr ?_;(case hd=>rfl);(case hg=>rfl);(case hr=>exact zz109);intro gb648 hg w18 hbox hb;have BK648:=Aside0.mk (hbox);have GW648:=Aside0.mk ((by rw [hg];exact (below_size (have h0_:=GE647;zz7)):w.heap.size≤gb648));have GE648:=Aside0.mk ((by rw [hg];exact (below_size (have h0_:=GE647;zz7)):w.heap.size≤gb648));replace HB:=Aside0.mk (below_step (have h0_:=GE647;zz7) hb);have NB647_648:=Aside0.mk ((by rw [hg];exact Nat.ne_of_lt (blk_lt (g:=gb647) (o:=.cells #[.slice A0_0 l0_0.length c0_0,.slice A0_1 l0_1.length c0_1] 24 (0,0)) (have h0_:=BK647;zz9)):gb647 ≠ gb648));have NB648_647:=Aside0.mk ((by rw [hg];exact Nat.ne_of_gt (blk_lt (g:=gb647) (o:=.cells #[.slice A0_0 l0_0.length c0_0,.slice A0_1 l0_1.length c0_1] 24 (0,0)) (have h0_:=BK647;zz9)):gb648 ≠ gb647));replace BK647:=Aside0.mk (blk_below (have h0_:=BK647;zz9) hb);clear hb hbox hg;have hnb19:=NB647_648.out;have hnc19:=NB648_647.out;obtain ⟨hcz20_0,hcz20_1,hfz20_0,hfz20_1⟩:=zc2 BK647.out;obtain ⟨hcz21_0,hcz21_1,hcz21_2,hfz21_0,hfz21_1,hfz21_2⟩:=zc3 BK648.out)|((with_reducible refine gate_callee (f:=48) rfl ?_);refine goesL_ (some 15) rfl rfl Try.func48 (zz0) rfl #[.agg #[.slice A0_0 l0_0.length c0_0,.slice A0_1 l0_1.length c0_1],.agg #[.slice A1_0 l1_0.length c1_0,.slice A1_1 l1_1.length c1_1,.slice A1_2 l1_2.length c1_2],.slice A2 l2.length c2,.slice A3 l3.length c3] rfl (zz19) ?_;(with_reducible refine (U32.calls k _ _ l0_0 _ _ l0_1 _ _ l1_0 _ _ l1_1 _ _ l1_2 (fun k_=>k_ < w.heap.size) _ _ l2 _ _ l3 t649 _ ?_ ?_ ?_ ?_ ?_ ?_ ?_ ?_ ?_ ?_ ?_ ?_ ?_ A5.out).mono ?_);exact zz111;exact zz112;exact zz113;exact zz114;exact zz118;exact zz119;exact zz124;exact zz125;exact zz126;exact zz127;exact Kd.V_mk HC2.out (Kd.F_below (Kd.C_F (Kd.heap_slice 56 k56_heap) HR2.out) (zz97));exact zz132;exact HC3.out;rintro e w22 ⟨rfl,hb⟩;refine ⟨_,rfl,?_⟩;replace BK647:=Aside0.mk (blk_below (have h0_:=BK647;zz9) hb);replace BK648:=Aside0.mk (blk_below (have h0_:=BK648;zz9) hb);replace HB:=Aside0.mk (below_step (zz97) hb);(try clear hb)))
  go_ret2
  exact ⟨_,zz6,zz55,zz97⟩
end Go.Proofs.Ytmcegphcjphdcaa.QA
