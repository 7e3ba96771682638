import Derived.Test.YtmcegphcjphdcaaXSwQAx0
import Derived.Test.YtmcegphcjphdcaaXSwQAx17
import Derived.Test.YtmcegphcjphdcaaXSwQAx27
namespace Go.Proofs.Ytmcegphcjphdcaa.QA
open Go.RowKit Go.Proofs.YtmcegphcjphdcaaW.PrintWords Go.Proofs.YtmcegphcjphdcaaW.PrintLast Go.Proofs.YtmcegphcjphdcaaW.PrintMore
attribute [local go_sem] max2_int min2_int max_two min_two max_three min_three max_four min_four
set_option linter.unusedVariables false
set_option linter.unusedSimpArgs false
def U30.l0:Nat→List (S56)→Int→List (S56)→Int→List Int→Int→List Int→List Int→List Int→List Int→List (List Int)→Option (Int)
 | 0,_,_,_,_,_,_,_,_,_,_,_=>none
 | k+1,x1,x3,x4,x13,x14,x15,x612000,x612001,x613000,x613001,x613002=>if x15 < (x4.length:Int) then (if 0≤x15 then ((U38.f k x1 x3 ((rd_T56 x4 x15).f0)).bind fun t621=>((U35.f k x612000 x612001 t621 x613000 x613001 x613002).bind fun t624=>((U16.f k t624 x14).bind fun t627=>(if t627 > 0 then (U30.l0 k x1 x3 x4 x15 t624 (wrap64 (x15+1)) x612000 x612001 x613000 x613001 x613002) else (U30.l0 k x1 x3 x4 x13 x14 (wrap64 (x15+1)) x612000 x612001 x613000 x613001 x613002))))) else (none)) else (some x13)
def U30.f (k:Nat) (l0_0:List Int) (l0_1:List Int) (l1:List (S56)) (l2_0:List Int) (l2_1:List Int) (l2_2:List (List Int)) (a3:Int) (l4:List (S56)) (a5:Int):Option (Int):=if 0≤a5 then (if a5 < (l4.length:Int) then ((U38.f k l1 a3 ((rd_T56 l4 a5).f0)).bind fun t614=>((U35.f k l0_0 l0_1 t614 l2_0 l2_1 l2_2).bind fun t617=>(U30.l0 k l1 a3 l4 a5 t617 0 l0_0 l0_1 l2_0 l2_1 l2_2))) else (none)) else (none)
theorem zm26_0 {P:Prop} (h:P:=by repeat' first|(with_reducible first|exact ih0 ..|exact U16.mono ..|exact U35.mono ..|exact U38.mono ..|exact LeO.refl _|exact LeO.none _|refine LeO.ite ?_ ?_|refine LeO.bind ?_ (fun _=>?_))|exact ih0 ..|exact U16.mono ..|exact U35.mono ..|exact U38.mono ..|exact LeO.none _|refine LeO.ite ?_ ?_|refine LeO.bind ?_ (fun _=>?_)):P:=h
theorem U30.mono_l:∀ k,(∀ y0 y1 y2 y3 y4 y5 y6 y7 y8 y9 y10,LeO (U30.l0 k y0 y1 y2 y3 y4 y5 y6 y7 y8 y9 y10) (U30.l0 (k+1) y0 y1 y2 y3 y4 y5 y6 y7 y8 y9 y10))
 | 0=>fun _ _ _ _ _ _ _ _ _ _ _ r h=>by simp [U30.l0] at h
 | k+1=>by
  have ih0:=U30.mono_l k
  ·intro y0 y1 y2 y3 y4 y5 y6 y7 y8 y9 y10;unfold U30.l0
   exact zm26_0
theorem U30.mono:∀ a0 a1 a2 a3 a4 a5 a6 a7 a8 k,LeO (U30.f k a0 a1 a2 a3 a4 a5 a6 a7 a8) (U30.f (k+1) a0 a1 a2 a3 a4 a5 a6 a7 a8):=by
 intro a0 a1 a2 a3 a4 a5 a6 a7 a8 k;have ih0:=U30.mono_l k;unfold U30.f
 exact zm26_0
def U30.T1:Bool × List (List Nat × List Nat):=(true,[([],[]),([],[]),([],[]),([],[]),([],[]),([],[]),([4,5],[4,5]),([6],[6]),([2,3,7],[2,3,7]),([],[]),([1,8,9,8],[1,8,9]),([0,10,0],[0]),([10,11,0,1,2,3,4,5,6,7,8,9,10,11],[10])])
def U30.B1:List Nat:=[0,0,0,0,0,0,48,112,252,0,1022,2047,4095]
theorem U30.tab1:rtab .any (opsOf Try.f67 1) = U30.T1:=zz0
theorem U30.bits1:waitsOk U30.T1.2 U30.B1 = true:=zz0
def U30.T5:Bool × List (List Nat × List Nat):=(true,[([],[]),([],[]),([],[]),([],[]),([],[]),([3,4],[3,4]),([5],[5]),([1,2,6],[1,2,6]),([],[]),([0,7,8,7],[0,7,8]),([9,9,0,1,2,3,4,5,6,7,8,9],[9])])
def U30.B5:List Nat:=[0,0,0,0,0,24,56,126,0,511,1023]
theorem U30.tab5:rtab .any (opsOf Try.f67 5) = U30.T5:=zz0
theorem U30.bits5:waitsOk U30.T5.2 U30.B5 = true:=zz0
set_option maxHeartbeats 8000000 in
set_option maxRecDepth 100000 in
theorem U30.calls (k:Nat) (A0_0:Option Addr) (c0_0:Nat) (l0_0:List Int) (A0_1:Option Addr) (c0_1:Nat) (l0_1:List Int) (A1:Option Addr) (c1:Nat) (l1:List (S56)) (A2_0:Option Addr) (c2_0:Nat) (l2_0:List Int) (A2_1:Option Addr) (c2_1:Nat) (l2_1:List Int) (A2_2:Option Addr) (c2_2:Nat) (l2_2:List (List Int)) (a3:Int) (A4:Option Addr) (c4:Nat) (l4:List (S56)) (a5:Int) (r:Int) (w:World) (hr0_0:Kd.C (Kd.int .i64) w A0_0 l0_0.length l0_0) (hc0_0:l0_0.length≤c0_0) (hr0_1:Kd.C (Kd.int .i64) w A0_1 l0_1.length l0_1) (hc0_1:l0_1.length≤c0_1) (hr1:Kd.C k56 w A1 l1.length l1) (hc1:l1.length≤c1) (hr2_0:Kd.C (Kd.int .i64) w A2_0 l2_0.length l2_0) (hc2_0:l2_0.length≤c2_0) (hr2_1:Kd.C (Kd.int .i64) w A2_1 l2_1.length l2_1) (hc2_1:l2_1.length≤c2_1) (hr2_2:Kd.C (Kd.slice 3 (Kd.int .i64)) w A2_2 l2_2.length l2_2) (hc2_2:l2_2.length≤c2_2) (hr4:Kd.C k56 w A4 l4.length l4) (hc4:l4.length≤c4) (h:U30.f k l0_0 l0_1 l1 l2_0 l2_1 l2_2 a3 l4 a5 = some r) :
  Calls Try.prog 67 #[.agg #[.slice A0_0 l0_0.length c0_0,.slice A0_1 l0_1.length c0_1],.slice A1 l1.length c1,.agg #[.slice A2_0 l2_0.length c2_0,.slice A2_1 l2_1.length c2_1,.slice A2_2 l2_2.length c2_2],.int .i64 a3,.slice A4 l4.length c4,.int .i64 a5] w fun e w'=>e = .returned (.int .i64 r)∧Below w.heap.size w w':=by
 have hu24:=Try.underlying24;have hu36:=Try.underlying36;have hu56:=Try.underlying56;have HR0_0:=Aside0.mk hr0_0;have HC0_0:=Aside0.mk hc0_0;clear hr0_0 hc0_0;have HR0_1:=Aside0.mk hr0_1;have HC0_1:=Aside0.mk hc0_1;clear hr0_1 hc0_1;have HR1:=Aside0.mk hr1;have HC1:=Aside0.mk hc1;clear hr1 hc1;have HR2_0:=Aside0.mk hr2_0;have HC2_0:=Aside0.mk hc2_0;clear hr2_0 hc2_0;have HR2_1:=Aside0.mk hr2_1;have HC2_1:=Aside0.mk hc2_1;clear hr2_1 hc2_1;have HR2_2:=Aside0.mk hr2_2;have HC2_2:=Aside0.mk hc2_2;clear hr2_2 hc2_2;have HR4:=Aside0.mk hr4;have HC4:=Aside0.mk hc4;clear hr4 hc4;have HB:=Aside0.mk (Below.refl w.heap.size w);have H:(if 0≤a5 then (if a5 < (l4.length:Int) then ((U38.f k l1 a3 ((rd_T56 l4 a5).f0)).bind fun t614=>((U35.f k l0_0 l0_1 t614 l2_0 l2_1 l2_2).bind fun t617=>(U30.l0 k l1 a3 l4 a5 t617 0 l0_0 l0_1 l2_0 l2_1 l2_2))) else (none)) else (none)) = some r:=h;clear h;replace H:=zzi H;obtain ⟨c7,H⟩:=H;have c7b0:=decide_eq_true c7;clear c7;replace H:=zzi H;obtain ⟨c8,H⟩:=H;have c8b0:=decide_eq_true c8;clear c8;replace H:=zzb H;obtain ⟨t614,A9,H⟩:=H;replace H:=zzb H;obtain ⟨t617,A10,H⟩:=H;have H':=Aside0.mk H;clear H;go_enter Try.func67,Try.ntmps67
 try go_wp2_with (first|((with_reducible refine gate_dst (N:=6) rfl ?_);refine box_event ?hg (N:=6) ?hd (cs:=#[.slice A0_0 l0_0.length c0_0,.slice A0_1 l0_1.length c0_1]) (t:=24) ?hr ?_;(case hd=>rfl);(case hg=>rfl);(case hr=>exact zz109);intro gb611 hg w11 hbox hb;have BK611:=Aside0.mk (hbox);have GW611:=Aside0.mk ((by rw [hg];exact (below_size (zz5)):w.heap.size≤gb611));have GE611:=Aside0.mk ((by rw [hg];exact (below_size (zz5)):w.heap.size≤gb611));replace HB:=Aside0.mk (below_step (zz5) hb);clear hb hbox hg)|((with_reducible refine gate_dst (N:=8) rfl ?_);refine box_event ?hg (N:=8) ?hd (cs:=#[.slice A2_0 l2_0.length c2_0,.slice A2_1 l2_1.length c2_1,.slice A2_2 l2_2.length c2_2]) (t:=36) ?hr ?_;(case hd=>rfl);(case hg=>rfl);(case hr=>exact zz109);intro gb612 hg w12 hbox hb;have BK612:=Aside0.mk (hbox);have GW612:=Aside0.mk ((by rw [hg];exact (below_size (have h0_:=GE611;zz7)):w.heap.size≤gb612));have GE612:=Aside0.mk ((by rw [hg];exact (below_size (have h0_:=GE611;zz7)):w.heap.size≤gb612));replace HB:=Aside0.mk (below_step (have h0_:=GE611;zz7) hb);have NB611_612:=Aside0.mk ((by rw [hg];exact Nat.ne_of_lt (blk_lt (g:=gb611) (o:=.cells #[.slice A0_0 l0_0.length c0_0,.slice A0_1 l0_1.length c0_1] 24 (0,0)) (zz88)):gb611 ≠ gb612));have NB612_611:=Aside0.mk ((by rw [hg];exact Nat.ne_of_gt (blk_lt (g:=gb611) (o:=.cells #[.slice A0_0 l0_0.length c0_0,.slice A0_1 l0_1.length c0_1] 24 (0,0)) (zz88)):gb612 ≠ gb611));replace BK611:=Aside0.mk (blk_below (zz88) hb);clear hb hbox hg))
 replace BK611:=Aside0.mk (blk_drew BK611.out);replace BK612:=Aside0.mk (blk_drew BK612.out);replace HB:=Aside0.mk (below_drew1 HB.out);have p613:0≤(a5:Int):=of_decide_eq_true (zz11);have q613:a5 < (l4.length:Int):=of_decide_eq_true (zz11);obtain ⟨ad613,A613_0,c613_0,e613,hx613_0,hl613_0,hi613_0⟩:=at_T56 HR4.out a5 p613 q613;have hw613_0:=hx613_0
 cases e613
 replace hx613_0:=(HB.out.cell (World.block_lt_of_cell? w _ hx613_0)).trans hx613_0;have HR613_0:=Aside0.mk hi613_0;have HC613_0:=Aside0.mk hl613_0;clear hi613_0 hl613_0;replace p613:=eq_true p613;replace q613:=eq_true q613;refine start_ (n:=13) (S:=fun w'=>w'.cell? ⟨gb611,0,none⟩ = some (.slice A0_0 l0_0.length c0_0)∧w'.cell? ⟨gb611,1,none⟩ = some (.slice A0_1 l0_1.length c0_1)∧w'.cell? ⟨gb612,0,none⟩ = some (.slice A2_0 l2_0.length c2_0)∧w'.cell? ⟨gb612,1,none⟩ = some (.slice A2_1 l2_1.length c2_1)∧w'.cell? ⟨gb612,2,none⟩ = some (.slice A2_2 l2_2.length c2_2)∧w'.cell? (ad613.add (a5).toNat) = some (.slice A613_0 ((rd_T56 l4 a5).f0).length c613_0)) (ds:=[]) #[false,false,false,false,false,false,false,false,false,false,false,false,false] (zz0) rfl rfl ⟨(blk_cell BK611.out 0).trans rfl,(blk_cell BK611.out 1).trans rfl,(blk_cell BK612.out 0).trans rfl,(blk_cell BK612.out 1).trans rfl,(blk_cell BK612.out 2).trans rfl,((HB.out.cell (World.block_lt_of_cell? w _ hw613_0)).trans hw613_0)⟩ (fun hHeld=>?_);refine with_tabW U30.tab1 U30.bits1 (fun HT_ HW_=>?_)
 generalize w12.drew = w13 at BK611 BK612 HB HR613_0 hx613_0 hHeld ⊢
 refine zzp 0 17 ?_ #[true,false,false,false,false,false,false,false,false,false,false,false,false] rfl rfl (any_of HT_.out (zz0)) (fun _ _ _ h=>h) (Or.inl ⟨zz20,?_⟩) ?_ ?_ ?_;rotate_left
 ·intro w'
  go_simp
  with_reducible rfl
 rotate_left
 ·simp only [zzs]
  rfl
 refine zzp 2 19 ?_ #[true,false,true,false,false,false,false,false,false,false,false,false,false] rfl rfl (any_of HT_.out (zz0)) (fun _ _ _ h=>h) (Or.inl ⟨zz20,?_⟩) ?_ ?_ ?_;rotate_left
 ·intro w'
  go_simp
  with_reducible rfl
 rotate_left
 ·simp only [zzs]
  rfl
 refine zzp 3 20 ?_ #[true,false,true,true,false,false,false,false,false,false,false,false,false] rfl rfl (any_of HT_.out (zz0)) (fun _ _ _ h=>h) (Or.inl ⟨zz20,?_⟩) ?_ ?_ ?_;rotate_left
 ·intro w'
  go_simp
  with_reducible rfl
 rotate_left
 ·simp only [zzs]
  rfl
 refine zzp 4 21 ?_ #[true,false,true,true,true,false,false,false,false,false,false,false,false] rfl rfl (any_of HT_.out (zz0)) (fun _ _ _ h=>h) (Or.inl ⟨zz20,?_⟩) ?_ ?_ ?_;rotate_left
 ·intro w'
  go_simp
  with_reducible rfl
 rotate_left
 ·simp only [zzs]
  rfl
 refine zzp 5 22 ?_ #[true,false,true,true,true,true,false,false,false,false,false,false,false] rfl rfl (any_of HT_.out (zz0)) (fun _ _ _ h=>h) (Or.inl ⟨zz20,?_⟩) ?_ ?_ ?_;rotate_left
 ·intro w'
  go_simp
  with_reducible rfl
 rotate_left
 ·simp only [zzs]
  rfl
 refine zzp 6 23 ?_ #[true,false,true,true,true,true,true,false,false,false,false,false,false] rfl rfl (any_of HT_.out (zz0)) (fun _ _ _ h=>h) (Or.inl ⟨zz20,?_⟩) ?_ ?_ ?_;rotate_left
 ·intro w'
  go_simp
  with_reducible rfl
 rotate_left
 ·simp only [zzs]
  rfl
 refine take_ (i:=1) (N:=some 18) (v:=?_) (a':=?_) #[true,true,true,true,true,true,true,false,false,false,false,false,false] rfl rfl (take_ofW HT_.out HW_.out (zz0)) (fun _ _ _ h=>h) (Or.inl ⟨zz20,?_⟩) hHeld ?_ ?_;rotate_left
 ·rintro w' ⟨s0,s1,s2,s3,s4,s5⟩
  go_simp
  with_reducible rfl
 rotate_left
 ·simp only [zzs]
  rfl
 refine take_ (i:=7) (N:=some 24) (v:=?_) (a':=?_) #[true,true,true,true,true,true,true,true,false,false,false,false,false] rfl rfl (take_ofW HT_.out HW_.out (zz0)) (fun _ _ _ h=>h) (Or.inl ⟨zz20,?_⟩) hHeld ?_ ?_;rotate_left
 ·rintro w' ⟨s0,s1,s2,s3,s4,s5⟩
  go_simp
  with_reducible rfl
 rotate_left
 ·simp only [zzs]
  rfl
 refine take_ (i:=9) (N:=some 26) (v:=?_) (a':=?_) #[true,true,true,true,true,true,true,true,false,true,false,false,false] rfl rfl (take_ofW HT_.out HW_.out (zz0)) (fun _ _ _ h=>h) (Or.inl ⟨zz20,?_⟩) hHeld ?_ ?_;rotate_left
 ·rintro w' ⟨s0,s1,s2,s3,s4,s5⟩
  go_simp
  with_reducible rfl
 rotate_left
 ·simp only [zzs]
  rfl
 refine one_ (i:=8) (N:=some 25) #[true,true,true,true,true,true,true,true,true,true,false,false,false] rfl rfl (one_of HT_.out (zz0)) (zz28) (fun K hK=>?_);refine goes_ Try.func68 (zz0) rfl #[.slice A1 l1.length c1,.int .i64 a3,.agg #[.slice A613_0 ((rd_T56 l4 a5).f0).length c613_0]] (zz20) rfl rfl (zz19) ?_
 with_reducible refine (U38.calls k (fun k_=>k_ < w.heap.size) _ _ l1 a3 (fun k_=>k_ < w.heap.size) _ _ ((rd_T56 l4 a5).f0) t614 _ ?side1 ?side2 A9.out).mono ?_
 (case side1=>exact Kd.V_mk HC1.out (Kd.F_below (Kd.C_F k56_heap HR1.out) (zz89)))
 (case side2=>exact Kd.V_mk HC613_0.out (Kd.F_below (Kd.C_F (Kd.heap_slice 3 (Kd.heap_int .i64)) HR613_0.out) (zz89)))
 rintro e w14 ⟨v615,rfl,ho0,hb⟩;refine ⟨_,rfl,?_⟩;have HO616:=Aside0.mk (Kd.N_lower (Kd.N_mono (ok':=fun k_=>k_ ≠ gb611∧k_ ≠ gb612) ho0 (fun k_ hk_=>⟨Or.elim hk_ (fun hs_=>Or.elim hs_ (fun hs_=>fun e_=>Nat.not_le.2 hs_ (zz90)) (fun hs_=>fun e_=>Nat.not_le.2 hs_ (zz90))) (fun hn_=>(Kd.freshB (g:=gb611) (o:=.cells #[.slice A0_0 l0_0.length c0_0,.slice A0_1 l0_1.length c0_1] 24 (0,0)) (zz88) k_ hn_)),Or.elim hk_ (fun hs_=>Or.elim hs_ (fun hs_=>fun e_=>Nat.not_le.2 hs_ (zz91)) (fun hs_=>fun e_=>Nat.not_le.2 hs_ (zz91))) (fun hn_=>(Kd.freshB (g:=gb612) (o:=.cells #[.slice A2_0 l2_0.length c2_0,.slice A2_1 l2_1.length c2_1,.slice A2_2 l2_2.length c2_2] 36 (0,0)) (zz92) k_ hn_))⟩)) (below_size (zz89)));replace BK611:=Aside0.mk (blk_below (zz88) hb);replace BK612:=Aside0.mk (blk_below (zz92) hb);replace HB:=Aside0.mk (below_step (zz89) hb)
 (try clear hb)
 (try clear ho0)
 obtain ⟨Ao15,co15,eo15⟩:=Kd.N_slice HO616.out
 (first|subst eo15|(injection eo15 with f1_ f2_ f3_;have f4_:=f1_.symm;have f5_:=f3_.symm;clear f1_ f2_ f3_;subst f4_;subst f5_))
 refine hK.out _ _ ⟨(blk_cell BK611.out 0).trans rfl,(blk_cell BK611.out 1).trans rfl,(blk_cell BK612.out 0).trans rfl,(blk_cell BK612.out 1).trans rfl,(blk_cell BK612.out 2).trans rfl,((HB.out.cell (World.block_lt_of_cell? w _ hw613_0)).trans hw613_0)⟩ (fun hHeld=>?_);clear hK K;refine norm_ (a':=?_) ?_ ?_;rotate_left
 ·show Act.put _ (some 25) _ = _
  simp only [zzs]
  rfl
 refine one_ (i:=10) (N:=some 27) #[true,true,true,true,true,true,true,true,true,true,true,false,false] rfl rfl (one_of HT_.out (zz0)) (zz28) (fun K hK=>?_);refine goes_ Try.func43 (zz0) rfl #[.agg #[.slice A0_0 l0_0.length c0_0,.slice A0_1 l0_1.length c0_1],.slice Ao15 t614.length co15,.agg #[.slice A2_0 l2_0.length c2_0,.slice A2_1 l2_1.length c2_1,.slice A2_2 l2_2.length c2_2]] (zz20) rfl rfl (zz19) ?_
 with_reducible refine (U35.calls k _ _ l0_0 _ _ l0_1 _ _ t614 _ _ l2_0 _ _ l2_1 _ _ l2_2 t617 _ ?side1 ?side2 ?side3 ?side4 ?side5 ?side6 ?side7 ?side8 ?side9 ?side10 ?side11 ?side12 A10.out).mono ?_
 (case side1=>exact zz111)
 (case side2=>exact zz112)
 (case side3=>exact zz113)
 (case side4=>exact zz114)
 (case side5=>exact (have h0_:=HO616;zz130))
 (case side6=>exact (have h0_:=HO616;zz131))
 (case side7=>exact (have h0_:=HR2_0;zz110))
 (case side8=>exact HC2_0.out)
 (case side9=>exact (have h0_:=HR2_1;zz110))
 (case side10=>exact HC2_1.out)
 (case side11=>exact (have h0_:=HR2_2;zz110))
 (case side12=>exact HC2_2.out)
 rintro e w16 ⟨v618,rfl,ho0,hb⟩;refine ⟨_,rfl,?_⟩;replace HO616:=Aside0.mk (Kd.N_elder' (have h0_:=HO616;zz27) (Kd.R_base ho0) hb);have HO619:=Aside0.mk (Kd.R_lower ho0 (below_size (zz89)));replace BK611:=Aside0.mk (blk_below (zz88) hb);replace BK612:=Aside0.mk (blk_below (zz92) hb);replace HB:=Aside0.mk (below_step (zz89) hb)
 (try clear hb)
 (try clear hb2)
 (try clear hk)
 (try clear hi)
 (try clear ho0)
 refine hK.out _ _ ⟨(blk_cell BK611.out 0).trans rfl,(blk_cell BK611.out 1).trans rfl,(blk_cell BK612.out 0).trans rfl,(blk_cell BK612.out 1).trans rfl,(blk_cell BK612.out 2).trans rfl,((HB.out.cell (World.block_lt_of_cell? w _ hw613_0)).trans hw613_0)⟩ (fun hHeld=>?_);clear hK K;refine norm_ (a':=?_) ?_ ?_;rotate_left
 ·show Act.put _ (some 27) _ = _
  simp only [zzs]
  rfl
 refine zzp 11 13 ?_ #[true,true,true,true,true,true,true,true,true,true,true,true,false] rfl rfl (any_of HT_.out (zz0)) (fun _ _ _ h=>h) (Or.inl ⟨zz20,?_⟩) ?_ ?_ ?_;rotate_left
 ·intro w'
  go_simp
  with_reducible rfl
 rotate_left
 ·simp only [zzs]
  rfl
 refine zzp 12 14 ?_ #[true,true,true,true,true,true,true,true,true,true,true,true,true] rfl rfl (any_of HT_.out (zz0)) (fun _ _ _ h=>h) (Or.inl ⟨zz20,?_⟩) ?_ ?_ ?_;rotate_left
 ·intro w'
  go_simp
  with_reducible rfl
 rotate_left
 ·simp only [zzs]
  rfl
 refine done_ (done_of HT_.out (zz0)) ?_
 try go_wp2
 go_loopg [13,14,15] k (fun kq v13 v14 v15 w'=>∃ (x13_1:Int) (x14_1:List Int) (x15_1:Int),v13 = .int .i64 x13_1∧v15 = .int .i64 x15_1∧Aside0 (U30.l0 kq l1 a3 l4 x13_1 x14_1 x15_1 l0_0 l0_1 l2_0 l2_1 l2_2 = some r)∧Aside0 (kq≤k)∧Aside0 (Kd.R (Kd.int .u32) 65 w' w.heap.size (fun _=>True) v14 x14_1)∧Aside0 (w'.heap[gb611]? = some (.cells #[(.slice A0_0 l0_0.length c0_0),(.slice A0_1 l0_1.length c0_1)] 24 (0,0)))∧Aside0 (w'.heap[gb612]? = some (.cells #[(.slice A2_0 l2_0.length c2_0),(.slice A2_1 l2_1.length c2_1),(.slice A2_2 l2_2.length c2_2)] 36 (0,0)))∧Aside0 (Below w.heap.size w w'))
 case atStart=>exact ⟨(a5),(t617),(0),(zz2),(zz2),H',⟨Nat.le_refl _⟩,⟨(have h0_:=HO619;zz25)⟩,⟨zz88⟩,⟨zz92⟩,⟨zz89⟩⟩
 case round =>
  clear H'
  (try clear c1);(try clear c4);clear c7b0 c8b0 p613 q613;(try clear hx613_0)
  obtain ⟨x13_1,x14_1,x15_1,rfl,rfl,HA,HK1,HO_14,BK611,BK612,HB⟩:=hrel
  cases gk with
  | zero=>exact absurd HA.out (by simp [U30.l0])
  | succ k1 =>
   have H:=HA.out;clear HA;simp only [U30.l0] at H;replace H:=zzj H;rcases H with ⟨c17,H⟩|⟨c17,H⟩
   ·have c17b0:=decide_eq_true c17;clear c17;replace H:=zzi H;obtain ⟨c18,H⟩:=H;have c18b0:=decide_eq_true c18;clear c18;replace H:=zzb H;obtain ⟨t621,A19,H⟩:=H;replace H:=zzb H;obtain ⟨t624,A20,H⟩:=H;replace H:=zzb H;obtain ⟨t627,A21,H⟩:=H;replace H:=zzj H;rcases H with ⟨c22,H⟩|⟨c22,H⟩
    ·have c22b0:=decide_eq_true c22;clear c22;have H':=Aside0.mk H;clear H
     try go_wp2
     replace HO_14:=Aside0.mk (Kd.R_drew HO_14.out);replace BK611:=Aside0.mk (blk_drew BK611.out);replace BK612:=Aside0.mk (blk_drew BK612.out);replace HB:=Aside0.mk (below_drew1 HB.out);have p620:0≤(x15_1:Int):=of_decide_eq_true (zz11);have q620:x15_1 < (l4.length:Int):=of_decide_eq_true (zz11);obtain ⟨ad620,A620_0,c620_0,e620,hx620_0,hl620_0,hi620_0⟩:=at_T56 HR4.out x15_1 p620 q620;have hw620_0:=hx620_0;obtain rfl:ad613 = ad620:=(by injection e620);replace hx620_0:=(HB.out.cell (World.block_lt_of_cell? w _ hx620_0)).trans hx620_0;have HR620_0:=Aside0.mk hi620_0;have HC620_0:=Aside0.mk hl620_0;clear hi620_0 hl620_0;replace p620:=eq_true p620;replace q620:=eq_true q620;refine start_ (n:=11) (S:=fun w'=>w'.cell? ⟨gb611,0,none⟩ = some (.slice A0_0 l0_0.length c0_0)∧w'.cell? ⟨gb611,1,none⟩ = some (.slice A0_1 l0_1.length c0_1)∧w'.cell? ⟨gb612,0,none⟩ = some (.slice A2_0 l2_0.length c2_0)∧w'.cell? ⟨gb612,1,none⟩ = some (.slice A2_1 l2_1.length c2_1)∧w'.cell? ⟨gb612,2,none⟩ = some (.slice A2_2 l2_2.length c2_2)∧w'.cell? (ad613.add (x15_1).toNat) = some (.slice A620_0 ((rd_T56 l4 x15_1).f0).length c620_0)) (ds:=[]) #[false,false,false,false,false,false,false,false,false,false,false] (zz0) rfl rfl ⟨(blk_cell BK611.out 0).trans rfl,(blk_cell BK611.out 1).trans rfl,(blk_cell BK612.out 0).trans rfl,(blk_cell BK612.out 1).trans rfl,(blk_cell BK612.out 2).trans rfl,((HB.out.cell (World.block_lt_of_cell? w _ hw620_0)).trans hw620_0)⟩ (fun hHeld=>?_);refine with_tabW U30.tab5 U30.bits5 (fun HT_ HW_=>?_)
     generalize wr.drew = w23 at HO_14 BK611 BK612 HB HR620_0 hx620_0 hHeld ⊢
     refine zzp 1 35 ?_ #[false,true,false,false,false,false,false,false,false,false,false] rfl rfl (any_of HT_.out (zz0)) (fun _ _ _ h=>h) (Or.inl ⟨zz20,?_⟩) ?_ ?_ ?_;rotate_left
     ·intro w'
      go_simp
      with_reducible rfl
     rotate_left
     ·simp only [zzs]
      rfl
     refine zzp 2 36 ?_ #[false,true,true,false,false,false,false,false,false,false,false] rfl rfl (any_of HT_.out (zz0)) (fun _ _ _ h=>h) (Or.inl ⟨zz20,?_⟩) ?_ ?_ ?_;rotate_left
     ·intro w'
      go_simp
      with_reducible rfl
     rotate_left
     ·simp only [zzs]
      rfl
     refine zzp 3 37 ?_ #[false,true,true,true,false,false,false,false,false,false,false] rfl rfl (any_of HT_.out (zz0)) (fun _ _ _ h=>h) (Or.inl ⟨zz20,?_⟩) ?_ ?_ ?_;rotate_left
     ·intro w'
      go_simp
      with_reducible rfl
     rotate_left
     ·simp only [zzs]
      rfl
     refine zzp 4 38 ?_ #[false,true,true,true,true,false,false,false,false,false,false] rfl rfl (any_of HT_.out (zz0)) (fun _ _ _ h=>h) (Or.inl ⟨zz20,?_⟩) ?_ ?_ ?_;rotate_left
     ·intro w'
      go_simp
      with_reducible rfl
     rotate_left
     ·simp only [zzs]
      rfl
     refine zzp 5 39 ?_ #[false,true,true,true,true,true,false,false,false,false,false] rfl rfl (any_of HT_.out (zz0)) (fun _ _ _ h=>h) (Or.inl ⟨zz20,?_⟩) ?_ ?_ ?_;rotate_left
     ·intro w'
      go_simp
      with_reducible rfl
     rotate_left
     ·simp only [zzs]
      rfl
     refine take_ (i:=0) (N:=some 34) (v:=?_) (a':=?_) #[true,true,true,true,true,true,false,false,false,false,false] rfl rfl (take_ofW HT_.out HW_.out (zz0)) (fun _ _ _ h=>h) (Or.inl ⟨zz20,?_⟩) hHeld ?_ ?_;rotate_left
     ·rintro w' ⟨s0,s1,s2,s3,s4,s5⟩
      go_simp
      with_reducible rfl
     rotate_left
     ·simp only [zzs]
      rfl
     refine take_ (i:=6) (N:=some 40) (v:=?_) (a':=?_) #[true,true,true,true,true,true,true,false,false,false,false] rfl rfl (take_ofW HT_.out HW_.out (zz0)) (fun _ _ _ h=>h) (Or.inl ⟨zz20,?_⟩) hHeld ?_ ?_;rotate_left
     ·rintro w' ⟨s0,s1,s2,s3,s4,s5⟩
      go_simp
      with_reducible rfl
     rotate_left
     ·simp only [zzs]
      rfl
     refine take_ (i:=8) (N:=some 42) (v:=?_) (a':=?_) #[true,true,true,true,true,true,true,false,true,false,false] rfl rfl (take_ofW HT_.out HW_.out (zz0)) (fun _ _ _ h=>h) (Or.inl ⟨zz20,?_⟩) hHeld ?_ ?_;rotate_left
     ·rintro w' ⟨s0,s1,s2,s3,s4,s5⟩
      go_simp
      with_reducible rfl
     rotate_left
     ·simp only [zzs]
      rfl
     refine one_ (i:=7) (N:=some 41) #[true,true,true,true,true,true,true,true,true,false,false] rfl rfl (one_of HT_.out (zz0)) (zz28) (fun K hK=>?_);refine goes_ Try.func68 (zz0) rfl #[.slice A1 l1.length c1,.int .i64 a3,.agg #[.slice A620_0 ((rd_T56 l4 x15_1).f0).length c620_0]] (zz20) rfl rfl (zz19) ?_
     with_reducible refine (U38.calls k1 (fun k_=>k_ < w.heap.size) _ _ l1 a3 (fun k_=>k_ < w.heap.size) _ _ ((rd_T56 l4 x15_1).f0) t621 _ ?side1 ?side2 A19.out).mono ?_
     (case side1=>exact Kd.V_mk HC1.out (Kd.F_below (Kd.C_F k56_heap HR1.out) (zz89)))
     (case side2=>exact Kd.V_mk HC620_0.out (Kd.F_below (Kd.C_F (Kd.heap_slice 3 (Kd.heap_int .i64)) HR620_0.out) (zz89)))
     rintro e w24 ⟨v622,rfl,ho0,hb⟩;refine ⟨_,rfl,?_⟩;have HO623:=Aside0.mk (Kd.N_lower (Kd.N_mono (ok':=fun k_=>some k_ ≠ (u14:Value).ownBlock∧k_ ≠ gb611∧k_ ≠ gb612) ho0 (fun k_ hk_=>⟨Or.elim hk_ (fun hs_=>Or.elim hs_ (fun hs_=>fun e_=>Nat.not_le.2 hs_ (Kd.R_base HO_14.out k_ e_.symm)) (fun hs_=>fun e_=>Nat.not_le.2 hs_ (Kd.R_base HO_14.out k_ e_.symm))) (fun hn_=>(Kd.fresh' (Kd.R_lt (zz93)) k_ hn_)),Or.elim hk_ (fun hs_=>Or.elim hs_ (fun hs_=>fun e_=>Nat.not_le.2 hs_ (zz90)) (fun hs_=>fun e_=>Nat.not_le.2 hs_ (zz90))) (fun hn_=>(Kd.freshB (g:=gb611) (o:=.cells #[.slice A0_0 l0_0.length c0_0,.slice A0_1 l0_1.length c0_1] 24 (0,0)) (zz88) k_ hn_)),Or.elim hk_ (fun hs_=>Or.elim hs_ (fun hs_=>fun e_=>Nat.not_le.2 hs_ (zz91)) (fun hs_=>fun e_=>Nat.not_le.2 hs_ (zz91))) (fun hn_=>(Kd.freshB (g:=gb612) (o:=.cells #[.slice A2_0 l2_0.length c2_0,.slice A2_1 l2_1.length c2_1,.slice A2_2 l2_2.length c2_2] 36 (0,0)) (zz92) k_ hn_))⟩)) (below_size (zz89)));replace HO_14:=Aside0.mk (Kd.R_below (zz93) hb);replace BK611:=Aside0.mk (blk_below (zz88) hb);replace BK612:=Aside0.mk (blk_below (zz92) hb);replace HB:=Aside0.mk (below_step (zz89) hb)
     (try clear hb)
     (try clear hb2)
     (try clear hk)
     (try clear hi)
     (try clear ho0)
     obtain ⟨Ao25,co25,eo25⟩:=Kd.N_slice HO623.out
     (first|subst eo25|(injection eo25 with f1_ f2_ f3_;have f4_:=f1_.symm;have f5_:=f3_.symm;clear f1_ f2_ f3_;subst f4_;subst f5_))
     refine hK.out _ _ ⟨(blk_cell BK611.out 0).trans rfl,(blk_cell BK611.out 1).trans rfl,(blk_cell BK612.out 0).trans rfl,(blk_cell BK612.out 1).trans rfl,(blk_cell BK612.out 2).trans rfl,((HB.out.cell (World.block_lt_of_cell? w _ hw620_0)).trans hw620_0)⟩ (fun hHeld=>?_);clear hK K;refine norm_ (a':=?_) ?_ ?_;rotate_left
     ·show Act.put _ (some 41) _ = _
      simp only [zzs]
      rfl
     refine one_ (i:=9) (N:=some 43) #[true,true,true,true,true,true,true,true,true,true,false] rfl rfl (one_of HT_.out (zz0)) (zz28) (fun K hK=>?_);refine goes_ Try.func43 (zz0) rfl #[.agg #[.slice A0_0 l0_0.length c0_0,.slice A0_1 l0_1.length c0_1],.slice Ao25 t621.length co25,.agg #[.slice A2_0 l2_0.length c2_0,.slice A2_1 l2_1.length c2_1,.slice A2_2 l2_2.length c2_2]] (zz20) rfl rfl (zz19) ?_
     with_reducible refine (U35.calls k1 _ _ l0_0 _ _ l0_1 _ _ t621 _ _ l2_0 _ _ l2_1 _ _ l2_2 t624 _ ?side1 ?side2 ?side3 ?side4 ?side5 ?side6 ?side7 ?side8 ?side9 ?side10 ?side11 ?side12 A20.out).mono ?_
     (case side1=>exact zz111)
     (case side2=>exact zz112)
     (case side3=>exact zz113)
     (case side4=>exact zz114)
     (case side5=>exact (have h0_:=HO623;zz130))
     (case side6=>exact (have h0_:=HO623;zz131))
     (case side7=>exact (have h0_:=HR2_0;zz110))
     (case side8=>exact HC2_0.out)
     (case side9=>exact (have h0_:=HR2_1;zz110))
     (case side10=>exact HC2_1.out)
     (case side11=>exact (have h0_:=HR2_2;zz110))
     (case side12=>exact HC2_2.out)
     rintro e w26 ⟨v625,rfl,ho0,hb⟩;refine ⟨_,rfl,?_⟩;replace HO623:=Aside0.mk (Kd.N_elder' (have h0_:=HO623;zz27) (Kd.R_base ho0) hb);have HO626:=Aside0.mk (Kd.R_lower (Kd.R_new' ho0 (Kd.R_lt (zz93))) (below_size (zz89)));replace HO_14:=Aside0.mk (Kd.R_elder' (zz93) (Kd.R_base ho0) hb);replace BK611:=Aside0.mk (blk_below (zz88) hb);replace BK612:=Aside0.mk (blk_below (zz92) hb);replace HB:=Aside0.mk (below_step (zz89) hb)
     (try clear hb)
     (try clear hb2)
     (try clear hk)
     (try clear hi)
     (try clear ho0)
     refine hK.out _ _ ⟨(blk_cell BK611.out 0).trans rfl,(blk_cell BK611.out 1).trans rfl,(blk_cell BK612.out 0).trans rfl,(blk_cell BK612.out 1).trans rfl,(blk_cell BK612.out 2).trans rfl,((HB.out.cell (World.block_lt_of_cell? w _ hw620_0)).trans hw620_0)⟩ (fun hHeld=>?_);clear hK K;refine norm_ (a':=?_) ?_ ?_;rotate_left
     ·show Act.put _ (some 43) _ = _
      simp only [zzs]
      rfl
     refine zzp 10 16 ?_ #[true,true,true,true,true,true,true,true,true,true,true] rfl rfl (any_of HT_.out (zz0)) (fun _ _ _ h=>h) (Or.inl ⟨zz20,?_⟩) ?_ ?_ ?_;rotate_left
     ·intro w'
      go_simp
      with_reducible rfl
     rotate_left
     ·simp only [zzs]
      rfl
     refine done_ (done_of HT_.out (zz0)) ?_;obtain ⟨Ao27,co27,eo27⟩:=Kd.R_slice HO626.out;subst eo27;obtain ⟨Ao28,co28,eo28⟩:=Kd.R_slice HO_14.out;subst eo28
     try go_wp2_with (first|((with_reducible refine gate_callee (f:=75) rfl ?_);refine goesL_ (some 46) rfl rfl Try.func75 (zz0) rfl #[.slice Ao27 t624.length co27,.slice Ao28 x14_1.length co28] rfl (zz19) ?_;(with_reducible refine (U16.calls k1 _ _ t624 _ _ x14_1 t627 _ ?_ ?_ ?_ ?_ A21.out).mono ?_);(exact (have h0_:=HO626;zz121));(exact (have h0_:=HO626;zz122));(exact (have h0_:=HO_14;zz121));(exact (have h0_:=HO_14;zz122));rintro e w29 ⟨rfl,hb⟩;refine ⟨_,rfl,?_⟩;replace HO_14:=Aside0.mk (Kd.R_below (zz93) hb);replace HO623:=Aside0.mk (Kd.N_below (have h0_:=HO623;zz27) hb);replace HO626:=Aside0.mk (Kd.R_below (have h0_:=HO626;zz25) hb);replace BK611:=Aside0.mk (blk_below (zz88) hb);replace BK612:=Aside0.mk (blk_below (zz92) hb);replace HB:=Aside0.mk (below_step (zz89) hb);(try clear hb)))
     go_roundg k1
     case measure=>have:=HK1.out;omega
     case rel=>exact ⟨(x15_1),(t624),(wrap64 (x15_1+1)),(zz2),(zz2),H',⟨zz12⟩,⟨(have h0_:=HO626;zz43)⟩,⟨zz88⟩,⟨zz92⟩,⟨zz89⟩⟩
    ·have c22b0:=decide_eq_false c22;clear c22;have H':=Aside0.mk H;clear H
     try go_wp2
     replace HO_14:=Aside0.mk (Kd.R_drew HO_14.out);replace BK611:=Aside0.mk (blk_drew BK611.out);replace BK612:=Aside0.mk (blk_drew BK612.out);replace HB:=Aside0.mk (below_drew1 HB.out);have p620:0≤(x15_1:Int):=of_decide_eq_true (zz11);have q620:x15_1 < (l4.length:Int):=of_decide_eq_true (zz11);obtain ⟨ad620,A620_0,c620_0,e620,hx620_0,hl620_0,hi620_0⟩:=at_T56 HR4.out x15_1 p620 q620;have hw620_0:=hx620_0;obtain rfl:ad613 = ad620:=(by injection e620);replace hx620_0:=(HB.out.cell (World.block_lt_of_cell? w _ hx620_0)).trans hx620_0;have HR620_0:=Aside0.mk hi620_0;have HC620_0:=Aside0.mk hl620_0;clear hi620_0 hl620_0;replace p620:=eq_true p620;replace q620:=eq_true q620;refine start_ (n:=11) (S:=fun w'=>w'.cell? ⟨gb611,0,none⟩ = some (.slice A0_0 l0_0.length c0_0)∧w'.cell? ⟨gb611,1,none⟩ = some (.slice A0_1 l0_1.length c0_1)∧w'.cell? ⟨gb612,0,none⟩ = some (.slice A2_0 l2_0.length c2_0)∧w'.cell? ⟨gb612,1,none⟩ = some (.slice A2_1 l2_1.length c2_1)∧w'.cell? ⟨gb612,2,none⟩ = some (.slice A2_2 l2_2.length c2_2)∧w'.cell? (ad613.add (x15_1).toNat) = some (.slice A620_0 ((rd_T56 l4 x15_1).f0).length c620_0)) (ds:=[]) #[false,false,false,false,false,false,false,false,false,false,false] (zz0) rfl rfl ⟨(blk_cell BK611.out 0).trans rfl,(blk_cell BK611.out 1).trans rfl,(blk_cell BK612.out 0).trans rfl,(blk_cell BK612.out 1).trans rfl,(blk_cell BK612.out 2).trans rfl,((HB.out.cell (World.block_lt_of_cell? w _ hw620_0)).trans hw620_0)⟩ (fun hHeld=>?_);refine with_tabW U30.tab5 U30.bits5 (fun HT_ HW_=>?_)
     generalize wr.drew = w30 at HO_14 BK611 BK612 HB HR620_0 hx620_0 hHeld ⊢
     refine zzp 1 35 ?_ #[false,true,false,false,false,false,false,false,false,false,false] rfl rfl (any_of HT_.out (zz0)) (fun _ _ _ h=>h) (Or.inl ⟨zz20,?_⟩) ?_ ?_ ?_;rotate_left
     ·intro w'
      go_simp
      with_reducible rfl
     rotate_left
     ·simp only [zzs]
      rfl
     refine zzp 2 36 ?_ #[false,true,true,false,false,false,false,false,false,false,false] rfl rfl (any_of HT_.out (zz0)) (fun _ _ _ h=>h) (Or.inl ⟨zz20,?_⟩) ?_ ?_ ?_;rotate_left
     ·intro w'
      go_simp
      with_reducible rfl
     rotate_left
     ·simp only [zzs]
      rfl
     refine zzp 3 37 ?_ #[false,true,true,true,false,false,false,false,false,false,false] rfl rfl (any_of HT_.out (zz0)) (fun _ _ _ h=>h) (Or.inl ⟨zz20,?_⟩) ?_ ?_ ?_;rotate_left
     ·intro w'
      go_simp
      with_reducible rfl
     rotate_left
     ·simp only [zzs]
      rfl
     refine zzp 4 38 ?_ #[false,true,true,true,true,false,false,false,false,false,false] rfl rfl (any_of HT_.out (zz0)) (fun _ _ _ h=>h) (Or.inl ⟨zz20,?_⟩) ?_ ?_ ?_;rotate_left
     ·intro w'
      go_simp
      with_reducible rfl
     rotate_left
     ·simp only [zzs]
      rfl
     refine zzp 5 39 ?_ #[false,true,true,true,true,true,false,false,false,false,false] rfl rfl (any_of HT_.out (zz0)) (fun _ _ _ h=>h) (Or.inl ⟨zz20,?_⟩) ?_ ?_ ?_;rotate_left
     ·intro w'
      go_simp
      with_reducible rfl
     rotate_left
     ·simp only [zzs]
      rfl
     refine take_ (i:=0) (N:=some 34) (v:=?_) (a':=?_) #[true,true,true,true,true,true,false,false,false,false,false] rfl rfl (take_ofW HT_.out HW_.out (zz0)) (fun _ _ _ h=>h) (Or.inl ⟨zz20,?_⟩) hHeld ?_ ?_;rotate_left
     ·rintro w' ⟨s0,s1,s2,s3,s4,s5⟩
      go_simp
      with_reducible rfl
     rotate_left
     ·simp only [zzs]
      rfl
     refine take_ (i:=6) (N:=some 40) (v:=?_) (a':=?_) #[true,true,true,true,true,true,true,false,false,false,false] rfl rfl (take_ofW HT_.out HW_.out (zz0)) (fun _ _ _ h=>h) (Or.inl ⟨zz20,?_⟩) hHeld ?_ ?_;rotate_left
     ·rintro w' ⟨s0,s1,s2,s3,s4,s5⟩
      go_simp
      with_reducible rfl
     rotate_left
     ·simp only [zzs]
      rfl
     refine take_ (i:=8) (N:=some 42) (v:=?_) (a':=?_) #[true,true,true,true,true,true,true,false,true,false,false] rfl rfl (take_ofW HT_.out HW_.out (zz0)) (fun _ _ _ h=>h) (Or.inl ⟨zz20,?_⟩) hHeld ?_ ?_;rotate_left
     ·rintro w' ⟨s0,s1,s2,s3,s4,s5⟩
      go_simp
      with_reducible rfl
     rotate_left
     ·simp only [zzs]
      rfl
     refine one_ (i:=7) (N:=some 41) #[true,true,true,true,true,true,true,true,true,false,false] rfl rfl (one_of HT_.out (zz0)) (zz28) (fun K hK=>?_);refine goes_ Try.func68 (zz0) rfl #[.slice A1 l1.length c1,.int .i64 a3,.agg #[.slice A620_0 ((rd_T56 l4 x15_1).f0).length c620_0]] (zz20) rfl rfl (zz19) ?_
     with_reducible refine (U38.calls k1 (fun k_=>k_ < w.heap.size) _ _ l1 a3 (fun k_=>k_ < w.heap.size) _ _ ((rd_T56 l4 x15_1).f0) t621 _ ?side1 ?side2 A19.out).mono ?_
     (case side1=>exact Kd.V_mk HC1.out (Kd.F_below (Kd.C_F k56_heap HR1.out) (zz89)))
     (case side2=>exact Kd.V_mk HC620_0.out (Kd.F_below (Kd.C_F (Kd.heap_slice 3 (Kd.heap_int .i64)) HR620_0.out) (zz89)))
     rintro e w31 ⟨v622,rfl,ho0,hb⟩;refine ⟨_,rfl,?_⟩;have HO623:=Aside0.mk (Kd.N_lower (Kd.N_mono (ok':=fun k_=>some k_ ≠ (u14:Value).ownBlock∧k_ ≠ gb611∧k_ ≠ gb612) ho0 (fun k_ hk_=>⟨Or.elim hk_ (fun hs_=>Or.elim hs_ (fun hs_=>fun e_=>Nat.not_le.2 hs_ (Kd.R_base HO_14.out k_ e_.symm)) (fun hs_=>fun e_=>Nat.not_le.2 hs_ (Kd.R_base HO_14.out k_ e_.symm))) (fun hn_=>(Kd.fresh' (Kd.R_lt (zz93)) k_ hn_)),Or.elim hk_ (fun hs_=>Or.elim hs_ (fun hs_=>fun e_=>Nat.not_le.2 hs_ (zz90)) (fun hs_=>fun e_=>Nat.not_le.2 hs_ (zz90))) (fun hn_=>(Kd.freshB (g:=gb611) (o:=.cells #[.slice A0_0 l0_0.length c0_0,.slice A0_1 l0_1.length c0_1] 24 (0,0)) (zz88) k_ hn_)),Or.elim hk_ (fun hs_=>Or.elim hs_ (fun hs_=>fun e_=>Nat.not_le.2 hs_ (zz91)) (fun hs_=>fun e_=>Nat.not_le.2 hs_ (zz91))) (fun hn_=>(Kd.freshB (g:=gb612) (o:=.cells #[.slice A2_0 l2_0.length c2_0,.slice A2_1 l2_1.length c2_1,.slice A2_2 l2_2.length c2_2] 36 (0,0)) (zz92) k_ hn_))⟩)) (below_size (zz89)));replace HO_14:=Aside0.mk (Kd.R_below (zz93) hb);replace BK611:=Aside0.mk (blk_below (zz88) hb);replace BK612:=Aside0.mk (blk_below (zz92) hb);replace HB:=Aside0.mk (below_step (zz89) hb)
     (try clear hb)
     (try clear hb2)
     (try clear hk)
     (try clear hi)
     (try clear ho0)
     obtain ⟨Ao32,co32,eo32⟩:=Kd.N_slice HO623.out
     (first|subst eo32|(injection eo32 with f1_ f2_ f3_;have f4_:=f1_.symm;have f5_:=f3_.symm;clear f1_ f2_ f3_;subst f4_;subst f5_))
     refine hK.out _ _ ⟨(blk_cell BK611.out 0).trans rfl,(blk_cell BK611.out 1).trans rfl,(blk_cell BK612.out 0).trans rfl,(blk_cell BK612.out 1).trans rfl,(blk_cell BK612.out 2).trans rfl,((HB.out.cell (World.block_lt_of_cell? w _ hw620_0)).trans hw620_0)⟩ (fun hHeld=>?_);clear hK K;refine norm_ (a':=?_) ?_ ?_;rotate_left
     ·show Act.put _ (some 41) _ = _
      simp only [zzs]
      rfl
     refine one_ (i:=9) (N:=some 43) #[true,true,true,true,true,true,true,true,true,true,false] rfl rfl (one_of HT_.out (zz0)) (zz28) (fun K hK=>?_);refine goes_ Try.func43 (zz0) rfl #[.agg #[.slice A0_0 l0_0.length c0_0,.slice A0_1 l0_1.length c0_1],.slice Ao32 t621.length co32,.agg #[.slice A2_0 l2_0.length c2_0,.slice A2_1 l2_1.length c2_1,.slice A2_2 l2_2.length c2_2]] (zz20) rfl rfl (zz19) ?_
     with_reducible refine (U35.calls k1 _ _ l0_0 _ _ l0_1 _ _ t621 _ _ l2_0 _ _ l2_1 _ _ l2_2 t624 _ ?side1 ?side2 ?side3 ?side4 ?side5 ?side6 ?side7 ?side8 ?side9 ?side10 ?side11 ?side12 A20.out).mono ?_
     (case side1=>exact zz111)
     (case side2=>exact zz112)
     (case side3=>exact zz113)
     (case side4=>exact zz114)
     (case side5=>exact (have h0_:=HO623;zz130))
     (case side6=>exact (have h0_:=HO623;zz131))
     (case side7=>exact (have h0_:=HR2_0;zz110))
     (case side8=>exact HC2_0.out)
     (case side9=>exact (have h0_:=HR2_1;zz110))
     (case side10=>exact HC2_1.out)
     (case side11=>exact (have h0_:=HR2_2;zz110))
     (case side12=>exact HC2_2.out)
     rintro e w33 ⟨v625,rfl,ho0,hb⟩;refine ⟨_,rfl,?_⟩;replace HO623:=Aside0.mk (Kd.N_elder' (have h0_:=HO623;zz27) (Kd.R_base ho0) hb);have HO626:=Aside0.mk (Kd.R_lower (Kd.R_new' ho0 (Kd.R_lt (zz93))) (below_size (zz89)));replace HO_14:=Aside0.mk (Kd.R_elder' (zz93) (Kd.R_base ho0) hb);replace BK611:=Aside0.mk (blk_below (zz88) hb);replace BK612:=Aside0.mk (blk_below (zz92) hb);replace HB:=Aside0.mk (below_step (zz89) hb)
     (try clear hb)
     (try clear hb2)
     (try clear hk)
     (try clear hi)
     (try clear ho0)
     refine hK.out _ _ ⟨(blk_cell BK611.out 0).trans rfl,(blk_cell BK611.out 1).trans rfl,(blk_cell BK612.out 0).trans rfl,(blk_cell BK612.out 1).trans rfl,(blk_cell BK612.out 2).trans rfl,((HB.out.cell (World.block_lt_of_cell? w _ hw620_0)).trans hw620_0)⟩ (fun hHeld=>?_);clear hK K;refine norm_ (a':=?_) ?_ ?_;rotate_left
     ·show Act.put _ (some 43) _ = _
      simp only [zzs]
      rfl
     refine zzp 10 16 ?_ #[true,true,true,true,true,true,true,true,true,true,true] rfl rfl (any_of HT_.out (zz0)) (fun _ _ _ h=>h) (Or.inl ⟨zz20,?_⟩) ?_ ?_ ?_;rotate_left
     ·intro w'
      go_simp
      with_reducible rfl
     rotate_left
     ·simp only [zzs]
      rfl
     refine done_ (done_of HT_.out (zz0)) ?_;obtain ⟨Ao34,co34,eo34⟩:=Kd.R_slice HO626.out;subst eo34;obtain ⟨Ao35,co35,eo35⟩:=Kd.R_slice HO_14.out;subst eo35
     try go_wp2_with (first|((with_reducible refine gate_callee (f:=75) rfl ?_);refine goesL_ (some 46) rfl rfl Try.func75 (zz0) rfl #[.slice Ao34 t624.length co34,.slice Ao35 x14_1.length co35] rfl (zz19) ?_;(with_reducible refine (U16.calls k1 _ _ t624 _ _ x14_1 t627 _ ?_ ?_ ?_ ?_ A21.out).mono ?_);(exact (have h0_:=HO626;zz121));(exact (have h0_:=HO626;zz122));(exact (have h0_:=HO_14;zz121));(exact (have h0_:=HO_14;zz122));rintro e w36 ⟨rfl,hb⟩;refine ⟨_,rfl,?_⟩;replace HO_14:=Aside0.mk (Kd.R_below (zz93) hb);replace HO623:=Aside0.mk (Kd.N_below (have h0_:=HO623;zz27) hb);replace HO626:=Aside0.mk (Kd.R_below (have h0_:=HO626;zz25) hb);replace BK611:=Aside0.mk (blk_below (zz88) hb);replace BK612:=Aside0.mk (blk_below (zz92) hb);replace HB:=Aside0.mk (below_step (zz89) hb);(try clear hb)))
     go_roundg k1
     case measure=>have:=HK1.out;omega
     case rel=>exact ⟨(x13_1),(x14_1),(wrap64 (x15_1+1)),(zz2),(zz2),H',⟨zz12⟩,⟨(have h0_:=HO_14;zz43)⟩,⟨zz88⟩,⟨zz92⟩,⟨zz89⟩⟩
   ·have c17b0:=decide_eq_false c17;clear c17;obtain rfl:=Option.some.inj H
    go_wp2
    go_ret
    exact ⟨zz6,zz89⟩
end Go.Proofs.Ytmcegphcjphdcaa.QA
