import Derived.Test.YtmcegphcjphdcaaXAsQAx0
namespace Go.Proofs.Ytmcegphcjphdcaa.QA
open Go.RowKit Go.Proofs.YtmcegphcjphdcaaW.PrintWords Go.Proofs.YtmcegphcjphdcaaW.PrintLast Go.Proofs.YtmcegphcjphdcaaW.PrintMore
attribute [local go_sem] max2_int min2_int max_two min_two max_three min_three max_four min_four
set_option linter.unusedVariables false
set_option linter.unusedSimpArgs false
def U13.l0:Nat→List (List (S56))→List Int→List (S56)→Int→Option ((List (S56)) × Bool)
 | 0,_,_,_,_=>none
 | k+1,x0,x1,x6,x7=>if x7 < (x1.length:Int) then (if 0≤x7 then (if (rd x1 x7) < 0 then (some (([]:List (S56)),false)) else (if x7 < (x0.length:Int) then (if (rd x1 x7)≥((rd_L6 x0 x7).length:Int) then (some (([]:List (S56)),false)) else (if 0≤(rd x1 x7) then (if (rd x1 x7) < ((rd_L6 x0 x7).length:Int) then (if x6.length < 5864062014805 then (U13.l0 k x0 x1 (x6++[(⟨(rd_T56 (rd_L6 x0 x7) (rd x1 x7)).f0⟩:S56)]) (wrap64 (x7+1))) else (none)) else (none)) else (none))) else (none))) else (none)) else (some (x6,true))
def U13.f (k:Nat) (l0:List (List (S56))) (l1:List Int):Option ((List (S56)) × Bool):=if (l1.length:Int) = (l0.length:Int) then (U13.l0 k l0 l1 ([]:List (S56)) 0) else (some (([]:List (S56)),false))
theorem zm24_0 {P:Prop} (h:P:=by repeat' first|(with_reducible first|exact ih0 ..|exact LeO.refl _|exact LeO.none _|refine LeO.ite ?_ ?_|refine LeO.bind ?_ (fun _=>?_))|exact ih0 ..|exact LeO.none _|refine LeO.ite ?_ ?_|refine LeO.bind ?_ (fun _=>?_)):P:=h
theorem U13.mono_l:∀ k,(∀ y0 y1 y2 y3,LeO (U13.l0 k y0 y1 y2 y3) (U13.l0 (k+1) y0 y1 y2 y3))
 | 0=>fun _ _ _ _ r h=>by simp [U13.l0] at h
 | k+1=>by
  have ih0:=U13.mono_l k
  ·intro y0 y1 y2 y3;unfold U13.l0
   exact zm24_0
theorem U13.mono:∀ a0 a1 k,LeO (U13.f k a0 a1) (U13.f (k+1) a0 a1):=by
 intro a0 a1 k;have ih0:=U13.mono_l k;unfold U13.f
 exact zm24_0
def U13.T7:Bool × List (List Nat × List Nat):=(true,[([],[]),([],[]),([0,1],[0,1]),([2],[2]),([3],[3]),([4],[4]),([5],[5]),([5],[5]),([6,7,5],[5,6,7]),([8,5],[5,8]),([5],[5]),([5],[5]),([10,11,5],[5,10,11]),([12,5],[5,12]),([13,5],[5,13]),([9,14,5],[5,9,14]),([5,15],[5,15])])
def U13.B7:List Nat:=[0,0,3,7,15,31,63,63,255,511,63,63,3135,7231,15423,32767,65535]
theorem U13.tab7:rtab .any (opsOf Try.f27 7) = U13.T7:=zz0
theorem U13.bits7:waitsOk U13.T7.2 U13.B7 = true:=zz0
def U13.T9:Bool × List (List Nat × List Nat):=(true,[([],[]),([],[]),([],[]),([1,2],[1,2]),([3],[3]),([],[]),([],[]),([5,6],[5,6]),([7],[7]),([4,8],[4,8]),([9],[9]),([10],[10]),([0,11],[0,11]),([12,12,0,1,2,3,4,5,6,7,8,9,10,11,12],[0,12])])
def U13.B9:List Nat:=[0,0,0,6,14,0,0,96,224,510,1022,2046,4095,8191]
theorem U13.tab9:rtab .any (opsOf Try.f27 9) = U13.T9:=zz0
theorem U13.bits9:waitsOk U13.T9.2 U13.B9 = true:=zz0
set_option maxHeartbeats 8000000 in
set_option maxRecDepth 100000 in
theorem U13.calls (k:Nat) (P0_:Nat→Prop) (A0:Option Addr) (c0:Nat) (l0:List (List (S56))) (A1:Option Addr) (c1:Nat) (l1:List Int) (r1:List (S56)) (r2:Bool) (w:World) (hs0:Kd.V (Kd.slice 56 k56) 25 w w.heap.size (fun k_=>P0_ k_) (.slice A0 l0.length c0) l0) (hr1:Kd.C (Kd.int .i64) w A1 l1.length l1) (hc1:l1.length≤c1) (h:U13.f k l0 l1 = some (r1,r2)) :
  Calls Try.prog 27 #[.slice A0 l0.length c0,.slice A1 l1.length c1] w fun e w'=>∃ v0_:Value,e = .returned (.tuple #[v0_,.bool r2])∧Kd.N k56 56 w' w.heap.size (fun k_=>(P0_ k_∨w.heap.size≤k_)) v0_ r1∧Below w.heap.size w w':=by
 have hu56:=Try.underlying56;have HO0:=Aside0.mk (show Kd.V (Kd.slice 56 k56) 25 w w.heap.size (fun k_=>(P0_ k_∨w.heap.size≤k_)) (.slice A0 l0.length c0) l0 from Kd.V_mono hs0 (fun k_ hk=>.inl hk));have HR1:=Aside0.mk hr1;have HC1:=Aside0.mk hc1;clear hr1 hc1;have HB:=Aside0.mk (Below.refl w.heap.size w);have H:(if (l1.length:Int) = (l0.length:Int) then (U13.l0 k l0 l1 ([]:List (S56)) 0) else (some (([]:List (S56)),false))) = some (r1,r2):=h;clear h;replace H:=zzj H;rcases H with ⟨c3,H⟩|⟨c3,H⟩
 ·have c3b0:=beq_iff_eq.mpr c3;have c3b1:=bne_eq_false_iff_eq.mpr c3;have c3b2:(l1.length == l0.length) = true:=(have h0_:=c3;zz8);clear c3;have H':=Aside0.mk H;clear H;go_enter Try.func27,Try.ntmps27
  go_wp2
  go_loopg [6,7] k (fun kq v6 v7 w'=>∃ (x6_1:List (S56)) (x7_1:Int),v7 = .int .i64 x7_1∧Aside0 (U13.l0 kq l0 l1 x6_1 x7_1 = some (r1,r2))∧Aside0 (kq≤k)∧Aside0 (Kd.V (Kd.slice 56 k56) 25 w' w.heap.size (fun k_=>(P0_ k_∨w.heap.size≤k_)∧some k_ ≠ (v6:Value).ownBlock) (.slice A0 l0.length c0) l0)∧Aside0 (Kd.N k56 56 w' w.heap.size (fun k_=>(P0_ k_∨w.heap.size≤k_)) v6 x6_1)∧Aside0 (Below w.heap.size w w'))
  case atStart=>exact ⟨(([]:List (S56))),(0),(zz2),H',⟨Nat.le_refl _⟩,⟨by (with_reducible repeat (first|apply Kd.V_alloc|apply Kd.V_drewN|apply Kd.V_drew));exact Kd.V_mono HO0.out (fun _ hk=>⟨hk,(by simp [Value.ownBlock])⟩)⟩,⟨zz42⟩,⟨zz5⟩⟩
  case round =>
   clear H'
   (try clear c1);clear c3b0 c3b1 c3b2
   obtain ⟨x6_1,x7_1,rfl,HA,HK1,HO_0,HO_6,HB⟩:=hrel
   cases gk with
   | zero=>exact absurd HA.out (by simp [U13.l0])
   | succ k1 =>
    have H:=HA.out;clear HA;simp only [U13.l0] at H;replace H:=zzj H;rcases H with ⟨c4,H⟩|⟨c4,H⟩
    ·have c4b0:=decide_eq_true c4;clear c4;replace H:=zzi H;obtain ⟨c5,H⟩:=H;have c5b0:=decide_eq_true c5;clear c5;replace H:=zzj H;rcases H with ⟨c6,H⟩|⟨c6,H⟩
     ·have c6b0:=decide_eq_true c6;clear c6;simp only [Option.some.injEq,Prod.mk.injEq] at H;obtain ⟨rfl,rfl⟩:=H
      try go_wp2
      replace HO_0:=Aside0.mk (Kd.V_drew HO_0.out);replace HO_6:=Aside0.mk (Kd.N_drew HO_6.out);replace HB:=Aside0.mk (below_drew1 HB.out);have p778:0≤(x7_1:Int):=of_decide_eq_true (zz11);have q778:x7_1 < (l1.length:Int):=of_decide_eq_true (zz11);obtain ⟨ad778,e778,hx778_0⟩:=Kd.at_int HR1.out x7_1 p778 q778;have hw778_0:=hx778_0
      cases e778
      replace hx778_0:=(HB.out.cell (World.block_lt_of_cell? w _ hx778_0)).trans hx778_0;replace p778:=eq_true p778;replace q778:=eq_true q778;refine start_ (n:=17) (S:=fun w'=>w'.cell? (ad778.add (x7_1).toNat) = some (.int .i64 (rd l1 x7_1))) (ds:=[]) #[false,false,false,false,false,false,false,false,false,false,false,false,false,false,false,false,false] (zz0) rfl rfl (((HB.out.cell (World.block_lt_of_cell? w _ hw778_0)).trans hw778_0)) (fun hHeld=>?_);refine with_tabW U13.tab7 U13.bits7 (fun HT_ HW_=>?_)
      generalize wr.drew = w7 at HO_0 HO_6 HB hx778_0 hHeld ⊢
      refine zzp 0 19 ?_ #[true,false,false,false,false,false,false,false,false,false,false,false,false,false,false,false,false] rfl rfl (any_of HT_.out (zz0)) (fun _ _ _ h=>h) (Or.inl ⟨zz19,?_⟩) ?_ ?_ ?_;rotate_left
      ·intro w'
       go_simp
       with_reducible rfl
      rotate_left
      ·simp only [zzs]
       rfl
      refine zzp 1 20 ?_ #[true,true,false,false,false,false,false,false,false,false,false,false,false,false,false,false,false] rfl rfl (any_of HT_.out (zz0)) (fun _ _ _ h=>h) (Or.inl ⟨zz19,?_⟩) ?_ ?_ ?_;rotate_left
      ·intro w'
       go_simp
       with_reducible rfl
      rotate_left
      ·simp only [zzs]
       rfl
      refine zzp 2 21 ?_ #[true,true,true,false,false,false,false,false,false,false,false,false,false,false,false,false,false] rfl rfl (any_of HT_.out (zz0)) (fun _ _ _ h=>h) (Or.inl ⟨zz19,?_⟩) ?_ ?_ ?_;rotate_left
      ·intro w'
       go_simp
       with_reducible rfl
      rotate_left
      ·simp only [zzs]
       rfl
      refine take_ (i:=3) (N:=some 22) (v:=?_) (a':=?_) #[true,true,true,true,false,false,false,false,false,false,false,false,false,false,false,false,false] rfl rfl (take_ofW HT_.out HW_.out (zz0)) (fun _ _ _ h=>h) (Or.inl ⟨zz19,?_⟩) hHeld ?_ ?_;rotate_left
      ·intro w' s0
       go_simp
       with_reducible rfl
      rotate_left
      ·simp only [zzs]
       rfl
      refine zzp 4 23 ?_ #[true,true,true,true,true,false,false,false,false,false,false,false,false,false,false,false,false] rfl rfl (any_of HT_.out (zz0)) (fun _ _ _ h=>h) (Or.inl ⟨zz19,?_⟩) ?_ ?_ ?_;rotate_left
      ·intro w'
       go_simp
       with_reducible rfl
      rotate_left
      ·simp only [zzs]
       rfl
      refine zzp 5 24 ?_ #[true,true,true,true,true,true,false,false,false,false,false,false,false,false,false,false,false] rfl rfl (any_of HT_.out (zz0)) (fun _ _ _ h=>h) (Or.inl ⟨zz19,?_⟩) ?_ ?_ ?_;rotate_left
      ·intro w'
       go_simp
       with_reducible rfl
      rotate_left
      ·simp only [zzs]
       rfl
      refine pure_ (i:=6) (N:=some 25) (v:=undef) (a':=?_) #[true,true,true,true,true,true,true,false,false,false,false,false,false,false,false,false,false] rfl rfl (any_of HT_.out (zz0)) (fun _ _ _ h=>h) (Or.inr ⟨zz19,rfl⟩) ?_ ?_;rotate_left
      ·simp only [zzs]
       rfl
      refine pure_ (i:=7) (N:=some 26) (v:=undef) (a':=?_) #[true,true,true,true,true,true,true,true,false,false,false,false,false,false,false,false,false] rfl rfl (any_of HT_.out (zz0)) (fun _ _ _ h=>h) (Or.inr ⟨zz19,rfl⟩) ?_ ?_;rotate_left
      ·simp only [zzs]
       rfl
      refine pure_ (i:=8) (N:=some 27) (v:=undef) (a':=?_) #[true,true,true,true,true,true,true,true,true,false,false,false,false,false,false,false,false] rfl rfl (any_of HT_.out (zz0)) (fun _ _ _ h=>h) (Or.inr ⟨zz19,rfl⟩) ?_ ?_;rotate_left
      ·simp only [zzs]
       rfl
      refine pure_ (i:=9) (N:=some 28) (v:=undef) (a':=?_) #[true,true,true,true,true,true,true,true,true,true,false,false,false,false,false,false,false] rfl rfl (any_of HT_.out (zz0)) (fun _ _ _ h=>h) (Or.inr ⟨zz19,rfl⟩) ?_ ?_;rotate_left
      ·simp only [zzs]
       rfl
      refine pure_ (i:=10) (N:=some 29) (v:=undef) (a':=?_) #[true,true,true,true,true,true,true,true,true,true,true,false,false,false,false,false,false] rfl rfl (any_of HT_.out (zz0)) (fun _ _ _ h=>h) (Or.inr ⟨zz19,rfl⟩) ?_ ?_;rotate_left
      ·simp only [zzs]
       rfl
      refine pure_ (i:=11) (N:=some 30) (v:=undef) (a':=?_) #[true,true,true,true,true,true,true,true,true,true,true,true,false,false,false,false,false] rfl rfl (any_of HT_.out (zz0)) (fun _ _ _ h=>h) (Or.inr ⟨zz19,rfl⟩) ?_ ?_;rotate_left
      ·simp only [zzs]
       rfl
      refine pure_ (i:=12) (N:=some 31) (v:=undef) (a':=?_) #[true,true,true,true,true,true,true,true,true,true,true,true,true,false,false,false,false] rfl rfl (any_of HT_.out (zz0)) (fun _ _ _ h=>h) (Or.inr ⟨zz19,rfl⟩) ?_ ?_;rotate_left
      ·simp only [zzs]
       rfl
      refine pure_ (i:=13) (N:=some 32) (v:=undef) (a':=?_) #[true,true,true,true,true,true,true,true,true,true,true,true,true,true,false,false,false] rfl rfl (any_of HT_.out (zz0)) (fun _ _ _ h=>h) (Or.inr ⟨zz19,rfl⟩) ?_ ?_;rotate_left
      ·simp only [zzs]
       rfl
      refine pure_ (i:=14) (N:=some 33) (v:=undef) (a':=?_) #[true,true,true,true,true,true,true,true,true,true,true,true,true,true,true,false,false] rfl rfl (any_of HT_.out (zz0)) (fun _ _ _ h=>h) (Or.inr ⟨zz19,rfl⟩) ?_ ?_;rotate_left
      ·simp only [zzs]
       rfl
      refine pure_ (i:=15) (N:=some 34) (v:=undef) (a':=?_) #[true,true,true,true,true,true,true,true,true,true,true,true,true,true,true,true,false] rfl rfl (any_of HT_.out (zz0)) (fun _ _ _ h=>h) (Or.inr ⟨zz19,rfl⟩) ?_ ?_;rotate_left
      ·simp only [zzs]
       rfl
      refine zzp 16 35 ?_ #[true,true,true,true,true,true,true,true,true,true,true,true,true,true,true,true,true] rfl rfl (any_of HT_.out (zz0)) (fun _ _ _ h=>h) (Or.inl ⟨zz19,?_⟩) ?_ ?_ ?_;rotate_left
      ·intro w'
       go_simp
       with_reducible rfl
      rotate_left
      ·simp only [zzs]
       rfl
      refine done_ (done_of HT_.out (zz0)) ?_
      try go_wp2
      go_ret2
      exact ⟨_,zz6,zz42,zz5⟩
     ·have c6b0:=decide_eq_false c6;clear c6;replace H:=zzi H;obtain ⟨c8,H⟩:=H;have c8b0:=decide_eq_true c8;clear c8;replace H:=zzj H;rcases H with ⟨c9,H⟩|⟨c9,H⟩
      ·have c9b0:=decide_eq_true c9;clear c9;simp only [Option.some.injEq,Prod.mk.injEq] at H;obtain ⟨rfl,rfl⟩:=H
       try go_wp2
       replace HO_0:=Aside0.mk (Kd.V_drew HO_0.out);replace HO_6:=Aside0.mk (Kd.N_drew HO_6.out);replace HB:=Aside0.mk (below_drew1 HB.out);have p778:0≤(x7_1:Int):=of_decide_eq_true (zz11);have q778:x7_1 < (l1.length:Int):=of_decide_eq_true (zz11);obtain ⟨ad778,e778,hx778_0⟩:=Kd.at_int HR1.out x7_1 p778 q778;have hw778_0:=hx778_0
       cases e778
       replace hx778_0:=(HB.out.cell (World.block_lt_of_cell? w _ hx778_0)).trans hx778_0;replace p778:=eq_true p778;replace q778:=eq_true q778;have p779:0≤(x7_1:Int):=of_decide_eq_true (zz11);have q779:x7_1 < (l1.length:Int):=of_decide_eq_true (zz11);obtain ⟨ad779,e779,hx779_0⟩:=Kd.at_int HR1.out x7_1 p779 q779;have hw779_0:=hx779_0;obtain rfl:ad778 = ad779:=(by injection e779);replace hx779_0:=(HB.out.cell (World.block_lt_of_cell? w _ hx779_0)).trans hx779_0;replace p779:=eq_true p779;replace q779:=eq_true q779;have p780:0≤(x7_1:Int):=of_decide_eq_true (zz11);have q780:x7_1 < (l0.length:Int):=of_decide_eq_true (zz11);obtain ⟨ad780,A780_0,c780_0,e780,hx780_0,hl780_0,hi780_0⟩:=at_L6 (Kd.V_reads' HO_0.out).2.2 x7_1 p780 q780
       cases e780
       obtain ⟨ce780,hce780,hMe780,hcc780⟩:=Kd.V_get HO_0.out [] x7_1 p780 (by first|exact q780|exact of_decide_eq_true (zz11)|(have e_:=(Kd.V_reads' HO_0.out).1;omega));obtain ⟨ua780_0,uc780_0,rfl,ul780_0,ge780_0⟩:=Kd.FK_slice_open hMe780;have hv780_0:=hcc780 0 _ rfl;rw [Nat.add_zero,show ((Kd.slice 56 k56)).sz = 1 from rfl,Nat.mul_one] at hv780_0;replace hv780_0:=Option.some.inj (hv780_0.symm.trans hx780_0)
       injection hv780_0 with hva_ hvn_ hvc_
       rw [hva_] at ge780_0;rw [hvc_] at ul780_0;have HL780_0:=Aside0.mk (show Kd.V k56 56 _ w.heap.size _ _ (rd_L6 l0 x7_1) from Kd.V_mk ul780_0 ge780_0);clear hva_ hvn_ hvc_ ge780_0 ul780_0;clear hcc780 hce780;have HR780_0:=Aside0.mk hi780_0;have HC780_0:=Aside0.mk hl780_0;clear hi780_0 hl780_0;replace p780:=eq_true p780;replace q780:=eq_true q780;refine start_ (n:=17) (S:=fun w'=>w'.cell? (ad778.add (x7_1).toNat) = some (.int .i64 (rd l1 x7_1))∧w'.cell? (ad778.add (x7_1).toNat) = some (.int .i64 (rd l1 x7_1))∧w'.cell? (ad780.add (x7_1).toNat) = some (.slice A780_0 (rd_L6 l0 x7_1).length c780_0)) (ds:=[]) #[false,false,false,false,false,false,false,false,false,false,false,false,false,false,false,false,false] (zz0) rfl rfl ⟨((HB.out.cell (World.block_lt_of_cell? w _ hw778_0)).trans hw778_0),((HB.out.cell (World.block_lt_of_cell? w _ hw779_0)).trans hw779_0),hx780_0⟩ (fun hHeld=>?_);refine with_tabW U13.tab7 U13.bits7 (fun HT_ HW_=>?_)
       generalize wr.drew = w10 at HO_0 HO_6 HB HL780_0 HR780_0 hx778_0 hx779_0 hx780_0 hHeld ⊢
       refine zzp 0 19 ?_ #[true,false,false,false,false,false,false,false,false,false,false,false,false,false,false,false,false] rfl rfl (any_of HT_.out (zz0)) (fun _ _ _ h=>h) (Or.inl ⟨zz19,?_⟩) ?_ ?_ ?_;rotate_left
       ·intro w'
        go_simp
        with_reducible rfl
       rotate_left
       ·simp only [zzs]
        rfl
       refine zzp 1 20 ?_ #[true,true,false,false,false,false,false,false,false,false,false,false,false,false,false,false,false] rfl rfl (any_of HT_.out (zz0)) (fun _ _ _ h=>h) (Or.inl ⟨zz19,?_⟩) ?_ ?_ ?_;rotate_left
       ·intro w'
        go_simp
        with_reducible rfl
       rotate_left
       ·simp only [zzs]
        rfl
       refine zzp 2 21 ?_ #[true,true,true,false,false,false,false,false,false,false,false,false,false,false,false,false,false] rfl rfl (any_of HT_.out (zz0)) (fun _ _ _ h=>h) (Or.inl ⟨zz19,?_⟩) ?_ ?_ ?_;rotate_left
       ·intro w'
        go_simp
        with_reducible rfl
       rotate_left
       ·simp only [zzs]
        rfl
       refine take_ (i:=3) (N:=some 22) (v:=?_) (a':=?_) #[true,true,true,true,false,false,false,false,false,false,false,false,false,false,false,false,false] rfl rfl (take_ofW HT_.out HW_.out (zz0)) (fun _ _ _ h=>h) (Or.inl ⟨zz19,?_⟩) hHeld ?_ ?_;rotate_left
       ·rintro w' ⟨s0,s1,s2⟩
        go_simp
        with_reducible rfl
       rotate_left
       ·simp only [zzs]
        rfl
       refine zzp 4 23 ?_ #[true,true,true,true,true,false,false,false,false,false,false,false,false,false,false,false,false] rfl rfl (any_of HT_.out (zz0)) (fun _ _ _ h=>h) (Or.inl ⟨zz19,?_⟩) ?_ ?_ ?_;rotate_left
       ·intro w'
        go_simp
        with_reducible rfl
       rotate_left
       ·simp only [zzs]
        rfl
       refine zzp 5 24 ?_ #[true,true,true,true,true,true,false,false,false,false,false,false,false,false,false,false,false] rfl rfl (any_of HT_.out (zz0)) (fun _ _ _ h=>h) (Or.inl ⟨zz19,?_⟩) ?_ ?_ ?_;rotate_left
       ·intro w'
        go_simp
        with_reducible rfl
       rotate_left
       ·simp only [zzs]
        rfl
       refine zzp 6 25 ?_ #[true,true,true,true,true,true,true,false,false,false,false,false,false,false,false,false,false] rfl rfl (any_of HT_.out (zz0)) (fun _ _ _ h=>h) (Or.inl ⟨zz19,?_⟩) ?_ ?_ ?_;rotate_left
       ·intro w'
        go_simp
        with_reducible rfl
       rotate_left
       ·simp only [zzs]
        rfl
       refine zzp 7 26 ?_ #[true,true,true,true,true,true,true,true,false,false,false,false,false,false,false,false,false] rfl rfl (any_of HT_.out (zz0)) (fun _ _ _ h=>h) (Or.inl ⟨zz19,?_⟩) ?_ ?_ ?_;rotate_left
       ·intro w'
        go_simp
        with_reducible rfl
       rotate_left
       ·simp only [zzs]
        rfl
       refine zzp 8 27 ?_ #[true,true,true,true,true,true,true,true,true,false,false,false,false,false,false,false,false] rfl rfl (any_of HT_.out (zz0)) (fun _ _ _ h=>h) (Or.inl ⟨zz19,?_⟩) ?_ ?_ ?_;rotate_left
       ·intro w'
        go_simp
        with_reducible rfl
       rotate_left
       ·simp only [zzs]
        rfl
       refine zzp 10 29 ?_ #[true,true,true,true,true,true,true,true,true,false,true,false,false,false,false,false,false] rfl rfl (any_of HT_.out (zz0)) (fun _ _ _ h=>h) (Or.inl ⟨zz19,?_⟩) ?_ ?_ ?_;rotate_left
       ·intro w'
        go_simp
        with_reducible rfl
       rotate_left
       ·simp only [zzs]
        rfl
       refine zzp 11 30 ?_ #[true,true,true,true,true,true,true,true,true,false,true,true,false,false,false,false,false] rfl rfl (any_of HT_.out (zz0)) (fun _ _ _ h=>h) (Or.inl ⟨zz19,?_⟩) ?_ ?_ ?_;rotate_left
       ·intro w'
        go_simp
        with_reducible rfl
       rotate_left
       ·simp only [zzs]
        rfl
       refine zzp 12 31 ?_ #[true,true,true,true,true,true,true,true,true,false,true,true,true,false,false,false,false] rfl rfl (any_of HT_.out (zz0)) (fun _ _ _ h=>h) (Or.inl ⟨zz19,?_⟩) ?_ ?_ ?_;rotate_left
       ·intro w'
        go_simp
        with_reducible rfl
       rotate_left
       ·simp only [zzs]
        rfl
       refine take_ (i:=9) (N:=some 28) (v:=?_) (a':=?_) #[true,true,true,true,true,true,true,true,true,true,true,true,true,false,false,false,false] rfl rfl (take_ofW HT_.out HW_.out (zz0)) (fun _ _ _ h=>h) (Or.inl ⟨zz19,?_⟩) hHeld ?_ ?_;rotate_left
       ·rintro w' ⟨s0,s1,s2⟩
        go_simp
        with_reducible rfl
       rotate_left
       ·simp only [zzs]
        rfl
       refine take_ (i:=13) (N:=some 32) (v:=?_) (a':=?_) #[true,true,true,true,true,true,true,true,true,true,true,true,true,true,false,false,false] rfl rfl (take_ofW HT_.out HW_.out (zz0)) (fun _ _ _ h=>h) (Or.inl ⟨zz19,?_⟩) hHeld ?_ ?_;rotate_left
       ·rintro w' ⟨s0,s1,s2⟩
        go_simp
        with_reducible rfl
       rotate_left
       ·simp only [zzs]
        rfl
       refine zzp 14 33 ?_ #[true,true,true,true,true,true,true,true,true,true,true,true,true,true,true,false,false] rfl rfl (any_of HT_.out (zz0)) (fun _ _ _ h=>h) (Or.inl ⟨zz19,?_⟩) ?_ ?_ ?_;rotate_left
       ·intro w'
        go_simp
        with_reducible rfl
       rotate_left
       ·simp only [zzs]
        rfl
       refine zzp 15 34 ?_ #[true,true,true,true,true,true,true,true,true,true,true,true,true,true,true,true,false] rfl rfl (any_of HT_.out (zz0)) (fun _ _ _ h=>h) (Or.inl ⟨zz19,?_⟩) ?_ ?_ ?_;rotate_left
       ·intro w'
        go_simp
        with_reducible rfl
       rotate_left
       ·simp only [zzs]
        rfl
       refine zzp 16 35 ?_ #[true,true,true,true,true,true,true,true,true,true,true,true,true,true,true,true,true] rfl rfl (any_of HT_.out (zz0)) (fun _ _ _ h=>h) (Or.inl ⟨zz19,?_⟩) ?_ ?_ ?_;rotate_left
       ·intro w'
        go_simp
        with_reducible rfl
       rotate_left
       ·simp only [zzs]
        rfl
       refine done_ (done_of HT_.out (zz0)) ?_
       try go_wp2
       go_ret2
       exact ⟨_,zz6,zz42,zz5⟩
      ·have c9b0:=decide_eq_false c9;clear c9;replace H:=zzi H;obtain ⟨c11,H⟩:=H;have c11b0:=decide_eq_true c11;clear c11;replace H:=zzi H;obtain ⟨c12,H⟩:=H;have c12b0:=decide_eq_true c12;clear c12;replace H:=zzi H;obtain ⟨c13,H⟩:=H;have LMc13:=Aside0.mk c13;clear c13;obtain ⟨y784,hy784⟩:∃ y_:List (S56),y_ = (x6_1++[(⟨(rd_T56 (rd_L6 l0 x7_1) (rd l1 x7_1)).f0⟩:S56)]):=⟨_,rfl⟩;replace H:(U13.l0 k1 l0 l1 y784 (wrap64 (x7_1+1))) = some (r1,r2):=(have h0_:=hy784;zz23);have Ny784:=Aside0.mk hy784;clear hy784;have H':=Aside0.mk H;clear H
       try go_wp2
       replace HO_0:=Aside0.mk (Kd.V_drew HO_0.out);replace HO_6:=Aside0.mk (Kd.N_drew HO_6.out);replace HB:=Aside0.mk (below_drew1 HB.out);have p778:0≤(x7_1:Int):=of_decide_eq_true (zz11);have q778:x7_1 < (l1.length:Int):=of_decide_eq_true (zz11);obtain ⟨ad778,e778,hx778_0⟩:=Kd.at_int HR1.out x7_1 p778 q778;have hw778_0:=hx778_0
       cases e778
       replace hx778_0:=(HB.out.cell (World.block_lt_of_cell? w _ hx778_0)).trans hx778_0;replace p778:=eq_true p778;replace q778:=eq_true q778;have p779:0≤(x7_1:Int):=of_decide_eq_true (zz11);have q779:x7_1 < (l1.length:Int):=of_decide_eq_true (zz11);obtain ⟨ad779,e779,hx779_0⟩:=Kd.at_int HR1.out x7_1 p779 q779;have hw779_0:=hx779_0;obtain rfl:ad778 = ad779:=(by injection e779);replace hx779_0:=(HB.out.cell (World.block_lt_of_cell? w _ hx779_0)).trans hx779_0;replace p779:=eq_true p779;replace q779:=eq_true q779;have p780:0≤(x7_1:Int):=of_decide_eq_true (zz11);have q780:x7_1 < (l0.length:Int):=of_decide_eq_true (zz11);obtain ⟨ad780,A780_0,c780_0,e780,hx780_0,hl780_0,hi780_0⟩:=at_L6 (Kd.V_reads' HO_0.out).2.2 x7_1 p780 q780
       cases e780
       obtain ⟨ce780,hce780,hMe780,hcc780⟩:=Kd.V_get HO_0.out [] x7_1 p780 (by first|exact q780|exact of_decide_eq_true (zz11)|(have e_:=(Kd.V_reads' HO_0.out).1;omega));obtain ⟨ua780_0,uc780_0,rfl,ul780_0,ge780_0⟩:=Kd.FK_slice_open hMe780;have hv780_0:=hcc780 0 _ rfl;rw [Nat.add_zero,show ((Kd.slice 56 k56)).sz = 1 from rfl,Nat.mul_one] at hv780_0;replace hv780_0:=Option.some.inj (hv780_0.symm.trans hx780_0)
       injection hv780_0 with hva_ hvn_ hvc_
       rw [hva_] at ge780_0;rw [hvc_] at ul780_0;have HL780_0:=Aside0.mk (show Kd.V k56 56 _ w.heap.size _ _ (rd_L6 l0 x7_1) from Kd.V_mk ul780_0 ge780_0);clear hva_ hvn_ hvc_ ge780_0 ul780_0;clear hcc780 hce780;have HR780_0:=Aside0.mk hi780_0;have HC780_0:=Aside0.mk hl780_0;clear hi780_0 hl780_0;replace p780:=eq_true p780;replace q780:=eq_true q780;refine start_ (n:=17) (S:=fun w'=>w'.cell? (ad778.add (x7_1).toNat) = some (.int .i64 (rd l1 x7_1))∧w'.cell? (ad778.add (x7_1).toNat) = some (.int .i64 (rd l1 x7_1))∧w'.cell? (ad780.add (x7_1).toNat) = some (.slice A780_0 (rd_L6 l0 x7_1).length c780_0)) (ds:=[]) #[false,false,false,false,false,false,false,false,false,false,false,false,false,false,false,false,false] (zz0) rfl rfl ⟨((HB.out.cell (World.block_lt_of_cell? w _ hw778_0)).trans hw778_0),((HB.out.cell (World.block_lt_of_cell? w _ hw779_0)).trans hw779_0),hx780_0⟩ (fun hHeld=>?_);refine with_tabW U13.tab7 U13.bits7 (fun HT_ HW_=>?_)
       generalize wr.drew = w14 at HO_0 HO_6 HB HL780_0 HR780_0 hx778_0 hx779_0 hx780_0 hHeld ⊢
       refine zzp 0 19 ?_ #[true,false,false,false,false,false,false,false,false,false,false,false,false,false,false,false,false] rfl rfl (any_of HT_.out (zz0)) (fun _ _ _ h=>h) (Or.inl ⟨zz19,?_⟩) ?_ ?_ ?_;rotate_left
       ·intro w'
        go_simp
        with_reducible rfl
       rotate_left
       ·simp only [zzs]
        rfl
       refine zzp 1 20 ?_ #[true,true,false,false,false,false,false,false,false,false,false,false,false,false,false,false,false] rfl rfl (any_of HT_.out (zz0)) (fun _ _ _ h=>h) (Or.inl ⟨zz19,?_⟩) ?_ ?_ ?_;rotate_left
       ·intro w'
        go_simp
        with_reducible rfl
       rotate_left
       ·simp only [zzs]
        rfl
       refine zzp 2 21 ?_ #[true,true,true,false,false,false,false,false,false,false,false,false,false,false,false,false,false] rfl rfl (any_of HT_.out (zz0)) (fun _ _ _ h=>h) (Or.inl ⟨zz19,?_⟩) ?_ ?_ ?_;rotate_left
       ·intro w'
        go_simp
        with_reducible rfl
       rotate_left
       ·simp only [zzs]
        rfl
       refine take_ (i:=3) (N:=some 22) (v:=?_) (a':=?_) #[true,true,true,true,false,false,false,false,false,false,false,false,false,false,false,false,false] rfl rfl (take_ofW HT_.out HW_.out (zz0)) (fun _ _ _ h=>h) (Or.inl ⟨zz19,?_⟩) hHeld ?_ ?_;rotate_left
       ·rintro w' ⟨s0,s1,s2⟩
        go_simp
        with_reducible rfl
       rotate_left
       ·simp only [zzs]
        rfl
       refine zzp 4 23 ?_ #[true,true,true,true,true,false,false,false,false,false,false,false,false,false,false,false,false] rfl rfl (any_of HT_.out (zz0)) (fun _ _ _ h=>h) (Or.inl ⟨zz19,?_⟩) ?_ ?_ ?_;rotate_left
       ·intro w'
        go_simp
        with_reducible rfl
       rotate_left
       ·simp only [zzs]
        rfl
       refine zzp 5 24 ?_ #[true,true,true,true,true,true,false,false,false,false,false,false,false,false,false,false,false] rfl rfl (any_of HT_.out (zz0)) (fun _ _ _ h=>h) (Or.inl ⟨zz19,?_⟩) ?_ ?_ ?_;rotate_left
       ·intro w'
        go_simp
        with_reducible rfl
       rotate_left
       ·simp only [zzs]
        rfl
       refine zzp 6 25 ?_ #[true,true,true,true,true,true,true,false,false,false,false,false,false,false,false,false,false] rfl rfl (any_of HT_.out (zz0)) (fun _ _ _ h=>h) (Or.inl ⟨zz19,?_⟩) ?_ ?_ ?_;rotate_left
       ·intro w'
        go_simp
        with_reducible rfl
       rotate_left
       ·simp only [zzs]
        rfl
       refine zzp 7 26 ?_ #[true,true,true,true,true,true,true,true,false,false,false,false,false,false,false,false,false] rfl rfl (any_of HT_.out (zz0)) (fun _ _ _ h=>h) (Or.inl ⟨zz19,?_⟩) ?_ ?_ ?_;rotate_left
       ·intro w'
        go_simp
        with_reducible rfl
       rotate_left
       ·simp only [zzs]
        rfl
       refine zzp 8 27 ?_ #[true,true,true,true,true,true,true,true,true,false,false,false,false,false,false,false,false] rfl rfl (any_of HT_.out (zz0)) (fun _ _ _ h=>h) (Or.inl ⟨zz19,?_⟩) ?_ ?_ ?_;rotate_left
       ·intro w'
        go_simp
        with_reducible rfl
       rotate_left
       ·simp only [zzs]
        rfl
       refine zzp 10 29 ?_ #[true,true,true,true,true,true,true,true,true,false,true,false,false,false,false,false,false] rfl rfl (any_of HT_.out (zz0)) (fun _ _ _ h=>h) (Or.inl ⟨zz19,?_⟩) ?_ ?_ ?_;rotate_left
       ·intro w'
        go_simp
        with_reducible rfl
       rotate_left
       ·simp only [zzs]
        rfl
       refine zzp 11 30 ?_ #[true,true,true,true,true,true,true,true,true,false,true,true,false,false,false,false,false] rfl rfl (any_of HT_.out (zz0)) (fun _ _ _ h=>h) (Or.inl ⟨zz19,?_⟩) ?_ ?_ ?_;rotate_left
       ·intro w'
        go_simp
        with_reducible rfl
       rotate_left
       ·simp only [zzs]
        rfl
       refine zzp 12 31 ?_ #[true,true,true,true,true,true,true,true,true,false,true,true,true,false,false,false,false] rfl rfl (any_of HT_.out (zz0)) (fun _ _ _ h=>h) (Or.inl ⟨zz19,?_⟩) ?_ ?_ ?_;rotate_left
       ·intro w'
        go_simp
        with_reducible rfl
       rotate_left
       ·simp only [zzs]
        rfl
       refine take_ (i:=9) (N:=some 28) (v:=?_) (a':=?_) #[true,true,true,true,true,true,true,true,true,true,true,true,true,false,false,false,false] rfl rfl (take_ofW HT_.out HW_.out (zz0)) (fun _ _ _ h=>h) (Or.inl ⟨zz19,?_⟩) hHeld ?_ ?_;rotate_left
       ·rintro w' ⟨s0,s1,s2⟩
        go_simp
        with_reducible rfl
       rotate_left
       ·simp only [zzs]
        rfl
       refine take_ (i:=13) (N:=some 32) (v:=?_) (a':=?_) #[true,true,true,true,true,true,true,true,true,true,true,true,true,true,false,false,false] rfl rfl (take_ofW HT_.out HW_.out (zz0)) (fun _ _ _ h=>h) (Or.inl ⟨zz19,?_⟩) hHeld ?_ ?_;rotate_left
       ·rintro w' ⟨s0,s1,s2⟩
        go_simp
        with_reducible rfl
       rotate_left
       ·simp only [zzs]
        rfl
       refine zzp 14 33 ?_ #[true,true,true,true,true,true,true,true,true,true,true,true,true,true,true,false,false] rfl rfl (any_of HT_.out (zz0)) (fun _ _ _ h=>h) (Or.inl ⟨zz19,?_⟩) ?_ ?_ ?_;rotate_left
       ·intro w'
        go_simp
        with_reducible rfl
       rotate_left
       ·simp only [zzs]
        rfl
       refine zzp 15 34 ?_ #[true,true,true,true,true,true,true,true,true,true,true,true,true,true,true,true,false] rfl rfl (any_of HT_.out (zz0)) (fun _ _ _ h=>h) (Or.inl ⟨zz19,?_⟩) ?_ ?_ ?_;rotate_left
       ·intro w'
        go_simp
        with_reducible rfl
       rotate_left
       ·simp only [zzs]
        rfl
       refine zzp 16 35 ?_ #[true,true,true,true,true,true,true,true,true,true,true,true,true,true,true,true,true] rfl rfl (any_of HT_.out (zz0)) (fun _ _ _ h=>h) (Or.inl ⟨zz19,?_⟩) ?_ ?_ ?_;rotate_left
       ·intro w'
        go_simp
        with_reducible rfl
       rotate_left
       ·simp only [zzs]
        rfl
       refine done_ (done_of HT_.out (zz0)) ?_
       try go_wp2
       replace HO_0:=Aside0.mk (Kd.V_drew HO_0.out);replace HO_6:=Aside0.mk (Kd.N_drew HO_6.out);replace HL780_0:=Aside0.mk (Kd.V_drew HL780_0.out);replace HR780_0:=Aside0.mk (Kd.C_drew HR780_0.out);replace HB:=Aside0.mk (below_drew1 HB.out);have p781:0≤(x7_1:Int):=of_decide_eq_true (zz11);have q781:x7_1 < (l0.length:Int):=of_decide_eq_true (zz11);obtain ⟨ad781,A781_0,c781_0,e781,hx781_0,hl781_0,hi781_0⟩:=at_L6 (Kd.V_reads' HO_0.out).2.2 x7_1 p781 q781;obtain rfl:ad780 = ad781:=(by injection e781);obtain ⟨ce781,hce781,hMe781,hcc781⟩:=Kd.V_get HO_0.out [] x7_1 p781 (by first|exact q781|exact of_decide_eq_true (zz11)|(have e_:=(Kd.V_reads' HO_0.out).1;omega));obtain ⟨ua781_0,uc781_0,rfl,ul781_0,ge781_0⟩:=Kd.FK_slice_open hMe781;have hv781_0:=hcc781 0 _ rfl;rw [Nat.add_zero,show ((Kd.slice 56 k56)).sz = 1 from rfl,Nat.mul_one] at hv781_0;replace hv781_0:=Option.some.inj (hv781_0.symm.trans hx781_0)
       injection hv781_0 with hva_ hvn_ hvc_
       rw [hva_] at ge781_0;rw [hvc_] at ul781_0;have HL781_0:=Aside0.mk (show Kd.V k56 56 _ w.heap.size _ _ (rd_L6 l0 x7_1) from Kd.V_mk ul781_0 ge781_0);clear hva_ hvn_ hvc_ ge781_0 ul781_0;clear hcc781 hce781;have HR781_0:=Aside0.mk hi781_0;have HC781_0:=Aside0.mk hl781_0;clear hi781_0 hl781_0;replace p781:=eq_true p781;replace q781:=eq_true q781
       (try (have ea_:=Option.some.inj (hx781_0.symm.trans (by first|exact HS0_|exact HS1_|exact HS2_|exact HS3_|exact HS4_|exact HS5_));injection ea_ with ea_ en_ ec_;subst ea_;subst ec_;clear en_))
       have p782:0≤(x7_1:Int):=of_decide_eq_true (zz11);have q782:x7_1 < (l1.length:Int):=of_decide_eq_true (zz11);obtain ⟨ad782,e782,hx782_0⟩:=Kd.at_int HR1.out x7_1 p782 q782;have hw782_0:=hx782_0;obtain rfl:ad778 = ad782:=(by injection e782);replace hx782_0:=(HB.out.cell (World.block_lt_of_cell? w _ hx782_0)).trans hx782_0;replace p782:=eq_true p782;replace q782:=eq_true q782;have p783:0≤((rd l1 x7_1):Int):=of_decide_eq_true (zz11);have q783:(rd l1 x7_1) < ((rd_L6 l0 x7_1).length:Int):=of_decide_eq_true (zz11);obtain ⟨ad783,A783_0,c783_0,e783,hx783_0,hl783_0,hi783_0⟩:=at_T56 (have h0_:=HR781_0;zz34) (rd l1 x7_1) p783 q783
       cases e783
       obtain ⟨ce783,hce783,hMe783,hcc783⟩:=Kd.V_get HL781_0.out z56 (rd l1 x7_1) p783 (by first|exact q783|exact of_decide_eq_true (zz11)|(have e_:=(Kd.V_reads' HL781_0.out).1;omega));obtain ⟨ua783_0,uc783_0,rfl,ul783_0,ge783_0⟩:=k56_openF hMe783;have hv783_0:=hcc783 0 _ rfl;rw [Nat.add_zero,show (k56).sz = 1 from rfl,Nat.mul_one] at hv783_0;replace hv783_0:=Option.some.inj (hv783_0.symm.trans hx783_0)
       injection hv783_0 with hva_ hvn_ hvc_
       rw [hva_] at ge783_0;rw [hvc_] at ul783_0;have HL783_0:=Aside0.mk (show Kd.V (Kd.slice 3 (Kd.int .i64)) 22 _ w.heap.size _ _ ((rd_T56 (rd_L6 l0 x7_1) (rd l1 x7_1)).f0) from Kd.V_mk ul783_0 ge783_0);clear hva_ hvn_ hvc_ ge783_0 ul783_0;clear hcc783 hce783;have HR783_0:=Aside0.mk hi783_0;have HC783_0:=Aside0.mk hl783_0;clear hi783_0 hl783_0;replace p783:=eq_true p783;replace q783:=eq_true q783;refine start_ (n:=14) (S:=fun w'=>w'.cell? (ad780.add (x7_1).toNat) = some (.slice (some ad783) (rd_L6 l0 x7_1).length c781_0)∧w'.cell? (ad778.add (x7_1).toNat) = some (.int .i64 (rd l1 x7_1))∧w'.cell? (ad783.add ((rd l1 x7_1)).toNat) = some (.slice A783_0 ((rd_T56 (rd_L6 l0 x7_1) (rd l1 x7_1)).f0).length c783_0)) (ds:=[11,12]) #[false,false,false,false,false,false,false,false,false,false,false,false,false,false] (zz0) rfl rfl ⟨hx781_0,((HB.out.cell (World.block_lt_of_cell? w _ hw782_0)).trans hw782_0),hx783_0⟩ (fun hHeld=>?_);refine with_tabW U13.tab9 U13.bits9 (fun HT_ HW_=>?_)
       generalize w14.drew = w15 at HO_0 HO_6 HL780_0 HR780_0 HB HL781_0 HL783_0 HR781_0 HR783_0 hx781_0 hx782_0 hx783_0 hHeld ⊢
       refine zzp 0 36 ?_ #[true,false,false,false,false,false,false,false,false,false,false,false,false,false] rfl rfl (any_of HT_.out (zz0)) (fun _ _ _ h=>h) (Or.inl ⟨zz19,?_⟩) ?_ ?_ ?_;rotate_left
       ·intro w'
        go_simp
        with_reducible rfl
       rotate_left
       ·simp only [zzs]
        rfl
       refine zzp 1 37 ?_ #[true,true,false,false,false,false,false,false,false,false,false,false,false,false] rfl rfl (any_of HT_.out (zz0)) (fun _ _ _ h=>h) (Or.inl ⟨zz19,?_⟩) ?_ ?_ ?_;rotate_left
       ·intro w'
        go_simp
        with_reducible rfl
       rotate_left
       ·simp only [zzs]
        rfl
       refine zzp 2 38 ?_ #[true,true,true,false,false,false,false,false,false,false,false,false,false,false] rfl rfl (any_of HT_.out (zz0)) (fun _ _ _ h=>h) (Or.inl ⟨zz19,?_⟩) ?_ ?_ ?_;rotate_left
       ·intro w'
        go_simp
        with_reducible rfl
       rotate_left
       ·simp only [zzs]
        rfl
       refine zzp 3 39 ?_ #[true,true,true,true,false,false,false,false,false,false,false,false,false,false] rfl rfl (any_of HT_.out (zz0)) (fun _ _ _ h=>h) (Or.inl ⟨zz19,?_⟩) ?_ ?_ ?_;rotate_left
       ·intro w'
        go_simp
        with_reducible rfl
       rotate_left
       ·simp only [zzs]
        rfl
       refine zzp 5 41 ?_ #[true,true,true,true,false,true,false,false,false,false,false,false,false,false] rfl rfl (any_of HT_.out (zz0)) (fun _ _ _ h=>h) (Or.inl ⟨zz19,?_⟩) ?_ ?_ ?_;rotate_left
       ·intro w'
        go_simp
        with_reducible rfl
       rotate_left
       ·simp only [zzs]
        rfl
       refine zzp 6 42 ?_ #[true,true,true,true,false,true,true,false,false,false,false,false,false,false] rfl rfl (any_of HT_.out (zz0)) (fun _ _ _ h=>h) (Or.inl ⟨zz19,?_⟩) ?_ ?_ ?_;rotate_left
       ·intro w'
        go_simp
        with_reducible rfl
       rotate_left
       ·simp only [zzs]
        rfl
       refine zzp 7 43 ?_ #[true,true,true,true,false,true,true,true,false,false,false,false,false,false] rfl rfl (any_of HT_.out (zz0)) (fun _ _ _ h=>h) (Or.inl ⟨zz19,?_⟩) ?_ ?_ ?_;rotate_left
       ·intro w'
        go_simp
        with_reducible rfl
       rotate_left
       ·simp only [zzs]
        rfl
       refine take_ (i:=4) (N:=some 40) (v:=?_) (a':=?_) #[true,true,true,true,true,true,true,true,false,false,false,false,false,false] rfl rfl (take_ofW HT_.out HW_.out (zz0)) (fun _ _ _ h=>h) (Or.inl ⟨zz19,?_⟩) hHeld ?_ ?_;rotate_left
       ·rintro w' ⟨s0,s1,s2⟩
        go_simp
        with_reducible rfl
       rotate_left
       ·simp only [zzs]
        rfl
       refine take_ (i:=8) (N:=some 44) (v:=?_) (a':=?_) #[true,true,true,true,true,true,true,true,true,false,false,false,false,false] rfl rfl (take_ofW HT_.out HW_.out (zz0)) (fun _ _ _ h=>h) (Or.inl ⟨zz19,?_⟩) hHeld ?_ ?_;rotate_left
       ·rintro w' ⟨s0,s1,s2⟩
        go_simp
        with_reducible rfl
       rotate_left
       ·simp only [zzs]
        rfl
       refine zzp 9 45 ?_ #[true,true,true,true,true,true,true,true,true,true,false,false,false,false] rfl rfl (any_of HT_.out (zz0)) (fun _ _ _ h=>h) (Or.inl ⟨zz19,?_⟩) ?_ ?_ ?_;rotate_left
       ·intro w'
        go_simp
        with_reducible rfl
       rotate_left
       ·simp only [zzs]
        rfl
       refine take_ (i:=10) (N:=some 46) (v:=?_) (a':=?_) #[true,true,true,true,true,true,true,true,true,true,true,false,false,false] rfl rfl (take_ofW HT_.out HW_.out (zz0)) (fun _ _ _ h=>h) (Or.inl ⟨zz19,?_⟩) hHeld ?_ ?_;rotate_left
       ·rintro w' ⟨s0,s1,s2⟩
        go_simp
        with_reducible rfl
       rotate_left
       ·simp only [zzs]
        rfl
       refine last_ (i:=11) (N:=some 47) #[true,true,true,true,true,true,true,true,true,true,true,true,false,false] rfl rfl (one_of HT_.out (zz0)) (zz27) (fun K hK=>?_);refine value_ (w1:=?_) (v:=?_) (zz19) rfl ?_ ?_;rotate_left 2
       ·go_simp
        constructor
        ·rfl
        ·rfl
       refine hK.out _ _ ?_;clear hK K;refine norm_ (a':=?_) ?_ ?_;rotate_left
       ·show Act.put _ (some 47) _ = _
        simp only [zzs]
        rfl
       refine last_ (i:=12) (N:=some 48) #[true,true,true,true,true,true,true,true,true,true,true,true,true,false] rfl rfl (one_of HT_.out (zz0)) (zz27) (fun K hK=>?_);refine Kd.N_append_step k56 (w0:=w) w.heap.size (zz19) (.tmp 36) (.tmp 47) 25 56 (.agg #[(.slice none 0 0)]) 24 rfl Try.underlying25 info56 rfl (zz27) (zz4) u6 x6_1 (⟨(rd_T56 (rd_L6 l0 x7_1) (rd l1 x7_1)).f0⟩:S56) [.slice A783_0 ((rd_T56 (rd_L6 l0 x7_1) (rd l1 x7_1)).f0).length c783_0] (fun k_=>(P0_ k_∨w.heap.size≤k_)) (fun k_=>((fun k_=>(P0_ k_∨w.heap.size≤k_))) k_∧some k_ ≠ (u6:Value).ownBlock) rfl rfl ?aP (fun _ hk=>hk) ?aF ?aO ?aB ?aS ?aL ?_
       (case aP=>exact (k56_mkF _ _ (⟨(rd_T56 (rd_L6 l0 x7_1) (rd l1 x7_1)).f0⟩:S56) (Kd.V_reads' (Kd.V_mono (ok':=(fun k_=>((fun k_=>(P0_ k_∨w.heap.size≤k_))) k_∧some k_ ≠ (u6:Value).ownBlock)) (HL783_0.out) (fun k_ hk=>⟨hk.1,hk.2⟩))).2.1 (Kd.V_F (Kd.V_mono (ok':=(fun k_=>((fun k_=>(P0_ k_∨w.heap.size≤k_))) k_∧some k_ ≠ (u6:Value).ownBlock)) (HL783_0.out) (fun k_ hk=>⟨hk.1,hk.2⟩)))))
       (case aB=>exact (zz5))
       (case aF=>exact (fun k_ hk=>(.inr (Nat.le_trans (below_size (zz5)) hk))))
       (case aO=>exact (have h0_:=HO_6;zz26))
       (case aS=>exact (below_size (zz5)))
       (case aL=>have:=LMc13.out;omega)
       intro v785 w16 ho hb hg hat;rw [← Ny784.out] at ho;replace HO_0:=Aside0.mk (Kd.V_afterv (ok:=(fun k_=>(P0_ k_∨w.heap.size≤k_))) (have h0_:=HO_0;zz22) hg hat);replace HL780_0:=Aside0.mk (Kd.V_afterv (ok:=(fun k_=>(P0_ k_∨w.heap.size≤k_))) (have h0_:=HL780_0;zz22) hg hat);replace HL781_0:=Aside0.mk (Kd.V_afterv (ok:=(fun k_=>(P0_ k_∨w.heap.size≤k_))) (have h0_:=HL781_0;zz22) hg hat);replace HL783_0:=Aside0.mk (Kd.V_afterv (ok:=(fun k_=>(P0_ k_∨w.heap.size≤k_))) (have h0_:=HL783_0;zz22) hg hat);replace HB:=Aside0.mk (hb);have HO786:=Aside0.mk (ho);clear HO_6;clear ho hb hg hat;refine hK.out _ _ ?_;clear hK K;refine norm_ (a':=?_) ?_ ?_;rotate_left
       ·show Act.put _ (some 48) _ = _
        simp only [zzs]
        rfl
       refine zzp 13 6 ?_ #[true,true,true,true,true,true,true,true,true,true,true,true,true,true] rfl rfl (any_of HT_.out (zz0)) (fun _ _ _ h=>h) (Or.inl ⟨zz19,?_⟩) ?_ ?_ ?_;rotate_left
       ·intro w'
        go_simp
        with_reducible rfl
       rotate_left
       ·simp only [zzs]
        rfl
       refine done_ (done_of HT_.out (zz0)) ?_
       try go_wp2
       go_roundg k1
       case measure=>have:=HK1.out;omega
       case rel=>exact ⟨(y784),(wrap64 (x7_1+1)),(zz2),H',⟨zz12⟩,⟨(have h0_:=HO_0;zz22)⟩,⟨(have h0_:=HO786;zz26)⟩,⟨zz5⟩⟩
    ·have c4b0:=decide_eq_false c4;clear c4;simp only [Option.some.injEq,Prod.mk.injEq] at H;obtain ⟨rfl,rfl⟩:=H
     go_wp2
     go_ret2
     exact ⟨_,zz6,(have h0_:=HO_6;zz26),zz5⟩
 ·have c3b0:=beq_eq_false_iff_ne.mpr c3;have c3b1:=bne_iff_ne.mpr c3;have c3b2:(l1.length == l0.length) = false:=(have h0_:=c3;zz8);simp only [Option.some.injEq,Prod.mk.injEq] at H;obtain ⟨rfl,rfl⟩:=H;go_enter Try.func27,Try.ntmps27
  go_wp2
  go_ret2
  exact ⟨_,zz6,zz42,zz5⟩
end Go.Proofs.Ytmcegphcjphdcaa.QA
