import Derived.Test.YtmcegphcjphdcaaXSwQAx0
import Derived.Test.YtmcegphcjphdcaaXSwQAx7
namespace Go.Proofs.Ytmcegphcjphdcaa.QA
open Go.RowKit Go.Proofs.YtmcegphcjphdcaaW.PrintWords Go.Proofs.YtmcegphcjphdcaaW.PrintLast Go.Proofs.YtmcegphcjphdcaaW.PrintMore
attribute [local go_sem] max2_int min2_int max_two min_two max_three min_three max_four min_four
set_option linter.unusedVariables false
set_option linter.unusedSimpArgs false
def U33.l0:Nat→List (S56)→Int→Option (Int)
 | 0,_,_=>none
 | k+1,x0,x6=>if x6 < (x0.length:Int) then (if 0≤x6 then ((U22.f ((rd_T56 x0 x6).f0)).bind fun t580=>(if 0 < (x0.length:Int) then ((U22.f ((rd_T56 x0 0).f0)).bind fun t582=>(if t580 = t582 then (U33.l0 k x0 (wrap64 (x6+1))) else (some 19))) else (none))) else (none)) else (some 0)
def U33.f (k:Nat) (l0:List (S56)) (a1:Int):Option (Int):=if (l0.length:Int) = 0 then (some 20) else ((U36.f k l0 a1 (-1)).bind fun t578=>(if t578 = 0 then (U33.l0 k l0 0) else (some t578)))
theorem zm23_0 {P:Prop} (h:P:=by repeat' first|(with_reducible first|exact ih0 ..|exact U36.mono ..|exact LeO.refl _|exact LeO.none _|refine LeO.ite ?_ ?_|refine LeO.bind ?_ (fun _=>?_))|exact ih0 ..|exact U36.mono ..|exact LeO.none _|refine LeO.ite ?_ ?_|refine LeO.bind ?_ (fun _=>?_)):P:=h
theorem U33.mono_l:∀ k,(∀ y0 y1,LeO (U33.l0 k y0 y1) (U33.l0 (k+1) y0 y1))
 | 0=>fun _ _ r h=>by simp [U33.l0] at h
 | k+1=>by
  have ih0:=U33.mono_l k
  ·intro y0 y1;unfold U33.l0
   exact zm23_0
theorem U33.mono:∀ a0 a1 k,LeO (U33.f k a0 a1) (U33.f (k+1) a0 a1):=by
 intro a0 a1 k;have ih0:=U33.mono_l k;unfold U33.f
 exact zm23_0
def U33.T9:Bool × List (List Nat × List Nat):=(true,[([],[]),([],[]),([0,1],[0,1]),([2],[2]),([3],[3]),([],[]),([5],[5]),([6],[6]),([7,4],[7]),([4,8],[4,8])])
def U33.B9:List Nat:=[0,0,3,7,15,0,32,96,255,511]
theorem U33.tab9:rtab .any (opsOf Try.f66 9) = U33.T9:=zz0
theorem U33.bits9:waitsOk U33.T9.2 U33.B9 = true:=zz0
set_option maxHeartbeats 8000000 in
set_option maxRecDepth 100000 in
theorem U33.calls (k:Nat) (A0:Option Addr) (c0:Nat) (l0:List (S56)) (a1:Int) (r:Int) (w:World) (hr0:Kd.C k56 w A0 l0.length l0) (hc0:l0.length≤c0) (h:U33.f k l0 a1 = some r) :
  Calls Try.prog 66 #[.slice A0 l0.length c0,.int .i64 a1] w fun e w'=>e = .returned (.int .i64 r)∧Below w.heap.size w w':=by
 have hu56:=Try.underlying56;have HR0:=Aside0.mk hr0;have HC0:=Aside0.mk hc0;clear hr0 hc0;have HB:=Aside0.mk (Below.refl w.heap.size w);have H:(if (l0.length:Int) = 0 then (some 20) else ((U36.f k l0 a1 (-1)).bind fun t578=>(if t578 = 0 then (U33.l0 k l0 0) else (some t578)))) = some r:=h;clear h;replace H:=zzj H;rcases H with ⟨c3,H⟩|⟨c3,H⟩
 ·have c3b0:=beq_iff_eq.mpr c3;have c3b1:=bne_eq_false_iff_eq.mpr c3;clear c3;obtain rfl:=Option.some.inj H;go_enter Try.func66,Try.ntmps66
  go_wp2
  go_ret
  exact ⟨zz6,zz5⟩
 ·have c3b0:=beq_eq_false_iff_ne.mpr c3;have c3b1:=bne_iff_ne.mpr c3;have c3b2:¬ (l0 = []):=fun h_=>c3 (by rw [h_];rfl);replace H:=zzb H;obtain ⟨t578,A4,H⟩:=H;replace H:=zzj H;rcases H with ⟨c5,H⟩|⟨c5,H⟩
  ·have c5b0:=beq_iff_eq.mpr c5;have c5b1:=bne_eq_false_iff_eq.mpr c5;clear c5;have H':=Aside0.mk H;clear H;go_enter Try.func66,Try.ntmps66
   go_wp2_with (first|((with_reducible refine gate_callee (f:=33) rfl ?_);refine goesL_ (some 12) rfl rfl Try.func33 (zz0) rfl #[.slice A0 l0.length c0,.int .i64 a1,.int .i64 (-1)] rfl (zz19) ?_;(with_reducible refine (U36.calls k _ _ l0 a1 (-1) t578 _ ?_ ?_ A4.out).mono ?_);(exact (have h0_:=HR0;zz123));exact HC0.out;rintro e w6 ⟨rfl,hb⟩;refine ⟨_,rfl,?_⟩;replace HB:=Aside0.mk (below_step (zz5) hb);(try clear hb)))
   go_loopg [6] k (fun kq v6 w'=>∃ (x6_1:Int),v6 = .int .i64 x6_1∧Aside0 (U33.l0 kq l0 x6_1 = some r)∧Aside0 (kq≤k)∧Aside0 (Below w.heap.size w w'))
   case atStart=>exact ⟨(0),(zz2),H',⟨Nat.le_refl _⟩,⟨zz5⟩⟩
   case round =>
    clear H';clear c3 c3b0 c3b1 c3b2 c5b0 c5b1;obtain ⟨x6_1,rfl,HA,HK1,HB⟩:=hrel
    cases gk with
    | zero=>exact absurd HA.out (by simp [U33.l0])
    | succ k1 =>
     have H:=HA.out;clear HA;simp only [U33.l0] at H;replace H:=zzj H;rcases H with ⟨c7,H⟩|⟨c7,H⟩
     ·have c7b0:=decide_eq_true c7;clear c7;replace H:=zzi H;obtain ⟨c8,H⟩:=H;have c8b0:=decide_eq_true c8;clear c8;replace H:=zzb H;obtain ⟨t580,A9,H⟩:=H;replace H:=zzi H;obtain ⟨c10,H⟩:=H;have c10b0:=decide_eq_true c10;have c10b1:decide (0 < l0.length) = true:=decide_eq_true (zz4);clear c10;replace H:=zzb H;obtain ⟨t582,A11,H⟩:=H;replace H:=zzj H;rcases H with ⟨c12,H⟩|⟨c12,H⟩
      ·have c12b0:=beq_iff_eq.mpr c12;have c12b1:=bne_eq_false_iff_eq.mpr c12;clear c12;have H':=Aside0.mk H;clear H
       try go_wp2
       replace HB:=Aside0.mk (below_drew1 HB.out);have p579:0≤(x6_1:Int):=of_decide_eq_true (zz11);have q579:x6_1 < (l0.length:Int):=of_decide_eq_true (zz11);obtain ⟨ad579,A579_0,c579_0,e579,hx579_0,hl579_0,hi579_0⟩:=at_T56 HR0.out x6_1 p579 q579;have hw579_0:=hx579_0
       cases e579
       replace hx579_0:=(HB.out.cell (World.block_lt_of_cell? w _ hx579_0)).trans hx579_0;have HR579_0:=Aside0.mk hi579_0;have HC579_0:=Aside0.mk hl579_0;clear hi579_0 hl579_0;replace p579:=eq_true p579;replace q579:=eq_true q579;have p581:0≤(0:Int):=(zz4);have q581:0 < (l0.length:Int):=of_decide_eq_true (zz11);obtain ⟨ad581,A581_0,c581_0,e581,hx581_0,hl581_0,hi581_0⟩:=at_T56 HR0.out 0 p581 q581;have hw581_0:=hx581_0
       (try rw [show ((0:Int)).toNat = 0 from rfl] at hw581_0)
       (try rw [show 0 * 1 = 0 from rfl] at hw581_0)
       (try rw [Addr.add_zero'] at hw581_0)
       obtain rfl:ad579 = ad581:=(by injection e581);have qi581:(0 < l0.length) = True:=eq_true (zz4)
       (try rw [show ((0:Int)).toNat = 0 from rfl] at hx581_0)
       (try rw [Addr.add_zero'] at hx581_0)
       replace hx581_0:=(HB.out.cell (World.block_lt_of_cell? w _ hx581_0)).trans hx581_0;have HR581_0:=Aside0.mk hi581_0;have HC581_0:=Aside0.mk hl581_0;clear hi581_0 hl581_0;replace p581:=eq_true p581;replace q581:=eq_true q581;refine start_ (n:=10) (S:=fun w'=>w'.cell? (ad579.add (x6_1).toNat) = some (.slice A579_0 ((rd_T56 l0 x6_1).f0).length c579_0)∧w'.cell? ad579 = some (.slice A581_0 ((rd_T56 l0 0).f0).length c581_0)) (ds:=[]) #[false,false,false,false,false,false,false,false,false,false] (zz0) rfl rfl ⟨((HB.out.cell (World.block_lt_of_cell? w _ hw579_0)).trans hw579_0),((HB.out.cell (World.block_lt_of_cell? w _ hw581_0)).trans hw581_0)⟩ (fun hHeld=>?_);refine with_tabW U33.tab9 U33.bits9 (fun HT_ HW_=>?_)
       generalize wr.drew = w13 at HB HR579_0 HR581_0 hx579_0 hx581_0 hHeld ⊢
       refine zzp 0 22 ?_ #[true,false,false,false,false,false,false,false,false,false] rfl rfl (any_of HT_.out (zz0)) (fun _ _ _ h=>h) (Or.inl ⟨zz20,?_⟩) ?_ ?_ ?_;rotate_left
       ·intro w'
        go_simp
        with_reducible rfl
       rotate_left
       ·simp only [zzs]
        rfl
       refine zzp 1 23 ?_ #[true,true,false,false,false,false,false,false,false,false] rfl rfl (any_of HT_.out (zz0)) (fun _ _ _ h=>h) (Or.inl ⟨zz20,?_⟩) ?_ ?_ ?_;rotate_left
       ·intro w'
        go_simp
        with_reducible rfl
       rotate_left
       ·simp only [zzs]
        rfl
       refine zzp 2 24 ?_ #[true,true,true,false,false,false,false,false,false,false] rfl rfl (any_of HT_.out (zz0)) (fun _ _ _ h=>h) (Or.inl ⟨zz20,?_⟩) ?_ ?_ ?_;rotate_left
       ·intro w'
        go_simp
        with_reducible rfl
       rotate_left
       ·simp only [zzs]
        rfl
       refine zzp 5 27 ?_ #[true,true,true,false,false,true,false,false,false,false] rfl rfl (any_of HT_.out (zz0)) (fun _ _ _ h=>h) (Or.inl ⟨zz20,?_⟩) ?_ ?_ ?_;rotate_left
       ·intro w'
        go_simp
        with_reducible rfl
       rotate_left
       ·simp only [zzs]
        rfl
       refine zzp 6 28 ?_ #[true,true,true,false,false,true,true,false,false,false] rfl rfl (any_of HT_.out (zz0)) (fun _ _ _ h=>h) (Or.inl ⟨zz20,?_⟩) ?_ ?_ ?_;rotate_left
       ·intro w'
        go_simp
        with_reducible rfl
       rotate_left
       ·simp only [zzs]
        rfl
       refine take_ (i:=3) (N:=some 25) (v:=?_) (a':=?_) #[true,true,true,true,false,true,true,false,false,false] rfl rfl (take_ofW HT_.out HW_.out (zz0)) (fun _ _ _ h=>h) (Or.inl ⟨zz20,?_⟩) hHeld ?_ ?_;rotate_left
       ·rintro w' ⟨s0,s1⟩
        go_simp
        with_reducible rfl
       rotate_left
       ·simp only [zzs]
        rfl
       refine take_ (i:=7) (N:=some 29) (v:=?_) (a':=?_) #[true,true,true,true,false,true,true,true,false,false] rfl rfl (take_ofW HT_.out HW_.out (zz0)) (fun _ _ _ h=>h) (Or.inl ⟨zz20,?_⟩) hHeld ?_ ?_;rotate_left
       ·rintro w' ⟨s0,s1⟩
        go_simp
        with_reducible rfl
       rotate_left
       ·simp only [zzs]
        rfl
       refine one_ (i:=4) (N:=some 26) #[true,true,true,true,true,true,true,true,false,false] rfl rfl (one_of HT_.out (zz0)) (zz28) (fun K hK=>?_);refine goes_ Try.func34 (zz0) rfl #[.agg #[.slice A579_0 ((rd_T56 l0 x6_1).f0).length c579_0]] (zz20) rfl rfl (zz19) ?_
       with_reducible refine (U22.calls _ _ ((rd_T56 l0 x6_1).f0) t580 _ ?side1 ?side2 A9.out).mono ?_
       (case side1=>exact (have h0_:=HR579_0;zz110))
       (case side2=>exact HC579_0.out)
       rintro e w14 ⟨rfl,hb⟩;refine ⟨_,rfl,?_⟩;replace HB:=Aside0.mk (below_step (zz5) hb)
       (try clear hb)
       refine hK.out _ _ ⟨((HB.out.cell (World.block_lt_of_cell? w _ hw579_0)).trans hw579_0),((HB.out.cell (World.block_lt_of_cell? w _ hw581_0)).trans hw581_0)⟩ (fun hHeld=>?_);clear hK K;refine norm_ (a':=?_) ?_ ?_;rotate_left
       ·show Act.put _ (some 26) _ = _
        simp only [zzs]
        rfl
       refine one_ (i:=8) (N:=some 30) #[true,true,true,true,true,true,true,true,true,false] rfl rfl (one_of HT_.out (zz0)) (zz28) (fun K hK=>?_);refine goes_ Try.func34 (zz0) rfl #[.agg #[.slice A581_0 ((rd_T56 l0 0).f0).length c581_0]] (zz20) rfl rfl (zz19) ?_
       with_reducible refine (U22.calls _ _ ((rd_T56 l0 0).f0) t582 _ ?side1 ?side2 A11.out).mono ?_
       (case side1=>exact (have h0_:=HR581_0;zz110))
       (case side2=>exact HC581_0.out)
       rintro e w15 ⟨rfl,hb⟩;refine ⟨_,rfl,?_⟩;replace HB:=Aside0.mk (below_step (zz5) hb)
       (try clear hb)
       (try clear hb2)
       (try clear hk)
       (try clear hi)
       refine hK.out _ _ ⟨((HB.out.cell (World.block_lt_of_cell? w _ hw579_0)).trans hw579_0),((HB.out.cell (World.block_lt_of_cell? w _ hw581_0)).trans hw581_0)⟩ (fun hHeld=>?_);clear hK K;refine norm_ (a':=?_) ?_ ?_;rotate_left
       ·show Act.put _ (some 30) _ = _
        simp only [zzs]
        rfl
       refine zzp 9 31 ?_ #[true,true,true,true,true,true,true,true,true,true] rfl rfl (any_of HT_.out (zz0)) (fun _ _ _ h=>h) (Or.inl ⟨zz20,?_⟩) ?_ ?_ ?_;rotate_left
       ·intro w'
        go_simp
        with_reducible rfl
       rotate_left
       ·simp only [zzs]
        rfl
       refine done_ (done_of HT_.out (zz0)) ?_
       try go_wp2
       go_roundg k1
       case measure=>have:=HK1.out;omega
       case rel=>exact ⟨(wrap64 (x6_1+1)),(zz2),H',⟨zz12⟩,⟨zz5⟩⟩
      ·have c12b0:=beq_eq_false_iff_ne.mpr c12;have c12b1:=bne_iff_ne.mpr c12;obtain rfl:=Option.some.inj H
       try go_wp2
       replace HB:=Aside0.mk (below_drew1 HB.out);have p579:0≤(x6_1:Int):=of_decide_eq_true (zz11);have q579:x6_1 < (l0.length:Int):=of_decide_eq_true (zz11);obtain ⟨ad579,A579_0,c579_0,e579,hx579_0,hl579_0,hi579_0⟩:=at_T56 HR0.out x6_1 p579 q579;have hw579_0:=hx579_0
       cases e579
       replace hx579_0:=(HB.out.cell (World.block_lt_of_cell? w _ hx579_0)).trans hx579_0;have HR579_0:=Aside0.mk hi579_0;have HC579_0:=Aside0.mk hl579_0;clear hi579_0 hl579_0;replace p579:=eq_true p579;replace q579:=eq_true q579;have p581:0≤(0:Int):=(zz4);have q581:0 < (l0.length:Int):=of_decide_eq_true (zz11);obtain ⟨ad581,A581_0,c581_0,e581,hx581_0,hl581_0,hi581_0⟩:=at_T56 HR0.out 0 p581 q581;have hw581_0:=hx581_0
       (try rw [show ((0:Int)).toNat = 0 from rfl] at hw581_0)
       (try rw [show 0 * 1 = 0 from rfl] at hw581_0)
       (try rw [Addr.add_zero'] at hw581_0)
       obtain rfl:ad579 = ad581:=(by injection e581);have qi581:(0 < l0.length) = True:=eq_true (zz4)
       (try rw [show ((0:Int)).toNat = 0 from rfl] at hx581_0)
       (try rw [Addr.add_zero'] at hx581_0)
       replace hx581_0:=(HB.out.cell (World.block_lt_of_cell? w _ hx581_0)).trans hx581_0;have HR581_0:=Aside0.mk hi581_0;have HC581_0:=Aside0.mk hl581_0;clear hi581_0 hl581_0;replace p581:=eq_true p581;replace q581:=eq_true q581;refine start_ (n:=10) (S:=fun w'=>w'.cell? (ad579.add (x6_1).toNat) = some (.slice A579_0 ((rd_T56 l0 x6_1).f0).length c579_0)∧w'.cell? ad579 = some (.slice A581_0 ((rd_T56 l0 0).f0).length c581_0)) (ds:=[]) #[false,false,false,false,false,false,false,false,false,false] (zz0) rfl rfl ⟨((HB.out.cell (World.block_lt_of_cell? w _ hw579_0)).trans hw579_0),((HB.out.cell (World.block_lt_of_cell? w _ hw581_0)).trans hw581_0)⟩ (fun hHeld=>?_);refine with_tabW U33.tab9 U33.bits9 (fun HT_ HW_=>?_)
       generalize wr.drew = w16 at HB HR579_0 HR581_0 hx579_0 hx581_0 hHeld ⊢
       refine zzp 0 22 ?_ #[true,false,false,false,false,false,false,false,false,false] rfl rfl (any_of HT_.out (zz0)) (fun _ _ _ h=>h) (Or.inl ⟨zz20,?_⟩) ?_ ?_ ?_;rotate_left
       ·intro w'
        go_simp
        with_reducible rfl
       rotate_left
       ·simp only [zzs]
        rfl
       refine zzp 1 23 ?_ #[true,true,false,false,false,false,false,false,false,false] rfl rfl (any_of HT_.out (zz0)) (fun _ _ _ h=>h) (Or.inl ⟨zz20,?_⟩) ?_ ?_ ?_;rotate_left
       ·intro w'
        go_simp
        with_reducible rfl
       rotate_left
       ·simp only [zzs]
        rfl
       refine zzp 2 24 ?_ #[true,true,true,false,false,false,false,false,false,false] rfl rfl (any_of HT_.out (zz0)) (fun _ _ _ h=>h) (Or.inl ⟨zz20,?_⟩) ?_ ?_ ?_;rotate_left
       ·intro w'
        go_simp
        with_reducible rfl
       rotate_left
       ·simp only [zzs]
        rfl
       refine zzp 5 27 ?_ #[true,true,true,false,false,true,false,false,false,false] rfl rfl (any_of HT_.out (zz0)) (fun _ _ _ h=>h) (Or.inl ⟨zz20,?_⟩) ?_ ?_ ?_;rotate_left
       ·intro w'
        go_simp
        with_reducible rfl
       rotate_left
       ·simp only [zzs]
        rfl
       refine zzp 6 28 ?_ #[true,true,true,false,false,true,true,false,false,false] rfl rfl (any_of HT_.out (zz0)) (fun _ _ _ h=>h) (Or.inl ⟨zz20,?_⟩) ?_ ?_ ?_;rotate_left
       ·intro w'
        go_simp
        with_reducible rfl
       rotate_left
       ·simp only [zzs]
        rfl
       refine take_ (i:=3) (N:=some 25) (v:=?_) (a':=?_) #[true,true,true,true,false,true,true,false,false,false] rfl rfl (take_ofW HT_.out HW_.out (zz0)) (fun _ _ _ h=>h) (Or.inl ⟨zz20,?_⟩) hHeld ?_ ?_;rotate_left
       ·rintro w' ⟨s0,s1⟩
        go_simp
        with_reducible rfl
       rotate_left
       ·simp only [zzs]
        rfl
       refine take_ (i:=7) (N:=some 29) (v:=?_) (a':=?_) #[true,true,true,true,false,true,true,true,false,false] rfl rfl (take_ofW HT_.out HW_.out (zz0)) (fun _ _ _ h=>h) (Or.inl ⟨zz20,?_⟩) hHeld ?_ ?_;rotate_left
       ·rintro w' ⟨s0,s1⟩
        go_simp
        with_reducible rfl
       rotate_left
       ·simp only [zzs]
        rfl
       refine one_ (i:=4) (N:=some 26) #[true,true,true,true,true,true,true,true,false,false] rfl rfl (one_of HT_.out (zz0)) (zz28) (fun K hK=>?_);refine goes_ Try.func34 (zz0) rfl #[.agg #[.slice A579_0 ((rd_T56 l0 x6_1).f0).length c579_0]] (zz20) rfl rfl (zz19) ?_
       with_reducible refine (U22.calls _ _ ((rd_T56 l0 x6_1).f0) t580 _ ?side1 ?side2 A9.out).mono ?_
       (case side1=>exact (have h0_:=HR579_0;zz110))
       (case side2=>exact HC579_0.out)
       rintro e w17 ⟨rfl,hb⟩;refine ⟨_,rfl,?_⟩;replace HB:=Aside0.mk (below_step (zz5) hb)
       (try clear hb)
       refine hK.out _ _ ⟨((HB.out.cell (World.block_lt_of_cell? w _ hw579_0)).trans hw579_0),((HB.out.cell (World.block_lt_of_cell? w _ hw581_0)).trans hw581_0)⟩ (fun hHeld=>?_);clear hK K;refine norm_ (a':=?_) ?_ ?_;rotate_left
       ·show Act.put _ (some 26) _ = _
        simp only [zzs]
        rfl
       refine one_ (i:=8) (N:=some 30) #[true,true,true,true,true,true,true,true,true,false] rfl rfl (one_of HT_.out (zz0)) (zz28) (fun K hK=>?_);refine goes_ Try.func34 (zz0) rfl #[.agg #[.slice A581_0 ((rd_T56 l0 0).f0).length c581_0]] (zz20) rfl rfl (zz19) ?_
       with_reducible refine (U22.calls _ _ ((rd_T56 l0 0).f0) t582 _ ?side1 ?side2 A11.out).mono ?_
       (case side1=>exact (have h0_:=HR581_0;zz110))
       (case side2=>exact HC581_0.out)
       rintro e w18 ⟨rfl,hb⟩;refine ⟨_,rfl,?_⟩;replace HB:=Aside0.mk (below_step (zz5) hb)
       (try clear hb)
       (try clear hb2)
       (try clear hk)
       (try clear hi)
       refine hK.out _ _ ⟨((HB.out.cell (World.block_lt_of_cell? w _ hw579_0)).trans hw579_0),((HB.out.cell (World.block_lt_of_cell? w _ hw581_0)).trans hw581_0)⟩ (fun hHeld=>?_);clear hK K;refine norm_ (a':=?_) ?_ ?_;rotate_left
       ·show Act.put _ (some 30) _ = _
        simp only [zzs]
        rfl
       refine zzp 9 31 ?_ #[true,true,true,true,true,true,true,true,true,true] rfl rfl (any_of HT_.out (zz0)) (fun _ _ _ h=>h) (Or.inl ⟨zz20,?_⟩) ?_ ?_ ?_;rotate_left
       ·intro w'
        go_simp
        with_reducible rfl
       rotate_left
       ·simp only [zzs]
        rfl
       refine done_ (done_of HT_.out (zz0)) ?_
       try go_wp2
       go_ret
       exact ⟨zz6,zz5⟩
     ·have c7b0:=decide_eq_false c7;clear c7;obtain rfl:=Option.some.inj H
      go_wp2
      go_ret
      exact ⟨zz6,zz5⟩
  ·have c5b0:=beq_eq_false_iff_ne.mpr c5;have c5b1:=bne_iff_ne.mpr c5;obtain rfl:=Option.some.inj H;go_enter Try.func66,Try.ntmps66
   go_wp2_with (first|((with_reducible refine gate_callee (f:=33) rfl ?_);refine goesL_ (some 12) rfl rfl Try.func33 (zz0) rfl #[.slice A0 l0.length c0,.int .i64 a1,.int .i64 (-1)] rfl (zz19) ?_;(with_reducible refine (U36.calls k _ _ l0 a1 (-1) t578 _ ?_ ?_ A4.out).mono ?_);(exact (have h0_:=HR0;zz123));exact HC0.out;rintro e w19 ⟨rfl,hb⟩;refine ⟨_,rfl,?_⟩;replace HB:=Aside0.mk (below_step (zz5) hb);(try clear hb)))
   go_ret
   exact ⟨zz6,zz5⟩
end Go.Proofs.Ytmcegphcjphdcaa.QA
