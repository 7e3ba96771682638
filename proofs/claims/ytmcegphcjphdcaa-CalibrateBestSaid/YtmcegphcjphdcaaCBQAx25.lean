import Derived.Test.YtmcegphcjphdcaaCBQAx0
import Derived.Test.YtmcegphcjphdcaaCBQAx7
namespace Go.Proofs.Ytmcegphcjphdcaa.QA
open Go.RowKit Go.Proofs.YtmcegphcjphdcaaW.PrintWords Go.Proofs.YtmcegphcjphdcaaW.PrintLast Go.Proofs.YtmcegphcjphdcaaW.PrintMore
attribute [local go_sem] max2_int min2_int max_two min_two max_three min_three max_four min_four
set_option linter.unusedVariables false
set_option linter.unusedSimpArgs false
def U34.l0:Nat→List (S56)→Int→Option (Int)
 | 0,_,_=>none
 | k+1,x0,x6=>if x6 < (x0.length:Int) then (if 0≤x6 then ((U25.f ((rd_T56 x0 x6).f0)).bind fun t580=>(if 0 < (x0.length:Int) then ((U25.f ((rd_T56 x0 0).f0)).bind fun t582=>(if t580 = t582 then (U34.l0 k x0 (wrap64 (x6+1))) else (some 19))) else (none))) else (none)) else (some 0)
def U34.f (k:Nat) (l0:List (S56)) (a1:Int):Option (Int):=if (l0.length:Int) = 0 then (some 20) else ((U36.f k l0 a1 (-1)).bind fun t578=>(if t578 = 0 then (U34.l0 k l0 0) else (some t578)))
theorem zm24_0 {P:Prop} (h:P:=by repeat' first|(with_reducible first|exact ih0 ..|exact U36.mono ..|exact LeO.refl _|exact LeO.none _|refine LeO.ite ?_ ?_|refine LeO.bind ?_ (fun _=>?_))|exact ih0 ..|exact U36.mono ..|exact LeO.none _|refine LeO.ite ?_ ?_|refine LeO.bind ?_ (fun _=>?_)):P:=h
theorem U34.mono_l:∀ k,(∀ y0 y1,LeO (U34.l0 k y0 y1) (U34.l0 (k+1) y0 y1))
 | 0=>fun _ _ r h=>by simp [U34.l0] at h
 | k+1=>by
  have ih0:=U34.mono_l k
  ·intro y0 y1;unfold U34.l0
   exact zm24_0
theorem U34.mono:∀ a0 a1 k,LeO (U34.f k a0 a1) (U34.f (k+1) a0 a1):=by
 intro a0 a1 k;have ih0:=U34.mono_l k;unfold U34.f
 exact zm24_0
def U34.T9:Bool × List (List Nat × List Nat):=(true,[([],[]),([],[]),([0,1],[0,1]),([2],[2]),([3],[3]),([],[]),([5],[5]),([6],[6]),([7,4],[7]),([4,8],[4,8])])
def U34.B9:List Nat:=[0,0,3,7,15,0,32,96,255,511]
theorem U34.tab9:rtab .any (opsOf Try.f66 9) = U34.T9:=zz0
theorem U34.bits9:waitsOk U34.T9.2 U34.B9 = true:=zz0
set_option maxHeartbeats 8000000 in
set_option maxRecDepth 100000 in
theorem U34.calls (k:Nat) (A0:Option Addr) (c0:Nat) (l0:List (S56)) (a1:Int) (r:Int) (w:World) (hr0:Kd.C k56 w A0 l0.length l0) (hc0:l0.length≤c0) (h:U34.f k l0 a1 = some r) :
  Calls Try.prog 66 #[.slice A0 l0.length c0,.int .i64 a1] w fun e w'=>e = .returned (.int .i64 r)∧Below w.heap.size w w':=by
 have hu56:=Try.underlying56;have HR0:=Aside0.mk hr0;have HC0:=Aside0.mk hc0;clear hr0 hc0;have HB:=Aside0.mk (Below.refl w.heap.size w);have H:(if (l0.length:Int) = 0 then (some 20) else ((U36.f k l0 a1 (-1)).bind fun t578=>(if t578 = 0 then (U34.l0 k l0 0) else (some t578)))) = some r:=h;clear h;by_cases c3:(l0.length:Int) = 0
 ·rw [if_pos c3] at H;have c3b0:=beq_iff_eq.mpr c3;have c3b1:=bne_eq_false_iff_eq.mpr c3;clear c3;obtain rfl:=Option.some.inj H;go_enter Try.func66,Try.ntmps66
  go_wp2
  go_ret
  exact ⟨zz6,zz5⟩
 ·rw [if_neg c3] at H;have c3b0:=beq_eq_false_iff_ne.mpr c3;have c3b1:=bne_iff_ne.mpr c3;have c3b2:¬ (l0 = []):=fun h_=>c3 (by rw [h_];rfl);replace H:=Option.bind_eq_some_iff.mp H;obtain ⟨t578,A40,H⟩:=H;have A4:=Aside0.mk A40;clear A40;by_cases c5:t578 = 0
  ·rw [if_pos c5] at H;have c5b0:=beq_iff_eq.mpr c5;have c5b1:=bne_eq_false_iff_eq.mpr c5;clear c5;have H':=Aside0.mk H;clear H;go_enter Try.func66,Try.ntmps66
   go_wp2_with (first|((with_reducible refine gate_callee (f:=33) rfl ?_);refine goesL_ (some 12) rfl rfl Try.func33 (zz0) rfl #[.slice A0 l0.length c0,.int .i64 a1,.int .i64 (-1)] rfl (zz16) ?_;(with_reducible refine (U36.calls k _ _ l0 a1 (-1) t578 _ ?side1 ?side2 A4.out).mono ?_);(case side1=>exact zz167);(case side2=>exact HC0.out);rintro e w6 ⟨rfl,hb⟩;refine ⟨_,rfl,?_⟩;replace HB:=Aside0.mk (below_step (zz5) hb);(try clear hb);(try clear hb2);(try clear hk);(try clear hi)))
   go_loopg [6] k (fun kq v6 w'=>∃ (x6_1:Int),v6 = .int .i64 x6_1∧Aside0 (U34.l0 kq l0 x6_1 = some r)∧Aside0 (kq≤k)∧Aside0 (Below w.heap.size w w'))
   case atStart=>exact ⟨(0),(zz2),H',⟨Nat.le_refl _⟩,⟨zz5⟩⟩
   case round =>
    clear H'
    (try clear p2);(try clear c3);(try clear c3b0);(try clear c3b1);(try clear c3b2);(try clear c5);(try clear c5b0);(try clear c5b1);(try clear c6)
    obtain ⟨x6_1,rfl,HA,HK1,HB⟩:=hrel
    cases gk with
    | zero=>exact absurd HA.out (by simp [U34.l0])
    | succ k1 =>
     have H:=HA.out;clear HA;simp only [U34.l0] at H;by_cases c7:x6_1 < (l0.length:Int)
     ·rw [if_pos c7] at H;have c7b0:=decide_eq_true c7;clear c7;by_cases c8:0≤x6_1
      ·rw [if_pos c8] at H;have c8b0:=decide_eq_true c8;clear c8;replace H:=Option.bind_eq_some_iff.mp H;obtain ⟨t580,A90,H⟩:=H;have A9:=Aside0.mk A90;clear A90;by_cases c10:0 < (l0.length:Int)
       ·rw [if_pos c10] at H;have c10b0:=decide_eq_true c10;have c10b1:decide (0 < l0.length) = true:=decide_eq_true (zz4);clear c10;replace H:=Option.bind_eq_some_iff.mp H;obtain ⟨t582,A110,H⟩:=H;have A11:=Aside0.mk A110;clear A110;by_cases c12:t580 = t582
        ·rw [if_pos c12] at H;have c12b0:=beq_iff_eq.mpr c12;have c12b1:=bne_eq_false_iff_eq.mpr c12;clear c12;have H':=Aside0.mk H;clear H
         try go_wp2
         have n0_:=Aside0.mk (below_drew1 HB.out);clear HB;have HB:=n0_;clear n0_;have p579:0≤(x6_1:Int):=of_decide_eq_true (zz11);have q579:x6_1 < (l0.length:Int):=of_decide_eq_true (zz11);obtain ⟨ad579,A579_0,c579_0,e579,hx579_0,hl579_0,hi579_0⟩:=at_T56 HR0.out x6_1 p579 q579;have hw579_0:=hx579_0
         cases e579
         replace hx579_0:=(HB.out.cell (World.block_lt_of_cell? w _ hx579_0)).trans hx579_0;have HR579_0:=Aside0.mk hi579_0;have HC579_0:=Aside0.mk hl579_0;clear hi579_0 hl579_0;replace p579:=eq_true p579;replace q579:=eq_true q579;have p581:0≤(0:Int):=(zz4);have q581:0 < (l0.length:Int):=of_decide_eq_true (zz11);obtain ⟨ad581,A581_0,c581_0,e581,hx581_0,hl581_0,hi581_0⟩:=at_T56 HR0.out 0 p581 q581;have hw581_0:=hx581_0
         (try rw [show ((0:Int)).toNat = 0 from rfl] at hw581_0)
         (try rw [show 0 * 1 = 0 from rfl] at hw581_0)
         (try rw [Addr.add_zero'] at hw581_0)
         obtain rfl:ad579 = ad581:=(by injection e581);have qi581:(0 < l0.length) = True:=eq_true (zz4)
         (try rw [show ((0:Int)).toNat = 0 from rfl] at hx581_0)
         (try rw [Addr.add_zero'] at hx581_0)
         replace hx581_0:=(HB.out.cell (World.block_lt_of_cell? w _ hx581_0)).trans hx581_0;have HR581_0:=Aside0.mk hi581_0;have HC581_0:=Aside0.mk hl581_0;clear hi581_0 hl581_0;replace p581:=eq_true p581;replace q581:=eq_true q581;refine start_ (n:=10) (S:=fun w'=>w'.cell? (ad579.add (x6_1).toNat) = some (.slice A579_0 ((rd_T56 l0 x6_1).f0).length c579_0)∧w'.cell? ad579 = some (.slice A581_0 ((rd_T56 l0 0).f0).length c581_0)) (ds:=[]) #[false,false,false,false,false,false,false,false,false,false] (zz0) rfl rfl ⟨((HB.out.cell (World.block_lt_of_cell? w _ hw579_0)).trans hw579_0),((HB.out.cell (World.block_lt_of_cell? w _ hw581_0)).trans hw581_0)⟩ (fun hHeld=>?_);refine with_tabW U34.tab9 U34.bits9 (fun HT_ HW_=>?_)
         generalize wr.drew = w13 at HB HR579_0 HR581_0 hx579_0 hx581_0 hHeld ⊢
         refine zzp 0 22 ?_ #[true,false,false,false,false,false,false,false,false,false] rfl rfl (any_of HT_.out (zz0)) (fun _ _ _ h=>h) (Or.inl ⟨zz17,?_⟩) ?_ ?_ ?_;rotate_left
         ·intro w'
          go_simp
          with_reducible rfl
         rotate_left
         ·simp only [zzs]
          rfl
         refine zzp 1 23 ?_ #[true,true,false,false,false,false,false,false,false,false] rfl rfl (any_of HT_.out (zz0)) (fun _ _ _ h=>h) (Or.inl ⟨zz17,?_⟩) ?_ ?_ ?_;rotate_left
         ·intro w'
          go_simp
          with_reducible rfl
         rotate_left
         ·simp only [zzs]
          rfl
         refine zzp 2 24 ?_ #[true,true,true,false,false,false,false,false,false,false] rfl rfl (any_of HT_.out (zz0)) (fun _ _ _ h=>h) (Or.inl ⟨zz17,?_⟩) ?_ ?_ ?_;rotate_left
         ·intro w'
          go_simp
          with_reducible rfl
         rotate_left
         ·simp only [zzs]
          rfl
         refine zzp 5 27 ?_ #[true,true,true,false,false,true,false,false,false,false] rfl rfl (any_of HT_.out (zz0)) (fun _ _ _ h=>h) (Or.inl ⟨zz17,?_⟩) ?_ ?_ ?_;rotate_left
         ·intro w'
          go_simp
          with_reducible rfl
         rotate_left
         ·simp only [zzs]
          rfl
         refine zzp 6 28 ?_ #[true,true,true,false,false,true,true,false,false,false] rfl rfl (any_of HT_.out (zz0)) (fun _ _ _ h=>h) (Or.inl ⟨zz17,?_⟩) ?_ ?_ ?_;rotate_left
         ·intro w'
          go_simp
          with_reducible rfl
         rotate_left
         ·simp only [zzs]
          rfl
         refine take_ (i:=3) (N:=some 25) (v:=?_) (a':=?_) #[true,true,true,true,false,true,true,false,false,false] rfl rfl (take_ofW HT_.out HW_.out (zz0)) (fun _ _ _ h=>h) (Or.inl ⟨zz17,?_⟩) hHeld ?_ ?_;rotate_left
         ·rintro w' ⟨s0,s1⟩
          go_simp
          with_reducible rfl
         rotate_left
         ·simp only [zzs]
          rfl
         refine take_ (i:=7) (N:=some 29) (v:=?_) (a':=?_) #[true,true,true,true,false,true,true,true,false,false] rfl rfl (take_ofW HT_.out HW_.out (zz0)) (fun _ _ _ h=>h) (Or.inl ⟨zz17,?_⟩) hHeld ?_ ?_;rotate_left
         ·rintro w' ⟨s0,s1⟩
          go_simp
          with_reducible rfl
         rotate_left
         ·simp only [zzs]
          rfl
         refine one_ (i:=4) (N:=some 26) #[true,true,true,true,true,true,true,true,false,false] rfl rfl (one_of HT_.out (zz0)) (zz31) (fun K hK=>?_);refine goes_ Try.func34 (zz0) rfl #[.agg #[.slice A579_0 ((rd_T56 l0 x6_1).f0).length c579_0]] (zz17) rfl rfl (zz16) ?_
         with_reducible refine (U25.calls _ _ ((rd_T56 l0 x6_1).f0) t580 _ ?side1 ?side2 A9.out).mono ?_
         (case side1=>repeat (first|exact (Kd.C_below HR579_0.out HB.out)|(with_reducible refine Kd.C_alloc ?_ _)|(with_reducible refine Kd.C_drewN ?_ _)|(with_reducible refine Kd.C_drew ?_)))
         (case side2=>exact HC579_0.out)
         rintro e w14 ⟨rfl,hb⟩;refine ⟨_,rfl,?_⟩;have n0_:=Aside0.mk (below_step (zz5) hb);clear HB;have HB:=n0_;clear n0_
         (try clear hb)
         (try clear hb2)
         (try clear hk)
         (try clear hi)
         refine hK.out _ _ ⟨((HB.out.cell (World.block_lt_of_cell? w _ hw579_0)).trans hw579_0),((HB.out.cell (World.block_lt_of_cell? w _ hw581_0)).trans hw581_0)⟩ (fun hHeld=>?_);clear hK K;refine norm_ (a':=?_) ?_ ?_;rotate_left
         ·show Act.put _ (some 26) _ = _
          simp only [zzs]
          rfl
         refine one_ (i:=8) (N:=some 30) #[true,true,true,true,true,true,true,true,true,false] rfl rfl (one_of HT_.out (zz0)) (zz31) (fun K hK=>?_);refine goes_ Try.func34 (zz0) rfl #[.agg #[.slice A581_0 ((rd_T56 l0 0).f0).length c581_0]] (zz17) rfl rfl (zz16) ?_
         with_reducible refine (U25.calls _ _ ((rd_T56 l0 0).f0) t582 _ ?side1 ?side2 A11.out).mono ?_
         (case side1=>repeat (first|exact (Kd.C_below HR581_0.out HB.out)|(with_reducible refine Kd.C_alloc ?_ _)|(with_reducible refine Kd.C_drewN ?_ _)|(with_reducible refine Kd.C_drew ?_)))
         (case side2=>exact HC581_0.out)
         rintro e w15 ⟨rfl,hb⟩;refine ⟨_,rfl,?_⟩;have n0_:=Aside0.mk (below_step (zz5) hb);clear HB;have HB:=n0_;clear n0_
         (try clear hb)
         (try clear hb2)
         (try clear hk)
         (try clear hi)
         refine hK.out _ _ ⟨((HB.out.cell (World.block_lt_of_cell? w _ hw579_0)).trans hw579_0),((HB.out.cell (World.block_lt_of_cell? w _ hw581_0)).trans hw581_0)⟩ (fun hHeld=>?_);clear hK K;refine norm_ (a':=?_) ?_ ?_;rotate_left
         ·show Act.put _ (some 30) _ = _
          simp only [zzs]
          rfl
         refine zzp 9 31 ?_ #[true,true,true,true,true,true,true,true,true,true] rfl rfl (any_of HT_.out (zz0)) (fun _ _ _ h=>h) (Or.inl ⟨zz17,?_⟩) ?_ ?_ ?_;rotate_left
         ·intro w'
          go_simp
          with_reducible rfl
         rotate_left
         ·simp only [zzs]
          rfl
         refine done_ (done_of HT_.out (zz0)) ?_
         try go_wp2
         go_roundg k1
         case measure=>have:=HK1.out;omega
         case rel=>exact ⟨(wrap64 (x6_1+1)),(zz2),H',⟨zz12⟩,⟨zz5⟩⟩
        ·rw [if_neg c12] at H;have c12b0:=beq_eq_false_iff_ne.mpr c12;have c12b1:=bne_iff_ne.mpr c12;obtain rfl:=Option.some.inj H
         try go_wp2
         have n0_:=Aside0.mk (below_drew1 HB.out);clear HB;have HB:=n0_;clear n0_;have p579:0≤(x6_1:Int):=of_decide_eq_true (zz11);have q579:x6_1 < (l0.length:Int):=of_decide_eq_true (zz11);obtain ⟨ad579,A579_0,c579_0,e579,hx579_0,hl579_0,hi579_0⟩:=at_T56 HR0.out x6_1 p579 q579;have hw579_0:=hx579_0
         cases e579
         replace hx579_0:=(HB.out.cell (World.block_lt_of_cell? w _ hx579_0)).trans hx579_0;have HR579_0:=Aside0.mk hi579_0;have HC579_0:=Aside0.mk hl579_0;clear hi579_0 hl579_0;replace p579:=eq_true p579;replace q579:=eq_true q579;have p581:0≤(0:Int):=(zz4);have q581:0 < (l0.length:Int):=of_decide_eq_true (zz11);obtain ⟨ad581,A581_0,c581_0,e581,hx581_0,hl581_0,hi581_0⟩:=at_T56 HR0.out 0 p581 q581;have hw581_0:=hx581_0
         (try rw [show ((0:Int)).toNat = 0 from rfl] at hw581_0)
         (try rw [show 0 * 1 = 0 from rfl] at hw581_0)
         (try rw [Addr.add_zero'] at hw581_0)
         obtain rfl:ad579 = ad581:=(by injection e581);have qi581:(0 < l0.length) = True:=eq_true (zz4)
         (try rw [show ((0:Int)).toNat = 0 from rfl] at hx581_0)
         (try rw [Addr.add_zero'] at hx581_0)
         replace hx581_0:=(HB.out.cell (World.block_lt_of_cell? w _ hx581_0)).trans hx581_0;have HR581_0:=Aside0.mk hi581_0;have HC581_0:=Aside0.mk hl581_0;clear hi581_0 hl581_0;replace p581:=eq_true p581;replace q581:=eq_true q581;refine start_ (n:=10) (S:=fun w'=>w'.cell? (ad579.add (x6_1).toNat) = some (.slice A579_0 ((rd_T56 l0 x6_1).f0).length c579_0)∧w'.cell? ad579 = some (.slice A581_0 ((rd_T56 l0 0).f0).length c581_0)) (ds:=[]) #[false,false,false,false,false,false,false,false,false,false] (zz0) rfl rfl ⟨((HB.out.cell (World.block_lt_of_cell? w _ hw579_0)).trans hw579_0),((HB.out.cell (World.block_lt_of_cell? w _ hw581_0)).trans hw581_0)⟩ (fun hHeld=>?_);refine with_tabW U34.tab9 U34.bits9 (fun HT_ HW_=>?_)
         generalize wr.drew = w16 at HB HR579_0 HR581_0 hx579_0 hx581_0 hHeld ⊢
         refine zzp 0 22 ?_ #[true,false,false,false,false,false,false,false,false,false] rfl rfl (any_of HT_.out (zz0)) (fun _ _ _ h=>h) (Or.inl ⟨zz17,?_⟩) ?_ ?_ ?_;rotate_left
         ·intro w'
          go_simp
          with_reducible rfl
         rotate_left
         ·simp only [zzs]
          rfl
         refine zzp 1 23 ?_ #[true,true,false,false,false,false,false,false,false,false] rfl rfl (any_of HT_.out (zz0)) (fun _ _ _ h=>h) (Or.inl ⟨zz17,?_⟩) ?_ ?_ ?_;rotate_left
         ·intro w'
          go_simp
          with_reducible rfl
         rotate_left
         ·simp only [zzs]
          rfl
         refine zzp 2 24 ?_ #[true,true,true,false,false,false,false,false,false,false] rfl rfl (any_of HT_.out (zz0)) (fun _ _ _ h=>h) (Or.inl ⟨zz17,?_⟩) ?_ ?_ ?_;rotate_left
         ·intro w'
          go_simp
          with_reducible rfl
         rotate_left
         ·simp only [zzs]
          rfl
         refine zzp 5 27 ?_ #[true,true,true,false,false,true,false,false,false,false] rfl rfl (any_of HT_.out (zz0)) (fun _ _ _ h=>h) (Or.inl ⟨zz17,?_⟩) ?_ ?_ ?_;rotate_left
         ·intro w'
          go_simp
          with_reducible rfl
         rotate_left
         ·simp only [zzs]
          rfl
         refine zzp 6 28 ?_ #[true,true,true,false,false,true,true,false,false,false] rfl rfl (any_of HT_.out (zz0)) (fun _ _ _ h=>h) (Or.inl ⟨zz17,?_⟩) ?_ ?_ ?_;rotate_left
         ·intro w'
          go_simp
          with_reducible rfl
         rotate_left
         ·simp only [zzs]
          rfl
         refine take_ (i:=3) (N:=some 25) (v:=?_) (a':=?_) #[true,true,true,true,false,true,true,false,false,false] rfl rfl (take_ofW HT_.out HW_.out (zz0)) (fun _ _ _ h=>h) (Or.inl ⟨zz17,?_⟩) hHeld ?_ ?_;rotate_left
         ·rintro w' ⟨s0,s1⟩
          go_simp
          with_reducible rfl
         rotate_left
         ·simp only [zzs]
          rfl
         refine take_ (i:=7) (N:=some 29) (v:=?_) (a':=?_) #[true,true,true,true,false,true,true,true,false,false] rfl rfl (take_ofW HT_.out HW_.out (zz0)) (fun _ _ _ h=>h) (Or.inl ⟨zz17,?_⟩) hHeld ?_ ?_;rotate_left
         ·rintro w' ⟨s0,s1⟩
          go_simp
          with_reducible rfl
         rotate_left
         ·simp only [zzs]
          rfl
         refine one_ (i:=4) (N:=some 26) #[true,true,true,true,true,true,true,true,false,false] rfl rfl (one_of HT_.out (zz0)) (zz31) (fun K hK=>?_);refine goes_ Try.func34 (zz0) rfl #[.agg #[.slice A579_0 ((rd_T56 l0 x6_1).f0).length c579_0]] (zz17) rfl rfl (zz16) ?_
         with_reducible refine (U25.calls _ _ ((rd_T56 l0 x6_1).f0) t580 _ ?side1 ?side2 A9.out).mono ?_
         (case side1=>repeat (first|exact (Kd.C_below HR579_0.out HB.out)|(with_reducible refine Kd.C_alloc ?_ _)|(with_reducible refine Kd.C_drewN ?_ _)|(with_reducible refine Kd.C_drew ?_)))
         (case side2=>exact HC579_0.out)
         rintro e w17 ⟨rfl,hb⟩;refine ⟨_,rfl,?_⟩;have n0_:=Aside0.mk (below_step (zz5) hb);clear HB;have HB:=n0_;clear n0_
         (try clear hb)
         (try clear hb2)
         (try clear hk)
         (try clear hi)
         refine hK.out _ _ ⟨((HB.out.cell (World.block_lt_of_cell? w _ hw579_0)).trans hw579_0),((HB.out.cell (World.block_lt_of_cell? w _ hw581_0)).trans hw581_0)⟩ (fun hHeld=>?_);clear hK K;refine norm_ (a':=?_) ?_ ?_;rotate_left
         ·show Act.put _ (some 26) _ = _
          simp only [zzs]
          rfl
         refine one_ (i:=8) (N:=some 30) #[true,true,true,true,true,true,true,true,true,false] rfl rfl (one_of HT_.out (zz0)) (zz31) (fun K hK=>?_);refine goes_ Try.func34 (zz0) rfl #[.agg #[.slice A581_0 ((rd_T56 l0 0).f0).length c581_0]] (zz17) rfl rfl (zz16) ?_
         with_reducible refine (U25.calls _ _ ((rd_T56 l0 0).f0) t582 _ ?side1 ?side2 A11.out).mono ?_
         (case side1=>repeat (first|exact (Kd.C_below HR581_0.out HB.out)|(with_reducible refine Kd.C_alloc ?_ _)|(with_reducible refine Kd.C_drewN ?_ _)|(with_reducible refine Kd.C_drew ?_)))
         (case side2=>exact HC581_0.out)
         rintro e w18 ⟨rfl,hb⟩;refine ⟨_,rfl,?_⟩;have n0_:=Aside0.mk (below_step (zz5) hb);clear HB;have HB:=n0_;clear n0_
         (try clear hb)
         (try clear hb2)
         (try clear hk)
         (try clear hi)
         refine hK.out _ _ ⟨((HB.out.cell (World.block_lt_of_cell? w _ hw579_0)).trans hw579_0),((HB.out.cell (World.block_lt_of_cell? w _ hw581_0)).trans hw581_0)⟩ (fun hHeld=>?_);clear hK K;refine norm_ (a':=?_) ?_ ?_;rotate_left
         ·show Act.put _ (some 30) _ = _
          simp only [zzs]
          rfl
         refine zzp 9 31 ?_ #[true,true,true,true,true,true,true,true,true,true] rfl rfl (any_of HT_.out (zz0)) (fun _ _ _ h=>h) (Or.inl ⟨zz17,?_⟩) ?_ ?_ ?_;rotate_left
         ·intro w'
          go_simp
          with_reducible rfl
         rotate_left
         ·simp only [zzs]
          rfl
         refine done_ (done_of HT_.out (zz0)) ?_
         try go_wp2
         go_ret
         exact ⟨zz6,zz5⟩
       ·rw [if_neg c10] at H
        exact absurd H (zz14)
      ·rw [if_neg c8] at H
       exact absurd H (zz14)
     ·rw [if_neg c7] at H;have c7b0:=decide_eq_false c7;clear c7;obtain rfl:=Option.some.inj H
      go_wp2
      go_ret
      exact ⟨zz6,zz5⟩
  ·rw [if_neg c5] at H;have c5b0:=beq_eq_false_iff_ne.mpr c5;have c5b1:=bne_iff_ne.mpr c5;obtain rfl:=Option.some.inj H;go_enter Try.func66,Try.ntmps66
   go_wp2_with (first|((with_reducible refine gate_callee (f:=33) rfl ?_);refine goesL_ (some 12) rfl rfl Try.func33 (zz0) rfl #[.slice A0 l0.length c0,.int .i64 a1,.int .i64 (-1)] rfl (zz16) ?_;(with_reducible refine (U36.calls k _ _ l0 a1 (-1) t578 _ ?side1 ?side2 A4.out).mono ?_);(case side1=>exact zz167);(case side2=>exact HC0.out);rintro e w19 ⟨rfl,hb⟩;refine ⟨_,rfl,?_⟩;replace HB:=Aside0.mk (below_step (zz5) hb);(try clear hb);(try clear hb2);(try clear hk);(try clear hi)))
   go_ret
   exact ⟨zz6,zz5⟩
end Go.Proofs.Ytmcegphcjphdcaa.QA
