import Derived.Test.YtmcegphcjphdcaaCBQAx0
import Derived.Test.YtmcegphcjphdcaaCBQAx6
import Derived.Test.YtmcegphcjphdcaaCBQAx7
import Derived.Test.YtmcegphcjphdcaaCBQAx9
namespace Go.Proofs.Ytmcegphcjphdcaa.QA
open Go.RowKit Go.Proofs.YtmcegphcjphdcaaW.PrintWords Go.Proofs.YtmcegphcjphdcaaW.PrintLast Go.Proofs.YtmcegphcjphdcaaW.PrintMore
attribute [local go_sem] max2_int min2_int max_two min_two max_three min_three max_four min_four
set_option linter.unusedVariables false
set_option linter.unusedSimpArgs false
def U32.l0:Nat→List (S56)→List Int→Int→Int→List Int→List Int→Option ((List (List Int)) × Int)
 | 0,_,_,_,_,_,_=>none
 | k+1,x1,x2,x3,x11,x283000,x283001=>if x11 < (x2.length:Int) then (if 0≤x11 then (if (rd x2 x11) < (-2) then (some (([]:List (List Int)),3)) else (if x11 < (x1.length:Int) then ((U25.f ((rd_T56 x1 x11).f0)).bind fun t288=>(if (rd x2 x11)≥t288 then (some (([]:List (List Int)),3)) else (U32.l0 k x1 x2 x3 (wrap64 (x11+1)) x283000 x283001))) else (none))) else (none)) else (if x3 < (-1) then (some (([]:List (List Int)),3)) else (if x3≥(x1.length:Int) then (some (([]:List (List Int)),3)) else ((U37.f k x283000 x283001 x1 x2 x3).bind fun t289=>(some (t289,0)))))
def U32.f (k:Nat) (l0_0:List Int) (l0_1:List Int) (l1:List (S56)) (l2:List Int) (a3:Int):Option ((List (List Int)) × Int):=(U24.f k l0_0 l0_1).bind fun t283=>(if t283 = 0 then (if (l1.length:Int) > 60 then (some (([]:List (List Int)),5)) else (if (l2.length:Int) = (l1.length:Int) then ((U36.f k l1 (l0_0.length:Int) (-1)).bind fun t284=>(if t284 = 0 then (U32.l0 k l1 l2 a3 0 l0_0 l0_1) else (some (([]:List (List Int)),t284)))) else (some (([]:List (List Int)),1)))) else (some (([]:List (List Int)),t283)))
theorem zm10_0 {P:Prop} (h:P:=by repeat' first|(with_reducible first|exact ih0 ..|exact U24.mono ..|exact U36.mono ..|exact U37.mono ..|exact LeO.refl _|exact LeO.none _|refine LeO.ite ?_ ?_|refine LeO.bind ?_ (fun _=>?_))|exact ih0 ..|exact U24.mono ..|exact U36.mono ..|exact U37.mono ..|exact LeO.none _|refine LeO.ite ?_ ?_|refine LeO.bind ?_ (fun _=>?_)):P:=h
theorem U32.mono_l:∀ k,(∀ y0 y1 y2 y3 y4 y5,LeO (U32.l0 k y0 y1 y2 y3 y4 y5) (U32.l0 (k+1) y0 y1 y2 y3 y4 y5))
 | 0=>fun _ _ _ _ _ _ r h=>by simp [U32.l0] at h
 | k+1=>by
  have ih0:=U32.mono_l k
  ·intro y0 y1 y2 y3 y4 y5;unfold U32.l0
   exact zm10_0
theorem U32.mono:∀ a0 a1 a2 a3 a4 k,LeO (U32.f k a0 a1 a2 a3 a4) (U32.f (k+1) a0 a1 a2 a3 a4):=by
 intro a0 a1 a2 a3 a4 k;have ih0:=U32.mono_l k;unfold U32.f
 exact zm10_0
def U32.T14:Bool × List (List Nat × List Nat):=(true,[([],[]),([],[]),([0,1],[0,1]),([2],[2]),([3],[3]),([4],[4]),([5],[5]),([5],[5]),([6,7,5],[5,6,7]),([8,5],[5,8]),([5],[5]),([5],[5]),([10,11,5],[5,10,11]),([12,5],[5,12]),([13,5,5],[5,13]),([9,14,5],[5,9,14]),([5,15],[5,15])])
def U32.B14:List Nat:=[0,0,3,7,15,31,63,63,255,511,63,63,3135,7231,15423,32767,65535]
theorem U32.tab14:rtab .any (opsOf Try.f11 14) = U32.T14:=zz0
theorem U32.bits14:waitsOk U32.T14.2 U32.B14 = true:=zz0
set_option maxHeartbeats 8000000 in
set_option maxRecDepth 100000 in
theorem U32.calls (k:Nat) (A0_0:Option Addr) (c0_0:Nat) (l0_0:List Int) (A0_1:Option Addr) (c0_1:Nat) (l0_1:List Int) (A1:Option Addr) (c1:Nat) (l1:List (S56)) (A2:Option Addr) (c2:Nat) (l2:List Int) (a3:Int) (r1:List (List Int)) (r2:Int) (w:World) (hr0_0:Kd.C (Kd.int .i64) w A0_0 l0_0.length l0_0) (hc0_0:l0_0.length≤c0_0) (hr0_1:Kd.C (Kd.int .i64) w A0_1 l0_1.length l0_1) (hc0_1:l0_1.length≤c0_1) (hr1:Kd.C k56 w A1 l1.length l1) (hc1:l1.length≤c1) (hr2:Kd.C (Kd.int .i64) w A2 l2.length l2) (hc2:l2.length≤c2) (h:U32.f k l0_0 l0_1 l1 l2 a3 = some (r1,r2)) :
  Calls Try.prog 11 #[.agg #[.slice A0_0 l0_0.length c0_0,.slice A0_1 l0_1.length c0_1],.slice A1 l1.length c1,.slice A2 l2.length c2,.int .i64 a3] w fun e w'=>∃ v0_:Value,e = .returned (.tuple #[v0_,.int .i64 r2])∧Kd.S (Kd.slice 65 (Kd.int .u32)) 32 w' w.heap.size (fun _=>True) v0_ r1∧Below w.heap.size w w':=by
 have hu24:=Try.underlying24;have hu56:=Try.underlying56;have HR0_0:=Aside0.mk hr0_0;have HC0_0:=Aside0.mk hc0_0;clear hr0_0 hc0_0;have HR0_1:=Aside0.mk hr0_1;have HC0_1:=Aside0.mk hc0_1;clear hr0_1 hc0_1;have HR1:=Aside0.mk hr1;have HC1:=Aside0.mk hc1;clear hr1 hc1;have HR2:=Aside0.mk hr2;have HC2:=Aside0.mk hc2;clear hr2 hc2;have HB:=Aside0.mk (Below.refl w.heap.size w);have H:((U24.f k l0_0 l0_1).bind fun t283=>(if t283 = 0 then (if (l1.length:Int) > 60 then (some (([]:List (List Int)),5)) else (if (l2.length:Int) = (l1.length:Int) then ((U36.f k l1 (l0_0.length:Int) (-1)).bind fun t284=>(if t284 = 0 then (U32.l0 k l1 l2 a3 0 l0_0 l0_1) else (some (([]:List (List Int)),t284)))) else (some (([]:List (List Int)),1)))) else (some (([]:List (List Int)),t283)))) = some (r1,r2):=h;clear h;replace H:=Option.bind_eq_some_iff.mp H;obtain ⟨t283,A50,H⟩:=H;have A5:=Aside0.mk A50;clear A50;by_cases c6:t283 = 0
 ·rw [if_pos c6] at H;have c6b0:=beq_iff_eq.mpr c6;have c6b1:=bne_eq_false_iff_eq.mpr c6;clear c6;by_cases c7:(l1.length:Int) > 60
  ·rw [if_pos c7] at H;have c7b0:=decide_eq_true c7;have c7b1:decide (60 < l1.length) = true:=decide_eq_true (zz4);clear c7;simp only [Option.some.injEq,Prod.mk.injEq] at H;obtain ⟨rfl,rfl⟩:=H;go_enter Try.func11,Try.ntmps11
   go_wp2_with (first|((with_reducible refine gate_dst (N:=4) rfl ?_);(try (refine gate_guard (zz17) ?_;dsimp only));refine box_event ?hg (N:=4) ?hd (cs:=#[.slice A0_0 l0_0.length c0_0,.slice A0_1 l0_1.length c0_1]) (t:=24) ?hr ?_;(case hd=>rfl);(case hg=>rfl);(case hr=>exact zz146);intro gb282 hg w8 hbox hb;have BK282:=Aside0.mk (hbox);have GW282:=Aside0.mk ((by rw [hg];exact (below_size (zz5)):w.heap.size≤gb282));have GE282:=Aside0.mk ((by rw [hg];exact (below_size (zz5)):w.heap.size≤gb282));replace HB:=Aside0.mk (below_step (zz5) hb);clear hb hbox hg;have hcz9_0:w8.cell? ⟨gb282,0,none⟩ = some (.slice A0_0 l0_0.length c0_0):=(blk_cell BK282.out 0).trans rfl;have hcz9_1:w8.cell? ⟨gb282,1,none⟩ = some (.slice A0_1 l0_1.length c0_1):=(blk_cell BK282.out 1).trans rfl;have hfz9_0:=blk_frozen BK282.out 0;have hfz9_1:=blk_frozen BK282.out 1)|((with_reducible refine gate_callee (f:=32) rfl ?_);refine goesL_ (some 13) rfl rfl Try.func32 (zz0) rfl #[.agg #[.slice A0_0 l0_0.length c0_0,.slice A0_1 l0_1.length c0_1]] rfl (zz16) ?_;(with_reducible refine (U24.calls k _ _ l0_0 _ _ l0_1 t283 _ ?side1 ?side2 ?side3 ?side4 A5.out).mono ?_);(case side1=>exact zz147);(case side2=>exact zz148);(case side3=>exact zz149);(case side4=>exact zz150);rintro e w10 ⟨rfl,hb⟩;refine ⟨_,rfl,?_⟩;replace BK282:=Aside0.mk (blk_below (zz63) hb);replace HB:=Aside0.mk (below_step (zz64) hb);(try clear hb);(try clear hb2);(try clear hk);(try clear hi)))
   go_ret2
   exact ⟨_,zz6,zz29,zz64⟩
  ·rw [if_neg c7] at H;have c7b0:=decide_eq_false c7;have c7b1:decide (60 < l1.length) = false:=decide_eq_false (zz4);clear c7;by_cases c11:(l2.length:Int) = (l1.length:Int)
   ·rw [if_pos c11] at H;have c11b0:=beq_iff_eq.mpr c11;have c11b1:=bne_eq_false_iff_eq.mpr c11;have c11b2:(l2.length == l1.length) = true:=zz52;clear c11;replace H:=Option.bind_eq_some_iff.mp H;obtain ⟨t284,A120,H⟩:=H;have A12:=Aside0.mk A120;clear A120;by_cases c13:t284 = 0
    ·rw [if_pos c13] at H;have c13b0:=beq_iff_eq.mpr c13;have c13b1:=bne_eq_false_iff_eq.mpr c13;clear c13;have H':=Aside0.mk H;clear H;go_enter Try.func11,Try.ntmps11
     go_wp2_with (first|((with_reducible refine gate_dst (N:=4) rfl ?_);(try (refine gate_guard (zz17) ?_;dsimp only));refine box_event ?hg (N:=4) ?hd (cs:=#[.slice A0_0 l0_0.length c0_0,.slice A0_1 l0_1.length c0_1]) (t:=24) ?hr ?_;(case hd=>rfl);(case hg=>rfl);(case hr=>exact zz146);intro gb282 hg w14 hbox hb;have BK282:=Aside0.mk (hbox);have GW282:=Aside0.mk ((by rw [hg];exact (below_size (zz5)):w.heap.size≤gb282));have GE282:=Aside0.mk ((by rw [hg];exact (below_size (zz5)):w.heap.size≤gb282));replace HB:=Aside0.mk (below_step (zz5) hb);clear hb hbox hg;have hcz15_0:w14.cell? ⟨gb282,0,none⟩ = some (.slice A0_0 l0_0.length c0_0):=(blk_cell BK282.out 0).trans rfl;have hcz15_1:w14.cell? ⟨gb282,1,none⟩ = some (.slice A0_1 l0_1.length c0_1):=(blk_cell BK282.out 1).trans rfl;have hfz15_0:=blk_frozen BK282.out 0;have hfz15_1:=blk_frozen BK282.out 1)|((with_reducible refine gate_callee (f:=32) rfl ?_);refine goesL_ (some 13) rfl rfl Try.func32 (zz0) rfl #[.agg #[.slice A0_0 l0_0.length c0_0,.slice A0_1 l0_1.length c0_1]] rfl (zz16) ?_;(with_reducible refine (U24.calls k _ _ l0_0 _ _ l0_1 t283 _ ?side1 ?side2 ?side3 ?side4 A5.out).mono ?_);(case side1=>exact zz147);(case side2=>exact zz148);(case side3=>exact zz149);(case side4=>exact zz150);rintro e w16 ⟨rfl,hb⟩;refine ⟨_,rfl,?_⟩;replace BK282:=Aside0.mk (blk_below (zz63) hb);replace HB:=Aside0.mk (below_step (zz64) hb);(try clear hb);(try clear hb2);(try clear hk);(try clear hi);have hcz17_0:w16.cell? ⟨gb282,0,none⟩ = some (.slice A0_0 l0_0.length c0_0):=(blk_cell BK282.out 0).trans rfl;have hcz17_1:w16.cell? ⟨gb282,1,none⟩ = some (.slice A0_1 l0_1.length c0_1):=(blk_cell BK282.out 1).trans rfl;have hfz17_0:=blk_frozen BK282.out 0;have hfz17_1:=blk_frozen BK282.out 1)|((with_reducible refine gate_callee (f:=33) rfl ?_);refine goesL_ (some 29) rfl rfl Try.func33 (zz0) rfl #[.slice A1 l1.length c1,.int .i64 (l0_0.length:Int),.int .i64 (-1)] rfl (zz16) ?_;(with_reducible refine (U36.calls k _ _ l1 (l0_0.length:Int) (-1) t284 _ ?side1 ?side2 A12.out).mono ?_);(case side1=>exact zz153);(case side2=>exact HC1.out);rintro e w18 ⟨rfl,hb⟩;refine ⟨_,rfl,?_⟩;replace BK282:=Aside0.mk (blk_below (zz63) hb);replace HB:=Aside0.mk (below_step (zz64) hb);(try clear hb);(try clear hb2);(try clear hk);(try clear hi)))
     go_loopg [11] k (fun kq v11 w'=>∃ (x11_1:Int),v11 = .int .i64 x11_1∧Aside0 (U32.l0 kq l1 l2 a3 x11_1 l0_0 l0_1 = some (r1,r2))∧Aside0 (kq≤k)∧Aside0 (w'.heap[gb282]? = some (.cells #[(.slice A0_0 l0_0.length c0_0),(.slice A0_1 l0_1.length c0_1)] 24 (0,0)))∧Aside0 (Below w.heap.size w w'))
     case atStart=>exact ⟨(0),(zz2),H',⟨Nat.le_refl _⟩,⟨zz63⟩,⟨zz64⟩⟩
     case round =>
      clear H'
      (try clear c1);(try clear c2);(try clear p2);(try clear c3);(try clear c6);(try clear c6b0);(try clear c6b1);(try clear c7);(try clear c7b0);(try clear c7b1);(try clear c11);(try clear c11b0);(try clear c11b1);(try clear c11b2);(try clear c13);(try clear c13b0);(try clear c13b1);(try clear hcz15_0);(try clear hcz15_1);(try clear hcz17_0);(try clear hcz17_1);(try clear hcz9_0);(try clear hcz9_1);(try clear hfz15_0);(try clear hfz15_1);(try clear hfz17_0);(try clear hfz17_1);(try clear hfz9_0);(try clear hfz9_1)
      obtain ⟨x11_1,rfl,HA,HK1,BK282,HB⟩:=hrel
      cases gk with
      | zero=>exact absurd HA.out (by simp [U32.l0])
      | succ k1 =>
       have H:=HA.out;clear HA;simp only [U32.l0] at H;by_cases c19:x11_1 < (l2.length:Int)
       ·rw [if_pos c19] at H;have c19b0:=decide_eq_true c19;clear c19;by_cases c20:0≤x11_1
        ·rw [if_pos c20] at H;have c20b0:=decide_eq_true c20;clear c20;by_cases c21:(rd l2 x11_1) < (-2)
         ·rw [if_pos c21] at H;have c21b0:=decide_eq_true c21;clear c21;simp only [Option.some.injEq,Prod.mk.injEq] at H;obtain ⟨rfl,rfl⟩:=H
          try go_wp2
          have n0_:=Aside0.mk (blk_drew BK282.out);have n1_:=Aside0.mk (below_drew1 HB.out);clear BK282;clear HB;have BK282:=n0_;have HB:=n1_;clear n0_ n1_;have p285:0≤(x11_1:Int):=of_decide_eq_true (zz11);have q285:x11_1 < (l2.length:Int):=of_decide_eq_true (zz11);obtain ⟨ad285,e285,hx285_0⟩:=Kd.at_int HR2.out x11_1 p285 q285;have hw285_0:=hx285_0
          cases e285
          replace hx285_0:=(HB.out.cell (World.block_lt_of_cell? w _ hx285_0)).trans hx285_0;replace p285:=eq_true p285;replace q285:=eq_true q285;refine start_ (n:=17) (S:=fun w'=>w'.cell? (ad285.add (x11_1).toNat) = some (.int .i64 (rd l2 x11_1))) (ds:=[]) #[false,false,false,false,false,false,false,false,false,false,false,false,false,false,false,false,false] (zz0) rfl rfl (((HB.out.cell (World.block_lt_of_cell? w _ hw285_0)).trans hw285_0)) (fun hHeld=>?_);refine with_tabW U32.tab14 U32.bits14 (fun HT_ HW_=>?_)
          generalize wr.drew = w22 at BK282 HB hx285_0 hHeld ⊢
          refine zzp 0 39 ?_ #[true,false,false,false,false,false,false,false,false,false,false,false,false,false,false,false,false] rfl rfl (any_of HT_.out (zz0)) (fun _ _ _ h=>h) (Or.inl ⟨zz17,?_⟩) ?_ ?_ ?_;rotate_left
          ·intro w'
           go_simp
           with_reducible rfl
          rotate_left
          ·simp only [zzs]
           rfl
          refine zzp 1 40 ?_ #[true,true,false,false,false,false,false,false,false,false,false,false,false,false,false,false,false] rfl rfl (any_of HT_.out (zz0)) (fun _ _ _ h=>h) (Or.inl ⟨zz17,?_⟩) ?_ ?_ ?_;rotate_left
          ·intro w'
           go_simp
           with_reducible rfl
          rotate_left
          ·simp only [zzs]
           rfl
          refine zzp 2 41 ?_ #[true,true,true,false,false,false,false,false,false,false,false,false,false,false,false,false,false] rfl rfl (any_of HT_.out (zz0)) (fun _ _ _ h=>h) (Or.inl ⟨zz17,?_⟩) ?_ ?_ ?_;rotate_left
          ·intro w'
           go_simp
           with_reducible rfl
          rotate_left
          ·simp only [zzs]
           rfl
          refine take_ (i:=3) (N:=some 42) (v:=?_) (a':=?_) #[true,true,true,true,false,false,false,false,false,false,false,false,false,false,false,false,false] rfl rfl (take_ofW HT_.out HW_.out (zz0)) (fun _ _ _ h=>h) (Or.inl ⟨zz17,?_⟩) hHeld ?_ ?_;rotate_left
          ·intro w' s0
           go_simp
           with_reducible rfl
          rotate_left
          ·simp only [zzs]
           rfl
          refine zzp 4 43 ?_ #[true,true,true,true,true,false,false,false,false,false,false,false,false,false,false,false,false] rfl rfl (any_of HT_.out (zz0)) (fun _ _ _ h=>h) (Or.inl ⟨zz17,?_⟩) ?_ ?_ ?_;rotate_left
          ·intro w'
           go_simp
           with_reducible rfl
          rotate_left
          ·simp only [zzs]
           rfl
          refine zzp 5 44 ?_ #[true,true,true,true,true,true,false,false,false,false,false,false,false,false,false,false,false] rfl rfl (any_of HT_.out (zz0)) (fun _ _ _ h=>h) (Or.inl ⟨zz17,?_⟩) ?_ ?_ ?_;rotate_left
          ·intro w'
           go_simp
           with_reducible rfl
          rotate_left
          ·simp only [zzs]
           rfl
          refine pure_ (i:=6) (N:=some 45) (v:=undef) (a':=?_) #[true,true,true,true,true,true,true,false,false,false,false,false,false,false,false,false,false] rfl rfl (any_of HT_.out (zz0)) (fun _ _ _ h=>h) (Or.inr ⟨zz17,rfl⟩) ?_ ?_;rotate_left
          ·simp only [zzs]
           rfl
          refine pure_ (i:=7) (N:=some 46) (v:=undef) (a':=?_) #[true,true,true,true,true,true,true,true,false,false,false,false,false,false,false,false,false] rfl rfl (any_of HT_.out (zz0)) (fun _ _ _ h=>h) (Or.inr ⟨zz17,rfl⟩) ?_ ?_;rotate_left
          ·simp only [zzs]
           rfl
          refine pure_ (i:=8) (N:=some 47) (v:=undef) (a':=?_) #[true,true,true,true,true,true,true,true,true,false,false,false,false,false,false,false,false] rfl rfl (any_of HT_.out (zz0)) (fun _ _ _ h=>h) (Or.inr ⟨zz17,rfl⟩) ?_ ?_;rotate_left
          ·simp only [zzs]
           rfl
          refine pure_ (i:=9) (N:=some 48) (v:=undef) (a':=?_) #[true,true,true,true,true,true,true,true,true,true,false,false,false,false,false,false,false] rfl rfl (any_of HT_.out (zz0)) (fun _ _ _ h=>h) (Or.inr ⟨zz17,rfl⟩) ?_ ?_;rotate_left
          ·simp only [zzs]
           rfl
          refine pure_ (i:=10) (N:=some 49) (v:=undef) (a':=?_) #[true,true,true,true,true,true,true,true,true,true,true,false,false,false,false,false,false] rfl rfl (any_of HT_.out (zz0)) (fun _ _ _ h=>h) (Or.inr ⟨zz17,rfl⟩) ?_ ?_;rotate_left
          ·simp only [zzs]
           rfl
          refine pure_ (i:=11) (N:=some 50) (v:=undef) (a':=?_) #[true,true,true,true,true,true,true,true,true,true,true,true,false,false,false,false,false] rfl rfl (any_of HT_.out (zz0)) (fun _ _ _ h=>h) (Or.inr ⟨zz17,rfl⟩) ?_ ?_;rotate_left
          ·simp only [zzs]
           rfl
          refine pure_ (i:=12) (N:=some 51) (v:=undef) (a':=?_) #[true,true,true,true,true,true,true,true,true,true,true,true,true,false,false,false,false] rfl rfl (any_of HT_.out (zz0)) (fun _ _ _ h=>h) (Or.inr ⟨zz17,rfl⟩) ?_ ?_;rotate_left
          ·simp only [zzs]
           rfl
          refine pure_ (i:=13) (N:=some 52) (v:=undef) (a':=?_) #[true,true,true,true,true,true,true,true,true,true,true,true,true,true,false,false,false] rfl rfl (any_of HT_.out (zz0)) (fun _ _ _ h=>h) (Or.inr ⟨zz17,rfl⟩) ?_ ?_;rotate_left
          ·simp only [zzs]
           rfl
          refine pure_ (i:=14) (N:=some 53) (v:=undef) (a':=?_) #[true,true,true,true,true,true,true,true,true,true,true,true,true,true,true,false,false] rfl rfl (any_of HT_.out (zz0)) (fun _ _ _ h=>h) (Or.inr ⟨zz17,rfl⟩) ?_ ?_;rotate_left
          ·simp only [zzs]
           rfl
          refine pure_ (i:=15) (N:=some 54) (v:=undef) (a':=?_) #[true,true,true,true,true,true,true,true,true,true,true,true,true,true,true,true,false] rfl rfl (any_of HT_.out (zz0)) (fun _ _ _ h=>h) (Or.inr ⟨zz17,rfl⟩) ?_ ?_;rotate_left
          ·simp only [zzs]
           rfl
          refine zzp 16 55 ?_ #[true,true,true,true,true,true,true,true,true,true,true,true,true,true,true,true,true] rfl rfl (any_of HT_.out (zz0)) (fun _ _ _ h=>h) (Or.inl ⟨zz17,?_⟩) ?_ ?_ ?_;rotate_left
          ·intro w'
           go_simp
           with_reducible rfl
          rotate_left
          ·simp only [zzs]
           rfl
          refine done_ (done_of HT_.out (zz0)) ?_
          try go_wp2
          go_ret2
          exact ⟨_,zz6,zz29,zz64⟩
         ·rw [if_neg c21] at H;have c21b0:=decide_eq_false c21;clear c21;by_cases c23:x11_1 < (l1.length:Int)
          ·rw [if_pos c23] at H;have c23b0:=decide_eq_true c23;clear c23;replace H:=Option.bind_eq_some_iff.mp H;obtain ⟨t288,A240,H⟩:=H;have A24:=Aside0.mk A240;clear A240;by_cases c25:(rd l2 x11_1)≥t288
           ·rw [if_pos c25] at H;have c25b0:=decide_eq_true c25;clear c25;simp only [Option.some.injEq,Prod.mk.injEq] at H;obtain ⟨rfl,rfl⟩:=H
            try go_wp2
            have n0_:=Aside0.mk (blk_drew BK282.out);have n1_:=Aside0.mk (below_drew1 HB.out);clear BK282;clear HB;have BK282:=n0_;have HB:=n1_;clear n0_ n1_;have p285:0≤(x11_1:Int):=of_decide_eq_true (zz11);have q285:x11_1 < (l2.length:Int):=of_decide_eq_true (zz11);obtain ⟨ad285,e285,hx285_0⟩:=Kd.at_int HR2.out x11_1 p285 q285;have hw285_0:=hx285_0
            cases e285
            replace hx285_0:=(HB.out.cell (World.block_lt_of_cell? w _ hx285_0)).trans hx285_0;replace p285:=eq_true p285;replace q285:=eq_true q285;have p286:0≤(x11_1:Int):=of_decide_eq_true (zz11);have q286:x11_1 < (l2.length:Int):=of_decide_eq_true (zz11);obtain ⟨ad286,e286,hx286_0⟩:=Kd.at_int HR2.out x11_1 p286 q286;have hw286_0:=hx286_0;obtain rfl:ad285 = ad286:=(by injection e286);replace hx286_0:=(HB.out.cell (World.block_lt_of_cell? w _ hx286_0)).trans hx286_0;replace p286:=eq_true p286;replace q286:=eq_true q286;have p287:0≤(x11_1:Int):=of_decide_eq_true (zz11);have q287:x11_1 < (l1.length:Int):=of_decide_eq_true (zz11);obtain ⟨ad287,A287_0,c287_0,e287,hx287_0,hl287_0,hi287_0⟩:=at_T56 HR1.out x11_1 p287 q287;have hw287_0:=hx287_0
            cases e287
            replace hx287_0:=(HB.out.cell (World.block_lt_of_cell? w _ hx287_0)).trans hx287_0;have HR287_0:=Aside0.mk hi287_0;have HC287_0:=Aside0.mk hl287_0;clear hi287_0 hl287_0;replace p287:=eq_true p287;replace q287:=eq_true q287;refine start_ (n:=17) (S:=fun w'=>w'.cell? (ad285.add (x11_1).toNat) = some (.int .i64 (rd l2 x11_1))∧w'.cell? (ad285.add (x11_1).toNat) = some (.int .i64 (rd l2 x11_1))∧w'.cell? (ad287.add (x11_1).toNat) = some (.slice A287_0 ((rd_T56 l1 x11_1).f0).length c287_0)) (ds:=[]) #[false,false,false,false,false,false,false,false,false,false,false,false,false,false,false,false,false] (zz0) rfl rfl ⟨((HB.out.cell (World.block_lt_of_cell? w _ hw285_0)).trans hw285_0),((HB.out.cell (World.block_lt_of_cell? w _ hw286_0)).trans hw286_0),((HB.out.cell (World.block_lt_of_cell? w _ hw287_0)).trans hw287_0)⟩ (fun hHeld=>?_);refine with_tabW U32.tab14 U32.bits14 (fun HT_ HW_=>?_)
            generalize wr.drew = w26 at BK282 HB HR287_0 hx285_0 hx286_0 hx287_0 hHeld ⊢
            refine zzp 0 39 ?_ #[true,false,false,false,false,false,false,false,false,false,false,false,false,false,false,false,false] rfl rfl (any_of HT_.out (zz0)) (fun _ _ _ h=>h) (Or.inl ⟨zz17,?_⟩) ?_ ?_ ?_;rotate_left
            ·intro w'
             go_simp
             with_reducible rfl
            rotate_left
            ·simp only [zzs]
             rfl
            refine zzp 1 40 ?_ #[true,true,false,false,false,false,false,false,false,false,false,false,false,false,false,false,false] rfl rfl (any_of HT_.out (zz0)) (fun _ _ _ h=>h) (Or.inl ⟨zz17,?_⟩) ?_ ?_ ?_;rotate_left
            ·intro w'
             go_simp
             with_reducible rfl
            rotate_left
            ·simp only [zzs]
             rfl
            refine zzp 2 41 ?_ #[true,true,true,false,false,false,false,false,false,false,false,false,false,false,false,false,false] rfl rfl (any_of HT_.out (zz0)) (fun _ _ _ h=>h) (Or.inl ⟨zz17,?_⟩) ?_ ?_ ?_;rotate_left
            ·intro w'
             go_simp
             with_reducible rfl
            rotate_left
            ·simp only [zzs]
             rfl
            refine take_ (i:=3) (N:=some 42) (v:=?_) (a':=?_) #[true,true,true,true,false,false,false,false,false,false,false,false,false,false,false,false,false] rfl rfl (take_ofW HT_.out HW_.out (zz0)) (fun _ _ _ h=>h) (Or.inl ⟨zz17,?_⟩) hHeld ?_ ?_;rotate_left
            ·rintro w' ⟨s0,s1,s2⟩
             go_simp
             with_reducible rfl
            rotate_left
            ·simp only [zzs]
             rfl
            refine zzp 4 43 ?_ #[true,true,true,true,true,false,false,false,false,false,false,false,false,false,false,false,false] rfl rfl (any_of HT_.out (zz0)) (fun _ _ _ h=>h) (Or.inl ⟨zz17,?_⟩) ?_ ?_ ?_;rotate_left
            ·intro w'
             go_simp
             with_reducible rfl
            rotate_left
            ·simp only [zzs]
             rfl
            refine zzp 5 44 ?_ #[true,true,true,true,true,true,false,false,false,false,false,false,false,false,false,false,false] rfl rfl (any_of HT_.out (zz0)) (fun _ _ _ h=>h) (Or.inl ⟨zz17,?_⟩) ?_ ?_ ?_;rotate_left
            ·intro w'
             go_simp
             with_reducible rfl
            rotate_left
            ·simp only [zzs]
             rfl
            refine zzp 6 45 ?_ #[true,true,true,true,true,true,true,false,false,false,false,false,false,false,false,false,false] rfl rfl (any_of HT_.out (zz0)) (fun _ _ _ h=>h) (Or.inl ⟨zz17,?_⟩) ?_ ?_ ?_;rotate_left
            ·intro w'
             go_simp
             with_reducible rfl
            rotate_left
            ·simp only [zzs]
             rfl
            refine zzp 7 46 ?_ #[true,true,true,true,true,true,true,true,false,false,false,false,false,false,false,false,false] rfl rfl (any_of HT_.out (zz0)) (fun _ _ _ h=>h) (Or.inl ⟨zz17,?_⟩) ?_ ?_ ?_;rotate_left
            ·intro w'
             go_simp
             with_reducible rfl
            rotate_left
            ·simp only [zzs]
             rfl
            refine zzp 8 47 ?_ #[true,true,true,true,true,true,true,true,true,false,false,false,false,false,false,false,false] rfl rfl (any_of HT_.out (zz0)) (fun _ _ _ h=>h) (Or.inl ⟨zz17,?_⟩) ?_ ?_ ?_;rotate_left
            ·intro w'
             go_simp
             with_reducible rfl
            rotate_left
            ·simp only [zzs]
             rfl
            refine zzp 10 49 ?_ #[true,true,true,true,true,true,true,true,true,false,true,false,false,false,false,false,false] rfl rfl (any_of HT_.out (zz0)) (fun _ _ _ h=>h) (Or.inl ⟨zz17,?_⟩) ?_ ?_ ?_;rotate_left
            ·intro w'
             go_simp
             with_reducible rfl
            rotate_left
            ·simp only [zzs]
             rfl
            refine zzp 11 50 ?_ #[true,true,true,true,true,true,true,true,true,false,true,true,false,false,false,false,false] rfl rfl (any_of HT_.out (zz0)) (fun _ _ _ h=>h) (Or.inl ⟨zz17,?_⟩) ?_ ?_ ?_;rotate_left
            ·intro w'
             go_simp
             with_reducible rfl
            rotate_left
            ·simp only [zzs]
             rfl
            refine zzp 12 51 ?_ #[true,true,true,true,true,true,true,true,true,false,true,true,true,false,false,false,false] rfl rfl (any_of HT_.out (zz0)) (fun _ _ _ h=>h) (Or.inl ⟨zz17,?_⟩) ?_ ?_ ?_;rotate_left
            ·intro w'
             go_simp
             with_reducible rfl
            rotate_left
            ·simp only [zzs]
             rfl
            refine take_ (i:=9) (N:=some 48) (v:=?_) (a':=?_) #[true,true,true,true,true,true,true,true,true,true,true,true,true,false,false,false,false] rfl rfl (take_ofW HT_.out HW_.out (zz0)) (fun _ _ _ h=>h) (Or.inl ⟨zz17,?_⟩) hHeld ?_ ?_;rotate_left
            ·rintro w' ⟨s0,s1,s2⟩
             go_simp
             with_reducible rfl
            rotate_left
            ·simp only [zzs]
             rfl
            refine take_ (i:=13) (N:=some 52) (v:=?_) (a':=?_) #[true,true,true,true,true,true,true,true,true,true,true,true,true,true,false,false,false] rfl rfl (take_ofW HT_.out HW_.out (zz0)) (fun _ _ _ h=>h) (Or.inl ⟨zz17,?_⟩) hHeld ?_ ?_;rotate_left
            ·rintro w' ⟨s0,s1,s2⟩
             go_simp
             with_reducible rfl
            rotate_left
            ·simp only [zzs]
             rfl
            refine one_ (i:=14) (N:=some 53) #[true,true,true,true,true,true,true,true,true,true,true,true,true,true,true,false,false] rfl rfl (one_of HT_.out (zz0)) (zz31) (fun K hK=>?_);refine goes_ Try.func34 (zz0) rfl #[.agg #[.slice A287_0 ((rd_T56 l1 x11_1).f0).length c287_0]] (zz17) rfl rfl (zz16) ?_
            with_reducible refine (U25.calls _ _ ((rd_T56 l1 x11_1).f0) t288 _ ?side1 ?side2 A24.out).mono ?_
            (case side1=>repeat (first|exact (Kd.C_below HR287_0.out HB.out)|(with_reducible refine Kd.C_alloc ?_ _)|(with_reducible refine Kd.C_drewN ?_ _)|(with_reducible refine Kd.C_drew ?_)))
            (case side2=>exact HC287_0.out)
            rintro e w27 ⟨rfl,hb⟩;refine ⟨_,rfl,?_⟩;have n0_:=Aside0.mk (blk_below (zz63) hb);have n1_:=Aside0.mk (below_step (zz64) hb);clear BK282;clear HB;have BK282:=n0_;have HB:=n1_;clear n0_ n1_
            (try clear hb)
            (try clear hb2)
            (try clear hk)
            (try clear hi)
            refine hK.out _ _ ⟨((HB.out.cell (World.block_lt_of_cell? w _ hw285_0)).trans hw285_0),((HB.out.cell (World.block_lt_of_cell? w _ hw286_0)).trans hw286_0),((HB.out.cell (World.block_lt_of_cell? w _ hw287_0)).trans hw287_0)⟩ (fun hHeld=>?_);clear hK K;refine norm_ (a':=?_) ?_ ?_;rotate_left
            ·show Act.put _ (some 53) _ = _
             simp only [zzs]
             rfl
            refine zzp 15 54 ?_ #[true,true,true,true,true,true,true,true,true,true,true,true,true,true,true,true,false] rfl rfl (any_of HT_.out (zz0)) (fun _ _ _ h=>h) (Or.inl ⟨zz17,?_⟩) ?_ ?_ ?_;rotate_left
            ·intro w'
             go_simp
             with_reducible rfl
            rotate_left
            ·simp only [zzs]
             rfl
            refine zzp 16 55 ?_ #[true,true,true,true,true,true,true,true,true,true,true,true,true,true,true,true,true] rfl rfl (any_of HT_.out (zz0)) (fun _ _ _ h=>h) (Or.inl ⟨zz17,?_⟩) ?_ ?_ ?_;rotate_left
            ·intro w'
             go_simp
             with_reducible rfl
            rotate_left
            ·simp only [zzs]
             rfl
            refine done_ (done_of HT_.out (zz0)) ?_
            try go_wp2
            go_ret2
            exact ⟨_,zz6,zz29,zz64⟩
           ·rw [if_neg c25] at H;have c25b0:=decide_eq_false c25;clear c25;have H':=Aside0.mk H;clear H
            try go_wp2
            have n0_:=Aside0.mk (blk_drew BK282.out);have n1_:=Aside0.mk (below_drew1 HB.out);clear BK282;clear HB;have BK282:=n0_;have HB:=n1_;clear n0_ n1_;have p285:0≤(x11_1:Int):=of_decide_eq_true (zz11);have q285:x11_1 < (l2.length:Int):=of_decide_eq_true (zz11);obtain ⟨ad285,e285,hx285_0⟩:=Kd.at_int HR2.out x11_1 p285 q285;have hw285_0:=hx285_0
            cases e285
            replace hx285_0:=(HB.out.cell (World.block_lt_of_cell? w _ hx285_0)).trans hx285_0;replace p285:=eq_true p285;replace q285:=eq_true q285;have p286:0≤(x11_1:Int):=of_decide_eq_true (zz11);have q286:x11_1 < (l2.length:Int):=of_decide_eq_true (zz11);obtain ⟨ad286,e286,hx286_0⟩:=Kd.at_int HR2.out x11_1 p286 q286;have hw286_0:=hx286_0;obtain rfl:ad285 = ad286:=(by injection e286);replace hx286_0:=(HB.out.cell (World.block_lt_of_cell? w _ hx286_0)).trans hx286_0;replace p286:=eq_true p286;replace q286:=eq_true q286;have p287:0≤(x11_1:Int):=of_decide_eq_true (zz11);have q287:x11_1 < (l1.length:Int):=of_decide_eq_true (zz11);obtain ⟨ad287,A287_0,c287_0,e287,hx287_0,hl287_0,hi287_0⟩:=at_T56 HR1.out x11_1 p287 q287;have hw287_0:=hx287_0
            cases e287
            replace hx287_0:=(HB.out.cell (World.block_lt_of_cell? w _ hx287_0)).trans hx287_0;have HR287_0:=Aside0.mk hi287_0;have HC287_0:=Aside0.mk hl287_0;clear hi287_0 hl287_0;replace p287:=eq_true p287;replace q287:=eq_true q287;refine start_ (n:=17) (S:=fun w'=>w'.cell? (ad285.add (x11_1).toNat) = some (.int .i64 (rd l2 x11_1))∧w'.cell? (ad285.add (x11_1).toNat) = some (.int .i64 (rd l2 x11_1))∧w'.cell? (ad287.add (x11_1).toNat) = some (.slice A287_0 ((rd_T56 l1 x11_1).f0).length c287_0)) (ds:=[]) #[false,false,false,false,false,false,false,false,false,false,false,false,false,false,false,false,false] (zz0) rfl rfl ⟨((HB.out.cell (World.block_lt_of_cell? w _ hw285_0)).trans hw285_0),((HB.out.cell (World.block_lt_of_cell? w _ hw286_0)).trans hw286_0),((HB.out.cell (World.block_lt_of_cell? w _ hw287_0)).trans hw287_0)⟩ (fun hHeld=>?_);refine with_tabW U32.tab14 U32.bits14 (fun HT_ HW_=>?_)
            generalize wr.drew = w28 at BK282 HB HR287_0 hx285_0 hx286_0 hx287_0 hHeld ⊢
            refine zzp 0 39 ?_ #[true,false,false,false,false,false,false,false,false,false,false,false,false,false,false,false,false] rfl rfl (any_of HT_.out (zz0)) (fun _ _ _ h=>h) (Or.inl ⟨zz17,?_⟩) ?_ ?_ ?_;rotate_left
            ·intro w'
             go_simp
             with_reducible rfl
            rotate_left
            ·simp only [zzs]
             rfl
            refine zzp 1 40 ?_ #[true,true,false,false,false,false,false,false,false,false,false,false,false,false,false,false,false] rfl rfl (any_of HT_.out (zz0)) (fun _ _ _ h=>h) (Or.inl ⟨zz17,?_⟩) ?_ ?_ ?_;rotate_left
            ·intro w'
             go_simp
             with_reducible rfl
            rotate_left
            ·simp only [zzs]
             rfl
            refine zzp 2 41 ?_ #[true,true,true,false,false,false,false,false,false,false,false,false,false,false,false,false,false] rfl rfl (any_of HT_.out (zz0)) (fun _ _ _ h=>h) (Or.inl ⟨zz17,?_⟩) ?_ ?_ ?_;rotate_left
            ·intro w'
             go_simp
             with_reducible rfl
            rotate_left
            ·simp only [zzs]
             rfl
            refine take_ (i:=3) (N:=some 42) (v:=?_) (a':=?_) #[true,true,true,true,false,false,false,false,false,false,false,false,false,false,false,false,false] rfl rfl (take_ofW HT_.out HW_.out (zz0)) (fun _ _ _ h=>h) (Or.inl ⟨zz17,?_⟩) hHeld ?_ ?_;rotate_left
            ·rintro w' ⟨s0,s1,s2⟩
             go_simp
             with_reducible rfl
            rotate_left
            ·simp only [zzs]
             rfl
            refine zzp 4 43 ?_ #[true,true,true,true,true,false,false,false,false,false,false,false,false,false,false,false,false] rfl rfl (any_of HT_.out (zz0)) (fun _ _ _ h=>h) (Or.inl ⟨zz17,?_⟩) ?_ ?_ ?_;rotate_left
            ·intro w'
             go_simp
             with_reducible rfl
            rotate_left
            ·simp only [zzs]
             rfl
            refine zzp 5 44 ?_ #[true,true,true,true,true,true,false,false,false,false,false,false,false,false,false,false,false] rfl rfl (any_of HT_.out (zz0)) (fun _ _ _ h=>h) (Or.inl ⟨zz17,?_⟩) ?_ ?_ ?_;rotate_left
            ·intro w'
             go_simp
             with_reducible rfl
            rotate_left
            ·simp only [zzs]
             rfl
            refine zzp 6 45 ?_ #[true,true,true,true,true,true,true,false,false,false,false,false,false,false,false,false,false] rfl rfl (any_of HT_.out (zz0)) (fun _ _ _ h=>h) (Or.inl ⟨zz17,?_⟩) ?_ ?_ ?_;rotate_left
            ·intro w'
             go_simp
             with_reducible rfl
            rotate_left
            ·simp only [zzs]
             rfl
            refine zzp 7 46 ?_ #[true,true,true,true,true,true,true,true,false,false,false,false,false,false,false,false,false] rfl rfl (any_of HT_.out (zz0)) (fun _ _ _ h=>h) (Or.inl ⟨zz17,?_⟩) ?_ ?_ ?_;rotate_left
            ·intro w'
             go_simp
             with_reducible rfl
            rotate_left
            ·simp only [zzs]
             rfl
            refine zzp 8 47 ?_ #[true,true,true,true,true,true,true,true,true,false,false,false,false,false,false,false,false] rfl rfl (any_of HT_.out (zz0)) (fun _ _ _ h=>h) (Or.inl ⟨zz17,?_⟩) ?_ ?_ ?_;rotate_left
            ·intro w'
             go_simp
             with_reducible rfl
            rotate_left
            ·simp only [zzs]
             rfl
            refine zzp 10 49 ?_ #[true,true,true,true,true,true,true,true,true,false,true,false,false,false,false,false,false] rfl rfl (any_of HT_.out (zz0)) (fun _ _ _ h=>h) (Or.inl ⟨zz17,?_⟩) ?_ ?_ ?_;rotate_left
            ·intro w'
             go_simp
             with_reducible rfl
            rotate_left
            ·simp only [zzs]
             rfl
            refine zzp 11 50 ?_ #[true,true,true,true,true,true,true,true,true,false,true,true,false,false,false,false,false] rfl rfl (any_of HT_.out (zz0)) (fun _ _ _ h=>h) (Or.inl ⟨zz17,?_⟩) ?_ ?_ ?_;rotate_left
            ·intro w'
             go_simp
             with_reducible rfl
            rotate_left
            ·simp only [zzs]
             rfl
            refine zzp 12 51 ?_ #[true,true,true,true,true,true,true,true,true,false,true,true,true,false,false,false,false] rfl rfl (any_of HT_.out (zz0)) (fun _ _ _ h=>h) (Or.inl ⟨zz17,?_⟩) ?_ ?_ ?_;rotate_left
            ·intro w'
             go_simp
             with_reducible rfl
            rotate_left
            ·simp only [zzs]
             rfl
            refine take_ (i:=9) (N:=some 48) (v:=?_) (a':=?_) #[true,true,true,true,true,true,true,true,true,true,true,true,true,false,false,false,false] rfl rfl (take_ofW HT_.out HW_.out (zz0)) (fun _ _ _ h=>h) (Or.inl ⟨zz17,?_⟩) hHeld ?_ ?_;rotate_left
            ·rintro w' ⟨s0,s1,s2⟩
             go_simp
             with_reducible rfl
            rotate_left
            ·simp only [zzs]
             rfl
            refine take_ (i:=13) (N:=some 52) (v:=?_) (a':=?_) #[true,true,true,true,true,true,true,true,true,true,true,true,true,true,false,false,false] rfl rfl (take_ofW HT_.out HW_.out (zz0)) (fun _ _ _ h=>h) (Or.inl ⟨zz17,?_⟩) hHeld ?_ ?_;rotate_left
            ·rintro w' ⟨s0,s1,s2⟩
             go_simp
             with_reducible rfl
            rotate_left
            ·simp only [zzs]
             rfl
            refine one_ (i:=14) (N:=some 53) #[true,true,true,true,true,true,true,true,true,true,true,true,true,true,true,false,false] rfl rfl (one_of HT_.out (zz0)) (zz31) (fun K hK=>?_);refine goes_ Try.func34 (zz0) rfl #[.agg #[.slice A287_0 ((rd_T56 l1 x11_1).f0).length c287_0]] (zz17) rfl rfl (zz16) ?_
            with_reducible refine (U25.calls _ _ ((rd_T56 l1 x11_1).f0) t288 _ ?side1 ?side2 A24.out).mono ?_
            (case side1=>repeat (first|exact (Kd.C_below HR287_0.out HB.out)|(with_reducible refine Kd.C_alloc ?_ _)|(with_reducible refine Kd.C_drewN ?_ _)|(with_reducible refine Kd.C_drew ?_)))
            (case side2=>exact HC287_0.out)
            rintro e w29 ⟨rfl,hb⟩;refine ⟨_,rfl,?_⟩;have n0_:=Aside0.mk (blk_below (zz63) hb);have n1_:=Aside0.mk (below_step (zz64) hb);clear BK282;clear HB;have BK282:=n0_;have HB:=n1_;clear n0_ n1_
            (try clear hb)
            (try clear hb2)
            (try clear hk)
            (try clear hi)
            refine hK.out _ _ ⟨((HB.out.cell (World.block_lt_of_cell? w _ hw285_0)).trans hw285_0),((HB.out.cell (World.block_lt_of_cell? w _ hw286_0)).trans hw286_0),((HB.out.cell (World.block_lt_of_cell? w _ hw287_0)).trans hw287_0)⟩ (fun hHeld=>?_);clear hK K;refine norm_ (a':=?_) ?_ ?_;rotate_left
            ·show Act.put _ (some 53) _ = _
             simp only [zzs]
             rfl
            refine zzp 15 54 ?_ #[true,true,true,true,true,true,true,true,true,true,true,true,true,true,true,true,false] rfl rfl (any_of HT_.out (zz0)) (fun _ _ _ h=>h) (Or.inl ⟨zz17,?_⟩) ?_ ?_ ?_;rotate_left
            ·intro w'
             go_simp
             with_reducible rfl
            rotate_left
            ·simp only [zzs]
             rfl
            refine zzp 16 55 ?_ #[true,true,true,true,true,true,true,true,true,true,true,true,true,true,true,true,true] rfl rfl (any_of HT_.out (zz0)) (fun _ _ _ h=>h) (Or.inl ⟨zz17,?_⟩) ?_ ?_ ?_;rotate_left
            ·intro w'
             go_simp
             with_reducible rfl
            rotate_left
            ·simp only [zzs]
             rfl
            refine done_ (done_of HT_.out (zz0)) ?_
            try go_wp2
            go_roundg k1
            case measure=>have:=HK1.out;omega
            case rel=>exact ⟨(wrap64 (x11_1+1)),(zz2),H',⟨zz12⟩,⟨zz63⟩,⟨zz64⟩⟩
          ·rw [if_neg c23] at H
           exact absurd H (zz14)
        ·rw [if_neg c20] at H
         exact absurd H (zz14)
       ·rw [if_neg c19] at H;have c19b0:=decide_eq_false c19;clear c19;by_cases c30:a3 < (-1)
        ·rw [if_pos c30] at H;have c30b0:=decide_eq_true c30;clear c30;simp only [Option.some.injEq,Prod.mk.injEq] at H;obtain ⟨rfl,rfl⟩:=H
         go_wp2
         go_ret2
         exact ⟨_,zz6,zz29,zz64⟩
        ·rw [if_neg c30] at H;have c30b0:=decide_eq_false c30;clear c30;by_cases c31:a3≥(l1.length:Int)
         ·rw [if_pos c31] at H;have c31b0:=decide_eq_true c31;clear c31;simp only [Option.some.injEq,Prod.mk.injEq] at H;obtain ⟨rfl,rfl⟩:=H
          go_wp2
          go_ret2
          exact ⟨_,zz6,zz29,zz64⟩
         ·rw [if_neg c31] at H;have c31b0:=decide_eq_false c31;clear c31;replace H:=Option.bind_eq_some_iff.mp H;obtain ⟨t289,A320,H⟩:=H;have A32:=Aside0.mk A320;clear A320;simp only [Option.some.injEq,Prod.mk.injEq] at H;obtain ⟨rfl,rfl⟩:=H;have hcz33_0:wr.cell? ⟨gb282,0,none⟩ = some (.slice A0_0 l0_0.length c0_0):=(blk_cell BK282.out 0).trans rfl;have hcz33_1:wr.cell? ⟨gb282,1,none⟩ = some (.slice A0_1 l0_1.length c0_1):=(blk_cell BK282.out 1).trans rfl;have hfz33_0:=blk_frozen BK282.out 0;have hfz33_1:=blk_frozen BK282.out 1
          go_wp2_with (first|((with_reducible refine gate_callee (f:=35) rfl ?_);refine goesL_ (some 68) rfl rfl Try.func35 (zz0) rfl #[.agg #[.slice A0_0 l0_0.length c0_0,.slice A0_1 l0_1.length c0_1],.slice A1 l1.length c1,.slice A2 l2.length c2,.int .i64 a3] rfl (zz16) ?_;(with_reducible refine (U37.calls k1 _ _ l0_0 _ _ l0_1 _ _ l1 _ _ l2 a3 t289 _ ?side1 ?side2 ?side3 ?side4 ?side5 ?side6 ?side7 ?side8 A32.out).mono ?_);(case side1=>exact zz147);(case side2=>exact zz148);(case side3=>exact zz149);(case side4=>exact zz150);(case side5=>exact zz153);(case side6=>exact HC1.out);(case side7=>exact zz154);(case side8=>exact HC2.out);rintro e w34 ⟨v290,rfl,ho0,hb⟩;refine ⟨_,rfl,?_⟩;have HO291:=Aside0.mk (Kd.S_lower ho0 (below_size (zz64)));replace BK282:=Aside0.mk (blk_below (zz63) hb);replace HB:=Aside0.mk (below_step (zz64) hb);(try clear hb);(try clear hb2);(try clear hk);(try clear hi);(try clear ho0)))
          go_ret2
          exact ⟨_,zz6,by (with_reducible repeat (first|apply Kd.S_alloc|apply Kd.S_drewN|apply Kd.S_drew));exact HO291.out,zz64⟩
    ·rw [if_neg c13] at H;have c13b0:=beq_eq_false_iff_ne.mpr c13;have c13b1:=bne_iff_ne.mpr c13;simp only [Option.some.injEq,Prod.mk.injEq] at H;obtain ⟨rfl,rfl⟩:=H;go_enter Try.func11,Try.ntmps11
     go_wp2_with (first|((with_reducible refine gate_dst (N:=4) rfl ?_);(try (refine gate_guard (zz17) ?_;dsimp only));refine box_event ?hg (N:=4) ?hd (cs:=#[.slice A0_0 l0_0.length c0_0,.slice A0_1 l0_1.length c0_1]) (t:=24) ?hr ?_;(case hd=>rfl);(case hg=>rfl);(case hr=>exact zz146);intro gb282 hg w35 hbox hb;have BK282:=Aside0.mk (hbox);have GW282:=Aside0.mk ((by rw [hg];exact (below_size (zz5)):w.heap.size≤gb282));have GE282:=Aside0.mk ((by rw [hg];exact (below_size (zz5)):w.heap.size≤gb282));replace HB:=Aside0.mk (below_step (zz5) hb);clear hb hbox hg;have hcz36_0:w35.cell? ⟨gb282,0,none⟩ = some (.slice A0_0 l0_0.length c0_0):=(blk_cell BK282.out 0).trans rfl;have hcz36_1:w35.cell? ⟨gb282,1,none⟩ = some (.slice A0_1 l0_1.length c0_1):=(blk_cell BK282.out 1).trans rfl;have hfz36_0:=blk_frozen BK282.out 0;have hfz36_1:=blk_frozen BK282.out 1)|((with_reducible refine gate_callee (f:=32) rfl ?_);refine goesL_ (some 13) rfl rfl Try.func32 (zz0) rfl #[.agg #[.slice A0_0 l0_0.length c0_0,.slice A0_1 l0_1.length c0_1]] rfl (zz16) ?_;(with_reducible refine (U24.calls k _ _ l0_0 _ _ l0_1 t283 _ ?side1 ?side2 ?side3 ?side4 A5.out).mono ?_);(case side1=>exact zz147);(case side2=>exact zz148);(case side3=>exact zz149);(case side4=>exact zz150);rintro e w37 ⟨rfl,hb⟩;refine ⟨_,rfl,?_⟩;replace BK282:=Aside0.mk (blk_below (zz63) hb);replace HB:=Aside0.mk (below_step (zz64) hb);(try clear hb);(try clear hb2);(try clear hk);(try clear hi);have hcz38_0:w37.cell? ⟨gb282,0,none⟩ = some (.slice A0_0 l0_0.length c0_0):=(blk_cell BK282.out 0).trans rfl;have hcz38_1:w37.cell? ⟨gb282,1,none⟩ = some (.slice A0_1 l0_1.length c0_1):=(blk_cell BK282.out 1).trans rfl;have hfz38_0:=blk_frozen BK282.out 0;have hfz38_1:=blk_frozen BK282.out 1)|((with_reducible refine gate_callee (f:=33) rfl ?_);refine goesL_ (some 29) rfl rfl Try.func33 (zz0) rfl #[.slice A1 l1.length c1,.int .i64 (l0_0.length:Int),.int .i64 (-1)] rfl (zz16) ?_;(with_reducible refine (U36.calls k _ _ l1 (l0_0.length:Int) (-1) t284 _ ?side1 ?side2 A12.out).mono ?_);(case side1=>exact zz153);(case side2=>exact HC1.out);rintro e w39 ⟨rfl,hb⟩;refine ⟨_,rfl,?_⟩;replace BK282:=Aside0.mk (blk_below (zz63) hb);replace HB:=Aside0.mk (below_step (zz64) hb);(try clear hb);(try clear hb2);(try clear hk);(try clear hi)))
     go_ret2
     exact ⟨_,zz6,zz29,zz64⟩
   ·rw [if_neg c11] at H;have c11b0:=beq_eq_false_iff_ne.mpr c11;have c11b1:=bne_iff_ne.mpr c11;have c11b2:(l2.length == l1.length) = false:=zz52;simp only [Option.some.injEq,Prod.mk.injEq] at H;obtain ⟨rfl,rfl⟩:=H;go_enter Try.func11,Try.ntmps11
    go_wp2_with (first|((with_reducible refine gate_dst (N:=4) rfl ?_);(try (refine gate_guard (zz17) ?_;dsimp only));refine box_event ?hg (N:=4) ?hd (cs:=#[.slice A0_0 l0_0.length c0_0,.slice A0_1 l0_1.length c0_1]) (t:=24) ?hr ?_;(case hd=>rfl);(case hg=>rfl);(case hr=>exact zz146);intro gb282 hg w40 hbox hb;have BK282:=Aside0.mk (hbox);have GW282:=Aside0.mk ((by rw [hg];exact (below_size (zz5)):w.heap.size≤gb282));have GE282:=Aside0.mk ((by rw [hg];exact (below_size (zz5)):w.heap.size≤gb282));replace HB:=Aside0.mk (below_step (zz5) hb);clear hb hbox hg;have hcz41_0:w40.cell? ⟨gb282,0,none⟩ = some (.slice A0_0 l0_0.length c0_0):=(blk_cell BK282.out 0).trans rfl;have hcz41_1:w40.cell? ⟨gb282,1,none⟩ = some (.slice A0_1 l0_1.length c0_1):=(blk_cell BK282.out 1).trans rfl;have hfz41_0:=blk_frozen BK282.out 0;have hfz41_1:=blk_frozen BK282.out 1)|((with_reducible refine gate_callee (f:=32) rfl ?_);refine goesL_ (some 13) rfl rfl Try.func32 (zz0) rfl #[.agg #[.slice A0_0 l0_0.length c0_0,.slice A0_1 l0_1.length c0_1]] rfl (zz16) ?_;(with_reducible refine (U24.calls k _ _ l0_0 _ _ l0_1 t283 _ ?side1 ?side2 ?side3 ?side4 A5.out).mono ?_);(case side1=>exact zz147);(case side2=>exact zz148);(case side3=>exact zz149);(case side4=>exact zz150);rintro e w42 ⟨rfl,hb⟩;refine ⟨_,rfl,?_⟩;replace BK282:=Aside0.mk (blk_below (zz63) hb);replace HB:=Aside0.mk (below_step (zz64) hb);(try clear hb);(try clear hb2);(try clear hk);(try clear hi)))
    go_ret2
    exact ⟨_,zz6,zz29,zz64⟩
 ·rw [if_neg c6] at H;have c6b0:=beq_eq_false_iff_ne.mpr c6;have c6b1:=bne_iff_ne.mpr c6;simp only [Option.some.injEq,Prod.mk.injEq] at H;obtain ⟨rfl,rfl⟩:=H;go_enter Try.func11,Try.ntmps11
  go_wp2_with (first|((with_reducible refine gate_dst (N:=4) rfl ?_);(try (refine gate_guard (zz17) ?_;dsimp only));refine box_event ?hg (N:=4) ?hd (cs:=#[.slice A0_0 l0_0.length c0_0,.slice A0_1 l0_1.length c0_1]) (t:=24) ?hr ?_;(case hd=>rfl);(case hg=>rfl);(case hr=>exact zz146);intro gb282 hg w43 hbox hb;have BK282:=Aside0.mk (hbox);have GW282:=Aside0.mk ((by rw [hg];exact (below_size (zz5)):w.heap.size≤gb282));have GE282:=Aside0.mk ((by rw [hg];exact (below_size (zz5)):w.heap.size≤gb282));replace HB:=Aside0.mk (below_step (zz5) hb);clear hb hbox hg;have hcz44_0:w43.cell? ⟨gb282,0,none⟩ = some (.slice A0_0 l0_0.length c0_0):=(blk_cell BK282.out 0).trans rfl;have hcz44_1:w43.cell? ⟨gb282,1,none⟩ = some (.slice A0_1 l0_1.length c0_1):=(blk_cell BK282.out 1).trans rfl;have hfz44_0:=blk_frozen BK282.out 0;have hfz44_1:=blk_frozen BK282.out 1)|((with_reducible refine gate_callee (f:=32) rfl ?_);refine goesL_ (some 13) rfl rfl Try.func32 (zz0) rfl #[.agg #[.slice A0_0 l0_0.length c0_0,.slice A0_1 l0_1.length c0_1]] rfl (zz16) ?_;(with_reducible refine (U24.calls k _ _ l0_0 _ _ l0_1 t283 _ ?side1 ?side2 ?side3 ?side4 A5.out).mono ?_);(case side1=>exact zz147);(case side2=>exact zz148);(case side3=>exact zz149);(case side4=>exact zz150);rintro e w45 ⟨rfl,hb⟩;refine ⟨_,rfl,?_⟩;replace BK282:=Aside0.mk (blk_below (zz63) hb);replace HB:=Aside0.mk (below_step (zz64) hb);(try clear hb);(try clear hb2);(try clear hk);(try clear hi)))
  go_ret2
  exact ⟨_,zz6,zz29,zz64⟩
end Go.Proofs.Ytmcegphcjphdcaa.QA
