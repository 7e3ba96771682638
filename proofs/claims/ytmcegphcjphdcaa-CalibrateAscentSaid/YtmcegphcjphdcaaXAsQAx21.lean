import Derived.Test.YtmcegphcjphdcaaXAsQAx0
import Derived.Test.YtmcegphcjphdcaaXAsQAx1
import Derived.Test.YtmcegphcjphdcaaXAsQAx2
import Derived.Test.YtmcegphcjphdcaaXAsQAx13
import Derived.Test.YtmcegphcjphdcaaXAsQAx20
namespace Go.Proofs.Ytmcegphcjphdcaa.QA
open Go.RowKit Go.Proofs.YtmcegphcjphdcaaW.PrintWords Go.Proofs.YtmcegphcjphdcaaW.PrintLast Go.Proofs.YtmcegphcjphdcaaW.PrintMore
attribute [local go_sem] max2_int min2_int max_two min_two max_three min_three max_four min_four
set_option linter.unusedVariables false
set_option linter.unusedSimpArgs false
mutual
def U3.l0:Nat→List (List (S56))→List Int→List (List (S56))→Int→Int→List Int→List Int→List Int→List Int→List (List Int)→Option (Int)
 | 0,_,_,_,_,_,_,_,_,_,_=>none
 | k+1,x2,x3,x27,x28,x29,x493000,x493001,x494000,x494001,x494002=>if x29 < x28 then (if 0≤x29 then (if x29 < (x27.length:Int) then (if ((rd_L6 x27 x29).length:Int) > 24 then (some 5) else (U3.l0 k x2 x3 x27 x28 (wrap64 (x29+1)) x493000 x493001 x494000 x494001 x494002)) else (none)) else (none)) else (if (x2.length:Int) = (x494001.length:Int) then (U3.j1 k x2 x3 ((x3.length:Int) != (x494001.length:Int)) x493000 x493001 x494000 x494001 x494002) else (U3.j1 k x2 x3 true x493000 x493001 x494000 x494001 x494002))
def U3.j1:Nat→List (List (S56))→List Int→Bool→List Int→List Int→List Int→List Int→List (List Int)→Option (Int)
 | 0,_,_,_,_,_,_,_,_=>none
 | k+1,x2,x3,x50,x493000,x493001,x494000,x494001,x494002=>if x50 = true then (some 1) else (U3.l1 k x2 x3 ([]:List Int) x2 (x2.length:Int) 0 x493000 x493001 x494000 x494001 x494002)
def U3.l1:Nat→List (List (S56))→List Int→List Int→List (List (S56))→Int→Int→List Int→List Int→List Int→List Int→List (List Int)→Option (Int)
 | 0,_,_,_,_,_,_,_,_,_,_,_=>none
 | k+1,x2,x3,x12,x51,x52,x53,x493000,x493001,x494000,x494001,x494002=>if x53 < x52 then (if 0≤x53 then (if x53 < (x51.length:Int) then ((U4.f k (rd_L6 x51 x53) (x493000.length:Int)).bind fun t497=>(if t497 = 0 then (if 0 < ((rd_L6 x51 x53).length:Int) then ((U21.f ((rd_T56 (rd_L6 x51 x53) 0).f0)).bind fun t499=>(if x12.length < 17592186044416 then (U3.l1 k x2 x3 (x12++[t499]) x51 x52 (wrap64 (x53+1)) x493000 x493001 x494000 x494001 x494002) else (none))) else (none)) else (some t497))) else (none)) else (none)) else ((U18.f k x494000 x494001 x494002 x12).bind fun t503=>(if t503 = 0 then (U3.l2 k x2 x3 (x3.length:Int) 0) else (some t503)))
def U3.l2:Nat→List (List (S56))→List Int→Int→Int→Option (Int)
 | 0,_,_,_,_=>none
 | k+1,x2,x79,x80,x81=>if x81 < x80 then (if 0≤x81 then (if x81 < (x79.length:Int) then (if (rd x79 x81) < 0 then (some 3) else (if x81 < (x2.length:Int) then (if (rd x79 x81)≥((rd_L6 x2 x81).length:Int) then (some 3) else (U3.l2 k x2 x79 x80 (wrap64 (x81+1)))) else (none))) else (none)) else (none)) else (some 0)
end
def U3.f (k:Nat) (l0_0:List Int) (l0_1:List Int) (l1_0:List Int) (l1_1:List Int) (l1_2:List (List Int)) (l2:List (List (S56))) (l3:List Int):Option (Int):=(U16.f k l0_0 l0_1).bind fun t494=>(if t494 = 0 then (if (l2.length:Int) > 60 then (some 5) else (U3.l0 k l2 l3 l2 (l2.length:Int) 0 l0_0 l0_1 l1_0 l1_1 l1_2)) else (some t494))
theorem zm21_0 {P:Prop} (h:P:=by repeat' first|(with_reducible first|exact ih0 ..|exact ih1 ..|exact ih2 ..|exact ih3 ..|exact U4.mono ..|exact U16.mono ..|exact U18.mono ..|exact LeO.refl _|exact LeO.none _|refine LeO.ite ?_ ?_|refine LeO.bind ?_ (fun _=>?_))|exact ih0 ..|exact ih1 ..|exact ih2 ..|exact ih3 ..|exact U4.mono ..|exact U16.mono ..|exact U18.mono ..|exact LeO.none _|refine LeO.ite ?_ ?_|refine LeO.bind ?_ (fun _=>?_)):P:=h
theorem U3.mono_l:∀ k,(∀ y0 y1 y2 y3 y4 y5 y6 y7 y8 y9,LeO (U3.l0 k y0 y1 y2 y3 y4 y5 y6 y7 y8 y9) (U3.l0 (k+1) y0 y1 y2 y3 y4 y5 y6 y7 y8 y9))∧(∀ y0 y1 y2 y3 y4 y5 y6 y7,LeO (U3.j1 k y0 y1 y2 y3 y4 y5 y6 y7) (U3.j1 (k+1) y0 y1 y2 y3 y4 y5 y6 y7))∧(∀ y0 y1 y2 y3 y4 y5 y6 y7 y8 y9 y10,LeO (U3.l1 k y0 y1 y2 y3 y4 y5 y6 y7 y8 y9 y10) (U3.l1 (k+1) y0 y1 y2 y3 y4 y5 y6 y7 y8 y9 y10))∧(∀ y0 y1 y2 y3,LeO (U3.l2 k y0 y1 y2 y3) (U3.l2 (k+1) y0 y1 y2 y3))
 | 0=>⟨fun _ _ _ _ _ _ _ _ _ _ r h=>by simp [U3.l0] at h,fun _ _ _ _ _ _ _ _ r h=>by simp [U3.j1] at h,fun _ _ _ _ _ _ _ _ _ _ _ r h=>by simp [U3.l1] at h,fun _ _ _ _ r h=>by simp [U3.l2] at h⟩
 | k+1=>by
  obtain ⟨ih0,ih1,ih2,ih3⟩:=U3.mono_l k;refine ⟨?_,?_,?_,?_⟩
  ·intro y0 y1 y2 y3 y4 y5 y6 y7 y8 y9;unfold U3.l0
   exact zm21_0
  ·intro y0 y1 y2 y3 y4 y5 y6 y7;unfold U3.j1
   exact zm21_0
  ·intro y0 y1 y2 y3 y4 y5 y6 y7 y8 y9 y10;unfold U3.l1
   exact zm21_0
  ·intro y0 y1 y2 y3;unfold U3.l2
   exact zm21_0
theorem U3.mono:∀ a0 a1 a2 a3 a4 a5 a6 k,LeO (U3.f k a0 a1 a2 a3 a4 a5 a6) (U3.f (k+1) a0 a1 a2 a3 a4 a5 a6):=by
 intro a0 a1 a2 a3 a4 a5 a6 k;obtain ⟨ih0,ih1,ih2,ih3⟩:=U3.mono_l k;unfold U3.f
 exact zm21_0
set_option maxHeartbeats 8000000 in
set_option maxRecDepth 100000 in
theorem U3.calls (k:Nat) (A0_0:Option Addr) (c0_0:Nat) (l0_0:List Int) (A0_1:Option Addr) (c0_1:Nat) (l0_1:List Int) (A1_0:Option Addr) (c1_0:Nat) (l1_0:List Int) (A1_1:Option Addr) (c1_1:Nat) (l1_1:List Int) (A1_2:Option Addr) (c1_2:Nat) (l1_2:List (List Int)) (A2:Option Addr) (c2:Nat) (l2:List (List (S56))) (A3:Option Addr) (c3:Nat) (l3:List Int) (r:Int) (w:World) (hr0_0:Kd.C (Kd.int .i64) w A0_0 l0_0.length l0_0) (hc0_0:l0_0.length≤c0_0) (hr0_1:Kd.C (Kd.int .i64) w A0_1 l0_1.length l0_1) (hc0_1:l0_1.length≤c0_1) (hr1_0:Kd.C (Kd.int .i64) w A1_0 l1_0.length l1_0) (hc1_0:l1_0.length≤c1_0) (hr1_1:Kd.C (Kd.int .i64) w A1_1 l1_1.length l1_1) (hc1_1:l1_1.length≤c1_1) (hr1_2:Kd.C (Kd.slice 3 (Kd.int .i64)) w A1_2 l1_2.length l1_2) (hc1_2:l1_2.length≤c1_2) (hr2:Kd.C (Kd.slice 56 k56) w A2 l2.length l2) (hc2:l2.length≤c2) (hr3:Kd.C (Kd.int .i64) w A3 l3.length l3) (hc3:l3.length≤c3) (h:U3.f k l0_0 l0_1 l1_0 l1_1 l1_2 l2 l3 = some r) :
  Calls Try.prog 46 #[.agg #[.slice A0_0 l0_0.length c0_0,.slice A0_1 l0_1.length c0_1],.agg #[.slice A1_0 l1_0.length c1_0,.slice A1_1 l1_1.length c1_1,.slice A1_2 l1_2.length c1_2],.slice A2 l2.length c2,.slice A3 l3.length c3] w fun e w'=>e = .returned (.int .i64 r)∧Below w.heap.size w w':=by
 have hu24:=Try.underlying24;have hu36:=Try.underlying36;have hu56:=Try.underlying56;have HR0_0:=Aside0.mk hr0_0;have HC0_0:=Aside0.mk hc0_0;clear hr0_0 hc0_0;have HR0_1:=Aside0.mk hr0_1;have HC0_1:=Aside0.mk hc0_1;clear hr0_1 hc0_1;have HR1_0:=Aside0.mk hr1_0;have HC1_0:=Aside0.mk hc1_0;clear hr1_0 hc1_0;have HR1_1:=Aside0.mk hr1_1;have HC1_1:=Aside0.mk hc1_1;clear hr1_1 hc1_1;have HR1_2:=Aside0.mk hr1_2;have HC1_2:=Aside0.mk hc1_2;clear hr1_2 hc1_2;have HR2:=Aside0.mk hr2;have HC2:=Aside0.mk hc2;clear hr2 hc2;have HR3:=Aside0.mk hr3;have HC3:=Aside0.mk hc3;clear hr3 hc3;have HB:=Aside0.mk (Below.refl w.heap.size w);have H:((U16.f k l0_0 l0_1).bind fun t494=>(if t494 = 0 then (if (l2.length:Int) > 60 then (some 5) else (U3.l0 k l2 l3 l2 (l2.length:Int) 0 l0_0 l0_1 l1_0 l1_1 l1_2)) else (some t494))) = some r:=h;clear h;replace H:=zzb H;obtain ⟨t494,A5,H⟩:=H;replace H:=zzj H;rcases H with ⟨c6,H⟩|⟨c6,H⟩
 ·have c6b0:=beq_iff_eq.mpr c6;have c6b1:=bne_eq_false_iff_eq.mpr c6;clear c6;replace H:=zzj H;rcases H with ⟨c7,H⟩|⟨c7,H⟩
  ·have c7b0:=decide_eq_true c7;have c7b1:decide (60 < l2.length) = true:=decide_eq_true (zz4);clear c7;obtain rfl:=Option.some.inj H;go_enter Try.func46,Try.ntmps46
   go_wp2_with (first|((with_reducible refine gate_dst (N:=4) rfl ?_);(try (refine gate_guard (zz19) ?_;dsimp only));refine box_event ?hg (N:=4) ?hd (cs:=#[.slice A0_0 l0_0.length c0_0,.slice A0_1 l0_1.length c0_1]) (t:=24) ?hr ?_;(case hd=>rfl);(case hg=>rfl);(case hr=>exact zz77);intro gb492 hg w8 hbox hb;have BK492:=Aside0.mk (hbox);have GW492:=Aside0.mk ((by rw [hg];exact (below_size (zz5)):w.heap.size≤gb492));have GE492:=Aside0.mk ((by rw [hg];exact (below_size (zz5)):w.heap.size≤gb492));replace HB:=Aside0.mk (below_step (zz5) hb);clear hb hbox hg)|((with_reducible refine gate_dst (N:=5) rfl ?_);(try (refine gate_guard (zz19) ?_;dsimp only));refine box_event ?hg (N:=5) ?hd (cs:=#[.slice A1_0 l1_0.length c1_0,.slice A1_1 l1_1.length c1_1,.slice A1_2 l1_2.length c1_2]) (t:=36) ?hr ?_;(case hd=>rfl);(case hg=>rfl);(case hr=>exact zz77);intro gb493 hg w9 hbox hb;have BK493:=Aside0.mk (hbox);have GW493:=Aside0.mk ((by rw [hg];exact (below_size (have h0_:=GE492;zz7)):w.heap.size≤gb493));have GE493:=Aside0.mk ((by rw [hg];exact (below_size (have h0_:=GE492;zz7)):w.heap.size≤gb493));replace HB:=Aside0.mk (below_step (have h0_:=GE492;zz7) hb);have NB492_493:=Aside0.mk ((by rw [hg];exact Nat.ne_of_lt (blk_lt (g:=gb492) (o:=.cells #[.slice A0_0 l0_0.length c0_0,.slice A0_1 l0_1.length c0_1] 24 (0,0)) (zz48)):gb492 ≠ gb493));have NB493_492:=Aside0.mk ((by rw [hg];exact Nat.ne_of_gt (blk_lt (g:=gb492) (o:=.cells #[.slice A0_0 l0_0.length c0_0,.slice A0_1 l0_1.length c0_1] 24 (0,0)) (zz48)):gb493 ≠ gb492));replace BK492:=Aside0.mk (blk_below (zz48) hb);clear hb hbox hg;have hnb10:=NB492_493.out;have hnc10:=NB493_492.out;obtain ⟨hcz11_0,hcz11_1,hfz11_0,hfz11_1⟩:=zc2 BK492.out)|((with_reducible refine gate_callee (f:=28) rfl ?_);refine goesL_ (some 20) rfl rfl Try.func28 (zz0) rfl #[.agg #[.slice A0_0 l0_0.length c0_0,.slice A0_1 l0_1.length c0_1]] rfl (zz18) ?_;(with_reducible refine (U16.calls k _ _ l0_0 _ _ l0_1 t494 _ ?_ ?_ ?_ ?_ A5.out).mono ?_);exact zz79;exact zz80;exact zz81;exact zz82;rintro e w12 ⟨rfl,hb⟩;refine ⟨_,rfl,?_⟩;replace BK492:=Aside0.mk (blk_below (zz48) hb);replace BK493:=Aside0.mk (blk_below (zz49) hb);replace HB:=Aside0.mk (below_step (zz50) hb);(try clear hb)))
   go_ret
   exact ⟨zz6,zz50⟩
  ·have c7b0:=decide_eq_false c7;have c7b1:decide (60 < l2.length) = false:=decide_eq_false (zz4);clear c7;have H':=Aside0.mk H;clear H;go_enter Try.func46,Try.ntmps46
   go_wp2_with (first|((with_reducible refine gate_dst (N:=4) rfl ?_);(try (refine gate_guard (zz19) ?_;dsimp only));refine box_event ?hg (N:=4) ?hd (cs:=#[.slice A0_0 l0_0.length c0_0,.slice A0_1 l0_1.length c0_1]) (t:=24) ?hr ?_;(case hd=>rfl);(case hg=>rfl);(case hr=>exact zz77);intro gb492 hg w13 hbox hb;have BK492:=Aside0.mk (hbox);have GW492:=Aside0.mk ((by rw [hg];exact (below_size (zz5)):w.heap.size≤gb492));have GE492:=Aside0.mk ((by rw [hg];exact (below_size (zz5)):w.heap.size≤gb492));replace HB:=Aside0.mk (below_step (zz5) hb);clear hb hbox hg)|((with_reducible refine gate_dst (N:=5) rfl ?_);(try (refine gate_guard (zz19) ?_;dsimp only));refine box_event ?hg (N:=5) ?hd (cs:=#[.slice A1_0 l1_0.length c1_0,.slice A1_1 l1_1.length c1_1,.slice A1_2 l1_2.length c1_2]) (t:=36) ?hr ?_;(case hd=>rfl);(case hg=>rfl);(case hr=>exact zz77);intro gb493 hg w14 hbox hb;have BK493:=Aside0.mk (hbox);have GW493:=Aside0.mk ((by rw [hg];exact (below_size (have h0_:=GE492;zz7)):w.heap.size≤gb493));have GE493:=Aside0.mk ((by rw [hg];exact (below_size (have h0_:=GE492;zz7)):w.heap.size≤gb493));replace HB:=Aside0.mk (below_step (have h0_:=GE492;zz7) hb);have NB492_493:=Aside0.mk ((by rw [hg];exact Nat.ne_of_lt (blk_lt (g:=gb492) (o:=.cells #[.slice A0_0 l0_0.length c0_0,.slice A0_1 l0_1.length c0_1] 24 (0,0)) (zz48)):gb492 ≠ gb493));have NB493_492:=Aside0.mk ((by rw [hg];exact Nat.ne_of_gt (blk_lt (g:=gb492) (o:=.cells #[.slice A0_0 l0_0.length c0_0,.slice A0_1 l0_1.length c0_1] 24 (0,0)) (zz48)):gb493 ≠ gb492));replace BK492:=Aside0.mk (blk_below (zz48) hb);clear hb hbox hg;have hnb15:=NB492_493.out;have hnc15:=NB493_492.out;obtain ⟨hcz16_0,hcz16_1,hfz16_0,hfz16_1⟩:=zc2 BK492.out)|((with_reducible refine gate_callee (f:=28) rfl ?_);refine goesL_ (some 20) rfl rfl Try.func28 (zz0) rfl #[.agg #[.slice A0_0 l0_0.length c0_0,.slice A0_1 l0_1.length c0_1]] rfl (zz18) ?_;(with_reducible refine (U16.calls k _ _ l0_0 _ _ l0_1 t494 _ ?_ ?_ ?_ ?_ A5.out).mono ?_);exact zz79;exact zz80;exact zz81;exact zz82;rintro e w17 ⟨rfl,hb⟩;refine ⟨_,rfl,?_⟩;replace BK492:=Aside0.mk (blk_below (zz48) hb);replace BK493:=Aside0.mk (blk_below (zz49) hb);replace HB:=Aside0.mk (below_step (zz50) hb);(try clear hb)))
   go_loopg [29] k (fun kq v29 w'=>∃ (x29_1:Int),v29 = .int .i64 x29_1∧Aside0 (U3.l0 kq l2 l3 l2 (l2.length:Int) x29_1 l0_0 l0_1 l1_0 l1_1 l1_2 = some r)∧Aside0 (kq≤k)∧Aside0 (w'.heap[gb492]? = some (.cells #[(.slice A0_0 l0_0.length c0_0),(.slice A0_1 l0_1.length c0_1)] 24 (0,0)))∧Aside0 (w'.heap[gb493]? = some (.cells #[(.slice A1_0 l1_0.length c1_0),(.slice A1_1 l1_1.length c1_1),(.slice A1_2 l1_2.length c1_2)] 36 (0,0)))∧Aside0 (Below w.heap.size w w'))
   case atStart=>exact ⟨(0),(zz2),H',⟨Nat.le_refl _⟩,⟨zz48⟩,⟨zz49⟩,⟨zz50⟩⟩
   case round =>
    clear H'
    (try clear c2);(try clear c3);clear c6b0 c6b1 c7b0 c7b1;(try clear hcz16_0);(try clear hcz16_1);(try clear hfz16_0);(try clear hfz16_1)
    obtain ⟨x29_1,rfl,HA,HK1,BK492,BK493,HB⟩:=hrel
    cases gk with
    | zero=>exact absurd HA.out (by simp [U3.l0])
    | succ k1 =>
     have H:=HA.out;clear HA;simp only [U3.l0] at H;replace H:=zzj H;rcases H with ⟨c18,H⟩|⟨c18,H⟩
     ·have c18b0:=decide_eq_true c18;clear c18;replace H:=zzi H;obtain ⟨c19,H⟩:=H;have c19b0:=decide_eq_true c19;clear c19;replace H:=zzi H;obtain ⟨c20,H⟩:=H;have c20b0:=decide_eq_true c20;clear c20;replace H:=zzj H;rcases H with ⟨c21,H⟩|⟨c21,H⟩
      ·have c21b0:=decide_eq_true c21;have c21b1:decide (24 < (rd_L6 l2 x29_1).length) = true:=decide_eq_true (zz4);clear c21;obtain rfl:=Option.some.inj H;have p495:0≤(x29_1:Int):=of_decide_eq_true (zz11);have q495:x29_1 < (l2.length:Int):=of_decide_eq_true (zz11);obtain ⟨ad495,A495_0,c495_0,e495,hx495_0,hl495_0,hi495_0⟩:=at_L6 HR2.out x29_1 p495 q495
       cases e495
       replace hx495_0:=(HB.out.cell (World.block_lt_of_cell? w _ hx495_0)).trans hx495_0;have HR495_0:=Aside0.mk hi495_0;have HC495_0:=Aside0.mk hl495_0;clear hi495_0 hl495_0;replace p495:=eq_true p495;replace q495:=eq_true q495
       go_wp2
       go_ret
       exact ⟨zz6,zz50⟩
      ·have c21b0:=decide_eq_false c21;have c21b1:decide (24 < (rd_L6 l2 x29_1).length) = false:=decide_eq_false (zz4);clear c21;have H':=Aside0.mk H;clear H;have p495:0≤(x29_1:Int):=of_decide_eq_true (zz11);have q495:x29_1 < (l2.length:Int):=of_decide_eq_true (zz11);obtain ⟨ad495,A495_0,c495_0,e495,hx495_0,hl495_0,hi495_0⟩:=at_L6 HR2.out x29_1 p495 q495
       cases e495
       replace hx495_0:=(HB.out.cell (World.block_lt_of_cell? w _ hx495_0)).trans hx495_0;have HR495_0:=Aside0.mk hi495_0;have HC495_0:=Aside0.mk hl495_0;clear hi495_0 hl495_0;replace p495:=eq_true p495;replace q495:=eq_true q495
       go_wp2
       go_roundg k1
       case measure=>have:=HK1.out;omega
       case rel=>exact ⟨(wrap64 (x29_1+1)),(zz2),H',⟨zz12⟩,⟨zz48⟩,⟨zz49⟩,⟨zz50⟩⟩
     ·have c18b0:=decide_eq_false c18;clear c18;have HC22:=Aside0.mk H;clear H
      go_upto_region 12 with (fail)
      go_cut [50] (fun v50 wc=>∃ (kq:Nat) (x50_21:Bool),v50 = .bool x50_21∧Aside0 (U3.j1 kq l2 l3 x50_21 l0_0 l0_1 l1_0 l1_1 l1_2 = some r)∧Aside0 (kq≤k1)∧Aside0 (wc.heap[gb492]? = some (.cells #[(.slice A0_0 l0_0.length c0_0),(.slice A0_1 l0_1.length c0_1)] 24 (0,0)))∧Aside0 (wc.heap[gb493]? = some (.cells #[(.slice A1_0 l1_0.length c1_0),(.slice A1_1 l1_1.length c1_1),(.slice A1_2 l1_2.length c1_2)] 36 (0,0)))∧Aside0 (Below w.heap.size w wc))
      case first =>
       have H:=HC22.out;clear HC22;replace H:=zzj H;rcases H with ⟨c23,H⟩|⟨c23,H⟩
       ·have c23b0:=beq_iff_eq.mpr c23;have c23b1:=bne_eq_false_iff_eq.mpr c23;have c23b2:(l2.length == l1_1.length) = true:=(have h0_:=c23;zz8);clear c23
        (first|rw [c23b0]|rw [c23b1]|(simp only [i64_w,i32_w];rw [c23b0])|skip)
        have H':=Aside0.mk H;clear H;have hnb24:=NB493_492.out;have hnc24:=NB492_493.out;obtain ⟨hcz25_0,hcz25_1,hcz25_2,hfz25_0,hfz25_1,hfz25_2⟩:=zc3 BK493.out
        go_wp2
        go_meet
        case rel=>exact ⟨_,(((l3.length:Int) != (l1_1.length:Int))),(zz2),H',⟨(have h0_:=HK1;zz33)⟩,⟨zz48⟩,⟨zz49⟩,⟨zz50⟩⟩
       ·have c23b0:=beq_eq_false_iff_ne.mpr c23;have c23b1:=bne_iff_ne.mpr c23;have c23b2:(l2.length == l1_1.length) = false:=(have h0_:=c23;zz8)
        (first|rw [c23b0]|rw [c23b1]|(simp only [i64_w,i32_w];rw [c23b0])|skip)
        have H':=Aside0.mk H;clear H;have hnb26:=NB493_492.out;have hnc26:=NB492_493.out;obtain ⟨hcz27_0,hcz27_1,hcz27_2,hfz27_0,hfz27_1,hfz27_2⟩:=zc3 BK493.out
        go_wp2
        go_meet
        case rel=>exact ⟨_,(true),(zz2),H',⟨(have h0_:=HK1;zz33)⟩,⟨zz48⟩,⟨zz49⟩,⟨zz50⟩⟩
      case rest =>
       clear HC22;clear c18b0;(try clear hcz11_0);(try clear hcz11_1);(try clear hcz16_0);(try clear hcz16_1);(try clear hfz11_0);(try clear hfz11_1);(try clear hfz16_0);(try clear hfz16_1);obtain ⟨kq,x50_21,rfl,HA,HJ21,BK492,BK493,HB⟩:=hcut
       cases kq with
       | zero=>exact absurd HA.out (by simp [U3.j1])
       | succ kj21 =>
        have H:=HA.out;clear HA;simp only [U3.j1] at H;by_cases c28:x50_21 = true
        ·subst c28;have H1:(some 1) = some r:=zz10;clear H;have H:=H1;clear H1;obtain rfl:=Option.some.inj H
         go_wp2
         go_ret
         exact ⟨zz6,zz50⟩
        ·replace c28:=Bool.eq_false_iff.mpr c28;subst c28;have H1:(U3.l1 kj21 l2 l3 ([]:List Int) l2 (l2.length:Int) 0 l0_0 l0_1 l1_0 l1_1 l1_2) = some r:=zz13;clear H;have H:=H1;clear H1;have H':=Aside0.mk H;clear H
         go_wp2
         go_loopg [12,53] kj21 (fun kq v12 v53 w'=>∃ (x12_3:List Int) (x53_3:Int),v53 = .int .i64 x53_3∧Aside0 (U3.l1 kq l2 l3 x12_3 l2 (l2.length:Int) x53_3 l0_0 l0_1 l1_0 l1_1 l1_2 = some r)∧Aside0 (kq≤kj21)∧Aside0 (Kd.R (Kd.int .i64) 3 w' w.heap.size (fun _=>True) v12 x12_3)∧Aside0 (w'.heap[gb492]? = some (.cells #[(.slice A0_0 l0_0.length c0_0),(.slice A0_1 l0_1.length c0_1)] 24 (0,0)))∧Aside0 (w'.heap[gb493]? = some (.cells #[(.slice A1_0 l1_0.length c1_0),(.slice A1_1 l1_1.length c1_1),(.slice A1_2 l1_2.length c1_2)] 36 (0,0)))∧Aside0 (Below w.heap.size w w'))
         case atStart=>exact ⟨(([]:List Int)),(0),(zz2),H',⟨Nat.le_refl _⟩,⟨zz42⟩,⟨zz48⟩,⟨zz49⟩,⟨zz50⟩⟩
         case round =>
          clear H'
          (try clear hx4);(try clear c28);(try clear hcz11_0);(try clear hcz11_1);(try clear hcz16_0);(try clear hcz16_1);(try clear hcz25_0);(try clear hcz25_1);(try clear hcz25_2);(try clear hcz27_0);(try clear hcz27_1);(try clear hcz27_2);(try clear hfz11_0);(try clear hfz11_1);(try clear hfz16_0);(try clear hfz16_1);(try clear hfz25_0);(try clear hfz25_1);(try clear hfz25_2);(try clear hfz27_0);(try clear hfz27_1);(try clear hfz27_2);(try clear hx495_0)
          obtain ⟨x12_3,x53_3,rfl,HA,HK3,HO_12,BK492,BK493,HB⟩:=hrel
          cases gk with
          | zero=>exact absurd HA.out (by simp [U3.l1])
          | succ k3 =>
           have H:=HA.out;clear HA;simp only [U3.l1] at H;replace H:=zzj H;rcases H with ⟨c29,H⟩|⟨c29,H⟩
           ·have c29b0:=decide_eq_true c29;clear c29;replace H:=zzi H;obtain ⟨c30,H⟩:=H;have c30b0:=decide_eq_true c30;clear c30;replace H:=zzi H;obtain ⟨c31,H⟩:=H;have c31b0:=decide_eq_true c31;clear c31;replace H:=zzb H;obtain ⟨t497,A32,H⟩:=H;replace H:=zzj H;rcases H with ⟨c33,H⟩|⟨c33,H⟩
            ·have c33b0:=beq_iff_eq.mpr c33;have c33b1:=bne_eq_false_iff_eq.mpr c33;clear c33;replace H:=zzi H;obtain ⟨c34,H⟩:=H;have c34b0:=decide_eq_true c34;have c34b1:decide (0 < (rd_L6 l2 x53_3).length) = true:=decide_eq_true (zz4);clear c34;replace H:=zzb H;obtain ⟨t499,A35,H⟩:=H;replace H:=zzi H;obtain ⟨c36,H⟩:=H;have LMc36:=Aside0.mk c36;clear c36;obtain ⟨y500,hy500⟩:∃ y_:List Int,y_ = (x12_3++[t499]):=⟨_,rfl⟩;replace H:(U3.l1 k3 l2 l3 y500 l2 (l2.length:Int) (wrap64 (x53_3+1)) l0_0 l0_1 l1_0 l1_1 l1_2) = some r:=(have h0_:=hy500;zz23);have Ny500:=Aside0.mk hy500;clear hy500;have H':=Aside0.mk H;clear H;have p496:0≤(x53_3:Int):=of_decide_eq_true (zz11);have q496:x53_3 < (l2.length:Int):=of_decide_eq_true (zz11);obtain ⟨ad496,A496_0,c496_0,e496,hx496_0,hl496_0,hi496_0⟩:=at_L6 HR2.out x53_3 p496 q496
             cases e496
             replace hx496_0:=(HB.out.cell (World.block_lt_of_cell? w _ hx496_0)).trans hx496_0;have HR496_0:=Aside0.mk hi496_0;have HC496_0:=Aside0.mk hl496_0;clear hi496_0 hl496_0;replace p496:=eq_true p496;replace q496:=eq_true q496;have hnb37:=NB492_493.out;have hnc37:=NB493_492.out;obtain ⟨hcz38_0,hcz38_1,hfz38_0,hfz38_1⟩:=zc2 BK492.out
             go_wp2_with (first|((with_reducible refine gate_callee (f:=50) rfl ?_);refine goesL_ (some 61) rfl rfl Try.func50 (zz0) rfl #[.slice A496_0 (rd_L6 l2 x53_3).length c496_0,.int .i64 (l0_0.length:Int)] rfl (zz18) ?_;(with_reducible refine (U4.calls k3 _ _ (rd_L6 l2 x53_3) (l0_0.length:Int) t497 _ ?_ ?_ A32.out).mono ?_);(exact (have h0_:=HR496_0;zz78));exact HC496_0.out;rintro e w39 ⟨rfl,hb⟩;refine ⟨_,rfl,?_⟩;replace HO_12:=Aside0.mk (Kd.R_below (have h0_:=HO_12;zz24) hb);replace BK492:=Aside0.mk (blk_below (zz48) hb);replace BK493:=Aside0.mk (blk_below (zz49) hb);replace HB:=Aside0.mk (below_step (zz50) hb);(try clear hb);have p498:0≤(0:Int):=(zz4);have q498:0 < ((rd_L6 l2 x53_3).length:Int):=of_decide_eq_true (zz11);obtain ⟨ad498,A498_0,c498_0,e498,hx498_0,hl498_0,hi498_0⟩:=at_T56 HR496_0.out 0 p498 q498;cases e498;have qi498:(0 < (rd_L6 l2 x53_3).length) = True:=eq_true (zz4);(try rw [show ((0:Int)).toNat = 0 from rfl] at hx498_0);(try rw [Addr.add_zero'] at hx498_0);replace hx498_0:=(HB.out.cell (World.block_lt_of_cell? w _ hx498_0)).trans hx498_0;have HR498_0:=Aside0.mk hi498_0;have HC498_0:=Aside0.mk hl498_0;clear hi498_0 hl498_0;replace p498:=eq_true p498;replace q498:=eq_true q498)|((with_reducible refine gate_callee (f:=30) rfl ?_);refine goesL_ (some 69) rfl rfl Try.func30 (zz0) rfl #[.agg #[.slice A498_0 ((rd_T56 (rd_L6 l2 x53_3) 0).f0).length c498_0]] rfl (zz18) ?_;(with_reducible refine (U21.calls _ _ ((rd_T56 (rd_L6 l2 x53_3) 0).f0) t499 _ ?_ ?_ A35.out).mono ?_);(exact (have h0_:=HR498_0;zz78));exact HC498_0.out;rintro e w40 ⟨rfl,hb⟩;refine ⟨_,rfl,?_⟩;replace HO_12:=Aside0.mk (Kd.R_below (have h0_:=HO_12;zz24) hb);replace BK492:=Aside0.mk (blk_below (zz48) hb);replace BK493:=Aside0.mk (blk_below (zz49) hb);replace HB:=Aside0.mk (below_step (zz50) hb);(try clear hb))|((with_reducible refine gate_builtin (b:=.append) (xs:=#[.tmp 65,.tmp 70]) rfl ?_);(try (refine gate_guard (zz19) ?_;dsimp only));at_builtin;refine Kd.R_append (Kd.int .i64) (w0:=w) w.heap.size rfl (.tmp 65) (.tmp 70) 22 3 (.int .i64 0) 8 rfl Try.underlying22 info3 rfl (zz27) (zz4) u12 x12_3 t499 [.int .i64 t499] (fun _=>True) (fun _=>False) rfl rfl ?aP (fun _ hk=>hk.elim) ?aF ?aO ?aB ?aS ?aL ?_;(case aP=>exact rfl);(case aB=>exact (zz50));(case aF=>exact (fun _ _=>trivial));(case aO=>exact (have h0_:=HO_12;zz24));(case aS=>exact (below_size (zz50)));(case aL=>have:=LMc36.out;omega);intro v501 w41 ho hb hg hat;rw [← Ny500.out] at ho;replace BK492:=Aside0.mk (blk_grown (g:=gb492) (o:=.cells #[.slice A0_0 l0_0.length c0_0,.slice A0_1 l0_1.length c0_1] 24 (0,0)) (zz48) hg (Kd.R_ne HO_12.out BK492.out (zz27)));replace BK493:=Aside0.mk (blk_grown (g:=gb493) (o:=.cells #[.slice A1_0 l1_0.length c1_0,.slice A1_1 l1_1.length c1_1,.slice A1_2 l1_2.length c1_2] 36 (0,0)) (zz49) hg (Kd.R_ne HO_12.out BK493.out (zz27)));replace HB:=Aside0.mk (hb);have HO502:=Aside0.mk (ho);clear HO_12;clear ho hb hg hat))
             go_roundg k3
             case measure=>have:=HK1.out;have:=HJ21.out;have:=HK3.out;omega
             case rel=>exact ⟨(y500),(wrap64 (x53_3+1)),(zz2),H',⟨by have:=HK1.out;have:=HJ21.out;have:=HK3.out;omega⟩,⟨(have h0_:=HO502;zz24)⟩,⟨zz48⟩,⟨zz49⟩,⟨zz50⟩⟩
            ·have c33b0:=beq_eq_false_iff_ne.mpr c33;have c33b1:=bne_iff_ne.mpr c33;obtain rfl:=Option.some.inj H;have p496:0≤(x53_3:Int):=of_decide_eq_true (zz11);have q496:x53_3 < (l2.length:Int):=of_decide_eq_true (zz11);obtain ⟨ad496,A496_0,c496_0,e496,hx496_0,hl496_0,hi496_0⟩:=at_L6 HR2.out x53_3 p496 q496
             cases e496
             replace hx496_0:=(HB.out.cell (World.block_lt_of_cell? w _ hx496_0)).trans hx496_0;have HR496_0:=Aside0.mk hi496_0;have HC496_0:=Aside0.mk hl496_0;clear hi496_0 hl496_0;replace p496:=eq_true p496;replace q496:=eq_true q496;have hnb42:=NB492_493.out;have hnc42:=NB493_492.out;obtain ⟨hcz43_0,hcz43_1,hfz43_0,hfz43_1⟩:=zc2 BK492.out
             go_wp2_with (first|((with_reducible refine gate_callee (f:=50) rfl ?_);refine goesL_ (some 61) rfl rfl Try.func50 (zz0) rfl #[.slice A496_0 (rd_L6 l2 x53_3).length c496_0,.int .i64 (l0_0.length:Int)] rfl (zz18) ?_;(with_reducible refine (U4.calls k3 _ _ (rd_L6 l2 x53_3) (l0_0.length:Int) t497 _ ?_ ?_ A32.out).mono ?_);(exact (have h0_:=HR496_0;zz78));exact HC496_0.out;rintro e w44 ⟨rfl,hb⟩;refine ⟨_,rfl,?_⟩;replace HO_12:=Aside0.mk (Kd.R_below (have h0_:=HO_12;zz24) hb);replace BK492:=Aside0.mk (blk_below (zz48) hb);replace BK493:=Aside0.mk (blk_below (zz49) hb);replace HB:=Aside0.mk (below_step (zz50) hb);(try clear hb)))
             go_ret
             exact ⟨zz6,zz50⟩
           ·have c29b0:=decide_eq_false c29;clear c29;replace H:=zzb H;obtain ⟨t503,A45,H⟩:=H;replace H:=zzj H;rcases H with ⟨c46,H⟩|⟨c46,H⟩
            ·have c46b0:=beq_iff_eq.mpr c46;have c46b1:=bne_eq_false_iff_eq.mpr c46;clear c46;have H':=Aside0.mk H;clear H;have hnb47:=NB493_492.out;have hnc47:=NB492_493.out;obtain ⟨hcz48_0,hcz48_1,hcz48_2,hfz48_0,hfz48_1,hfz48_2⟩:=zc3 BK493.out;obtain ⟨Ao49,co49,eo49⟩:=Kd.R_slice HO_12.out;subst eo49
             go_wp2_with (first|((with_reducible refine gate_callee (f:=36) rfl ?_);refine goesL_ (some 75) rfl rfl Try.func36 (zz0) rfl #[.agg #[.slice A1_0 l1_0.length c1_0,.slice A1_1 l1_1.length c1_1,.slice A1_2 l1_2.length c1_2],.slice Ao49 x12_3.length co49] rfl (zz18) ?_;(with_reducible refine (U18.calls k3 _ _ l1_0 _ _ l1_1 _ _ l1_2 _ _ x12_3 t503 _ ?_ ?_ ?_ ?_ ?_ ?_ ?_ ?_ A45.out).mono ?_);exact zz85;exact zz86;exact zz92;exact zz93;exact zz94;exact zz95;(exact (have h0_:=HO_12;zz89));exact (Kd.R_reads' HO_12.out).2.1;rintro e w50 ⟨rfl,hb⟩;refine ⟨_,rfl,?_⟩;replace HO_12:=Aside0.mk (Kd.R_below (have h0_:=HO_12;zz24) hb);replace BK492:=Aside0.mk (blk_below (zz48) hb);replace BK493:=Aside0.mk (blk_below (zz49) hb);replace HB:=Aside0.mk (below_step (zz50) hb);(try clear hb)))
             go_loopg [81] k3 (fun kq v81 w'=>∃ (x81_4:Int),v81 = .int .i64 x81_4∧Aside0 (U3.l2 kq l2 l3 (l3.length:Int) x81_4 = some r)∧Aside0 (kq≤k3)∧Aside0 (w'.heap[gb492]? = some (.cells #[(.slice A0_0 l0_0.length c0_0),(.slice A0_1 l0_1.length c0_1)] 24 (0,0)))∧Aside0 (w'.heap[gb493]? = some (.cells #[(.slice A1_0 l1_0.length c1_0),(.slice A1_1 l1_1.length c1_1),(.slice A1_2 l1_2.length c1_2)] 36 (0,0)))∧Aside0 (Below w.heap.size w w'))
             case atStart=>exact ⟨(0),(zz2),H',⟨Nat.le_refl _⟩,⟨zz48⟩,⟨zz49⟩,⟨zz50⟩⟩
             case round =>
              clear H'
              (try clear hx4);clear c29b0 c46b0 c46b1;(try clear hcz11_0);(try clear hcz11_1);(try clear hcz16_0);(try clear hcz16_1);(try clear hcz25_0);(try clear hcz25_1);(try clear hcz25_2);(try clear hcz27_0);(try clear hcz27_1);(try clear hcz27_2);(try clear hcz48_0);(try clear hcz48_1);(try clear hcz48_2);(try clear hfz11_0);(try clear hfz11_1);(try clear hfz16_0);(try clear hfz16_1);(try clear hfz25_0);(try clear hfz25_1);(try clear hfz25_2);(try clear hfz27_0);(try clear hfz27_1);(try clear hfz27_2);(try clear hfz48_0);(try clear hfz48_1);(try clear hfz48_2);(try clear hx495_0)
              obtain ⟨x81_4,rfl,HA,HK4,BK492,BK493,HB⟩:=hrel
              cases gk with
              | zero=>exact absurd HA.out (by simp [U3.l2])
              | succ k4 =>
               have H:=HA.out;clear HA;simp only [U3.l2] at H;replace H:=zzj H;rcases H with ⟨c51,H⟩|⟨c51,H⟩
               ·have c51b0:=decide_eq_true c51;clear c51;replace H:=zzi H;obtain ⟨c52,H⟩:=H;have c52b0:=decide_eq_true c52;clear c52;replace H:=zzi H;obtain ⟨c53,H⟩:=H;have c53b0:=decide_eq_true c53;clear c53;replace H:=zzj H;rcases H with ⟨c54,H⟩|⟨c54,H⟩
                ·have c54b0:=decide_eq_true c54;clear c54;obtain rfl:=Option.some.inj H;have p504:0≤(x81_4:Int):=of_decide_eq_true (zz11);have q504:x81_4 < (l3.length:Int):=of_decide_eq_true (zz11);obtain ⟨ad504,e504,hx504_0⟩:=Kd.at_int HR3.out x81_4 p504 q504
                 cases e504
                 replace hx504_0:=(HB.out.cell (World.block_lt_of_cell? w _ hx504_0)).trans hx504_0;replace p504:=eq_true p504;replace q504:=eq_true q504
                 go_wp2
                 go_ret
                 exact ⟨zz6,zz50⟩
                ·have c54b0:=decide_eq_false c54;clear c54;replace H:=zzi H;obtain ⟨c55,H⟩:=H;have c55b0:=decide_eq_true c55;clear c55;replace H:=zzj H;rcases H with ⟨c56,H⟩|⟨c56,H⟩
                 ·have c56b0:=decide_eq_true c56;clear c56;obtain rfl:=Option.some.inj H;have p504:0≤(x81_4:Int):=of_decide_eq_true (zz11);have q504:x81_4 < (l3.length:Int):=of_decide_eq_true (zz11);obtain ⟨ad504,e504,hx504_0⟩:=Kd.at_int HR3.out x81_4 p504 q504
                  cases e504
                  replace hx504_0:=(HB.out.cell (World.block_lt_of_cell? w _ hx504_0)).trans hx504_0;replace p504:=eq_true p504;replace q504:=eq_true q504;have p505:0≤(x81_4:Int):=of_decide_eq_true (zz11);have q505:x81_4 < (l2.length:Int):=of_decide_eq_true (zz11);obtain ⟨ad505,A505_0,c505_0,e505,hx505_0,hl505_0,hi505_0⟩:=at_L6 HR2.out x81_4 p505 q505
                  cases e505
                  replace hx505_0:=(HB.out.cell (World.block_lt_of_cell? w _ hx505_0)).trans hx505_0;have HR505_0:=Aside0.mk hi505_0;have HC505_0:=Aside0.mk hl505_0;clear hi505_0 hl505_0;replace p505:=eq_true p505;replace q505:=eq_true q505
                  go_wp2
                  go_ret
                  exact ⟨zz6,zz50⟩
                 ·have c56b0:=decide_eq_false c56;clear c56;have H':=Aside0.mk H;clear H;have p504:0≤(x81_4:Int):=of_decide_eq_true (zz11);have q504:x81_4 < (l3.length:Int):=of_decide_eq_true (zz11);obtain ⟨ad504,e504,hx504_0⟩:=Kd.at_int HR3.out x81_4 p504 q504
                  cases e504
                  replace hx504_0:=(HB.out.cell (World.block_lt_of_cell? w _ hx504_0)).trans hx504_0;replace p504:=eq_true p504;replace q504:=eq_true q504;have p505:0≤(x81_4:Int):=of_decide_eq_true (zz11);have q505:x81_4 < (l2.length:Int):=of_decide_eq_true (zz11);obtain ⟨ad505,A505_0,c505_0,e505,hx505_0,hl505_0,hi505_0⟩:=at_L6 HR2.out x81_4 p505 q505
                  cases e505
                  replace hx505_0:=(HB.out.cell (World.block_lt_of_cell? w _ hx505_0)).trans hx505_0;have HR505_0:=Aside0.mk hi505_0;have HC505_0:=Aside0.mk hl505_0;clear hi505_0 hl505_0;replace p505:=eq_true p505;replace q505:=eq_true q505
                  go_wp2
                  go_roundg k4
                  case measure=>have:=HK1.out;have:=HJ21.out;have:=HK3.out;have:=HK4.out;omega
                  case rel=>exact ⟨(wrap64 (x81_4+1)),(zz2),H',⟨by have:=HK1.out;have:=HJ21.out;have:=HK3.out;have:=HK4.out;omega⟩,⟨zz48⟩,⟨zz49⟩,⟨zz50⟩⟩
               ·have c51b0:=decide_eq_false c51;clear c51;obtain rfl:=Option.some.inj H
                go_wp2
                go_ret
                exact ⟨zz6,zz50⟩
            ·have c46b0:=beq_eq_false_iff_ne.mpr c46;have c46b1:=bne_iff_ne.mpr c46;obtain rfl:=Option.some.inj H;have hnb57:=NB493_492.out;have hnc57:=NB492_493.out;obtain ⟨hcz58_0,hcz58_1,hcz58_2,hfz58_0,hfz58_1,hfz58_2⟩:=zc3 BK493.out;obtain ⟨Ao59,co59,eo59⟩:=Kd.R_slice HO_12.out;subst eo59
             go_wp2_with (first|((with_reducible refine gate_callee (f:=36) rfl ?_);refine goesL_ (some 75) rfl rfl Try.func36 (zz0) rfl #[.agg #[.slice A1_0 l1_0.length c1_0,.slice A1_1 l1_1.length c1_1,.slice A1_2 l1_2.length c1_2],.slice Ao59 x12_3.length co59] rfl (zz18) ?_;(with_reducible refine (U18.calls k3 _ _ l1_0 _ _ l1_1 _ _ l1_2 _ _ x12_3 t503 _ ?_ ?_ ?_ ?_ ?_ ?_ ?_ ?_ A45.out).mono ?_);exact zz85;exact zz86;exact zz92;exact zz93;exact zz94;exact zz95;(exact (have h0_:=HO_12;zz89));exact (Kd.R_reads' HO_12.out).2.1;rintro e w60 ⟨rfl,hb⟩;refine ⟨_,rfl,?_⟩;replace HO_12:=Aside0.mk (Kd.R_below (have h0_:=HO_12;zz24) hb);replace BK492:=Aside0.mk (blk_below (zz48) hb);replace BK493:=Aside0.mk (blk_below (zz49) hb);replace HB:=Aside0.mk (below_step (zz50) hb);(try clear hb)))
             go_ret
             exact ⟨zz6,zz50⟩
 ·have c6b0:=beq_eq_false_iff_ne.mpr c6;have c6b1:=bne_iff_ne.mpr c6;obtain rfl:=Option.some.inj H;go_enter Try.func46,Try.ntmps46
  go_wp2_with (first|((with_reducible refine gate_dst (N:=4) rfl ?_);(try (refine gate_guard (zz19) ?_;dsimp only));refine box_event ?hg (N:=4) ?hd (cs:=#[.slice A0_0 l0_0.length c0_0,.slice A0_1 l0_1.length c0_1]) (t:=24) ?hr ?_;(case hd=>rfl);(case hg=>rfl);(case hr=>exact zz77);intro gb492 hg w61 hbox hb;have BK492:=Aside0.mk (hbox);have GW492:=Aside0.mk ((by rw [hg];exact (below_size (zz5)):w.heap.size≤gb492));have GE492:=Aside0.mk ((by rw [hg];exact (below_size (zz5)):w.heap.size≤gb492));replace HB:=Aside0.mk (below_step (zz5) hb);clear hb hbox hg)|((with_reducible refine gate_dst (N:=5) rfl ?_);(try (refine gate_guard (zz19) ?_;dsimp only));refine box_event ?hg (N:=5) ?hd (cs:=#[.slice A1_0 l1_0.length c1_0,.slice A1_1 l1_1.length c1_1,.slice A1_2 l1_2.length c1_2]) (t:=36) ?hr ?_;(case hd=>rfl);(case hg=>rfl);(case hr=>exact zz77);intro gb493 hg w62 hbox hb;have BK493:=Aside0.mk (hbox);have GW493:=Aside0.mk ((by rw [hg];exact (below_size (have h0_:=GE492;zz7)):w.heap.size≤gb493));have GE493:=Aside0.mk ((by rw [hg];exact (below_size (have h0_:=GE492;zz7)):w.heap.size≤gb493));replace HB:=Aside0.mk (below_step (have h0_:=GE492;zz7) hb);have NB492_493:=Aside0.mk ((by rw [hg];exact Nat.ne_of_lt (blk_lt (g:=gb492) (o:=.cells #[.slice A0_0 l0_0.length c0_0,.slice A0_1 l0_1.length c0_1] 24 (0,0)) (zz48)):gb492 ≠ gb493));have NB493_492:=Aside0.mk ((by rw [hg];exact Nat.ne_of_gt (blk_lt (g:=gb492) (o:=.cells #[.slice A0_0 l0_0.length c0_0,.slice A0_1 l0_1.length c0_1] 24 (0,0)) (zz48)):gb493 ≠ gb492));replace BK492:=Aside0.mk (blk_below (zz48) hb);clear hb hbox hg;have hnb63:=NB492_493.out;have hnc63:=NB493_492.out;obtain ⟨hcz64_0,hcz64_1,hfz64_0,hfz64_1⟩:=zc2 BK492.out)|((with_reducible refine gate_callee (f:=28) rfl ?_);refine goesL_ (some 20) rfl rfl Try.func28 (zz0) rfl #[.agg #[.slice A0_0 l0_0.length c0_0,.slice A0_1 l0_1.length c0_1]] rfl (zz18) ?_;(with_reducible refine (U16.calls k _ _ l0_0 _ _ l0_1 t494 _ ?_ ?_ ?_ ?_ A5.out).mono ?_);exact zz79;exact zz80;exact zz81;exact zz82;rintro e w65 ⟨rfl,hb⟩;refine ⟨_,rfl,?_⟩;replace BK492:=Aside0.mk (blk_below (zz48) hb);replace BK493:=Aside0.mk (blk_below (zz49) hb);replace HB:=Aside0.mk (below_step (zz50) hb);(try clear hb)))
  go_ret
  exact ⟨zz6,zz50⟩
end Go.Proofs.Ytmcegphcjphdcaa.QA
