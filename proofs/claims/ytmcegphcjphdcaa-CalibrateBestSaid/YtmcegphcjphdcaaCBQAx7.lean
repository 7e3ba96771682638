import Derived.Test.YtmcegphcjphdcaaCBQAx0
import Derived.Test.YtmcegphcjphdcaaCBQAx6
namespace Go.Proofs.Ytmcegphcjphdcaa.QA
open Go.RowKit Go.Proofs.YtmcegphcjphdcaaW.PrintWords Go.Proofs.YtmcegphcjphdcaaW.PrintLast Go.Proofs.YtmcegphcjphdcaaW.PrintMore
attribute [local go_sem] max2_int min2_int max_two min_two max_three min_three max_four min_four
set_option linter.unusedVariables false
set_option linter.unusedSimpArgs false
mutual
def U26.j0:Nat→Int→Bool→List (List Int)→Option (Int)
 | 0,_,_,_=>none
 | k+1,x1,x20,x226000=>if x20 = true then (some 1) else (if 0 < (x226000.length:Int) then (if ((rd_L1 x226000 0).length:Int) < 2 then (U26.j1 k x1 ((rd_L1 x226000 0).length:Int) true x226000) else (U26.j1 k x1 ((rd_L1 x226000 0).length:Int) (decide (((rd_L1 x226000 0).length:Int) > 6)) x226000)) else (none))
def U26.j1:Nat→Int→Int→Bool→List (List Int)→Option (Int)
 | 0,_,_,_,_=>none
 | k+1,x1,x5,x31,x226000=>if x31 = true then (some 3) else (U26.l0 k x1 x5 0 x226000)
def U26.l0:Nat→Int→Int→Int→List (List Int)→Option (Int)
 | 0,_,_,_,_=>none
 | k+1,x1,x5,x6,x226000=>if x6 < x1 then (if 0≤x6 then (if x6 < (x226000.length:Int) then ((U27.f k (rd_L1 x226000 x6) x5).bind fun t228=>(if t228 = 0 then (U26.l0 k x1 x5 (wrap64 (x6+1)) x226000) else (some t228))) else (none)) else (none)) else (some 0)
end
def U26.f (k:Nat) (l0_0:List (List Int)) (a1:Int):Option (Int):=if a1 < 1 then (U26.j0 k a1 true l0_0) else (if a1 > 21 then (U26.j0 k a1 true l0_0) else (U26.j0 k a1 ((l0_0.length:Int) != a1) l0_0))
theorem zm7_0 {P:Prop} (h:P:=by repeat' first|(with_reducible first|exact ih0 ..|exact ih1 ..|exact ih2 ..|exact U27.mono ..|exact LeO.refl _|exact LeO.none _|refine LeO.ite ?_ ?_|refine LeO.bind ?_ (fun _=>?_))|exact ih0 ..|exact ih1 ..|exact ih2 ..|exact U27.mono ..|exact LeO.none _|refine LeO.ite ?_ ?_|refine LeO.bind ?_ (fun _=>?_)):P:=h
theorem U26.mono_l:∀ k,(∀ y0 y1 y2,LeO (U26.j0 k y0 y1 y2) (U26.j0 (k+1) y0 y1 y2))∧(∀ y0 y1 y2 y3,LeO (U26.j1 k y0 y1 y2 y3) (U26.j1 (k+1) y0 y1 y2 y3))∧(∀ y0 y1 y2 y3,LeO (U26.l0 k y0 y1 y2 y3) (U26.l0 (k+1) y0 y1 y2 y3))
 | 0=>⟨fun _ _ _ r h=>by simp [U26.j0] at h,fun _ _ _ _ r h=>by simp [U26.j1] at h,fun _ _ _ _ r h=>by simp [U26.l0] at h⟩
 | k+1=>by
  obtain ⟨ih0,ih1,ih2⟩:=U26.mono_l k;refine ⟨?_,?_,?_⟩
  ·intro y0 y1 y2;unfold U26.j0
   exact zm7_0
  ·intro y0 y1 y2 y3;unfold U26.j1
   exact zm7_0
  ·intro y0 y1 y2 y3;unfold U26.l0
   exact zm7_0
theorem U26.mono:∀ a0 a1 k,LeO (U26.f k a0 a1) (U26.f (k+1) a0 a1):=by
 intro a0 a1 k;obtain ⟨ih0,ih1,ih2⟩:=U26.mono_l k;unfold U26.f
 exact zm7_0
set_option maxHeartbeats 8000000 in
set_option maxRecDepth 100000 in
theorem U26.calls (k:Nat) (A0_0:Option Addr) (c0_0:Nat) (l0_0:List (List Int)) (a1:Int) (r:Int) (w:World) (hr0_0:Kd.C (Kd.slice 3 (Kd.int .i64)) w A0_0 l0_0.length l0_0) (hc0_0:l0_0.length≤c0_0) (h:U26.f k l0_0 a1 = some r) :
  Calls Try.prog 57 #[.agg #[.slice A0_0 l0_0.length c0_0],.int .i64 a1] w fun e w'=>e = .returned (.int .i64 r)∧Below w.heap.size w w':=by
 have hu56:=Try.underlying56;have HR0_0:=Aside0.mk hr0_0;have HC0_0:=Aside0.mk hc0_0;clear hr0_0 hc0_0;have HB:=Aside0.mk (Below.refl w.heap.size w);have H:(if a1 < 1 then (U26.j0 k a1 true l0_0) else (if a1 > 21 then (U26.j0 k a1 true l0_0) else (U26.j0 k a1 ((l0_0.length:Int) != a1) l0_0))) = some r:=h;clear h;have HC3:=Aside0.mk H;clear H;go_enter Try.func57,Try.ntmps57
 go_upto_region 1 with (first|((with_reducible refine gate_dst (N:=2) rfl ?_);(try (refine gate_guard (zz17) ?_;dsimp only));refine box_event ?hg (N:=2) ?hd (cs:=#[.slice A0_0 l0_0.length c0_0]) (t:=56) ?hr ?_;(case hd=>rfl);(case hg=>rfl);(case hr=>exact zz146);intro gb225 hg w4 hbox hb;have BK225:=Aside0.mk (hbox);have GW225:=Aside0.mk ((by rw [hg];exact (below_size (zz5)):w.heap.size≤gb225));have GE225:=Aside0.mk ((by rw [hg];exact (below_size (zz5)):w.heap.size≤gb225));replace HB:=Aside0.mk (below_step (zz5) hb);clear hb hbox hg))
 (try simp only [Act.put,List.setIfInBounds_toArray,List.set_cons_zero,List.set_cons_succ])
 go_cut [20] (fun v20 wc=>∃ (kq:Nat) (x20_2:Bool),v20 = .bool x20_2∧Aside0 (U26.j0 kq a1 x20_2 l0_0 = some r)∧Aside0 (kq≤k)∧Aside0 (wc.heap[gb225]? = some (.cells #[(.slice A0_0 l0_0.length c0_0)] 56 (0,0)))∧Aside0 (Below w.heap.size w wc))
 case first =>
  have H:=HC3.out;clear HC3;by_cases c5:a1 < 1
  ·rw [if_pos c5] at H;have c5b0:=decide_eq_true c5;clear c5
   (first|rw [c5b0]|rw [c5b1]|(simp only [i64_w,i32_w];rw [c5b0])|skip)
   have H':=Aside0.mk H;clear H
   go_wp2
   go_meet
   case rel=>exact ⟨_,(true),(zz2),H',⟨zz18⟩,⟨zz55⟩,⟨zz56⟩⟩
  ·rw [if_neg c5] at H;have c5b0:=decide_eq_false c5;clear c5
   (first|rw [c5b0]|rw [c5b1]|(simp only [i64_w,i32_w];rw [c5b0])|skip)
   by_cases c6:a1 > 21
   ·rw [if_pos c6] at H;have c6b0:=decide_eq_true c6;clear c6;have H':=Aside0.mk H;clear H
    go_wp2
    go_meet
    case rel=>exact ⟨_,(true),(zz2),H',⟨zz18⟩,⟨zz55⟩,⟨zz56⟩⟩
   ·rw [if_neg c6] at H;have c6b0:=decide_eq_false c6;clear c6;have H':=Aside0.mk H;clear H;have hcz7_0:w4.cell? ⟨gb225,0,none⟩ = some (.slice A0_0 l0_0.length c0_0):=(blk_cell BK225.out 0).trans rfl;have hfz7_0:=blk_frozen BK225.out 0
    go_wp2
    go_meet
    case rel=>exact ⟨_,(((l0_0.length:Int) != a1)),(zz2),H',⟨zz18⟩,⟨zz55⟩,⟨zz56⟩⟩
 case rest =>
  clear HC3;(try clear p2);(try clear c5);(try clear c5b0);(try clear c5b1);(try clear c6);(try clear c6b0);(try clear hcz7_0);(try clear hfz7_0);obtain ⟨kq,x20_2,rfl,HA,HJ2,BK225,HB⟩:=hcut
  cases kq with
  | zero=>exact absurd HA.out (by simp [U26.j0])
  | succ kj2 =>
   have H:=HA.out;clear HA;simp only [U26.j0] at H;by_cases c8:x20_2 = true
   ·subst c8;have H1:(some 1) = some r:=zz10;clear H;have H:=H1;clear H1;obtain rfl:=Option.some.inj H
    go_wp2
    go_ret
    exact ⟨zz6,zz56⟩
   ·replace c8:=Bool.eq_false_iff.mpr c8;subst c8;have H1:(if 0 < (l0_0.length:Int) then (if ((rd_L1 l0_0 0).length:Int) < 2 then (U26.j1 kj2 a1 ((rd_L1 l0_0 0).length:Int) true l0_0) else (U26.j1 kj2 a1 ((rd_L1 l0_0 0).length:Int) (decide (((rd_L1 l0_0 0).length:Int) > 6)) l0_0)) else (none)) = some r:=zz13;clear H;have H:=H1;clear H1;by_cases c9:0 < (l0_0.length:Int)
    ·rw [if_pos c9] at H;have c9b0:=decide_eq_true c9;have c9b1:decide (0 < l0_0.length) = true:=decide_eq_true (zz4);clear c9;have HC10:=Aside0.mk H;clear H;have hcz11_0:wc.cell? ⟨gb225,0,none⟩ = some (.slice A0_0 l0_0.length c0_0):=(blk_cell BK225.out 0).trans rfl;have hfz11_0:=blk_frozen BK225.out 0;have p226:0≤(0:Int):=(zz4);have q226:0 < (l0_0.length:Int):=of_decide_eq_true (zz11);obtain ⟨ad226,A226_0,c226_0,e226,hx226_0,hl226_0,hi226_0⟩:=at_L1 HR0_0.out 0 p226 q226
     cases e226
     have qi226:(0 < l0_0.length) = True:=eq_true (zz4)
     (try rw [show ((0:Int)).toNat = 0 from rfl] at hx226_0)
     (try rw [Addr.add_zero'] at hx226_0)
     replace hx226_0:=(HB.out.cell (World.block_lt_of_cell? w _ hx226_0)).trans hx226_0;have HR226_0:=Aside0.mk hi226_0;have HC226_0:=Aside0.mk hl226_0;clear hi226_0 hl226_0;replace p226:=eq_true p226;replace q226:=eq_true q226
     go_upto_region 4 with (fail)
     go_cut [31] (fun v31 wc=>∃ (kq:Nat) (x31_9:Bool),v31 = .bool x31_9∧Aside0 (U26.j1 kq a1 ((rd_L1 l0_0 0).length:Int) x31_9 l0_0 = some r)∧Aside0 (kq≤kj2)∧Aside0 (wc.heap[gb225]? = some (.cells #[(.slice (some ad226) l0_0.length c0_0)] 56 (0,0)))∧Aside0 (Below w.heap.size w wc))
     case first =>
      have H:=HC10.out;clear HC10;by_cases c12:((rd_L1 l0_0 0).length:Int) < 2
      ·rw [if_pos c12] at H;have c12b0:=decide_eq_true c12;have c12b1:decide ((rd_L1 l0_0 0).length < 2) = true:=decide_eq_true (zz4);clear c12
       (first|rw [c12b0]|rw [c12b1]|(simp only [i64_w,i32_w];rw [c12b0])|skip)
       have H':=Aside0.mk H;clear H
       go_wp2
       go_meet
       case rel=>exact ⟨_,(true),(zz2),H',⟨zz57⟩,⟨zz55⟩,⟨zz56⟩⟩
      ·rw [if_neg c12] at H;have c12b0:=decide_eq_false c12;have c12b1:decide ((rd_L1 l0_0 0).length < 2) = false:=decide_eq_false (zz4);clear c12
       (first|rw [c12b0]|rw [c12b1]|(simp only [i64_w,i32_w];rw [c12b0])|skip)
       have H':=Aside0.mk H;clear H
       go_wp2
       go_meet
       case rel=>exact ⟨_,(decide (((rd_L1 l0_0 0).length:Int) > 6)),(zz2),H',⟨zz57⟩,⟨zz55⟩,⟨zz56⟩⟩
     case rest =>
      clear HC10;(try clear c1);(try clear c2);(try clear p2);(try clear q2);(try clear hx2);(try clear qi2);(try clear c5);(try clear c5b0);(try clear c5b1);(try clear c6);(try clear c6b0);(try clear c8);(try clear c9);(try clear c9b0);(try clear c9b1);(try clear c12);(try clear c12b0);(try clear c12b1);(try clear hcz11_0);(try clear hcz7_0);(try clear hfz11_0);(try clear hfz7_0);(try clear hx226_0);(try clear p2);(try clear p226);(try clear q226);obtain ⟨kq,x31_9,rfl,HA,HJ9,BK225,HB⟩:=hcut
      cases kq with
      | zero=>exact absurd HA.out (by simp [U26.j1])
      | succ kj9 =>
       have H:=HA.out;clear HA;simp only [U26.j1] at H;by_cases c13:x31_9 = true
       ·subst c13;have H1:(some 3) = some r:=zz10;clear H;have H:=H1;clear H1;obtain rfl:=Option.some.inj H
        go_wp2
        go_ret
        exact ⟨zz6,zz56⟩
       ·replace c13:=Bool.eq_false_iff.mpr c13;subst c13;have H1:(U26.l0 kj9 a1 ((rd_L1 l0_0 0).length:Int) 0 l0_0) = some r:=zz13;clear H;have H:=H1;clear H1;have H':=Aside0.mk H;clear H
        go_wp2
        go_loopg [6] kj9 (fun kq v6 w'=>∃ (x6_3:Int),v6 = .int .i64 x6_3∧Aside0 (U26.l0 kq a1 ((rd_L1 l0_0 0).length:Int) x6_3 l0_0 = some r)∧Aside0 (kq≤kj9)∧Aside0 (w'.heap[gb225]? = some (.cells #[(.slice (some ad226) l0_0.length c0_0)] 56 (0,0)))∧Aside0 (Below w.heap.size w w'))
        case atStart=>exact ⟨(0),(zz2),H',⟨Nat.le_refl _⟩,⟨zz55⟩,⟨zz56⟩⟩
        case round =>
         clear H'
         (try clear c1);(try clear c2);(try clear p2);(try clear q2);(try clear hx2);(try clear qi2);(try clear c5);(try clear c5b0);(try clear c5b1);(try clear c6);(try clear c6b0);(try clear c8);(try clear c9);(try clear c9b0);(try clear c9b1);(try clear c12);(try clear c12b0);(try clear c12b1);(try clear c13);(try clear hcz11_0);(try clear hcz7_0);(try clear hfz11_0);(try clear hfz7_0);(try clear hx226_0);(try clear p2);(try clear p226);(try clear q2);(try clear q226)
         obtain ⟨x6_3,rfl,HA,HK3,BK225,HB⟩:=hrel
         cases gk with
         | zero=>exact absurd HA.out (by simp [U26.l0])
         | succ k3 =>
          have H:=HA.out;clear HA;simp only [U26.l0] at H;by_cases c14:x6_3 < a1
          ·rw [if_pos c14] at H;have c14b0:=decide_eq_true c14;clear c14;by_cases c15:0≤x6_3
           ·rw [if_pos c15] at H;have c15b0:=decide_eq_true c15;clear c15;by_cases c16:x6_3 < (l0_0.length:Int)
            ·rw [if_pos c16] at H;have c16b0:=decide_eq_true c16;clear c16;replace H:=Option.bind_eq_some_iff.mp H;obtain ⟨t228,A170,H⟩:=H;have A17:=Aside0.mk A170;clear A170;by_cases c18:t228 = 0
             ·rw [if_pos c18] at H;have c18b0:=beq_iff_eq.mpr c18;have c18b1:=bne_eq_false_iff_eq.mpr c18;clear c18;have H':=Aside0.mk H;clear H;have hcz19_0:wr.cell? ⟨gb225,0,none⟩ = some (.slice (some ad226) l0_0.length c0_0):=(blk_cell BK225.out 0).trans rfl;have hfz19_0:=blk_frozen BK225.out 0;have p227:0≤(x6_3:Int):=of_decide_eq_true (zz11);have q227:x6_3 < (l0_0.length:Int):=of_decide_eq_true (zz11);obtain ⟨ad227,A227_0,c227_0,e227,hx227_0,hl227_0,hi227_0⟩:=at_L1 HR0_0.out x6_3 p227 q227;obtain rfl:ad226 = ad227:=(by injection e227);replace hx227_0:=(HB.out.cell (World.block_lt_of_cell? w _ hx227_0)).trans hx227_0;have HR227_0:=Aside0.mk hi227_0;have HC227_0:=Aside0.mk hl227_0;clear hi227_0 hl227_0;replace p227:=eq_true p227;replace q227:=eq_true q227
              go_wp2_with (first|((with_reducible refine gate_callee (f:=72) rfl ?_);refine goesL_ (some 43) rfl rfl Try.func72 (zz0) rfl #[.slice A227_0 (rd_L1 l0_0 x6_3).length c227_0,.int .i64 ((rd_L1 l0_0 0).length:Int)] rfl (zz16) ?_;(with_reducible refine (U27.calls k3 _ _ (rd_L1 l0_0 x6_3) ((rd_L1 l0_0 0).length:Int) t228 _ ?side1 ?side2 A17.out).mono ?_);(case side1=>repeat (first|exact (Kd.C_below HR227_0.out HB.out)|(with_reducible refine Kd.C_alloc ?_ _)|(with_reducible refine Kd.C_drewN ?_ _)|(with_reducible refine Kd.C_drew ?_)));(case side2=>exact HC227_0.out);rintro e w' ⟨rfl,⟨nd,rfl⟩⟩;refine ⟨_,rfl,?_⟩))
              go_roundg k3
              case measure=>have:=HJ2.out;have:=HJ9.out;have:=HK3.out;omega
              case rel=>exact ⟨(wrap64 (x6_3+1)),(zz2),H',⟨by have:=HJ2.out;have:=HJ9.out;have:=HK3.out;omega⟩,⟨zz55⟩,⟨zz56⟩⟩
             ·rw [if_neg c18] at H;have c18b0:=beq_eq_false_iff_ne.mpr c18;have c18b1:=bne_iff_ne.mpr c18;obtain rfl:=Option.some.inj H;have hcz20_0:wr.cell? ⟨gb225,0,none⟩ = some (.slice (some ad226) l0_0.length c0_0):=(blk_cell BK225.out 0).trans rfl;have hfz20_0:=blk_frozen BK225.out 0;have p227:0≤(x6_3:Int):=of_decide_eq_true (zz11);have q227:x6_3 < (l0_0.length:Int):=of_decide_eq_true (zz11);obtain ⟨ad227,A227_0,c227_0,e227,hx227_0,hl227_0,hi227_0⟩:=at_L1 HR0_0.out x6_3 p227 q227;obtain rfl:ad226 = ad227:=(by injection e227);replace hx227_0:=(HB.out.cell (World.block_lt_of_cell? w _ hx227_0)).trans hx227_0;have HR227_0:=Aside0.mk hi227_0;have HC227_0:=Aside0.mk hl227_0;clear hi227_0 hl227_0;replace p227:=eq_true p227;replace q227:=eq_true q227
              go_wp2_with (first|((with_reducible refine gate_callee (f:=72) rfl ?_);refine goesL_ (some 43) rfl rfl Try.func72 (zz0) rfl #[.slice A227_0 (rd_L1 l0_0 x6_3).length c227_0,.int .i64 ((rd_L1 l0_0 0).length:Int)] rfl (zz16) ?_;(with_reducible refine (U27.calls k3 _ _ (rd_L1 l0_0 x6_3) ((rd_L1 l0_0 0).length:Int) t228 _ ?side1 ?side2 A17.out).mono ?_);(case side1=>repeat (first|exact (Kd.C_below HR227_0.out HB.out)|(with_reducible refine Kd.C_alloc ?_ _)|(with_reducible refine Kd.C_drewN ?_ _)|(with_reducible refine Kd.C_drew ?_)));(case side2=>exact HC227_0.out);rintro e w' ⟨rfl,⟨nd,rfl⟩⟩;refine ⟨_,rfl,?_⟩))
              go_ret
              exact ⟨zz6,zz56⟩
            ·rw [if_neg c16] at H
             exact absurd H (zz14)
           ·rw [if_neg c15] at H
            exact absurd H (zz14)
          ·rw [if_neg c14] at H;have c14b0:=decide_eq_false c14;clear c14;obtain rfl:=Option.some.inj H
           go_wp2
           go_ret
           exact ⟨zz6,zz56⟩
    ·rw [if_neg c9] at H
     exact absurd H (zz14)
def U36.l0:Nat→List (S56)→Int→Int→Int→Option (Int)
 | 0,_,_,_,_=>none
 | k+1,x0,x1,x2,x7=>if x7 < (x0.length:Int) then (if x7 = x2 then (U36.l0 k x0 x1 x2 (wrap64 (x7+1))) else (if 0≤x7 then ((U26.f k ((rd_T56 x0 x7).f0) x1).bind fun t230=>(if t230 = 0 then (U36.l0 k x0 x1 x2 (wrap64 (x7+1))) else (some t230))) else (none))) else (some 0)
def U36.f (k:Nat) (l0:List (S56)) (a1:Int) (a2:Int):Option (Int):=U36.l0 k l0 a1 a2 0
theorem zm7_1 {P:Prop} (h:P:=by repeat' first|(with_reducible first|exact ih0 ..|exact U26.mono ..|exact LeO.refl _|exact LeO.none _|refine LeO.ite ?_ ?_|refine LeO.bind ?_ (fun _=>?_))|exact ih0 ..|exact U26.mono ..|exact LeO.none _|refine LeO.ite ?_ ?_|refine LeO.bind ?_ (fun _=>?_)):P:=h
theorem U36.mono_l:∀ k,(∀ y0 y1 y2 y3,LeO (U36.l0 k y0 y1 y2 y3) (U36.l0 (k+1) y0 y1 y2 y3))
 | 0=>fun _ _ _ _ r h=>by simp [U36.l0] at h
 | k+1=>by
  have ih0:=U36.mono_l k
  ·intro y0 y1 y2 y3;unfold U36.l0
   exact zm7_1
theorem U36.mono:∀ a0 a1 a2 k,LeO (U36.f k a0 a1 a2) (U36.f (k+1) a0 a1 a2):=by
 intro a0 a1 a2 k;have ih0:=U36.mono_l k;unfold U36.f
 exact zm7_1
set_option maxHeartbeats 8000000 in
set_option maxRecDepth 100000 in
theorem U36.calls (k:Nat) (A0:Option Addr) (c0:Nat) (l0:List (S56)) (a1:Int) (a2:Int) (r:Int) (w:World) (hr0:Kd.C k56 w A0 l0.length l0) (hc0:l0.length≤c0) (h:U36.f k l0 a1 a2 = some r) :
  Calls Try.prog 33 #[.slice A0 l0.length c0,.int .i64 a1,.int .i64 a2] w fun e w'=>e = .returned (.int .i64 r)∧Below w.heap.size w w':=by
 have hu56:=Try.underlying56;have HR0:=Aside0.mk hr0;have HC0:=Aside0.mk hc0;clear hr0 hc0;have HB:=Aside0.mk (Below.refl w.heap.size w);have H:(U36.l0 k l0 a1 a2 0) = some r:=h;clear h;have H':=Aside0.mk H;clear H;go_enter Try.func33,Try.ntmps33
 go_wp2
 go_loopg [7] k (fun kq v7 w'=>∃ (x7_1:Int),v7 = .int .i64 x7_1∧Aside0 (U36.l0 kq l0 a1 a2 x7_1 = some r)∧Aside0 (kq≤k)∧Aside0 (Below w.heap.size w w'))
 case atStart=>exact ⟨(0),(zz2),H',⟨Nat.le_refl _⟩,⟨zz5⟩⟩
 case round =>
  clear H'
  (try clear p2);(try clear c3)
  obtain ⟨x7_1,rfl,HA,HK1,HB⟩:=hrel
  cases gk with
  | zero=>exact absurd HA.out (by simp [U36.l0])
  | succ k1 =>
   have H:=HA.out;clear HA;simp only [U36.l0] at H;by_cases c4:x7_1 < (l0.length:Int)
   ·rw [if_pos c4] at H;have c4b0:=decide_eq_true c4;clear c4;by_cases c5:x7_1 = a2
    ·rw [if_pos c5] at H;have c5b0:=beq_iff_eq.mpr c5;have c5b1:=bne_eq_false_iff_eq.mpr c5;clear c5;have H':=Aside0.mk H;clear H
     go_wp2
     go_roundg k1
     case measure=>have:=HK1.out;omega
     case rel=>exact ⟨(wrap64 (x7_1+1)),(zz2),H',⟨zz12⟩,⟨zz5⟩⟩
    ·rw [if_neg c5] at H;have c5b0:=beq_eq_false_iff_ne.mpr c5;have c5b1:=bne_iff_ne.mpr c5;by_cases c6:0≤x7_1
     ·rw [if_pos c6] at H;have c6b0:=decide_eq_true c6;clear c6;replace H:=Option.bind_eq_some_iff.mp H;obtain ⟨t230,A70,H⟩:=H;have A7:=Aside0.mk A70;clear A70;by_cases c8:t230 = 0
      ·rw [if_pos c8] at H;have c8b0:=beq_iff_eq.mpr c8;have c8b1:=bne_eq_false_iff_eq.mpr c8;clear c8;have H':=Aside0.mk H;clear H;have p229:0≤(x7_1:Int):=of_decide_eq_true (zz11);have q229:x7_1 < (l0.length:Int):=of_decide_eq_true (zz11);obtain ⟨ad229,A229_0,c229_0,e229,hx229_0,hl229_0,hi229_0⟩:=at_T56 HR0.out x7_1 p229 q229
       cases e229
       replace hx229_0:=(HB.out.cell (World.block_lt_of_cell? w _ hx229_0)).trans hx229_0;have HR229_0:=Aside0.mk hi229_0;have HC229_0:=Aside0.mk hl229_0;clear hi229_0 hl229_0;replace p229:=eq_true p229;replace q229:=eq_true q229
       go_wp2_with (first|((with_reducible refine gate_callee (f:=57) rfl ?_);refine goesL_ (some 23) rfl rfl Try.func57 (zz0) rfl #[.agg #[.slice A229_0 ((rd_T56 l0 x7_1).f0).length c229_0],.int .i64 a1] rfl (zz16) ?_;(with_reducible refine (U26.calls k1 _ _ ((rd_T56 l0 x7_1).f0) a1 t230 _ ?side1 ?side2 A7.out).mono ?_);(case side1=>repeat (first|exact (Kd.C_below HR229_0.out HB.out)|(with_reducible refine Kd.C_alloc ?_ _)|(with_reducible refine Kd.C_drewN ?_ _)|(with_reducible refine Kd.C_drew ?_)));(case side2=>exact HC229_0.out);rintro e w9 ⟨rfl,hb⟩;refine ⟨_,rfl,?_⟩;replace HB:=Aside0.mk (below_step (zz5) hb);(try clear hb);(try clear hb2);(try clear hk);(try clear hi)))
       go_roundg k1
       case measure=>have:=HK1.out;omega
       case rel=>exact ⟨(wrap64 (x7_1+1)),(zz2),H',⟨zz12⟩,⟨zz5⟩⟩
      ·rw [if_neg c8] at H;have c8b0:=beq_eq_false_iff_ne.mpr c8;have c8b1:=bne_iff_ne.mpr c8;obtain rfl:=Option.some.inj H;have p229:0≤(x7_1:Int):=of_decide_eq_true (zz11);have q229:x7_1 < (l0.length:Int):=of_decide_eq_true (zz11);obtain ⟨ad229,A229_0,c229_0,e229,hx229_0,hl229_0,hi229_0⟩:=at_T56 HR0.out x7_1 p229 q229
       cases e229
       replace hx229_0:=(HB.out.cell (World.block_lt_of_cell? w _ hx229_0)).trans hx229_0;have HR229_0:=Aside0.mk hi229_0;have HC229_0:=Aside0.mk hl229_0;clear hi229_0 hl229_0;replace p229:=eq_true p229;replace q229:=eq_true q229
       go_wp2_with (first|((with_reducible refine gate_callee (f:=57) rfl ?_);refine goesL_ (some 23) rfl rfl Try.func57 (zz0) rfl #[.agg #[.slice A229_0 ((rd_T56 l0 x7_1).f0).length c229_0],.int .i64 a1] rfl (zz16) ?_;(with_reducible refine (U26.calls k1 _ _ ((rd_T56 l0 x7_1).f0) a1 t230 _ ?side1 ?side2 A7.out).mono ?_);(case side1=>repeat (first|exact (Kd.C_below HR229_0.out HB.out)|(with_reducible refine Kd.C_alloc ?_ _)|(with_reducible refine Kd.C_drewN ?_ _)|(with_reducible refine Kd.C_drew ?_)));(case side2=>exact HC229_0.out);rintro e w10 ⟨rfl,hb⟩;refine ⟨_,rfl,?_⟩;replace HB:=Aside0.mk (below_step (zz5) hb);(try clear hb);(try clear hb2);(try clear hk);(try clear hi)))
       go_ret
       exact ⟨zz6,zz5⟩
     ·rw [if_neg c6] at H
      exact absurd H (zz14)
   ·rw [if_neg c4] at H;have c4b0:=decide_eq_false c4;clear c4;obtain rfl:=Option.some.inj H
    go_wp2
    go_ret
    exact ⟨zz6,zz5⟩
def U25.f (l0_0:List (List Int)):Option (Int):=if (l0_0.length:Int) = 0 then (some 0) else (if 0 < (l0_0.length:Int) then (some ((rd_L1 l0_0 0).length:Int)) else (none))
set_option maxHeartbeats 8000000 in
set_option maxRecDepth 100000 in
theorem U25.calls (A0_0:Option Addr) (c0_0:Nat) (l0_0:List (List Int)) (r:Int) (w:World) (hr0_0:Kd.C (Kd.slice 3 (Kd.int .i64)) w A0_0 l0_0.length l0_0) (hc0_0:l0_0.length≤c0_0) (h:U25.f l0_0 = some r) :
  Calls Try.prog 34 #[.agg #[.slice A0_0 l0_0.length c0_0]] w fun e w'=>e = .returned (.int .i64 r)∧Below w.heap.size w w':=by
 have hu56:=Try.underlying56;have HR0_0:=Aside0.mk hr0_0;have HC0_0:=Aside0.mk hc0_0;clear hr0_0 hc0_0;have HB:=Aside0.mk (Below.refl w.heap.size w);have H:(if (l0_0.length:Int) = 0 then (some 0) else (if 0 < (l0_0.length:Int) then (some ((rd_L1 l0_0 0).length:Int)) else (none))) = some r:=h;clear h;by_cases c2:(l0_0.length:Int) = 0
 ·rw [if_pos c2] at H;have c2b0:=beq_iff_eq.mpr c2;have c2b1:=bne_eq_false_iff_eq.mpr c2;clear c2;obtain rfl:=Option.some.inj H;go_enter Try.func34,Try.ntmps34
  go_wp2_with (first|((with_reducible refine gate_dst (N:=1) rfl ?_);refine box_event ?hg (N:=1) ?hd (cs:=#[.slice A0_0 l0_0.length c0_0]) (t:=56) ?hr ?_;(case hd=>rfl);(case hg=>rfl);(case hr=>exact zz146);intro gb231 hg w3 hbox hb;have BK231:=Aside0.mk (hbox);have GW231:=Aside0.mk ((by rw [hg];exact (below_size (zz5)):w.heap.size≤gb231));have GE231:=Aside0.mk ((by rw [hg];exact (below_size (zz5)):w.heap.size≤gb231));replace HB:=Aside0.mk (below_step (zz5) hb);clear hb hbox hg;have hcz4_0:w3.cell? ⟨gb231,0,none⟩ = some (.slice A0_0 l0_0.length c0_0):=(blk_cell BK231.out 0).trans rfl;have hfz4_0:=blk_frozen BK231.out 0))
  go_ret
  exact ⟨zz6,by repeat (first|(with_reducible first|exact HB.out|apply below_alloc|apply pw_below_drewN|apply below_drew1|refine below_set ?_ GE231.out)|exact HB.out)⟩
 ·rw [if_neg c2] at H;have c2b0:=beq_eq_false_iff_ne.mpr c2;have c2b1:=bne_iff_ne.mpr c2;have c2b2:¬ (l0_0 = []):=fun h_=>c2 (by rw [h_];rfl);by_cases c5:0 < (l0_0.length:Int)
  ·rw [if_pos c5] at H;have c5b0:=decide_eq_true c5;have c5b1:decide (0 < l0_0.length) = true:=decide_eq_true (zz4);clear c5;obtain rfl:=Option.some.inj H;go_enter Try.func34,Try.ntmps34
   go_wp2_with (first|((with_reducible refine gate_dst (N:=1) rfl ?_);refine box_event ?hg (N:=1) ?hd (cs:=#[.slice A0_0 l0_0.length c0_0]) (t:=56) ?hr ?_;(case hd=>rfl);(case hg=>rfl);(case hr=>exact zz146);intro gb231 hg w6 hbox hb;have BK231:=Aside0.mk (hbox);have GW231:=Aside0.mk ((by rw [hg];exact (below_size (zz5)):w.heap.size≤gb231));have GE231:=Aside0.mk ((by rw [hg];exact (below_size (zz5)):w.heap.size≤gb231));replace HB:=Aside0.mk (below_step (zz5) hb);clear hb hbox hg;have hcz7_0:w6.cell? ⟨gb231,0,none⟩ = some (.slice A0_0 l0_0.length c0_0):=(blk_cell BK231.out 0).trans rfl;have hfz7_0:=blk_frozen BK231.out 0;have p232:0≤(0:Int):=(zz4);have q232:0 < (l0_0.length:Int):=of_decide_eq_true (zz11);obtain ⟨ad232,A232_0,c232_0,e232,hx232_0,hl232_0,hi232_0⟩:=at_L1 HR0_0.out 0 p232 q232;cases e232;have qi232:(0 < l0_0.length) = True:=eq_true (zz4);(try rw [show ((0:Int)).toNat = 0 from rfl] at hx232_0);(try rw [Addr.add_zero'] at hx232_0);replace hx232_0:=(HB.out.cell (World.block_lt_of_cell? w _ hx232_0)).trans hx232_0;have HR232_0:=Aside0.mk hi232_0;have HC232_0:=Aside0.mk hl232_0;clear hi232_0 hl232_0;replace p232:=eq_true p232;replace q232:=eq_true q232))
   go_ret
   exact ⟨zz6,by repeat (first|(with_reducible first|exact HB.out|apply below_alloc|apply pw_below_drewN|apply below_drew1|refine below_set ?_ GE231.out)|exact HB.out)⟩
  ·rw [if_neg c5] at H
   exact absurd H (zz14)
def U21.l0:Nat→List Int→Int→Option (List Int)
 | 0,_,_=>none
 | k+1,x0,x3=>if x3 > 0 then (if 0≤(wrap64 (x3 - 1)) then (if (wrap64 (x3 - 1)) < (x0.length:Int) then (if (rd x0 (wrap64 (x3 - 1))) = 0 then (U21.l0 k x0 (wrap64 (x3 - 1))) else (if 0≤x3 then (if (x3:Int).toNat≤70368744177664 then (some (copyR (List.replicate (x3:Int).toNat 0) x0)) else (none)) else (none))) else (none)) else (none)) else (if 0≤x3 then (if (x3:Int).toNat≤70368744177664 then (some (copyR (List.replicate (x3:Int).toNat 0) x0)) else (none)) else (none))
def U21.f (k:Nat) (l0:List Int):Option (List Int):=U21.l0 k l0 (l0.length:Int)
theorem zm7_2 {P:Prop} (h:P:=by repeat' first|(with_reducible first|exact ih0 ..|exact LeO.refl _|exact LeO.none _|refine LeO.ite ?_ ?_|refine LeO.bind ?_ (fun _=>?_))|exact ih0 ..|exact LeO.none _|refine LeO.ite ?_ ?_|refine LeO.bind ?_ (fun _=>?_)):P:=h
theorem U21.mono_l:∀ k,(∀ y0 y1,LeO (U21.l0 k y0 y1) (U21.l0 (k+1) y0 y1))
 | 0=>fun _ _ r h=>by simp [U21.l0] at h
 | k+1=>by
  have ih0:=U21.mono_l k
  ·intro y0 y1;unfold U21.l0
   exact zm7_2
theorem U21.mono:∀ a0 k,LeO (U21.f k a0) (U21.f (k+1) a0):=by
 intro a0 k;have ih0:=U21.mono_l k;unfold U21.f
 exact zm7_2
set_option maxHeartbeats 8000000 in
set_option maxRecDepth 100000 in
theorem U21.calls (k:Nat) (A0:Option Addr) (c0:Nat) (l0:List Int) (r:List Int) (w:World) (hr0:Kd.C (Kd.int .u32) w A0 l0.length l0) (hc0:l0.length≤c0) (h:U21.f k l0 = some r) :
  Calls Try.prog 73 #[.slice A0 l0.length c0] w fun e w'=>∃ v0_:Value,e = .returned (v0_)∧Kd.R (Kd.int .u32) 65 w' w.heap.size (fun _=>True) v0_ r∧Below w.heap.size w w':=by
 have HR0:=Aside0.mk hr0;have HC0:=Aside0.mk hc0;clear hr0 hc0;have HB:=Aside0.mk (Below.refl w.heap.size w);have H:(U21.l0 k l0 (l0.length:Int)) = some r:=h;clear h;have H':=Aside0.mk H;clear H;go_enter Try.func73,Try.ntmps73
 go_wp2
 go_loopg [3] k (fun kq v3 w'=>∃ (x3_1:Int),v3 = .int .i64 x3_1∧Aside0 (U21.l0 kq l0 x3_1 = some r)∧Aside0 (kq≤k)∧Aside0 (Below w.heap.size w w'))
 case atStart=>exact ⟨((l0.length:Int)),(zz2),H',⟨Nat.le_refl _⟩,⟨zz5⟩⟩
 case round =>
  clear H';obtain ⟨x3_1,rfl,HA,HK1,HB⟩:=hrel
  cases gk with
  | zero=>exact absurd HA.out (by simp [U21.l0])
  | succ k1 =>
   have H:=HA.out;clear HA;simp only [U21.l0] at H;by_cases c2:x3_1 > 0
   ·rw [if_pos c2] at H;have c2b0:=decide_eq_true c2;clear c2;obtain ⟨ji3,hji3⟩:∃ j_:Int,(wrap64 (x3_1 - 1)) = j_:=⟨_,rfl⟩;replace H:(if 0≤(ji3) then (if (ji3) < (l0.length:Int) then (if (rd l0 (ji3)) = 0 then (U21.l0 k1 l0 ji3) else (if 0≤x3_1 then (if (x3_1:Int).toNat≤70368744177664 then (some (copyR (List.replicate (x3_1:Int).toNat 0) l0)) else (none)) else (none))) else (none)) else (none)) = some r:=zz23;have hji3w:(IntKind.i64.wrap (x3_1 - 1)) = ji3:=(i64_w _).trans hji3;by_cases c4:0≤(ji3)
    ·rw [if_pos c4] at H;have c4b0:=decide_eq_true c4;clear c4;by_cases c5:(ji3) < (l0.length:Int)
     ·rw [if_pos c5] at H;have c5b0:=decide_eq_true c5;clear c5;by_cases c6:(rd l0 (ji3)) = 0
      ·rw [if_pos c6] at H;have c6b0:=beq_iff_eq.mpr c6;have c6b1:=bne_eq_false_iff_eq.mpr c6;clear c6;have H':=Aside0.mk H;clear H;have p233:0≤((ji3):Int):=of_decide_eq_true (zz11);have q233:(ji3) < (l0.length:Int):=of_decide_eq_true (zz11);obtain ⟨ad233,e233,hx233_0⟩:=Kd.at_int HR0.out (ji3) p233 q233
       cases e233
       replace hx233_0:=(HB.out.cell (World.block_lt_of_cell? w _ hx233_0)).trans hx233_0;replace p233:=eq_true p233;replace q233:=eq_true q233
       go_wp2
       go_roundg k1
       case measure=>have:=HK1.out;omega
       case rel=>exact ⟨(ji3),(zz24),H',⟨zz12⟩,⟨zz5⟩⟩
      ·rw [if_neg c6] at H;have c6b0:=beq_eq_false_iff_ne.mpr c6;have c6b1:=bne_iff_ne.mpr c6;by_cases c7:0≤x3_1
       ·rw [if_pos c7] at H;have c7b0:=eq_true c7;have c7b1:=decide_eq_true c7;clear c7;by_cases c8:(x3_1:Int).toNat≤70368744177664
        ·rw [if_pos c8] at H;have c8b0:=eq_true c8;have c8b1:=decide_eq_true c8;clear c8;obtain ⟨y234,hy234⟩:∃ y_:List Int,y_ = (List.replicate (x3_1:Int).toNat 0):=⟨_,rfl⟩;have hy_:=hy234;replace H:(some (copyR y234 l0)) = some r:=zzh;clear hy_;have Ny234:=Aside0.mk hy234;clear hy234;obtain ⟨y237,hy237⟩:∃ y_:List Int,y_ = (copyR y234 l0):=⟨_,rfl⟩;have hy_:=hy237;replace H:(some y237) = some r:=zzh;clear hy_;have Ny237:=Aside0.mk hy237;clear hy237;obtain rfl:=Option.some.inj H;have p233:0≤((ji3):Int):=of_decide_eq_true (zz11);have q233:(ji3) < (l0.length:Int):=of_decide_eq_true (zz11);obtain ⟨ad233,e233,hx233_0⟩:=Kd.at_int HR0.out (ji3) p233 q233
         cases e233
         replace hx233_0:=(HB.out.cell (World.block_lt_of_cell? w _ hx233_0)).trans hx233_0;replace p233:=eq_true p233;replace q233:=eq_true q233
         go_wp2_with (first|((with_reducible refine gate_dst (N:=20) rfl ?_);refine Kd.R_make (Kd.int .u32) _ 65 rfl (N:=20) rfl 32 _ _ rfl x3_1 rfl rfl Try.underlying32 (.int .u32 0) 4 info65 rfl (zz31) (zz4) 0 (ok:=fun _=>True) (okp:=fun _=>True) rfl (fun _ hk=>hk) trivial (of_decide_eq_true (zz11)) (Nat.le_trans (Nat.mul_le_mul_right _ (of_decide_eq_true (zz11):x3_1.toNat≤70368744177664)) (zz4)) (Below.refl _ _) (Nat.le_refl _) ?_;intro v235 w9 ho10 hb hg_ hnew_;clear hg_ hnew_;(first|rw [← Ny234.out] at ho10|(simp only [Int.reduceToNat] at ho10;rw [← Ny234.out] at ho10));have HO236:=Aside0.mk (Kd.R_lower ho10 (below_size (zz5)));replace HB:=Aside0.mk (below_step (zz5) hb);clear hb ho10)|((with_reducible refine gate_builtin (b:=.copy) (xs:=#[.tmp 21,.tmp 22]) rfl ?_);refine Kd.R_copy .u32 (w0:=w) w.heap.size rfl (.tmp 21) (.tmp 22) 32 32 65 (.int .u32 0) 4 rfl Try.underlying32 info65 v235 y234 l0 _ _ (fun _=>True) rfl rfl ?aO ?aR ?aB ?_;(case aR=>exact zz155);(case aB=>exact (zz5));(case aO=>exact (by (with_reducible repeat (first|apply Kd.R_alloc|apply Kd.R_drewN|apply Kd.R_drew));exact HO236.out));intro v238 w11 hv ho hb hg hat;subst hv;rw [← Ny237.out] at ho;have n0_:=Aside0.mk (hb);have n1_:=Aside0.mk (ho);clear HB;clear HO236;have HB:=n0_;have HO239:=n1_;clear n0_ n1_;clear ho hb hg hat))
         go_ret
         exact ⟨_,zz26,by (with_reducible repeat (first|apply Kd.R_alloc|apply Kd.R_drewN|apply Kd.R_drew));exact HO239.out,zz5⟩
        ·rw [if_neg c8] at H
         exact absurd H (zz14)
       ·rw [if_neg c7] at H
        exact absurd H (zz14)
     ·rw [if_neg c5] at H
      exact absurd H (zz14)
    ·rw [if_neg c4] at H
     exact absurd H (zz14)
   ·rw [if_neg c2] at H;have c2b0:=decide_eq_false c2;clear c2;by_cases c12:0≤x3_1
    ·rw [if_pos c12] at H;have c12b0:=eq_true c12;have c12b1:=decide_eq_true c12;clear c12;by_cases c13:(x3_1:Int).toNat≤70368744177664
     ·rw [if_pos c13] at H;have c13b0:=eq_true c13;have c13b1:=decide_eq_true c13;clear c13;obtain ⟨y240,hy240⟩:∃ y_:List Int,y_ = (List.replicate (x3_1:Int).toNat 0):=⟨_,rfl⟩;have hy_:=hy240;replace H:(some (copyR y240 l0)) = some r:=zzh;clear hy_;have Ny240:=Aside0.mk hy240;clear hy240;obtain ⟨y243,hy243⟩:∃ y_:List Int,y_ = (copyR y240 l0):=⟨_,rfl⟩;have hy_:=hy243;replace H:(some y243) = some r:=zzh;clear hy_;have Ny243:=Aside0.mk hy243;clear hy243;obtain rfl:=Option.some.inj H
      go_wp2_with (first|((with_reducible refine gate_dst (N:=20) rfl ?_);refine Kd.R_make (Kd.int .u32) _ 65 rfl (N:=20) rfl 32 _ _ rfl x3_1 rfl rfl Try.underlying32 (.int .u32 0) 4 info65 rfl (zz31) (zz4) 0 (ok:=fun _=>True) (okp:=fun _=>True) rfl (fun _ hk=>hk) trivial (of_decide_eq_true (zz11)) (Nat.le_trans (Nat.mul_le_mul_right _ (of_decide_eq_true (zz11):x3_1.toNat≤70368744177664)) (zz4)) (Below.refl _ _) (Nat.le_refl _) ?_;intro v241 w14 ho15 hb hg_ hnew_;clear hg_ hnew_;(first|rw [← Ny240.out] at ho15|(simp only [Int.reduceToNat] at ho15;rw [← Ny240.out] at ho15));have HO242:=Aside0.mk (Kd.R_lower ho15 (below_size (zz5)));replace HB:=Aside0.mk (below_step (zz5) hb);clear hb ho15)|((with_reducible refine gate_builtin (b:=.copy) (xs:=#[.tmp 21,.tmp 22]) rfl ?_);refine Kd.R_copy .u32 (w0:=w) w.heap.size rfl (.tmp 21) (.tmp 22) 32 32 65 (.int .u32 0) 4 rfl Try.underlying32 info65 v241 y240 l0 _ _ (fun _=>True) rfl rfl ?aO ?aR ?aB ?_;(case aR=>exact zz155);(case aB=>exact (zz5));(case aO=>exact (by (with_reducible repeat (first|apply Kd.R_alloc|apply Kd.R_drewN|apply Kd.R_drew));exact HO242.out));intro v244 w16 hv ho hb hg hat;subst hv;rw [← Ny243.out] at ho;have n0_:=Aside0.mk (hb);have n1_:=Aside0.mk (ho);clear HB;clear HO242;have HB:=n0_;have HO245:=n1_;clear n0_ n1_;clear ho hb hg hat))
      go_ret
      exact ⟨_,zz6,by (with_reducible repeat (first|apply Kd.R_alloc|apply Kd.R_drewN|apply Kd.R_drew));exact HO245.out,zz5⟩
     ·rw [if_neg c13] at H
      exact absurd H (zz14)
    ·rw [if_neg c12] at H
     exact absurd H (zz14)
def U22.f (k:Nat) (a0:Int):Option (List Int):=(U21.f k (([(a0) % 4294967296,(a0 / 4294967296) % 4294967296]:List Int))).bind fun t249=>(some t249)
theorem zm7_3 {P:Prop} (h:P:=by repeat' first|(with_reducible first|exact U21.mono ..|exact LeO.refl _|exact LeO.none _|refine LeO.ite ?_ ?_|refine LeO.bind ?_ (fun _=>?_))|exact U21.mono ..|exact LeO.none _|refine LeO.ite ?_ ?_|refine LeO.bind ?_ (fun _=>?_)):P:=h
theorem U22.mono:∀ a0 k,LeO (U22.f k a0) (U22.f (k+1) a0):=by
 intro a0 k;unfold U22.f
 exact zm7_3
set_option maxHeartbeats 8000000 in
set_option maxRecDepth 100000 in
theorem U22.calls (k:Nat) (a0:Int) (r:List Int) (w:World) (h:U22.f k a0 = some r) :
  Calls Try.prog 58 #[.int .u64 a0] w fun e w'=>∃ v0_:Value,e = .returned (v0_)∧Kd.R (Kd.int .u32) 65 w' w.heap.size (fun _=>True) v0_ r∧Below w.heap.size w w':=by
 have HB:=Aside0.mk (Below.refl w.heap.size w);have H:((U21.f k (([(a0) % 4294967296,(a0 / 4294967296) % 4294967296]:List Int))).bind fun t249=>(some t249)) = some r:=h;clear h;obtain ⟨y246,hy246⟩:∃ y_:List Int,y_ = (([(a0) % 4294967296,(a0 / 4294967296) % 4294967296]:List Int)):=⟨_,rfl⟩;have hy_:=hy246;replace H:((U21.f k y246).bind fun t249=>(some t249)) = some r:=zzh;clear hy_;have Ny246:=Aside0.mk hy246;clear hy246;replace H:=Option.bind_eq_some_iff.mp H;obtain ⟨t249,A20,H⟩:=H;have A2:=Aside0.mk A20;clear A20;obtain rfl:=Option.some.inj H;go_enter Try.func58,Try.ntmps58
 go_wp2_with (first|((with_reducible refine gate_dst (N:=8) rfl ?_);refine Kd.R_lit (Kd.int .u32) _ 65 ?hg (N:=8) ?hd (xs:=([(a0) % 4294967296,(a0 / 4294967296) % 4294967296]:List Int)) (inner:=[.int .u32 ((a0) % 4294967296),.int .u32 ((a0 / 4294967296) % 4294967296)]) (ok:=fun _=>True) (okp:=fun _=>True) ?hr ?hp (fun _ hk=>hk) trivial (Below.refl _ _) (Nat.le_refl _) (zz14) ?_;(case hd=>rfl);(case hg=>rfl);(case hr=>exact zz146);(case hp=>exact (Reps.one (show Kd.M (Kd.int .u32) _ _ _ ((a0) % 4294967296) [.int .u32 ((a0) % 4294967296)] from rfl) (Reps.one (show Kd.M (Kd.int .u32) _ _ _ ((a0 / 4294967296) % 4294967296) [.int .u32 ((a0 / 4294967296) % 4294967296)] from rfl) (Reps.none _ _))));intro v247 w3 ho4 hb hg_ hnew_;clear hg_ hnew_;(first|rw [← Ny246.out] at ho4|(simp only [Int.reduceToNat] at ho4;rw [← Ny246.out] at ho4));have HO248:=Aside0.mk (Kd.R_lower ho4 (below_size (zz5)));replace HB:=Aside0.mk (below_step (zz5) hb);clear hb ho4;obtain ⟨Ao5,co5,eo5⟩:=Kd.R_slice HO248.out;subst eo5)|((with_reducible refine gate_callee (f:=73) rfl ?_);refine goesL_ (some 9) rfl rfl Try.func73 (zz0) rfl #[.slice Ao5 y246.length co5] rfl (zz16) ?_;(with_reducible refine (U21.calls k _ _ y246 t249 _ ?side1 ?side2 A2.out).mono ?_);(case side1=>repeat (first|exact (Kd.R_reads' HO248.out).2.2|(with_reducible refine Kd.C_alloc ?_ _)|(with_reducible refine Kd.C_drewN ?_ _)|(with_reducible refine Kd.C_drew ?_)));(case side2=>exact (Kd.R_reads' HO248.out).2.1);rintro e w6 ⟨v250,rfl,ho0,hb⟩;refine ⟨_,rfl,?_⟩;have HO251:=Aside0.mk (Kd.R_lower (Kd.R_new' ho0 (Kd.R_lt (by (with_reducible repeat (first|apply Kd.R_alloc|apply Kd.R_drewN|apply Kd.R_drew));exact HO248.out))) (below_size (zz5)));replace HO248:=Aside0.mk (Kd.R_elder' (by (with_reducible repeat (first|apply Kd.R_alloc|apply Kd.R_drewN|apply Kd.R_drew));exact HO248.out) (Kd.R_base ho0) hb);replace HB:=Aside0.mk (below_step (zz5) hb);(try clear hb);(try clear hb2);(try clear hk);(try clear hi);(try clear ho0)))
 go_ret
 exact ⟨_,zz6,by (with_reducible repeat (first|apply Kd.R_alloc|apply Kd.R_drewN|apply Kd.R_drew));exact Kd.R_mono HO251.out (fun _ hk=>trivial),zz5⟩
end Go.Proofs.Ytmcegphcjphdcaa.QA
