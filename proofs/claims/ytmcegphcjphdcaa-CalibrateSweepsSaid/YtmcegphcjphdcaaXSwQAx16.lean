import Derived.Test.YtmcegphcjphdcaaXSwQAx0
import Derived.Test.YtmcegphcjphdcaaXSwQAx15
namespace Go.Proofs.Ytmcegphcjphdcaa.QA
open Go.RowKit Go.Proofs.YtmcegphcjphdcaaW.PrintWords Go.Proofs.YtmcegphcjphdcaaW.PrintLast Go.Proofs.YtmcegphcjphdcaaW.PrintMore
attribute [local go_sem] max2_int min2_int max_two min_two max_three min_three max_four min_four
set_option linter.unusedVariables false
set_option linter.unusedSimpArgs false
mutual
def U25.j0:Nat→List Int→Bool→List Int→List Int→List (List Int)→Option (Int)
 | 0,_,_,_,_,_=>none
 | k+1,x1,x25,x376000,x376001,x376002=>if x25 = true then (some 5) else ((U26.f k x376000).bind fun t376=>(if t376 = true then ((U26.f k x376001).bind fun t377=>(U25.j1 k x1 (!t377) x376000 x376001 x376002)) else (U25.j1 k x1 true x376000 x376001 x376002)))
def U25.j1:Nat→List Int→Bool→List Int→List Int→List (List Int)→Option (Int)
 | 0,_,_,_,_,_=>none
 | k+1,x1,x35,x376000,x376001,x376002=>if x35 = true then (some 23) else ((U27.f k x376000 x376001 x376002).bind fun t378=>(if t378 = true then (U25.j2 k x1 ((x1.length:Int) != (x376001.length:Int)) x376000 x376001 x376002) else (U25.j2 k x1 true x376000 x376001 x376002)))
def U25.j2:Nat→List Int→Bool→List Int→List Int→List (List Int)→Option (Int)
 | 0,_,_,_,_,_=>none
 | k+1,x1,x46,x376000,x376001,x376002=>if x46 = true then (some 1) else (U25.l0 k x1 x1 (x1.length:Int) 0 x376000 x376001 x376002)
def U25.l0:Nat→List Int→List Int→Int→Int→List Int→List Int→List (List Int)→Option (Int)
 | 0,_,_,_,_,_,_,_=>none
 | k+1,x1,x47,x48,x49,x376000,x376001,x376002=>if x49 < x48 then (if 0≤x49 then (if x49 < (x47.length:Int) then (if (rd x47 x49) < 2 then (some 1) else (if (rd x47 x49) > 6 then (some 1) else (U25.l0 k x1 x47 x48 (wrap64 (x49+1)) x376000 x376001 x376002))) else (none)) else (none)) else (U25.l1 k x1 x376002 (x376002.length:Int) 0)
def U25.l1:Nat→List Int→List (List Int)→Int→Int→Option (Int)
 | 0,_,_,_,_=>none
 | k+1,x1,x61,x62,x63=>if x63 < x62 then (if 0≤x63 then (if x63 < (x61.length:Int) then (U25.l2 k x1 x61 x62 x63 (rd_L1 x61 x63) ((rd_L1 x61 x63).length:Int) 0) else (none)) else (none)) else (some 0)
def U25.l2:Nat→List Int→List (List Int)→Int→Int→List Int→Int→Int→Option (Int)
 | 0,_,_,_,_,_,_,_=>none
 | k+1,x1,x61,x62,x63,x67,x68,x69=>if x69 < x68 then (if 0≤x69 then (if x69 < (x67.length:Int) then (if (rd x67 x69) = (-1) then (U25.l2 k x1 x61 x62 x63 x67 x68 (wrap64 (x69+1))) else (if (rd x67 x69) = (-2) then (U25.l2 k x1 x61 x62 x63 x67 x68 (wrap64 (x69+1))) else (if (rd x67 x69) < 0 then (some 3) else (if x69 < (x1.length:Int) then (if (rd x67 x69)≥(rd x1 x69) then (some 3) else (U25.l2 k x1 x61 x62 x63 x67 x68 (wrap64 (x69+1)))) else (none))))) else (none)) else (none)) else (U25.l1 k x1 x61 x62 (wrap64 (x63+1)))
end
def U25.f (k:Nat) (l0_0:List Int) (l0_1:List Int) (l0_2:List (List Int)) (l1:List Int):Option (Int):=if (l0_0.length:Int) > 200 then (U25.j0 k l1 true l0_0 l0_1 l0_2) else (if (l0_1.length:Int) > 60 then (U25.j0 k l1 true l0_0 l0_1 l0_2) else (U25.j0 k l1 (decide ((l1.length:Int) > 60)) l0_0 l0_1 l0_2))
theorem zm21_0 {P:Prop} (h:P:=by repeat' first|(with_reducible first|exact ih0 ..|exact ih1 ..|exact ih2 ..|exact ih3 ..|exact ih4 ..|exact ih5 ..|exact U26.mono ..|exact U27.mono ..|exact LeO.refl _|exact LeO.none _|refine LeO.ite ?_ ?_|refine LeO.bind ?_ (fun _=>?_))|exact ih0 ..|exact ih1 ..|exact ih2 ..|exact ih3 ..|exact ih4 ..|exact ih5 ..|exact U26.mono ..|exact U27.mono ..|exact LeO.none _|refine LeO.ite ?_ ?_|refine LeO.bind ?_ (fun _=>?_)):P:=h
theorem U25.mono_l:∀ k,(∀ y0 y1 y2 y3 y4,LeO (U25.j0 k y0 y1 y2 y3 y4) (U25.j0 (k+1) y0 y1 y2 y3 y4))∧(∀ y0 y1 y2 y3 y4,LeO (U25.j1 k y0 y1 y2 y3 y4) (U25.j1 (k+1) y0 y1 y2 y3 y4))∧(∀ y0 y1 y2 y3 y4,LeO (U25.j2 k y0 y1 y2 y3 y4) (U25.j2 (k+1) y0 y1 y2 y3 y4))∧(∀ y0 y1 y2 y3 y4 y5 y6,LeO (U25.l0 k y0 y1 y2 y3 y4 y5 y6) (U25.l0 (k+1) y0 y1 y2 y3 y4 y5 y6))∧(∀ y0 y1 y2 y3,LeO (U25.l1 k y0 y1 y2 y3) (U25.l1 (k+1) y0 y1 y2 y3))∧(∀ y0 y1 y2 y3 y4 y5 y6,LeO (U25.l2 k y0 y1 y2 y3 y4 y5 y6) (U25.l2 (k+1) y0 y1 y2 y3 y4 y5 y6))
 | 0=>⟨fun _ _ _ _ _ r h=>by simp [U25.j0] at h,fun _ _ _ _ _ r h=>by simp [U25.j1] at h,fun _ _ _ _ _ r h=>by simp [U25.j2] at h,fun _ _ _ _ _ _ _ r h=>by simp [U25.l0] at h,fun _ _ _ _ r h=>by simp [U25.l1] at h,fun _ _ _ _ _ _ _ r h=>by simp [U25.l2] at h⟩
 | k+1=>by
  obtain ⟨ih0,ih1,ih2,ih3,ih4,ih5⟩:=U25.mono_l k;refine ⟨?_,?_,?_,?_,?_,?_⟩
  ·intro y0 y1 y2 y3 y4;unfold U25.j0
   exact zm21_0
  ·intro y0 y1 y2 y3 y4;unfold U25.j1
   exact zm21_0
  ·intro y0 y1 y2 y3 y4;unfold U25.j2
   exact zm21_0
  ·intro y0 y1 y2 y3 y4 y5 y6;unfold U25.l0
   exact zm21_0
  ·intro y0 y1 y2 y3;unfold U25.l1
   exact zm21_0
  ·intro y0 y1 y2 y3 y4 y5 y6;unfold U25.l2
   exact zm21_0
theorem U25.mono:∀ a0 a1 a2 a3 k,LeO (U25.f k a0 a1 a2 a3) (U25.f (k+1) a0 a1 a2 a3):=by
 intro a0 a1 a2 a3 k;obtain ⟨ih0,ih1,ih2,ih3,ih4,ih5⟩:=U25.mono_l k;unfold U25.f
 exact zm21_0
set_option maxHeartbeats 8000000 in
set_option maxRecDepth 100000 in
theorem U25.calls (k:Nat) (A0_0:Option Addr) (c0_0:Nat) (l0_0:List Int) (A0_1:Option Addr) (c0_1:Nat) (l0_1:List Int) (A0_2:Option Addr) (c0_2:Nat) (l0_2:List (List Int)) (A1:Option Addr) (c1:Nat) (l1:List Int) (r:Int) (w:World) (hr0_0:Kd.C (Kd.int .i64) w A0_0 l0_0.length l0_0) (hc0_0:l0_0.length≤c0_0) (hr0_1:Kd.C (Kd.int .i64) w A0_1 l0_1.length l0_1) (hc0_1:l0_1.length≤c0_1) (hr0_2:Kd.C (Kd.slice 3 (Kd.int .i64)) w A0_2 l0_2.length l0_2) (hc0_2:l0_2.length≤c0_2) (hr1:Kd.C (Kd.int .i64) w A1 l1.length l1) (hc1:l1.length≤c1) (h:U25.f k l0_0 l0_1 l0_2 l1 = some r) :
  Calls Try.prog 41 #[.agg #[.slice A0_0 l0_0.length c0_0,.slice A0_1 l0_1.length c0_1,.slice A0_2 l0_2.length c0_2],.slice A1 l1.length c1] w fun e w'=>e = .returned (.int .i64 r)∧Below w.heap.size w w':=by
 have hu36:=Try.underlying36;have HR0_0:=Aside0.mk hr0_0;have HC0_0:=Aside0.mk hc0_0;clear hr0_0 hc0_0;have HR0_1:=Aside0.mk hr0_1;have HC0_1:=Aside0.mk hc0_1;clear hr0_1 hc0_1;have HR0_2:=Aside0.mk hr0_2;have HC0_2:=Aside0.mk hc0_2;clear hr0_2 hc0_2;have HR1:=Aside0.mk hr1;have HC1:=Aside0.mk hc1;clear hr1 hc1;have HB:=Aside0.mk (Below.refl w.heap.size w);have H:(if (l0_0.length:Int) > 200 then (U25.j0 k l1 true l0_0 l0_1 l0_2) else (if (l0_1.length:Int) > 60 then (U25.j0 k l1 true l0_0 l0_1 l0_2) else (U25.j0 k l1 (decide ((l1.length:Int) > 60)) l0_0 l0_1 l0_2))) = some r:=h;clear h;have HC3:=Aside0.mk H;clear H;go_enter Try.func41,Try.ntmps41
 go_upto_region 1 with (first|((with_reducible refine gate_dst (N:=2) rfl ?_);(try (refine gate_guard (zz20) ?_;dsimp only));refine box_event ?hg (N:=2) ?hd (cs:=#[.slice A0_0 l0_0.length c0_0,.slice A0_1 l0_1.length c0_1,.slice A0_2 l0_2.length c0_2]) (t:=36) ?hr ?_;(case hd=>rfl);(case hg=>rfl);(case hr=>exact zz109);intro gb375 hg w4 hbox hb;have BK375:=Aside0.mk (hbox);have GW375:=Aside0.mk ((by rw [hg];exact (below_size (zz5)):w.heap.size≤gb375));have GE375:=Aside0.mk ((by rw [hg];exact (below_size (zz5)):w.heap.size≤gb375));replace HB:=Aside0.mk (below_step (zz5) hb);clear hb hbox hg))
 (try simp only [Act.put,List.setIfInBounds_toArray,List.set_cons_zero,List.set_cons_succ])
 go_cut [25] (fun v25 wc=>∃ (kq:Nat) (x25_2:Bool),v25 = .bool x25_2∧Aside0 (U25.j0 kq l1 x25_2 l0_0 l0_1 l0_2 = some r)∧Aside0 (kq≤k)∧Aside0 (wc.heap[gb375]? = some (.cells #[(.slice A0_0 l0_0.length c0_0),(.slice A0_1 l0_1.length c0_1),(.slice A0_2 l0_2.length c0_2)] 36 (0,0)))∧Aside0 (Below w.heap.size w wc))
 case first =>
  have H:=HC3.out;clear HC3;replace H:=zzj H;rcases H with ⟨c5,H⟩|⟨c5,H⟩
  ·have c5b0:=decide_eq_true c5;have c5b1:decide (200 < l0_0.length) = true:=decide_eq_true (zz4);clear c5
   (first|rw [c5b0]|rw [c5b1]|(simp only [i64_w,i32_w];rw [c5b0])|skip)
   have H':=Aside0.mk H;clear H;obtain ⟨hcz6_0,hcz6_1,hcz6_2,hfz6_0,hfz6_1,hfz6_2⟩:=zc3 BK375.out
   go_wp2
   go_meet
   case rel=>exact ⟨_,(true),(zz2),H',⟨zz21⟩,⟨zz79⟩,⟨zz80⟩⟩
  ·have c5b0:=decide_eq_false c5;have c5b1:decide (200 < l0_0.length) = false:=decide_eq_false (zz4);clear c5
   (first|rw [c5b0]|rw [c5b1]|(simp only [i64_w,i32_w];rw [c5b0])|skip)
   replace H:=zzj H;rcases H with ⟨c7,H⟩|⟨c7,H⟩
   ·have c7b0:=decide_eq_true c7;have c7b1:decide (60 < l0_1.length) = true:=decide_eq_true (zz4);clear c7;have H':=Aside0.mk H;clear H;obtain ⟨hcz8_0,hcz8_1,hcz8_2,hfz8_0,hfz8_1,hfz8_2⟩:=zc3 BK375.out
    go_wp2
    go_meet
    case rel=>exact ⟨_,(true),(zz2),H',⟨zz21⟩,⟨zz79⟩,⟨zz80⟩⟩
   ·have c7b0:=decide_eq_false c7;have c7b1:decide (60 < l0_1.length) = false:=decide_eq_false (zz4);clear c7;have H':=Aside0.mk H;clear H;obtain ⟨hcz9_0,hcz9_1,hcz9_2,hfz9_0,hfz9_1,hfz9_2⟩:=zc3 BK375.out
    go_wp2
    go_meet
    case rel=>exact ⟨_,(decide ((l1.length:Int) > 60)),(zz2),H',⟨zz21⟩,⟨zz79⟩,⟨zz80⟩⟩
 case rest =>
  clear HC3;(try clear c1);obtain ⟨kq,x25_2,rfl,HA,HJ2,BK375,HB⟩:=hcut
  cases kq with
  | zero=>exact absurd HA.out (by simp [U25.j0])
  | succ kj2 =>
   have H:=HA.out;clear HA;simp only [U25.j0] at H;by_cases c10:x25_2 = true
   ·subst c10;have H1:(some 5) = some r:=zz10;clear H;have H:=H1;clear H1;obtain rfl:=Option.some.inj H
    go_wp2
    go_ret
    exact ⟨zz6,zz80⟩
   ·replace c10:=Bool.eq_false_iff.mpr c10;subst c10;have H1:((U26.f kj2 l0_0).bind fun t376=>(if t376 = true then ((U26.f kj2 l0_1).bind fun t377=>(U25.j1 kj2 l1 (!t377) l0_0 l0_1 l0_2)) else (U25.j1 kj2 l1 true l0_0 l0_1 l0_2))) = some r:=zz13;clear H;have H:=H1;clear H1;have HC11:=Aside0.mk H;clear H
    go_upto_region 3 with (fail)
    go_cut [35] (fun v35 wc=>∃ (kq:Nat) (x35_10:Bool),v35 = .bool x35_10∧Aside0 (U25.j1 kq l1 x35_10 l0_0 l0_1 l0_2 = some r)∧Aside0 (kq≤kj2)∧Aside0 (wc.heap[gb375]? = some (.cells #[(.slice A0_0 l0_0.length c0_0),(.slice A0_1 l0_1.length c0_1),(.slice A0_2 l0_2.length c0_2)] 36 (0,0)))∧Aside0 (Below w.heap.size w wc))
    case first =>
     have H:=HC11.out;clear HC11;replace H:=zzb H;obtain ⟨t376,A12,H⟩:=H;by_cases c13:t376 = true
     ·subst c13;have H1:((U26.f kj2 l0_1).bind fun t377=>(U25.j1 kj2 l1 (!t377) l0_0 l0_1 l0_2)) = some r:=zz10;clear H;have H:=H1;clear H1;replace H:=zzb H;obtain ⟨t377,A14,H⟩:=H;have H':=Aside0.mk H;clear H;obtain ⟨hcz15_0,hcz15_1,hcz15_2,hfz15_0,hfz15_1,hfz15_2⟩:=zc3 BK375.out
      go_wp2_with (first|((with_reducible refine gate_callee (f:=63) rfl ?_);refine goesL_ (some 28) rfl rfl Try.func63 (zz0) rfl #[.slice A0_0 l0_0.length c0_0] rfl (zz19) ?_;(with_reducible refine (U26.calls kj2 _ _ l0_0 true _ ?_ ?_ A12.out).mono ?_);exact zz111;exact zz112;rintro e w' ⟨rfl,⟨nd,rfl⟩⟩;refine ⟨_,rfl,?_⟩)|(go_at_call 63;(with_reducible refine (U26.calls kj2 _ _ l0_1 t377 _ ?_ ?_ A14.out).mono ?_);(repeat (first|exact (Kd.C_below HR0_1.out (zz80))|(with_reducible refine Kd.C_alloc ?_ _)|(with_reducible refine Kd.C_drewN ?_ _)|(with_reducible refine Kd.C_drew ?_)));exact zz114;rintro e w' ⟨rfl,⟨nd,rfl⟩⟩))
      go_meet
      case rel=>exact ⟨_,(!t377),(zz2),H',⟨(have h0_:=HJ2;zz36)⟩,⟨zz79⟩,⟨zz80⟩⟩
     ·replace c13:=Bool.eq_false_iff.mpr c13;subst c13;have H1:(U25.j1 kj2 l1 true l0_0 l0_1 l0_2) = some r:=zz13;clear H;have H:=H1;clear H1;have H':=Aside0.mk H;clear H;obtain ⟨hcz16_0,hcz16_1,hcz16_2,hfz16_0,hfz16_1,hfz16_2⟩:=zc3 BK375.out
      go_wp2_with (first|((with_reducible refine gate_callee (f:=63) rfl ?_);refine goesL_ (some 28) rfl rfl Try.func63 (zz0) rfl #[.slice A0_0 l0_0.length c0_0] rfl (zz19) ?_;(with_reducible refine (U26.calls kj2 _ _ l0_0 false _ ?_ ?_ A12.out).mono ?_);exact zz111;exact zz112;rintro e w' ⟨rfl,⟨nd,rfl⟩⟩;refine ⟨_,rfl,?_⟩))
      go_meet
      case rel=>exact ⟨_,(true),(zz2),H',⟨(have h0_:=HJ2;zz36)⟩,⟨zz79⟩,⟨zz80⟩⟩
    case rest =>
     clear HC11;(try clear c10);(try clear hcz6_0);(try clear hcz6_1);(try clear hcz6_2);(try clear hcz8_0);(try clear hcz8_1);(try clear hcz8_2);(try clear hcz9_0);(try clear hcz9_1);(try clear hcz9_2);(try clear hfz6_0);(try clear hfz6_1);(try clear hfz6_2);(try clear hfz8_0);(try clear hfz8_1);(try clear hfz8_2);(try clear hfz9_0);(try clear hfz9_1);(try clear hfz9_2);obtain ⟨kq,x35_10,rfl,HA,HJ10,BK375,HB⟩:=hcut
     cases kq with
     | zero=>exact absurd HA.out (by simp [U25.j1])
     | succ kj10 =>
      have H:=HA.out;clear HA;simp only [U25.j1] at H;by_cases c17:x35_10 = true
      ·subst c17;have H1:(some 23) = some r:=zz10;clear H;have H:=H1;clear H1;obtain rfl:=Option.some.inj H
       go_wp2
       go_ret
       exact ⟨zz6,zz80⟩
      ·replace c17:=Bool.eq_false_iff.mpr c17;subst c17;have H1:((U27.f kj10 l0_0 l0_1 l0_2).bind fun t378=>(if t378 = true then (U25.j2 kj10 l1 ((l1.length:Int) != (l0_1.length:Int)) l0_0 l0_1 l0_2) else (U25.j2 kj10 l1 true l0_0 l0_1 l0_2))) = some r:=zz13;clear H;have H:=H1;clear H1;have HC18:=Aside0.mk H;clear H
       go_upto_region 5 with (fail)
       go_cut [46] (fun v46 wc=>∃ (kq:Nat) (x46_17:Bool),v46 = .bool x46_17∧Aside0 (U25.j2 kq l1 x46_17 l0_0 l0_1 l0_2 = some r)∧Aside0 (kq≤kj10)∧Aside0 (wc.heap[gb375]? = some (.cells #[(.slice A0_0 l0_0.length c0_0),(.slice A0_1 l0_1.length c0_1),(.slice A0_2 l0_2.length c0_2)] 36 (0,0)))∧Aside0 (Below w.heap.size w wc))
       case first =>
        have H:=HC18.out;clear HC18;replace H:=zzb H;obtain ⟨t378,A19,H⟩:=H;by_cases c20:t378 = true
        ·subst c20;have H1:(U25.j2 kj10 l1 ((l1.length:Int) != (l0_1.length:Int)) l0_0 l0_1 l0_2) = some r:=zz10;clear H;have H:=H1;clear H1;have H':=Aside0.mk H;clear H;obtain ⟨hcz21_0,hcz21_1,hcz21_2,hfz21_0,hfz21_1,hfz21_2⟩:=zc3 BK375.out
         go_wp2_with (first|((with_reducible refine gate_callee (f:=64) rfl ?_);refine goesL_ (some 37) rfl rfl Try.func64 (zz0) rfl #[.agg #[.slice A0_0 l0_0.length c0_0,.slice A0_1 l0_1.length c0_1,.slice A0_2 l0_2.length c0_2]] rfl (zz19) ?_;(with_reducible refine (U27.calls kj10 _ _ l0_0 _ _ l0_1 _ _ l0_2 true _ ?_ ?_ ?_ ?_ ?_ ?_ A19.out).mono ?_);exact zz111;exact zz112;exact zz113;exact zz114;(exact (have h0_:=HR0_2;zz110));exact HC0_2.out;rintro e w22 ⟨rfl,hb⟩;refine ⟨_,rfl,?_⟩;replace BK375:=Aside0.mk (blk_below (zz79) hb);replace HB:=Aside0.mk (below_step (zz80) hb);(try clear hb);obtain ⟨hcz23_0,hcz23_1,hcz23_2,hfz23_0,hfz23_1,hfz23_2⟩:=zc3 BK375.out))
         go_meet
         case rel=>exact ⟨_,(((l1.length:Int) != (l0_1.length:Int))),(zz2),H',⟨zz50⟩,⟨zz79⟩,⟨zz80⟩⟩
        ·replace c20:=Bool.eq_false_iff.mpr c20;subst c20;have H1:(U25.j2 kj10 l1 true l0_0 l0_1 l0_2) = some r:=zz13;clear H;have H:=H1;clear H1;have H':=Aside0.mk H;clear H;obtain ⟨hcz24_0,hcz24_1,hcz24_2,hfz24_0,hfz24_1,hfz24_2⟩:=zc3 BK375.out
         go_wp2_with (first|((with_reducible refine gate_callee (f:=64) rfl ?_);refine goesL_ (some 37) rfl rfl Try.func64 (zz0) rfl #[.agg #[.slice A0_0 l0_0.length c0_0,.slice A0_1 l0_1.length c0_1,.slice A0_2 l0_2.length c0_2]] rfl (zz19) ?_;(with_reducible refine (U27.calls kj10 _ _ l0_0 _ _ l0_1 _ _ l0_2 false _ ?_ ?_ ?_ ?_ ?_ ?_ A19.out).mono ?_);exact zz111;exact zz112;exact zz113;exact zz114;(exact (have h0_:=HR0_2;zz110));exact HC0_2.out;rintro e w25 ⟨rfl,hb⟩;refine ⟨_,rfl,?_⟩;replace BK375:=Aside0.mk (blk_below (zz79) hb);replace HB:=Aside0.mk (below_step (zz80) hb);(try clear hb)))
         go_meet
         case rel=>exact ⟨_,(true),(zz2),H',⟨zz50⟩,⟨zz79⟩,⟨zz80⟩⟩
       case rest =>
        clear HC18;(try clear c17);(try clear hcz15_0);(try clear hcz15_1);(try clear hcz15_2);(try clear hcz16_0);(try clear hcz16_1);(try clear hcz16_2);(try clear hcz6_0);(try clear hcz6_1);(try clear hcz6_2);(try clear hcz8_0);(try clear hcz8_1);(try clear hcz8_2);(try clear hcz9_0);(try clear hcz9_1);(try clear hcz9_2);(try clear hfz15_0);(try clear hfz15_1);(try clear hfz15_2);(try clear hfz16_0);(try clear hfz16_1);(try clear hfz16_2);(try clear hfz6_0);(try clear hfz6_1);(try clear hfz6_2);(try clear hfz8_0);(try clear hfz8_1);(try clear hfz8_2);(try clear hfz9_0);(try clear hfz9_1);(try clear hfz9_2);obtain ⟨kq,x46_17,rfl,HA,HJ17,BK375,HB⟩:=hcut
        cases kq with
        | zero=>exact absurd HA.out (by simp [U25.j2])
        | succ kj17 =>
         have H:=HA.out;clear HA;simp only [U25.j2] at H;by_cases c26:x46_17 = true
         ·subst c26;have H1:(some 1) = some r:=zz10;clear H;have H:=H1;clear H1;obtain rfl:=Option.some.inj H
          go_wp2
          go_ret
          exact ⟨zz6,zz80⟩
         ·replace c26:=Bool.eq_false_iff.mpr c26;subst c26;have H1:(U25.l0 kj17 l1 l1 (l1.length:Int) 0 l0_0 l0_1 l0_2) = some r:=zz13;clear H;have H:=H1;clear H1;have H':=Aside0.mk H;clear H
          go_wp2
          go_loopg [49] kj17 (fun kq v49 w'=>∃ (x49_4:Int),v49 = .int .i64 x49_4∧Aside0 (U25.l0 kq l1 l1 (l1.length:Int) x49_4 l0_0 l0_1 l0_2 = some r)∧Aside0 (kq≤kj17)∧Aside0 (w'.heap[gb375]? = some (.cells #[(.slice A0_0 l0_0.length c0_0),(.slice A0_1 l0_1.length c0_1),(.slice A0_2 l0_2.length c0_2)] 36 (0,0)))∧Aside0 (Below w.heap.size w w'))
          case atStart=>exact ⟨(0),(zz2),H',⟨Nat.le_refl _⟩,⟨zz79⟩,⟨zz80⟩⟩
          case round =>
           clear H'
           (try clear c26);(try clear hcz15_0);(try clear hcz15_1);(try clear hcz15_2);(try clear hcz16_0);(try clear hcz16_1);(try clear hcz16_2);(try clear hcz21_0);(try clear hcz21_1);(try clear hcz21_2);(try clear hcz23_0);(try clear hcz23_1);(try clear hcz23_2);(try clear hcz24_0);(try clear hcz24_1);(try clear hcz24_2);(try clear hcz6_0);(try clear hcz6_1);(try clear hcz6_2);(try clear hcz8_0);(try clear hcz8_1);(try clear hcz8_2);(try clear hcz9_0);(try clear hcz9_1);(try clear hcz9_2);(try clear hfz15_0);(try clear hfz15_1);(try clear hfz15_2);(try clear hfz16_0);(try clear hfz16_1);(try clear hfz16_2);(try clear hfz21_0);(try clear hfz21_1);(try clear hfz21_2);(try clear hfz23_0);(try clear hfz23_1);(try clear hfz23_2);(try clear hfz24_0);(try clear hfz24_1);(try clear hfz24_2);(try clear hfz6_0);(try clear hfz6_1);(try clear hfz6_2);(try clear hfz8_0);(try clear hfz8_1);(try clear hfz8_2);(try clear hfz9_0);(try clear hfz9_1);(try clear hfz9_2)
           obtain ⟨x49_4,rfl,HA,HK4,BK375,HB⟩:=hrel
           cases gk with
           | zero=>exact absurd HA.out (by simp [U25.l0])
           | succ k4 =>
            have H:=HA.out;clear HA;simp only [U25.l0] at H;replace H:=zzj H;rcases H with ⟨c27,H⟩|⟨c27,H⟩
            ·have c27b0:=decide_eq_true c27;clear c27;replace H:=zzi H;obtain ⟨c28,H⟩:=H;have c28b0:=decide_eq_true c28;clear c28;replace H:=zzi H;obtain ⟨c29,H⟩:=H;have c29b0:=decide_eq_true c29;clear c29;replace H:=zzj H;rcases H with ⟨c30,H⟩|⟨c30,H⟩
             ·have c30b0:=decide_eq_true c30;clear c30;obtain rfl:=Option.some.inj H;have p379:0≤(x49_4:Int):=of_decide_eq_true (zz11);have q379:x49_4 < (l1.length:Int):=of_decide_eq_true (zz11);obtain ⟨ad379,e379,hx379_0⟩:=Kd.at_int HR1.out x49_4 p379 q379
              cases e379
              replace hx379_0:=(HB.out.cell (World.block_lt_of_cell? w _ hx379_0)).trans hx379_0;replace p379:=eq_true p379;replace q379:=eq_true q379
              go_wp2
              go_ret
              exact ⟨zz6,zz80⟩
             ·have c30b0:=decide_eq_false c30;clear c30;replace H:=zzj H;rcases H with ⟨c31,H⟩|⟨c31,H⟩
              ·have c31b0:=decide_eq_true c31;clear c31;obtain rfl:=Option.some.inj H;have p379:0≤(x49_4:Int):=of_decide_eq_true (zz11);have q379:x49_4 < (l1.length:Int):=of_decide_eq_true (zz11);obtain ⟨ad379,e379,hx379_0⟩:=Kd.at_int HR1.out x49_4 p379 q379
               cases e379
               replace hx379_0:=(HB.out.cell (World.block_lt_of_cell? w _ hx379_0)).trans hx379_0;replace p379:=eq_true p379;replace q379:=eq_true q379
               go_wp2
               go_ret
               exact ⟨zz6,zz80⟩
              ·have c31b0:=decide_eq_false c31;clear c31;have H':=Aside0.mk H;clear H;have p379:0≤(x49_4:Int):=of_decide_eq_true (zz11);have q379:x49_4 < (l1.length:Int):=of_decide_eq_true (zz11);obtain ⟨ad379,e379,hx379_0⟩:=Kd.at_int HR1.out x49_4 p379 q379
               cases e379
               replace hx379_0:=(HB.out.cell (World.block_lt_of_cell? w _ hx379_0)).trans hx379_0;replace p379:=eq_true p379;replace q379:=eq_true q379
               go_wp2
               go_roundg k4
               case measure=>have:=HJ2.out;have:=HJ10.out;have:=HJ17.out;have:=HK4.out;omega
               case rel=>exact ⟨(wrap64 (x49_4+1)),(zz2),H',⟨by have:=HJ2.out;have:=HJ10.out;have:=HJ17.out;have:=HK4.out;omega⟩,⟨zz79⟩,⟨zz80⟩⟩
            ·have c27b0:=decide_eq_false c27;clear c27;have H':=Aside0.mk H;clear H;obtain ⟨hcz32_0,hcz32_1,hcz32_2,hfz32_0,hfz32_1,hfz32_2⟩:=zc3 BK375.out
             go_wp2
             go_loopg [63] k4 (fun kq v63 w'=>∃ (x63_5:Int),v63 = .int .i64 x63_5∧Aside0 (U25.l1 kq l1 l0_2 (l0_2.length:Int) x63_5 = some r)∧Aside0 (kq≤k4)∧Aside0 (w'.heap[gb375]? = some (.cells #[(.slice A0_0 l0_0.length c0_0),(.slice A0_1 l0_1.length c0_1),(.slice A0_2 l0_2.length c0_2)] 36 (0,0)))∧Aside0 (Below w.heap.size w w'))
             case atStart=>exact ⟨(0),(zz2),H',⟨Nat.le_refl _⟩,⟨zz79⟩,⟨zz80⟩⟩
             case round =>
              clear H'
              clear c27b0;(try clear hcz15_0);(try clear hcz15_1);(try clear hcz15_2);(try clear hcz16_0);(try clear hcz16_1);(try clear hcz16_2);(try clear hcz21_0);(try clear hcz21_1);(try clear hcz21_2);(try clear hcz23_0);(try clear hcz23_1);(try clear hcz23_2);(try clear hcz24_0);(try clear hcz24_1);(try clear hcz24_2);(try clear hcz32_0);(try clear hcz32_1);(try clear hcz32_2);(try clear hcz6_0);(try clear hcz6_1);(try clear hcz6_2);(try clear hcz8_0);(try clear hcz8_1);(try clear hcz8_2);(try clear hcz9_0);(try clear hcz9_1);(try clear hcz9_2);(try clear hfz15_0);(try clear hfz15_1);(try clear hfz15_2);(try clear hfz16_0);(try clear hfz16_1);(try clear hfz16_2);(try clear hfz21_0);(try clear hfz21_1);(try clear hfz21_2);(try clear hfz23_0);(try clear hfz23_1);(try clear hfz23_2);(try clear hfz24_0);(try clear hfz24_1);(try clear hfz24_2);(try clear hfz32_0);(try clear hfz32_1);(try clear hfz32_2);(try clear hfz6_0);(try clear hfz6_1);(try clear hfz6_2);(try clear hfz8_0);(try clear hfz8_1);(try clear hfz8_2);(try clear hfz9_0);(try clear hfz9_1);(try clear hfz9_2)
              obtain ⟨x63_5,rfl,HA,HK5,BK375,HB⟩:=hrel
              cases gk with
              | zero=>exact absurd HA.out (by simp [U25.l1])
              | succ k5 =>
               have H:=HA.out;clear HA;simp only [U25.l1] at H;replace H:=zzj H;rcases H with ⟨c33,H⟩|⟨c33,H⟩
               ·have c33b0:=decide_eq_true c33;clear c33;replace H:=zzi H;obtain ⟨c34,H⟩:=H;have c34b0:=decide_eq_true c34;clear c34;replace H:=zzi H;obtain ⟨c35,H⟩:=H;have c35b0:=decide_eq_true c35;clear c35;have H':=Aside0.mk H;clear H;have p380:0≤(x63_5:Int):=of_decide_eq_true (zz11);have q380:x63_5 < (l0_2.length:Int):=of_decide_eq_true (zz11);obtain ⟨ad380,A380_0,c380_0,e380,hx380_0,hl380_0,hi380_0⟩:=at_L1 HR0_2.out x63_5 p380 q380
                cases e380
                replace hx380_0:=(HB.out.cell (World.block_lt_of_cell? w _ hx380_0)).trans hx380_0;have HR380_0:=Aside0.mk hi380_0;have HC380_0:=Aside0.mk hl380_0;clear hi380_0 hl380_0;replace p380:=eq_true p380;replace q380:=eq_true q380
                go_wp2
                go_loopg [69] k5 (fun kq v69 w'=>∃ (x69_6:Int),v69 = .int .i64 x69_6∧Aside0 (U25.l2 kq l1 l0_2 (l0_2.length:Int) x63_5 (rd_L1 l0_2 x63_5) ((rd_L1 l0_2 x63_5).length:Int) x69_6 = some r)∧Aside0 (kq≤k5)∧Aside0 (w'.heap[gb375]? = some (.cells #[(.slice A0_0 l0_0.length c0_0),(.slice A0_1 l0_1.length c0_1),(.slice (some ad380) l0_2.length c0_2)] 36 (0,0)))∧Aside0 (Below w.heap.size w w'))
                case atStart=>exact ⟨(0),(zz2),H',⟨Nat.le_refl _⟩,⟨zz79⟩,⟨zz80⟩⟩
                case round =>
                 clear H'
                 (try clear hx3);clear c33b0 c34b0 c35b0 p380 q380;(try clear hcz15_0);(try clear hcz15_1);(try clear hcz15_2);(try clear hcz16_0);(try clear hcz16_1);(try clear hcz16_2);(try clear hcz21_0);(try clear hcz21_1);(try clear hcz21_2);(try clear hcz23_0);(try clear hcz23_1);(try clear hcz23_2);(try clear hcz24_0);(try clear hcz24_1);(try clear hcz24_2);(try clear hcz32_0);(try clear hcz32_1);(try clear hcz32_2);(try clear hcz6_0);(try clear hcz6_1);(try clear hcz6_2);(try clear hcz8_0);(try clear hcz8_1);(try clear hcz8_2);(try clear hcz9_0);(try clear hcz9_1);(try clear hcz9_2);(try clear hfz15_0);(try clear hfz15_1);(try clear hfz15_2);(try clear hfz16_0);(try clear hfz16_1);(try clear hfz16_2);(try clear hfz21_0);(try clear hfz21_1);(try clear hfz21_2);(try clear hfz23_0);(try clear hfz23_1);(try clear hfz23_2);(try clear hfz24_0);(try clear hfz24_1);(try clear hfz24_2);(try clear hfz32_0);(try clear hfz32_1);(try clear hfz32_2);(try clear hfz6_0);(try clear hfz6_1);(try clear hfz6_2);(try clear hfz8_0);(try clear hfz8_1);(try clear hfz8_2);(try clear hfz9_0);(try clear hfz9_1);(try clear hfz9_2);(try clear hx379_0);(try clear hx380_0)
                 obtain ⟨x69_6,rfl,HA,HK6,BK375,HB⟩:=hrel
                 cases gk with
                 | zero=>exact absurd HA.out (by simp [U25.l2])
                 | succ k6 =>
                  have H:=HA.out;clear HA;simp only [U25.l2] at H;replace H:=zzj H;rcases H with ⟨c36,H⟩|⟨c36,H⟩
                  ·have c36b0:=decide_eq_true c36;clear c36;replace H:=zzi H;obtain ⟨c37,H⟩:=H;have c37b0:=decide_eq_true c37;clear c37;replace H:=zzi H;obtain ⟨c38,H⟩:=H;have c38b0:=decide_eq_true c38;clear c38;replace H:=zzj H;rcases H with ⟨c39,H⟩|⟨c39,H⟩
                   ·have c39b0:=beq_iff_eq.mpr c39;have c39b1:=bne_eq_false_iff_eq.mpr c39;clear c39;have H':=Aside0.mk H;clear H;have p381:0≤(x69_6:Int):=of_decide_eq_true (zz11);have q381:x69_6 < ((rd_L1 l0_2 x63_5).length:Int):=of_decide_eq_true (zz11);obtain ⟨ad381,e381,hx381_0⟩:=Kd.at_int HR380_0.out x69_6 p381 q381
                    cases e381
                    replace hx381_0:=(HB.out.cell (World.block_lt_of_cell? w _ hx381_0)).trans hx381_0;replace p381:=eq_true p381;replace q381:=eq_true q381
                    go_wp2
                    go_roundg k6
                    case measure=>have:=HJ2.out;have:=HJ10.out;have:=HJ17.out;have:=HK4.out;have:=HK5.out;have:=HK6.out;omega
                    case rel=>exact ⟨(wrap64 (x69_6+1)),(zz2),H',⟨zz51⟩,⟨zz79⟩,⟨zz80⟩⟩
                   ·have c39b0:=beq_eq_false_iff_ne.mpr c39;have c39b1:=bne_iff_ne.mpr c39;replace H:=zzj H;rcases H with ⟨c40,H⟩|⟨c40,H⟩
                    ·have c40b0:=beq_iff_eq.mpr c40;have c40b1:=bne_eq_false_iff_eq.mpr c40;clear c40;have H':=Aside0.mk H;clear H;have p381:0≤(x69_6:Int):=of_decide_eq_true (zz11);have q381:x69_6 < ((rd_L1 l0_2 x63_5).length:Int):=of_decide_eq_true (zz11);obtain ⟨ad381,e381,hx381_0⟩:=Kd.at_int HR380_0.out x69_6 p381 q381
                     cases e381
                     replace hx381_0:=(HB.out.cell (World.block_lt_of_cell? w _ hx381_0)).trans hx381_0;replace p381:=eq_true p381;replace q381:=eq_true q381
                     go_wp2
                     go_roundg k6
                     case measure=>have:=HJ2.out;have:=HJ10.out;have:=HJ17.out;have:=HK4.out;have:=HK5.out;have:=HK6.out;omega
                     case rel=>exact ⟨(wrap64 (x69_6+1)),(zz2),H',⟨zz51⟩,⟨zz79⟩,⟨zz80⟩⟩
                    ·have c40b0:=beq_eq_false_iff_ne.mpr c40;have c40b1:=bne_iff_ne.mpr c40;replace H:=zzj H;rcases H with ⟨c41,H⟩|⟨c41,H⟩
                     ·have c41b0:=decide_eq_true c41;clear c41;obtain rfl:=Option.some.inj H;have p381:0≤(x69_6:Int):=of_decide_eq_true (zz11);have q381:x69_6 < ((rd_L1 l0_2 x63_5).length:Int):=of_decide_eq_true (zz11);obtain ⟨ad381,e381,hx381_0⟩:=Kd.at_int HR380_0.out x69_6 p381 q381
                      cases e381
                      replace hx381_0:=(HB.out.cell (World.block_lt_of_cell? w _ hx381_0)).trans hx381_0;replace p381:=eq_true p381;replace q381:=eq_true q381
                      go_wp2
                      go_ret
                      exact ⟨zz6,zz80⟩
                     ·have c41b0:=decide_eq_false c41;clear c41;replace H:=zzi H;obtain ⟨c42,H⟩:=H;have c42b0:=decide_eq_true c42;clear c42;replace H:=zzj H;rcases H with ⟨c43,H⟩|⟨c43,H⟩
                      ·have c43b0:=decide_eq_true c43;clear c43;obtain rfl:=Option.some.inj H;have p381:0≤(x69_6:Int):=of_decide_eq_true (zz11);have q381:x69_6 < ((rd_L1 l0_2 x63_5).length:Int):=of_decide_eq_true (zz11);obtain ⟨ad381,e381,hx381_0⟩:=Kd.at_int HR380_0.out x69_6 p381 q381
                       cases e381
                       replace hx381_0:=(HB.out.cell (World.block_lt_of_cell? w _ hx381_0)).trans hx381_0;replace p381:=eq_true p381;replace q381:=eq_true q381;have p382:0≤(x69_6:Int):=of_decide_eq_true (zz11);have q382:x69_6 < (l1.length:Int):=of_decide_eq_true (zz11);obtain ⟨ad382,e382,hx382_0⟩:=Kd.at_int HR1.out x69_6 p382 q382
                       cases e382
                       replace hx382_0:=(HB.out.cell (World.block_lt_of_cell? w _ hx382_0)).trans hx382_0;replace p382:=eq_true p382;replace q382:=eq_true q382
                       go_wp2
                       go_ret
                       exact ⟨zz6,zz80⟩
                      ·have c43b0:=decide_eq_false c43;clear c43;have H':=Aside0.mk H;clear H;have p381:0≤(x69_6:Int):=of_decide_eq_true (zz11);have q381:x69_6 < ((rd_L1 l0_2 x63_5).length:Int):=of_decide_eq_true (zz11);obtain ⟨ad381,e381,hx381_0⟩:=Kd.at_int HR380_0.out x69_6 p381 q381
                       cases e381
                       replace hx381_0:=(HB.out.cell (World.block_lt_of_cell? w _ hx381_0)).trans hx381_0;replace p381:=eq_true p381;replace q381:=eq_true q381;have p382:0≤(x69_6:Int):=of_decide_eq_true (zz11);have q382:x69_6 < (l1.length:Int):=of_decide_eq_true (zz11);obtain ⟨ad382,e382,hx382_0⟩:=Kd.at_int HR1.out x69_6 p382 q382
                       cases e382
                       replace hx382_0:=(HB.out.cell (World.block_lt_of_cell? w _ hx382_0)).trans hx382_0;replace p382:=eq_true p382;replace q382:=eq_true q382
                       go_wp2
                       go_roundg k6
                       case measure=>have:=HJ2.out;have:=HJ10.out;have:=HJ17.out;have:=HK4.out;have:=HK5.out;have:=HK6.out;omega
                       case rel=>exact ⟨(wrap64 (x69_6+1)),(zz2),H',⟨zz51⟩,⟨zz79⟩,⟨zz80⟩⟩
                  ·have c36b0:=decide_eq_false c36;clear c36;have H':=Aside0.mk H;clear H
                   go_wp2
                   go_roundg k6
                   case measure=>have:=HJ2.out;have:=HJ10.out;have:=HJ17.out;have:=HK4.out;have:=HK5.out;have:=HK6.out;omega
                   case rel=>exact ⟨(wrap64 (x63_5+1)),(zz2),H',⟨zz51⟩,⟨zz79⟩,⟨zz80⟩⟩
               ·have c33b0:=decide_eq_false c33;clear c33;obtain rfl:=Option.some.inj H
                go_wp2
                go_ret
                exact ⟨zz6,zz80⟩
end Go.Proofs.Ytmcegphcjphdcaa.QA
