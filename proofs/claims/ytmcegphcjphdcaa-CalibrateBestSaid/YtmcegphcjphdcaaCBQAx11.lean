import Derived.Test.YtmcegphcjphdcaaCBQAx0
import Derived.Test.YtmcegphcjphdcaaCBQAx5
import Derived.Test.YtmcegphcjphdcaaCBQAx10
namespace Go.Proofs.Ytmcegphcjphdcaa.QA
open Go.RowKit Go.Proofs.YtmcegphcjphdcaaW.PrintWords Go.Proofs.YtmcegphcjphdcaaW.PrintLast Go.Proofs.YtmcegphcjphdcaaW.PrintMore
attribute [local go_sem] max2_int min2_int max_two min_two max_three min_three max_four min_four
set_option linter.unusedVariables false
set_option linter.unusedSimpArgs false
def U15.l0:Nat→List Int→List Int→Int→Option (Bool)
 | 0,_,_,_=>none
 | k+1,x0,x1,x5=>if x5 < (x0.length:Int) then (if 0≤x5 then (if x5 < (x1.length:Int) then (if (rd x0 x5) = (rd x1 x5) then (U15.l0 k x0 x1 (wrap64 (x5+1))) else (some false)) else (none)) else (none)) else (some true)
def U15.f (k:Nat) (l0:List Int) (l1:List Int):Option (Bool):=if (l0.length:Int) = (l1.length:Int) then (U15.l0 k l0 l1 0) else (some false)
theorem zm11_0 {P:Prop} (h:P:=by repeat' first|(with_reducible first|exact ih0 ..|exact LeO.refl _|exact LeO.none _|refine LeO.ite ?_ ?_|refine LeO.bind ?_ (fun _=>?_))|exact ih0 ..|exact LeO.none _|refine LeO.ite ?_ ?_|refine LeO.bind ?_ (fun _=>?_)):P:=h
theorem U15.mono_l:∀ k,(∀ y0 y1 y2,LeO (U15.l0 k y0 y1 y2) (U15.l0 (k+1) y0 y1 y2))
 | 0=>fun _ _ _ r h=>by simp [U15.l0] at h
 | k+1=>by
  have ih0:=U15.mono_l k
  ·intro y0 y1 y2;unfold U15.l0
   exact zm11_0
theorem U15.mono:∀ a0 a1 k,LeO (U15.f k a0 a1) (U15.f (k+1) a0 a1):=by
 intro a0 a1 k;have ih0:=U15.mono_l k;unfold U15.f
 exact zm11_0
set_option maxHeartbeats 8000000 in
set_option maxRecDepth 100000 in
theorem U15.calls (k:Nat) (A0:Option Addr) (c0:Nat) (l0:List Int) (A1:Option Addr) (c1:Nat) (l1:List Int) (r:Bool) (w:World) (hr0:Kd.C (Kd.int .u32) w A0 l0.length l0) (hc0:l0.length≤c0) (hr1:Kd.C (Kd.int .u32) w A1 l1.length l1) (hc1:l1.length≤c1) (h:U15.f k l0 l1 = some r) :
  Calls Try.prog 12 #[.slice A0 l0.length c0,.slice A1 l1.length c1] w fun e w'=>e = .returned (.bool r)∧Drawn0 w w':=by
 have HR0:=Aside0.mk hr0;have HC0:=Aside0.mk hc0;clear hr0 hc0;have HR1:=Aside0.mk hr1;have HC1:=Aside0.mk hc1;clear hr1 hc1;have H:(if (l0.length:Int) = (l1.length:Int) then (U15.l0 k l0 l1 0) else (some false)) = some r:=h;clear h;by_cases c3:(l0.length:Int) = (l1.length:Int)
 ·rw [if_pos c3] at H;have c3b0:=beq_iff_eq.mpr c3;have c3b1:=bne_eq_false_iff_eq.mpr c3
  have c3b2:(l0.length == l1.length) = true:=by first|simpa using c3|(simp at c3 ⊢;omega)
  clear c3;have H':=Aside0.mk H;clear H;go_enter Try.func12,Try.ntmps12
  go_wp2
  repeat (go_quiet (fail);try go_wp2)
  go_loopg [5] k (fun kq v5 w'=>∃ (x5_1:Int),v5 = .int .i64 x5_1∧Aside0 (U15.l0 kq l0 l1 x5_1 = some r)∧Aside0 (kq≤k)∧Drawn0 w w')
  case atStart=>exact ⟨(0),(zz2),H',⟨Nat.le_refl _⟩,zz3⟩
  case round =>
   clear H'
   (try clear c1);(try clear p2);(try clear c3);(try clear c3b0);(try clear c3b1);(try clear c3b2)
   obtain ⟨x5_1,rfl,HA,HK1,⟨m1,rfl⟩⟩:=hrel
   cases gk with
   | zero=>exact absurd HA.out (by simp [U15.l0])
   | succ k1 =>
    have H:=HA.out;clear HA;simp only [U15.l0] at H;by_cases c4:x5_1 < (l0.length:Int)
    ·rw [if_pos c4] at H;have c4b0:=decide_eq_true c4;clear c4;by_cases c5:0≤x5_1
     ·rw [if_pos c5] at H;have c5b0:=decide_eq_true c5;clear c5;by_cases c6:x5_1 < (l1.length:Int)
      ·rw [if_pos c6] at H;have c6b0:=decide_eq_true c6;clear c6;by_cases c7:(rd l0 x5_1) = (rd l1 x5_1)
       ·rw [if_pos c7] at H;have c7b0:=beq_iff_eq.mpr c7;have c7b1:=bne_eq_false_iff_eq.mpr c7;clear c7;have H':=Aside0.mk H;clear H;have p292:0≤(x5_1:Int):=of_decide_eq_true (zz11);have q292:x5_1 < (l0.length:Int):=of_decide_eq_true (zz11);obtain ⟨ad292,e292,hx292_0⟩:=Kd.at_int HR0.out x5_1 p292 q292
        cases e292
        replace p292:=eq_true p292;replace q292:=eq_true q292;have p293:0≤(x5_1:Int):=of_decide_eq_true (zz11);have q293:x5_1 < (l1.length:Int):=of_decide_eq_true (zz11);obtain ⟨ad293,e293,hx293_0⟩:=Kd.at_int HR1.out x5_1 p293 q293
        cases e293
        replace p293:=eq_true p293;replace q293:=eq_true q293
        go_wp2
        repeat (go_quiet (fail);try go_wp2)
        go_roundg k1
        case measure=>have:=HK1.out;omega
        case rel=>exact ⟨(wrap64 (x5_1+1)),(zz2),H',⟨zz12⟩,zz3⟩
       ·rw [if_neg c7] at H;have c7b0:=beq_eq_false_iff_ne.mpr c7;have c7b1:=bne_iff_ne.mpr c7;obtain rfl:=Option.some.inj H;have p292:0≤(x5_1:Int):=of_decide_eq_true (zz11);have q292:x5_1 < (l0.length:Int):=of_decide_eq_true (zz11);obtain ⟨ad292,e292,hx292_0⟩:=Kd.at_int HR0.out x5_1 p292 q292
        cases e292
        replace p292:=eq_true p292;replace q292:=eq_true q292;have p293:0≤(x5_1:Int):=of_decide_eq_true (zz11);have q293:x5_1 < (l1.length:Int):=of_decide_eq_true (zz11);obtain ⟨ad293,e293,hx293_0⟩:=Kd.at_int HR1.out x5_1 p293 q293
        cases e293
        replace p293:=eq_true p293;replace q293:=eq_true q293
        go_wp2
        repeat (go_quiet (fail);try go_wp2)
        go_ret
        exact ⟨zz2,zz3⟩
      ·rw [if_neg c6] at H
       exact absurd H (zz14)
     ·rw [if_neg c5] at H
      exact absurd H (zz14)
    ·rw [if_neg c4] at H;have c4b0:=decide_eq_false c4;clear c4;obtain rfl:=Option.some.inj H
     go_wp2
     repeat (go_quiet (fail);try go_wp2)
     go_ret
     exact ⟨zz2,zz3⟩
 ·rw [if_neg c3] at H;have c3b0:=beq_eq_false_iff_ne.mpr c3;have c3b1:=bne_iff_ne.mpr c3
  have c3b2:(l0.length == l1.length) = false:=by first|simpa using c3|(simp at c3 ⊢;omega)
  obtain rfl:=Option.some.inj H;go_enter Try.func12,Try.ntmps12
  go_wp2
  repeat (go_quiet (fail);try go_wp2)
  go_ret
  exact ⟨zz2,zz3⟩
mutual
def U12.j0:Nat→List (S56)→List Int→Int→Bool→List Int→List Int→Option (Bool)
 | 0,_,_,_,_,_,_=>none
 | k+1,x1,x2,x3,x21,x295000,x295001=>if x21 = true then (some true) else ((U2.f k x295000 x295001 x1 x2 x3).bind fun bt295=>((U32.f k x295000 x295001 x1 x2 x3).bind fun bt299=>(if bt295.2 = bt299.2 then (U12.j1 k bt295.1 bt299.1 ((bt295.1.length:Int) != (bt299.1.length:Int))) else (U12.j1 k bt295.1 bt299.1 true))))
def U12.j1:Nat→List (List Int)→List (List Int)→Bool→Option (Bool)
 | 0,_,_,_=>none
 | k+1,x9,x11,x47=>if x47 = true then (some false) else (U12.l0 k x9 x11 0)
def U12.l0:Nat→List (List Int)→List (List Int)→Int→Option (Bool)
 | 0,_,_,_=>none
 | k+1,x9,x11,x13=>if x13 < (x9.length:Int) then (if 0≤x13 then (if x13 < (x11.length:Int) then ((U15.f k (rd_L5 x9 x13) (rd_L5 x11 x13)).bind fun t305=>(if t305 = true then (U12.l0 k x9 x11 (wrap64 (x13+1))) else (some false))) else (none)) else (none)) else (some true)
end
def U12.f (k:Nat) (l0_0:List Int) (l0_1:List Int) (l1:List (S56)) (l2:List Int) (a3:Int):Option (Bool):=if (l1.length:Int) > 8 then (U12.j0 k l1 l2 a3 (decide ((l1.length:Int)≤60)) l0_0 l0_1) else (U12.j0 k l1 l2 a3 false l0_0 l0_1)
theorem zm11_1 {P:Prop} (h:P:=by repeat' first|(with_reducible first|exact ih0 ..|exact ih1 ..|exact ih2 ..|exact U2.mono ..|exact U15.mono ..|exact U32.mono ..|exact LeO.refl _|exact LeO.none _|refine LeO.ite ?_ ?_|refine LeO.bind ?_ (fun _=>?_))|exact ih0 ..|exact ih1 ..|exact ih2 ..|exact U2.mono ..|exact U15.mono ..|exact U32.mono ..|exact LeO.none _|refine LeO.ite ?_ ?_|refine LeO.bind ?_ (fun _=>?_)):P:=h
theorem U12.mono_l:∀ k,(∀ y0 y1 y2 y3 y4 y5,LeO (U12.j0 k y0 y1 y2 y3 y4 y5) (U12.j0 (k+1) y0 y1 y2 y3 y4 y5))∧(∀ y0 y1 y2,LeO (U12.j1 k y0 y1 y2) (U12.j1 (k+1) y0 y1 y2))∧(∀ y0 y1 y2,LeO (U12.l0 k y0 y1 y2) (U12.l0 (k+1) y0 y1 y2))
 | 0=>⟨fun _ _ _ _ _ _ r h=>by simp [U12.j0] at h,fun _ _ _ r h=>by simp [U12.j1] at h,fun _ _ _ r h=>by simp [U12.l0] at h⟩
 | k+1=>by
  obtain ⟨ih0,ih1,ih2⟩:=U12.mono_l k;refine ⟨?_,?_,?_⟩
  ·intro y0 y1 y2 y3 y4 y5;unfold U12.j0
   exact zm11_1
  ·intro y0 y1 y2;unfold U12.j1
   exact zm11_1
  ·intro y0 y1 y2;unfold U12.l0
   exact zm11_1
theorem U12.mono:∀ a0 a1 a2 a3 a4 k,LeO (U12.f k a0 a1 a2 a3 a4) (U12.f (k+1) a0 a1 a2 a3 a4):=by
 intro a0 a1 a2 a3 a4 k;obtain ⟨ih0,ih1,ih2⟩:=U12.mono_l k;unfold U12.f
 exact zm11_1
set_option maxHeartbeats 8000000 in
set_option maxRecDepth 100000 in
theorem U12.calls (k:Nat) (A0_0:Option Addr) (c0_0:Nat) (l0_0:List Int) (A0_1:Option Addr) (c0_1:Nat) (l0_1:List Int) (A1:Option Addr) (c1:Nat) (l1:List (S56)) (A2:Option Addr) (c2:Nat) (l2:List Int) (a3:Int) (r:Bool) (w:World) (hr0_0:Kd.C (Kd.int .i64) w A0_0 l0_0.length l0_0) (hc0_0:l0_0.length≤c0_0) (hr0_1:Kd.C (Kd.int .i64) w A0_1 l0_1.length l0_1) (hc0_1:l0_1.length≤c0_1) (hr1:Kd.C k56 w A1 l1.length l1) (hc1:l1.length≤c1) (hr2:Kd.C (Kd.int .i64) w A2 l2.length l2) (hc2:l2.length≤c2) (h:U12.f k l0_0 l0_1 l1 l2 a3 = some r) :
  Calls Try.prog 3 #[.agg #[.slice A0_0 l0_0.length c0_0,.slice A0_1 l0_1.length c0_1],.slice A1 l1.length c1,.slice A2 l2.length c2,.int .i64 a3] w fun e w'=>e = .returned (.bool r)∧Below w.heap.size w w':=by
 have hu24:=Try.underlying24;have HR0_0:=Aside0.mk hr0_0;have HC0_0:=Aside0.mk hc0_0;clear hr0_0 hc0_0;have HR0_1:=Aside0.mk hr0_1;have HC0_1:=Aside0.mk hc0_1;clear hr0_1 hc0_1;have HR1:=Aside0.mk hr1;have HC1:=Aside0.mk hc1;clear hr1 hc1;have HR2:=Aside0.mk hr2;have HC2:=Aside0.mk hc2;clear hr2 hc2;have HB:=Aside0.mk (Below.refl w.heap.size w);have H:(if (l1.length:Int) > 8 then (U12.j0 k l1 l2 a3 (decide ((l1.length:Int)≤60)) l0_0 l0_1) else (U12.j0 k l1 l2 a3 false l0_0 l0_1)) = some r:=h;clear h;have HC5:=Aside0.mk H;clear H;go_enter Try.func3,Try.ntmps3
 go_upto_region 1 with (first|((with_reducible refine gate_dst (N:=4) rfl ?_);(try (refine gate_guard (zz17) ?_;dsimp only));refine box_event ?hg (N:=4) ?hd (cs:=#[.slice A0_0 l0_0.length c0_0,.slice A0_1 l0_1.length c0_1]) (t:=24) ?hr ?_;(case hd=>rfl);(case hg=>rfl);(case hr=>exact zz146);intro gb294 hg w6 hbox hb;have BK294:=Aside0.mk (hbox);have GW294:=Aside0.mk ((by rw [hg];exact (below_size (zz5)):w.heap.size≤gb294));have GE294:=Aside0.mk ((by rw [hg];exact (below_size (zz5)):w.heap.size≤gb294));replace HB:=Aside0.mk (below_step (zz5) hb);clear hb hbox hg))
 repeat (go_quiet (first|((with_reducible refine gate_dst (N:=4) rfl ?_);(try (refine gate_guard (zz17) ?_;dsimp only));refine box_event ?hg (N:=4) ?hd (cs:=#[.slice A0_0 l0_0.length c0_0,.slice A0_1 l0_1.length c0_1]) (t:=24) ?hr ?_;(case hd=>rfl);(case hg=>rfl);(case hr=>exact zz146);intro gb294 hg w6 hbox hb;have BK294:=Aside0.mk (hbox);have GW294:=Aside0.mk ((by rw [hg];exact (below_size (zz5)):w.heap.size≤gb294));have GE294:=Aside0.mk ((by rw [hg];exact (below_size (zz5)):w.heap.size≤gb294));replace HB:=Aside0.mk (below_step (zz5) hb);clear hb hbox hg));go_upto_region 1 with (first|((with_reducible refine gate_dst (N:=4) rfl ?_);(try (refine gate_guard (zz17) ?_;dsimp only));refine box_event ?hg (N:=4) ?hd (cs:=#[.slice A0_0 l0_0.length c0_0,.slice A0_1 l0_1.length c0_1]) (t:=24) ?hr ?_;(case hd=>rfl);(case hg=>rfl);(case hr=>exact zz146);intro gb294 hg w6 hbox hb;have BK294:=Aside0.mk (hbox);have GW294:=Aside0.mk ((by rw [hg];exact (below_size (zz5)):w.heap.size≤gb294));have GE294:=Aside0.mk ((by rw [hg];exact (below_size (zz5)):w.heap.size≤gb294));replace HB:=Aside0.mk (below_step (zz5) hb);clear hb hbox hg)))
 (try simp only [Act.put,List.setIfInBounds_toArray,List.set_cons_zero,List.set_cons_succ])
 go_cut [21] (fun v21 wc=>∃ (kq:Nat) (x21_4:Bool),v21 = .bool x21_4∧Aside0 (U12.j0 kq l1 l2 a3 x21_4 l0_0 l0_1 = some r)∧Aside0 (kq≤k)∧Aside0 (wc.heap[gb294]? = some (.cells #[(.slice A0_0 l0_0.length c0_0),(.slice A0_1 l0_1.length c0_1)] 24 (0,0)))∧Aside0 (Below w.heap.size w wc))
 case first =>
  have H:=HC5.out;clear HC5;by_cases c7:(l1.length:Int) > 8
  ·rw [if_pos c7] at H;have c7b0:=decide_eq_true c7;have c7b1:decide (8 < l1.length) = true:=decide_eq_true (zz4);clear c7
   (first|rw [c7b0]|rw [c7b1]|(simp only [i64_w,i32_w];rw [c7b0])|skip)
   have H':=Aside0.mk H;clear H
   go_wp2
   repeat (go_quiet (fail);try go_wp2)
   go_meet
   case rel=>exact ⟨_,(decide ((l1.length:Int)≤60)),(zz2),H',⟨zz18⟩,⟨zz65⟩,⟨zz66⟩⟩
  ·rw [if_neg c7] at H;have c7b0:=decide_eq_false c7;have c7b1:decide (8 < l1.length) = false:=decide_eq_false (zz4);clear c7
   (first|rw [c7b0]|rw [c7b1]|(simp only [i64_w,i32_w];rw [c7b0])|skip)
   have H':=Aside0.mk H;clear H
   go_wp2
   repeat (go_quiet (fail);try go_wp2)
   go_meet
   case rel=>exact ⟨_,(false),(zz2),H',⟨zz18⟩,⟨zz65⟩,⟨zz66⟩⟩
 case rest =>
  clear HC5;(try clear c1);(try clear c2);(try clear p2);(try clear c3);(try clear c7);(try clear c7b0);(try clear c7b1);obtain ⟨kq,x21_4,rfl,HA,HJ4,BK294,HB⟩:=hcut
  cases kq with
  | zero=>exact absurd HA.out (by simp [U12.j0])
  | succ kj4 =>
   have H:=HA.out;clear HA;simp only [U12.j0] at H;by_cases c8:x21_4 = true
   ·subst c8;have H1:(some true) = some r:=zz10;clear H;have H:=H1;clear H1;obtain rfl:=Option.some.inj H
    go_wp2
    repeat (go_quiet (fail);try go_wp2)
    go_ret
    exact ⟨zz6,zz66⟩
   ·replace c8:=Bool.eq_false_iff.mpr c8;subst c8;have H1:((U2.f kj4 l0_0 l0_1 l1 l2 a3).bind fun bt295=>((U32.f kj4 l0_0 l0_1 l1 l2 a3).bind fun bt299=>(if bt295.2 = bt299.2 then (U12.j1 kj4 bt295.1 bt299.1 ((bt295.1.length:Int) != (bt299.1.length:Int))) else (U12.j1 kj4 bt295.1 bt299.1 true)))) = some r:=zz13;clear H;have H:=H1;clear H1;replace H:=Option.bind_eq_some_iff.mp H;obtain ⟨⟨t295,t298⟩,A90,H⟩:=H;have A9:=Aside0.mk A90;clear A90;replace H:=Option.bind_eq_some_iff.mp H;obtain ⟨⟨t299,t302⟩,A100,H⟩:=H;have A10:=Aside0.mk A100;clear A100;have HC11:=Aside0.mk H;clear H;have hcz12_0:wc.cell? ⟨gb294,0,none⟩ = some (.slice A0_0 l0_0.length c0_0):=(blk_cell BK294.out 0).trans rfl;have hcz12_1:wc.cell? ⟨gb294,1,none⟩ = some (.slice A0_1 l0_1.length c0_1):=(blk_cell BK294.out 1).trans rfl;have hfz12_0:=blk_frozen BK294.out 0;have hfz12_1:=blk_frozen BK294.out 1
    go_upto_region 5 with (first|(go_at_call 10;(with_reducible refine (U2.calls kj4 _ _ l0_0 _ _ l0_1 _ _ l1 _ _ l2 a3 t295 t298 _ ?side1 ?side2 ?side3 ?side4 ?side5 ?side6 ?side7 ?side8 A9.out).mono ?_);(case side1=>exact zz147);(case side2=>exact zz148);(case side3=>exact zz149);(case side4=>exact zz150);(case side5=>exact zz153);(case side6=>exact HC1.out);(case side7=>exact zz154);(case side8=>exact HC2.out);rintro e w13 ⟨v296,rfl,ho0,hb⟩;have HO297:=Aside0.mk (Kd.N_lower (Kd.N_mono (ok':=fun k_=>k_ ≠ gb294) ho0 (fun k_ hk_=>(Kd.freshB (g:=gb294) (o:=.cells #[.slice A0_0 l0_0.length c0_0,.slice A0_1 l0_1.length c0_1] 24 (0,0)) (zz65) k_ hk_))) (below_size (zz66)));replace BK294:=Aside0.mk (blk_below (zz65) hb);replace HB:=Aside0.mk (below_step (zz66) hb);(try clear hb);(try clear hb2);(try clear hk);(try clear hi);(try clear ho0);have hcz14_0:w13.cell? ⟨gb294,0,none⟩ = some (.slice A0_0 l0_0.length c0_0):=(blk_cell BK294.out 0).trans rfl;have hcz14_1:w13.cell? ⟨gb294,1,none⟩ = some (.slice A0_1 l0_1.length c0_1):=(blk_cell BK294.out 1).trans rfl;have hfz14_0:=blk_frozen BK294.out 0;have hfz14_1:=blk_frozen BK294.out 1)|(go_at_call 11;(with_reducible refine (U32.calls kj4 _ _ l0_0 _ _ l0_1 _ _ l1 _ _ l2 a3 t299 t302 _ ?side1 ?side2 ?side3 ?side4 ?side5 ?side6 ?side7 ?side8 A10.out).mono ?_);(case side1=>exact zz147);(case side2=>exact zz148);(case side3=>exact zz149);(case side4=>exact zz150);(case side5=>exact zz153);(case side6=>exact HC1.out);(case side7=>exact zz154);(case side8=>exact HC2.out);rintro e w15 ⟨v300,rfl,ho0,hb⟩;have HO301:=Aside0.mk (Kd.N_lower (Kd.N_mono (ok':=fun k_=>some k_ ≠ (v296:Value).ownBlock∧k_ ≠ gb294) (Kd.S_N (Kd.S_bound ho0)) (fun k_ hk_=>⟨(Kd.fresh' (Kd.N_lt (zz67)) k_ hk_.2.1),(Kd.freshB (g:=gb294) (o:=.cells #[.slice A0_0 l0_0.length c0_0,.slice A0_1 l0_1.length c0_1] 24 (0,0)) (zz65) k_ hk_.2.1)⟩)) (below_size (zz66)));replace HO297:=Aside0.mk (Kd.N_elder' (zz67) (Kd.S_base ho0) hb);replace BK294:=Aside0.mk (blk_below (zz65) hb);replace HB:=Aside0.mk (below_step (zz66) hb);(try clear hb);(try clear hb2);(try clear hk);(try clear hi);(try clear ho0)))
    repeat (go_quiet (first|(go_at_call 10;(with_reducible refine (U2.calls kj4 _ _ l0_0 _ _ l0_1 _ _ l1 _ _ l2 a3 t295 t298 _ ?side1 ?side2 ?side3 ?side4 ?side5 ?side6 ?side7 ?side8 A9.out).mono ?_);(case side1=>exact zz147);(case side2=>exact zz148);(case side3=>exact zz149);(case side4=>exact zz150);(case side5=>exact zz153);(case side6=>exact HC1.out);(case side7=>exact zz154);(case side8=>exact HC2.out);rintro e w13 ⟨v296,rfl,ho0,hb⟩;have HO297:=Aside0.mk (Kd.N_lower (Kd.N_mono (ok':=fun k_=>k_ ≠ gb294) ho0 (fun k_ hk_=>(Kd.freshB (g:=gb294) (o:=.cells #[.slice A0_0 l0_0.length c0_0,.slice A0_1 l0_1.length c0_1] 24 (0,0)) (zz65) k_ hk_))) (below_size (zz66)));replace BK294:=Aside0.mk (blk_below (zz65) hb);replace HB:=Aside0.mk (below_step (zz66) hb);(try clear hb);(try clear hb2);(try clear hk);(try clear hi);(try clear ho0);have hcz14_0:w13.cell? ⟨gb294,0,none⟩ = some (.slice A0_0 l0_0.length c0_0):=(blk_cell BK294.out 0).trans rfl;have hcz14_1:w13.cell? ⟨gb294,1,none⟩ = some (.slice A0_1 l0_1.length c0_1):=(blk_cell BK294.out 1).trans rfl;have hfz14_0:=blk_frozen BK294.out 0;have hfz14_1:=blk_frozen BK294.out 1)|(go_at_call 11;(with_reducible refine (U32.calls kj4 _ _ l0_0 _ _ l0_1 _ _ l1 _ _ l2 a3 t299 t302 _ ?side1 ?side2 ?side3 ?side4 ?side5 ?side6 ?side7 ?side8 A10.out).mono ?_);(case side1=>exact zz147);(case side2=>exact zz148);(case side3=>exact zz149);(case side4=>exact zz150);(case side5=>exact zz153);(case side6=>exact HC1.out);(case side7=>exact zz154);(case side8=>exact HC2.out);rintro e w15 ⟨v300,rfl,ho0,hb⟩;have HO301:=Aside0.mk (Kd.N_lower (Kd.N_mono (ok':=fun k_=>some k_ ≠ (v296:Value).ownBlock∧k_ ≠ gb294) (Kd.S_N (Kd.S_bound ho0)) (fun k_ hk_=>⟨(Kd.fresh' (Kd.N_lt (zz67)) k_ hk_.2.1),(Kd.freshB (g:=gb294) (o:=.cells #[.slice A0_0 l0_0.length c0_0,.slice A0_1 l0_1.length c0_1] 24 (0,0)) (zz65) k_ hk_.2.1)⟩)) (below_size (zz66)));replace HO297:=Aside0.mk (Kd.N_elder' (zz67) (Kd.S_base ho0) hb);replace BK294:=Aside0.mk (blk_below (zz65) hb);replace HB:=Aside0.mk (below_step (zz66) hb);(try clear hb);(try clear hb2);(try clear hk);(try clear hi);(try clear ho0)));go_upto_region 5 with (first|(go_at_call 10;(with_reducible refine (U2.calls kj4 _ _ l0_0 _ _ l0_1 _ _ l1 _ _ l2 a3 t295 t298 _ ?side1 ?side2 ?side3 ?side4 ?side5 ?side6 ?side7 ?side8 A9.out).mono ?_);(case side1=>exact zz147);(case side2=>exact zz148);(case side3=>exact zz149);(case side4=>exact zz150);(case side5=>exact zz153);(case side6=>exact HC1.out);(case side7=>exact zz154);(case side8=>exact HC2.out);rintro e w13 ⟨v296,rfl,ho0,hb⟩;have HO297:=Aside0.mk (Kd.N_lower (Kd.N_mono (ok':=fun k_=>k_ ≠ gb294) ho0 (fun k_ hk_=>(Kd.freshB (g:=gb294) (o:=.cells #[.slice A0_0 l0_0.length c0_0,.slice A0_1 l0_1.length c0_1] 24 (0,0)) (zz65) k_ hk_))) (below_size (zz66)));replace BK294:=Aside0.mk (blk_below (zz65) hb);replace HB:=Aside0.mk (below_step (zz66) hb);(try clear hb);(try clear hb2);(try clear hk);(try clear hi);(try clear ho0);have hcz14_0:w13.cell? ⟨gb294,0,none⟩ = some (.slice A0_0 l0_0.length c0_0):=(blk_cell BK294.out 0).trans rfl;have hcz14_1:w13.cell? ⟨gb294,1,none⟩ = some (.slice A0_1 l0_1.length c0_1):=(blk_cell BK294.out 1).trans rfl;have hfz14_0:=blk_frozen BK294.out 0;have hfz14_1:=blk_frozen BK294.out 1)|(go_at_call 11;(with_reducible refine (U32.calls kj4 _ _ l0_0 _ _ l0_1 _ _ l1 _ _ l2 a3 t299 t302 _ ?side1 ?side2 ?side3 ?side4 ?side5 ?side6 ?side7 ?side8 A10.out).mono ?_);(case side1=>exact zz147);(case side2=>exact zz148);(case side3=>exact zz149);(case side4=>exact zz150);(case side5=>exact zz153);(case side6=>exact HC1.out);(case side7=>exact zz154);(case side8=>exact HC2.out);rintro e w15 ⟨v300,rfl,ho0,hb⟩;have HO301:=Aside0.mk (Kd.N_lower (Kd.N_mono (ok':=fun k_=>some k_ ≠ (v296:Value).ownBlock∧k_ ≠ gb294) (Kd.S_N (Kd.S_bound ho0)) (fun k_ hk_=>⟨(Kd.fresh' (Kd.N_lt (zz67)) k_ hk_.2.1),(Kd.freshB (g:=gb294) (o:=.cells #[.slice A0_0 l0_0.length c0_0,.slice A0_1 l0_1.length c0_1] 24 (0,0)) (zz65) k_ hk_.2.1)⟩)) (below_size (zz66)));replace HO297:=Aside0.mk (Kd.N_elder' (zz67) (Kd.S_base ho0) hb);replace BK294:=Aside0.mk (blk_below (zz65) hb);replace HB:=Aside0.mk (below_step (zz66) hb);(try clear hb);(try clear hb2);(try clear hk);(try clear hi);(try clear ho0))))
    (try simp only [Act.put,List.setIfInBounds_toArray,List.set_cons_zero,List.set_cons_succ])
    go_cut [47] (fun v47 wc=>∃ (kq:Nat) (x47_10:Bool),v47 = .bool x47_10∧Aside0 (U12.j1 kq t295 t299 x47_10 = some r)∧Aside0 (kq≤kj4)∧Aside0 (Kd.N (Kd.slice 65 (Kd.int .u32)) 32 wc w.heap.size (fun k_=>some k_ ≠ (v300:Value).ownBlock∧k_ ≠ gb294) v296 t295)∧Aside0 (Kd.N (Kd.slice 65 (Kd.int .u32)) 32 wc w.heap.size (fun k_=>some k_ ≠ (v296:Value).ownBlock∧k_ ≠ gb294) v300 t299)∧Aside0 (wc.heap[gb294]? = some (.cells #[(.slice A0_0 l0_0.length c0_0),(.slice A0_1 l0_1.length c0_1)] 24 (0,0)))∧Aside0 (Below w.heap.size w wc))
    case first =>
     have H:=HC11.out;clear HC11;by_cases c16:t298 = t302
     ·rw [if_pos c16] at H;have c16b0:=beq_iff_eq.mpr c16;have c16b1:=bne_eq_false_iff_eq.mpr c16;clear c16
      (first|rw [c16b0]|rw [c16b1]|(simp only [i64_w,i32_w];rw [c16b0])|skip)
      have H':=Aside0.mk H;clear H;obtain ⟨Ao17,co17,eo17⟩:=Kd.N_slice HO297.out;subst eo17;obtain ⟨Ao18,co18,eo18⟩:=Kd.N_slice HO301.out;subst eo18
      go_wp2
      repeat (go_quiet (fail);try go_wp2)
      go_meet
      case rel=>exact ⟨_,(((t295.length:Int) != (t299.length:Int))),(zz2),H',⟨by have:=HJ4.out;first|omega|exact Nat.le_refl _⟩,⟨by (with_reducible repeat (first|apply Kd.N_alloc|apply Kd.N_drewN|apply Kd.N_drew));exact Kd.N_mono HO297.out (fun _ hk=>⟨hk.2,hk.1⟩)⟩,⟨by (with_reducible repeat (first|apply Kd.N_alloc|apply Kd.N_drewN|apply Kd.N_drew));exact HO301.out⟩,⟨zz65⟩,⟨zz66⟩⟩
     ·rw [if_neg c16] at H;have c16b0:=beq_eq_false_iff_ne.mpr c16;have c16b1:=bne_iff_ne.mpr c16
      (first|rw [c16b0]|rw [c16b1]|(simp only [i64_w,i32_w];rw [c16b0])|skip)
      have H':=Aside0.mk H;clear H
      go_wp2
      repeat (go_quiet (fail);try go_wp2)
      go_meet
      case rel=>exact ⟨_,(true),(zz2),H',⟨by have:=HJ4.out;first|omega|exact Nat.le_refl _⟩,⟨by (with_reducible repeat (first|apply Kd.N_alloc|apply Kd.N_drewN|apply Kd.N_drew));exact Kd.N_mono HO297.out (fun _ hk=>⟨hk.2,hk.1⟩)⟩,⟨by (with_reducible repeat (first|apply Kd.N_alloc|apply Kd.N_drewN|apply Kd.N_drew));exact HO301.out⟩,⟨zz65⟩,⟨zz66⟩⟩
    case rest =>
     clear HC11;(try clear c1);(try clear c2);(try clear p2);(try clear c3);(try clear c7);(try clear c7b0);(try clear c7b1);(try clear c8);(try clear c16);(try clear c16b0);(try clear c16b1);(try clear hcz12_0);(try clear hcz12_1);(try clear hcz14_0);(try clear hcz14_1);(try clear hfz12_0);(try clear hfz12_1);(try clear hfz14_0);(try clear hfz14_1);(try clear p2);obtain ⟨kq,x47_10,rfl,HA,HJ10,HO_9,HO_11,BK294,HB⟩:=hcut
     cases kq with
     | zero=>exact absurd HA.out (by simp [U12.j1])
     | succ kj10 =>
      have H:=HA.out;clear HA;simp only [U12.j1] at H;by_cases c19:x47_10 = true
      ·subst c19;have H1:(some false) = some r:=zz10;clear H;have H:=H1;clear H1;obtain rfl:=Option.some.inj H
       go_wp2
       repeat (go_quiet (fail);try go_wp2)
       go_ret
       exact ⟨zz6,zz66⟩
      ·replace c19:=Bool.eq_false_iff.mpr c19;subst c19;have H1:(U12.l0 kj10 t295 t299 0) = some r:=zz13;clear H;have H:=H1;clear H1;have H':=Aside0.mk H;clear H
       go_wp2
       repeat (go_quiet (fail);try go_wp2)
       go_loopg [13] kj10 (fun kq v13 w'=>∃ (x13_3:Int),v13 = .int .i64 x13_3∧Aside0 (U12.l0 kq t295 t299 x13_3 = some r)∧Aside0 (kq≤kj10)∧Aside0 (Kd.N (Kd.slice 65 (Kd.int .u32)) 32 w' w.heap.size (fun k_=>some k_ ≠ (v300:Value).ownBlock∧k_ ≠ gb294) v296 t295)∧Aside0 (Kd.N (Kd.slice 65 (Kd.int .u32)) 32 w' w.heap.size (fun k_=>some k_ ≠ (v296:Value).ownBlock∧k_ ≠ gb294) v300 t299)∧Aside0 (w'.heap[gb294]? = some (.cells #[(.slice A0_0 l0_0.length c0_0),(.slice A0_1 l0_1.length c0_1)] 24 (0,0)))∧Aside0 (Below w.heap.size w w'))
       case atStart=>exact ⟨(0),(zz2),H',⟨Nat.le_refl _⟩,⟨zz49⟩,⟨zz68⟩,⟨zz65⟩,⟨zz66⟩⟩
       case round =>
        clear H'
        (try clear c1);(try clear c2);(try clear p2);(try clear c3);(try clear c7);(try clear c7b0);(try clear c7b1);(try clear c8);(try clear c16);(try clear c16b0);(try clear c16b1);(try clear c19);(try clear hcz12_0);(try clear hcz12_1);(try clear hcz14_0);(try clear hcz14_1);(try clear hfz12_0);(try clear hfz12_1);(try clear hfz14_0);(try clear hfz14_1);(try clear p2)
        obtain ⟨x13_3,rfl,HA,HK3,HO_9,HO_11,BK294,HB⟩:=hrel
        cases gk with
        | zero=>exact absurd HA.out (by simp [U12.l0])
        | succ k3 =>
         have H:=HA.out;clear HA;simp only [U12.l0] at H;by_cases c20:x13_3 < (t295.length:Int)
         ·rw [if_pos c20] at H;have c20b0:=decide_eq_true c20;clear c20;by_cases c21:0≤x13_3
          ·rw [if_pos c21] at H;have c21b0:=decide_eq_true c21;clear c21;by_cases c22:x13_3 < (t299.length:Int)
           ·rw [if_pos c22] at H;have c22b0:=decide_eq_true c22;clear c22;replace H:=Option.bind_eq_some_iff.mp H;obtain ⟨t305,A230,H⟩:=H;have A23:=Aside0.mk A230;clear A230;by_cases c24:t305 = true
            ·subst c24;have H1:(U12.l0 k3 t295 t299 (wrap64 (x13_3+1))) = some r:=zz10;clear H;have H:=H1;clear H1;have H':=Aside0.mk H;clear H;obtain ⟨Ao25,co25,eo25⟩:=Kd.N_slice HO_9.out;subst eo25;have p303:0≤(x13_3:Int):=of_decide_eq_true (zz11);have q303:x13_3 < (t295.length:Int):=of_decide_eq_true (zz11);obtain ⟨ad303,A303_0,c303_0,e303,hx303_0,hl303_0,hi303_0⟩:=at_L5 (Kd.N_reads' HO_9.out).2.2 x13_3 p303 q303
             cases e303
             obtain ⟨ce303,hce303,hMe303,hcc303⟩:=Kd.N_get HO_9.out [] x13_3 p303 (by first|exact q303|exact of_decide_eq_true (zz11)|(have e_:=(Kd.N_reads' HO_9.out).1;omega));obtain ⟨ua303_0,uc303_0,rfl,ul303_0,ge303_0⟩:=Kd.FK_slice_open hMe303;have hv303_0:=hcc303 0 _ rfl;rw [Nat.add_zero,show ((Kd.slice 65 (Kd.int .u32))).sz = 1 from rfl,Nat.mul_one] at hv303_0;replace hv303_0:=Option.some.inj (hv303_0.symm.trans hx303_0)
             injection hv303_0 with hva_ hvn_ hvc_
             rw [hva_] at ge303_0;rw [hvc_] at ul303_0;have HL303_0:=Aside0.mk (show Kd.V (Kd.int .u32) 65 _ w.heap.size _ _ (rd_L5 t295 x13_3) from Kd.V_mk ul303_0 ge303_0);clear hva_ hvn_ hvc_ ge303_0 ul303_0;clear hcc303 hce303;have HR303_0:=Aside0.mk hi303_0;have HC303_0:=Aside0.mk hl303_0;clear hi303_0 hl303_0;replace p303:=eq_true p303;replace q303:=eq_true q303;obtain ⟨Ao26,co26,eo26⟩:=Kd.N_slice HO_11.out;subst eo26;have p304:0≤(x13_3:Int):=of_decide_eq_true (zz11);have q304:x13_3 < (t299.length:Int):=of_decide_eq_true (zz11);obtain ⟨ad304,A304_0,c304_0,e304,hx304_0,hl304_0,hi304_0⟩:=at_L5 (Kd.N_reads' HO_11.out).2.2 x13_3 p304 q304
             cases e304
             obtain ⟨ce304,hce304,hMe304,hcc304⟩:=Kd.N_get HO_11.out [] x13_3 p304 (by first|exact q304|exact of_decide_eq_true (zz11)|(have e_:=(Kd.N_reads' HO_11.out).1;omega));obtain ⟨ua304_0,uc304_0,rfl,ul304_0,ge304_0⟩:=Kd.FK_slice_open hMe304;have hv304_0:=hcc304 0 _ rfl;rw [Nat.add_zero,show ((Kd.slice 65 (Kd.int .u32))).sz = 1 from rfl,Nat.mul_one] at hv304_0;replace hv304_0:=Option.some.inj (hv304_0.symm.trans hx304_0)
             injection hv304_0 with hva_ hvn_ hvc_
             rw [hva_] at ge304_0;rw [hvc_] at ul304_0;have HL304_0:=Aside0.mk (show Kd.V (Kd.int .u32) 65 _ w.heap.size _ _ (rd_L5 t299 x13_3) from Kd.V_mk ul304_0 ge304_0);clear hva_ hvn_ hvc_ ge304_0 ul304_0;clear hcc304 hce304;have HR304_0:=Aside0.mk hi304_0;have HC304_0:=Aside0.mk hl304_0;clear hi304_0 hl304_0;replace p304:=eq_true p304;replace q304:=eq_true q304
             go_wp2_with (first|(go_at_call 12;(with_reducible refine (U15.calls k3 _ _ (rd_L5 t295 x13_3) _ _ (rd_L5 t299 x13_3) true _ ?side1 ?side2 ?side3 ?side4 A23.out).mono ?_);(case side1=>exact zz157);(case side2=>exact HC303_0.out);(case side3=>exact zz158);(case side4=>exact HC304_0.out);rintro e w' ⟨rfl,⟨nd,rfl⟩⟩;(try first|exact ⟨rfl,_,World.drewN_drewN _ _ _⟩|exact ⟨rfl,_,Eq.trans (World.drewN_drewN _ _ _) (congrArg (World.drewN _) (Nat.add_assoc _ _ _))⟩)))
             repeat (go_quiet (first|(go_at_call 12;(with_reducible refine (U15.calls k3 _ _ (rd_L5 t295 x13_3) _ _ (rd_L5 t299 x13_3) true _ ?side1 ?side2 ?side3 ?side4 A23.out).mono ?_);(case side1=>exact zz157);(case side2=>exact HC303_0.out);(case side3=>exact zz158);(case side4=>exact HC304_0.out);rintro e w' ⟨rfl,⟨nd,rfl⟩⟩;(try first|exact ⟨rfl,_,World.drewN_drewN _ _ _⟩|exact ⟨rfl,_,Eq.trans (World.drewN_drewN _ _ _) (congrArg (World.drewN _) (Nat.add_assoc _ _ _))⟩)));try go_wp2_with (first|(go_at_call 12;(with_reducible refine (U15.calls k3 _ _ (rd_L5 t295 x13_3) _ _ (rd_L5 t299 x13_3) true _ ?side1 ?side2 ?side3 ?side4 A23.out).mono ?_);(case side1=>exact zz157);(case side2=>exact HC303_0.out);(case side3=>exact zz158);(case side4=>exact HC304_0.out);rintro e w' ⟨rfl,⟨nd,rfl⟩⟩;(try first|exact ⟨rfl,_,World.drewN_drewN _ _ _⟩|exact ⟨rfl,_,Eq.trans (World.drewN_drewN _ _ _) (congrArg (World.drewN _) (Nat.add_assoc _ _ _))⟩))))
             go_roundg k3
             case measure=>have:=HJ4.out;have:=HJ10.out;have:=HK3.out;omega
             case rel=>exact ⟨(wrap64 (x13_3+1)),(zz2),H',⟨by have:=HJ4.out;have:=HJ10.out;have:=HK3.out;omega⟩,⟨zz49⟩,⟨zz68⟩,⟨zz65⟩,⟨zz66⟩⟩
            ·replace c24:=Bool.eq_false_iff.mpr c24;subst c24;have H1:(some false) = some r:=zz13;clear H;have H:=H1;clear H1;obtain rfl:=Option.some.inj H;obtain ⟨Ao27,co27,eo27⟩:=Kd.N_slice HO_9.out;subst eo27;have p303:0≤(x13_3:Int):=of_decide_eq_true (zz11);have q303:x13_3 < (t295.length:Int):=of_decide_eq_true (zz11);obtain ⟨ad303,A303_0,c303_0,e303,hx303_0,hl303_0,hi303_0⟩:=at_L5 (Kd.N_reads' HO_9.out).2.2 x13_3 p303 q303
             cases e303
             obtain ⟨ce303,hce303,hMe303,hcc303⟩:=Kd.N_get HO_9.out [] x13_3 p303 (by first|exact q303|exact of_decide_eq_true (zz11)|(have e_:=(Kd.N_reads' HO_9.out).1;omega));obtain ⟨ua303_0,uc303_0,rfl,ul303_0,ge303_0⟩:=Kd.FK_slice_open hMe303;have hv303_0:=hcc303 0 _ rfl;rw [Nat.add_zero,show ((Kd.slice 65 (Kd.int .u32))).sz = 1 from rfl,Nat.mul_one] at hv303_0;replace hv303_0:=Option.some.inj (hv303_0.symm.trans hx303_0)
             injection hv303_0 with hva_ hvn_ hvc_
             rw [hva_] at ge303_0;rw [hvc_] at ul303_0;have HL303_0:=Aside0.mk (show Kd.V (Kd.int .u32) 65 _ w.heap.size _ _ (rd_L5 t295 x13_3) from Kd.V_mk ul303_0 ge303_0);clear hva_ hvn_ hvc_ ge303_0 ul303_0;clear hcc303 hce303;have HR303_0:=Aside0.mk hi303_0;have HC303_0:=Aside0.mk hl303_0;clear hi303_0 hl303_0;replace p303:=eq_true p303;replace q303:=eq_true q303;obtain ⟨Ao28,co28,eo28⟩:=Kd.N_slice HO_11.out;subst eo28;have p304:0≤(x13_3:Int):=of_decide_eq_true (zz11);have q304:x13_3 < (t299.length:Int):=of_decide_eq_true (zz11);obtain ⟨ad304,A304_0,c304_0,e304,hx304_0,hl304_0,hi304_0⟩:=at_L5 (Kd.N_reads' HO_11.out).2.2 x13_3 p304 q304
             cases e304
             obtain ⟨ce304,hce304,hMe304,hcc304⟩:=Kd.N_get HO_11.out [] x13_3 p304 (by first|exact q304|exact of_decide_eq_true (zz11)|(have e_:=(Kd.N_reads' HO_11.out).1;omega));obtain ⟨ua304_0,uc304_0,rfl,ul304_0,ge304_0⟩:=Kd.FK_slice_open hMe304;have hv304_0:=hcc304 0 _ rfl;rw [Nat.add_zero,show ((Kd.slice 65 (Kd.int .u32))).sz = 1 from rfl,Nat.mul_one] at hv304_0;replace hv304_0:=Option.some.inj (hv304_0.symm.trans hx304_0)
             injection hv304_0 with hva_ hvn_ hvc_
             rw [hva_] at ge304_0;rw [hvc_] at ul304_0;have HL304_0:=Aside0.mk (show Kd.V (Kd.int .u32) 65 _ w.heap.size _ _ (rd_L5 t299 x13_3) from Kd.V_mk ul304_0 ge304_0);clear hva_ hvn_ hvc_ ge304_0 ul304_0;clear hcc304 hce304;have HR304_0:=Aside0.mk hi304_0;have HC304_0:=Aside0.mk hl304_0;clear hi304_0 hl304_0;replace p304:=eq_true p304;replace q304:=eq_true q304
             go_wp2_with (first|(go_at_call 12;(with_reducible refine (U15.calls k3 _ _ (rd_L5 t295 x13_3) _ _ (rd_L5 t299 x13_3) false _ ?side1 ?side2 ?side3 ?side4 A23.out).mono ?_);(case side1=>exact zz157);(case side2=>exact HC303_0.out);(case side3=>exact zz158);(case side4=>exact HC304_0.out);rintro e w' ⟨rfl,⟨nd,rfl⟩⟩;(try first|exact ⟨rfl,_,World.drewN_drewN _ _ _⟩|exact ⟨rfl,_,Eq.trans (World.drewN_drewN _ _ _) (congrArg (World.drewN _) (Nat.add_assoc _ _ _))⟩)))
             repeat (go_quiet (first|(go_at_call 12;(with_reducible refine (U15.calls k3 _ _ (rd_L5 t295 x13_3) _ _ (rd_L5 t299 x13_3) false _ ?side1 ?side2 ?side3 ?side4 A23.out).mono ?_);(case side1=>exact zz157);(case side2=>exact HC303_0.out);(case side3=>exact zz158);(case side4=>exact HC304_0.out);rintro e w' ⟨rfl,⟨nd,rfl⟩⟩;(try first|exact ⟨rfl,_,World.drewN_drewN _ _ _⟩|exact ⟨rfl,_,Eq.trans (World.drewN_drewN _ _ _) (congrArg (World.drewN _) (Nat.add_assoc _ _ _))⟩)));try go_wp2_with (first|(go_at_call 12;(with_reducible refine (U15.calls k3 _ _ (rd_L5 t295 x13_3) _ _ (rd_L5 t299 x13_3) false _ ?side1 ?side2 ?side3 ?side4 A23.out).mono ?_);(case side1=>exact zz157);(case side2=>exact HC303_0.out);(case side3=>exact zz158);(case side4=>exact HC304_0.out);rintro e w' ⟨rfl,⟨nd,rfl⟩⟩;(try first|exact ⟨rfl,_,World.drewN_drewN _ _ _⟩|exact ⟨rfl,_,Eq.trans (World.drewN_drewN _ _ _) (congrArg (World.drewN _) (Nat.add_assoc _ _ _))⟩))))
             go_ret
             exact ⟨zz6,zz66⟩
           ·rw [if_neg c22] at H
            exact absurd H (zz14)
          ·rw [if_neg c21] at H
           exact absurd H (zz14)
         ·rw [if_neg c20] at H;have c20b0:=decide_eq_false c20;clear c20;obtain rfl:=Option.some.inj H;obtain ⟨Ao29,co29,eo29⟩:=Kd.N_slice HO_9.out;subst eo29
          go_wp2
          repeat (go_quiet (fail);try go_wp2)
          go_ret
          exact ⟨zz6,zz66⟩
def U14.f (l0_0:List Int) (l0_1:List Int) (l0_2:List (List Int)):Option (Bool):=if (l0_0.length:Int) > 4 then (if (l0_0.length:Int)≤200 then (some true) else (if (l0_1.length:Int) > 5 then (some (decide ((l0_1.length:Int)≤60))) else (some false))) else (if (l0_1.length:Int) > 5 then (some (decide ((l0_1.length:Int)≤60))) else (some false))
set_option maxHeartbeats 8000000 in
set_option maxRecDepth 100000 in
theorem U14.calls (A0_0:Option Addr) (c0_0:Nat) (l0_0:List Int) (A0_1:Option Addr) (c0_1:Nat) (l0_1:List Int) (A0_2:Option Addr) (c0_2:Nat) (l0_2:List (List Int)) (r:Bool) (w:World) (hr0_0:Kd.C (Kd.int .i64) w A0_0 l0_0.length l0_0) (hc0_0:l0_0.length≤c0_0) (hr0_1:Kd.C (Kd.int .i64) w A0_1 l0_1.length l0_1) (hc0_1:l0_1.length≤c0_1) (hr0_2:Kd.C (Kd.slice 3 (Kd.int .i64)) w A0_2 l0_2.length l0_2) (hc0_2:l0_2.length≤c0_2) (h:U14.f l0_0 l0_1 l0_2 = some r) :
  Calls Try.prog 13 #[.agg #[.slice A0_0 l0_0.length c0_0,.slice A0_1 l0_1.length c0_1,.slice A0_2 l0_2.length c0_2]] w fun e w'=>e = .returned (.bool r)∧Below w.heap.size w w':=by
 have hu36:=Try.underlying36;have HR0_0:=Aside0.mk hr0_0;have HC0_0:=Aside0.mk hc0_0;clear hr0_0 hc0_0;have HR0_1:=Aside0.mk hr0_1;have HC0_1:=Aside0.mk hc0_1;clear hr0_1 hc0_1;have HR0_2:=Aside0.mk hr0_2;have HC0_2:=Aside0.mk hc0_2;clear hr0_2 hc0_2;have HB:=Aside0.mk (Below.refl w.heap.size w);have H:(if (l0_0.length:Int) > 4 then (if (l0_0.length:Int)≤200 then (some true) else (if (l0_1.length:Int) > 5 then (some (decide ((l0_1.length:Int)≤60))) else (some false))) else (if (l0_1.length:Int) > 5 then (some (decide ((l0_1.length:Int)≤60))) else (some false))) = some r:=h;clear h;by_cases c2:(l0_0.length:Int) > 4
 ·rw [if_pos c2] at H;have c2b0:=decide_eq_true c2;have c2b1:decide (4 < l0_0.length) = true:=decide_eq_true (zz4);clear c2;by_cases c3:(l0_0.length:Int)≤200
  ·rw [if_pos c3] at H;have c3b0:=decide_eq_true c3;have c3b1:decide (l0_0.length≤200) = true:=decide_eq_true (zz4);clear c3;obtain rfl:=Option.some.inj H;go_enter Try.func13,Try.ntmps13
   go_wp2_with (first|((with_reducible refine gate_dst (N:=1) rfl ?_);(try (refine gate_guard (zz17) ?_;dsimp only));refine box_event ?hg (N:=1) ?hd (cs:=#[.slice A0_0 l0_0.length c0_0,.slice A0_1 l0_1.length c0_1,.slice A0_2 l0_2.length c0_2]) (t:=36) ?hr ?_;(case hd=>rfl);(case hg=>rfl);(case hr=>exact zz146);intro gb306 hg w4 hbox hb;have BK306:=Aside0.mk (hbox);have GW306:=Aside0.mk ((by rw [hg];exact (below_size (zz5)):w.heap.size≤gb306));have GE306:=Aside0.mk ((by rw [hg];exact (below_size (zz5)):w.heap.size≤gb306));replace HB:=Aside0.mk (below_step (zz5) hb);clear hb hbox hg;have hcz5_0:w4.cell? ⟨gb306,0,none⟩ = some (.slice A0_0 l0_0.length c0_0):=(blk_cell BK306.out 0).trans rfl;have hcz5_1:w4.cell? ⟨gb306,1,none⟩ = some (.slice A0_1 l0_1.length c0_1):=(blk_cell BK306.out 1).trans rfl;have hcz5_2:w4.cell? ⟨gb306,2,none⟩ = some (.slice A0_2 l0_2.length c0_2):=(blk_cell BK306.out 2).trans rfl;have hfz5_0:=blk_frozen BK306.out 0;have hfz5_1:=blk_frozen BK306.out 1;have hfz5_2:=blk_frozen BK306.out 2))
   go_ret
   exact ⟨zz6,zz71⟩
  ·rw [if_neg c3] at H;have c3b0:=decide_eq_false c3;have c3b1:decide (l0_0.length≤200) = false:=decide_eq_false (zz4);clear c3;by_cases c6:(l0_1.length:Int) > 5
   ·rw [if_pos c6] at H;have c6b0:=decide_eq_true c6;have c6b1:decide (5 < l0_1.length) = true:=decide_eq_true (zz4);clear c6;obtain rfl:=Option.some.inj H;go_enter Try.func13,Try.ntmps13
    go_wp2_with (first|((with_reducible refine gate_dst (N:=1) rfl ?_);(try (refine gate_guard (zz17) ?_;dsimp only));refine box_event ?hg (N:=1) ?hd (cs:=#[.slice A0_0 l0_0.length c0_0,.slice A0_1 l0_1.length c0_1,.slice A0_2 l0_2.length c0_2]) (t:=36) ?hr ?_;(case hd=>rfl);(case hg=>rfl);(case hr=>exact zz146);intro gb306 hg w7 hbox hb;have BK306:=Aside0.mk (hbox);have GW306:=Aside0.mk ((by rw [hg];exact (below_size (zz5)):w.heap.size≤gb306));have GE306:=Aside0.mk ((by rw [hg];exact (below_size (zz5)):w.heap.size≤gb306));replace HB:=Aside0.mk (below_step (zz5) hb);clear hb hbox hg;have hcz8_0:w7.cell? ⟨gb306,0,none⟩ = some (.slice A0_0 l0_0.length c0_0):=(blk_cell BK306.out 0).trans rfl;have hcz8_1:w7.cell? ⟨gb306,1,none⟩ = some (.slice A0_1 l0_1.length c0_1):=(blk_cell BK306.out 1).trans rfl;have hcz8_2:w7.cell? ⟨gb306,2,none⟩ = some (.slice A0_2 l0_2.length c0_2):=(blk_cell BK306.out 2).trans rfl;have hfz8_0:=blk_frozen BK306.out 0;have hfz8_1:=blk_frozen BK306.out 1;have hfz8_2:=blk_frozen BK306.out 2))
    go_ret
    exact ⟨zz6,zz71⟩
   ·rw [if_neg c6] at H;have c6b0:=decide_eq_false c6;have c6b1:decide (5 < l0_1.length) = false:=decide_eq_false (zz4);clear c6;obtain rfl:=Option.some.inj H;go_enter Try.func13,Try.ntmps13
    go_wp2_with (first|((with_reducible refine gate_dst (N:=1) rfl ?_);(try (refine gate_guard (zz17) ?_;dsimp only));refine box_event ?hg (N:=1) ?hd (cs:=#[.slice A0_0 l0_0.length c0_0,.slice A0_1 l0_1.length c0_1,.slice A0_2 l0_2.length c0_2]) (t:=36) ?hr ?_;(case hd=>rfl);(case hg=>rfl);(case hr=>exact zz146);intro gb306 hg w9 hbox hb;have BK306:=Aside0.mk (hbox);have GW306:=Aside0.mk ((by rw [hg];exact (below_size (zz5)):w.heap.size≤gb306));have GE306:=Aside0.mk ((by rw [hg];exact (below_size (zz5)):w.heap.size≤gb306));replace HB:=Aside0.mk (below_step (zz5) hb);clear hb hbox hg;have hcz10_0:w9.cell? ⟨gb306,0,none⟩ = some (.slice A0_0 l0_0.length c0_0):=(blk_cell BK306.out 0).trans rfl;have hcz10_1:w9.cell? ⟨gb306,1,none⟩ = some (.slice A0_1 l0_1.length c0_1):=(blk_cell BK306.out 1).trans rfl;have hcz10_2:w9.cell? ⟨gb306,2,none⟩ = some (.slice A0_2 l0_2.length c0_2):=(blk_cell BK306.out 2).trans rfl;have hfz10_0:=blk_frozen BK306.out 0;have hfz10_1:=blk_frozen BK306.out 1;have hfz10_2:=blk_frozen BK306.out 2))
    go_ret
    exact ⟨zz6,zz71⟩
 ·rw [if_neg c2] at H;have c2b0:=decide_eq_false c2;have c2b1:decide (4 < l0_0.length) = false:=decide_eq_false (zz4);clear c2;by_cases c11:(l0_1.length:Int) > 5
  ·rw [if_pos c11] at H;have c11b0:=decide_eq_true c11;have c11b1:decide (5 < l0_1.length) = true:=decide_eq_true (zz4);clear c11;obtain rfl:=Option.some.inj H;go_enter Try.func13,Try.ntmps13
   go_wp2_with (first|((with_reducible refine gate_dst (N:=1) rfl ?_);(try (refine gate_guard (zz17) ?_;dsimp only));refine box_event ?hg (N:=1) ?hd (cs:=#[.slice A0_0 l0_0.length c0_0,.slice A0_1 l0_1.length c0_1,.slice A0_2 l0_2.length c0_2]) (t:=36) ?hr ?_;(case hd=>rfl);(case hg=>rfl);(case hr=>exact zz146);intro gb306 hg w12 hbox hb;have BK306:=Aside0.mk (hbox);have GW306:=Aside0.mk ((by rw [hg];exact (below_size (zz5)):w.heap.size≤gb306));have GE306:=Aside0.mk ((by rw [hg];exact (below_size (zz5)):w.heap.size≤gb306));replace HB:=Aside0.mk (below_step (zz5) hb);clear hb hbox hg;have hcz13_0:w12.cell? ⟨gb306,0,none⟩ = some (.slice A0_0 l0_0.length c0_0):=(blk_cell BK306.out 0).trans rfl;have hcz13_1:w12.cell? ⟨gb306,1,none⟩ = some (.slice A0_1 l0_1.length c0_1):=(blk_cell BK306.out 1).trans rfl;have hcz13_2:w12.cell? ⟨gb306,2,none⟩ = some (.slice A0_2 l0_2.length c0_2):=(blk_cell BK306.out 2).trans rfl;have hfz13_0:=blk_frozen BK306.out 0;have hfz13_1:=blk_frozen BK306.out 1;have hfz13_2:=blk_frozen BK306.out 2))
   go_ret
   exact ⟨zz6,zz71⟩
  ·rw [if_neg c11] at H;have c11b0:=decide_eq_false c11;have c11b1:decide (5 < l0_1.length) = false:=decide_eq_false (zz4);clear c11;obtain rfl:=Option.some.inj H;go_enter Try.func13,Try.ntmps13
   go_wp2_with (first|((with_reducible refine gate_dst (N:=1) rfl ?_);(try (refine gate_guard (zz17) ?_;dsimp only));refine box_event ?hg (N:=1) ?hd (cs:=#[.slice A0_0 l0_0.length c0_0,.slice A0_1 l0_1.length c0_1,.slice A0_2 l0_2.length c0_2]) (t:=36) ?hr ?_;(case hd=>rfl);(case hg=>rfl);(case hr=>exact zz146);intro gb306 hg w14 hbox hb;have BK306:=Aside0.mk (hbox);have GW306:=Aside0.mk ((by rw [hg];exact (below_size (zz5)):w.heap.size≤gb306));have GE306:=Aside0.mk ((by rw [hg];exact (below_size (zz5)):w.heap.size≤gb306));replace HB:=Aside0.mk (below_step (zz5) hb);clear hb hbox hg;have hcz15_0:w14.cell? ⟨gb306,0,none⟩ = some (.slice A0_0 l0_0.length c0_0):=(blk_cell BK306.out 0).trans rfl;have hcz15_1:w14.cell? ⟨gb306,1,none⟩ = some (.slice A0_1 l0_1.length c0_1):=(blk_cell BK306.out 1).trans rfl;have hcz15_2:w14.cell? ⟨gb306,2,none⟩ = some (.slice A0_2 l0_2.length c0_2):=(blk_cell BK306.out 2).trans rfl;have hfz15_0:=blk_frozen BK306.out 0;have hfz15_1:=blk_frozen BK306.out 1;have hfz15_2:=blk_frozen BK306.out 2))
   go_ret
   exact ⟨zz6,zz71⟩
def U42.l0:Nat→List Int→Int→List Int→Int→Int→Option (Bool)
 | 0,_,_,_,_,_=>none
 | k+1,x0,x1,x7,x8,x9=>if x9 < x8 then (if 0≤x9 then (if x9 < (x7.length:Int) then (if (rd x7 x9) < x1 then (some false) else (if x9 > 0 then (if 0≤(wrap64 (x9 - 1)) then (if (wrap64 (x9 - 1)) < (x0.length:Int) then (if (rd x7 x9)≤(rd x0 (wrap64 (x9 - 1))) then (some false) else (U42.l0 k x0 x1 x7 x8 (wrap64 (x9+1)))) else (none)) else (none)) else (U42.l0 k x0 x1 x7 x8 (wrap64 (x9+1))))) else (none)) else (none)) else (some true)
def U42.f (k:Nat) (l0:List Int) (a1:Int):Option (Bool):=U42.l0 k l0 a1 l0 (l0.length:Int) 0
theorem U42.mono_l:∀ k,(∀ y0 y1 y2 y3 y4,LeO (U42.l0 k y0 y1 y2 y3 y4) (U42.l0 (k+1) y0 y1 y2 y3 y4))
 | 0=>fun _ _ _ _ _ r h=>by simp [U42.l0] at h
 | k+1=>by
  have ih0:=U42.mono_l k
  ·intro y0 y1 y2 y3 y4;unfold U42.l0
   exact zm11_0
theorem U42.mono:∀ a0 a1 k,LeO (U42.f k a0 a1) (U42.f (k+1) a0 a1):=by
 intro a0 a1 k;have ih0:=U42.mono_l k;unfold U42.f
 exact zm11_0
set_option maxHeartbeats 8000000 in
set_option maxRecDepth 100000 in
theorem U42.calls (k:Nat) (A0:Option Addr) (c0:Nat) (l0:List Int) (a1:Int) (r:Bool) (w:World) (hr0:Kd.C (Kd.int .i64) w A0 l0.length l0) (hc0:l0.length≤c0) (h:U42.f k l0 a1 = some r) :
  Calls Try.prog 60 #[.slice A0 l0.length c0,.int .i64 a1] w fun e w'=>e = .returned (.bool r)∧Drawn0 w w':=by
 have HR0:=Aside0.mk hr0;have HC0:=Aside0.mk hc0;clear hr0 hc0;have H:(U42.l0 k l0 a1 l0 (l0.length:Int) 0) = some r:=h;clear h;have H':=Aside0.mk H;clear H;go_enter Try.func60,Try.ntmps60
 go_wp2
 go_loopg [9] k (fun kq v9 w'=>∃ (x9_1:Int),v9 = .int .i64 x9_1∧Aside0 (U42.l0 kq l0 a1 l0 (l0.length:Int) x9_1 = some r)∧Aside0 (kq≤k)∧Drawn0 w w')
 case atStart=>exact ⟨(0),(zz2),H',⟨Nat.le_refl _⟩,zz3⟩
 case round =>
  clear H'
  try clear p2
  obtain ⟨x9_1,rfl,HA,HK1,⟨m1,rfl⟩⟩:=hrel
  cases gk with
  | zero=>exact absurd HA.out (by simp [U42.l0])
  | succ k1 =>
   have H:=HA.out;clear HA;simp only [U42.l0] at H;by_cases c3:x9_1 < (l0.length:Int)
   ·rw [if_pos c3] at H;have c3b0:=decide_eq_true c3;clear c3;by_cases c4:0≤x9_1
    ·rw [if_pos c4] at H;have c4b0:=decide_eq_true c4;clear c4;by_cases c5:x9_1 < (l0.length:Int)
     ·rw [if_pos c5] at H;have c5b0:=decide_eq_true c5;clear c5;by_cases c6:(rd l0 x9_1) < a1
      ·rw [if_pos c6] at H;have c6b0:=decide_eq_true c6;clear c6;obtain rfl:=Option.some.inj H;have p307:0≤(x9_1:Int):=of_decide_eq_true (zz11);have q307:x9_1 < (l0.length:Int):=of_decide_eq_true (zz11);obtain ⟨ad307,e307,hx307_0⟩:=Kd.at_int HR0.out x9_1 p307 q307
       cases e307
       replace p307:=eq_true p307;replace q307:=eq_true q307
       go_wp2
       go_ret
       exact ⟨zz2,zz3⟩
      ·rw [if_neg c6] at H;have c6b0:=decide_eq_false c6;clear c6;by_cases c7:x9_1 > 0
       ·rw [if_pos c7] at H;have c7b0:=decide_eq_true c7;clear c7;obtain ⟨ji8,hji8⟩:∃ j_:Int,(wrap64 (x9_1 - 1)) = j_:=⟨_,rfl⟩
        replace H:(if 0≤(ji8) then (if (ji8) < (l0.length:Int) then (if (rd l0 x9_1)≤(rd l0 (ji8)) then (some false) else (U42.l0 k1 l0 a1 l0 (l0.length:Int) (wrap64 (x9_1+1)))) else (none)) else (none)) = some r:=by first|(rw [hji8] at H;exact H)|(simp only [hji8] at H ⊢;exact H)
        have hji8w:(IntKind.i64.wrap (x9_1 - 1)) = ji8:=(i64_w _).trans hji8;by_cases c9:0≤(ji8)
        ·rw [if_pos c9] at H;have c9b0:=decide_eq_true c9;clear c9;by_cases c10:(ji8) < (l0.length:Int)
         ·rw [if_pos c10] at H;have c10b0:=decide_eq_true c10;clear c10;by_cases c11:(rd l0 x9_1)≤(rd l0 (ji8))
          ·rw [if_pos c11] at H;have c11b0:=decide_eq_true c11;clear c11;obtain rfl:=Option.some.inj H;have p307:0≤(x9_1:Int):=of_decide_eq_true (zz11);have q307:x9_1 < (l0.length:Int):=of_decide_eq_true (zz11);obtain ⟨ad307,e307,hx307_0⟩:=Kd.at_int HR0.out x9_1 p307 q307
           cases e307
           replace p307:=eq_true p307;replace q307:=eq_true q307;have p308:0≤((ji8):Int):=of_decide_eq_true (zz11);have q308:(ji8) < (l0.length:Int):=of_decide_eq_true (zz11);obtain ⟨ad308,e308,hx308_0⟩:=Kd.at_int HR0.out (ji8) p308 q308;obtain rfl:ad307 = ad308:=(by injection e308);replace p308:=eq_true p308;replace q308:=eq_true q308
           go_wp2
           go_ret
           exact ⟨by first|rfl|(simp;done)|(simp only [← hji8]<;>(first|rfl|simp))|(simp [*];done),zz3⟩
          ·rw [if_neg c11] at H;have c11b0:=decide_eq_false c11;clear c11;have H':=Aside0.mk H;clear H;have p307:0≤(x9_1:Int):=of_decide_eq_true (zz11);have q307:x9_1 < (l0.length:Int):=of_decide_eq_true (zz11);obtain ⟨ad307,e307,hx307_0⟩:=Kd.at_int HR0.out x9_1 p307 q307
           cases e307
           replace p307:=eq_true p307;replace q307:=eq_true q307;have p308:0≤((ji8):Int):=of_decide_eq_true (zz11);have q308:(ji8) < (l0.length:Int):=of_decide_eq_true (zz11);obtain ⟨ad308,e308,hx308_0⟩:=Kd.at_int HR0.out (ji8) p308 q308;obtain rfl:ad307 = ad308:=(by injection e308);replace p308:=eq_true p308;replace q308:=eq_true q308
           go_wp2
           go_roundg k1
           case measure=>have:=HK1.out;omega
           case rel=>exact ⟨(wrap64 (x9_1+1)),(zz2),H',⟨zz12⟩,zz3⟩
         ·rw [if_neg c10] at H
          exact absurd H (zz14)
        ·rw [if_neg c9] at H
         exact absurd H (zz14)
       ·rw [if_neg c7] at H;have c7b0:=decide_eq_false c7;clear c7;have H':=Aside0.mk H;clear H;have p307:0≤(x9_1:Int):=of_decide_eq_true (zz11);have q307:x9_1 < (l0.length:Int):=of_decide_eq_true (zz11);obtain ⟨ad307,e307,hx307_0⟩:=Kd.at_int HR0.out x9_1 p307 q307
        cases e307
        replace p307:=eq_true p307;replace q307:=eq_true q307
        go_wp2
        go_roundg k1
        case measure=>have:=HK1.out;omega
        case rel=>exact ⟨(wrap64 (x9_1+1)),(zz2),H',⟨zz12⟩,zz3⟩
     ·rw [if_neg c5] at H
      exact absurd H (zz14)
    ·rw [if_neg c4] at H
     exact absurd H (zz14)
   ·rw [if_neg c3] at H;have c3b0:=decide_eq_false c3;clear c3;obtain rfl:=Option.some.inj H
    go_wp2
    go_ret
    exact ⟨zz2,zz3⟩
end Go.Proofs.Ytmcegphcjphdcaa.QA
