import Derived.Test.YtmcegphcjphdcaaCBQAx0
import Derived.Test.YtmcegphcjphdcaaCBQAx7
import Derived.Test.YtmcegphcjphdcaaCBQAx8
import Derived.Test.YtmcegphcjphdcaaCBQAx9
namespace Go.Proofs.Ytmcegphcjphdcaa.QA
open Go.RowKit Go.Proofs.YtmcegphcjphdcaaW.PrintWords Go.Proofs.YtmcegphcjphdcaaW.PrintLast Go.Proofs.YtmcegphcjphdcaaW.PrintMore
attribute [local go_sem] max2_int min2_int max_two min_two max_three min_three max_four min_four
set_option linter.unusedVariables false
set_option linter.unusedSimpArgs false
def U33.l0:Nat→List (S56)→List Int→Int→Option (List Int)
 | 0,_,_,_=>none
 | k+1,x0,x3,x4=>if x4 < (x0.length:Int) then (if 0≤x4 then ((U25.f ((rd_T56 x0 x4).f0)).bind fun t384=>(if x3.length < 17592186044416 then (U33.l0 k x0 (x3++[t384]) (wrap64 (x4+1))) else (none))) else (none)) else (some x3)
def U33.f (k:Nat) (l0:List (S56)):Option (List Int):=U33.l0 k l0 ([]:List Int) 0
theorem zm17_0 {P:Prop} (h:P:=by repeat' first|(with_reducible first|exact ih0 ..|exact LeO.refl _|exact LeO.none _|refine LeO.ite ?_ ?_|refine LeO.bind ?_ (fun _=>?_))|exact ih0 ..|exact LeO.none _|refine LeO.ite ?_ ?_|refine LeO.bind ?_ (fun _=>?_)):P:=h
theorem U33.mono_l:∀ k,(∀ y0 y1 y2,LeO (U33.l0 k y0 y1 y2) (U33.l0 (k+1) y0 y1 y2))
 | 0=>fun _ _ _ r h=>by simp [U33.l0] at h
 | k+1=>by
  have ih0:=U33.mono_l k
  ·intro y0 y1 y2;unfold U33.l0
   exact zm17_0
theorem U33.mono:∀ a0 k,LeO (U33.f k a0) (U33.f (k+1) a0):=by
 intro a0 k;have ih0:=U33.mono_l k;unfold U33.f
 exact zm17_0
set_option maxHeartbeats 8000000 in
set_option maxRecDepth 100000 in
theorem U33.calls (k:Nat) (A0:Option Addr) (c0:Nat) (l0:List (S56)) (r:List Int) (w:World) (hr0:Kd.C k56 w A0 l0.length l0) (hc0:l0.length≤c0) (h:U33.f k l0 = some r) :
  Calls Try.prog 42 #[.slice A0 l0.length c0] w fun e w'=>∃ v0_:Value,e = .returned (v0_)∧Kd.R (Kd.int .i64) 3 w' w.heap.size (fun _=>True) v0_ r∧Below w.heap.size w w':=by
 have hu56:=Try.underlying56;have HR0:=Aside0.mk hr0;have HC0:=Aside0.mk hc0;clear hr0 hc0;have HB:=Aside0.mk (Below.refl w.heap.size w);have H:(U33.l0 k l0 ([]:List Int) 0) = some r:=h;clear h;have H':=Aside0.mk H;clear H;go_enter Try.func42,Try.ntmps42
 go_wp2
 go_loopg [3,4] k (fun kq v3 v4 w'=>∃ (x3_1:List Int) (x4_1:Int),v4 = .int .i64 x4_1∧Aside0 (U33.l0 kq l0 x3_1 x4_1 = some r)∧Aside0 (kq≤k)∧Aside0 (Kd.R (Kd.int .i64) 3 w' w.heap.size (fun _=>True) v3 x3_1)∧Aside0 (Below w.heap.size w w'))
 case atStart=>exact ⟨(([]:List Int)),(0),(zz2),H',⟨Nat.le_refl _⟩,⟨zz84⟩,⟨zz5⟩⟩
 case round =>
  clear H';obtain ⟨x3_1,x4_1,rfl,HA,HK1,HO_3,HB⟩:=hrel
  cases gk with
  | zero=>exact absurd HA.out (by simp [U33.l0])
  | succ k1 =>
   have H:=HA.out;clear HA;simp only [U33.l0] at H;by_cases c2:x4_1 < (l0.length:Int)
   ·rw [if_pos c2] at H;have c2b0:=decide_eq_true c2;clear c2;by_cases c3:0≤x4_1
    ·rw [if_pos c3] at H;have c3b0:=decide_eq_true c3;clear c3;replace H:=Option.bind_eq_some_iff.mp H;obtain ⟨t384,A40,H⟩:=H;have A4:=Aside0.mk A40;clear A40;by_cases c5:x3_1.length < 17592186044416
     ·rw [if_pos c5] at H;have LMc5:=Aside0.mk c5;clear c5;obtain ⟨y385,hy385⟩:∃ y_:List Int,y_ = (x3_1++[t384]):=⟨_,rfl⟩;have hy_:=hy385;replace H:(U33.l0 k1 l0 y385 (wrap64 (x4_1+1))) = some r:=zzh;clear hy_;have Ny385:=Aside0.mk hy385;clear hy385;have H':=Aside0.mk H;clear H;have p383:0≤(x4_1:Int):=of_decide_eq_true (zz11);have q383:x4_1 < (l0.length:Int):=of_decide_eq_true (zz11);obtain ⟨ad383,A383_0,c383_0,e383,hx383_0,hl383_0,hi383_0⟩:=at_T56 HR0.out x4_1 p383 q383
      cases e383
      replace hx383_0:=(HB.out.cell (World.block_lt_of_cell? w _ hx383_0)).trans hx383_0;have HR383_0:=Aside0.mk hi383_0;have HC383_0:=Aside0.mk hl383_0;clear hi383_0 hl383_0;replace p383:=eq_true p383;replace q383:=eq_true q383
      go_wp2_with (first|((with_reducible refine gate_callee (f:=34) rfl ?_);refine goesL_ (some 16) rfl rfl Try.func34 (zz0) rfl #[.agg #[.slice A383_0 ((rd_T56 l0 x4_1).f0).length c383_0]] rfl (zz16) ?_;(with_reducible refine (U25.calls _ _ ((rd_T56 l0 x4_1).f0) t384 _ ?side1 ?side2 A4.out).mono ?_);(case side1=>repeat (first|exact (Kd.C_below HR383_0.out HB.out)|(with_reducible refine Kd.C_alloc ?_ _)|(with_reducible refine Kd.C_drewN ?_ _)|(with_reducible refine Kd.C_drew ?_)));(case side2=>exact HC383_0.out);rintro e w6 ⟨rfl,hb⟩;refine ⟨_,rfl,?_⟩;replace HO_3:=Aside0.mk (Kd.R_below (zz78) hb);replace HB:=Aside0.mk (below_step (zz5) hb);(try clear hb);(try clear hb2);(try clear hk);(try clear hi))|((with_reducible refine gate_builtin (b:=.append) (xs:=#[.tmp 11,.tmp 17]) rfl ?_);at_builtin;refine Kd.R_append (Kd.int .i64) (w0:=w) w.heap.size rfl (.tmp 11) (.tmp 17) 22 3 (.int .i64 0) 8 rfl Try.underlying22 info3 rfl (zz31) (zz4) u3 x3_1 t384 [.int .i64 t384] (fun _=>True) (fun _=>False) rfl rfl ?aP (fun _ hk=>hk.elim) ?aF ?aO ?aB ?aS ?aL ?_;(case aP=>exact rfl);(case aB=>exact (zz5));(case aF=>exact (fun _ _=>trivial));(case aO=>exact (zz78));(case aS=>exact (below_size (zz5)));(case aL=>have:=LMc5.out;omega);intro v386 w7 ho hb hg hat;rw [← Ny385.out] at ho;have n0_:=Aside0.mk (hb);have n1_:=Aside0.mk (ho);clear HB;clear HO_3;have HB:=n0_;have HO387:=n1_;clear n0_ n1_;clear ho hb hg hat))
      go_roundg k1
      case measure=>have:=HK1.out;omega
      case rel=>exact ⟨(y385),(wrap64 (x4_1+1)),(zz2),H',⟨zz12⟩,⟨by (with_reducible repeat (first|apply Kd.R_alloc|apply Kd.R_drewN|apply Kd.R_drew));exact HO387.out⟩,⟨zz5⟩⟩
     ·rw [if_neg c5] at H
      exact absurd H (zz14)
    ·rw [if_neg c3] at H
     exact absurd H (zz14)
   ·rw [if_neg c2] at H;have c2b0:=decide_eq_false c2;clear c2;obtain rfl:=Option.some.inj H
    go_wp2
    go_ret
    exact ⟨_,zz6,zz78,zz5⟩
def U23.f (l0:List Int) (a1:Int):Option (Int):=if a1 < (l0.length:Int) then (if 0≤a1 then (some (IntKind.u64.wrap (rd l0 a1))) else (none)) else (some 0)
set_option maxHeartbeats 8000000 in
set_option maxRecDepth 100000 in
theorem U23.calls (A0:Option Addr) (c0:Nat) (l0:List Int) (a1:Int) (r:Int) (w:World) (hr0:Kd.C (Kd.int .u32) w A0 l0.length l0) (hc0:l0.length≤c0) (h:U23.f l0 a1 = some r) :
  Calls Try.prog 74 #[.slice A0 l0.length c0,.int .i64 a1] w fun e w'=>e = .returned (.int .u64 r)∧Drawn0 w w':=by
 have HR0:=Aside0.mk hr0;have HC0:=Aside0.mk hc0;clear hr0 hc0;have H:(if a1 < (l0.length:Int) then (if 0≤a1 then (some (IntKind.u64.wrap (rd l0 a1))) else (none)) else (some 0)) = some r:=h;clear h;by_cases c3:a1 < (l0.length:Int)
 ·rw [if_pos c3] at H;have c3b0:=decide_eq_true c3;clear c3;by_cases c4:0≤a1
  ·rw [if_pos c4] at H;have c4b0:=decide_eq_true c4;clear c4;obtain rfl:=Option.some.inj H;have p388:0≤(a1:Int):=of_decide_eq_true (zz11);have q388:a1 < (l0.length:Int):=of_decide_eq_true (zz11);obtain ⟨ad388,e388,hx388_0⟩:=Kd.at_int HR0.out a1 p388 q388
   cases e388
   replace p388:=eq_true p388;replace q388:=eq_true q388;go_enter Try.func74,Try.ntmps74
   go_wp2
   go_ret
   exact ⟨zz2,zz3⟩
  ·rw [if_neg c4] at H
   exact absurd H (zz14)
 ·rw [if_neg c3] at H;have c3b0:=decide_eq_false c3;clear c3;obtain rfl:=Option.some.inj H;go_enter Try.func74,Try.ntmps74
  go_wp2
  go_ret
  exact ⟨zz2,zz3⟩
def U18.l0:Nat→List Int→List Int→List Int→Int→Int→Option (List Int)
 | 0,_,_,_,_,_=>none
 | k+1,x0,x1,x5,x6,x7=>if x7 < (x5.length:Int) then ((U23.f x0 x7).bind fun t392=>((U23.f x1 x7).bind fun t393=>(if 0≤x7 then (U18.l0 k x0 x1 (x5.set (x7:Int).toNat ((IntKind.u64.wrap ((IntKind.u64.wrap (t392+t393))+x6)) % 4294967296)) ((IntKind.u64.wrap ((IntKind.u64.wrap (t392+t393))+x6)) / 4294967296) (wrap64 (x7+1))) else (none)))) else ((U21.f k x5).bind fun t395=>(some t395))
def U18.f (k:Nat) (l0:List Int) (l1:List Int):Option (List Int):=if 0≤(wrap64 ((mx (l0.length:Int) (l1.length:Int))+1)) then (if (wrap64 ((mx (l0.length:Int) (l1.length:Int))+1):Int).toNat≤70368744177664 then (U18.l0 k l0 l1 (List.replicate (wrap64 ((mx (l0.length:Int) (l1.length:Int))+1):Int).toNat 0) 0 0) else (none)) else (none)
theorem zm17_1 {P:Prop} (h:P:=by repeat' first|(with_reducible first|exact ih0 ..|exact U21.mono ..|exact LeO.refl _|exact LeO.none _|refine LeO.ite ?_ ?_|refine LeO.bind ?_ (fun _=>?_))|exact ih0 ..|exact U21.mono ..|exact LeO.none _|refine LeO.ite ?_ ?_|refine LeO.bind ?_ (fun _=>?_)):P:=h
theorem U18.mono_l:∀ k,(∀ y0 y1 y2 y3 y4,LeO (U18.l0 k y0 y1 y2 y3 y4) (U18.l0 (k+1) y0 y1 y2 y3 y4))
 | 0=>fun _ _ _ _ _ r h=>by simp [U18.l0] at h
 | k+1=>by
  have ih0:=U18.mono_l k
  ·intro y0 y1 y2 y3 y4;unfold U18.l0
   exact zm17_1
theorem U18.mono:∀ a0 a1 k,LeO (U18.f k a0 a1) (U18.f (k+1) a0 a1):=by
 intro a0 a1 k;have ih0:=U18.mono_l k;unfold U18.f
 exact zm17_1
set_option maxHeartbeats 8000000 in
set_option maxRecDepth 100000 in
theorem U18.calls (k:Nat) (A0:Option Addr) (c0:Nat) (l0:List Int) (A1:Option Addr) (c1:Nat) (l1:List Int) (r:List Int) (w:World) (hr0:Kd.C (Kd.int .u32) w A0 l0.length l0) (hc0:l0.length≤c0) (hr1:Kd.C (Kd.int .u32) w A1 l1.length l1) (hc1:l1.length≤c1) (h:U18.f k l0 l1 = some r) :
  Calls Try.prog 65 #[.slice A0 l0.length c0,.slice A1 l1.length c1] w fun e w'=>∃ v0_:Value,e = .returned (v0_)∧Kd.R (Kd.int .u32) 65 w' w.heap.size (fun _=>True) v0_ r∧Below w.heap.size w w':=by
 have HR0:=Aside0.mk hr0;have HC0:=Aside0.mk hc0;clear hr0 hc0;have HR1:=Aside0.mk hr1;have HC1:=Aside0.mk hc1;clear hr1 hc1;have HB:=Aside0.mk (Below.refl w.heap.size w);have H:(if 0≤(wrap64 ((mx (l0.length:Int) (l1.length:Int))+1)) then (if (wrap64 ((mx (l0.length:Int) (l1.length:Int))+1):Int).toNat≤70368744177664 then (U18.l0 k l0 l1 (List.replicate (wrap64 ((mx (l0.length:Int) (l1.length:Int))+1):Int).toNat 0) 0 0) else (none)) else (none)) = some r:=h;clear h;obtain ⟨ji3,hji3⟩:∃ j_:Int,(mx (l0.length:Int) (l1.length:Int)) = j_:=⟨_,rfl⟩;replace H:(if 0≤(wrap64 ((ji3)+1)) then (if (wrap64 ((ji3)+1):Int).toNat≤70368744177664 then (U18.l0 k l0 l1 (List.replicate (wrap64 ((ji3)+1):Int).toNat 0) 0 0) else (none)) else (none)) = some r:=zz23
 (try (have hji3l:0≤ji3:=by (rw [← hji3];unfold mx;(repeat' split)<;>omega)))
 (try (have hji3m:0≤ji3:=zz4))
 have hji3_:(if (l0.length:Int) < (l1.length:Int) then (l1.length:Int) else (l0.length:Int)) = ji3:=hji3
 (try (have hji3N:=hji3_;simp only [Int.ofNat_lt] at hji3N))
 obtain ⟨ji4,hji4⟩:∃ j_:Int,(wrap64 ((ji3)+1)) = j_:=⟨_,rfl⟩
 replace H:(if 0≤(ji4) then (if (ji4:Int).toNat≤70368744177664 then (U18.l0 k l0 l1 (List.replicate (ji4:Int).toNat 0) 0 0) else (none)) else (none)) = some r:=by first|(rw [hji4] at H;exact H)|(simp only [hji4] at H ⊢;exact H)
 have hji4w:(IntKind.i64.wrap ((ji3)+1)) = ji4:=(i64_w _).trans hji4;by_cases c5:0≤(ji4)
 ·rw [if_pos c5] at H;have c5b0:=eq_true c5;have c5b1:=decide_eq_true c5;clear c5;by_cases c6:(ji4:Int).toNat≤70368744177664
  ·rw [if_pos c6] at H;have c6b0:=eq_true c6;have c6b1:=decide_eq_true c6;clear c6;obtain ⟨y389,hy389⟩:∃ y_:List Int,y_ = (List.replicate (ji4:Int).toNat 0):=⟨_,rfl⟩;have hy_:=hy389;replace H:(U18.l0 k l0 l1 y389 0 0) = some r:=zzh;clear hy_;have Ny389:=Aside0.mk hy389;clear hy389;have H':=Aside0.mk H;clear H;go_enter Try.func65,Try.ntmps65
   go_wp2_with (first|((with_reducible refine gate_dst (N:=15) rfl ?_);refine Kd.R_make (Kd.int .u32) _ 65 rfl (N:=15) rfl 32 _ _ rfl ji4 rfl rfl Try.underlying32 (.int .u32 0) 4 info65 rfl (zz31) (zz4) 0 (ok:=fun _=>True) (okp:=fun _=>True) rfl (fun _ hk=>hk) trivial (of_decide_eq_true (zz11)) (Nat.le_trans (Nat.mul_le_mul_right _ (of_decide_eq_true (zz11):ji4.toNat≤70368744177664)) (zz4)) (Below.refl _ _) (Nat.le_refl _) ?_;intro v390 w7 ho8 hb hg_ hnew_;clear hg_ hnew_;(first|rw [← Ny389.out] at ho8|(simp only [Int.reduceToNat] at ho8;rw [← Ny389.out] at ho8));have HO391:=Aside0.mk (Kd.R_lower ho8 (below_size (zz5)));replace HB:=Aside0.mk (below_step (zz5) hb);clear hb ho8))
   go_loopg [6,7] k (fun kq v6 v7 w'=>∃ (x5_1:List Int) (x6_1:Int) (x7_1:Int),v6 = .int .u64 x6_1∧v7 = .int .i64 x7_1∧Aside0 (U18.l0 kq l0 l1 x5_1 x6_1 x7_1 = some r)∧Aside0 (kq≤k)∧Aside0 (Kd.R (Kd.int .u32) 65 w' w.heap.size (fun _=>True) v390 x5_1)∧Aside0 (Below w.heap.size w w'))
   case atStart=>exact ⟨(y389),(0),(0),(zz2),(zz2),H',⟨Nat.le_refl _⟩,⟨by (with_reducible repeat (first|apply Kd.R_alloc|apply Kd.R_drewN|apply Kd.R_drew));exact HO391.out⟩,⟨zz5⟩⟩
   case round =>
    clear H'
    (try clear c1);(try clear p2);(try clear c5);(try clear c5b0);(try clear c5b1);(try clear c6);(try clear c6b0);(try clear c6b1);(try clear p6)
    obtain ⟨x5_1,x6_1,x7_1,rfl,rfl,HA,HK1,HO_5,HB⟩:=hrel
    cases gk with
    | zero=>exact absurd HA.out (by simp [U18.l0])
    | succ k1 =>
     have H:=HA.out;clear HA;simp only [U18.l0] at H;by_cases c9:x7_1 < (x5_1.length:Int)
     ·rw [if_pos c9] at H;have c9b0:=decide_eq_true c9;clear c9;replace H:=Option.bind_eq_some_iff.mp H;obtain ⟨t392,A100,H⟩:=H;have A10:=Aside0.mk A100;clear A100;replace H:=Option.bind_eq_some_iff.mp H;obtain ⟨t393,A110,H⟩:=H;have A11:=Aside0.mk A110;clear A110;by_cases c12:0≤x7_1
      ·rw [if_pos c12] at H;have c12b0:=decide_eq_true c12;clear c12;obtain ⟨y394,hy394⟩:∃ y_:List Int,y_ = (x5_1.set (x7_1:Int).toNat ((IntKind.u64.wrap ((IntKind.u64.wrap (t392+t393))+x6_1)) % 4294967296)):=⟨_,rfl⟩;have hy_:=hy394;replace H:(U18.l0 k1 l0 l1 y394 ((IntKind.u64.wrap ((IntKind.u64.wrap (t392+t393))+x6_1)) / 4294967296) (wrap64 (x7_1+1))) = some r:=zzh;clear hy_;have Ny394:=Aside0.mk hy394;clear hy394;have H':=Aside0.mk H;clear H;obtain ⟨Ao14,co14,eo14⟩:=Kd.R_slice HO_5.out;subst eo14
       go_wp2_with (first|((with_reducible refine gate_callee (f:=74) rfl ?_);refine goesL_ (some 24) rfl rfl Try.func74 (zz0) rfl #[.slice A0 l0.length c0,.int .i64 x7_1] rfl (zz16) ?_;(with_reducible refine (U23.calls _ _ l0 x7_1 t392 _ ?side1 ?side2 A10.out).mono ?_);(case side1=>exact zz155);(case side2=>exact HC0.out);rintro e w' ⟨rfl,⟨nd,rfl⟩⟩;refine ⟨_,rfl,?_⟩;(try (rw [drewN_self wr];generalize hq_:World.drewN wr _ = wr;have n0_:Aside0 (Kd.R (Kd.int .u32) 65 wr w.heap.size (fun _=>True) (.slice Ao14 x5_1.length co14) x5_1):=⟨by rw [← hq_];exact (zz58)⟩;have n1_:Aside0 (Below w.heap.size w wr):=⟨by rw [← hq_];exact (zz5)⟩;clear HO_5 HB hq_;have HO_5:=n0_;have HB:=n1_;clear n0_ n1_)))|((with_reducible refine gate_callee (f:=74) rfl ?_);refine goesL_ (some 27) rfl rfl Try.func74 (zz0) rfl #[.slice A1 l1.length c1,.int .i64 x7_1] rfl (zz16) ?_;(with_reducible refine (U23.calls _ _ l1 x7_1 t393 _ ?side1 ?side2 A11.out).mono ?_);(case side1=>exact zz153);(case side2=>exact HC1.out);rintro e w' ⟨rfl,⟨nd,rfl⟩⟩;refine ⟨_,rfl,?_⟩;(try (rw [drewN_self wr];generalize hq_:World.drewN wr _ = wr;have n0_:Aside0 (Kd.R (Kd.int .u32) 65 wr w.heap.size (fun _=>True) (.slice Ao14 x5_1.length co14) x5_1):=⟨by rw [← hq_];exact (zz58)⟩;have n1_:Aside0 (Below w.heap.size w wr):=⟨by rw [← hq_];exact (zz5)⟩;clear HO_5 HB hq_;have HO_5:=n0_;have HB:=n1_;clear n0_ n1_));have p13:0≤(x7_1:Int):=of_decide_eq_true (zz11);have q13:(x7_1:Int) < ((x5_1.length:Int):Int):=of_decide_eq_true (zz11);obtain ⟨go13,co13,eo13,gb13,gl13,cl13,HG13⟩:=Kd.R_form HO_5.out (zz4);(first|cases eo13|(injection eo13 with ea_ en_ ec_;(first|subst ea_|(injection ea_ with ea_;subst ea_));subst ec_;clear en_));have GB13:=Aside0.mk gb13;have GG13:=Aside0.mk HG13;clear gb13 gl13 HG13;obtain ⟨hx13_0,hf13_0⟩:=Kd.R_celln 0 HO_5.out (x7_1:Int) p13 q13;replace p13:=eq_true p13;replace q13:=eq_true q13;obtain ⟨hy15_,hz15_⟩:=Kd.R_celln 0 HO_5.out (x7_1:Int) (of_decide_eq_true (zz11)) (of_decide_eq_true (zz11));have HP15:=Kd.R_putg HO_5.out (x7_1:Int) ((IntKind.u64.wrap ((IntKind.u64.wrap (t392+t393))+x6_1)) % 4294967296))|((with_reducible refine gate_store (t:=65) (p:=35) rfl ?_);refine store_event (t:=65) (p:=35) (v:=?vo_w16) (w1:=(wr.setCell ⟨go13,(x7_1:Int).toNat,none⟩ (.int .u32 ((IntKind.u64.wrap ((IntKind.u64.wrap (t392+t393))+x6_1)) % 4294967296)))) ?hg ?ho ?hn ?hr ?_;(case ho=>rfl);(case hg=>rfl);(case hn=>rfl);(case hr=>exact zz146);intro w16 hw;have hg:wr.grownBy w16 (some go13):=(by rw [hw];exact HP15.2);have hp_:Kd.R (Kd.int .u32) 65 w16 w.heap.size (fun _=>True) (.slice (some ⟨go13,0,none⟩) x5_1.length co14) y394:=(by rw [hw,Ny394.out];exact HP15.1);clear HP15;replace HO_5:=Aside0.mk (hp_);replace HB:=Aside0.mk ((by rw [hw];exact below_set (HB.out) GB13.out:Below w.heap.size w w16));clear hg hw hp_))
       go_roundg k1
       case measure=>have:=HK1.out;omega
       case rel=>exact ⟨(y394),((IntKind.u64.wrap ((IntKind.u64.wrap (t392+t393))+x6_1)) / 4294967296),(wrap64 (x7_1+1)),(zz2),(zz2),H',⟨zz12⟩,⟨zz58⟩,⟨zz5⟩⟩
      ·rw [if_neg c12] at H
       exact absurd H (zz14)
     ·rw [if_neg c9] at H;have c9b0:=decide_eq_false c9;clear c9;replace H:=Option.bind_eq_some_iff.mp H;obtain ⟨t395,A170,H⟩:=H;have A17:=Aside0.mk A170;clear A170;obtain rfl:=Option.some.inj H;obtain ⟨Ao18,co18,eo18⟩:=Kd.R_slice HO_5.out;subst eo18
      go_wp2_with (first|((with_reducible refine gate_callee (f:=73) rfl ?_);refine goesL_ (some 39) rfl rfl Try.func73 (zz0) rfl #[.slice Ao18 x5_1.length co18] rfl (zz16) ?_;(with_reducible refine (U21.calls k1 _ _ x5_1 t395 _ ?side1 ?side2 A17.out).mono ?_);(case side1=>exact zz156);(case side2=>exact (Kd.R_reads' HO_5.out).2.1);rintro e w19 ⟨v396,rfl,ho0,hb⟩;refine ⟨_,rfl,?_⟩;have HO397:=Aside0.mk (Kd.R_lower (Kd.R_new' ho0 (Kd.R_lt (zz58))) (below_size (zz5)));replace HO_5:=Aside0.mk (Kd.R_elder' (zz58) (Kd.R_base ho0) hb);replace HB:=Aside0.mk (below_step (zz5) hb);(try clear hb);(try clear hb2);(try clear hk);(try clear hi);(try clear ho0)))
      go_ret
      exact ⟨_,by first|rfl|(simp [errW_none,errW_some]<;>rfl)|(simp only [← hji3,← hji4];first|rfl|(simp [errW_none,errW_some]<;>rfl))|(simp [*,errW_none,errW_some]<;>rfl),by (with_reducible repeat (first|apply Kd.R_alloc|apply Kd.R_drewN|apply Kd.R_drew));exact Kd.R_mono HO397.out (fun _ hk=>trivial),zz5⟩
  ·rw [if_neg c6] at H
   exact absurd H (zz14)
 ·rw [if_neg c5] at H
  exact absurd H (zz14)
mutual
def U35.l0:Nat→List (S56)→List Int→Int→List Int→List Int→List Int→List Int→List (List Int)→Option (List Int)
 | 0,_,_,_,_,_,_,_,_=>none
 | k+1,x1,x7,x8,x399000,x399001,x400000,x400001,x400002=>if x8 < (x400002.length:Int) then (if 0≤x8 then ((U37.f k x399000 x399001 x1 (rd_L1 x400002 x8) (-1)).bind fun t404=>((U22.f k 0).bind fun t407=>(U35.l1 k x1 x7 x8 t404 t407 0 x399000 x399001 x400000 x400001 x400002))) else (none)) else (some x7)
def U35.l1:Nat→List (S56)→List Int→Int→List (List Int)→List Int→Int→List Int→List Int→List Int→List Int→List (List Int)→Option (List Int)
 | 0,_,_,_,_,_,_,_,_,_,_,_=>none
 | k+1,x1,x7,x8,x9,x10,x11,x399000,x399001,x400000,x400001,x400002=>if x11 < (x9.length:Int) then (if 0≤x11 then ((U18.f k x10 (rd_L5 x9 x11)).bind fun t411=>(U35.l1 k x1 x7 x8 x9 t411 (wrap64 (x11+1)) x399000 x399001 x400000 x400001 x400002)) else (none)) else ((U20.f k x7 x10).bind fun t414=>(U35.l0 k x1 t414 (wrap64 (x8+1)) x399000 x399001 x400000 x400001 x400002))
end
def U35.f (k:Nat) (l0_0:List Int) (l0_1:List Int) (l1:List (S56)) (l2_0:List Int) (l2_1:List Int) (l2_2:List (List Int)):Option (List Int):=(U22.f k 1).bind fun t400=>(U35.l0 k l1 t400 0 l0_0 l0_1 l2_0 l2_1 l2_2)
theorem zm17_2 {P:Prop} (h:P:=by repeat' first|(with_reducible first|exact ih0 ..|exact ih1 ..|exact U18.mono ..|exact U20.mono ..|exact U22.mono ..|exact U37.mono ..|exact LeO.refl _|exact LeO.none _|refine LeO.ite ?_ ?_|refine LeO.bind ?_ (fun _=>?_))|exact ih0 ..|exact ih1 ..|exact U18.mono ..|exact U20.mono ..|exact U22.mono ..|exact U37.mono ..|exact LeO.none _|refine LeO.ite ?_ ?_|refine LeO.bind ?_ (fun _=>?_)):P:=h
theorem U35.mono_l:∀ k,(∀ y0 y1 y2 y3 y4 y5 y6 y7,LeO (U35.l0 k y0 y1 y2 y3 y4 y5 y6 y7) (U35.l0 (k+1) y0 y1 y2 y3 y4 y5 y6 y7))∧(∀ y0 y1 y2 y3 y4 y5 y6 y7 y8 y9 y10,LeO (U35.l1 k y0 y1 y2 y3 y4 y5 y6 y7 y8 y9 y10) (U35.l1 (k+1) y0 y1 y2 y3 y4 y5 y6 y7 y8 y9 y10))
 | 0=>⟨fun _ _ _ _ _ _ _ _ r h=>by simp [U35.l0] at h,fun _ _ _ _ _ _ _ _ _ _ _ r h=>by simp [U35.l1] at h⟩
 | k+1=>by
  obtain ⟨ih0,ih1⟩:=U35.mono_l k;refine ⟨?_,?_⟩
  ·intro y0 y1 y2 y3 y4 y5 y6 y7;unfold U35.l0
   exact zm17_2
  ·intro y0 y1 y2 y3 y4 y5 y6 y7 y8 y9 y10;unfold U35.l1
   exact zm17_2
theorem U35.mono:∀ a0 a1 a2 a3 a4 a5 k,LeO (U35.f k a0 a1 a2 a3 a4 a5) (U35.f (k+1) a0 a1 a2 a3 a4 a5):=by
 intro a0 a1 a2 a3 a4 a5 k;obtain ⟨ih0,ih1⟩:=U35.mono_l k;unfold U35.f
 exact zm17_2
def U35.T5:Bool × List (List Nat × List Nat):=(true,[([],[]),([],[]),([],[]),([2],[2]),([],[]),([3,4],[3,4]),([5],[5]),([0,1,6],[0,1,6]),([7,7,0,1,2,3,4,5,6,7],[7])])
def U35.B5:List Nat:=[0,0,0,4,0,28,60,127,255]
theorem U35.tab5:rtab .any (opsOf Try.f43 5) = U35.T5:=zz0
theorem U35.bits5:waitsOk U35.T5.2 U35.B5 = true:=zz0
set_option maxHeartbeats 8000000 in
set_option maxRecDepth 100000 in
theorem U35.calls (k:Nat) (A0_0:Option Addr) (c0_0:Nat) (l0_0:List Int) (A0_1:Option Addr) (c0_1:Nat) (l0_1:List Int) (A1:Option Addr) (c1:Nat) (l1:List (S56)) (A2_0:Option Addr) (c2_0:Nat) (l2_0:List Int) (A2_1:Option Addr) (c2_1:Nat) (l2_1:List Int) (A2_2:Option Addr) (c2_2:Nat) (l2_2:List (List Int)) (r:List Int) (w:World) (hr0_0:Kd.C (Kd.int .i64) w A0_0 l0_0.length l0_0) (hc0_0:l0_0.length≤c0_0) (hr0_1:Kd.C (Kd.int .i64) w A0_1 l0_1.length l0_1) (hc0_1:l0_1.length≤c0_1) (hr1:Kd.C k56 w A1 l1.length l1) (hc1:l1.length≤c1) (hr2_0:Kd.C (Kd.int .i64) w A2_0 l2_0.length l2_0) (hc2_0:l2_0.length≤c2_0) (hr2_1:Kd.C (Kd.int .i64) w A2_1 l2_1.length l2_1) (hc2_1:l2_1.length≤c2_1) (hr2_2:Kd.C (Kd.slice 3 (Kd.int .i64)) w A2_2 l2_2.length l2_2) (hc2_2:l2_2.length≤c2_2) (h:U35.f k l0_0 l0_1 l1 l2_0 l2_1 l2_2 = some r) :
  Calls Try.prog 43 #[.agg #[.slice A0_0 l0_0.length c0_0,.slice A0_1 l0_1.length c0_1],.slice A1 l1.length c1,.agg #[.slice A2_0 l2_0.length c2_0,.slice A2_1 l2_1.length c2_1,.slice A2_2 l2_2.length c2_2]] w fun e w'=>∃ v0_:Value,e = .returned (v0_)∧Kd.R (Kd.int .u32) 65 w' w.heap.size (fun _=>True) v0_ r∧Below w.heap.size w w':=by
 have hu24:=Try.underlying24;have hu36:=Try.underlying36;have HR0_0:=Aside0.mk hr0_0;have HC0_0:=Aside0.mk hc0_0;clear hr0_0 hc0_0;have HR0_1:=Aside0.mk hr0_1;have HC0_1:=Aside0.mk hc0_1;clear hr0_1 hc0_1;have HR1:=Aside0.mk hr1;have HC1:=Aside0.mk hc1;clear hr1 hc1;have HR2_0:=Aside0.mk hr2_0;have HC2_0:=Aside0.mk hc2_0;clear hr2_0 hc2_0;have HR2_1:=Aside0.mk hr2_1;have HC2_1:=Aside0.mk hc2_1;clear hr2_1 hc2_1;have HR2_2:=Aside0.mk hr2_2;have HC2_2:=Aside0.mk hc2_2;clear hr2_2 hc2_2;have HB:=Aside0.mk (Below.refl w.heap.size w);have H:((U22.f k 1).bind fun t400=>(U35.l0 k l1 t400 0 l0_0 l0_1 l2_0 l2_1 l2_2)) = some r:=h;clear h;replace H:=Option.bind_eq_some_iff.mp H;obtain ⟨t400,A40,H⟩:=H;have A4:=Aside0.mk A40;clear A40;have H':=Aside0.mk H;clear H;go_enter Try.func43,Try.ntmps43
 go_wp2_with (first|((with_reducible refine gate_dst (N:=3) rfl ?_);refine box_event ?hg (N:=3) ?hd (cs:=#[.slice A0_0 l0_0.length c0_0,.slice A0_1 l0_1.length c0_1]) (t:=24) ?hr ?_;(case hd=>rfl);(case hg=>rfl);(case hr=>exact zz146);intro gb398 hg w5 hbox hb;have BK398:=Aside0.mk (hbox);have GW398:=Aside0.mk ((by rw [hg];exact (below_size (zz5)):w.heap.size≤gb398));have GE398:=Aside0.mk ((by rw [hg];exact (below_size (zz5)):w.heap.size≤gb398));replace HB:=Aside0.mk (below_step (zz5) hb);clear hb hbox hg)|((with_reducible refine gate_dst (N:=5) rfl ?_);refine box_event ?hg (N:=5) ?hd (cs:=#[.slice A2_0 l2_0.length c2_0,.slice A2_1 l2_1.length c2_1,.slice A2_2 l2_2.length c2_2]) (t:=36) ?hr ?_;(case hd=>rfl);(case hg=>rfl);(case hr=>exact zz146);intro gb399 hg w6 hbox hb;have BK399:=Aside0.mk (hbox);have GW399:=Aside0.mk ((by rw [hg];exact (below_size (zz97)):w.heap.size≤gb399));have GE399:=Aside0.mk ((by rw [hg];exact (below_size (zz97)):w.heap.size≤gb399));replace HB:=Aside0.mk (below_step (zz97) hb);have NB398_399:=Aside0.mk ((by rw [hg];exact Nat.ne_of_lt (blk_lt (g:=gb398) (o:=.cells #[.slice A0_0 l0_0.length c0_0,.slice A0_1 l0_1.length c0_1] 24 (0,0)) (zz96)):gb398 ≠ gb399));have NB399_398:=Aside0.mk ((by rw [hg];exact Nat.ne_of_gt (blk_lt (g:=gb398) (o:=.cells #[.slice A0_0 l0_0.length c0_0,.slice A0_1 l0_1.length c0_1] 24 (0,0)) (zz96)):gb399 ≠ gb398));replace BK398:=Aside0.mk (blk_below (zz96) hb);clear hb hbox hg)|((with_reducible refine gate_callee (f:=58) rfl ?_);refine goesL_ (some 12) rfl rfl Try.func58 (zz0) rfl #[.int .u64 1] rfl (zz16) ?_;(with_reducible refine (U22.calls k 1 t400 _ A4.out).mono ?_);rintro e w7 ⟨v401,rfl,ho0,hb⟩;refine ⟨_,rfl,?_⟩;have HO402:=Aside0.mk (Kd.R_lower ho0 (below_size (zz98)));replace BK398:=Aside0.mk (blk_below (zz96) hb);replace BK399:=Aside0.mk (blk_below (zz99) hb);replace HB:=Aside0.mk (below_step (zz98) hb);(try clear hb);(try clear hb2);(try clear hk);(try clear hi);(try clear ho0)))
 go_loopg [7,8] k (fun kq v7 v8 w'=>∃ (x7_1:List Int) (x8_1:Int),v8 = .int .i64 x8_1∧Aside0 (U35.l0 kq l1 x7_1 x8_1 l0_0 l0_1 l2_0 l2_1 l2_2 = some r)∧Aside0 (kq≤k)∧Aside0 (Kd.R (Kd.int .u32) 65 w' w.heap.size (fun _=>True) v7 x7_1)∧Aside0 (w'.heap[gb398]? = some (.cells #[(.slice A0_0 l0_0.length c0_0),(.slice A0_1 l0_1.length c0_1)] 24 (0,0)))∧Aside0 (w'.heap[gb399]? = some (.cells #[(.slice A2_0 l2_0.length c2_0),(.slice A2_1 l2_1.length c2_1),(.slice A2_2 l2_2.length c2_2)] 36 (0,0)))∧Aside0 (Below w.heap.size w w'))
 case atStart=>exact ⟨(t400),(0),(zz2),H',⟨Nat.le_refl _⟩,⟨by (with_reducible repeat (first|apply Kd.R_alloc|apply Kd.R_drewN|apply Kd.R_drew));exact HO402.out⟩,⟨zz96⟩,⟨zz99⟩,⟨zz98⟩⟩
 case round =>
  clear H'
  (try clear c1);(try clear c2);(try clear p2);(try clear c4);(try clear c5)
  obtain ⟨x7_1,x8_1,rfl,HA,HK1,HO_7,BK398,BK399,HB⟩:=hrel
  cases gk with
  | zero=>exact absurd HA.out (by simp [U35.l0])
  | succ k1 =>
   have H:=HA.out;clear HA;simp only [U35.l0] at H;by_cases c8:x8_1 < (l2_2.length:Int)
   ·rw [if_pos c8] at H;have c8b0:=decide_eq_true c8;clear c8;by_cases c9:0≤x8_1
    ·rw [if_pos c9] at H;have c9b0:=decide_eq_true c9;clear c9;replace H:=Option.bind_eq_some_iff.mp H;obtain ⟨t404,A100,H⟩:=H;have A10:=Aside0.mk A100;clear A100;replace H:=Option.bind_eq_some_iff.mp H;obtain ⟨t407,A110,H⟩:=H;have A11:=Aside0.mk A110;clear A110;have H':=Aside0.mk H;clear H;have hnb12:=NB399_398.out;have hnc12:=NB398_399.out;have hcz13_0:wr.cell? ⟨gb399,0,none⟩ = some (.slice A2_0 l2_0.length c2_0):=(blk_cell BK399.out 0).trans rfl;have hcz13_1:wr.cell? ⟨gb399,1,none⟩ = some (.slice A2_1 l2_1.length c2_1):=(blk_cell BK399.out 1).trans rfl;have hcz13_2:wr.cell? ⟨gb399,2,none⟩ = some (.slice A2_2 l2_2.length c2_2):=(blk_cell BK399.out 2).trans rfl;have hfz13_0:=blk_frozen BK399.out 0;have hfz13_1:=blk_frozen BK399.out 1;have hfz13_2:=blk_frozen BK399.out 2
     try go_wp2
     have n0_:=Aside0.mk (Kd.R_drew HO_7.out);have n1_:=Aside0.mk (blk_drew BK398.out);have n2_:=Aside0.mk (blk_drew BK399.out);have n3_:=Aside0.mk (below_drew1 HB.out);clear HO_7;clear BK398;clear BK399;clear HB;have HO_7:=n0_;have BK398:=n1_;have BK399:=n2_;have HB:=n3_;clear n0_ n1_ n2_ n3_;have p403:0≤(x8_1:Int):=of_decide_eq_true (zz11);have q403:x8_1 < (l2_2.length:Int):=of_decide_eq_true (zz11);obtain ⟨ad403,A403_0,c403_0,e403,hx403_0,hl403_0,hi403_0⟩:=at_L1 HR2_2.out x8_1 p403 q403;have hw403_0:=hx403_0
     cases e403
     replace hx403_0:=(HB.out.cell (World.block_lt_of_cell? w _ hx403_0)).trans hx403_0;have HR403_0:=Aside0.mk hi403_0;have HC403_0:=Aside0.mk hl403_0;clear hi403_0 hl403_0;replace p403:=eq_true p403;replace q403:=eq_true q403;refine start_ (n:=9) (S:=fun w'=>w'.cell? ⟨gb398,0,none⟩ = some (.slice A0_0 l0_0.length c0_0)∧w'.cell? ⟨gb398,1,none⟩ = some (.slice A0_1 l0_1.length c0_1)∧w'.cell? ⟨gb399,0,none⟩ = some (.slice A2_0 l2_0.length c2_0)∧w'.cell? ⟨gb399,1,none⟩ = some (.slice A2_1 l2_1.length c2_1)∧w'.cell? ⟨gb399,2,none⟩ = some (.slice (some ad403) l2_2.length c2_2)∧w'.cell? (ad403.add (x8_1).toNat) = some (.slice A403_0 (rd_L1 l2_2 x8_1).length c403_0)) (ds:=[]) #[false,false,false,false,false,false,false,false,false] (zz0) rfl rfl ⟨(blk_cell BK398.out 0).trans rfl,(blk_cell BK398.out 1).trans rfl,(blk_cell BK399.out 0).trans rfl,(blk_cell BK399.out 1).trans rfl,(blk_cell BK399.out 2).trans rfl,((HB.out.cell (World.block_lt_of_cell? w _ hw403_0)).trans hw403_0)⟩ (fun hHeld=>?_);refine with_tabW U35.tab5 U35.bits5 (fun HT_ HW_=>?_)
     generalize wr.drew = w14 at HO_7 BK398 BK399 HB HR403_0 hx403_0 hHeld ⊢
     refine zzp 1 21 ?_ #[false,true,false,false,false,false,false,false,false] rfl rfl (any_of HT_.out (zz0)) (fun _ _ _ h=>h) (Or.inl ⟨zz17,?_⟩) ?_ ?_ ?_;rotate_left
     ·intro w'
      go_simp
      with_reducible rfl
     rotate_left
     ·simp only [zzs]
      rfl
     refine zzp 2 22 ?_ #[false,true,true,false,false,false,false,false,false] rfl rfl (any_of HT_.out (zz0)) (fun _ _ _ h=>h) (Or.inl ⟨zz17,?_⟩) ?_ ?_ ?_;rotate_left
     ·intro w'
      go_simp
      with_reducible rfl
     rotate_left
     ·simp only [zzs]
      rfl
     refine zzp 4 24 ?_ #[false,true,true,false,true,false,false,false,false] rfl rfl (any_of HT_.out (zz0)) (fun _ _ _ h=>h) (Or.inl ⟨zz17,?_⟩) ?_ ?_ ?_;rotate_left
     ·intro w'
      go_simp
      with_reducible rfl
     rotate_left
     ·simp only [zzs]
      rfl
     refine take_ (i:=0) (N:=some 20) (v:=?_) (a':=?_) #[true,true,true,false,true,false,false,false,false] rfl rfl (take_ofW HT_.out HW_.out (zz0)) (fun _ _ _ h=>h) (Or.inl ⟨zz17,?_⟩) hHeld ?_ ?_;rotate_left
     ·rintro w' ⟨s0,s1,s2,s3,s4,s5⟩
      go_simp
      with_reducible rfl
     rotate_left
     ·simp only [zzs]
      rfl
     refine take_ (i:=3) (N:=some 23) (v:=?_) (a':=?_) #[true,true,true,true,true,false,false,false,false] rfl rfl (take_ofW HT_.out HW_.out (zz0)) (fun _ _ _ h=>h) (Or.inl ⟨zz17,?_⟩) hHeld ?_ ?_;rotate_left
     ·rintro w' ⟨s0,s1,s2,s3,s4,s5⟩
      go_simp
      with_reducible rfl
     rotate_left
     ·simp only [zzs]
      rfl
     refine zzp 5 25 ?_ #[true,true,true,true,true,true,false,false,false] rfl rfl (any_of HT_.out (zz0)) (fun _ _ _ h=>h) (Or.inl ⟨zz17,?_⟩) ?_ ?_ ?_;rotate_left
     ·intro w'
      go_simp
      with_reducible rfl
     rotate_left
     ·simp only [zzs]
      rfl
     refine take_ (i:=6) (N:=some 26) (v:=?_) (a':=?_) #[true,true,true,true,true,true,true,false,false] rfl rfl (take_ofW HT_.out HW_.out (zz0)) (fun _ _ _ h=>h) (Or.inl ⟨zz17,?_⟩) hHeld ?_ ?_;rotate_left
     ·rintro w' ⟨s0,s1,s2,s3,s4,s5⟩
      go_simp
      with_reducible rfl
     rotate_left
     ·simp only [zzs]
      rfl
     refine one_ (i:=7) (N:=some 27) #[true,true,true,true,true,true,true,true,false] rfl rfl (one_of HT_.out (zz0)) (zz31) (fun K hK=>?_);refine goes_ Try.func35 (zz0) rfl #[.agg #[.slice A0_0 l0_0.length c0_0,.slice A0_1 l0_1.length c0_1],.slice A1 l1.length c1,.slice A403_0 (rd_L1 l2_2 x8_1).length c403_0,.int .i64 (-1)] (zz17) rfl rfl (zz16) ?_
     with_reducible refine (U37.calls k1 _ _ l0_0 _ _ l0_1 _ _ l1 _ _ (rd_L1 l2_2 x8_1) (-1) t404 _ ?side1 ?side2 ?side3 ?side4 ?side5 ?side6 ?side7 ?side8 A10.out).mono ?_
     (case side1=>exact zz147)
     (case side2=>exact zz148)
     (case side3=>exact zz149)
     (case side4=>exact zz150)
     (case side5=>exact zz153)
     (case side6=>exact HC1.out)
     (case side7=>repeat (first|exact (Kd.C_below HR403_0.out HB.out)|(with_reducible refine Kd.C_alloc ?_ _)|(with_reducible refine Kd.C_drewN ?_ _)|(with_reducible refine Kd.C_drew ?_)))
     (case side8=>exact HC403_0.out)
     rintro e w15 ⟨v405,rfl,ho0,hb⟩;refine ⟨_,rfl,?_⟩;have n0_:=Aside0.mk (Kd.R_below (zz36) hb);have n1_:=Aside0.mk (Kd.S_lower (Kd.S_new' ho0 (Kd.R_lt (zz36))) (below_size (zz98)));have n2_:=Aside0.mk (blk_below (zz96) hb);have n3_:=Aside0.mk (blk_below (zz99) hb);have n4_:=Aside0.mk (below_step (zz98) hb);clear HO_7;clear BK398;clear BK399;clear HB;have HO_7:=n0_;have HO406:=n1_;have BK398:=n2_;have BK399:=n3_;have HB:=n4_;clear n0_ n1_ n2_ n3_ n4_
     (try clear hb)
     (try clear hb2)
     (try clear hk)
     (try clear hi)
     (try clear ho0)
     refine hK.out _ _ ⟨(blk_cell BK398.out 0).trans rfl,(blk_cell BK398.out 1).trans rfl,(blk_cell BK399.out 0).trans rfl,(blk_cell BK399.out 1).trans rfl,(blk_cell BK399.out 2).trans rfl,((HB.out.cell (World.block_lt_of_cell? w _ hw403_0)).trans hw403_0)⟩ (fun hHeld=>?_);clear hK K;refine norm_ (a':=?_) ?_ ?_;rotate_left
     ·show Act.put _ (some 27) _ = _
      simp only [zzs]
      rfl
     refine zzp 8 9 ?_ #[true,true,true,true,true,true,true,true,true] rfl rfl (any_of HT_.out (zz0)) (fun _ _ _ h=>h) (Or.inl ⟨zz17,?_⟩) ?_ ?_ ?_;rotate_left
     ·intro w'
      go_simp
      with_reducible rfl
     rotate_left
     ·simp only [zzs]
      rfl
     refine done_ (done_of HT_.out (zz0)) ?_
     try go_wp2_with (first|((with_reducible refine gate_callee (f:=58) rfl ?_);refine goesL_ (some 28) rfl rfl Try.func58 (zz0) rfl #[.int .u64 0] rfl (zz16) ?_;(with_reducible refine (U22.calls k1 0 t407 _ A11.out).mono ?_);rintro e w16 ⟨v408,rfl,ho0,hb⟩;refine ⟨_,rfl,?_⟩;replace HO406:=Aside0.mk (Kd.S_elder' (by (with_reducible repeat (first|apply Kd.S_alloc|apply Kd.S_drewN|apply Kd.S_drew));exact HO406.out) (Kd.R_base ho0) hb);have HO409:=Aside0.mk (Kd.R_lower (Kd.R_new' ho0 (Kd.R_lt (zz36))) (below_size (zz98)));replace HO_7:=Aside0.mk (Kd.R_elder' (zz36) (Kd.R_base ho0) hb);replace BK398:=Aside0.mk (blk_below (zz96) hb);replace BK399:=Aside0.mk (blk_below (zz99) hb);replace HB:=Aside0.mk (below_step (zz98) hb);(try clear hb);(try clear hb2);(try clear hk);(try clear hi);(try clear ho0)))
     go_loopg [10,11] k1 (fun kq v10 v11 w'=>∃ (x10_2:List Int) (x11_2:Int),v11 = .int .i64 x11_2∧Aside0 (U35.l1 kq l1 x7_1 x8_1 t404 x10_2 x11_2 l0_0 l0_1 l2_0 l2_1 l2_2 = some r)∧Aside0 (kq≤k1)∧Aside0 (Kd.R (Kd.int .u32) 65 w' w.heap.size (fun k_=>some k_ ≠ (v10:Value).ownBlock) u7 x7_1)∧Aside0 (Kd.S (Kd.slice 65 (Kd.int .u32)) 32 w' w.heap.size (fun k_=>some k_ ≠ (u7:Value).ownBlock∧some k_ ≠ (v10:Value).ownBlock) v405 t404)∧Aside0 (Kd.R (Kd.int .u32) 65 w' w.heap.size (fun k_=>some k_ ≠ (u7:Value).ownBlock) v10 x10_2)∧Aside0 (w'.heap[gb398]? = some (.cells #[(.slice A0_0 l0_0.length c0_0),(.slice A0_1 l0_1.length c0_1)] 24 (0,0)))∧Aside0 (w'.heap[gb399]? = some (.cells #[(.slice A2_0 l2_0.length c2_0),(.slice A2_1 l2_1.length c2_1),(.slice (some ad403) l2_2.length c2_2)] 36 (0,0)))∧Aside0 (Below w.heap.size w w'))
     case atStart=>exact ⟨(t407),(0),(zz2),H',⟨Nat.le_refl _⟩,⟨by (with_reducible repeat (first|apply Kd.R_alloc|apply Kd.R_drewN|apply Kd.R_drew));exact Kd.R_mono HO_7.out (fun _ hk=>hk.2)⟩,⟨by (with_reducible repeat (first|apply Kd.S_alloc|apply Kd.S_drewN|apply Kd.S_drew));exact Kd.S_mono HO406.out (fun _ hk=>⟨hk.1.2,hk.2⟩)⟩,⟨by (with_reducible repeat (first|apply Kd.R_alloc|apply Kd.R_drewN|apply Kd.R_drew));exact Kd.R_mono HO409.out (fun _ hk=>hk.2)⟩,⟨zz96⟩,⟨zz99⟩,⟨zz98⟩⟩
     case round =>
      clear H'
      (try clear c1);(try clear c2);(try clear p2);(try clear c3);(try clear c4);(try clear p4);(try clear q4);(try clear hx4);(try clear c5);(try clear c8);(try clear c8b0);(try clear c9);(try clear c9b0);(try clear c12);(try clear hcz13_0);(try clear hcz13_1);(try clear hcz13_2);(try clear hfz13_0);(try clear hfz13_1);(try clear hfz13_2);(try clear hx403_0);(try clear p2);(try clear p403);(try clear q403)
      obtain ⟨x10_2,x11_2,rfl,HA,HK2,HO_7,HO_9,HO_10,BK398,BK399,HB⟩:=hrel
      cases gk with
      | zero=>exact absurd HA.out (by simp [U35.l1])
      | succ k2 =>
       have H:=HA.out;clear HA;simp only [U35.l1] at H;by_cases c17:x11_2 < (t404.length:Int)
       ·rw [if_pos c17] at H;have c17b0:=decide_eq_true c17;clear c17;by_cases c18:0≤x11_2
        ·rw [if_pos c18] at H;have c18b0:=decide_eq_true c18;clear c18;replace H:=Option.bind_eq_some_iff.mp H;obtain ⟨t411,A190,H⟩:=H;have A19:=Aside0.mk A190;clear A190;have H':=Aside0.mk H;clear H;obtain ⟨Ao20,co20,eo20⟩:=Kd.S_slice HO_9.out;subst eo20;have p410:0≤(x11_2:Int):=of_decide_eq_true (zz11);have q410:x11_2 < (t404.length:Int):=of_decide_eq_true (zz11);obtain ⟨ad410,A410_0,c410_0,e410,hx410_0,hl410_0,hi410_0⟩:=at_L5 (Kd.S_reads' HO_9.out).2.2 x11_2 p410 q410
         cases e410
         obtain ⟨ce410,hce410,hMe410,hcc410⟩:=Kd.S_get HO_9.out [] x11_2 p410 (by first|exact q410|exact of_decide_eq_true (zz11)|(have e_:=(Kd.S_reads' HO_9.out).1;omega));obtain ⟨ve410_0,rfl,ge410_0⟩:=hMe410;have hv410_0:=hcc410 0 _ rfl;rw [Nat.add_zero,show ((Kd.slice 65 (Kd.int .u32))).sz = 1 from rfl,Nat.mul_one] at hv410_0;replace hv410_0:=Option.some.inj (hv410_0.symm.trans hx410_0);rw [hv410_0] at ge410_0;have HL410_0:=Aside0.mk (show Kd.R (Kd.int .u32) 65 _ _ _ _ (rd_L5 t404 x11_2) from ge410_0);clear hv410_0 ge410_0;clear hcc410 hce410;have HR410_0:=Aside0.mk hi410_0;have HC410_0:=Aside0.mk hl410_0;clear hi410_0 hl410_0;replace p410:=eq_true p410;replace q410:=eq_true q410;obtain ⟨Ao21,co21,eo21⟩:=Kd.R_slice HO_10.out;subst eo21
         go_wp2_with (first|((with_reducible refine gate_callee (f:=65) rfl ?_);refine goesL_ (some 40) rfl rfl Try.func65 (zz0) rfl #[.slice Ao21 x10_2.length co21,.slice A410_0 (rd_L5 t404 x11_2).length c410_0] rfl (zz16) ?_;(with_reducible refine (U18.calls k2 _ _ x10_2 _ _ (rd_L5 t404 x11_2) t411 _ ?side1 ?side2 ?side3 ?side4 A19.out).mono ?_);(case side1=>repeat (first|exact (Kd.R_reads' HO_10.out).2.2|(with_reducible refine Kd.C_alloc ?_ _)|(with_reducible refine Kd.C_drewN ?_ _)|(with_reducible refine Kd.C_drew ?_)));(case side2=>exact (Kd.R_reads' HO_10.out).2.1);(case side3=>repeat (first|exact (by repeat (first|(with_reducible exact HR410_0.out)|(with_reducible refine Kd.C_alloc ?_ _)|(with_reducible refine Kd.C_drewN ?_ _)|(with_reducible refine Kd.C_drew ?_)|exact HR410_0.out))|(with_reducible refine Kd.C_alloc ?_ _)|(with_reducible refine Kd.C_drewN ?_ _)|(with_reducible refine Kd.C_drew ?_)));(case side4=>exact HC410_0.out);rintro e w22 ⟨v412,rfl,ho0,hb⟩;refine ⟨_,rfl,?_⟩;replace HO_9:=Aside0.mk (Kd.S_elder' (zz61) (Kd.R_base ho0) hb);have HO413:=Aside0.mk (Kd.R_lower (Kd.R_new' (Kd.R_new' (Kd.R_new' ho0 (Kd.R_lt (zz36))) (Kd.R_lt (zz100))) (Kd.R_lt (by (with_reducible repeat (first|apply Kd.R_alloc|apply Kd.R_drewN|apply Kd.R_drew));exact HL410_0.out))) (below_size (zz98)));replace HO_7:=Aside0.mk (Kd.R_elder' (zz36) (Kd.R_base ho0) hb);replace HO_10:=Aside0.mk (Kd.R_elder' (zz100) (Kd.R_base ho0) hb);replace HL410_0:=Aside0.mk (Kd.R_elder' (by (with_reducible repeat (first|apply Kd.R_alloc|apply Kd.R_drewN|apply Kd.R_drew));exact HL410_0.out) (Kd.R_base ho0) hb);replace BK398:=Aside0.mk (blk_below (zz96) hb);replace BK399:=Aside0.mk (blk_below (zz99) hb);replace HR410_0:=Aside0.mk (Kd.C_below (by repeat (first|(with_reducible exact HR410_0.out)|(with_reducible refine Kd.C_alloc ?_ _)|(with_reducible refine Kd.C_drewN ?_ _)|(with_reducible refine Kd.C_drew ?_)|exact HR410_0.out)) hb);replace HB:=Aside0.mk (below_step (zz98) hb);(try clear hb);(try clear hb2);(try clear hk);(try clear hi);(try clear ho0)))
         go_roundg k2
         case measure=>have:=HK1.out;have:=HK2.out;omega
         case rel=>exact ⟨(t411),(wrap64 (x11_2+1)),(zz2),H',⟨zz15⟩,⟨by (with_reducible repeat (first|apply Kd.R_alloc|apply Kd.R_drewN|apply Kd.R_drew));exact Kd.R_mono HO_7.out (fun _ hk=>hk.2)⟩,⟨by (with_reducible repeat (first|apply Kd.S_alloc|apply Kd.S_drewN|apply Kd.S_drew));exact Kd.S_mono HO_9.out (fun _ hk=>⟨hk.1.1,hk.2⟩)⟩,⟨by (with_reducible repeat (first|apply Kd.R_alloc|apply Kd.R_drewN|apply Kd.R_drew));exact Kd.R_mono HO413.out (fun _ hk=>hk.1.1.2)⟩,⟨zz96⟩,⟨zz99⟩,⟨zz98⟩⟩
        ·rw [if_neg c18] at H
         exact absurd H (zz14)
       ·rw [if_neg c17] at H;have c17b0:=decide_eq_false c17;clear c17;replace H:=Option.bind_eq_some_iff.mp H;obtain ⟨t414,A230,H⟩:=H;have A23:=Aside0.mk A230;clear A230;have H':=Aside0.mk H;clear H;obtain ⟨Ao24,co24,eo24⟩:=Kd.S_slice HO_9.out;subst eo24;obtain ⟨Ao25,co25,eo25⟩:=Kd.R_slice HO_7.out;subst eo25;obtain ⟨Ao26,co26,eo26⟩:=Kd.R_slice HO_10.out;subst eo26
        go_wp2_with (first|((with_reducible refine gate_callee (f:=59) rfl ?_);refine goesL_ (some 43) rfl rfl Try.func59 (zz0) rfl #[.slice Ao25 x7_1.length co25,.slice Ao26 x10_2.length co26] rfl (zz16) ?_;(with_reducible refine (U20.calls k2 _ _ x7_1 _ _ x10_2 t414 _ ?side1 ?side2 ?side3 ?side4 A23.out).mono ?_);(case side1=>repeat (first|exact (Kd.R_reads' HO_7.out).2.2|(with_reducible refine Kd.C_alloc ?_ _)|(with_reducible refine Kd.C_drewN ?_ _)|(with_reducible refine Kd.C_drew ?_)));(case side2=>exact (Kd.R_reads' HO_7.out).2.1);(case side3=>repeat (first|exact (Kd.R_reads' HO_10.out).2.2|(with_reducible refine Kd.C_alloc ?_ _)|(with_reducible refine Kd.C_drewN ?_ _)|(with_reducible refine Kd.C_drew ?_)));(case side4=>exact (Kd.R_reads' HO_10.out).2.1);rintro e w27 ⟨v415,rfl,ho0,hb⟩;refine ⟨_,rfl,?_⟩;replace HO_9:=Aside0.mk (Kd.S_elder' (zz61) (Kd.R_base ho0) hb);have HO416:=Aside0.mk (Kd.R_lower (Kd.R_new' (Kd.R_new' ho0 (Kd.R_lt (zz36))) (Kd.R_lt (zz100))) (below_size (zz98)));replace HO_7:=Aside0.mk (Kd.R_elder' (zz36) (Kd.R_base ho0) hb);replace HO_10:=Aside0.mk (Kd.R_elder' (zz100) (Kd.R_base ho0) hb);replace BK398:=Aside0.mk (blk_below (zz96) hb);replace BK399:=Aside0.mk (blk_below (zz99) hb);replace HB:=Aside0.mk (below_step (zz98) hb);(try clear hb);(try clear hb2);(try clear hk);(try clear hi);(try clear ho0)))
        go_roundg k2
        case measure=>have:=HK1.out;have:=HK2.out;omega
        case rel=>exact ⟨(t414),(wrap64 (x8_1+1)),(zz2),H',⟨zz15⟩,⟨by (with_reducible repeat (first|apply Kd.R_alloc|apply Kd.R_drewN|apply Kd.R_drew));exact Kd.R_mono HO416.out (fun _ hk=>trivial)⟩,⟨zz96⟩,⟨zz99⟩,⟨zz98⟩⟩
    ·rw [if_neg c9] at H
     exact absurd H (zz14)
   ·rw [if_neg c8] at H;have c8b0:=decide_eq_false c8;clear c8;obtain rfl:=Option.some.inj H;have hnb28:=NB399_398.out;have hnc28:=NB398_399.out;have hcz29_0:wr.cell? ⟨gb399,0,none⟩ = some (.slice A2_0 l2_0.length c2_0):=(blk_cell BK399.out 0).trans rfl;have hcz29_1:wr.cell? ⟨gb399,1,none⟩ = some (.slice A2_1 l2_1.length c2_1):=(blk_cell BK399.out 1).trans rfl;have hcz29_2:wr.cell? ⟨gb399,2,none⟩ = some (.slice A2_2 l2_2.length c2_2):=(blk_cell BK399.out 2).trans rfl;have hfz29_0:=blk_frozen BK399.out 0;have hfz29_1:=blk_frozen BK399.out 1;have hfz29_2:=blk_frozen BK399.out 2
    go_wp2
    go_ret
    exact ⟨_,zz6,zz36,zz98⟩
end Go.Proofs.Ytmcegphcjphdcaa.QA
