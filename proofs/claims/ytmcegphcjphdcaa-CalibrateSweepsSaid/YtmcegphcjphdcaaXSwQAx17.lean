import Derived.Test.YtmcegphcjphdcaaXSwQAx0
import Derived.Test.YtmcegphcjphdcaaXSwQAx7
import Derived.Test.YtmcegphcjphdcaaXSwQAx8
import Derived.Test.YtmcegphcjphdcaaXSwQAx9
namespace Go.Proofs.Ytmcegphcjphdcaa.QA
open Go.RowKit Go.Proofs.YtmcegphcjphdcaaW.PrintWords Go.Proofs.YtmcegphcjphdcaaW.PrintLast Go.Proofs.YtmcegphcjphdcaaW.PrintMore
attribute [local go_sem] max2_int min2_int max_two min_two max_three min_three max_four min_four
set_option linter.unusedVariables false
set_option linter.unusedSimpArgs false
def U31.l0:Nat→List (S56)→List Int→Int→Option (List Int)
 | 0,_,_,_=>none
 | k+1,x0,x3,x4=>if x4 < (x0.length:Int) then (if 0≤x4 then ((U22.f ((rd_T56 x0 x4).f0)).bind fun t384=>(if x3.length < 17592186044416 then (U31.l0 k x0 (x3++[t384]) (wrap64 (x4+1))) else (none))) else (none)) else (some x3)
def U31.f (k:Nat) (l0:List (S56)):Option (List Int):=U31.l0 k l0 ([]:List Int) 0
theorem zm22_0 {P:Prop} (h:P:=by repeat' first|(with_reducible first|exact ih0 ..|exact LeO.refl _|exact LeO.none _|refine LeO.ite ?_ ?_|refine LeO.bind ?_ (fun _=>?_))|exact ih0 ..|exact LeO.none _|refine LeO.ite ?_ ?_|refine LeO.bind ?_ (fun _=>?_)):P:=h
theorem U31.mono_l:∀ k,(∀ y0 y1 y2,LeO (U31.l0 k y0 y1 y2) (U31.l0 (k+1) y0 y1 y2))
 | 0=>fun _ _ _ r h=>by simp [U31.l0] at h
 | k+1=>by
  have ih0:=U31.mono_l k
  ·intro y0 y1 y2;unfold U31.l0
   exact zm22_0
theorem U31.mono:∀ a0 k,LeO (U31.f k a0) (U31.f (k+1) a0):=by
 intro a0 k;have ih0:=U31.mono_l k;unfold U31.f
 exact zm22_0
set_option maxHeartbeats 8000000 in
set_option maxRecDepth 100000 in
theorem U31.calls (k:Nat) (A0:Option Addr) (c0:Nat) (l0:List (S56)) (r:List Int) (w:World) (hr0:Kd.C k56 w A0 l0.length l0) (hc0:l0.length≤c0) (h:U31.f k l0 = some r) :
  Calls Try.prog 42 #[.slice A0 l0.length c0] w fun e w'=>∃ v0_:Value,e = .returned (v0_)∧Kd.R (Kd.int .i64) 3 w' w.heap.size (fun _=>True) v0_ r∧Below w.heap.size w w':=by
 have hu56:=Try.underlying56;have HR0:=Aside0.mk hr0;have HC0:=Aside0.mk hc0;clear hr0 hc0;have HB:=Aside0.mk (Below.refl w.heap.size w);have H:(U31.l0 k l0 ([]:List Int) 0) = some r:=h;clear h;have H':=Aside0.mk H;clear H;go_enter Try.func42,Try.ntmps42
 go_wp2
 go_loopg [3,4] k (fun kq v3 v4 w'=>∃ (x3_1:List Int) (x4_1:Int),v4 = .int .i64 x4_1∧Aside0 (U31.l0 kq l0 x3_1 x4_1 = some r)∧Aside0 (kq≤k)∧Aside0 (Kd.R (Kd.int .i64) 3 w' w.heap.size (fun _=>True) v3 x3_1)∧Aside0 (Below w.heap.size w w'))
 case atStart=>exact ⟨(([]:List Int)),(0),(zz2),H',⟨Nat.le_refl _⟩,⟨zz55⟩,⟨zz5⟩⟩
 case round =>
  clear H';obtain ⟨x3_1,x4_1,rfl,HA,HK1,HO_3,HB⟩:=hrel
  cases gk with
  | zero=>exact absurd HA.out (by simp [U31.l0])
  | succ k1 =>
   have H:=HA.out;clear HA;simp only [U31.l0] at H;replace H:=zzj H;rcases H with ⟨c2,H⟩|⟨c2,H⟩
   ·have c2b0:=decide_eq_true c2;clear c2;replace H:=zzi H;obtain ⟨c3,H⟩:=H;have c3b0:=decide_eq_true c3;clear c3;replace H:=zzb H;obtain ⟨t384,A4,H⟩:=H;replace H:=zzi H;obtain ⟨c5,H⟩:=H;have LMc5:=Aside0.mk c5;clear c5;obtain ⟨y385,hy385⟩:∃ y_:List Int,y_ = (x3_1++[t384]):=⟨_,rfl⟩;replace H:(U31.l0 k1 l0 y385 (wrap64 (x4_1+1))) = some r:=(have h0_:=hy385;zz24);have Ny385:=Aside0.mk hy385;clear hy385;have H':=Aside0.mk H;clear H;have p383:0≤(x4_1:Int):=of_decide_eq_true (zz11);have q383:x4_1 < (l0.length:Int):=of_decide_eq_true (zz11);obtain ⟨ad383,A383_0,c383_0,e383,hx383_0,hl383_0,hi383_0⟩:=at_T56 HR0.out x4_1 p383 q383
    cases e383
    replace hx383_0:=(HB.out.cell (World.block_lt_of_cell? w _ hx383_0)).trans hx383_0;have HR383_0:=Aside0.mk hi383_0;have HC383_0:=Aside0.mk hl383_0;clear hi383_0 hl383_0;replace p383:=eq_true p383;replace q383:=eq_true q383
    go_wp2_with (first|((with_reducible refine gate_callee (f:=34) rfl ?_);refine goesL_ (some 16) rfl rfl Try.func34 (zz0) rfl #[.agg #[.slice A383_0 ((rd_T56 l0 x4_1).f0).length c383_0]] rfl (zz19) ?_;(with_reducible refine (U22.calls _ _ ((rd_T56 l0 x4_1).f0) t384 _ ?_ ?_ A4.out).mono ?_);(exact (have h0_:=HR383_0;zz110));exact HC383_0.out;rintro e w6 ⟨rfl,hb⟩;refine ⟨_,rfl,?_⟩;replace HO_3:=Aside0.mk (Kd.R_below (have h0_:=HO_3;zz25) hb);replace HB:=Aside0.mk (below_step (zz5) hb);(try clear hb))|((with_reducible refine gate_builtin (b:=.append) (xs:=#[.tmp 11,.tmp 17]) rfl ?_);at_builtin;refine Kd.R_append (Kd.int .i64) (w0:=w) w.heap.size rfl (.tmp 11) (.tmp 17) 22 3 (.int .i64 0) 8 rfl Try.underlying22 info3 rfl (zz28) (zz4) u3 x3_1 t384 [.int .i64 t384] (fun _=>True) (fun _=>False) rfl rfl ?aP (fun _ hk=>hk.elim) ?aF ?aO ?aB ?aS ?aL ?_;(case aP=>exact rfl);(case aB=>exact (zz5));(case aF=>exact zz117);(case aO=>exact (have h0_:=HO_3;zz25));(case aS=>exact (below_size (zz5)));(case aL=>have:=LMc5.out;omega);intro v386 w7 ho hb hg hat;rw [← Ny385.out] at ho;replace HB:=Aside0.mk (hb);have HO387:=Aside0.mk (ho);clear HO_3;clear ho hb hg hat))
    go_roundg k1
    case measure=>have:=HK1.out;omega
    case rel=>exact ⟨(y385),(wrap64 (x4_1+1)),(zz2),H',⟨zz12⟩,⟨(have h0_:=HO387;zz25)⟩,⟨zz5⟩⟩
   ·have c2b0:=decide_eq_false c2;clear c2;obtain rfl:=Option.some.inj H
    go_wp2
    go_ret
    exact ⟨_,zz6,(have h0_:=HO_3;zz25),zz5⟩
def U20.f (l0:List Int) (a1:Int):Option (Int):=if a1 < (l0.length:Int) then (if 0≤a1 then (some (IntKind.u64.wrap (rd l0 a1))) else (none)) else (some 0)
set_option maxHeartbeats 8000000 in
set_option maxRecDepth 100000 in
theorem U20.calls (A0:Option Addr) (c0:Nat) (l0:List Int) (a1:Int) (r:Int) (w:World) (hr0:Kd.C (Kd.int .u32) w A0 l0.length l0) (hc0:l0.length≤c0) (h:U20.f l0 a1 = some r) :
  Calls Try.prog 74 #[.slice A0 l0.length c0,.int .i64 a1] w fun e w'=>e = .returned (.int .u64 r)∧Drawn0 w w':=by
 have HR0:=Aside0.mk hr0;have HC0:=Aside0.mk hc0;clear hr0 hc0;have H:(if a1 < (l0.length:Int) then (if 0≤a1 then (some (IntKind.u64.wrap (rd l0 a1))) else (none)) else (some 0)) = some r:=h;clear h;replace H:=zzj H;rcases H with ⟨c3,H⟩|⟨c3,H⟩
 ·have c3b0:=decide_eq_true c3;clear c3;replace H:=zzi H;obtain ⟨c4,H⟩:=H;have c4b0:=decide_eq_true c4;clear c4;obtain rfl:=Option.some.inj H;have p388:0≤(a1:Int):=of_decide_eq_true (zz11);have q388:a1 < (l0.length:Int):=of_decide_eq_true (zz11);obtain ⟨ad388,e388,hx388_0⟩:=Kd.at_int HR0.out a1 p388 q388
  cases e388
  replace p388:=eq_true p388;replace q388:=eq_true q388;go_enter Try.func74,Try.ntmps74
  go_wp2
  go_ret
  exact ⟨zz2,zz3⟩
 ·have c3b0:=decide_eq_false c3;clear c3;obtain rfl:=Option.some.inj H;go_enter Try.func74,Try.ntmps74
  go_wp2
  go_ret
  exact ⟨zz2,zz3⟩
def U15.l0:Nat→List Int→List Int→List Int→Int→Int→Option (List Int)
 | 0,_,_,_,_,_=>none
 | k+1,x0,x1,x5,x6,x7=>if x7 < (x5.length:Int) then ((U20.f x0 x7).bind fun t392=>((U20.f x1 x7).bind fun t393=>(if 0≤x7 then (U15.l0 k x0 x1 (x5.set (x7:Int).toNat ((IntKind.u64.wrap ((IntKind.u64.wrap (t392+t393))+x6)) % 4294967296)) ((IntKind.u64.wrap ((IntKind.u64.wrap (t392+t393))+x6)) / 4294967296) (wrap64 (x7+1))) else (none)))) else ((U18.f k x5).bind fun t395=>(some t395))
def U15.f (k:Nat) (l0:List Int) (l1:List Int):Option (List Int):=if 0≤(wrap64 ((mx (l0.length:Int) (l1.length:Int))+1)) then (if (wrap64 ((mx (l0.length:Int) (l1.length:Int))+1):Int).toNat≤70368744177664 then (U15.l0 k l0 l1 (List.replicate (wrap64 ((mx (l0.length:Int) (l1.length:Int))+1):Int).toNat 0) 0 0) else (none)) else (none)
theorem zm22_1 {P:Prop} (h:P:=by repeat' first|(with_reducible first|exact ih0 ..|exact U18.mono ..|exact LeO.refl _|exact LeO.none _|refine LeO.ite ?_ ?_|refine LeO.bind ?_ (fun _=>?_))|exact ih0 ..|exact U18.mono ..|exact LeO.none _|refine LeO.ite ?_ ?_|refine LeO.bind ?_ (fun _=>?_)):P:=h
theorem U15.mono_l:∀ k,(∀ y0 y1 y2 y3 y4,LeO (U15.l0 k y0 y1 y2 y3 y4) (U15.l0 (k+1) y0 y1 y2 y3 y4))
 | 0=>fun _ _ _ _ _ r h=>by simp [U15.l0] at h
 | k+1=>by
  have ih0:=U15.mono_l k
  ·intro y0 y1 y2 y3 y4;unfold U15.l0
   exact zm22_1
theorem U15.mono:∀ a0 a1 k,LeO (U15.f k a0 a1) (U15.f (k+1) a0 a1):=by
 intro a0 a1 k;have ih0:=U15.mono_l k;unfold U15.f
 exact zm22_1
set_option maxHeartbeats 8000000 in
set_option maxRecDepth 100000 in
theorem U15.calls (k:Nat) (A0:Option Addr) (c0:Nat) (l0:List Int) (A1:Option Addr) (c1:Nat) (l1:List Int) (r:List Int) (w:World) (hr0:Kd.C (Kd.int .u32) w A0 l0.length l0) (hc0:l0.length≤c0) (hr1:Kd.C (Kd.int .u32) w A1 l1.length l1) (hc1:l1.length≤c1) (h:U15.f k l0 l1 = some r) :
  Calls Try.prog 65 #[.slice A0 l0.length c0,.slice A1 l1.length c1] w fun e w'=>∃ v0_:Value,e = .returned (v0_)∧Kd.R (Kd.int .u32) 65 w' w.heap.size (fun _=>True) v0_ r∧Below w.heap.size w w':=by
 have HR0:=Aside0.mk hr0;have HC0:=Aside0.mk hc0;clear hr0 hc0;have HR1:=Aside0.mk hr1;have HC1:=Aside0.mk hc1;clear hr1 hc1;have HB:=Aside0.mk (Below.refl w.heap.size w);have H:(if 0≤(wrap64 ((mx (l0.length:Int) (l1.length:Int))+1)) then (if (wrap64 ((mx (l0.length:Int) (l1.length:Int))+1):Int).toNat≤70368744177664 then (U15.l0 k l0 l1 (List.replicate (wrap64 ((mx (l0.length:Int) (l1.length:Int))+1):Int).toNat 0) 0 0) else (none)) else (none)) = some r:=h;clear h;obtain ⟨ji3,hji3⟩:∃ j_:Int,(mx (l0.length:Int) (l1.length:Int)) = j_:=⟨_,rfl⟩;replace H:(if 0≤(wrap64 ((ji3)+1)) then (if (wrap64 ((ji3)+1):Int).toNat≤70368744177664 then (U15.l0 k l0 l1 (List.replicate (wrap64 ((ji3)+1):Int).toNat 0) 0 0) else (none)) else (none)) = some r:=(have h0_:=hji3;zz15)
 (try (have hji3l:0≤ji3:=by (rw [← hji3];unfold mx;(repeat' split)<;>omega)))
 (try (have hji3m:0≤ji3:=zz4))
 have hji3_:(if (l0.length:Int) < (l1.length:Int) then (l1.length:Int) else (l0.length:Int)) = ji3:=hji3
 (try (have hji3N:=hji3_;simp only [Int.ofNat_lt] at hji3N))
 obtain ⟨ji4,hji4⟩:∃ j_:Int,(wrap64 ((ji3)+1)) = j_:=⟨_,rfl⟩;replace H:(if 0≤(ji4) then (if (ji4:Int).toNat≤70368744177664 then (U15.l0 k l0 l1 (List.replicate (ji4:Int).toNat 0) 0 0) else (none)) else (none)) = some r:=(have h0_:=hji4;zz15);have hji4w:(IntKind.i64.wrap ((ji3)+1)) = ji4:=(i64_w _).trans hji4;replace H:=zzi H;obtain ⟨c5,H⟩:=H;have c5b0:=eq_true c5;have c5b1:=decide_eq_true c5;clear c5;replace H:=zzi H;obtain ⟨c6,H⟩:=H;have c6b0:=eq_true c6;have c6b1:=decide_eq_true c6;clear c6;obtain ⟨y389,hy389⟩:∃ y_:List Int,y_ = (List.replicate (ji4:Int).toNat 0):=⟨_,rfl⟩;replace H:(U15.l0 k l0 l1 y389 0 0) = some r:=(have h0_:=hy389;zz24);have Ny389:=Aside0.mk hy389;clear hy389;have H':=Aside0.mk H;clear H;go_enter Try.func65,Try.ntmps65
 go_wp2_with (first|((with_reducible refine gate_dst (N:=15) rfl ?_);refine Kd.R_make (Kd.int .u32) _ 65 rfl (N:=15) rfl 32 _ _ rfl ji4 rfl rfl Try.underlying32 (.int .u32 0) 4 info65 rfl (zz28) (zz4) 0 (ok:=fun _=>True) (okp:=fun _=>True) rfl (fun _ hk=>hk) trivial (of_decide_eq_true (zz11)) (Nat.le_trans (Nat.mul_le_mul_right _ (of_decide_eq_true (zz11):ji4.toNat≤70368744177664)) (zz4)) (Below.refl _ _) (Nat.le_refl _) ?_;intro v390 w7 ho8 hb hg_ hnew_;clear hg_ hnew_;(first|rw [← Ny389.out] at ho8|(simp only [Int.reduceToNat] at ho8;rw [← Ny389.out] at ho8));have HO391:=Aside0.mk (Kd.R_lower ho8 (below_size (zz5)));replace HB:=Aside0.mk (below_step (zz5) hb);clear hb ho8))
 go_loopg [6,7] k (fun kq v6 v7 w'=>∃ (x5_1:List Int) (x6_1:Int) (x7_1:Int),v6 = .int .u64 x6_1∧v7 = .int .i64 x7_1∧Aside0 (U15.l0 kq l0 l1 x5_1 x6_1 x7_1 = some r)∧Aside0 (kq≤k)∧Aside0 (Kd.R (Kd.int .u32) 65 w' w.heap.size (fun _=>True) v390 x5_1)∧Aside0 (Below w.heap.size w w'))
 case atStart=>exact ⟨(y389),(0),(0),(zz2),(zz2),H',⟨Nat.le_refl _⟩,⟨(have h0_:=HO391;zz25)⟩,⟨zz5⟩⟩
 case round =>
  clear H'
  (try clear c1);clear c5b0 c5b1 c6b0 c6b1
  obtain ⟨x5_1,x6_1,x7_1,rfl,rfl,HA,HK1,HO_5,HB⟩:=hrel
  cases gk with
  | zero=>exact absurd HA.out (by simp [U15.l0])
  | succ k1 =>
   have H:=HA.out;clear HA;simp only [U15.l0] at H;replace H:=zzj H;rcases H with ⟨c9,H⟩|⟨c9,H⟩
   ·have c9b0:=decide_eq_true c9;clear c9;replace H:=zzb H;obtain ⟨t392,A10,H⟩:=H;replace H:=zzb H;obtain ⟨t393,A11,H⟩:=H;replace H:=zzi H;obtain ⟨c12,H⟩:=H;have c12b0:=decide_eq_true c12;clear c12;obtain ⟨y394,hy394⟩:∃ y_:List Int,y_ = (x5_1.set (x7_1:Int).toNat ((IntKind.u64.wrap ((IntKind.u64.wrap (t392+t393))+x6_1)) % 4294967296)):=⟨_,rfl⟩;replace H:(U15.l0 k1 l0 l1 y394 ((IntKind.u64.wrap ((IntKind.u64.wrap (t392+t393))+x6_1)) / 4294967296) (wrap64 (x7_1+1))) = some r:=(have h0_:=hy394;zz24);have Ny394:=Aside0.mk hy394;clear hy394;have H':=Aside0.mk H;clear H;obtain ⟨Ao14,co14,eo14⟩:=Kd.R_slice HO_5.out;subst eo14
    go_wp2_with (first|((with_reducible refine gate_callee (f:=74) rfl ?_);refine goesL_ (some 24) rfl rfl Try.func74 (zz0) rfl #[.slice A0 l0.length c0,.int .i64 x7_1] rfl (zz19) ?_;(with_reducible refine (U20.calls _ _ l0 x7_1 t392 _ ?_ ?_ A10.out).mono ?_);(exact (have h0_:=HR0;zz110));exact HC0.out;rintro e w' ⟨rfl,⟨nd,rfl⟩⟩;refine ⟨_,rfl,?_⟩;(try (rw [drewN_self wr];generalize hq_:World.drewN wr _ = wr;have n0_:Aside0 (Kd.R (Kd.int .u32) 65 wr w.heap.size (fun _=>True) (.slice Ao14 x5_1.length co14) x5_1):=⟨by rw [← hq_];exact (zz44)⟩;have n1_:Aside0 (Below w.heap.size w wr):=⟨by rw [← hq_];exact (zz5)⟩;clear HO_5 HB hq_;have HO_5:=n0_;have HB:=n1_;clear n0_ n1_)))|((with_reducible refine gate_callee (f:=74) rfl ?_);refine goesL_ (some 27) rfl rfl Try.func74 (zz0) rfl #[.slice A1 l1.length c1,.int .i64 x7_1] rfl (zz19) ?_;(with_reducible refine (U20.calls _ _ l1 x7_1 t393 _ ?_ ?_ A11.out).mono ?_);(exact (have h0_:=HR1;zz110));exact HC1.out;rintro e w' ⟨rfl,⟨nd,rfl⟩⟩;refine ⟨_,rfl,?_⟩;(try (rw [drewN_self wr];generalize hq_:World.drewN wr _ = wr;have n0_:Aside0 (Kd.R (Kd.int .u32) 65 wr w.heap.size (fun _=>True) (.slice Ao14 x5_1.length co14) x5_1):=⟨by rw [← hq_];exact (zz44)⟩;have n1_:Aside0 (Below w.heap.size w wr):=⟨by rw [← hq_];exact (zz5)⟩;clear HO_5 HB hq_;have HO_5:=n0_;have HB:=n1_;clear n0_ n1_));have p13:0≤(x7_1:Int):=of_decide_eq_true (zz11);have q13:(x7_1:Int) < ((x5_1.length:Int):Int):=of_decide_eq_true (zz11);obtain ⟨go13,co13,eo13,gb13,gl13,cl13,HG13⟩:=Kd.R_form HO_5.out (zz4);(first|cases eo13|(injection eo13 with ea_ en_ ec_;(first|subst ea_|(injection ea_ with ea_;subst ea_));subst ec_;clear en_));have GB13:=Aside0.mk gb13;have GG13:=Aside0.mk HG13;clear gb13 gl13 HG13;obtain ⟨hx13_0,hf13_0⟩:=Kd.R_celln 0 HO_5.out (x7_1:Int) p13 q13;replace p13:=eq_true p13;replace q13:=eq_true q13;obtain ⟨hy15_,hz15_⟩:=Kd.R_celln 0 HO_5.out (x7_1:Int) (of_decide_eq_true (zz11)) (of_decide_eq_true (zz11));have HP15:=Kd.R_putg HO_5.out (x7_1:Int) ((IntKind.u64.wrap ((IntKind.u64.wrap (t392+t393))+x6_1)) % 4294967296))|((with_reducible refine gate_store (t:=65) (p:=35) rfl ?_);refine store_event (t:=65) (p:=35) (v:=?vo_w16) (w1:=(wr.setCell ⟨go13,(x7_1:Int).toNat,none⟩ (.int .u32 ((IntKind.u64.wrap ((IntKind.u64.wrap (t392+t393))+x6_1)) % 4294967296)))) ?hg ?ho ?hn ?hr ?_;(case ho=>rfl);(case hg=>rfl);(case hn=>rfl);(case hr=>exact zz109);intro w16 hw;have hg:wr.grownBy w16 (some go13):=(by rw [hw];exact HP15.2);have hp_:Kd.R (Kd.int .u32) 65 w16 w.heap.size (fun _=>True) (.slice (some ⟨go13,0,none⟩) x5_1.length co14) y394:=(by rw [hw,Ny394.out];exact HP15.1);clear HP15;replace HO_5:=Aside0.mk (hp_);replace HB:=Aside0.mk ((by rw [hw];exact below_set (HB.out) GB13.out:Below w.heap.size w w16));clear hg hw hp_))
    go_roundg k1
    case measure=>have:=HK1.out;omega
    case rel=>exact ⟨(y394),((IntKind.u64.wrap ((IntKind.u64.wrap (t392+t393))+x6_1)) / 4294967296),(wrap64 (x7_1+1)),(zz2),(zz2),H',⟨zz12⟩,⟨zz44⟩,⟨zz5⟩⟩
   ·have c9b0:=decide_eq_false c9;clear c9;replace H:=zzb H;obtain ⟨t395,A17,H⟩:=H;obtain rfl:=Option.some.inj H;obtain ⟨Ao18,co18,eo18⟩:=Kd.R_slice HO_5.out;subst eo18
    go_wp2_with (first|((with_reducible refine gate_callee (f:=73) rfl ?_);refine goesL_ (some 39) rfl rfl Try.func73 (zz0) rfl #[.slice Ao18 x5_1.length co18] rfl (zz19) ?_;(with_reducible refine (U18.calls k1 _ _ x5_1 t395 _ ?_ ?_ A17.out).mono ?_);(exact (have h0_:=HO_5;zz121));(exact (have h0_:=HO_5;zz122));rintro e w19 ⟨v396,rfl,ho0,hb⟩;refine ⟨_,rfl,?_⟩;have HO397:=Aside0.mk (Kd.R_lower (Kd.R_new' ho0 (Kd.R_lt (zz44))) (below_size (zz5)));replace HO_5:=Aside0.mk (Kd.R_elder' (zz44) (Kd.R_base ho0) hb);replace HB:=Aside0.mk (below_step (zz5) hb);(try clear hb);(try clear ho0)))
    go_ret
    exact ⟨_,by first|rfl|(simp [errW_none,errW_some]<;>rfl)|(simp only [← hji3,← hji4];first|rfl|(simp [errW_none,errW_some]<;>rfl))|(simp [*,errW_none,errW_some]<;>rfl),(have h0_:=HO397;zz43),zz5⟩
mutual
def U35.l0:Nat→List (S56)→List Int→Int→List Int→List Int→List Int→List Int→List (List Int)→Option (List Int)
 | 0,_,_,_,_,_,_,_,_=>none
 | k+1,x1,x7,x8,x399000,x399001,x400000,x400001,x400002=>if x8 < (x400002.length:Int) then (if 0≤x8 then ((U37.f k x399000 x399001 x1 (rd_L1 x400002 x8) (-1)).bind fun t404=>((U19.f k 0).bind fun t407=>(U35.l1 k x1 x7 x8 t404 t407 0 x399000 x399001 x400000 x400001 x400002))) else (none)) else (some x7)
def U35.l1:Nat→List (S56)→List Int→Int→List (List Int)→List Int→Int→List Int→List Int→List Int→List Int→List (List Int)→Option (List Int)
 | 0,_,_,_,_,_,_,_,_,_,_,_=>none
 | k+1,x1,x7,x8,x9,x10,x11,x399000,x399001,x400000,x400001,x400002=>if x11 < (x9.length:Int) then (if 0≤x11 then ((U15.f k x10 (rd_L5 x9 x11)).bind fun t411=>(U35.l1 k x1 x7 x8 x9 t411 (wrap64 (x11+1)) x399000 x399001 x400000 x400001 x400002)) else (none)) else ((U17.f k x7 x10).bind fun t414=>(U35.l0 k x1 t414 (wrap64 (x8+1)) x399000 x399001 x400000 x400001 x400002))
end
def U35.f (k:Nat) (l0_0:List Int) (l0_1:List Int) (l1:List (S56)) (l2_0:List Int) (l2_1:List Int) (l2_2:List (List Int)):Option (List Int):=(U19.f k 1).bind fun t400=>(U35.l0 k l1 t400 0 l0_0 l0_1 l2_0 l2_1 l2_2)
theorem zm22_2 {P:Prop} (h:P:=by repeat' first|(with_reducible first|exact ih0 ..|exact ih1 ..|exact U15.mono ..|exact U17.mono ..|exact U19.mono ..|exact U37.mono ..|exact LeO.refl _|exact LeO.none _|refine LeO.ite ?_ ?_|refine LeO.bind ?_ (fun _=>?_))|exact ih0 ..|exact ih1 ..|exact U15.mono ..|exact U17.mono ..|exact U19.mono ..|exact U37.mono ..|exact LeO.none _|refine LeO.ite ?_ ?_|refine LeO.bind ?_ (fun _=>?_)):P:=h
theorem U35.mono_l:∀ k,(∀ y0 y1 y2 y3 y4 y5 y6 y7,LeO (U35.l0 k y0 y1 y2 y3 y4 y5 y6 y7) (U35.l0 (k+1) y0 y1 y2 y3 y4 y5 y6 y7))∧(∀ y0 y1 y2 y3 y4 y5 y6 y7 y8 y9 y10,LeO (U35.l1 k y0 y1 y2 y3 y4 y5 y6 y7 y8 y9 y10) (U35.l1 (k+1) y0 y1 y2 y3 y4 y5 y6 y7 y8 y9 y10))
 | 0=>⟨fun _ _ _ _ _ _ _ _ r h=>by simp [U35.l0] at h,fun _ _ _ _ _ _ _ _ _ _ _ r h=>by simp [U35.l1] at h⟩
 | k+1=>by
  obtain ⟨ih0,ih1⟩:=U35.mono_l k;refine ⟨?_,?_⟩
  ·intro y0 y1 y2 y3 y4 y5 y6 y7;unfold U35.l0
   exact zm22_2
  ·intro y0 y1 y2 y3 y4 y5 y6 y7 y8 y9 y10;unfold U35.l1
   exact zm22_2
theorem U35.mono:∀ a0 a1 a2 a3 a4 a5 k,LeO (U35.f k a0 a1 a2 a3 a4 a5) (U35.f (k+1) a0 a1 a2 a3 a4 a5):=by
 intro a0 a1 a2 a3 a4 a5 k;obtain ⟨ih0,ih1⟩:=U35.mono_l k;unfold U35.f
 exact zm22_2
def U35.T5:Bool × List (List Nat × List Nat):=(true,[([],[]),([],[]),([],[]),([2],[2]),([],[]),([3,4],[3,4]),([5],[5]),([0,1,6],[0,1,6]),([7,7,0,1,2,3,4,5,6,7],[7])])
def U35.B5:List Nat:=[0,0,0,4,0,28,60,127,255]
theorem U35.tab5:rtab .any (opsOf Try.f43 5) = U35.T5:=zz0
theorem U35.bits5:waitsOk U35.T5.2 U35.B5 = true:=zz0
set_option maxHeartbeats 8000000 in
set_option maxRecDepth 100000 in
theorem U35.calls (k:Nat) (A0_0:Option Addr) (c0_0:Nat) (l0_0:List Int) (A0_1:Option Addr) (c0_1:Nat) (l0_1:List Int) (A1:Option Addr) (c1:Nat) (l1:List (S56)) (A2_0:Option Addr) (c2_0:Nat) (l2_0:List Int) (A2_1:Option Addr) (c2_1:Nat) (l2_1:List Int) (A2_2:Option Addr) (c2_2:Nat) (l2_2:List (List Int)) (r:List Int) (w:World) (hr0_0:Kd.C (Kd.int .i64) w A0_0 l0_0.length l0_0) (hc0_0:l0_0.length≤c0_0) (hr0_1:Kd.C (Kd.int .i64) w A0_1 l0_1.length l0_1) (hc0_1:l0_1.length≤c0_1) (hr1:Kd.C k56 w A1 l1.length l1) (hc1:l1.length≤c1) (hr2_0:Kd.C (Kd.int .i64) w A2_0 l2_0.length l2_0) (hc2_0:l2_0.length≤c2_0) (hr2_1:Kd.C (Kd.int .i64) w A2_1 l2_1.length l2_1) (hc2_1:l2_1.length≤c2_1) (hr2_2:Kd.C (Kd.slice 3 (Kd.int .i64)) w A2_2 l2_2.length l2_2) (hc2_2:l2_2.length≤c2_2) (h:U35.f k l0_0 l0_1 l1 l2_0 l2_1 l2_2 = some r) :
  Calls Try.prog 43 #[.agg #[.slice A0_0 l0_0.length c0_0,.slice A0_1 l0_1.length c0_1],.slice A1 l1.length c1,.agg #[.slice A2_0 l2_0.length c2_0,.slice A2_1 l2_1.length c2_1,.slice A2_2 l2_2.length c2_2]] w fun e w'=>∃ v0_:Value,e = .returned (v0_)∧Kd.R (Kd.int .u32) 65 w' w.heap.size (fun _=>True) v0_ r∧Below w.heap.size w w':=by
 have hu24:=Try.underlying24;have hu36:=Try.underlying36;have HR0_0:=Aside0.mk hr0_0;have HC0_0:=Aside0.mk hc0_0;clear hr0_0 hc0_0;have HR0_1:=Aside0.mk hr0_1;have HC0_1:=Aside0.mk hc0_1;clear hr0_1 hc0_1;have HR1:=Aside0.mk hr1;have HC1:=Aside0.mk hc1;clear hr1 hc1;have HR2_0:=Aside0.mk hr2_0;have HC2_0:=Aside0.mk hc2_0;clear hr2_0 hc2_0;have HR2_1:=Aside0.mk hr2_1;have HC2_1:=Aside0.mk hc2_1;clear hr2_1 hc2_1;have HR2_2:=Aside0.mk hr2_2;have HC2_2:=Aside0.mk hc2_2;clear hr2_2 hc2_2;have HB:=Aside0.mk (Below.refl w.heap.size w);have H:((U19.f k 1).bind fun t400=>(U35.l0 k l1 t400 0 l0_0 l0_1 l2_0 l2_1 l2_2)) = some r:=h;clear h;replace H:=zzb H;obtain ⟨t400,A4,H⟩:=H;have H':=Aside0.mk H;clear H;go_enter Try.func43,Try.ntmps43
 go_wp2_with (first|((with_reducible refine gate_dst (N:=3) rfl ?_);refine box_event ?hg (N:=3) ?hd (cs:=#[.slice A0_0 l0_0.length c0_0,.slice A0_1 l0_1.length c0_1]) (t:=24) ?hr ?_;(case hd=>rfl);(case hg=>rfl);(case hr=>exact zz109);intro gb398 hg w5 hbox hb;have BK398:=Aside0.mk (hbox);have GW398:=Aside0.mk ((by rw [hg];exact (below_size (zz5)):w.heap.size≤gb398));have GE398:=Aside0.mk ((by rw [hg];exact (below_size (zz5)):w.heap.size≤gb398));replace HB:=Aside0.mk (below_step (zz5) hb);clear hb hbox hg)|((with_reducible refine gate_dst (N:=5) rfl ?_);refine box_event ?hg (N:=5) ?hd (cs:=#[.slice A2_0 l2_0.length c2_0,.slice A2_1 l2_1.length c2_1,.slice A2_2 l2_2.length c2_2]) (t:=36) ?hr ?_;(case hd=>rfl);(case hg=>rfl);(case hr=>exact zz109);intro gb399 hg w6 hbox hb;have BK399:=Aside0.mk (hbox);have GW399:=Aside0.mk ((by rw [hg];exact (below_size (have h0_:=GE398;zz7)):w.heap.size≤gb399));have GE399:=Aside0.mk ((by rw [hg];exact (below_size (have h0_:=GE398;zz7)):w.heap.size≤gb399));replace HB:=Aside0.mk (below_step (have h0_:=GE398;zz7) hb);have NB398_399:=Aside0.mk ((by rw [hg];exact Nat.ne_of_lt (blk_lt (g:=gb398) (o:=.cells #[.slice A0_0 l0_0.length c0_0,.slice A0_1 l0_1.length c0_1] 24 (0,0)) (zz81)):gb398 ≠ gb399));have NB399_398:=Aside0.mk ((by rw [hg];exact Nat.ne_of_gt (blk_lt (g:=gb398) (o:=.cells #[.slice A0_0 l0_0.length c0_0,.slice A0_1 l0_1.length c0_1] 24 (0,0)) (zz81)):gb399 ≠ gb398));replace BK398:=Aside0.mk (blk_below (zz81) hb);clear hb hbox hg)|((with_reducible refine gate_callee (f:=58) rfl ?_);refine goesL_ (some 12) rfl rfl Try.func58 (zz0) rfl #[.int .u64 1] rfl (zz19) ?_;(with_reducible refine (U19.calls k 1 t400 _ A4.out).mono ?_);rintro e w7 ⟨v401,rfl,ho0,hb⟩;refine ⟨_,rfl,?_⟩;have HO402:=Aside0.mk (Kd.R_lower ho0 (below_size (zz82)));replace BK398:=Aside0.mk (blk_below (zz81) hb);replace BK399:=Aside0.mk (blk_below (have h0_:=BK399;zz9) hb);replace HB:=Aside0.mk (below_step (zz82) hb);(try clear hb);(try clear ho0)))
 go_loopg [7,8] k (fun kq v7 v8 w'=>∃ (x7_1:List Int) (x8_1:Int),v8 = .int .i64 x8_1∧Aside0 (U35.l0 kq l1 x7_1 x8_1 l0_0 l0_1 l2_0 l2_1 l2_2 = some r)∧Aside0 (kq≤k)∧Aside0 (Kd.R (Kd.int .u32) 65 w' w.heap.size (fun _=>True) v7 x7_1)∧Aside0 (w'.heap[gb398]? = some (.cells #[(.slice A0_0 l0_0.length c0_0),(.slice A0_1 l0_1.length c0_1)] 24 (0,0)))∧Aside0 (w'.heap[gb399]? = some (.cells #[(.slice A2_0 l2_0.length c2_0),(.slice A2_1 l2_1.length c2_1),(.slice A2_2 l2_2.length c2_2)] 36 (0,0)))∧Aside0 (Below w.heap.size w w'))
 case atStart=>exact ⟨(t400),(0),(zz2),H',⟨Nat.le_refl _⟩,⟨(have h0_:=HO402;zz25)⟩,⟨zz81⟩,⟨(have h0_:=BK399;zz9)⟩,⟨zz82⟩⟩
 case round =>
  clear H'
  (try clear c1)
  obtain ⟨x7_1,x8_1,rfl,HA,HK1,HO_7,BK398,BK399,HB⟩:=hrel
  cases gk with
  | zero=>exact absurd HA.out (by simp [U35.l0])
  | succ k1 =>
   have H:=HA.out;clear HA;simp only [U35.l0] at H;replace H:=zzj H;rcases H with ⟨c8,H⟩|⟨c8,H⟩
   ·have c8b0:=decide_eq_true c8;clear c8;replace H:=zzi H;obtain ⟨c9,H⟩:=H;have c9b0:=decide_eq_true c9;clear c9;replace H:=zzb H;obtain ⟨t404,A10,H⟩:=H;replace H:=zzb H;obtain ⟨t407,A11,H⟩:=H;have H':=Aside0.mk H;clear H;have hnb12:=NB399_398.out;have hnc12:=NB398_399.out;obtain ⟨hcz13_0,hcz13_1,hcz13_2,hfz13_0,hfz13_1,hfz13_2⟩:=zc3 BK399.out
    try go_wp2
    replace HO_7:=Aside0.mk (Kd.R_drew HO_7.out);replace BK398:=Aside0.mk (blk_drew BK398.out);replace BK399:=Aside0.mk (blk_drew BK399.out);replace HB:=Aside0.mk (below_drew1 HB.out);have p403:0≤(x8_1:Int):=of_decide_eq_true (zz11);have q403:x8_1 < (l2_2.length:Int):=of_decide_eq_true (zz11);obtain ⟨ad403,A403_0,c403_0,e403,hx403_0,hl403_0,hi403_0⟩:=at_L1 HR2_2.out x8_1 p403 q403;have hw403_0:=hx403_0
    cases e403
    replace hx403_0:=(HB.out.cell (World.block_lt_of_cell? w _ hx403_0)).trans hx403_0;have HR403_0:=Aside0.mk hi403_0;have HC403_0:=Aside0.mk hl403_0;clear hi403_0 hl403_0;replace p403:=eq_true p403;replace q403:=eq_true q403;refine start_ (n:=9) (S:=fun w'=>w'.cell? ⟨gb398,0,none⟩ = some (.slice A0_0 l0_0.length c0_0)∧w'.cell? ⟨gb398,1,none⟩ = some (.slice A0_1 l0_1.length c0_1)∧w'.cell? ⟨gb399,0,none⟩ = some (.slice A2_0 l2_0.length c2_0)∧w'.cell? ⟨gb399,1,none⟩ = some (.slice A2_1 l2_1.length c2_1)∧w'.cell? ⟨gb399,2,none⟩ = some (.slice (some ad403) l2_2.length c2_2)∧w'.cell? (ad403.add (x8_1).toNat) = some (.slice A403_0 (rd_L1 l2_2 x8_1).length c403_0)) (ds:=[]) #[false,false,false,false,false,false,false,false,false] (zz0) rfl rfl ⟨(blk_cell BK398.out 0).trans rfl,(blk_cell BK398.out 1).trans rfl,(blk_cell BK399.out 0).trans rfl,(blk_cell BK399.out 1).trans rfl,(blk_cell BK399.out 2).trans rfl,((HB.out.cell (World.block_lt_of_cell? w _ hw403_0)).trans hw403_0)⟩ (fun hHeld=>?_);refine with_tabW U35.tab5 U35.bits5 (fun HT_ HW_=>?_)
    generalize wr.drew = w14 at HO_7 BK398 BK399 HB HR403_0 hx403_0 hHeld ⊢
    refine zzp 1 21 ?_ #[false,true,false,false,false,false,false,false,false] rfl rfl (any_of HT_.out (zz0)) (fun _ _ _ h=>h) (Or.inl ⟨zz20,?_⟩) ?_ ?_ ?_;rotate_left
    ·intro w'
     go_simp
     with_reducible rfl
    rotate_left
    ·simp only [zzs]
     rfl
    refine zzp 2 22 ?_ #[false,true,true,false,false,false,false,false,false] rfl rfl (any_of HT_.out (zz0)) (fun _ _ _ h=>h) (Or.inl ⟨zz20,?_⟩) ?_ ?_ ?_;rotate_left
    ·intro w'
     go_simp
     with_reducible rfl
    rotate_left
    ·simp only [zzs]
     rfl
    refine zzp 4 24 ?_ #[false,true,true,false,true,false,false,false,false] rfl rfl (any_of HT_.out (zz0)) (fun _ _ _ h=>h) (Or.inl ⟨zz20,?_⟩) ?_ ?_ ?_;rotate_left
    ·intro w'
     go_simp
     with_reducible rfl
    rotate_left
    ·simp only [zzs]
     rfl
    refine take_ (i:=0) (N:=some 20) (v:=?_) (a':=?_) #[true,true,true,false,true,false,false,false,false] rfl rfl (take_ofW HT_.out HW_.out (zz0)) (fun _ _ _ h=>h) (Or.inl ⟨zz20,?_⟩) hHeld ?_ ?_;rotate_left
    ·rintro w' ⟨s0,s1,s2,s3,s4,s5⟩
     go_simp
     with_reducible rfl
    rotate_left
    ·simp only [zzs]
     rfl
    refine take_ (i:=3) (N:=some 23) (v:=?_) (a':=?_) #[true,true,true,true,true,false,false,false,false] rfl rfl (take_ofW HT_.out HW_.out (zz0)) (fun _ _ _ h=>h) (Or.inl ⟨zz20,?_⟩) hHeld ?_ ?_;rotate_left
    ·rintro w' ⟨s0,s1,s2,s3,s4,s5⟩
     go_simp
     with_reducible rfl
    rotate_left
    ·simp only [zzs]
     rfl
    refine zzp 5 25 ?_ #[true,true,true,true,true,true,false,false,false] rfl rfl (any_of HT_.out (zz0)) (fun _ _ _ h=>h) (Or.inl ⟨zz20,?_⟩) ?_ ?_ ?_;rotate_left
    ·intro w'
     go_simp
     with_reducible rfl
    rotate_left
    ·simp only [zzs]
     rfl
    refine take_ (i:=6) (N:=some 26) (v:=?_) (a':=?_) #[true,true,true,true,true,true,true,false,false] rfl rfl (take_ofW HT_.out HW_.out (zz0)) (fun _ _ _ h=>h) (Or.inl ⟨zz20,?_⟩) hHeld ?_ ?_;rotate_left
    ·rintro w' ⟨s0,s1,s2,s3,s4,s5⟩
     go_simp
     with_reducible rfl
    rotate_left
    ·simp only [zzs]
     rfl
    refine one_ (i:=7) (N:=some 27) #[true,true,true,true,true,true,true,true,false] rfl rfl (one_of HT_.out (zz0)) (zz28) (fun K hK=>?_);refine goes_ Try.func35 (zz0) rfl #[.agg #[.slice A0_0 l0_0.length c0_0,.slice A0_1 l0_1.length c0_1],.slice A1 l1.length c1,.slice A403_0 (rd_L1 l2_2 x8_1).length c403_0,.int .i64 (-1)] (zz20) rfl rfl (zz19) ?_
    with_reducible refine (U37.calls k1 _ _ l0_0 _ _ l0_1 _ _ l1 _ _ (rd_L1 l2_2 x8_1) (-1) t404 _ ?side1 ?side2 ?side3 ?side4 ?side5 ?side6 ?side7 ?side8 A10.out).mono ?_
    (case side1=>exact zz111)
    (case side2=>exact zz112)
    (case side3=>exact zz113)
    (case side4=>exact zz114)
    (case side5=>exact (have h0_:=HR1;zz110))
    (case side6=>exact HC1.out)
    (case side7=>exact (have h0_:=HR403_0;zz110))
    (case side8=>exact HC403_0.out)
    rintro e w15 ⟨v405,rfl,ho0,hb⟩;refine ⟨_,rfl,?_⟩;have HO406:=Aside0.mk (Kd.S_lower (Kd.S_new' ho0 (Kd.R_lt (zz32))) (below_size (zz82)));replace HO_7:=Aside0.mk (Kd.R_below (zz32) hb);replace BK398:=Aside0.mk (blk_below (zz81) hb);replace BK399:=Aside0.mk (blk_below (have h0_:=BK399;zz9) hb);replace HB:=Aside0.mk (below_step (zz82) hb)
    (try clear hb)
    (try clear ho0)
    refine hK.out _ _ ⟨(blk_cell BK398.out 0).trans rfl,(blk_cell BK398.out 1).trans rfl,(blk_cell BK399.out 0).trans rfl,(blk_cell BK399.out 1).trans rfl,(blk_cell BK399.out 2).trans rfl,((HB.out.cell (World.block_lt_of_cell? w _ hw403_0)).trans hw403_0)⟩ (fun hHeld=>?_);clear hK K;refine norm_ (a':=?_) ?_ ?_;rotate_left
    ·show Act.put _ (some 27) _ = _
     simp only [zzs]
     rfl
    refine zzp 8 9 ?_ #[true,true,true,true,true,true,true,true,true] rfl rfl (any_of HT_.out (zz0)) (fun _ _ _ h=>h) (Or.inl ⟨zz20,?_⟩) ?_ ?_ ?_;rotate_left
    ·intro w'
     go_simp
     with_reducible rfl
    rotate_left
    ·simp only [zzs]
     rfl
    refine done_ (done_of HT_.out (zz0)) ?_
    try go_wp2_with (first|((with_reducible refine gate_callee (f:=58) rfl ?_);refine goesL_ (some 28) rfl rfl Try.func58 (zz0) rfl #[.int .u64 0] rfl (zz19) ?_;(with_reducible refine (U19.calls k1 0 t407 _ A11.out).mono ?_);rintro e w16 ⟨v408,rfl,ho0,hb⟩;refine ⟨_,rfl,?_⟩;replace HO406:=Aside0.mk (Kd.S_elder' (have h0_:=HO406;zz46) (Kd.R_base ho0) hb);have HO409:=Aside0.mk (Kd.R_lower (Kd.R_new' ho0 (Kd.R_lt (zz32))) (below_size (zz82)));replace HO_7:=Aside0.mk (Kd.R_elder' (zz32) (Kd.R_base ho0) hb);replace BK398:=Aside0.mk (blk_below (zz81) hb);replace BK399:=Aside0.mk (blk_below (have h0_:=BK399;zz9) hb);replace HB:=Aside0.mk (below_step (zz82) hb);(try clear hb);(try clear ho0)))
    go_loopg [10,11] k1 (fun kq v10 v11 w'=>∃ (x10_2:List Int) (x11_2:Int),v11 = .int .i64 x11_2∧Aside0 (U35.l1 kq l1 x7_1 x8_1 t404 x10_2 x11_2 l0_0 l0_1 l2_0 l2_1 l2_2 = some r)∧Aside0 (kq≤k1)∧Aside0 (Kd.R (Kd.int .u32) 65 w' w.heap.size (fun k_=>some k_ ≠ (v10:Value).ownBlock) u7 x7_1)∧Aside0 (Kd.S (Kd.slice 65 (Kd.int .u32)) 32 w' w.heap.size (fun k_=>some k_ ≠ (u7:Value).ownBlock∧some k_ ≠ (v10:Value).ownBlock) v405 t404)∧Aside0 (Kd.R (Kd.int .u32) 65 w' w.heap.size (fun k_=>some k_ ≠ (u7:Value).ownBlock) v10 x10_2)∧Aside0 (w'.heap[gb398]? = some (.cells #[(.slice A0_0 l0_0.length c0_0),(.slice A0_1 l0_1.length c0_1)] 24 (0,0)))∧Aside0 (w'.heap[gb399]? = some (.cells #[(.slice A2_0 l2_0.length c2_0),(.slice A2_1 l2_1.length c2_1),(.slice (some ad403) l2_2.length c2_2)] 36 (0,0)))∧Aside0 (Below w.heap.size w w'))
    case atStart=>exact ⟨(t407),(0),(zz2),H',⟨Nat.le_refl _⟩,⟨(have h0_:=HO_7;zz83)⟩,⟨by (with_reducible repeat (first|apply Kd.S_alloc|apply Kd.S_drewN|apply Kd.S_drew));exact Kd.S_mono HO406.out (fun _ hk=>⟨hk.1.2,hk.2⟩)⟩,⟨(have h0_:=HO409;zz83)⟩,⟨zz81⟩,⟨(have h0_:=BK399;zz9)⟩,⟨zz82⟩⟩
    case round =>
     clear H'
     clear c8b0 c9b0 p403 q403;(try clear hcz13_0);(try clear hcz13_1);(try clear hcz13_2);(try clear hfz13_0);(try clear hfz13_1);(try clear hfz13_2);(try clear hx403_0)
     obtain ⟨x10_2,x11_2,rfl,HA,HK2,HO_7,HO_9,HO_10,BK398,BK399,HB⟩:=hrel
     cases gk with
     | zero=>exact absurd HA.out (by simp [U35.l1])
     | succ k2 =>
      have H:=HA.out;clear HA;simp only [U35.l1] at H;replace H:=zzj H;rcases H with ⟨c17,H⟩|⟨c17,H⟩
      ·have c17b0:=decide_eq_true c17;clear c17;replace H:=zzi H;obtain ⟨c18,H⟩:=H;have c18b0:=decide_eq_true c18;clear c18;replace H:=zzb H;obtain ⟨t411,A19,H⟩:=H;have H':=Aside0.mk H;clear H;obtain ⟨Ao20,co20,eo20⟩:=Kd.S_slice HO_9.out;subst eo20;have p410:0≤(x11_2:Int):=of_decide_eq_true (zz11);have q410:x11_2 < (t404.length:Int):=of_decide_eq_true (zz11);obtain ⟨ad410,A410_0,c410_0,e410,hx410_0,hl410_0,hi410_0⟩:=at_L5 (Kd.S_reads' HO_9.out).2.2 x11_2 p410 q410
       cases e410
       obtain ⟨ce410,hce410,hMe410,hcc410⟩:=Kd.S_get HO_9.out [] x11_2 p410 (by first|exact q410|exact of_decide_eq_true (zz11)|(have e_:=(Kd.S_reads' HO_9.out).1;omega));obtain ⟨ve410_0,rfl,ge410_0⟩:=hMe410;have hv410_0:=hcc410 0 _ rfl;rw [Nat.add_zero,show ((Kd.slice 65 (Kd.int .u32))).sz = 1 from rfl,Nat.mul_one] at hv410_0;replace hv410_0:=Option.some.inj (hv410_0.symm.trans hx410_0);rw [hv410_0] at ge410_0;have HL410_0:=Aside0.mk (show Kd.R (Kd.int .u32) 65 _ _ _ _ (rd_L5 t404 x11_2) from ge410_0);clear hv410_0 ge410_0;clear hcc410 hce410;have HR410_0:=Aside0.mk hi410_0;have HC410_0:=Aside0.mk hl410_0;clear hi410_0 hl410_0;replace p410:=eq_true p410;replace q410:=eq_true q410;obtain ⟨Ao21,co21,eo21⟩:=Kd.R_slice HO_10.out;subst eo21
       go_wp2_with (first|((with_reducible refine gate_callee (f:=65) rfl ?_);refine goesL_ (some 40) rfl rfl Try.func65 (zz0) rfl #[.slice Ao21 x10_2.length co21,.slice A410_0 (rd_L5 t404 x11_2).length c410_0] rfl (zz19) ?_;(with_reducible refine (U15.calls k2 _ _ x10_2 _ _ (rd_L5 t404 x11_2) t411 _ ?_ ?_ ?_ ?_ A19.out).mono ?_);(exact (have h0_:=HO_10;zz121));(exact (have h0_:=HO_10;zz122));(exact (have h0_:=HR410_0;zz120));exact HC410_0.out;rintro e w22 ⟨v412,rfl,ho0,hb⟩;refine ⟨_,rfl,?_⟩;replace HO_9:=Aside0.mk (Kd.S_elder' (have h0_:=HO_9;zz46) (Kd.R_base ho0) hb);have HO413:=Aside0.mk (Kd.R_lower (Kd.R_new' (Kd.R_new' (Kd.R_new' ho0 (Kd.R_lt (zz32))) (Kd.R_lt (have h0_:=HO_10;zz25))) (Kd.R_lt (have h0_:=HL410_0;zz25))) (below_size (zz82)));replace HO_7:=Aside0.mk (Kd.R_elder' (zz32) (Kd.R_base ho0) hb);replace HO_10:=Aside0.mk (Kd.R_elder' (have h0_:=HO_10;zz25) (Kd.R_base ho0) hb);replace HL410_0:=Aside0.mk (Kd.R_elder' (have h0_:=HL410_0;zz25) (Kd.R_base ho0) hb);replace BK398:=Aside0.mk (blk_below (zz81) hb);replace BK399:=Aside0.mk (blk_below (have h0_:=BK399;zz9) hb);replace HR410_0:=Aside0.mk (Kd.C_below (have h0_:=HR410_0;zz38) hb);replace HB:=Aside0.mk (below_step (zz82) hb);(try clear hb);(try clear ho0)))
       go_roundg k2
       case measure=>have:=HK1.out;have:=HK2.out;omega
       case rel=>exact ⟨(t411),(wrap64 (x11_2+1)),(zz2),H',⟨zz18⟩,⟨(have h0_:=HO_7;zz83)⟩,⟨by (with_reducible repeat (first|apply Kd.S_alloc|apply Kd.S_drewN|apply Kd.S_drew));exact Kd.S_mono HO_9.out (fun _ hk=>⟨hk.1.1,hk.2⟩)⟩,⟨by (with_reducible repeat (first|apply Kd.R_alloc|apply Kd.R_drewN|apply Kd.R_drew));exact Kd.R_mono HO413.out (fun _ hk=>hk.1.1.2)⟩,⟨zz81⟩,⟨(have h0_:=BK399;zz9)⟩,⟨zz82⟩⟩
      ·have c17b0:=decide_eq_false c17;clear c17;replace H:=zzb H;obtain ⟨t414,A23,H⟩:=H;have H':=Aside0.mk H;clear H;obtain ⟨Ao24,co24,eo24⟩:=Kd.S_slice HO_9.out;subst eo24;obtain ⟨Ao25,co25,eo25⟩:=Kd.R_slice HO_7.out;subst eo25;obtain ⟨Ao26,co26,eo26⟩:=Kd.R_slice HO_10.out;subst eo26
       go_wp2_with (first|((with_reducible refine gate_callee (f:=59) rfl ?_);refine goesL_ (some 43) rfl rfl Try.func59 (zz0) rfl #[.slice Ao25 x7_1.length co25,.slice Ao26 x10_2.length co26] rfl (zz19) ?_;(with_reducible refine (U17.calls k2 _ _ x7_1 _ _ x10_2 t414 _ ?_ ?_ ?_ ?_ A23.out).mono ?_);(exact (have h0_:=HO_7;zz121));(exact (have h0_:=HO_7;zz122));(exact (have h0_:=HO_10;zz121));(exact (have h0_:=HO_10;zz122));rintro e w27 ⟨v415,rfl,ho0,hb⟩;refine ⟨_,rfl,?_⟩;replace HO_9:=Aside0.mk (Kd.S_elder' (have h0_:=HO_9;zz46) (Kd.R_base ho0) hb);have HO416:=Aside0.mk (Kd.R_lower (Kd.R_new' (Kd.R_new' ho0 (Kd.R_lt (zz32))) (Kd.R_lt (have h0_:=HO_10;zz25))) (below_size (zz82)));replace HO_7:=Aside0.mk (Kd.R_elder' (zz32) (Kd.R_base ho0) hb);replace HO_10:=Aside0.mk (Kd.R_elder' (have h0_:=HO_10;zz25) (Kd.R_base ho0) hb);replace BK398:=Aside0.mk (blk_below (zz81) hb);replace BK399:=Aside0.mk (blk_below (have h0_:=BK399;zz9) hb);replace HB:=Aside0.mk (below_step (zz82) hb);(try clear hb);(try clear ho0)))
       go_roundg k2
       case measure=>have:=HK1.out;have:=HK2.out;omega
       case rel=>exact ⟨(t414),(wrap64 (x8_1+1)),(zz2),H',⟨zz18⟩,⟨(have h0_:=HO416;zz43)⟩,⟨zz81⟩,⟨(have h0_:=BK399;zz9)⟩,⟨zz82⟩⟩
   ·have c8b0:=decide_eq_false c8;clear c8;obtain rfl:=Option.some.inj H;have hnb28:=NB399_398.out;have hnc28:=NB398_399.out;obtain ⟨hcz29_0,hcz29_1,hcz29_2,hfz29_0,hfz29_1,hfz29_2⟩:=zc3 BK399.out
    go_wp2
    go_ret
    exact ⟨_,zz6,zz32,zz82⟩
end Go.Proofs.Ytmcegphcjphdcaa.QA
