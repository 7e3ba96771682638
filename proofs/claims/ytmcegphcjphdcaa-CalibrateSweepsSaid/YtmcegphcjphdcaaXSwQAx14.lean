import Derived.Test.YtmcegphcjphdcaaXSwQAx0
import Derived.Test.YtmcegphcjphdcaaXSwQAx2
namespace Go.Proofs.Ytmcegphcjphdcaa.QA
open Go.RowKit Go.Proofs.YtmcegphcjphdcaaW.PrintWords Go.Proofs.YtmcegphcjphdcaaW.PrintLast Go.Proofs.YtmcegphcjphdcaaW.PrintMore
attribute [local go_sem] max2_int min2_int max_two min_two max_three min_three max_four min_four
set_option linter.unusedVariables false
set_option linter.unusedSimpArgs false
mutual
def U48.j0:Nat→List Int→List Int→Option (List Int)
 | 0,_,_=>none
 | k+1,x5,x6=>if 0≤(wrap64 ((x5.length:Int)+1)) then (if (wrap64 ((x5.length:Int)+1):Int).toNat≤70368744177664 then (U48.l0 k x6 (([]:List Int)) 0 x5 (x5.length:Int) 0) else (none)) else (none)
def U48.l0:Nat→List Int→List Int→Int→List Int→Int→Int→Option (List Int)
 | 0,_,_,_,_,_,_=>none
 | k+1,x6,x7,x8,x26,x27,x28=>if x28 < x27 then (if 0≤x28 then (if x28 < (x26.length:Int) then (if x28 < (x6.length:Int) then (if x7.length < 35184372088832 then (U48.l0 k x6 (x7++[(Go.bits .and .u64 (IntKind.u64.wrap ((IntKind.u64.wrap (x8+(IntKind.u64.wrap (rd x26 x28))))+(IntKind.u64.wrap (rd x6 x28)))) 4294967295) % 4294967296]) ((IntKind.u64.wrap ((IntKind.u64.wrap (x8+(IntKind.u64.wrap (rd x26 x28))))+(IntKind.u64.wrap (rd x6 x28)))) / 4294967296) x26 x27 (wrap64 (x28+1))) else (none)) else (if x7.length < 35184372088832 then (U48.l0 k x6 (x7++[(Go.bits .and .u64 (IntKind.u64.wrap (x8+(IntKind.u64.wrap (rd x26 x28)))) 4294967295) % 4294967296]) ((IntKind.u64.wrap (x8+(IntKind.u64.wrap (rd x26 x28)))) / 4294967296) x26 x27 (wrap64 (x28+1))) else (none))) else (none)) else (none)) else (if x8 > 0 then (if x7.length < 35184372088832 then (some (x7++[(x8) % 4294967296])) else (none)) else (some x7))
end
def U48.f (k:Nat) (l0:List Int) (l1:List Int):Option (List Int):=(U52.f k l0).bind fun t326=>((U52.f k l1).bind fun t329=>(if (t326.length:Int) < (t329.length:Int) then (U48.j0 k t329 t326) else (U48.j0 k t326 t329)))
theorem zm17_0 {P:Prop} (h:P:=by repeat' first|(with_reducible first|exact ih0 ..|exact ih1 ..|exact U52.mono ..|exact LeO.refl _|exact LeO.none _|refine LeO.ite ?_ ?_|refine LeO.bind ?_ (fun _=>?_))|exact ih0 ..|exact ih1 ..|exact U52.mono ..|exact LeO.none _|refine LeO.ite ?_ ?_|refine LeO.bind ?_ (fun _=>?_)):P:=h
theorem U48.mono_l:∀ k,(∀ y0 y1,LeO (U48.j0 k y0 y1) (U48.j0 (k+1) y0 y1))∧(∀ y0 y1 y2 y3 y4 y5,LeO (U48.l0 k y0 y1 y2 y3 y4 y5) (U48.l0 (k+1) y0 y1 y2 y3 y4 y5))
 | 0=>⟨fun _ _ r h=>by simp [U48.j0] at h,fun _ _ _ _ _ _ r h=>by simp [U48.l0] at h⟩
 | k+1=>by
  obtain ⟨ih0,ih1⟩:=U48.mono_l k;refine ⟨?_,?_⟩
  ·intro y0 y1;unfold U48.j0
   exact zm17_0
  ·intro y0 y1 y2 y3 y4 y5;unfold U48.l0
   exact zm17_0
theorem U48.mono:∀ a0 a1 k,LeO (U48.f k a0 a1) (U48.f (k+1) a0 a1):=by
 intro a0 a1 k;obtain ⟨ih0,ih1⟩:=U48.mono_l k;unfold U48.f
 exact zm17_0
set_option maxHeartbeats 8000000 in
set_option maxRecDepth 100000 in
theorem U48.calls (k:Nat) (A0:Option Addr) (c0:Nat) (l0:List Int) (A1:Option Addr) (c1:Nat) (l1:List Int) (r:List Int) (w:World) (hr0:Kd.C (Kd.int .u32) w A0 l0.length l0) (hc0:l0.length≤c0) (hr1:Kd.C (Kd.int .u32) w A1 l1.length l1) (hc1:l1.length≤c1) (h:U48.f k l0 l1 = some r) :
  Calls Try.prog 62 #[.slice A0 l0.length c0,.slice A1 l1.length c1] w fun e w'=>∃ v0_:Value,e = .returned (v0_)∧Kd.R (Kd.int .u32) 65 w' w.heap.size (fun _=>True) v0_ r∧Below w.heap.size w w':=by
 have HR0:=Aside0.mk hr0;have HC0:=Aside0.mk hc0;clear hr0 hc0;have HR1:=Aside0.mk hr1;have HC1:=Aside0.mk hc1;clear hr1 hc1;have HB:=Aside0.mk (Below.refl w.heap.size w);have H:((U52.f k l0).bind fun t326=>((U52.f k l1).bind fun t329=>(if (t326.length:Int) < (t329.length:Int) then (U48.j0 k t329 t326) else (U48.j0 k t326 t329)))) = some r:=h;clear h;replace H:=zzb H;obtain ⟨t326,A3,H⟩:=H;replace H:=zzb H;obtain ⟨t329,A4,H⟩:=H;have HC5:=Aside0.mk H;clear H;go_enter Try.func62,Try.ntmps62
 go_upto_if 19 with (first|((with_reducible refine gate_callee (f:=44) rfl ?_);refine goesL_ (some 12) rfl rfl Try.func44 (zz0) rfl #[.slice A0 l0.length c0] rfl (zz19) ?_;(with_reducible refine (U52.calls k (fun k_=>k_ < w.heap.size) _ _ l0 t326 _ ?_ A3.out).mono ?_);exact zz116;rintro e w6 ⟨v327,rfl,ho0,hb⟩;refine ⟨_,rfl,?_⟩;have HO328:=Aside0.mk (Kd.V_lower (Kd.V_mono (ok':=fun k_=>True) ho0 (fun k_ hk_=>trivial)) (below_size (zz5)));replace HB:=Aside0.mk (below_step (zz5) hb);(try clear hb);(try clear ho0))|((with_reducible refine gate_callee (f:=44) rfl ?_);refine goesL_ (some 14) rfl rfl Try.func44 (zz0) rfl #[.slice A1 l1.length c1] rfl (zz19) ?_;(with_reducible refine (U52.calls k (fun k_=>k_ < w.heap.size) _ _ l1 t329 _ ?_ A4.out).mono ?_);exact zz129;rintro e w7 ⟨v330,rfl,ho0,hb⟩;refine ⟨_,rfl,?_⟩;replace HO328:=Aside0.mk (Kd.V_below (have h0_:=HO328;zz23) hb);have HO331:=Aside0.mk (Kd.V_lower (Kd.V_mono (ok':=fun k_=>True) ho0 (fun k_ hk_=>trivial)) (below_size (zz5)));replace HB:=Aside0.mk (below_step (zz5) hb);(try clear hb);(try clear ho0);obtain ⟨Ao8,co8,eo8⟩:=Kd.V_slice HO328.out;subst eo8;obtain ⟨Ao9,co9,eo9⟩:=Kd.V_slice HO331.out;subst eo9))
 (try simp only [Act.put,List.setIfInBounds_toArray,List.set_cons_zero,List.set_cons_succ])
 go_cut [5,6] (fun v5 v6 wc=>∃ (kq:Nat) (x5_4:List Int) (x6_4:List Int),Aside0 (U48.j0 kq x5_4 x6_4 = some r)∧Aside0 (kq≤k)∧Aside0 (Kd.V (Kd.int .u32) 65 wc w.heap.size (fun _=>True) v5 x5_4)∧Aside0 (Kd.V (Kd.int .u32) 65 wc w.heap.size (fun _=>True) v6 x6_4)∧Aside0 (Below w.heap.size w wc))
 case first =>
  have H:=HC5.out;clear HC5;replace H:=zzj H;rcases H with ⟨c10,H⟩|⟨c10,H⟩
  ·have c10b0:=decide_eq_true c10;have c10b1:decide (t326.length < t329.length) = true:=decide_eq_true (Int.ofNat_lt.mp c10);clear c10
   (first|rw [c10b0]|rw [c10b1]|(simp only [i64_w,i32_w];rw [c10b0])|skip)
   have H':=Aside0.mk H;clear H
   go_wp2
   go_meet
   case rel=>exact ⟨_,(t329),(t326),H',⟨zz21⟩,⟨(have h0_:=HO331;zz23)⟩,⟨(have h0_:=HO328;zz23)⟩,⟨zz5⟩⟩
  ·have c10b0:=decide_eq_false c10;have c10b1:decide (t326.length < t329.length) = false:=decide_eq_false (fun h=>c10 (Int.ofNat_lt.mpr h));clear c10
   (first|rw [c10b0]|rw [c10b1]|(simp only [i64_w,i32_w];rw [c10b0])|skip)
   have H':=Aside0.mk H;clear H
   go_wp2
   go_meet
   case rel=>exact ⟨_,(t326),(t329),H',⟨zz21⟩,⟨(have h0_:=HO328;zz23)⟩,⟨(have h0_:=HO331;zz23)⟩,⟨zz5⟩⟩
 case rest =>
  clear HC5;(try clear c1);obtain ⟨kq,x5_4,x6_4,HA,HJ4,HO_5,HO_6,HB⟩:=hcut
  cases kq with
  | zero=>exact absurd HA.out (by simp [U48.j0])
  | succ kj4 =>
   have H:=HA.out;clear HA;simp only [U48.j0] at H;obtain ⟨ji11,hji11⟩:∃ j_:Int,(wrap64 ((x5_4.length:Int)+1)) = j_:=⟨_,rfl⟩;replace H:(if 0≤(ji11) then (if (ji11:Int).toNat≤70368744177664 then (U48.l0 kj4 x6_4 (([]:List Int)) 0 x5_4 (x5_4.length:Int) 0) else (none)) else (none)) = some r:=(have h0_:=hji11;zz15);have hji11w:(IntKind.i64.wrap ((x5_4.length:Int)+1)) = ji11:=(i64_w _).trans hji11;replace H:=zzi H;obtain ⟨c12,H⟩:=H;have c12b0:=eq_true c12;have c12b1:=decide_eq_true c12;clear c12;replace H:=zzi H;obtain ⟨c13,H⟩:=H;have c13b0:=eq_true c13;have c13b1:=decide_eq_true c13;clear c13;obtain ⟨y332,hy332⟩:∃ y_:List Int,y_ = (([]:List Int)):=⟨_,rfl⟩;replace H:(U48.l0 kj4 x6_4 y332 0 x5_4 (x5_4.length:Int) 0) = some r:=(have h0_:=hy332;zz24);have Ny332:=Aside0.mk hy332;clear hy332;have H':=Aside0.mk H;clear H;obtain ⟨Ao14,co14,eo14⟩:=Kd.V_slice HO_5.out;subst eo14
   go_wp2_with (first|((with_reducible refine gate_dst (N:=25) rfl ?_);refine Kd.R_make0 (Kd.int .u32) _ 65 rfl (N:=25) rfl 32 _ _ rfl ji11 rfl rfl Try.underlying32 (.int .u32 0) 4 info65 rfl (zz28) (zz4) 0 (ok:=fun _=>True) (okp:=fun _=>True) trivial (fun _ hk=>hk) trivial (of_decide_eq_true (zz11)) (Nat.le_trans (Nat.mul_le_mul_right _ (of_decide_eq_true (zz11):ji11.toNat≤70368744177664)) (zz4)) (Below.refl _ _) (Nat.le_refl _) ?_;intro v333 w15 ho16 hb hg_ hnew_;clear hg_ hnew_;(first|rw [← Ny332.out] at ho16|(simp only [Int.reduceToNat] at ho16;rw [← Ny332.out] at ho16));replace HO_5:=Aside0.mk (Kd.V_elder' (have h0_:=HO_5;zz23) (Kd.R_base ho16) hb);replace HO_6:=Aside0.mk (Kd.V_elder' (have h0_:=HO_6;zz23) (Kd.R_base ho16) hb);have HO334:=Aside0.mk (Kd.R_lower ho16 (below_size (zz5)));replace HB:=Aside0.mk (below_step (zz5) hb);clear hb ho16))
   go_loopg [7,8,28] kj4 (fun kq v7 v8 v28 w'=>∃ (x7_2:List Int) (x8_2:Int) (x28_2:Int),v8 = .int .u64 x8_2∧v28 = .int .i64 x28_2∧Aside0 (U48.l0 kq x6_4 x7_2 x8_2 x5_4 (x5_4.length:Int) x28_2 = some r)∧Aside0 (kq≤kj4)∧Aside0 (Kd.V (Kd.int .u32) 65 w' w.heap.size (fun k_=>some k_ ≠ (v7:Value).ownBlock) u6 x6_4)∧Aside0 (Kd.R (Kd.int .u32) 65 w' w.heap.size (fun _=>True) v7 x7_2)∧Aside0 (Kd.V (Kd.int .u32) 65 w' w.heap.size (fun k_=>some k_ ≠ (v7:Value).ownBlock) (.slice Ao14 x5_4.length co14) x5_4)∧Aside0 (Below w.heap.size w w'))
   case atStart=>exact ⟨(y332),(0),(0),(zz2),(zz2),H',⟨Nat.le_refl _⟩,⟨(have h0_:=HO_6;zz57)⟩,⟨(have h0_:=HO334;zz25)⟩,⟨(have h0_:=HO_5;zz57)⟩,⟨zz5⟩⟩
   case round =>
    clear H';clear c12b0 c12b1 c13b0 c13b1;obtain ⟨x7_2,x8_2,x28_2,rfl,rfl,HA,HK2,HO_6,HO_7,HO_26,HB⟩:=hrel
    cases gk with
    | zero=>exact absurd HA.out (by simp [U48.l0])
    | succ k2 =>
     have H:=HA.out;clear HA;simp only [U48.l0] at H;replace H:=zzj H;rcases H with ⟨c17,H⟩|⟨c17,H⟩
     ·have c17b0:=decide_eq_true c17;clear c17;replace H:=zzi H;obtain ⟨c18,H⟩:=H;have c18b0:=decide_eq_true c18;clear c18;replace H:=zzi H;obtain ⟨c19,H⟩:=H;have c19b0:=decide_eq_true c19;clear c19;replace H:=zzj H;rcases H with ⟨c20,H⟩|⟨c20,H⟩
      ·have c20b0:=decide_eq_true c20;clear c20;replace H:=zzi H;obtain ⟨c21,H⟩:=H;have LMc21:=Aside0.mk c21;clear c21;obtain ⟨y337,hy337⟩:∃ y_:List Int,y_ = (x7_2++[(Go.bits .and .u64 (IntKind.u64.wrap ((IntKind.u64.wrap (x8_2+(IntKind.u64.wrap (rd x5_4 x28_2))))+(IntKind.u64.wrap (rd x6_4 x28_2)))) 4294967295) % 4294967296]):=⟨_,rfl⟩;replace H:(U48.l0 k2 x6_4 y337 ((IntKind.u64.wrap ((IntKind.u64.wrap (x8_2+(IntKind.u64.wrap (rd x5_4 x28_2))))+(IntKind.u64.wrap (rd x6_4 x28_2)))) / 4294967296) x5_4 (x5_4.length:Int) (wrap64 (x28_2+1))) = some r:=(have h0_:=hy337;zz24);have Ny337:=Aside0.mk hy337;clear hy337;have H':=Aside0.mk H;clear H;have p335:0≤(x28_2:Int):=of_decide_eq_true (zz11);have q335:x28_2 < (x5_4.length:Int):=of_decide_eq_true (zz11);obtain ⟨ad335,e335,hx335_0⟩:=Kd.at_int (Kd.V_reads' HO_26.out).2.2 x28_2 p335 q335
       cases e335
       replace p335:=eq_true p335;replace q335:=eq_true q335;obtain ⟨Ao22,co22,eo22⟩:=Kd.V_slice HO_6.out;subst eo22;have p336:0≤(x28_2:Int):=of_decide_eq_true (zz11);have q336:x28_2 < (x6_4.length:Int):=of_decide_eq_true (zz11);obtain ⟨ad336,e336,hx336_0⟩:=Kd.at_int (Kd.V_reads' HO_6.out).2.2 x28_2 p336 q336
       cases e336
       replace p336:=eq_true p336;replace q336:=eq_true q336
       go_wp2_with (first|((with_reducible refine gate_builtin (b:=.append) (xs:=#[.tmp 48,.tmp 52]) rfl ?_);at_builtin;refine Kd.R_append (Kd.int .u32) (w0:=w) w.heap.size rfl (.tmp 48) (.tmp 52) 32 65 (.int .u32 0) 4 rfl Try.underlying32 info65 rfl (zz28) (zz4) u7 x7_2 ((Go.bits .and .u64 (IntKind.u64.wrap ((IntKind.u64.wrap (x8_2+(IntKind.u64.wrap (rd x5_4 x28_2))))+(IntKind.u64.wrap (rd x6_4 x28_2)))) 4294967295) % 4294967296) [.int .u32 ((Go.bits .and .u64 (IntKind.u64.wrap ((IntKind.u64.wrap (x8_2+(IntKind.u64.wrap (rd x5_4 x28_2))))+(IntKind.u64.wrap (rd x6_4 x28_2)))) 4294967295) % 4294967296)] (fun _=>True) (fun _=>False) rfl rfl ?aP (fun _ hk=>hk.elim) ?aF ?aO ?aB ?aS ?aL ?_;(case aP=>exact rfl);(case aB=>exact (zz5));(case aF=>exact zz117);(case aO=>exact (zz32));(case aS=>exact (below_size (zz5)));(case aL=>have:=LMc21.out;omega);intro v338 w23 ho hb hg hat;rw [← Ny337.out] at ho;replace HO_6:=Aside0.mk (Kd.V_afterv (ok:=(fun _=>True)) (have h0_:=HO_6;zz33) hg hat);replace HO_26:=Aside0.mk (Kd.V_afterv (ok:=(fun _=>True)) (have h0_:=HO_26;zz33) hg hat);replace HB:=Aside0.mk (hb);have HO339:=Aside0.mk (ho);clear HO_7;clear ho hb hg hat))
       go_roundg k2
       case measure=>have:=HJ4.out;have:=HK2.out;omega
       case rel=>exact ⟨(y337),((IntKind.u64.wrap ((IntKind.u64.wrap (x8_2+(IntKind.u64.wrap (rd x5_4 x28_2))))+(IntKind.u64.wrap (rd x6_4 x28_2)))) / 4294967296),(wrap64 (x28_2+1)),(zz2),(zz2),H',⟨by have:=HJ4.out;have:=HK2.out;omega⟩,⟨(have h0_:=HO_6;zz57)⟩,⟨(have h0_:=HO339;zz25)⟩,⟨(have h0_:=HO_26;zz57)⟩,⟨zz5⟩⟩
      ·have c20b0:=decide_eq_false c20;clear c20;replace H:=zzi H;obtain ⟨c24,H⟩:=H;have LMc24:=Aside0.mk c24;clear c24;obtain ⟨y340,hy340⟩:∃ y_:List Int,y_ = (x7_2++[(Go.bits .and .u64 (IntKind.u64.wrap (x8_2+(IntKind.u64.wrap (rd x5_4 x28_2)))) 4294967295) % 4294967296]):=⟨_,rfl⟩;replace H:(U48.l0 k2 x6_4 y340 ((IntKind.u64.wrap (x8_2+(IntKind.u64.wrap (rd x5_4 x28_2)))) / 4294967296) x5_4 (x5_4.length:Int) (wrap64 (x28_2+1))) = some r:=(have h0_:=hy340;zz24);have Ny340:=Aside0.mk hy340;clear hy340;have H':=Aside0.mk H;clear H;have p335:0≤(x28_2:Int):=of_decide_eq_true (zz11);have q335:x28_2 < (x5_4.length:Int):=of_decide_eq_true (zz11);obtain ⟨ad335,e335,hx335_0⟩:=Kd.at_int (Kd.V_reads' HO_26.out).2.2 x28_2 p335 q335
       cases e335
       replace p335:=eq_true p335;replace q335:=eq_true q335;obtain ⟨Ao25,co25,eo25⟩:=Kd.V_slice HO_6.out;subst eo25
       go_wp2_with (first|((with_reducible refine gate_builtin (b:=.append) (xs:=#[.tmp 48,.tmp 52]) rfl ?_);at_builtin;refine Kd.R_append (Kd.int .u32) (w0:=w) w.heap.size rfl (.tmp 48) (.tmp 52) 32 65 (.int .u32 0) 4 rfl Try.underlying32 info65 rfl (zz28) (zz4) u7 x7_2 ((Go.bits .and .u64 (IntKind.u64.wrap (x8_2+(IntKind.u64.wrap (rd x5_4 x28_2)))) 4294967295) % 4294967296) [.int .u32 ((Go.bits .and .u64 (IntKind.u64.wrap (x8_2+(IntKind.u64.wrap (rd x5_4 x28_2)))) 4294967295) % 4294967296)] (fun _=>True) (fun _=>False) rfl rfl ?aP (fun _ hk=>hk.elim) ?aF ?aO ?aB ?aS ?aL ?_;(case aP=>exact rfl);(case aB=>exact (zz5));(case aF=>exact zz117);(case aO=>exact (zz32));(case aS=>exact (below_size (zz5)));(case aL=>have:=LMc24.out;omega);intro v341 w26 ho hb hg hat;rw [← Ny340.out] at ho;replace HO_6:=Aside0.mk (Kd.V_afterv (ok:=(fun _=>True)) (have h0_:=HO_6;zz33) hg hat);replace HO_26:=Aside0.mk (Kd.V_afterv (ok:=(fun _=>True)) (have h0_:=HO_26;zz33) hg hat);replace HB:=Aside0.mk (hb);have HO342:=Aside0.mk (ho);clear HO_7;clear ho hb hg hat))
       go_roundg k2
       case measure=>have:=HJ4.out;have:=HK2.out;omega
       case rel=>exact ⟨(y340),((IntKind.u64.wrap (x8_2+(IntKind.u64.wrap (rd x5_4 x28_2)))) / 4294967296),(wrap64 (x28_2+1)),(zz2),(zz2),H',⟨by have:=HJ4.out;have:=HK2.out;omega⟩,⟨(have h0_:=HO_6;zz57)⟩,⟨(have h0_:=HO342;zz25)⟩,⟨(have h0_:=HO_26;zz57)⟩,⟨zz5⟩⟩
     ·have c17b0:=decide_eq_false c17;clear c17;replace H:=zzj H;rcases H with ⟨c27,H⟩|⟨c27,H⟩
      ·have c27b0:=decide_eq_true c27;clear c27;replace H:=zzi H;obtain ⟨c28,H⟩:=H;have LMc28:=Aside0.mk c28;clear c28;obtain ⟨y343,hy343⟩:∃ y_:List Int,y_ = (x7_2++[(x8_2) % 4294967296]):=⟨_,rfl⟩;replace H:(some y343) = some r:=(have h0_:=hy343;zz24);have Ny343:=Aside0.mk hy343;clear hy343;obtain rfl:=Option.some.inj H
       go_wp2_with (first|((with_reducible refine gate_builtin (b:=.append) (xs:=#[.tmp 59,.tmp 62]) rfl ?_);at_builtin;refine Kd.R_append (Kd.int .u32) (w0:=w) w.heap.size rfl (.tmp 59) (.tmp 62) 32 65 (.int .u32 0) 4 rfl Try.underlying32 info65 rfl (zz28) (zz4) u7 x7_2 ((x8_2) % 4294967296) [.int .u32 ((x8_2) % 4294967296)] (fun _=>True) (fun _=>False) rfl rfl ?aP (fun _ hk=>hk.elim) ?aF ?aO ?aB ?aS ?aL ?_;(case aP=>exact rfl);(case aB=>exact (zz5));(case aF=>exact zz117);(case aO=>exact (zz32));(case aS=>exact (below_size (zz5)));(case aL=>have:=LMc28.out;omega);intro v344 w29 ho hb hg hat;rw [← Ny343.out] at ho;replace HO_6:=Aside0.mk (Kd.V_afterv (ok:=(fun _=>True)) (have h0_:=HO_6;zz33) hg hat);replace HO_26:=Aside0.mk (Kd.V_afterv (ok:=(fun _=>True)) (have h0_:=HO_26;zz33) hg hat);replace HB:=Aside0.mk (hb);have HO345:=Aside0.mk (ho);clear HO_7;clear ho hb hg hat))
       go_ret
       exact ⟨_,(have h0_:=hji11;zz16),(have h0_:=HO345;zz25),zz5⟩
      ·have c27b0:=decide_eq_false c27;clear c27;obtain rfl:=Option.some.inj H
       go_wp2
       go_ret
       exact ⟨_,(have h0_:=hji11;zz16),zz32,zz5⟩
def U7.l0:Nat→List Int→List (List Int)→Int→Int→Option (List Int)
 | 0,_,_,_,_=>none
 | k+1,x3,x6,x7,x8=>if x8 < x7 then (if 0≤x8 then (if x8 < (x6.length:Int) then ((U48.f k x3 (rd_L5 x6 x8)).bind fun t347=>(U7.l0 k t347 x6 x7 (wrap64 (x8+1)))) else (none)) else (none)) else (some x3)
def U7.f (k:Nat) (l0:List (List Int)):Option (List Int):=U7.l0 k ([]:List Int) l0 (l0.length:Int) 0
theorem zm17_1 {P:Prop} (h:P:=by repeat' first|(with_reducible first|exact ih0 ..|exact U48.mono ..|exact LeO.refl _|exact LeO.none _|refine LeO.ite ?_ ?_|refine LeO.bind ?_ (fun _=>?_))|exact ih0 ..|exact U48.mono ..|exact LeO.none _|refine LeO.ite ?_ ?_|refine LeO.bind ?_ (fun _=>?_)):P:=h
theorem U7.mono_l:∀ k,(∀ y0 y1 y2 y3,LeO (U7.l0 k y0 y1 y2 y3) (U7.l0 (k+1) y0 y1 y2 y3))
 | 0=>fun _ _ _ _ r h=>by simp [U7.l0] at h
 | k+1=>by
  have ih0:=U7.mono_l k
  ·intro y0 y1 y2 y3;unfold U7.l0
   exact zm17_1
theorem U7.mono:∀ a0 k,LeO (U7.f k a0) (U7.f (k+1) a0):=by
 intro a0 k;have ih0:=U7.mono_l k;unfold U7.f
 exact zm17_1
set_option maxHeartbeats 8000000 in
set_option maxRecDepth 100000 in
theorem U7.calls (k:Nat) (A0:Option Addr) (c0:Nat) (l0:List (List Int)) (r:List Int) (w:World) (hr0:Kd.C (Kd.slice 65 (Kd.int .u32)) w A0 l0.length l0) (hc0:l0.length≤c0) (h:U7.f k l0 = some r) :
  Calls Try.prog 40 #[.slice A0 l0.length c0] w fun e w'=>∃ v0_:Value,e = .returned (v0_)∧Kd.R (Kd.int .u32) 65 w' w.heap.size (fun _=>True) v0_ r∧Below w.heap.size w w':=by
 have HR0:=Aside0.mk hr0;have HC0:=Aside0.mk hc0;clear hr0 hc0;have HB:=Aside0.mk (Below.refl w.heap.size w);have H:(U7.l0 k ([]:List Int) l0 (l0.length:Int) 0) = some r:=h;clear h;have H':=Aside0.mk H;clear H;go_enter Try.func40,Try.ntmps40
 go_wp2
 go_loopg [3,8] k (fun kq v3 v8 w'=>∃ (x3_1:List Int) (x8_1:Int),v8 = .int .i64 x8_1∧Aside0 (U7.l0 kq x3_1 l0 (l0.length:Int) x8_1 = some r)∧Aside0 (kq≤k)∧Aside0 (Kd.R (Kd.int .u32) 65 w' w.heap.size (fun _=>True) v3 x3_1)∧Aside0 (Below w.heap.size w w'))
 case atStart=>exact ⟨(([]:List Int)),(0),(zz2),H',⟨Nat.le_refl _⟩,⟨zz55⟩,⟨zz5⟩⟩
 case round =>
  clear H';obtain ⟨x3_1,x8_1,rfl,HA,HK1,HO_3,HB⟩:=hrel
  cases gk with
  | zero=>exact absurd HA.out (by simp [U7.l0])
  | succ k1 =>
   have H:=HA.out;clear HA;simp only [U7.l0] at H;replace H:=zzj H;rcases H with ⟨c2,H⟩|⟨c2,H⟩
   ·have c2b0:=decide_eq_true c2;clear c2;replace H:=zzi H;obtain ⟨c3,H⟩:=H;have c3b0:=decide_eq_true c3;clear c3;replace H:=zzi H;obtain ⟨c4,H⟩:=H;have c4b0:=decide_eq_true c4;clear c4;replace H:=zzb H;obtain ⟨t347,A5,H⟩:=H;have H':=Aside0.mk H;clear H;have p346:0≤(x8_1:Int):=of_decide_eq_true (zz11);have q346:x8_1 < (l0.length:Int):=of_decide_eq_true (zz11);obtain ⟨ad346,A346_0,c346_0,e346,hx346_0,hl346_0,hi346_0⟩:=at_L5 HR0.out x8_1 p346 q346
    cases e346
    replace hx346_0:=(HB.out.cell (World.block_lt_of_cell? w _ hx346_0)).trans hx346_0;have HR346_0:=Aside0.mk hi346_0;have HC346_0:=Aside0.mk hl346_0;clear hi346_0 hl346_0;replace p346:=eq_true p346;replace q346:=eq_true q346;obtain ⟨Ao6,co6,eo6⟩:=Kd.R_slice HO_3.out;subst eo6
    go_wp2_with (first|((with_reducible refine gate_callee (f:=62) rfl ?_);refine goesL_ (some 14) rfl rfl Try.func62 (zz0) rfl #[.slice Ao6 x3_1.length co6,.slice A346_0 (rd_L5 l0 x8_1).length c346_0] rfl (zz19) ?_;(with_reducible refine (U48.calls k1 _ _ x3_1 _ _ (rd_L5 l0 x8_1) t347 _ ?_ ?_ ?_ ?_ A5.out).mono ?_);(exact (have h0_:=HO_3;zz121));(exact (have h0_:=HO_3;zz122));(exact (have h0_:=HR346_0;zz110));exact HC346_0.out;rintro e w7 ⟨v348,rfl,ho0,hb⟩;refine ⟨_,rfl,?_⟩;have HO349:=Aside0.mk (Kd.R_lower (Kd.R_new' ho0 (Kd.R_lt (have h0_:=HO_3;zz25))) (below_size (zz5)));replace HO_3:=Aside0.mk (Kd.R_elder' (have h0_:=HO_3;zz25) (Kd.R_base ho0) hb);replace HB:=Aside0.mk (below_step (zz5) hb);(try clear hb);(try clear ho0)))
    go_roundg k1
    case measure=>have:=HK1.out;omega
    case rel=>exact ⟨(t347),(wrap64 (x8_1+1)),(zz2),H',⟨zz12⟩,⟨(have h0_:=HO349;zz43)⟩,⟨zz5⟩⟩
   ·have c2b0:=decide_eq_false c2;clear c2;obtain rfl:=Option.some.inj H
    go_wp2
    go_ret
    exact ⟨_,zz6,(have h0_:=HO_3;zz25),zz5⟩
end Go.Proofs.Ytmcegphcjphdcaa.QA
