import Derived.Test.YtmcegphcjphdcaaXStQAx0
import Derived.Test.YtmcegphcjphdcaaXStQAx2
namespace Go.Proofs.Ytmcegphcjphdcaa.QA
open Go.RowKit Go.Proofs.YtmcegphcjphdcaaW.PrintWords Go.Proofs.YtmcegphcjphdcaaW.PrintLast Go.Proofs.YtmcegphcjphdcaaW.PrintMore
attribute [local go_sem] max2_int min2_int max_two min_two max_three min_three max_four min_four
set_option linter.unusedVariables false
set_option linter.unusedSimpArgs false
mutual
def U24.j0:Nat→List Int→List Int→Option (List Int)
 | 0,_,_=>none
 | k+1,x5,x6=>if 0≤(wrap64 ((x5.length:Int)+1)) then (if (wrap64 ((x5.length:Int)+1):Int).toNat≤70368744177664 then (U24.l0 k x6 (([]:List Int)) 0 x5 (x5.length:Int) 0) else (none)) else (none)
def U24.l0:Nat→List Int→List Int→Int→List Int→Int→Int→Option (List Int)
 | 0,_,_,_,_,_,_=>none
 | k+1,x6,x7,x8,x26,x27,x28=>if x28 < x27 then (if 0≤x28 then (if x28 < (x26.length:Int) then (if x28 < (x6.length:Int) then (if x7.length < 35184372088832 then (U24.l0 k x6 (x7++[(Go.bits .and .u64 (IntKind.u64.wrap ((IntKind.u64.wrap (x8+(IntKind.u64.wrap (rd x26 x28))))+(IntKind.u64.wrap (rd x6 x28)))) 4294967295) % 4294967296]) ((IntKind.u64.wrap ((IntKind.u64.wrap (x8+(IntKind.u64.wrap (rd x26 x28))))+(IntKind.u64.wrap (rd x6 x28)))) / 4294967296) x26 x27 (wrap64 (x28+1))) else (none)) else (if x7.length < 35184372088832 then (U24.l0 k x6 (x7++[(Go.bits .and .u64 (IntKind.u64.wrap (x8+(IntKind.u64.wrap (rd x26 x28)))) 4294967295) % 4294967296]) ((IntKind.u64.wrap (x8+(IntKind.u64.wrap (rd x26 x28)))) / 4294967296) x26 x27 (wrap64 (x28+1))) else (none))) else (none)) else (none)) else (if x8 > 0 then (if x7.length < 35184372088832 then (some (x7++[(x8) % 4294967296])) else (none)) else (some x7))
end
def U24.f (k:Nat) (l0:List Int) (l1:List Int):Option (List Int):=(U28.f k l0).bind fun t326=>((U28.f k l1).bind fun t329=>(if (t326.length:Int) < (t329.length:Int) then (U24.j0 k t329 t326) else (U24.j0 k t326 t329)))
theorem zm17_0 {P:Prop} (h:P:=by repeat' first|(with_reducible first|exact ih0 ..|exact ih1 ..|exact U28.mono ..|exact LeO.refl _|exact LeO.none _|refine LeO.ite ?_ ?_|refine LeO.bind ?_ (fun _=>?_))|exact ih0 ..|exact ih1 ..|exact U28.mono ..|exact LeO.none _|refine LeO.ite ?_ ?_|refine LeO.bind ?_ (fun _=>?_)):P:=h
theorem U24.mono_l:∀ k,(∀ y0 y1,LeO (U24.j0 k y0 y1) (U24.j0 (k+1) y0 y1))∧(∀ y0 y1 y2 y3 y4 y5,LeO (U24.l0 k y0 y1 y2 y3 y4 y5) (U24.l0 (k+1) y0 y1 y2 y3 y4 y5))
 | 0=>⟨fun _ _ r h=>by simp [U24.j0] at h,fun _ _ _ _ _ _ r h=>by simp [U24.l0] at h⟩
 | k+1=>by
  obtain ⟨ih0,ih1⟩:=U24.mono_l k;refine ⟨?_,?_⟩
  ·intro y0 y1;unfold U24.j0
   exact zm17_0
  ·intro y0 y1 y2 y3 y4 y5;unfold U24.l0
   exact zm17_0
theorem U24.mono:∀ a0 a1 k,LeO (U24.f k a0 a1) (U24.f (k+1) a0 a1):=by
 intro a0 a1 k;obtain ⟨ih0,ih1⟩:=U24.mono_l k;unfold U24.f
 exact zm17_0
set_option maxHeartbeats 8000000 in
set_option maxRecDepth 100000 in
theorem U24.calls (k:Nat) (A0:Option Addr) (c0:Nat) (l0:List Int) (A1:Option Addr) (c1:Nat) (l1:List Int) (r:List Int) (w:World) (hr0:Kd.C (Kd.int .u32) w A0 l0.length l0) (hc0:l0.length≤c0) (hr1:Kd.C (Kd.int .u32) w A1 l1.length l1) (hc1:l1.length≤c1) (h:U24.f k l0 l1 = some r) :
  Calls Try.prog 62 #[.slice A0 l0.length c0,.slice A1 l1.length c1] w fun e w'=>∃ v0_:Value,e = .returned (v0_)∧Kd.R (Kd.int .u32) 65 w' w.heap.size (fun _=>True) v0_ r∧Below w.heap.size w w':=by
 have HR0:=Aside0.mk hr0;have HC0:=Aside0.mk hc0;clear hr0 hc0;have HR1:=Aside0.mk hr1;have HC1:=Aside0.mk hc1;clear hr1 hc1;have HB:=Aside0.mk (Below.refl w.heap.size w);have H:((U28.f k l0).bind fun t326=>((U28.f k l1).bind fun t329=>(if (t326.length:Int) < (t329.length:Int) then (U24.j0 k t329 t326) else (U24.j0 k t326 t329)))) = some r:=h;clear h;replace H:=Option.bind_eq_some_iff.mp H;obtain ⟨t326,A30,H⟩:=H;have A3:=Aside0.mk A30;clear A30;replace H:=Option.bind_eq_some_iff.mp H;obtain ⟨t329,A40,H⟩:=H;have A4:=Aside0.mk A40;clear A40;have HC5:=Aside0.mk H;clear H;go_enter Try.func62,Try.ntmps62
 go_upto_if 19 with (first|((with_reducible refine gate_callee (f:=44) rfl ?_);refine goesL_ (some 12) rfl rfl Try.func44 (zz0) rfl #[.slice A0 l0.length c0] rfl (zz16) ?_;(with_reducible refine (U28.calls k (fun k_=>k_ < w.heap.size) _ _ l0 t326 _ ?side1 A3.out).mono ?_);(case side1=>exact zz98);rintro e w6 ⟨v327,rfl,ho0,hb⟩;refine ⟨_,rfl,?_⟩;have HO328:=Aside0.mk (Kd.V_lower (Kd.V_mono (ok':=fun k_=>True) ho0 (fun k_ hk_=>trivial)) (below_size (zz5)));replace HB:=Aside0.mk (below_step (zz5) hb);(try clear hb);(try clear hb2);(try clear hk);(try clear hi);(try clear ho0))|((with_reducible refine gate_callee (f:=44) rfl ?_);refine goesL_ (some 14) rfl rfl Try.func44 (zz0) rfl #[.slice A1 l1.length c1] rfl (zz16) ?_;(with_reducible refine (U28.calls k (fun k_=>k_ < w.heap.size) _ _ l1 t329 _ ?side1 A4.out).mono ?_);(case side1=>exact zz108);rintro e w7 ⟨v330,rfl,ho0,hb⟩;refine ⟨_,rfl,?_⟩;replace HO328:=Aside0.mk (Kd.V_below (zz57) hb);have HO331:=Aside0.mk (Kd.V_lower (Kd.V_mono (ok':=fun k_=>True) ho0 (fun k_ hk_=>trivial)) (below_size (zz5)));replace HB:=Aside0.mk (below_step (zz5) hb);(try clear hb);(try clear hb2);(try clear hk);(try clear hi);(try clear ho0);obtain ⟨Ao8,co8,eo8⟩:=Kd.V_slice HO328.out;subst eo8;obtain ⟨Ao9,co9,eo9⟩:=Kd.V_slice HO331.out;subst eo9))
 (try simp only [Act.put,List.setIfInBounds_toArray,List.set_cons_zero,List.set_cons_succ])
 go_cut [5,6] (fun v5 v6 wc=>∃ (kq:Nat) (x5_4:List Int) (x6_4:List Int),Aside0 (U24.j0 kq x5_4 x6_4 = some r)∧Aside0 (kq≤k)∧Aside0 (Kd.V (Kd.int .u32) 65 wc w.heap.size (fun _=>True) v5 x5_4)∧Aside0 (Kd.V (Kd.int .u32) 65 wc w.heap.size (fun _=>True) v6 x6_4)∧Aside0 (Below w.heap.size w wc))
 case first =>
  have H:=HC5.out;clear HC5;by_cases c10:(t326.length:Int) < (t329.length:Int)
  ·rw [if_pos c10] at H;have c10b0:=decide_eq_true c10;have c10b1:decide (t326.length < t329.length) = true:=decide_eq_true (Int.ofNat_lt.mp c10);clear c10
   (first|rw [c10b0]|rw [c10b1]|(simp only [i64_w,i32_w];rw [c10b0])|skip)
   have H':=Aside0.mk H;clear H
   go_wp2
   go_meet
   case rel=>exact ⟨_,(t329),(t326),H',⟨zz18⟩,⟨by (with_reducible repeat (first|apply Kd.V_alloc|apply Kd.V_drewN|apply Kd.V_drew));exact HO331.out⟩,⟨zz57⟩,⟨zz5⟩⟩
  ·rw [if_neg c10] at H;have c10b0:=decide_eq_false c10;have c10b1:decide (t326.length < t329.length) = false:=decide_eq_false (fun h=>c10 (Int.ofNat_lt.mpr h));clear c10
   (first|rw [c10b0]|rw [c10b1]|(simp only [i64_w,i32_w];rw [c10b0])|skip)
   have H':=Aside0.mk H;clear H
   go_wp2
   go_meet
   case rel=>exact ⟨_,(t326),(t329),H',⟨zz18⟩,⟨zz57⟩,⟨by (with_reducible repeat (first|apply Kd.V_alloc|apply Kd.V_drewN|apply Kd.V_drew));exact HO331.out⟩,⟨zz5⟩⟩
 case rest =>
  clear HC5;(try clear c1);(try clear p2);(try clear c4);(try clear c6);(try clear c10);(try clear c10b0);(try clear c10b1);obtain ⟨kq,x5_4,x6_4,HA,HJ4,HO_5,HO_6,HB⟩:=hcut
  cases kq with
  | zero=>exact absurd HA.out (by simp [U24.j0])
  | succ kj4 =>
   have H:=HA.out;clear HA;simp only [U24.j0] at H;obtain ⟨ji11,hji11⟩:∃ j_:Int,(wrap64 ((x5_4.length:Int)+1)) = j_:=⟨_,rfl⟩
   replace H:(if 0≤(ji11) then (if (ji11:Int).toNat≤70368744177664 then (U24.l0 kj4 x6_4 (([]:List Int)) 0 x5_4 (x5_4.length:Int) 0) else (none)) else (none)) = some r:=by first|(rw [hji11] at H;exact H)|(simp only [hji11] at H ⊢;exact H)
   have hji11w:(IntKind.i64.wrap ((x5_4.length:Int)+1)) = ji11:=(i64_w _).trans hji11;by_cases c12:0≤(ji11)
   ·rw [if_pos c12] at H;have c12b0:=eq_true c12;have c12b1:=decide_eq_true c12;clear c12;by_cases c13:(ji11:Int).toNat≤70368744177664
    ·rw [if_pos c13] at H;have c13b0:=eq_true c13;have c13b1:=decide_eq_true c13;clear c13;obtain ⟨y332,hy332⟩:∃ y_:List Int,y_ = (([]:List Int)):=⟨_,rfl⟩;have hy_:=hy332;replace H:(U24.l0 kj4 x6_4 y332 0 x5_4 (x5_4.length:Int) 0) = some r:=zzh;clear hy_;have Ny332:=Aside0.mk hy332;clear hy332;have H':=Aside0.mk H;clear H;obtain ⟨Ao14,co14,eo14⟩:=Kd.V_slice HO_5.out;subst eo14
     go_wp2_with (first|((with_reducible refine gate_dst (N:=25) rfl ?_);refine Kd.R_make0 (Kd.int .u32) _ 65 rfl (N:=25) rfl 32 _ _ rfl ji11 rfl rfl Try.underlying32 (.int .u32 0) 4 info65 rfl (zz28) (zz4) 0 (ok:=fun _=>True) (okp:=fun _=>True) trivial (fun _ hk=>hk) trivial (of_decide_eq_true (zz11)) (Nat.le_trans (Nat.mul_le_mul_right _ (of_decide_eq_true (zz11):ji11.toNat≤70368744177664)) (zz4)) (Below.refl _ _) (Nat.le_refl _) ?_;intro v333 w15 ho16 hb hg_ hnew_;clear hg_ hnew_;(first|rw [← Ny332.out] at ho16|(simp only [Int.reduceToNat] at ho16;rw [← Ny332.out] at ho16));replace HO_5:=Aside0.mk (Kd.V_elder' (zz30) (Kd.R_base ho16) hb);replace HO_6:=Aside0.mk (Kd.V_elder' (zz31) (Kd.R_base ho16) hb);have HO334:=Aside0.mk (Kd.R_lower ho16 (below_size (zz5)));replace HB:=Aside0.mk (below_step (zz5) hb);clear hb ho16))
     go_loopg [7,8,28] kj4 (fun kq v7 v8 v28 w'=>∃ (x7_2:List Int) (x8_2:Int) (x28_2:Int),v8 = .int .u64 x8_2∧v28 = .int .i64 x28_2∧Aside0 (U24.l0 kq x6_4 x7_2 x8_2 x5_4 (x5_4.length:Int) x28_2 = some r)∧Aside0 (kq≤kj4)∧Aside0 (Kd.V (Kd.int .u32) 65 w' w.heap.size (fun k_=>some k_ ≠ (v7:Value).ownBlock) u6 x6_4)∧Aside0 (Kd.R (Kd.int .u32) 65 w' w.heap.size (fun _=>True) v7 x7_2)∧Aside0 (Kd.V (Kd.int .u32) 65 w' w.heap.size (fun k_=>some k_ ≠ (v7:Value).ownBlock) (.slice Ao14 x5_4.length co14) x5_4)∧Aside0 (Below w.heap.size w w'))
     case atStart=>exact ⟨(y332),(0),(0),(zz2),(zz2),H',⟨Nat.le_refl _⟩,⟨zz58⟩,⟨by (with_reducible repeat (first|apply Kd.R_alloc|apply Kd.R_drewN|apply Kd.R_drew));exact HO334.out⟩,⟨by (with_reducible repeat (first|apply Kd.V_alloc|apply Kd.V_drewN|apply Kd.V_drew));exact Kd.V_mono HO_5.out (fun _ hk=>hk.2)⟩,⟨zz5⟩⟩
     case round =>
      clear H'
      (try clear c1);(try clear p2);(try clear c4);(try clear c6);(try clear p6);(try clear c10);(try clear c10b0);(try clear c10b1);(try clear c12);(try clear c12b0);(try clear c12b1);(try clear c13);(try clear c13b0);(try clear c13b1);(try clear p2)
      obtain ⟨x7_2,x8_2,x28_2,rfl,rfl,HA,HK2,HO_6,HO_7,HO_26,HB⟩:=hrel
      cases gk with
      | zero=>exact absurd HA.out (by simp [U24.l0])
      | succ k2 =>
       have H:=HA.out;clear HA;simp only [U24.l0] at H;by_cases c17:x28_2 < (x5_4.length:Int)
       ·rw [if_pos c17] at H;have c17b0:=decide_eq_true c17;clear c17;by_cases c18:0≤x28_2
        ·rw [if_pos c18] at H;have c18b0:=decide_eq_true c18;clear c18;by_cases c19:x28_2 < (x5_4.length:Int)
         ·rw [if_pos c19] at H;have c19b0:=decide_eq_true c19;clear c19;by_cases c20:x28_2 < (x6_4.length:Int)
          ·rw [if_pos c20] at H;have c20b0:=decide_eq_true c20;clear c20;by_cases c21:x7_2.length < 35184372088832
           ·rw [if_pos c21] at H;have LMc21:=Aside0.mk c21;clear c21;obtain ⟨y337,hy337⟩:∃ y_:List Int,y_ = (x7_2++[(Go.bits .and .u64 (IntKind.u64.wrap ((IntKind.u64.wrap (x8_2+(IntKind.u64.wrap (rd x5_4 x28_2))))+(IntKind.u64.wrap (rd x6_4 x28_2)))) 4294967295) % 4294967296]):=⟨_,rfl⟩;have hy_:=hy337;replace H:(U24.l0 k2 x6_4 y337 ((IntKind.u64.wrap ((IntKind.u64.wrap (x8_2+(IntKind.u64.wrap (rd x5_4 x28_2))))+(IntKind.u64.wrap (rd x6_4 x28_2)))) / 4294967296) x5_4 (x5_4.length:Int) (wrap64 (x28_2+1))) = some r:=zzh;clear hy_;have Ny337:=Aside0.mk hy337;clear hy337;have H':=Aside0.mk H;clear H;have p335:0≤(x28_2:Int):=of_decide_eq_true (zz11);have q335:x28_2 < (x5_4.length:Int):=of_decide_eq_true (zz11);obtain ⟨ad335,e335,hx335_0⟩:=Kd.at_int (Kd.V_reads' HO_26.out).2.2 x28_2 p335 q335
            cases e335
            replace p335:=eq_true p335;replace q335:=eq_true q335;obtain ⟨Ao22,co22,eo22⟩:=Kd.V_slice HO_6.out;subst eo22;have p336:0≤(x28_2:Int):=of_decide_eq_true (zz11);have q336:x28_2 < (x6_4.length:Int):=of_decide_eq_true (zz11);obtain ⟨ad336,e336,hx336_0⟩:=Kd.at_int (Kd.V_reads' HO_6.out).2.2 x28_2 p336 q336
            cases e336
            replace p336:=eq_true p336;replace q336:=eq_true q336
            go_wp2_with (first|((with_reducible refine gate_builtin (b:=.append) (xs:=#[.tmp 48,.tmp 52]) rfl ?_);at_builtin;refine Kd.R_append (Kd.int .u32) (w0:=w) w.heap.size rfl (.tmp 48) (.tmp 52) 32 65 (.int .u32 0) 4 rfl Try.underlying32 info65 rfl (zz28) (zz4) u7 x7_2 ((Go.bits .and .u64 (IntKind.u64.wrap ((IntKind.u64.wrap (x8_2+(IntKind.u64.wrap (rd x5_4 x28_2))))+(IntKind.u64.wrap (rd x6_4 x28_2)))) 4294967295) % 4294967296) [.int .u32 ((Go.bits .and .u64 (IntKind.u64.wrap ((IntKind.u64.wrap (x8_2+(IntKind.u64.wrap (rd x5_4 x28_2))))+(IntKind.u64.wrap (rd x6_4 x28_2)))) 4294967295) % 4294967296)] (fun _=>True) (fun _=>False) rfl rfl ?aP (fun _ hk=>hk.elim) ?aF ?aO ?aB ?aS ?aL ?_;(case aP=>exact rfl);(case aB=>exact (zz5));(case aF=>exact zz99);(case aO=>exact (zz32));(case aS=>exact (below_size (zz5)));(case aL=>have:=LMc21.out;omega);intro v338 w23 ho hb hg hat;rw [← Ny337.out] at ho;have n0_:=Aside0.mk (Kd.V_afterv (ok:=(fun _=>True)) (zz59) hg hat);have n1_:=Aside0.mk (Kd.V_afterv (ok:=(fun _=>True)) (zz60) hg hat);have n2_:=Aside0.mk (hb);have n3_:=Aside0.mk (ho);clear HO_6;clear HO_26;clear HB;clear HO_7;have HO_6:=n0_;have HO_26:=n1_;have HB:=n2_;have HO339:=n3_;clear n0_ n1_ n2_ n3_;clear ho hb hg hat))
            go_roundg k2
            case measure=>have:=HJ4.out;have:=HK2.out;omega
            case rel=>exact ⟨(y337),((IntKind.u64.wrap ((IntKind.u64.wrap (x8_2+(IntKind.u64.wrap (rd x5_4 x28_2))))+(IntKind.u64.wrap (rd x6_4 x28_2)))) / 4294967296),(wrap64 (x28_2+1)),(zz2),(zz2),H',⟨by have:=HJ4.out;have:=HK2.out;omega⟩,⟨zz58⟩,⟨by (with_reducible repeat (first|apply Kd.R_alloc|apply Kd.R_drewN|apply Kd.R_drew));exact HO339.out⟩,⟨by (with_reducible repeat (first|apply Kd.V_alloc|apply Kd.V_drewN|apply Kd.V_drew));exact Kd.V_mono HO_26.out (fun _ hk=>hk.2)⟩,⟨zz5⟩⟩
           ·rw [if_neg c21] at H
            exact absurd H (zz14)
          ·rw [if_neg c20] at H;have c20b0:=decide_eq_false c20;clear c20;by_cases c24:x7_2.length < 35184372088832
           ·rw [if_pos c24] at H;have LMc24:=Aside0.mk c24;clear c24;obtain ⟨y340,hy340⟩:∃ y_:List Int,y_ = (x7_2++[(Go.bits .and .u64 (IntKind.u64.wrap (x8_2+(IntKind.u64.wrap (rd x5_4 x28_2)))) 4294967295) % 4294967296]):=⟨_,rfl⟩;have hy_:=hy340;replace H:(U24.l0 k2 x6_4 y340 ((IntKind.u64.wrap (x8_2+(IntKind.u64.wrap (rd x5_4 x28_2)))) / 4294967296) x5_4 (x5_4.length:Int) (wrap64 (x28_2+1))) = some r:=zzh;clear hy_;have Ny340:=Aside0.mk hy340;clear hy340;have H':=Aside0.mk H;clear H;have p335:0≤(x28_2:Int):=of_decide_eq_true (zz11);have q335:x28_2 < (x5_4.length:Int):=of_decide_eq_true (zz11);obtain ⟨ad335,e335,hx335_0⟩:=Kd.at_int (Kd.V_reads' HO_26.out).2.2 x28_2 p335 q335
            cases e335
            replace p335:=eq_true p335;replace q335:=eq_true q335;obtain ⟨Ao25,co25,eo25⟩:=Kd.V_slice HO_6.out;subst eo25
            go_wp2_with (first|((with_reducible refine gate_builtin (b:=.append) (xs:=#[.tmp 48,.tmp 52]) rfl ?_);at_builtin;refine Kd.R_append (Kd.int .u32) (w0:=w) w.heap.size rfl (.tmp 48) (.tmp 52) 32 65 (.int .u32 0) 4 rfl Try.underlying32 info65 rfl (zz28) (zz4) u7 x7_2 ((Go.bits .and .u64 (IntKind.u64.wrap (x8_2+(IntKind.u64.wrap (rd x5_4 x28_2)))) 4294967295) % 4294967296) [.int .u32 ((Go.bits .and .u64 (IntKind.u64.wrap (x8_2+(IntKind.u64.wrap (rd x5_4 x28_2)))) 4294967295) % 4294967296)] (fun _=>True) (fun _=>False) rfl rfl ?aP (fun _ hk=>hk.elim) ?aF ?aO ?aB ?aS ?aL ?_;(case aP=>exact rfl);(case aB=>exact (zz5));(case aF=>exact zz99);(case aO=>exact (zz32));(case aS=>exact (below_size (zz5)));(case aL=>have:=LMc24.out;omega);intro v341 w26 ho hb hg hat;rw [← Ny340.out] at ho;have n0_:=Aside0.mk (Kd.V_afterv (ok:=(fun _=>True)) (zz59) hg hat);have n1_:=Aside0.mk (Kd.V_afterv (ok:=(fun _=>True)) (zz60) hg hat);have n2_:=Aside0.mk (hb);have n3_:=Aside0.mk (ho);clear HO_6;clear HO_26;clear HB;clear HO_7;have HO_6:=n0_;have HO_26:=n1_;have HB:=n2_;have HO342:=n3_;clear n0_ n1_ n2_ n3_;clear ho hb hg hat))
            go_roundg k2
            case measure=>have:=HJ4.out;have:=HK2.out;omega
            case rel=>exact ⟨(y340),((IntKind.u64.wrap (x8_2+(IntKind.u64.wrap (rd x5_4 x28_2)))) / 4294967296),(wrap64 (x28_2+1)),(zz2),(zz2),H',⟨by have:=HJ4.out;have:=HK2.out;omega⟩,⟨zz58⟩,⟨by (with_reducible repeat (first|apply Kd.R_alloc|apply Kd.R_drewN|apply Kd.R_drew));exact HO342.out⟩,⟨by (with_reducible repeat (first|apply Kd.V_alloc|apply Kd.V_drewN|apply Kd.V_drew));exact Kd.V_mono HO_26.out (fun _ hk=>hk.2)⟩,⟨zz5⟩⟩
           ·rw [if_neg c24] at H
            exact absurd H (zz14)
         ·rw [if_neg c19] at H
          exact absurd H (zz14)
        ·rw [if_neg c18] at H
         exact absurd H (zz14)
       ·rw [if_neg c17] at H;have c17b0:=decide_eq_false c17;clear c17;by_cases c27:x8_2 > 0
        ·rw [if_pos c27] at H;have c27b0:=decide_eq_true c27;clear c27;by_cases c28:x7_2.length < 35184372088832
         ·rw [if_pos c28] at H;have LMc28:=Aside0.mk c28;clear c28;obtain ⟨y343,hy343⟩:∃ y_:List Int,y_ = (x7_2++[(x8_2) % 4294967296]):=⟨_,rfl⟩;have hy_:=hy343;replace H:(some y343) = some r:=zzh;clear hy_;have Ny343:=Aside0.mk hy343;clear hy343;obtain rfl:=Option.some.inj H
          go_wp2_with (first|((with_reducible refine gate_builtin (b:=.append) (xs:=#[.tmp 59,.tmp 62]) rfl ?_);at_builtin;refine Kd.R_append (Kd.int .u32) (w0:=w) w.heap.size rfl (.tmp 59) (.tmp 62) 32 65 (.int .u32 0) 4 rfl Try.underlying32 info65 rfl (zz28) (zz4) u7 x7_2 ((x8_2) % 4294967296) [.int .u32 ((x8_2) % 4294967296)] (fun _=>True) (fun _=>False) rfl rfl ?aP (fun _ hk=>hk.elim) ?aF ?aO ?aB ?aS ?aL ?_;(case aP=>exact rfl);(case aB=>exact (zz5));(case aF=>exact zz99);(case aO=>exact (zz32));(case aS=>exact (below_size (zz5)));(case aL=>have:=LMc28.out;omega);intro v344 w29 ho hb hg hat;rw [← Ny343.out] at ho;have n0_:=Aside0.mk (Kd.V_afterv (ok:=(fun _=>True)) (zz59) hg hat);have n1_:=Aside0.mk (Kd.V_afterv (ok:=(fun _=>True)) (zz60) hg hat);have n2_:=Aside0.mk (hb);have n3_:=Aside0.mk (ho);clear HO_6;clear HO_26;clear HB;clear HO_7;have HO_6:=n0_;have HO_26:=n1_;have HB:=n2_;have HO345:=n3_;clear n0_ n1_ n2_ n3_;clear ho hb hg hat))
          go_ret
          exact ⟨_,by first|rfl|(simp [errW_none,errW_some]<;>rfl)|(simp only [← hji11];first|rfl|(simp [errW_none,errW_some]<;>rfl))|(simp [*,errW_none,errW_some]<;>rfl),by (with_reducible repeat (first|apply Kd.R_alloc|apply Kd.R_drewN|apply Kd.R_drew));exact HO345.out,zz5⟩
         ·rw [if_neg c28] at H
          exact absurd H (zz14)
        ·rw [if_neg c27] at H;have c27b0:=decide_eq_false c27;clear c27;obtain rfl:=Option.some.inj H
         go_wp2
         go_ret
         exact ⟨_,by first|rfl|(simp [errW_none,errW_some]<;>rfl)|(simp only [← hji11];first|rfl|(simp [errW_none,errW_some]<;>rfl))|(simp [*,errW_none,errW_some]<;>rfl),zz32,zz5⟩
    ·rw [if_neg c13] at H
     exact absurd H (zz14)
   ·rw [if_neg c12] at H
    exact absurd H (zz14)
def U7.l0:Nat→List Int→List (List Int)→Int→Int→Option (List Int)
 | 0,_,_,_,_=>none
 | k+1,x3,x6,x7,x8=>if x8 < x7 then (if 0≤x8 then (if x8 < (x6.length:Int) then ((U24.f k x3 (rd_L5 x6 x8)).bind fun t347=>(U7.l0 k t347 x6 x7 (wrap64 (x8+1)))) else (none)) else (none)) else (some x3)
def U7.f (k:Nat) (l0:List (List Int)):Option (List Int):=U7.l0 k ([]:List Int) l0 (l0.length:Int) 0
theorem zm17_1 {P:Prop} (h:P:=by repeat' first|(with_reducible first|exact ih0 ..|exact U24.mono ..|exact LeO.refl _|exact LeO.none _|refine LeO.ite ?_ ?_|refine LeO.bind ?_ (fun _=>?_))|exact ih0 ..|exact U24.mono ..|exact LeO.none _|refine LeO.ite ?_ ?_|refine LeO.bind ?_ (fun _=>?_)):P:=h
theorem U7.mono_l:∀ k,(∀ y0 y1 y2 y3,LeO (U7.l0 k y0 y1 y2 y3) (U7.l0 (k+1) y0 y1 y2 y3))
 | 0=>fun _ _ _ _ r h=>by simp [U7.l0] at h
 | k+1=>by
  have ih0:=U7.mono_l k
  ·intro y0 y1 y2 y3;unfold U7.l0
   exact zm17_1
theorem U7.mono:∀ a0 k,LeO (U7.f k a0) (U7.f (k+1) a0):=by
 intro a0 k;have ih0:=U7.mono_l k;unfold U7.f
 exact zm17_1
set_option maxHeartbeats 8000000 in
set_option maxRecDepth 100000 in
theorem U7.calls (k:Nat) (A0:Option Addr) (c0:Nat) (l0:List (List Int)) (r:List Int) (w:World) (hr0:Kd.C (Kd.slice 65 (Kd.int .u32)) w A0 l0.length l0) (hc0:l0.length≤c0) (h:U7.f k l0 = some r) :
  Calls Try.prog 40 #[.slice A0 l0.length c0] w fun e w'=>∃ v0_:Value,e = .returned (v0_)∧Kd.R (Kd.int .u32) 65 w' w.heap.size (fun _=>True) v0_ r∧Below w.heap.size w w':=by
 have HR0:=Aside0.mk hr0;have HC0:=Aside0.mk hc0;clear hr0 hc0;have HB:=Aside0.mk (Below.refl w.heap.size w);have H:(U7.l0 k ([]:List Int) l0 (l0.length:Int) 0) = some r:=h;clear h;have H':=Aside0.mk H;clear H;go_enter Try.func40,Try.ntmps40
 go_wp2
 go_loopg [3,8] k (fun kq v3 v8 w'=>∃ (x3_1:List Int) (x8_1:Int),v8 = .int .i64 x8_1∧Aside0 (U7.l0 kq x3_1 l0 (l0.length:Int) x8_1 = some r)∧Aside0 (kq≤k)∧Aside0 (Kd.R (Kd.int .u32) 65 w' w.heap.size (fun _=>True) v3 x3_1)∧Aside0 (Below w.heap.size w w'))
 case atStart=>exact ⟨(([]:List Int)),(0),(zz2),H',⟨Nat.le_refl _⟩,⟨zz54⟩,⟨zz5⟩⟩
 case round =>
  clear H';obtain ⟨x3_1,x8_1,rfl,HA,HK1,HO_3,HB⟩:=hrel
  cases gk with
  | zero=>exact absurd HA.out (by simp [U7.l0])
  | succ k1 =>
   have H:=HA.out;clear HA;simp only [U7.l0] at H;by_cases c2:x8_1 < (l0.length:Int)
   ·rw [if_pos c2] at H;have c2b0:=decide_eq_true c2;clear c2;by_cases c3:0≤x8_1
    ·rw [if_pos c3] at H;have c3b0:=decide_eq_true c3;clear c3;by_cases c4:x8_1 < (l0.length:Int)
     ·rw [if_pos c4] at H;have c4b0:=decide_eq_true c4;clear c4;replace H:=Option.bind_eq_some_iff.mp H;obtain ⟨t347,A50,H⟩:=H;have A5:=Aside0.mk A50;clear A50;have H':=Aside0.mk H;clear H;have p346:0≤(x8_1:Int):=of_decide_eq_true (zz11);have q346:x8_1 < (l0.length:Int):=of_decide_eq_true (zz11);obtain ⟨ad346,A346_0,c346_0,e346,hx346_0,hl346_0,hi346_0⟩:=at_L5 HR0.out x8_1 p346 q346
      cases e346
      replace hx346_0:=(HB.out.cell (World.block_lt_of_cell? w _ hx346_0)).trans hx346_0;have HR346_0:=Aside0.mk hi346_0;have HC346_0:=Aside0.mk hl346_0;clear hi346_0 hl346_0;replace p346:=eq_true p346;replace q346:=eq_true q346;obtain ⟨Ao6,co6,eo6⟩:=Kd.R_slice HO_3.out;subst eo6
      go_wp2_with (first|((with_reducible refine gate_callee (f:=62) rfl ?_);refine goesL_ (some 14) rfl rfl Try.func62 (zz0) rfl #[.slice Ao6 x3_1.length co6,.slice A346_0 (rd_L5 l0 x8_1).length c346_0] rfl (zz16) ?_;(with_reducible refine (U24.calls k1 _ _ x3_1 _ _ (rd_L5 l0 x8_1) t347 _ ?side1 ?side2 ?side3 ?side4 A5.out).mono ?_);(case side1=>repeat (first|exact (Kd.R_reads' HO_3.out).2.2|(with_reducible refine Kd.C_alloc ?_ _)|(with_reducible refine Kd.C_drewN ?_ _)|(with_reducible refine Kd.C_drew ?_)));(case side2=>exact (Kd.R_reads' HO_3.out).2.1);(case side3=>repeat (first|exact (Kd.C_below HR346_0.out HB.out)|(with_reducible refine Kd.C_alloc ?_ _)|(with_reducible refine Kd.C_drewN ?_ _)|(with_reducible refine Kd.C_drew ?_)));(case side4=>exact HC346_0.out);rintro e w7 ⟨v348,rfl,ho0,hb⟩;refine ⟨_,rfl,?_⟩;have HO349:=Aside0.mk (Kd.R_lower (Kd.R_new' ho0 (Kd.R_lt (zz61))) (below_size (zz5)));replace HO_3:=Aside0.mk (Kd.R_elder' (zz61) (Kd.R_base ho0) hb);replace HB:=Aside0.mk (below_step (zz5) hb);(try clear hb);(try clear hb2);(try clear hk);(try clear hi);(try clear ho0)))
      go_roundg k1
      case measure=>have:=HK1.out;omega
      case rel=>exact ⟨(t347),(wrap64 (x8_1+1)),(zz2),H',⟨zz12⟩,⟨by (with_reducible repeat (first|apply Kd.R_alloc|apply Kd.R_drewN|apply Kd.R_drew));exact Kd.R_mono HO349.out (fun _ hk=>trivial)⟩,⟨zz5⟩⟩
     ·rw [if_neg c4] at H
      exact absurd H (zz14)
    ·rw [if_neg c3] at H
     exact absurd H (zz14)
   ·rw [if_neg c2] at H;have c2b0:=decide_eq_false c2;clear c2;obtain rfl:=Option.some.inj H
    go_wp2
    go_ret
    exact ⟨_,zz6,zz61,zz5⟩
end Go.Proofs.Ytmcegphcjphdcaa.QA
