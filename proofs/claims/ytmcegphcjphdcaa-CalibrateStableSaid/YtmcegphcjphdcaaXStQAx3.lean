import Derived.Test.YtmcegphcjphdcaaXStQAx0
import Derived.Test.YtmcegphcjphdcaaXStQAx2
namespace Go.Proofs.Ytmcegphcjphdcaa.QA
open Go.RowKit Go.Proofs.YtmcegphcjphdcaaW.PrintWords Go.Proofs.YtmcegphcjphdcaaW.PrintLast Go.Proofs.YtmcegphcjphdcaaW.PrintMore
attribute [local go_sem] max2_int min2_int max_two min_two max_three min_three max_four min_four
set_option linter.unusedVariables false
set_option linter.unusedSimpArgs false
mutual
def U26.j0:Nat→List Int→List Int→Bool→Option (List Int)
 | 0,_,_,_=>none
 | k+1,x5,x6,x24=>if x24 = true then (some ([]:List Int)) else (if 0≤(wrap64 ((x5.length:Int)+(x6.length:Int))) then (if (wrap64 ((x5.length:Int)+(x6.length:Int)):Int).toNat≤70368744177664 then (U26.l0 k x6 (List.replicate (wrap64 ((x5.length:Int)+(x6.length:Int)):Int).toNat 0) x5 (x5.length:Int) 0) else (none)) else (none))
def U26.l0:Nat→List Int→List Int→List Int→Int→Int→Option (List Int)
 | 0,_,_,_,_,_=>none
 | k+1,x6,x7,x31,x32,x33=>if x33 < x32 then (if 0≤x33 then (if x33 < (x31.length:Int) then (U26.l1 k x6 x7 x33 (rd x31 x33) 0 x31 x32 x33 x6 (x6.length:Int) 0) else (none)) else (none)) else ((U28.f k x7).bind fun t157=>(some t157))
def U26.l1:Nat→List Int→List Int→Int→Int→Int→List Int→Int→Int→List Int→Int→Int→Option (List Int)
 | 0,_,_,_,_,_,_,_,_,_,_,_=>none
 | k+1,x6,x7,x8,x9,x10,x31,x32,x33,x38,x39,x40=>if x40 < x39 then (if 0≤x40 then (if x40 < (x38.length:Int) then (if 0≤(wrap64 (x8+x40)) then (if (wrap64 (x8+x40)) < (x7.length:Int) then (U26.l1 k x6 (x7.set ((wrap64 (x8+x40)):Int).toNat ((Go.bits .and .u64 (IntKind.u64.wrap (x10+(IntKind.u64.wrap ((IntKind.u64.wrap ((IntKind.u64.wrap (x9)) * (IntKind.u64.wrap (rd x38 x40))))+(IntKind.u64.wrap (rd x7 (wrap64 (x8+x40)))))))) 4294967295) % 4294967296)) x8 x9 ((IntKind.u64.wrap (x10+(IntKind.u64.wrap ((IntKind.u64.wrap ((IntKind.u64.wrap (x9)) * (IntKind.u64.wrap (rd x38 x40))))+(IntKind.u64.wrap (rd x7 (wrap64 (x8+x40)))))))) / 4294967296) x31 x32 x33 x38 x39 (wrap64 (x40+1))) else (none)) else (none)) else (none)) else (none)) else (if 0≤(wrap64 (x8+(x6.length:Int))) then (if (wrap64 (x8+(x6.length:Int))) < (x7.length:Int) then (U26.l0 k x6 (x7.set ((wrap64 (x8+(x6.length:Int))):Int).toNat ((x10) % 4294967296)) x31 x32 (wrap64 (x33+1))) else (none)) else (none))
end
def U26.f (k:Nat) (l0:List Int) (l1:List Int):Option (List Int):=(U28.f k l0).bind fun t148=>((U28.f k l1).bind fun t151=>(if (t148.length:Int) = 0 then (U26.j0 k t148 t151 true) else (U26.j0 k t148 t151 ((t151.length:Int) == 0))))
theorem zm3_0 {P:Prop} (h:P:=by repeat' first|(with_reducible first|exact ih0 ..|exact ih1 ..|exact ih2 ..|exact U28.mono ..|exact LeO.refl _|exact LeO.none _|refine LeO.ite ?_ ?_|refine LeO.bind ?_ (fun _=>?_))|exact ih0 ..|exact ih1 ..|exact ih2 ..|exact U28.mono ..|exact LeO.none _|refine LeO.ite ?_ ?_|refine LeO.bind ?_ (fun _=>?_)):P:=h
theorem U26.mono_l:∀ k,(∀ y0 y1 y2,LeO (U26.j0 k y0 y1 y2) (U26.j0 (k+1) y0 y1 y2))∧(∀ y0 y1 y2 y3 y4,LeO (U26.l0 k y0 y1 y2 y3 y4) (U26.l0 (k+1) y0 y1 y2 y3 y4))∧(∀ y0 y1 y2 y3 y4 y5 y6 y7 y8 y9 y10,LeO (U26.l1 k y0 y1 y2 y3 y4 y5 y6 y7 y8 y9 y10) (U26.l1 (k+1) y0 y1 y2 y3 y4 y5 y6 y7 y8 y9 y10))
 | 0=>⟨fun _ _ _ r h=>by simp [U26.j0] at h,fun _ _ _ _ _ r h=>by simp [U26.l0] at h,fun _ _ _ _ _ _ _ _ _ _ _ r h=>by simp [U26.l1] at h⟩
 | k+1=>by
  obtain ⟨ih0,ih1,ih2⟩:=U26.mono_l k;refine ⟨?_,?_,?_⟩
  ·intro y0 y1 y2;unfold U26.j0
   exact zm3_0
  ·intro y0 y1 y2 y3 y4;unfold U26.l0
   exact zm3_0
  ·intro y0 y1 y2 y3 y4 y5 y6 y7 y8 y9 y10;unfold U26.l1
   exact zm3_0
theorem U26.mono:∀ a0 a1 k,LeO (U26.f k a0 a1) (U26.f (k+1) a0 a1):=by
 intro a0 a1 k;obtain ⟨ih0,ih1,ih2⟩:=U26.mono_l k;unfold U26.f
 exact zm3_0
set_option maxHeartbeats 8000000 in
set_option maxRecDepth 100000 in
theorem U26.calls (k:Nat) (P0_:Nat→Prop) (A0:Option Addr) (c0:Nat) (l0:List Int) (P1_:Nat→Prop) (A1:Option Addr) (c1:Nat) (l1:List Int) (r:List Int) (w:World) (hs0:Kd.V (Kd.int .u32) 65 w w.heap.size (fun k_=>P0_ k_) (.slice A0 l0.length c0) l0) (hs1:Kd.V (Kd.int .u32) 65 w w.heap.size (fun k_=>P1_ k_) (.slice A1 l1.length c1) l1) (h:U26.f k l0 l1 = some r) :
  Calls Try.prog 39 #[.slice A0 l0.length c0,.slice A1 l1.length c1] w fun e w'=>∃ v0_:Value,e = .returned (v0_)∧Kd.V (Kd.int .u32) 65 w' w.heap.size (fun k_=>((P0_ k_∨P1_ k_)∨w.heap.size≤k_)) v0_ r∧Below w.heap.size w w':=by
 have HO0:=Aside0.mk (show Kd.V (Kd.int .u32) 65 w w.heap.size (fun k_=>((P0_ k_∨P1_ k_)∨w.heap.size≤k_)) (.slice A0 l0.length c0) l0 from Kd.V_mono hs0 (fun k_ hk=>.inl (.inl hk)));have HO1:=Aside0.mk (show Kd.V (Kd.int .u32) 65 w w.heap.size (fun k_=>((P0_ k_∨P1_ k_)∨w.heap.size≤k_)) (.slice A1 l1.length c1) l1 from Kd.V_mono hs1 (fun k_ hk=>.inl (.inr hk)));have HB:=Aside0.mk (Below.refl w.heap.size w);have H:((U28.f k l0).bind fun t148=>((U28.f k l1).bind fun t151=>(if (t148.length:Int) = 0 then (U26.j0 k t148 t151 true) else (U26.j0 k t148 t151 ((t151.length:Int) == 0))))) = some r:=h;clear h;replace H:=Option.bind_eq_some_iff.mp H;obtain ⟨t148,A30,H⟩:=H;have A3:=Aside0.mk A30;clear A30;replace H:=Option.bind_eq_some_iff.mp H;obtain ⟨t151,A40,H⟩:=H;have A4:=Aside0.mk A40;clear A40;have HC5:=Aside0.mk H;clear H;go_enter Try.func39,Try.ntmps39
 go_upto_region 2 with (first|((with_reducible refine gate_callee (f:=44) rfl ?_);refine goesL_ (some 14) rfl rfl Try.func44 (zz0) rfl #[.slice A0 l0.length c0] rfl (zz16) ?_;(with_reducible refine (U28.calls k (fun k_=>((P0_ k_∨P1_ k_)∨w.heap.size≤k_)) _ _ l0 t148 _ ?side1 A3.out).mono ?_);(case side1=>exact HO0.out);rintro e w6 ⟨v149,rfl,ho0,hb⟩;refine ⟨_,rfl,?_⟩;replace HO0:=Aside0.mk (Kd.V_below (zz22) hb);replace HO1:=Aside0.mk (Kd.V_below (by (with_reducible repeat (first|apply Kd.V_alloc|apply Kd.V_drewN|apply Kd.V_drew));exact HO1.out) hb);have HO150:=Aside0.mk (Kd.V_lower (Kd.V_mono (ok':=fun k_=>((P0_ k_∨P1_ k_)∨w.heap.size≤k_)) ho0 (fun k_ hk_=>Or.elim hk_ (fun hs_=>hs_) (fun hn_=>(.inr (Nat.le_trans (below_size (zz5)) hn_))))) (below_size (zz5)));replace HB:=Aside0.mk (below_step (zz5) hb);(try clear hb);(try clear hb2);(try clear hk);(try clear hi);(try clear ho0))|((with_reducible refine gate_callee (f:=44) rfl ?_);refine goesL_ (some 16) rfl rfl Try.func44 (zz0) rfl #[.slice A1 l1.length c1] rfl (zz16) ?_;(with_reducible refine (U28.calls k (fun k_=>((P0_ k_∨P1_ k_)∨w.heap.size≤k_)) _ _ l1 t151 _ ?side1 A4.out).mono ?_);(case side1=>exact HO1.out);rintro e w7 ⟨v152,rfl,ho0,hb⟩;refine ⟨_,rfl,?_⟩;replace HO0:=Aside0.mk (Kd.V_below (zz22) hb);replace HO1:=Aside0.mk (Kd.V_below (by (with_reducible repeat (first|apply Kd.V_alloc|apply Kd.V_drewN|apply Kd.V_drew));exact HO1.out) hb);replace HO150:=Aside0.mk (Kd.V_below (zz29) hb);have HO153:=Aside0.mk (Kd.V_lower (Kd.V_mono (ok':=fun k_=>((P0_ k_∨P1_ k_)∨w.heap.size≤k_)) ho0 (fun k_ hk_=>Or.elim hk_ (fun hs_=>hs_) (fun hn_=>(.inr (Nat.le_trans (below_size (zz5)) hn_))))) (below_size (zz5)));replace HB:=Aside0.mk (below_step (zz5) hb);(try clear hb);(try clear hb2);(try clear hk);(try clear hi);(try clear ho0)))
 (try simp only [Act.put,List.setIfInBounds_toArray,List.set_cons_zero,List.set_cons_succ])
 go_cut [24] (fun v24 wc=>∃ (kq:Nat) (x24_4:Bool),v24 = .bool x24_4∧Aside0 (U26.j0 kq t148 t151 x24_4 = some r)∧Aside0 (kq≤k)∧Aside0 (Kd.V (Kd.int .u32) 65 wc w.heap.size (fun k_=>((P0_ k_∨P1_ k_)∨w.heap.size≤k_)) v149 t148)∧Aside0 (Kd.V (Kd.int .u32) 65 wc w.heap.size (fun k_=>((P0_ k_∨P1_ k_)∨w.heap.size≤k_)) v152 t151)∧Aside0 (Below w.heap.size w wc))
 case first =>
  have H:=HC5.out;clear HC5;by_cases c8:(t148.length:Int) = 0
  ·rw [if_pos c8] at H;have c8b0:=beq_iff_eq.mpr c8;have c8b1:=bne_eq_false_iff_eq.mpr c8;clear c8
   (first|rw [c8b0]|rw [c8b1]|(simp only [i64_w,i32_w];rw [c8b0])|skip)
   have H':=Aside0.mk H;clear H;obtain ⟨Ao9,co9,eo9⟩:=Kd.V_slice HO150.out;subst eo9
   go_wp2
   go_meet
   case rel=>exact ⟨_,(true),(zz2),H',⟨zz18⟩,⟨zz29⟩,⟨by (with_reducible repeat (first|apply Kd.V_alloc|apply Kd.V_drewN|apply Kd.V_drew));exact HO153.out⟩,⟨zz5⟩⟩
  ·rw [if_neg c8] at H;have c8b0:=beq_eq_false_iff_ne.mpr c8;have c8b1:=bne_iff_ne.mpr c8;have c8b2:¬ (t148 = []):=fun h_=>c8 (by rw [h_];rfl)
   (first|rw [c8b0]|rw [c8b1]|(simp only [i64_w,i32_w];rw [c8b0])|skip)
   have H':=Aside0.mk H;clear H;obtain ⟨Ao10,co10,eo10⟩:=Kd.V_slice HO150.out;subst eo10;obtain ⟨Ao11,co11,eo11⟩:=Kd.V_slice HO153.out;subst eo11
   go_wp2
   go_meet
   case rel=>exact ⟨_,(((t151.length:Int) == 0)),(zz2),H',⟨zz18⟩,⟨zz29⟩,⟨by (with_reducible repeat (first|apply Kd.V_alloc|apply Kd.V_drewN|apply Kd.V_drew));exact HO153.out⟩,⟨zz5⟩⟩
 case rest =>
  clear HC5;(try clear c1);(try clear p2);(try clear c3);(try clear c4);(try clear c8);(try clear c8b0);(try clear c8b1);(try clear c8b2);obtain ⟨kq,x24_4,rfl,HA,HJ4,HO_5,HO_6,HB⟩:=hcut
  cases kq with
  | zero=>exact absurd HA.out (by simp [U26.j0])
  | succ kj4 =>
   have H:=HA.out;clear HA;simp only [U26.j0] at H;by_cases c12:x24_4 = true
   ·subst c12;have H1:(some ([]:List Int)) = some r:=zz10;clear H;have H:=H1;clear H1;obtain rfl:=Option.some.inj H
    go_wp2
    go_ret
    exact ⟨_,zz6,(Kd.V_nil _ _ _ _ _),zz5⟩
   ·replace c12:=Bool.eq_false_iff.mpr c12;subst c12;have H1:(if 0≤(wrap64 ((t148.length:Int)+(t151.length:Int))) then (if (wrap64 ((t148.length:Int)+(t151.length:Int)):Int).toNat≤70368744177664 then (U26.l0 kj4 t151 (List.replicate (wrap64 ((t148.length:Int)+(t151.length:Int)):Int).toNat 0) t148 (t148.length:Int) 0) else (none)) else (none)) = some r:=zz13;clear H;have H:=H1;clear H1;obtain ⟨ji13,hji13⟩:∃ j_:Int,(wrap64 ((t148.length:Int)+(t151.length:Int))) = j_:=⟨_,rfl⟩
    replace H:(if 0≤(ji13) then (if (ji13:Int).toNat≤70368744177664 then (U26.l0 kj4 t151 (List.replicate (ji13:Int).toNat 0) t148 (t148.length:Int) 0) else (none)) else (none)) = some r:=by first|(rw [hji13] at H;exact H)|(simp only [hji13] at H ⊢;exact H)
    have hji13w:(IntKind.i64.wrap ((t148.length:Int)+(t151.length:Int))) = ji13:=(i64_w _).trans hji13;by_cases c14:0≤(ji13)
    ·rw [if_pos c14] at H;have c14b0:=eq_true c14;have c14b1:=decide_eq_true c14;clear c14;by_cases c15:(ji13:Int).toNat≤70368744177664
     ·rw [if_pos c15] at H;have c15b0:=eq_true c15;have c15b1:=decide_eq_true c15;clear c15;obtain ⟨y154,hy154⟩:∃ y_:List Int,y_ = (List.replicate (ji13:Int).toNat 0):=⟨_,rfl⟩;have hy_:=hy154;replace H:(U26.l0 kj4 t151 y154 t148 (t148.length:Int) 0) = some r:=zzh;clear hy_;have Ny154:=Aside0.mk hy154;clear hy154;have H':=Aside0.mk H;clear H;obtain ⟨Ao16,co16,eo16⟩:=Kd.V_slice HO_5.out;subst eo16;obtain ⟨Ao17,co17,eo17⟩:=Kd.V_slice HO_6.out;subst eo17
      go_wp2_with (first|((with_reducible refine gate_dst (N:=30) rfl ?_);(try (refine gate_guard (zz17) ?_;dsimp only));refine Kd.R_make (Kd.int .u32) _ 65 rfl (N:=30) rfl 32 _ _ rfl ji13 rfl rfl Try.underlying32 (.int .u32 0) 4 info65 rfl (zz28) (zz4) 0 (ok:=fun _=>True) (okp:=fun _=>True) rfl (fun _ hk=>hk) trivial (of_decide_eq_true (zz11)) (Nat.le_trans (Nat.mul_le_mul_right _ (of_decide_eq_true (zz11):ji13.toNat≤70368744177664)) (zz4)) (Below.refl _ _) (Nat.le_refl _) ?_;intro v155 w18 ho19 hb hg_ hnew_;clear hg_ hnew_;(first|rw [← Ny154.out] at ho19|(simp only [Int.reduceToNat] at ho19;rw [← Ny154.out] at ho19));replace HO_5:=Aside0.mk (Kd.V_elder' (zz30) (Kd.R_base ho19) hb);replace HO_6:=Aside0.mk (Kd.V_elder' (zz31) (Kd.R_base ho19) hb);have HO156:=Aside0.mk (Kd.R_lower (Kd.R_newM (M:=fun k_=>(w.heap.size≤k_)) ho19 (below_size (zz5)) (fun k_ h_=>h_)) (below_size (zz5)));replace HB:=Aside0.mk (below_step (zz5) hb);clear hb ho19))
      go_loopg [33] kj4 (fun kq v33 w'=>∃ (x7_2:List Int) (x33_2:Int),v33 = .int .i64 x33_2∧Aside0 (U26.l0 kq t151 x7_2 t148 (t148.length:Int) x33_2 = some r)∧Aside0 (kq≤kj4)∧Aside0 (Kd.V (Kd.int .u32) 65 w' w.heap.size (fun k_=>((P0_ k_∨P1_ k_)∨w.heap.size≤k_)∧some k_ ≠ (v155:Value).ownBlock) (.slice Ao17 t151.length co17) t151)∧Aside0 (Kd.R (Kd.int .u32) 65 w' w.heap.size (fun k_=>(w.heap.size≤k_)) v155 x7_2)∧Aside0 (Kd.V (Kd.int .u32) 65 w' w.heap.size (fun k_=>((P0_ k_∨P1_ k_)∨w.heap.size≤k_)∧some k_ ≠ (v155:Value).ownBlock) (.slice Ao16 t148.length co16) t148)∧Aside0 (Below w.heap.size w w'))
      case atStart=>exact ⟨(y154),(0),(zz2),H',⟨Nat.le_refl _⟩,⟨zz31⟩,⟨by (with_reducible repeat (first|apply Kd.R_alloc|apply Kd.R_drewN|apply Kd.R_drew));exact Kd.R_mono HO156.out (fun _ hk=>hk.1)⟩,⟨zz30⟩,⟨zz5⟩⟩
      case round =>
       clear H'
       (try clear c1);(try clear p2);(try clear c3);(try clear c4);(try clear p6);(try clear c8);(try clear c8b0);(try clear c8b1);(try clear c8b2);(try clear c12);(try clear c14);(try clear c14b0);(try clear c14b1);(try clear c15);(try clear c15b0);(try clear c15b1);(try clear p2)
       obtain ⟨x7_2,x33_2,rfl,HA,HK2,HO_6,HO_7,HO_31,HB⟩:=hrel
       cases gk with
       | zero=>exact absurd HA.out (by simp [U26.l0])
       | succ k2 =>
        have H:=HA.out;clear HA;simp only [U26.l0] at H;by_cases c20:x33_2 < (t148.length:Int)
        ·rw [if_pos c20] at H;have c20b0:=decide_eq_true c20;clear c20;by_cases c21:0≤x33_2
         ·rw [if_pos c21] at H;have c21b0:=decide_eq_true c21;clear c21;by_cases c22:x33_2 < (t148.length:Int)
          ·rw [if_pos c22] at H;have c22b0:=decide_eq_true c22;clear c22;have H':=Aside0.mk H;clear H;have p160:0≤(x33_2:Int):=of_decide_eq_true (zz11);have q160:x33_2 < (t148.length:Int):=of_decide_eq_true (zz11);obtain ⟨ad160,e160,hx160_0⟩:=Kd.at_int (Kd.V_reads' HO_31.out).2.2 x33_2 p160 q160
           cases e160
           replace p160:=eq_true p160;replace q160:=eq_true q160
           go_wp2
           go_loopg [10,40] k2 (fun kq v10 v40 w'=>∃ (x7_3:List Int) (x10_3:Int) (x40_3:Int),v10 = .int .u64 x10_3∧v40 = .int .i64 x40_3∧Aside0 (U26.l1 kq t151 x7_3 x33_2 (rd t148 x33_2) x10_3 t148 (t148.length:Int) x33_2 t151 (t151.length:Int) x40_3 = some r)∧Aside0 (kq≤k2)∧Aside0 (Kd.V (Kd.int .u32) 65 w' w.heap.size (fun k_=>((P0_ k_∨P1_ k_)∨w.heap.size≤k_)∧some k_ ≠ (v155:Value).ownBlock) (.slice Ao17 t151.length co17) t151)∧Aside0 (Kd.R (Kd.int .u32) 65 w' w.heap.size (fun k_=>(w.heap.size≤k_)) v155 x7_3)∧Aside0 (Kd.V (Kd.int .u32) 65 w' w.heap.size (fun k_=>((P0_ k_∨P1_ k_)∨w.heap.size≤k_)∧some k_ ≠ (v155:Value).ownBlock) (.slice (some ad160) t148.length co16) t148)∧Aside0 (Kd.V (Kd.int .u32) 65 w' w.heap.size (fun k_=>((P0_ k_∨P1_ k_)∨w.heap.size≤k_)∧some k_ ≠ (v155:Value).ownBlock) (.slice Ao17 t151.length co17) t151)∧Aside0 (Below w.heap.size w w'))
           case atStart=>exact ⟨(x7_2),(0),(0),(zz2),(zz2),H',⟨Nat.le_refl _⟩,⟨zz31⟩,⟨zz32⟩,⟨zz33⟩,⟨zz31⟩,⟨zz5⟩⟩
           case round =>
            clear H'
            (try clear c1);(try clear p1);(try clear q1);(try clear hx1);(try clear c2);(try clear p2);(try clear c3);(try clear c4);(try clear p6);(try clear c8);(try clear c8b0);(try clear c8b1);(try clear c8b2);(try clear c12);(try clear c14);(try clear c14b0);(try clear c14b1);(try clear c15);(try clear c15b0);(try clear c15b1);(try clear p16);(try clear q16);(try clear hx16);(try clear c20);(try clear c20b0);(try clear c21);(try clear c21b0);(try clear c22);(try clear c22b0);(try clear hx160_0);(try clear p160);(try clear p2);(try clear p6);(try clear q160)
            obtain ⟨x7_3,x10_3,x40_3,rfl,rfl,HA,HK3,HO_6,HO_7,HO_31,HO_38,HB⟩:=hrel
            cases gk with
            | zero=>exact absurd HA.out (by simp [U26.l1])
            | succ k3 =>
             have H:=HA.out;clear HA;simp only [U26.l1] at H;by_cases c23:x40_3 < (t151.length:Int)
             ·rw [if_pos c23] at H;have c23b0:=decide_eq_true c23;clear c23;by_cases c24:0≤x40_3
              ·rw [if_pos c24] at H;have c24b0:=decide_eq_true c24;clear c24;by_cases c25:x40_3 < (t151.length:Int)
               ·rw [if_pos c25] at H;have c25b0:=decide_eq_true c25;clear c25;obtain ⟨ji26,hji26⟩:∃ j_:Int,(wrap64 (x33_2+x40_3)) = j_:=⟨_,rfl⟩
                replace H:(if 0≤(ji26) then (if (ji26) < (x7_3.length:Int) then (U26.l1 k3 t151 (x7_3.set ((ji26):Int).toNat ((Go.bits .and .u64 (IntKind.u64.wrap (x10_3+(IntKind.u64.wrap ((IntKind.u64.wrap ((IntKind.u64.wrap ((rd t148 x33_2))) * (IntKind.u64.wrap (rd t151 x40_3))))+(IntKind.u64.wrap (rd x7_3 (ji26))))))) 4294967295) % 4294967296)) x33_2 (rd t148 x33_2) ((IntKind.u64.wrap (x10_3+(IntKind.u64.wrap ((IntKind.u64.wrap ((IntKind.u64.wrap ((rd t148 x33_2))) * (IntKind.u64.wrap (rd t151 x40_3))))+(IntKind.u64.wrap (rd x7_3 (ji26))))))) / 4294967296) t148 (t148.length:Int) x33_2 t151 (t151.length:Int) (wrap64 (x40_3+1))) else (none)) else (none)) = some r:=by first|(rw [hji26] at H;exact H)|(simp only [hji26] at H ⊢;exact H)
                have hji26w:(IntKind.i64.wrap (x33_2+x40_3)) = ji26:=(i64_w _).trans hji26;by_cases c27:0≤(ji26)
                ·rw [if_pos c27] at H;have c27b0:=decide_eq_true c27;clear c27;by_cases c28:(ji26) < (x7_3.length:Int)
                 ·rw [if_pos c28] at H;have c28b0:=decide_eq_true c28;clear c28;obtain ⟨y163,hy163⟩:∃ y_:List Int,y_ = (x7_3.set ((ji26):Int).toNat ((Go.bits .and .u64 (IntKind.u64.wrap (x10_3+(IntKind.u64.wrap ((IntKind.u64.wrap ((IntKind.u64.wrap ((rd t148 x33_2))) * (IntKind.u64.wrap (rd t151 x40_3))))+(IntKind.u64.wrap (rd x7_3 (ji26))))))) 4294967295) % 4294967296)):=⟨_,rfl⟩;have hy_:=hy163;replace H:(U26.l1 k3 t151 y163 x33_2 (rd t148 x33_2) ((IntKind.u64.wrap (x10_3+(IntKind.u64.wrap ((IntKind.u64.wrap ((IntKind.u64.wrap ((rd t148 x33_2))) * (IntKind.u64.wrap (rd t151 x40_3))))+(IntKind.u64.wrap (rd x7_3 (ji26))))))) / 4294967296) t148 (t148.length:Int) x33_2 t151 (t151.length:Int) (wrap64 (x40_3+1))) = some r:=zzh;clear hy_;have Ny163:=Aside0.mk hy163;clear hy163;have H':=Aside0.mk H;clear H;have p161:0≤(x40_3:Int):=of_decide_eq_true (zz11);have q161:x40_3 < (t151.length:Int):=of_decide_eq_true (zz11);obtain ⟨ad161,e161,hx161_0⟩:=Kd.at_int (Kd.V_reads' HO_38.out).2.2 x40_3 p161 q161
                  cases e161
                  replace p161:=eq_true p161;replace q161:=eq_true q161;obtain ⟨Ao30,co30,eo30⟩:=Kd.R_slice HO_7.out;subst eo30;have p162:0≤((ji26):Int):=of_decide_eq_true (zz11);have q162:(ji26) < (x7_3.length:Int):=of_decide_eq_true (zz11);obtain ⟨ad162,e162,hx162_0⟩:=Kd.at_int (Kd.R_reads' HO_7.out).2.2 (ji26) p162 q162
                  cases e162
                  replace p162:=eq_true p162;replace q162:=eq_true q162;have p29:0≤((ji26):Int):=of_decide_eq_true (zz11);have q29:((ji26):Int) < ((x7_3.length:Int):Int):=of_decide_eq_true (zz11);obtain ⟨go29,co29,eo29,gb29,gl29,cl29,HG29⟩:=Kd.R_form HO_7.out (zz4)
                  (first|cases eo29|(injection eo29 with ea_ en_ ec_;(first|subst ea_|(injection ea_ with ea_;subst ea_));subst ec_;clear en_))
                  have GB29:=Aside0.mk gb29;have GG29:=Aside0.mk HG29;clear gb29 gl29 HG29
                  (first|simp only [add_plain] at hx162_0|skip)
                  obtain ⟨hx29_0,hf29_0⟩:=Kd.R_celln 0 HO_7.out ((ji26):Int) p29 q29;replace p29:=eq_true p29;replace q29:=eq_true q29;obtain ⟨hy31_,hz31_⟩:=Kd.R_celln 0 HO_7.out ((ji26):Int) (of_decide_eq_true (zz11)) (of_decide_eq_true (zz11));have HP31:=Kd.R_putg HO_7.out ((ji26):Int) ((Go.bits .and .u64 (IntKind.u64.wrap (x10_3+(IntKind.u64.wrap ((IntKind.u64.wrap ((IntKind.u64.wrap ((rd t148 x33_2))) * (IntKind.u64.wrap (rd t151 x40_3))))+(IntKind.u64.wrap (rd x7_3 (ji26))))))) 4294967295) % 4294967296)
                  go_wp2_with (first|((with_reducible refine gate_store (t:=65) (p:=67) rfl ?_);refine store_event (t:=65) (p:=67) (v:=?vo_w32) (w1:=(wr.setCell ⟨go29,((ji26):Int).toNat,none⟩ (.int .u32 ((Go.bits .and .u64 (IntKind.u64.wrap (x10_3+(IntKind.u64.wrap ((IntKind.u64.wrap ((IntKind.u64.wrap ((rd t148 x33_2))) * (IntKind.u64.wrap (rd t151 x40_3))))+(IntKind.u64.wrap (rd x7_3 (ji26))))))) 4294967295) % 4294967296)))) ?hg ?ho ?hn ?hr ?_;(case ho=>rfl);(case hg=>rfl);(case hn=>rfl);(case hr=>exact zz93);intro w32 hw;have hg:wr.grownBy w32 (some go29):=(by rw [hw];exact HP31.2);have hp_:Kd.R (Kd.int .u32) 65 w32 w.heap.size (fun k_=>(w.heap.size≤k_)) (.slice (some ⟨go29,0,none⟩) x7_3.length co30) y163:=(by rw [hw,Ny163.out];exact HP31.1);clear HP31;replace HO_6:=Aside0.mk (Kd.V_afterv (v:=(.slice (some ⟨go29,0,none⟩) x7_3.length co30)) (v1:=(.slice (some ⟨go29,0,none⟩) x7_3.length co30)) (ok:=(fun k_=>((P0_ k_∨P1_ k_)∨w.heap.size≤k_))) (zz31) hg (.inl rfl));replace HO_7:=Aside0.mk (hp_);replace HO_31:=Aside0.mk (Kd.V_afterv (v:=(.slice (some ⟨go29,0,none⟩) x7_3.length co30)) (v1:=(.slice (some ⟨go29,0,none⟩) x7_3.length co30)) (ok:=(fun k_=>((P0_ k_∨P1_ k_)∨w.heap.size≤k_))) (zz33) hg (.inl rfl));replace HO_38:=Aside0.mk (Kd.V_afterv (v:=(.slice (some ⟨go29,0,none⟩) x7_3.length co30)) (v1:=(.slice (some ⟨go29,0,none⟩) x7_3.length co30)) (ok:=(fun k_=>((P0_ k_∨P1_ k_)∨w.heap.size≤k_))) (zz34) hg (.inl rfl));replace HB:=Aside0.mk ((by rw [hw];exact below_set (HB.out) GB29.out:Below w.heap.size w w32));clear hg hw hp_))
                  go_roundg k3
                  case measure=>have:=HJ4.out;have:=HK2.out;have:=HK3.out;omega
                  case rel=>exact ⟨(y163),((IntKind.u64.wrap (x10_3+(IntKind.u64.wrap ((IntKind.u64.wrap ((IntKind.u64.wrap ((rd t148 x33_2))) * (IntKind.u64.wrap (rd t151 x40_3))))+(IntKind.u64.wrap (rd x7_3 (ji26))))))) / 4294967296),(wrap64 (x40_3+1)),(by first|rfl|(simp;done)|(simp only [← hji26]<;>(first|rfl|simp))|(simp [*];done)),(zz2),H',⟨by have:=HJ4.out;have:=HK2.out;have:=HK3.out;omega⟩,⟨zz31⟩,⟨zz32⟩,⟨zz33⟩,⟨zz34⟩,⟨zz5⟩⟩
                 ·rw [if_neg c28] at H
                  exact absurd H (zz14)
                ·rw [if_neg c27] at H
                 exact absurd H (zz14)
               ·rw [if_neg c25] at H
                exact absurd H (zz14)
              ·rw [if_neg c24] at H
               exact absurd H (zz14)
             ·rw [if_neg c23] at H;have c23b0:=decide_eq_false c23;clear c23;obtain ⟨ji33,hji33⟩:∃ j_:Int,(wrap64 (x33_2+(t151.length:Int))) = j_:=⟨_,rfl⟩
              replace H:(if 0≤(ji33) then (if (ji33) < (x7_3.length:Int) then (U26.l0 k3 t151 (x7_3.set ((ji33):Int).toNat ((x10_3) % 4294967296)) t148 (t148.length:Int) (wrap64 (x33_2+1))) else (none)) else (none)) = some r:=by first|(rw [hji33] at H;exact H)|(simp only [hji33] at H ⊢;exact H)
              have hji33w:(IntKind.i64.wrap (x33_2+(t151.length:Int))) = ji33:=(i64_w _).trans hji33;by_cases c34:0≤(ji33)
              ·rw [if_pos c34] at H;have c34b0:=decide_eq_true c34;clear c34;by_cases c35:(ji33) < (x7_3.length:Int)
               ·rw [if_pos c35] at H;have c35b0:=decide_eq_true c35;clear c35;obtain ⟨y164,hy164⟩:∃ y_:List Int,y_ = (x7_3.set ((ji33):Int).toNat ((x10_3) % 4294967296)):=⟨_,rfl⟩;have hy_:=hy164;replace H:(U26.l0 k3 t151 y164 t148 (t148.length:Int) (wrap64 (x33_2+1))) = some r:=zzh;clear hy_;have Ny164:=Aside0.mk hy164;clear hy164;have H':=Aside0.mk H;clear H;have p36:0≤((ji33):Int):=of_decide_eq_true (zz11);have q36:((ji33):Int) < ((x7_3.length:Int):Int):=of_decide_eq_true (zz11);obtain ⟨go36,co36,eo36,gb36,gl36,cl36,HG36⟩:=Kd.R_form HO_7.out (zz4)
                (first|cases eo36|(injection eo36 with ea_ en_ ec_;(first|subst ea_|(injection ea_ with ea_;subst ea_));subst ec_;clear en_))
                have GB36:=Aside0.mk gb36;have GG36:=Aside0.mk HG36;clear gb36 gl36 HG36;obtain ⟨hx36_0,hf36_0⟩:=Kd.R_celln 0 HO_7.out ((ji33):Int) p36 q36;replace p36:=eq_true p36;replace q36:=eq_true q36;obtain ⟨hy37_,hz37_⟩:=Kd.R_celln 0 HO_7.out ((ji33):Int) (of_decide_eq_true (zz11)) (of_decide_eq_true (zz11));have HP37:=Kd.R_putg HO_7.out ((ji33):Int) ((x10_3) % 4294967296)
                go_wp2_with (first|((with_reducible refine gate_store (t:=65) (p:=78) rfl ?_);refine store_event (t:=65) (p:=78) (v:=?vo_w38) (w1:=(wr.setCell ⟨go36,((ji33):Int).toNat,none⟩ (.int .u32 ((x10_3) % 4294967296)))) ?hg ?ho ?hn ?hr ?_;(case ho=>rfl);(case hg=>rfl);(case hn=>rfl);(case hr=>exact zz93);intro w38 hw;have hg:wr.grownBy w38 (some go36):=(by rw [hw];exact HP37.2);have hp_:Kd.R (Kd.int .u32) 65 w38 w.heap.size (fun k_=>(w.heap.size≤k_)) (.slice (some ⟨go36,0,none⟩) x7_3.length co36) y164:=(by rw [hw,Ny164.out];exact HP37.1);clear HP37;replace HO_6:=Aside0.mk (Kd.V_afterv (v:=(.slice (some ⟨go36,0,none⟩) x7_3.length co36)) (v1:=(.slice (some ⟨go36,0,none⟩) x7_3.length co36)) (ok:=(fun k_=>((P0_ k_∨P1_ k_)∨w.heap.size≤k_))) (zz31) hg (.inl rfl));replace HO_7:=Aside0.mk (hp_);replace HO_31:=Aside0.mk (Kd.V_afterv (v:=(.slice (some ⟨go36,0,none⟩) x7_3.length co36)) (v1:=(.slice (some ⟨go36,0,none⟩) x7_3.length co36)) (ok:=(fun k_=>((P0_ k_∨P1_ k_)∨w.heap.size≤k_))) (zz33) hg (.inl rfl));replace HO_38:=Aside0.mk (Kd.V_afterv (v:=(.slice (some ⟨go36,0,none⟩) x7_3.length co36)) (v1:=(.slice (some ⟨go36,0,none⟩) x7_3.length co36)) (ok:=(fun k_=>((P0_ k_∨P1_ k_)∨w.heap.size≤k_))) (zz34) hg (.inl rfl));replace HB:=Aside0.mk ((by rw [hw];exact below_set (HB.out) GB36.out:Below w.heap.size w w38));clear hg hw hp_))
                go_roundg k3
                case measure=>have:=HJ4.out;have:=HK2.out;have:=HK3.out;omega
                case rel=>exact ⟨(y164),(wrap64 (x33_2+1)),(zz2),H',⟨by have:=HJ4.out;have:=HK2.out;have:=HK3.out;omega⟩,⟨zz31⟩,⟨zz32⟩,⟨zz33⟩,⟨zz5⟩⟩
               ·rw [if_neg c35] at H
                exact absurd H (zz14)
              ·rw [if_neg c34] at H
               exact absurd H (zz14)
          ·rw [if_neg c22] at H
           exact absurd H (zz14)
         ·rw [if_neg c21] at H
          exact absurd H (zz14)
        ·rw [if_neg c20] at H;have c20b0:=decide_eq_false c20;clear c20;replace H:=Option.bind_eq_some_iff.mp H;obtain ⟨t157,A390,H⟩:=H;have A39:=Aside0.mk A390;clear A390;obtain rfl:=Option.some.inj H;obtain ⟨Ao40,co40,eo40⟩:=Kd.R_slice HO_7.out;subst eo40
         go_wp2_with (first|((with_reducible refine gate_callee (f:=44) rfl ?_);refine goesL_ (some 81) rfl rfl Try.func44 (zz0) rfl #[.slice Ao40 x7_2.length co40] rfl (zz16) ?_;(with_reducible refine (U28.calls k2 (fun k_=>some k_ = (.slice Ao40 x7_2.length co40:Value).ownBlock) _ _ x7_2 t157 _ ?side1 A39.out).mono ?_);(case side1=>exact Kd.R_V (Kd.R_tight rfl (HO_7.out)));rintro e w41 ⟨v158,rfl,ho0,hb⟩;refine ⟨_,rfl,?_⟩;replace HO_6:=Aside0.mk (Kd.V_below (zz31) hb);replace HO_31:=Aside0.mk (Kd.V_below (zz33) hb);have HO159:=Aside0.mk (Kd.V_lower (Kd.V_mono (ok':=fun k_=>((P0_ k_∨P1_ k_)∨w.heap.size≤k_)) ho0 (fun k_ hk_=>Or.elim hk_ (fun hs_=>(.inr (((HO_7.out).1 k_ hs_.symm)))) (fun hn_=>(.inr (Nat.le_trans (below_size (zz5)) hn_))))) (below_size (zz5)));replace HO_7:=Aside0.mk (Kd.R_below (zz32) hb);replace HB:=Aside0.mk (below_step (zz5) hb);(try clear hb);(try clear hb2);(try clear hk);(try clear hi);(try clear ho0)))
         go_ret
         exact ⟨_,by first|rfl|(simp [errW_none,errW_some]<;>rfl)|(simp only [← hji13];first|rfl|(simp [errW_none,errW_some]<;>rfl))|(simp [*,errW_none,errW_some]<;>rfl),by (with_reducible repeat (first|apply Kd.V_alloc|apply Kd.V_drewN|apply Kd.V_drew));exact HO159.out,zz5⟩
     ·rw [if_neg c15] at H
      exact absurd H (zz14)
    ·rw [if_neg c14] at H
     exact absurd H (zz14)
def U27.f (k:Nat) (l0:List Int):Option (List Int):=(some (([]:List Int):List Int)).bind fun y165=>((U28.f k l0).bind fun t168=>(if y165.length+t168.length < 35184372088832 then (some (y165++t168)) else (none)))
theorem zm3_1 {P:Prop} (h:P:=by repeat' first|(with_reducible first|exact U28.mono ..|exact LeO.refl _|exact LeO.none _|refine LeO.ite ?_ ?_|refine LeO.bind ?_ (fun _=>?_))|exact U28.mono ..|exact LeO.none _|refine LeO.ite ?_ ?_|refine LeO.bind ?_ (fun _=>?_)):P:=h
theorem U27.mono:∀ a0 k,LeO (U27.f k a0) (U27.f (k+1) a0):=by
 intro a0 k;unfold U27.f
 exact zm3_1
set_option maxHeartbeats 8000000 in
set_option maxRecDepth 100000 in
theorem U27.calls (k:Nat) (A0:Option Addr) (c0:Nat) (l0:List Int) (r:List Int) (w:World) (hr0:Kd.C (Kd.int .u32) w A0 l0.length l0) (hc0:l0.length≤c0) (h:U27.f k l0 = some r) :
  Calls Try.prog 71 #[.slice A0 l0.length c0] w fun e w'=>∃ v0_:Value,e = .returned (v0_)∧Kd.R (Kd.int .u32) 65 w' w.heap.size (fun _=>True) v0_ r∧Below w.heap.size w w':=by
 have HR0:=Aside0.mk hr0;have HC0:=Aside0.mk hc0;clear hr0 hc0;have HB:=Aside0.mk (Below.refl w.heap.size w);have H:((some (([]:List Int):List Int)).bind fun y165=>((U28.f k l0).bind fun t168=>(if y165.length+t168.length < 35184372088832 then (some (y165++t168)) else (none)))) = some r:=h;clear h;obtain ⟨y165,hy165⟩:∃ y_:List Int,y_ = (([]:List Int)):=⟨_,rfl⟩;have hy_:=hy165;replace H:((U28.f k l0).bind fun t168=>(if y165.length+t168.length < 35184372088832 then (some (y165++t168)) else (none))) = some r:=zzh;clear hy_;have Ny165:=Aside0.mk hy165;clear hy165;replace H:=Option.bind_eq_some_iff.mp H;obtain ⟨t168,A20,H⟩:=H;have A2:=Aside0.mk A20;clear A20;by_cases c3:y165.length+t168.length < 35184372088832
 ·rw [if_pos c3] at H;have LMc3:=Aside0.mk c3;clear c3;obtain ⟨y171,hy171⟩:∃ y_:List Int,y_ = (y165++t168):=⟨_,rfl⟩;have hy_:=hy171;replace H:(some y171) = some r:=zzh;clear hy_;have Ny171:=Aside0.mk hy171;clear hy171;obtain rfl:=Option.some.inj H;go_enter Try.func71,Try.ntmps71
  go_wp2_with (first|((with_reducible refine gate_dst (N:=3) rfl ?_);refine Kd.R_lit (Kd.int .u32) _ 65 ?hg (N:=3) ?hd (xs:=([]:List Int)) (inner:=[]) (ok:=fun _=>True) (okp:=fun _=>True) ?hr ?hp (fun _ hk=>hk) trivial (Below.refl _ _) (Nat.le_refl _) (zz14) ?_;(case hd=>rfl);(case hg=>rfl);(case hr=>exact zz93);(case hp=>exact (Reps.none _ _));intro v166 w4 ho5 hb hg_ hnew_;clear hg_ hnew_;(first|rw [← Ny165.out] at ho5|(simp only [Int.reduceToNat] at ho5;rw [← Ny165.out] at ho5));have HO167:=Aside0.mk (Kd.R_lower ho5 (below_size (zz5)));replace HB:=Aside0.mk (below_step (zz5) hb);clear hb ho5)|((with_reducible refine gate_callee (f:=44) rfl ?_);refine goesL_ (some 5) rfl rfl Try.func44 (zz0) rfl #[.slice A0 l0.length c0] rfl (zz16) ?_;(with_reducible refine (U28.calls k (fun k_=>k_ < w.heap.size) _ _ l0 t168 _ ?side1 A2.out).mono ?_);(case side1=>exact zz98);rintro e w6 ⟨v169,rfl,ho0,hb⟩;refine ⟨_,rfl,?_⟩;have HO170:=Aside0.mk (Kd.V_lower (Kd.V_mono (ok':=fun k_=>some k_ ≠ (v166:Value).ownBlock) ho0 (fun k_ hk_=>Or.elim hk_ (fun hs_=>fun e_=>Nat.not_le.2 hs_ (Kd.R_base HO167.out k_ e_.symm)) (fun hn_=>(Kd.fresh' (Kd.R_lt (zz35)) k_ hn_)))) (below_size (zz5)));replace HO167:=Aside0.mk (Kd.R_below (zz35) hb);replace HB:=Aside0.mk (below_step (zz5) hb);(try clear hb);(try clear hb2);(try clear hk);(try clear hi);(try clear ho0);obtain ⟨Ao8,co8,eo8⟩:=Kd.V_slice HO170.out;subst eo8)|((with_reducible refine gate_builtin (b:=.append) (xs:=#[.tmp 3,.tmp 5]) rfl ?_);at_builtin;refine Kd.R_append_rows (Kd.int .u32) (w0:=w) w.heap.size rfl (.tmp 3) (.tmp 5) 32 65 (.int .u32 0) 4 rfl Try.underlying32 info65 rfl (zz28) (zz4) v166 y165 t168 _ _ _ (fun _=>True) (fun _=>False) rfl rfl ?aO ?aR (fun _ _ h=>h) (fun _ h=>h.elim) ?aF ?aB ?aS ?aL ?_;(case aR=>repeat (first|exact (Kd.V_reads' HO170.out).2.2|(with_reducible refine Kd.C_alloc ?_ _)|(with_reducible refine Kd.C_drewN ?_ _)|(with_reducible refine Kd.C_drew ?_)));(case aB=>exact (zz5));(case aF=>exact zz99);(case aO=>exact (zz35));(case aS=>exact (below_size (zz5)));(case aL=>have:=LMc3.out;omega);intro v172 w7 ho hb hg hat;rw [← Ny171.out] at ho;have n0_:=Aside0.mk (Kd.V_afterv (ok:=(fun _=>True)) (by (with_reducible repeat (first|apply Kd.V_alloc|apply Kd.V_drewN|apply Kd.V_drew));exact Kd.V_mono HO170.out (fun _ hk=>⟨trivial,hk⟩)) hg hat);have n1_:=Aside0.mk (hb);have n2_:=Aside0.mk (ho);clear HO170;clear HB;clear HO167;have HO170:=n0_;have HB:=n1_;have HO173:=n2_;clear n0_ n1_ n2_;clear ho hb hg hat))
  go_ret
  exact ⟨_,zz6,by (with_reducible repeat (first|apply Kd.R_alloc|apply Kd.R_drewN|apply Kd.R_drew));exact HO173.out,zz5⟩
 ·rw [if_neg c3] at H
  exact absurd H (zz14)
end Go.Proofs.Ytmcegphcjphdcaa.QA
