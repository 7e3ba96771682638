import Derived.Test.YtnimkmkapajnhaaDoorRBQAx0
import Derived.Test.YtnimkmkapajnhaaDoorRBQAx13
import Derived.Test.YtnimkmkapajnhaaDoorRBQAx14
namespace Go.Proofs.YtnimkmkapajnhaaDoor.QA
open Go.RowKit Go.Proofs.YtnimkmkapajnhaaDoorW.PrintWords Go.Proofs.YtnimkmkapajnhaaDoorW.PrintLast Go.Proofs.YtnimkmkapajnhaaDoorW.PrintMore
attribute [local go_sem] yE yA yI yJ wY wX yC yD
set_option linter.unusedVariables false
set_option linter.unusedSimpArgs false
mutual
def U24.j0:Nat→List Int→List Int→Bool→Option (List Int)
 | 0,_,_,_=>none
 | k+1,x5,x6,x24=>if x24 = true then (some ([]:List Int)) else (if 0≤(wrap64 ((x5.length:Int)+(x6.length:Int))) then (if (wrap64 ((x5.length:Int)+(x6.length:Int)):Int).toNat≤70368744177664 then (U24.l0 k x6 (List.replicate (wrap64 ((x5.length:Int)+(x6.length:Int)):Int).toNat 0) x5 (x5.length:Int) 0) else (none)) else (none))
def U24.l0:Nat→List Int→List Int→List Int→Int→Int→Option (List Int)
 | 0,_,_,_,_,_=>none
 | k+1,x6,x7,x31,x32,x33=>if x33 < x32 then (if 0≤x33 then (if x33 < (x31.length:Int) then (U24.l1 k x6 x7 x33 (rd x31 x33) 0 x31 x32 x33 x6 (x6.length:Int) 0) else (none)) else (none)) else ((U29.f k x7).bind fun t428=>(some t428))
def U24.l1:Nat→List Int→List Int→Int→Int→Int→List Int→Int→Int→List Int→Int→Int→Option (List Int)
 | 0,_,_,_,_,_,_,_,_,_,_,_=>none
 | k+1,x6,x7,x8,x9,x10,x31,x32,x33,x38,x39,x40=>if x40 < x39 then (if 0≤x40 then (if x40 < (x38.length:Int) then (if 0≤(wrap64 (x8+x40)) then (if (wrap64 (x8+x40)) < (x7.length:Int) then (U24.l1 k x6 (x7.set ((wrap64 (x8+x40)):Int).toNat ((Go.bits .and .u64 (IntKind.u64.wrap (x10+(IntKind.u64.wrap ((IntKind.u64.wrap ((IntKind.u64.wrap (x9)) * (IntKind.u64.wrap (rd x38 x40))))+(IntKind.u64.wrap (rd x7 (wrap64 (x8+x40)))))))) 4294967295) % 4294967296)) x8 x9 ((IntKind.u64.wrap (x10+(IntKind.u64.wrap ((IntKind.u64.wrap ((IntKind.u64.wrap (x9)) * (IntKind.u64.wrap (rd x38 x40))))+(IntKind.u64.wrap (rd x7 (wrap64 (x8+x40)))))))) / 4294967296) x31 x32 x33 x38 x39 (wrap64 (x40+1))) else (none)) else (none)) else (none)) else (none)) else (if 0≤(wrap64 (x8+(x6.length:Int))) then (if (wrap64 (x8+(x6.length:Int))) < (x7.length:Int) then (U24.l0 k x6 (x7.set ((wrap64 (x8+(x6.length:Int))):Int).toNat ((x10) % 4294967296)) x31 x32 (wrap64 (x33+1))) else (none)) else (none))
end
def U24.f (k:Nat) (l0:List Int) (l1:List Int):Option (List Int):=(U29.f k l0).bind fun t419=>((U29.f k l1).bind fun t422=>(if (t419.length:Int) = 0 then (U24.j0 k t419 t422 true) else (U24.j0 k t419 t422 ((t422.length:Int) == 0))))
theorem zm14_0 {P:Prop} (h:P:=by repeat' first|(with_reducible first|exact ih0 ..|exact ih1 ..|exact ih2 ..|exact U29.mono ..|exact LeO.refl _|exact LeO.none _|refine LeO.ite ?_ ?_|refine LeO.bind ?_ (fun _=>?_))|exact ih0 ..|exact ih1 ..|exact ih2 ..|exact U29.mono ..|exact LeO.none _|refine LeO.ite ?_ ?_|refine LeO.bind ?_ (fun _=>?_)):P:=h
theorem U24.mono_l:∀ k,(∀ y0 y1 y2,LeO (U24.j0 k y0 y1 y2) (U24.j0 (k+1) y0 y1 y2))∧(∀ y0 y1 y2 y3 y4,LeO (U24.l0 k y0 y1 y2 y3 y4) (U24.l0 (k+1) y0 y1 y2 y3 y4))∧(∀ y0 y1 y2 y3 y4 y5 y6 y7 y8 y9 y10,LeO (U24.l1 k y0 y1 y2 y3 y4 y5 y6 y7 y8 y9 y10) (U24.l1 (k+1) y0 y1 y2 y3 y4 y5 y6 y7 y8 y9 y10))
 | 0=>⟨fun _ _ _ r h=>by simp [U24.j0] at h,fun _ _ _ _ _ r h=>by simp [U24.l0] at h,fun _ _ _ _ _ _ _ _ _ _ _ r h=>by simp [U24.l1] at h⟩
 | k+1=>by
  obtain ⟨ih0,ih1,ih2⟩:=U24.mono_l k;refine ⟨?_,?_,?_⟩
  ·intro y0 y1 y2;unfold U24.j0
   exact zm14_0
  ·intro y0 y1 y2 y3 y4;unfold U24.l0
   exact zm14_0
  ·intro y0 y1 y2 y3 y4 y5 y6 y7 y8 y9 y10;unfold U24.l1
   exact zm14_0
theorem U24.mono:∀ a0 a1 k,LeO (U24.f k a0 a1) (U24.f (k+1) a0 a1):=by
 intro a0 a1 k;obtain ⟨ih0,ih1,ih2⟩:=U24.mono_l k;unfold U24.f
 exact zm14_0
set_option maxHeartbeats 8000000 in
set_option maxRecDepth 100000 in
theorem U24.calls (k:Nat) (P0_:Nat→Prop) (A0:Option Addr) (c0:Nat) (l0:List Int) (P1_:Nat→Prop) (A1:Option Addr) (c1:Nat) (l1:List Int) (r:List Int) (w:World) (hs0:Kd.V (Kd.int .u32) 79 w w.heap.size (fun k_=>P0_ k_) (.slice A0 l0.length c0) l0) (hs1:Kd.V (Kd.int .u32) 79 w w.heap.size (fun k_=>P1_ k_) (.slice A1 l1.length c1) l1) (h:U24.f k l0 l1 = some r) :
  Calls Tryd.prog 67 #[.slice A0 l0.length c0,.slice A1 l1.length c1] w fun e w'=>∃ v0_:Value,e = .returned (v0_)∧Kd.V (Kd.int .u32) 79 w' w.heap.size (fun k_=>((P0_ k_∨P1_ k_)∨w.heap.size≤k_)) v0_ r∧Below w.heap.size w w':=by
 have HO0:=wA.mk (show Kd.V (Kd.int .u32) 79 w w.heap.size (fun k_=>((P0_ k_∨P1_ k_)∨w.heap.size≤k_)) (.slice A0 l0.length c0) l0 from Kd.V_mono hs0 (fun k_ hk=>.inl (.inl hk)));have HO1:=wA.mk (show Kd.V (Kd.int .u32) 79 w w.heap.size (fun k_=>((P0_ k_∨P1_ k_)∨w.heap.size≤k_)) (.slice A1 l1.length c1) l1 from Kd.V_mono hs1 (fun k_ hk=>.inl (.inr hk)));have HB:=wA.mk (Below.refl w.heap.size w);have H:((U29.f k l0).bind fun t419=>((U29.f k l1).bind fun t422=>(if (t419.length:Int) = 0 then (U24.j0 k t419 t422 true) else (U24.j0 k t419 t422 ((t422.length:Int) == 0))))) = some r:=h;clear h;replace H:=zzb H;obtain ⟨t419,A3,H⟩:=H;replace H:=zzb H;obtain ⟨t422,A4,H⟩:=H;have HC5:=wA.mk H;clear H;go_enter Tryd.func67,Tryd.ntmps67
 go_upto_region 2 with (first|((with_reducible refine wI (f:=70) rfl ?_);refine wR (some 14) rfl rfl Tryd.func70 (zz0) rfl #[.slice A0 l0.length c0] rfl (zz20) ?_;(with_reducible refine (U29.calls k (fun k_=>((P0_ k_∨P1_ k_)∨w.heap.size≤k_)) _ _ l0 t419 _ ?_ A3.out).mono ?_);exact HO0.out;rintro e w6 ⟨v420,rfl,ho0,hb⟩;refine ⟨_,rfl,?_⟩;replace HO0:=wA.mk (Kd.V_below (zz40) hb);replace HO1:=wA.mk (Kd.V_below (zz47) hb);have HO421:=wA.mk (Kd.V_lower (Kd.V_mono (ok':=fun k_=>((P0_ k_∨P1_ k_)∨w.heap.size≤k_)) ho0 (fun k_ hk_=>Or.elim hk_ (fun hs_=>hs_) (fun hn_=>(.inr (Nat.le_trans (wB (zz3)) hn_))))) (wB (zz3)));replace HB:=wA.mk (wC (zz3) hb);(try clear hb);(try clear ho0))|((with_reducible refine wI (f:=70) rfl ?_);refine wR (some 16) rfl rfl Tryd.func70 (zz0) rfl #[.slice A1 l1.length c1] rfl (zz20) ?_;(with_reducible refine (U29.calls k (fun k_=>((P0_ k_∨P1_ k_)∨w.heap.size≤k_)) _ _ l1 t422 _ ?_ A4.out).mono ?_);exact HO1.out;rintro e w7 ⟨v423,rfl,ho0,hb⟩;refine ⟨_,rfl,?_⟩;replace HO0:=wA.mk (Kd.V_below (zz40) hb);replace HO1:=wA.mk (Kd.V_below (zz47) hb);replace HO421:=wA.mk (Kd.V_below (have h0_:=HO421;zz41) hb);have HO424:=wA.mk (Kd.V_lower (Kd.V_mono (ok':=fun k_=>((P0_ k_∨P1_ k_)∨w.heap.size≤k_)) ho0 (fun k_ hk_=>Or.elim hk_ (fun hs_=>hs_) (fun hn_=>(.inr (Nat.le_trans (wB (zz3)) hn_))))) (wB (zz3)));replace HB:=wA.mk (wC (zz3) hb);(try clear hb);(try clear ho0)))
 (try simp only [Act.put,List.setIfInBounds_toArray,List.set_cons_zero,List.set_cons_succ]);go_cut [24] (fun v24 wc=>∃ (kq:Nat) (x24_4:Bool),v24 = .bool x24_4∧wA (U24.j0 kq t419 t422 x24_4 = some r)∧wA (kq≤k)∧wA (Kd.V (Kd.int .u32) 79 wc w.heap.size (fun k_=>((P0_ k_∨P1_ k_)∨w.heap.size≤k_)) v420 t419)∧wA (Kd.V (Kd.int .u32) 79 wc w.heap.size (fun k_=>((P0_ k_∨P1_ k_)∨w.heap.size≤k_)) v423 t422)∧wA (Below w.heap.size w wc))
 case first =>
  have H:=HC5.out;clear HC5;replace H:=zzj H;rcases H with ⟨c8,H⟩|⟨c8,H⟩
  ·have c8b0:=beq_iff_eq.mpr c8;have c8b1:=bne_eq_false_iff_eq.mpr c8;clear c8
   (first|rw [c8b0]|rw [c8b1]|(simp only [yS,zF];rw [c8b0])|skip);have H':=wA.mk H;clear H;obtain ⟨Ao9,co9,eo9⟩:=Kd.V_slice HO421.out;subst eo9
   go_wp2
   go_meet
   case rel=>exact ⟨_,(true),(zz2),H',⟨zz28⟩,⟨(have h0_:=HO421;zz41)⟩,⟨(have h0_:=HO424;zz41)⟩,⟨zz3⟩⟩
  ·have c8b0:=beq_eq_false_iff_ne.mpr c8;have c8b1:=bne_iff_ne.mpr c8;have c8b2:¬ (t419 = []):=fun h_=>c8 (by rw [h_];rfl)
   (first|rw [c8b0]|rw [c8b1]|(simp only [yS,zF];rw [c8b0])|skip);have H':=wA.mk H;clear H;obtain ⟨Ao10,co10,eo10⟩:=Kd.V_slice HO421.out;subst eo10;obtain ⟨Ao11,co11,eo11⟩:=Kd.V_slice HO424.out;subst eo11
   go_wp2
   go_meet
   case rel=>exact ⟨_,(((t422.length:Int) == 0)),(zz2),H',⟨zz28⟩,⟨(have h0_:=HO421;zz41)⟩,⟨(have h0_:=HO424;zz41)⟩,⟨zz3⟩⟩
 case rest =>
  clear HC5;(try clear c1);obtain ⟨kq,x24_4,rfl,HA,HJ4,HO_5,HO_6,HB⟩:=hcut
  cases kq with
  | zero=>exact absurd HA.out (by simp [U24.j0])
  | succ kj4 =>
   have H:=HA.out;clear HA;simp only [U24.j0] at H;by_cases c12:x24_4 = true
   ·subst c12;have H1:(some ([]:List Int)) = some r:=zz18;clear H;have H:=H1;clear H1;obtain rfl:=Option.some.inj H
    go_wp2
    go_ret
    exact ⟨_,zz8,(Kd.V_nil _ _ _ _ _),zz3⟩
   ·replace c12:=Bool.eq_false_iff.mpr c12;subst c12;have H1:(if 0≤(wrap64 ((t419.length:Int)+(t422.length:Int))) then (if (wrap64 ((t419.length:Int)+(t422.length:Int)):Int).toNat≤70368744177664 then (U24.l0 kj4 t422 (List.replicate (wrap64 ((t419.length:Int)+(t422.length:Int)):Int).toNat 0) t419 (t419.length:Int) 0) else (none)) else (none)) = some r:=zz19;clear H;have H:=H1;clear H1;obtain ⟨ji13,hji13⟩:∃ j_:Int,(wrap64 ((t419.length:Int)+(t422.length:Int))) = j_:=⟨_,rfl⟩;replace H:(if 0≤(ji13) then (if (ji13:Int).toNat≤70368744177664 then (U24.l0 kj4 t422 (List.replicate (ji13:Int).toNat 0) t419 (t419.length:Int) 0) else (none)) else (none)) = some r:=(have h0_:=hji13;zz10);have hji13w:(IntKind.i64.wrap ((t419.length:Int)+(t422.length:Int))) = ji13:=(yS _).trans hji13;replace H:=zzi H;obtain ⟨c14,H⟩:=H;have c14b0:=eq_true c14;have c14b1:=qM c14;clear c14;replace H:=zzi H;obtain ⟨c15,H⟩:=H;have c15b0:=eq_true c15;have c15b1:=qM c15;clear c15;obtain ⟨y425,hy425⟩:∃ y_:List Int,y_ = (List.replicate (ji13:Int).toNat 0):=⟨_,rfl⟩;replace H:(U24.l0 kj4 t422 y425 t419 (t419.length:Int) 0) = some r:=(have h0_:=hy425;zz30);have Ny425:=wA.mk hy425;clear hy425;have H':=wA.mk H;clear H;obtain ⟨Ao16,co16,eo16⟩:=Kd.V_slice HO_5.out;subst eo16;obtain ⟨Ao17,co17,eo17⟩:=Kd.V_slice HO_6.out;subst eo17
    go_wp2_with (first|((with_reducible refine wL (N:=30) rfl ?_);(try (refine yK (zz25) ?_;dsimp only));refine Kd.R_make (Kd.int .u32) _ 79 rfl (N:=30) rfl 47 _ _ rfl ji13 rfl rfl Tryd.underlying47 (.int .u32 0) 4 info79 rfl (zz26) (zz1) 0 (ok:=fun _=>True) (okp:=fun _=>True) rfl (fun _ hk=>hk) trivial (qL (zz4)) (Nat.le_trans (Nat.mul_le_mul_right _ (qL (zz4):ji13.toNat≤70368744177664)) (zz1)) (Below.refl _ _) (Nat.le_refl _) ?_;intro v426 w18 ho19 hb hg_ hnew_;clear hg_ hnew_;(first|rw [← Ny425.out] at ho19|(simp only [Int.reduceToNat] at ho19;rw [← Ny425.out] at ho19));replace HO_5:=wA.mk (Kd.V_elder' (have h0_:=HO_5;zz41) (Kd.R_base ho19) hb);replace HO_6:=wA.mk (Kd.V_elder' (zz45) (Kd.R_base ho19) hb);have HO427:=wA.mk (Kd.R_lower (Kd.R_newM (M:=fun k_=>(w.heap.size≤k_)) ho19 (wB (zz3)) (fun k_ h_=>h_)) (wB (zz3)));replace HB:=wA.mk (wC (zz3) hb);clear hb ho19))
    go_loopg [33] kj4 (fun kq v33 w'=>∃ (x7_2:List Int) (x33_2:Int),v33 = .int .i64 x33_2∧wA (U24.l0 kq t422 x7_2 t419 (t419.length:Int) x33_2 = some r)∧wA (kq≤kj4)∧wA (Kd.V (Kd.int .u32) 79 w' w.heap.size (fun k_=>((P0_ k_∨P1_ k_)∨w.heap.size≤k_)∧some k_ ≠ (v426:Value).ownBlock) (.slice Ao17 t422.length co17) t422)∧wA (Kd.R (Kd.int .u32) 79 w' w.heap.size (fun k_=>(w.heap.size≤k_)) v426 x7_2)∧wA (Kd.V (Kd.int .u32) 79 w' w.heap.size (fun k_=>((P0_ k_∨P1_ k_)∨w.heap.size≤k_)∧some k_ ≠ (v426:Value).ownBlock) (.slice Ao16 t419.length co16) t419)∧wA (Below w.heap.size w w'))
    case atStart=>exact ⟨(y425),(0),(zz2),H',⟨Nat.le_refl _⟩,⟨zz45⟩,⟨(have h0_:=HO427;zz46)⟩,⟨(have h0_:=HO_5;zz41)⟩,⟨zz3⟩⟩
    case round =>
     clear H'
     (try clear c12);clear c14b0 c14b1 c15b0 c15b1
     obtain ⟨x7_2,x33_2,rfl,HA,HK2,HO_6,HO_7,HO_31,HB⟩:=hrel
     cases gk with
     | zero=>exact absurd HA.out (by simp [U24.l0])
     | succ k2 =>
      have H:=HA.out;clear HA;simp only [U24.l0] at H;replace H:=zzj H;rcases H with ⟨c20,H⟩|⟨c20,H⟩
      ·have c20b0:=qM c20;clear c20;replace H:=zzi H;obtain ⟨c21,H⟩:=H;have c21b0:=qM c21;clear c21;replace H:=zzi H;obtain ⟨c22,H⟩:=H;have c22b0:=qM c22;clear c22;have H':=wA.mk H;clear H;have p431:0≤(x33_2:Int):=qL (zz4);have q431:x33_2 < (t419.length:Int):=qL (zz4);obtain ⟨ad431,e431,hx431_0⟩:=Kd.at_int (Kd.V_reads' HO_31.out).2.2 x33_2 p431 q431
       cases e431
       replace p431:=eq_true p431;replace q431:=eq_true q431
       go_wp2
       go_loopg [10,40] k2 (fun kq v10 v40 w'=>∃ (x7_3:List Int) (x10_3:Int) (x40_3:Int),v10 = .int .u64 x10_3∧v40 = .int .i64 x40_3∧wA (U24.l1 kq t422 x7_3 x33_2 (rd t419 x33_2) x10_3 t419 (t419.length:Int) x33_2 t422 (t422.length:Int) x40_3 = some r)∧wA (kq≤k2)∧wA (Kd.V (Kd.int .u32) 79 w' w.heap.size (fun k_=>((P0_ k_∨P1_ k_)∨w.heap.size≤k_)∧some k_ ≠ (v426:Value).ownBlock) (.slice Ao17 t422.length co17) t422)∧wA (Kd.R (Kd.int .u32) 79 w' w.heap.size (fun k_=>(w.heap.size≤k_)) v426 x7_3)∧wA (Kd.V (Kd.int .u32) 79 w' w.heap.size (fun k_=>((P0_ k_∨P1_ k_)∨w.heap.size≤k_)∧some k_ ≠ (v426:Value).ownBlock) (.slice (some ad431) t419.length co16) t419)∧wA (Kd.V (Kd.int .u32) 79 w' w.heap.size (fun k_=>((P0_ k_∨P1_ k_)∨w.heap.size≤k_)∧some k_ ≠ (v426:Value).ownBlock) (.slice Ao17 t422.length co17) t422)∧wA (Below w.heap.size w w'))
       case atStart=>exact ⟨(x7_2),(0),(0),(zz2),(zz2),H',⟨Nat.le_refl _⟩,⟨zz45⟩,⟨zz62⟩,⟨(have h0_:=HO_31;zz41)⟩,⟨zz45⟩,⟨zz3⟩⟩
       case round =>
        clear H'
        clear c20b0 c21b0 c22b0 p431 q431;(try clear hx431_0)
        obtain ⟨x7_3,x10_3,x40_3,rfl,rfl,HA,HK3,HO_6,HO_7,HO_31,HO_38,HB⟩:=hrel
        cases gk with
        | zero=>exact absurd HA.out (by simp [U24.l1])
        | succ k3 =>
         have H:=HA.out;clear HA;simp only [U24.l1] at H;replace H:=zzj H;rcases H with ⟨c23,H⟩|⟨c23,H⟩
         ·have c23b0:=qM c23;clear c23;replace H:=zzi H;obtain ⟨c24,H⟩:=H;have c24b0:=qM c24;clear c24;replace H:=zzi H;obtain ⟨c25,H⟩:=H;have c25b0:=qM c25;clear c25;obtain ⟨ji26,hji26⟩:∃ j_:Int,(wrap64 (x33_2+x40_3)) = j_:=⟨_,rfl⟩;replace H:(if 0≤(ji26) then (if (ji26) < (x7_3.length:Int) then (U24.l1 k3 t422 (x7_3.set ((ji26):Int).toNat ((Go.bits .and .u64 (IntKind.u64.wrap (x10_3+(IntKind.u64.wrap ((IntKind.u64.wrap ((IntKind.u64.wrap ((rd t419 x33_2))) * (IntKind.u64.wrap (rd t422 x40_3))))+(IntKind.u64.wrap (rd x7_3 (ji26))))))) 4294967295) % 4294967296)) x33_2 (rd t419 x33_2) ((IntKind.u64.wrap (x10_3+(IntKind.u64.wrap ((IntKind.u64.wrap ((IntKind.u64.wrap ((rd t419 x33_2))) * (IntKind.u64.wrap (rd t422 x40_3))))+(IntKind.u64.wrap (rd x7_3 (ji26))))))) / 4294967296) t419 (t419.length:Int) x33_2 t422 (t422.length:Int) (wrap64 (x40_3+1))) else (none)) else (none)) = some r:=(have h0_:=hji26;zz10);have hji26w:(IntKind.i64.wrap (x33_2+x40_3)) = ji26:=(yS _).trans hji26;replace H:=zzi H;obtain ⟨c27,H⟩:=H;have c27b0:=qM c27;clear c27;replace H:=zzi H;obtain ⟨c28,H⟩:=H;have c28b0:=qM c28;clear c28;obtain ⟨y434,hy434⟩:∃ y_:List Int,y_ = (x7_3.set ((ji26):Int).toNat ((Go.bits .and .u64 (IntKind.u64.wrap (x10_3+(IntKind.u64.wrap ((IntKind.u64.wrap ((IntKind.u64.wrap ((rd t419 x33_2))) * (IntKind.u64.wrap (rd t422 x40_3))))+(IntKind.u64.wrap (rd x7_3 (ji26))))))) 4294967295) % 4294967296)):=⟨_,rfl⟩;replace H:(U24.l1 k3 t422 y434 x33_2 (rd t419 x33_2) ((IntKind.u64.wrap (x10_3+(IntKind.u64.wrap ((IntKind.u64.wrap ((IntKind.u64.wrap ((rd t419 x33_2))) * (IntKind.u64.wrap (rd t422 x40_3))))+(IntKind.u64.wrap (rd x7_3 (ji26))))))) / 4294967296) t419 (t419.length:Int) x33_2 t422 (t422.length:Int) (wrap64 (x40_3+1))) = some r:=(have h0_:=hy434;zz30);have Ny434:=wA.mk hy434;clear hy434;have H':=wA.mk H;clear H;have p432:0≤(x40_3:Int):=qL (zz4);have q432:x40_3 < (t422.length:Int):=qL (zz4);obtain ⟨ad432,e432,hx432_0⟩:=Kd.at_int (Kd.V_reads' HO_38.out).2.2 x40_3 p432 q432
          cases e432
          replace p432:=eq_true p432;replace q432:=eq_true q432;obtain ⟨Ao30,co30,eo30⟩:=Kd.R_slice HO_7.out;subst eo30;have p433:0≤((ji26):Int):=qL (zz4);have q433:(ji26) < (x7_3.length:Int):=qL (zz4);obtain ⟨ad433,e433,hx433_0⟩:=Kd.at_int (Kd.R_reads' HO_7.out).2.2 (ji26) p433 q433
          cases e433
          replace p433:=eq_true p433;replace q433:=eq_true q433;have p29:0≤((ji26):Int):=qL (zz4);have q29:((ji26):Int) < ((x7_3.length:Int):Int):=qL (zz4);obtain ⟨go29,co29,eo29,gb29,gl29,cl29,HG29⟩:=Kd.R_form HO_7.out (zz1)
          (first|cases eo29|(injection eo29 with ea_ en_ ec_;(first|subst ea_|(injection ea_ with ea_;subst ea_));subst ec_;clear en_));have GB29:=wA.mk gb29;have GG29:=wA.mk HG29;clear gb29 gl29 HG29
          (first|simp only [zI] at hx433_0|skip);obtain ⟨hx29_0,hf29_0⟩:=Kd.R_celln 0 HO_7.out ((ji26):Int) p29 q29;replace p29:=eq_true p29;replace q29:=eq_true q29;obtain ⟨hy31_,hz31_⟩:=Kd.R_celln 0 HO_7.out ((ji26):Int) (qL (zz4)) (qL (zz4));have HP31:=Kd.R_putg HO_7.out ((ji26):Int) ((Go.bits .and .u64 (IntKind.u64.wrap (x10_3+(IntKind.u64.wrap ((IntKind.u64.wrap ((IntKind.u64.wrap ((rd t419 x33_2))) * (IntKind.u64.wrap (rd t422 x40_3))))+(IntKind.u64.wrap (rd x7_3 (ji26))))))) 4294967295) % 4294967296)
          go_wp2_with (first|((with_reducible refine yN (t:=79) (p:=67) rfl ?_);refine yL (t:=79) (p:=67) (v:=?vo_w32) (w1:=(wr.setCell ⟨go29,((ji26):Int).toNat,none⟩ (.int .u32 ((Go.bits .and .u64 (IntKind.u64.wrap (x10_3+(IntKind.u64.wrap ((IntKind.u64.wrap ((IntKind.u64.wrap ((rd t419 x33_2))) * (IntKind.u64.wrap (rd t422 x40_3))))+(IntKind.u64.wrap (rd x7_3 (ji26))))))) 4294967295) % 4294967296)))) ?hg ?ho ?hn ?hr ?_;(case ho=>rfl);(case hg=>rfl);(case hn=>rfl);(case hr=>exact zz156);intro w32 hw;have hg:wr.grownBy w32 (some go29):=(by rw [hw];exact HP31.2);have hp_:Kd.R (Kd.int .u32) 79 w32 w.heap.size (fun k_=>(w.heap.size≤k_)) (.slice (some ⟨go29,0,none⟩) x7_3.length co30) y434:=(by rw [hw,Ny434.out];exact HP31.1);clear HP31;replace HO_6:=wA.mk (Kd.V_afterv (v:=(.slice (some ⟨go29,0,none⟩) x7_3.length co30)) (v1:=(.slice (some ⟨go29,0,none⟩) x7_3.length co30)) (ok:=(fun k_=>((P0_ k_∨P1_ k_)∨w.heap.size≤k_))) (zz45) hg (.inl rfl));replace HO_7:=wA.mk (hp_);replace HO_31:=wA.mk (Kd.V_afterv (v:=(.slice (some ⟨go29,0,none⟩) x7_3.length co30)) (v1:=(.slice (some ⟨go29,0,none⟩) x7_3.length co30)) (ok:=(fun k_=>((P0_ k_∨P1_ k_)∨w.heap.size≤k_))) (have h0_:=HO_31;zz41) hg (.inl rfl));replace HO_38:=wA.mk (Kd.V_afterv (v:=(.slice (some ⟨go29,0,none⟩) x7_3.length co30)) (v1:=(.slice (some ⟨go29,0,none⟩) x7_3.length co30)) (ok:=(fun k_=>((P0_ k_∨P1_ k_)∨w.heap.size≤k_))) (have h0_:=HO_38;zz41) hg (.inl rfl));replace HB:=wA.mk ((by rw [hw];exact wO (HB.out) GB29.out:Below w.heap.size w w32));clear hg hw hp_))
          go_roundg k3
          case measure=>have:=HJ4.out;have:=HK2.out;have:=HK3.out;omega
          case rel=>exact ⟨(y434),((IntKind.u64.wrap (x10_3+(IntKind.u64.wrap ((IntKind.u64.wrap ((IntKind.u64.wrap ((rd t419 x33_2))) * (IntKind.u64.wrap (rd t422 x40_3))))+(IntKind.u64.wrap (rd x7_3 (ji26))))))) / 4294967296),(wrap64 (x40_3+1)),(have h0_:=hji26;zz11),(zz2),H',⟨by have:=HJ4.out;have:=HK2.out;have:=HK3.out;omega⟩,⟨zz45⟩,⟨zz62⟩,⟨(have h0_:=HO_31;zz41)⟩,⟨(have h0_:=HO_38;zz41)⟩,⟨zz3⟩⟩
         ·have c23b0:=qN c23;clear c23;obtain ⟨ji33,hji33⟩:∃ j_:Int,(wrap64 (x33_2+(t422.length:Int))) = j_:=⟨_,rfl⟩;replace H:(if 0≤(ji33) then (if (ji33) < (x7_3.length:Int) then (U24.l0 k3 t422 (x7_3.set ((ji33):Int).toNat ((x10_3) % 4294967296)) t419 (t419.length:Int) (wrap64 (x33_2+1))) else (none)) else (none)) = some r:=(have h0_:=hji33;zz10);have hji33w:(IntKind.i64.wrap (x33_2+(t422.length:Int))) = ji33:=(yS _).trans hji33;replace H:=zzi H;obtain ⟨c34,H⟩:=H;have c34b0:=qM c34;clear c34;replace H:=zzi H;obtain ⟨c35,H⟩:=H;have c35b0:=qM c35;clear c35;obtain ⟨y435,hy435⟩:∃ y_:List Int,y_ = (x7_3.set ((ji33):Int).toNat ((x10_3) % 4294967296)):=⟨_,rfl⟩;replace H:(U24.l0 k3 t422 y435 t419 (t419.length:Int) (wrap64 (x33_2+1))) = some r:=(have h0_:=hy435;zz30);have Ny435:=wA.mk hy435;clear hy435;have H':=wA.mk H;clear H;have p36:0≤((ji33):Int):=qL (zz4);have q36:((ji33):Int) < ((x7_3.length:Int):Int):=qL (zz4);obtain ⟨go36,co36,eo36,gb36,gl36,cl36,HG36⟩:=Kd.R_form HO_7.out (zz1)
          (first|cases eo36|(injection eo36 with ea_ en_ ec_;(first|subst ea_|(injection ea_ with ea_;subst ea_));subst ec_;clear en_));have GB36:=wA.mk gb36;have GG36:=wA.mk HG36;clear gb36 gl36 HG36;obtain ⟨hx36_0,hf36_0⟩:=Kd.R_celln 0 HO_7.out ((ji33):Int) p36 q36;replace p36:=eq_true p36;replace q36:=eq_true q36;obtain ⟨hy37_,hz37_⟩:=Kd.R_celln 0 HO_7.out ((ji33):Int) (qL (zz4)) (qL (zz4));have HP37:=Kd.R_putg HO_7.out ((ji33):Int) ((x10_3) % 4294967296)
          go_wp2_with (first|((with_reducible refine yN (t:=79) (p:=78) rfl ?_);refine yL (t:=79) (p:=78) (v:=?vo_w38) (w1:=(wr.setCell ⟨go36,((ji33):Int).toNat,none⟩ (.int .u32 ((x10_3) % 4294967296)))) ?hg ?ho ?hn ?hr ?_;(case ho=>rfl);(case hg=>rfl);(case hn=>rfl);(case hr=>exact zz156);intro w38 hw;have hg:wr.grownBy w38 (some go36):=(by rw [hw];exact HP37.2);have hp_:Kd.R (Kd.int .u32) 79 w38 w.heap.size (fun k_=>(w.heap.size≤k_)) (.slice (some ⟨go36,0,none⟩) x7_3.length co36) y435:=(by rw [hw,Ny435.out];exact HP37.1);clear HP37;replace HO_6:=wA.mk (Kd.V_afterv (v:=(.slice (some ⟨go36,0,none⟩) x7_3.length co36)) (v1:=(.slice (some ⟨go36,0,none⟩) x7_3.length co36)) (ok:=(fun k_=>((P0_ k_∨P1_ k_)∨w.heap.size≤k_))) (zz45) hg (.inl rfl));replace HO_7:=wA.mk (hp_);replace HO_31:=wA.mk (Kd.V_afterv (v:=(.slice (some ⟨go36,0,none⟩) x7_3.length co36)) (v1:=(.slice (some ⟨go36,0,none⟩) x7_3.length co36)) (ok:=(fun k_=>((P0_ k_∨P1_ k_)∨w.heap.size≤k_))) (have h0_:=HO_31;zz41) hg (.inl rfl));replace HO_38:=wA.mk (Kd.V_afterv (v:=(.slice (some ⟨go36,0,none⟩) x7_3.length co36)) (v1:=(.slice (some ⟨go36,0,none⟩) x7_3.length co36)) (ok:=(fun k_=>((P0_ k_∨P1_ k_)∨w.heap.size≤k_))) (have h0_:=HO_38;zz41) hg (.inl rfl));replace HB:=wA.mk ((by rw [hw];exact wO (HB.out) GB36.out:Below w.heap.size w w38));clear hg hw hp_))
          go_roundg k3
          case measure=>have:=HJ4.out;have:=HK2.out;have:=HK3.out;omega
          case rel=>exact ⟨(y435),(wrap64 (x33_2+1)),(zz2),H',⟨by have:=HJ4.out;have:=HK2.out;have:=HK3.out;omega⟩,⟨zz45⟩,⟨zz62⟩,⟨(have h0_:=HO_31;zz41)⟩,⟨zz3⟩⟩
      ·have c20b0:=qN c20;clear c20;replace H:=zzb H;obtain ⟨t428,A39,H⟩:=H;obtain rfl:=Option.some.inj H;obtain ⟨Ao40,co40,eo40⟩:=Kd.R_slice HO_7.out;subst eo40
       go_wp2_with (first|((with_reducible refine wI (f:=70) rfl ?_);refine wR (some 81) rfl rfl Tryd.func70 (zz0) rfl #[.slice Ao40 x7_2.length co40] rfl (zz20) ?_;(with_reducible refine (U29.calls k2 (fun k_=>some k_ = (.slice Ao40 x7_2.length co40:Value).ownBlock) _ _ x7_2 t428 _ ?_ A39.out).mono ?_);exact Kd.R_V (Kd.R_tight rfl (HO_7.out));rintro e w41 ⟨v429,rfl,ho0,hb⟩;refine ⟨_,rfl,?_⟩;replace HO_6:=wA.mk (Kd.V_below (zz45) hb);replace HO_31:=wA.mk (Kd.V_below (have h0_:=HO_31;zz41) hb);have HO430:=wA.mk (Kd.V_lower (Kd.V_mono (ok':=fun k_=>((P0_ k_∨P1_ k_)∨w.heap.size≤k_)) ho0 (fun k_ hk_=>Or.elim hk_ (fun hs_=>(.inr (((HO_7.out).1 k_ hs_.symm)))) (fun hn_=>(.inr (Nat.le_trans (wB (zz3)) hn_))))) (wB (zz3)));replace HO_7:=wA.mk (Kd.R_below (zz62) hb);replace HB:=wA.mk (wC (zz3) hb);(try clear hb);(try clear ho0)))
       go_ret
       exact ⟨_,(have h0_:=hji13;zz16),(have h0_:=HO430;zz41),zz3⟩
def U13.f (k:Nat) (a0_0:Bool) (l0_1:List Int) (a1_0:Bool) (l1_1:List Int):Option (Bool × List Int):=(U24.f k l0_1 l1_1).bind fun t439=>((U12.f k (a0_0 != a1_0) t439).bind fun bt442=>(some (bt442.1,bt442.2)))
theorem zm14_1 {P:Prop} (h:P:=by repeat' first|(with_reducible first|exact U12.mono ..|exact U24.mono ..|exact LeO.refl _|exact LeO.none _|refine LeO.ite ?_ ?_|refine LeO.bind ?_ (fun _=>?_))|exact U12.mono ..|exact U24.mono ..|exact LeO.none _|refine LeO.ite ?_ ?_|refine LeO.bind ?_ (fun _=>?_)):P:=h
theorem U13.mono:∀ a0 a1 a2 a3 k,LeO (U13.f k a0 a1 a2 a3) (U13.f (k+1) a0 a1 a2 a3):=by
 intro a0 a1 a2 a3 k;unfold U13.f
 exact zm14_1
def U13.T1:Bool × List (List Nat × List Nat):=(true,[([],[]),([0],[0]),([],[]),([2],[2]),([1,3],[1,3]),([],[]),([5],[5]),([],[]),([7],[7]),([6,8],[6,8]),([4,9,9],[4,9]),([10,10,0,1,2,3,4,5,6,7,8,9,10],[10])])
def U13.B1:List Nat:=[0,1,0,4,15,0,32,0,128,480,1023,2047]
theorem U13.tab1:zH .any (zU Tryd.f64 1) = U13.T1:=zz0
theorem U13.bits1:yY U13.T1.2 U13.B1 = true:=zz0
set_option maxHeartbeats 8000000 in
set_option maxRecDepth 100000 in
theorem U13.calls (k:Nat) (a0_0:Bool) (A0_1:Option Addr) (c0_1:Nat) (l0_1:List Int) (a1_0:Bool) (A1_1:Option Addr) (c1_1:Nat) (l1_1:List Int) (r1:Bool) (r2:List Int) (w:World) (hr0_1:Kd.C (Kd.int .u32) w A0_1 l0_1.length l0_1) (hc0_1:l0_1.length≤c0_1) (hr1_1:Kd.C (Kd.int .u32) w A1_1 l1_1.length l1_1) (hc1_1:l1_1.length≤c1_1) (h:U13.f k a0_0 l0_1 a1_0 l1_1 = some (r1,r2)) :
  Calls Tryd.prog 64 #[.agg #[.bool a0_0,.slice A0_1 l0_1.length c0_1],.agg #[.bool a1_0,.slice A1_1 l1_1.length c1_1]] w fun e w'=>∃ v1_:Value,e = .returned (.agg #[.bool r1,v1_])∧Kd.R (Kd.int .u32) 79 w' w.heap.size (fun _=>True) v1_ r2∧Below w.heap.size w w':=by
 have hu49:=Tryd.underlying49;have HR0_1:=wA.mk hr0_1;have HC0_1:=wA.mk hc0_1;clear hr0_1 hc0_1;have HR1_1:=wA.mk hr1_1;have HC1_1:=wA.mk hc1_1;clear hr1_1 hc1_1;have HB:=wA.mk (Below.refl w.heap.size w);have H:((U24.f k l0_1 l1_1).bind fun t439=>((U12.f k (a0_0 != a1_0) t439).bind fun bt442=>(some (bt442.1,bt442.2)))) = some (r1,r2):=h;clear h;replace H:=zzb H;obtain ⟨t439,A3,H⟩:=H;replace H:=Option.bind_eq_some_iff.mp H;obtain ⟨⟨t442,t443⟩,A40,H⟩:=H;have A4:=wA.mk A40;clear A40;simp only [Option.some.injEq,Prod.mk.injEq] at H;obtain ⟨rfl,rfl⟩:=H;go_enter Tryd.func64,Tryd.ntmps64
 try go_wp2_with (first|((with_reducible refine wL (N:=2) rfl ?_);refine wM ?hg (N:=2) ?hd (cs:=#[.bool a0_0,.slice A0_1 l0_1.length c0_1]) (t:=49) ?hr ?_;(case hd=>rfl);(case hg=>rfl);(case hr=>exact zz156);intro gb436 hg w5 hbox hb;have BK436:=wA.mk (hbox);have GW436:=wA.mk ((by rw [hg];exact (wB (zz3)):w.heap.size≤gb436));have GE436:=wA.mk ((by rw [hg];exact (wB (zz3)):w.heap.size≤gb436));replace HB:=wA.mk (wC (zz3) hb);clear hb hbox hg)|((with_reducible refine wL (N:=3) rfl ?_);refine wM ?hg (N:=3) ?hd (cs:=#[.bool a1_0,.slice A1_1 l1_1.length c1_1]) (t:=49) ?hr ?_;(case hd=>rfl);(case hg=>rfl);(case hr=>exact zz156);intro gb437 hg w6 hbox hb;have BK437:=wA.mk (hbox);have GW437:=wA.mk ((by rw [hg];exact (wB (have h0_:=GE436;zz6)):w.heap.size≤gb437));have GE437:=wA.mk ((by rw [hg];exact (wB (have h0_:=GE436;zz6)):w.heap.size≤gb437));replace HB:=wA.mk (wC (have h0_:=GE436;zz6) hb);have NB436_437:=wA.mk ((by rw [hg];exact Nat.ne_of_lt (wN (g:=gb436) (o:=.cells #[.bool a0_0,.slice A0_1 l0_1.length c0_1] 49 (0,0)) (have h0_:=BK436;zz23)):gb436 ≠ gb437));have NB437_436:=wA.mk ((by rw [hg];exact Nat.ne_of_gt (wN (g:=gb436) (o:=.cells #[.bool a0_0,.slice A0_1 l0_1.length c0_1] 49 (0,0)) (have h0_:=BK436;zz23)):gb437 ≠ gb436));replace BK436:=wA.mk (wF (have h0_:=BK436;zz23) hb);clear hb hbox hg)|((with_reducible refine wL (N:=4) rfl ?_);refine wM ?hg (N:=4) ?hd (cs:=#[.bool false,.slice none 0 0]) (t:=49) ?hr ?_;(case hd=>rfl);(case hg=>rfl);(case hr=>exact zz156);intro gb438 hg w7 hbox hb;have BK438:=wA.mk (hbox);have GW438:=wA.mk ((by rw [hg];exact (wB (have h0_:=GE436;have h1_:=GE437;zz57)):w.heap.size≤gb438));have GE438:=wA.mk ((by rw [hg];exact (wB (have h0_:=GE436;have h1_:=GE437;zz57)):w.heap.size≤gb438));replace HB:=wA.mk (wC (have h0_:=GE436;have h1_:=GE437;zz57) hb);have NB436_438:=wA.mk ((by rw [hg];exact Nat.ne_of_lt (wN (g:=gb436) (o:=.cells #[.bool a0_0,.slice A0_1 l0_1.length c0_1] 49 (0,0)) (have h0_:=BK436;zz23)):gb436 ≠ gb438));have NB438_436:=wA.mk ((by rw [hg];exact Nat.ne_of_gt (wN (g:=gb436) (o:=.cells #[.bool a0_0,.slice A0_1 l0_1.length c0_1] 49 (0,0)) (have h0_:=BK436;zz23)):gb438 ≠ gb436));replace BK436:=wA.mk (wF (have h0_:=BK436;zz23) hb);have NB437_438:=wA.mk ((by rw [hg];exact Nat.ne_of_lt (wN (g:=gb437) (o:=.cells #[.bool a1_0,.slice A1_1 l1_1.length c1_1] 49 (0,0)) (have h0_:=BK437;zz23)):gb437 ≠ gb438));have NB438_437:=wA.mk ((by rw [hg];exact Nat.ne_of_gt (wN (g:=gb437) (o:=.cells #[.bool a1_0,.slice A1_1 l1_1.length c1_1] 49 (0,0)) (have h0_:=BK437;zz23)):gb438 ≠ gb437));replace BK437:=wA.mk (wF (have h0_:=BK437;zz23) hb);clear hb hbox hg))
 replace BK436:=wA.mk (wG BK436.out);replace BK437:=wA.mk (wG BK437.out);replace BK438:=wA.mk (wG BK438.out);replace HB:=wA.mk (wS HB.out);refine yP (n:=12) (S:=fun w'=>w'.cell? ⟨gb436,0,none⟩ = some (.bool a0_0)∧w'.cell? ⟨gb436,1,none⟩ = some (.slice A0_1 l0_1.length c0_1)∧w'.cell? ⟨gb437,0,none⟩ = some (.bool a1_0)∧w'.cell? ⟨gb437,1,none⟩ = some (.slice A1_1 l1_1.length c1_1)) (ds:=[]) #[fF,fF,fF,fF,fF,fF,fF,fF,fF,fF,fF,fF] (zz0) rfl rfl ⟨(wH BK436.out 0).trans rfl,(wH BK436.out 1).trans rfl,(wH BK437.out 0).trans rfl,(wH BK437.out 1).trans rfl⟩ (fun hHeld=>?_);refine yG U13.tab1 U13.bits1 (fun HT_ HW_=>?_)
 generalize w7.drew = w8 at BK436 BK437 BK438 HB hHeld ⊢
 refine zzp 0 5 ?_ #[tT,fF,fF,fF,fF,fF,fF,fF,fF,fF,fF,fF] rfl rfl (wJ HT_.out (zz0)) (fun _ _ _ h=>h) (Or.inl ⟨zz25,?_⟩) ?_ ?_ ?_;rotate_left
 ·intro w';go_simp;with_reducible rfl
 rotate_left;·simp only [zzs];rfl
 refine zzp 2 7 ?_ #[tT,fF,tT,fF,fF,fF,fF,fF,fF,fF,fF,fF] rfl rfl (wJ HT_.out (zz0)) (fun _ _ _ h=>h) (Or.inl ⟨zz25,?_⟩) ?_ ?_ ?_;rotate_left
 ·intro w';go_simp;with_reducible rfl
 rotate_left;·simp only [zzs];rfl
 refine zzp 5 10 ?_ #[tT,fF,tT,fF,fF,tT,fF,fF,fF,fF,fF,fF] rfl rfl (wJ HT_.out (zz0)) (fun _ _ _ h=>h) (Or.inl ⟨zz25,?_⟩) ?_ ?_ ?_;rotate_left
 ·intro w';go_simp;with_reducible rfl
 rotate_left;·simp only [zzs];rfl
 refine zzp 7 12 ?_ #[tT,fF,tT,fF,fF,tT,fF,tT,fF,fF,fF,fF] rfl rfl (wJ HT_.out (zz0)) (fun _ _ _ h=>h) (Or.inl ⟨zz25,?_⟩) ?_ ?_ ?_;rotate_left
 ·intro w';go_simp;with_reducible rfl
 rotate_left;·simp only [zzs];rfl
 refine take_ (i:=1) (N:=some 6) (v:=?_) (a':=?_) #[tT,tT,tT,fF,fF,tT,fF,tT,fF,fF,fF,fF] rfl rfl (wU HT_.out HW_.out (zz0)) (fun _ _ _ h=>h) (Or.inl ⟨zz25,?_⟩) hHeld ?_ ?_;rotate_left
 ·rintro w' ⟨s0,s1,s2,s3⟩
  go_simp
  with_reducible rfl
 rotate_left;·simp only [zzs];rfl
 refine take_ (i:=3) (N:=some 8) (v:=?_) (a':=?_) #[tT,tT,tT,tT,fF,tT,fF,tT,fF,fF,fF,fF] rfl rfl (wU HT_.out HW_.out (zz0)) (fun _ _ _ h=>h) (Or.inl ⟨zz25,?_⟩) hHeld ?_ ?_;rotate_left
 ·rintro w' ⟨s0,s1,s2,s3⟩
  go_simp
  with_reducible rfl
 rotate_left;·simp only [zzs];rfl
 refine zzp 4 9 ?_ #[tT,tT,tT,tT,tT,tT,fF,tT,fF,fF,fF,fF] rfl rfl (wJ HT_.out (zz0)) (fun _ _ _ h=>h) (Or.inl ⟨zz25,?_⟩) ?_ ?_ ?_;rotate_left
 ·intro w';go_simp;with_reducible rfl
 rotate_left;·simp only [zzs];rfl
 refine take_ (i:=6) (N:=some 11) (v:=?_) (a':=?_) #[tT,tT,tT,tT,tT,tT,tT,tT,fF,fF,fF,fF] rfl rfl (wU HT_.out HW_.out (zz0)) (fun _ _ _ h=>h) (Or.inl ⟨zz25,?_⟩) hHeld ?_ ?_;rotate_left
 ·rintro w' ⟨s0,s1,s2,s3⟩
  go_simp
  with_reducible rfl
 rotate_left;·simp only [zzs];rfl
 refine take_ (i:=8) (N:=some 13) (v:=?_) (a':=?_) #[tT,tT,tT,tT,tT,tT,tT,tT,tT,fF,fF,fF] rfl rfl (wU HT_.out HW_.out (zz0)) (fun _ _ _ h=>h) (Or.inl ⟨zz25,?_⟩) hHeld ?_ ?_;rotate_left
 ·rintro w' ⟨s0,s1,s2,s3⟩
  go_simp
  with_reducible rfl
 rotate_left;·simp only [zzs];rfl
 refine zA (i:=9) (N:=some 14) #[tT,tT,tT,tT,tT,tT,tT,tT,tT,tT,fF,fF] rfl rfl (yO HT_.out (zz0)) (zz26) (fun K hK=>?_);refine yT Tryd.func67 (zz0) rfl #[.slice A0_1 l0_1.length c0_1,.slice A1_1 l1_1.length c1_1] (zz25) rfl rfl (zz20) ?_
 with_reducible refine (U24.calls k (fun k_=>k_ < w.heap.size) _ _ l0_1 (fun k_=>k_ < w.heap.size) _ _ l1_1 t439 _ ?side1 ?side2 A3.out).mono ?_
 (case side1=>exact Kd.V_mk HC0_1.out (Kd.F_below (Kd.C_F (Kd.heap_int .u32) HR0_1.out) (zz63)));(case side2=>exact Kd.V_mk HC1_1.out (Kd.F_below (Kd.C_F (Kd.heap_int .u32) HR1_1.out) (zz63)));rintro e w9 ⟨v440,rfl,ho0,hb⟩;refine ⟨_,rfl,?_⟩;have HO441:=wA.mk (Kd.V_lower (Kd.V_mono (ok':=fun k_=>k_ ≠ gb436∧k_ ≠ gb437∧k_ ≠ gb438) ho0 (fun k_ hk_=>⟨Or.elim hk_ (fun hs_=>Or.elim hs_ (fun hs_=>fun e_=>Nat.not_le.2 hs_ (by rw [e_];exact GW436.out)) (fun hs_=>fun e_=>Nat.not_le.2 hs_ (by rw [e_];exact GW436.out))) (fun hn_=>(Kd.freshB (g:=gb436) (o:=.cells #[.bool a0_0,.slice A0_1 l0_1.length c0_1] 49 (0,0)) (have h0_:=BK436;zz23) k_ hn_)),Or.elim hk_ (fun hs_=>Or.elim hs_ (fun hs_=>fun e_=>Nat.not_le.2 hs_ (by rw [e_];exact GW437.out)) (fun hs_=>fun e_=>Nat.not_le.2 hs_ (by rw [e_];exact GW437.out))) (fun hn_=>(Kd.freshB (g:=gb437) (o:=.cells #[.bool a1_0,.slice A1_1 l1_1.length c1_1] 49 (0,0)) (have h0_:=BK437;zz23) k_ hn_)),Or.elim hk_ (fun hs_=>Or.elim hs_ (fun hs_=>fun e_=>Nat.not_le.2 hs_ (by rw [e_];exact GW438.out)) (fun hs_=>fun e_=>Nat.not_le.2 hs_ (by rw [e_];exact GW438.out))) (fun hn_=>(Kd.freshB (g:=gb438) (o:=.cells #[.bool false,.slice none 0 0] 49 (0,0)) (have h0_:=BK438;zz23) k_ hn_))⟩)) (wB (zz63)));replace BK436:=wA.mk (wF (have h0_:=BK436;zz23) hb);replace BK437:=wA.mk (wF (have h0_:=BK437;zz23) hb);replace BK438:=wA.mk (wF (have h0_:=BK438;zz23) hb);replace HB:=wA.mk (wC (zz63) hb)
 (try clear hb);(try clear ho0);obtain ⟨Ao10,co10,eo10⟩:=Kd.V_slice HO441.out
 (first|subst eo10|(injection eo10 with f1_ f2_ f3_;have f4_:=f1_.symm;have f5_:=f3_.symm;clear f1_ f2_ f3_;subst f4_;subst f5_));refine hK.out _ _ ⟨(wH BK436.out 0).trans rfl,(wH BK436.out 1).trans rfl,(wH BK437.out 0).trans rfl,(wH BK437.out 1).trans rfl⟩ (fun hHeld=>?_);clear hK K;refine yB (a':=?_) ?_ ?_;rotate_left
 ·show Act.put _ (some 14) _ = _;simp only [zzs];rfl
 refine zA (i:=10) (N:=some 15) #[tT,tT,tT,tT,tT,tT,tT,tT,tT,tT,tT,fF] rfl rfl (yO HT_.out (zz0)) (zz26) (fun K hK=>?_);refine yT Tryd.func80 (zz0) rfl #[.bool (a0_0 != a1_0),.slice Ao10 t439.length co10] (zz25) rfl rfl (zz20) ?_
 with_reducible refine (U12.calls k (a0_0 != a1_0) _ _ t439 t442 t443 _ ?side1 ?side2 A4.out).mono ?_
 (case side1=>exact (have h0_:=HO441;zz170));(case side2=>exact (have h0_:=HO441;zz172));rintro e w11 ⟨v444,rfl,ho0,hb⟩;refine ⟨_,rfl,?_⟩;replace HO441:=wA.mk (Kd.V_elder' (have h0_:=HO441;zz41) (Kd.R_base ho0) hb);have HO445:=wA.mk (Kd.R_lower ho0 (wB (zz63)));replace BK436:=wA.mk (wF (have h0_:=BK436;zz23) hb);replace BK437:=wA.mk (wF (have h0_:=BK437;zz23) hb);replace BK438:=wA.mk (wF (have h0_:=BK438;zz23) hb);replace HB:=wA.mk (wC (zz63) hb)
 (try clear hb);(try clear hb2);(try clear hk);(try clear hi);(try clear ho0);obtain ⟨Ao13,co13,eo13⟩:=Kd.R_slice HO445.out
 (first|subst eo13|(injection eo13 with f1_ f2_ f3_;have f4_:=f1_.symm;have f5_:=f3_.symm;clear f1_ f2_ f3_;subst f4_;subst f5_));refine hK.out _ _ ⟨(wH BK436.out 0).trans rfl,(wH BK436.out 1).trans rfl,(wH BK437.out 0).trans rfl,(wH BK437.out 1).trans rfl⟩ (fun hHeld=>?_);clear hK K;refine yB (a':=?_) ?_ ?_;rotate_left
 ·show Act.put _ (some 15) _ = _;simp only [zzs];rfl
 refine zA (i:=11) (N:=none) #[tT,tT,tT,tT,tT,tT,tT,tT,tT,tT,tT,tT] rfl rfl (yO HT_.out (zz0)) (zz26) (fun K hK=>?_);have hs12:w11.cell? ⟨gb438,0,none⟩ = some (.bool false):=(wH BK438.out 0).trans rfl;have hfs12:=yH BK438.out 0;have hns12_0:=NB436_438.out;have hns12_1:=NB437_438.out;have hms12_0:=NB438_436.out;have hms12_1:=NB438_437.out;have hs14:w11.cell? ⟨gb438,1,none⟩ = some (.slice none 0 0):=(wH BK438.out 1).trans rfl;have hfs14:=yH BK438.out 1;have hns14_0:=NB436_438.out;have hns14_1:=NB437_438.out;have hms14_0:=NB438_436.out;have hms14_1:=NB438_437.out;refine vI (w1:=?_) (zz25) rfl ?_ ?_;rotate_left
 ·go_simp;rfl
 refine hK.out _ _ ⟨((wK (p:=⟨gb438,_,none⟩) NB436_438.out _).trans (((wK (p:=⟨gb438,_,none⟩) NB436_438.out _).trans (hHeld.1)))),((wK (p:=⟨gb438,_,none⟩) NB436_438.out _).trans (((wK (p:=⟨gb438,_,none⟩) NB436_438.out _).trans (hHeld.2.1)))),((wK (p:=⟨gb438,_,none⟩) NB437_438.out _).trans (((wK (p:=⟨gb438,_,none⟩) NB437_438.out _).trans (hHeld.2.2.1)))),((wK (p:=⟨gb438,_,none⟩) NB437_438.out _).trans (((wK (p:=⟨gb438,_,none⟩) NB437_438.out _).trans (hHeld.2.2.2))))⟩ (fun hHeld=>?_);clear hK K;refine yX (yQ HT_.out (zz0)) ?_
 try go_wp2
 refine bodyPost_ret (results_cell_row rfl _ _ gb438 49 #[.bool t442,.slice Ao13 t443.length co13] (0,0) _ rfl (by (with_reducible repeat (first|refine wE ?_ _|refine wG ?_|refine wD ?_ _));refine wP (cs:=#[.bool t442,.slice none 0 0]) ?_ 1 _ rfl;(with_reducible repeat (first|refine wE ?_ _|refine wG ?_|refine wD ?_ _));refine wP (cs:=#[.bool false,.slice none 0 0]) ?_ 0 _ rfl;(with_reducible repeat (first|refine wE ?_ _|refine wG ?_|refine wD ?_ _));exact BK438.out) Tryd.underlying49 rfl (zz0)) rfl ?_
 exact ⟨_,zz8,by (with_reducible repeat (first|apply Kd.R_alloc|apply Kd.R_drewN|apply Kd.R_drew));exact Kd.R_mono (Kd.R_far (p:=⟨gb438,1,none⟩) (Kd.R_far (p:=⟨gb438,0,none⟩) (Kd.R_types HO445.out BK438.out (zz26)) (fun _ hk=>hk.2) (.bool t442)) (fun _ hk=>hk.2) (.slice Ao13 t443.length co13)) (fun _ hk=>trivial),zz63⟩
end Go.Proofs.YtnimkmkapajnhaaDoor.QA
