import Derived.Test.YtmcegphcjphdcaaXSwQAx0
import Derived.Test.YtmcegphcjphdcaaXSwQAx2
import Derived.Test.YtmcegphcjphdcaaXSwQAx3
namespace Go.Proofs.Ytmcegphcjphdcaa.QA
open Go.RowKit Go.Proofs.YtmcegphcjphdcaaW.PrintWords Go.Proofs.YtmcegphcjphdcaaW.PrintLast Go.Proofs.YtmcegphcjphdcaaW.PrintMore
attribute [local go_sem] max2_int min2_int max_two min_two max_three min_three max_four min_four
set_option linter.unusedVariables false
set_option linter.unusedSimpArgs false
mutual
def U54.j0:Nat→List (List Int)→Int→Bool→List (List Int)→Option ((List (List Int)) × Int)
 | 0,_,_,_,_=>none
 | k+1,x0,x2,x9,x175000=>if x9 = true then (U54.j1 k x0 x2 x9 false x175000) else (if x2 < 0 then (U54.j1 k x0 x2 x9 true x175000) else ((U44.f x175000).bind fun t176=>(U54.j1 k x0 x2 x9 (decide (x2≥t176)) x175000)))
def U54.j1:Nat→List (List Int)→Int→Bool→Bool→List (List Int)→Option ((List (List Int)) × Int)
 | 0,_,_,_,_,_=>none
 | k+1,x0,x2,x9,x39,x175000=>if x39 = true then (some (([]:List (List Int)),3)) else (if 0≤(x0.length:Int) then (if ((x0.length:Int):Int).toNat≤11728124029610 then (U54.l0 k x0 x2 x9 (List.replicate ((x0.length:Int):Int).toNat []) (x0.length:Int) 0 x175000) else (none)) else (none))
def U54.l0:Nat→List (List Int)→Int→Bool→List (List Int)→Int→Int→List (List Int)→Option ((List (List Int)) × Int)
 | 0,_,_,_,_,_,_,_=>none
 | k+1,x0,x2,x9,x10,x44,x45,x175000=>if x45 < x44 then (if x9 = true then (if 0≤x45 then (if x45 < (x0.length:Int) then ((U51.f k (rd_L5 x0 x45)).bind fun t181=>(if x45 < (x10.length:Int) then (U54.l0 k x0 x2 x9 (x10.set (x45:Int).toNat t181) x44 (wrap64 (x45+1)) x175000) else (none))) else (none)) else (none)) else (if 0≤x45 then (if x45 < (x0.length:Int) then (if x45 < (x175000.length:Int) then (if 0≤x2 then (if x2 < ((rd_L1 x175000 x45).length:Int) then ((nat_Of.f k (IntKind.u64.wrap (rd (rd_L1 x175000 x45) x2))).bind fun t188=>((U50.f k (rd_L5 x0 x45) t188).bind fun t191=>(if x45 < (x10.length:Int) then (U54.l0 k x0 x2 x9 (x10.set (x45:Int).toNat t191) x44 (wrap64 (x45+1)) x175000) else (none)))) else (none)) else (none)) else (none)) else (none)) else (none))) else (some (x10,0))
end
def U54.f (k:Nat) (l0:List (List Int)) (l1_0:List (List Int)) (a2:Int):Option ((List (List Int)) × Int):=if (l0.length:Int) > 21 then (some (([]:List (List Int)),5)) else ((U45.f k l1_0 (l0.length:Int)).bind fun t175=>(if t175 = 0 then (if a2 = (-1) then (U54.j0 k l0 a2 true l1_0) else (U54.j0 k l0 a2 (a2 == (-2)) l1_0)) else (some (([]:List (List Int)),t175))))
theorem zm4_0 {P:Prop} (h:P:=by repeat' first|(with_reducible first|exact ih0 ..|exact ih1 ..|exact ih2 ..|exact U45.mono ..|exact U50.mono ..|exact U51.mono ..|exact nat_Of.mono ..|exact LeO.refl _|exact LeO.none _|refine LeO.ite ?_ ?_|refine LeO.bind ?_ (fun _=>?_))|exact ih0 ..|exact ih1 ..|exact ih2 ..|exact U45.mono ..|exact U50.mono ..|exact U51.mono ..|exact nat_Of.mono ..|exact LeO.none _|refine LeO.ite ?_ ?_|refine LeO.bind ?_ (fun _=>?_)):P:=h
theorem U54.mono_l:∀ k,(∀ y0 y1 y2 y3,LeO (U54.j0 k y0 y1 y2 y3) (U54.j0 (k+1) y0 y1 y2 y3))∧(∀ y0 y1 y2 y3 y4,LeO (U54.j1 k y0 y1 y2 y3 y4) (U54.j1 (k+1) y0 y1 y2 y3 y4))∧(∀ y0 y1 y2 y3 y4 y5 y6,LeO (U54.l0 k y0 y1 y2 y3 y4 y5 y6) (U54.l0 (k+1) y0 y1 y2 y3 y4 y5 y6))
 | 0=>⟨fun _ _ _ _ r h=>by simp [U54.j0] at h,fun _ _ _ _ _ r h=>by simp [U54.j1] at h,fun _ _ _ _ _ _ _ r h=>by simp [U54.l0] at h⟩
 | k+1=>by
  obtain ⟨ih0,ih1,ih2⟩:=U54.mono_l k;refine ⟨?_,?_,?_⟩
  ·intro y0 y1 y2 y3;unfold U54.j0
   exact zm4_0
  ·intro y0 y1 y2 y3 y4;unfold U54.j1
   exact zm4_0
  ·intro y0 y1 y2 y3 y4 y5 y6;unfold U54.l0
   exact zm4_0
theorem U54.mono:∀ a0 a1 a2 k,LeO (U54.f k a0 a1 a2) (U54.f (k+1) a0 a1 a2):=by
 intro a0 a1 a2 k;obtain ⟨ih0,ih1,ih2⟩:=U54.mono_l k;unfold U54.f
 exact zm4_0
def U54.T15:Bool × List (List Nat × List Nat):=(true,[([],[]),([],[]),([],[]),([],[]),([2,3],[2,3]),([4],[4]),([],[]),([6],[6]),([],[]),([7,8],[7,8]),([9],[9]),([],[]),([10,11],[10,11]),([12],[12]),([13],[13]),([14],[14]),([5,15,15],[5,15]),([0,1,0,1,2,3,4,5,6,7,8,9,10,11,12,13,14,15,16],[0,1]),([17,16,16,0,1,2,3,4,5,6,7,8,9,10,11,12,13,14,15,16],[16,17])])
def U54.B15:List Nat:=[0,0,0,0,12,28,0,64,0,448,960,0,4032,8128,16320,32704,65532,131071,262143]
theorem U54.tab15:rtab .any (opsOf Try.f56 15) = U54.T15:=zz0
theorem U54.bits15:waitsOk U54.T15.2 U54.B15 = true:=zz0
set_option maxHeartbeats 8000000 in
set_option maxRecDepth 100000 in
theorem U54.calls (k:Nat) (P0_:Nat→Prop) (A0:Option Addr) (c0:Nat) (l0:List (List Int)) (A1_0:Option Addr) (c1_0:Nat) (l1_0:List (List Int)) (a2:Int) (r1:List (List Int)) (r2:Int) (w:World) (hs0:Kd.V (Kd.slice 65 (Kd.int .u32)) 32 w w.heap.size (fun k_=>P0_ k_) (.slice A0 l0.length c0) l0) (hr1_0:Kd.C (Kd.slice 3 (Kd.int .i64)) w A1_0 l1_0.length l1_0) (hc1_0:l1_0.length≤c1_0) (h:U54.f k l0 l1_0 a2 = some (r1,r2)) :
  Calls Try.prog 56 #[.slice A0 l0.length c0,.agg #[.slice A1_0 l1_0.length c1_0],.int .i64 a2] w fun e w'=>∃ v0_:Value,e = .returned (.tuple #[v0_,.int .i64 r2])∧Kd.N (Kd.slice 65 (Kd.int .u32)) 32 w' w.heap.size (fun k_=>(P0_ k_∨w.heap.size≤k_)) v0_ r1∧Below w.heap.size w w':=by
 have hu56:=Try.underlying56;have HO0:=Aside0.mk (show Kd.V (Kd.slice 65 (Kd.int .u32)) 32 w w.heap.size (fun k_=>(P0_ k_∨w.heap.size≤k_)) (.slice A0 l0.length c0) l0 from Kd.V_mono hs0 (fun k_ hk=>.inl hk));have HR1_0:=Aside0.mk hr1_0;have HC1_0:=Aside0.mk hc1_0;clear hr1_0 hc1_0;have HB:=Aside0.mk (Below.refl w.heap.size w);have H:(if (l0.length:Int) > 21 then (some (([]:List (List Int)),5)) else ((U45.f k l1_0 (l0.length:Int)).bind fun t175=>(if t175 = 0 then (if a2 = (-1) then (U54.j0 k l0 a2 true l1_0) else (U54.j0 k l0 a2 (a2 == (-2)) l1_0)) else (some (([]:List (List Int)),t175))))) = some (r1,r2):=h;clear h;replace H:=zzj H;rcases H with ⟨c4,H⟩|⟨c4,H⟩
 ·have c4b0:=decide_eq_true c4;have c4b1:decide (21 < l0.length) = true:=decide_eq_true (zz4);clear c4;simp only [Option.some.injEq,Prod.mk.injEq] at H;obtain ⟨rfl,rfl⟩:=H;go_enter Try.func56,Try.ntmps56
  go_wp2_with (first|((with_reducible refine gate_dst (N:=4) rfl ?_);refine box_event ?hg (N:=4) ?hd (cs:=#[.slice A1_0 l1_0.length c1_0]) (t:=56) ?hr ?_;(case hd=>rfl);(case hg=>rfl);(case hr=>exact zz109);intro gb174 hg w5 hbox hb;replace HO0:=Aside0.mk (Kd.V_below (Kd.V_elderB (have h0_:=HO0;zz23) gb174 (Nat.le_of_eq hg.symm)) hb);have BK174:=Aside0.mk (hbox);have GW174:=Aside0.mk ((by rw [hg];exact (below_size (zz5)):w.heap.size≤gb174));have GE174:=Aside0.mk ((by rw [hg];exact (below_size (zz5)):w.heap.size≤gb174));replace HB:=Aside0.mk (below_step (zz5) hb);clear hb hbox hg))
  go_ret2
  exact ⟨_,zz6,zz26,zz34⟩
 ·have c4b0:=decide_eq_false c4;have c4b1:decide (21 < l0.length) = false:=decide_eq_false (zz4);clear c4;replace H:=zzb H;obtain ⟨t175,A6,H⟩:=H;replace H:=zzj H;rcases H with ⟨c7,H⟩|⟨c7,H⟩
  ·have c7b0:=beq_iff_eq.mpr c7;have c7b1:=bne_eq_false_iff_eq.mpr c7;clear c7;have HC8:=Aside0.mk H;clear H;go_enter Try.func56,Try.ntmps56
   go_upto_region 6 with (first|((with_reducible refine gate_dst (N:=4) rfl ?_);refine box_event ?hg (N:=4) ?hd (cs:=#[.slice A1_0 l1_0.length c1_0]) (t:=56) ?hr ?_;(case hd=>rfl);(case hg=>rfl);(case hr=>exact zz109);intro gb174 hg w9 hbox hb;replace HO0:=Aside0.mk (Kd.V_below (Kd.V_elderB (have h0_:=HO0;zz23) gb174 (Nat.le_of_eq hg.symm)) hb);have BK174:=Aside0.mk (hbox);have GW174:=Aside0.mk ((by rw [hg];exact (below_size (zz5)):w.heap.size≤gb174));have GE174:=Aside0.mk ((by rw [hg];exact (below_size (zz5)):w.heap.size≤gb174));replace HB:=Aside0.mk (below_step (zz5) hb);clear hb hbox hg;obtain ⟨hcz10_0,hfz10_0⟩:=zc1 BK174.out)|((with_reducible refine gate_callee (f:=54) rfl ?_);refine goesL_ (some 18) rfl rfl Try.func54 (zz0) rfl #[.agg #[.slice A1_0 l1_0.length c1_0],.int .i64 (l0.length:Int)] rfl (zz19) ?_;(with_reducible refine (U45.calls k _ _ l1_0 (l0.length:Int) t175 _ ?_ ?_ A6.out).mono ?_);exact zz118;exact zz119;rintro e w11 ⟨rfl,hb⟩;refine ⟨_,rfl,?_⟩;replace HO0:=Aside0.mk (Kd.V_below (have h0_:=HO0;zz23) hb);replace BK174:=Aside0.mk (blk_below (zz35) hb);replace HB:=Aside0.mk (below_step (zz34) hb);(try clear hb)))
   (try simp only [Act.put,List.setIfInBounds_toArray,List.set_cons_zero,List.set_cons_succ])
   go_cut [9] (fun v9 wc=>∃ (kq:Nat) (x9_7:Bool),v9 = .bool x9_7∧Aside0 (U54.j0 kq l0 a2 x9_7 l1_0 = some (r1,r2))∧Aside0 (kq≤k)∧Aside0 (Kd.V (Kd.slice 65 (Kd.int .u32)) 32 wc w.heap.size (fun k_=>(P0_ k_∨w.heap.size≤k_)∧k_ ≠ gb174) (.slice A0 l0.length c0) l0)∧Aside0 (wc.heap[gb174]? = some (.cells #[(.slice A1_0 l1_0.length c1_0)] 56 (0,0)))∧Aside0 (Below w.heap.size w wc))
   case first =>
    have H:=HC8.out;clear HC8;replace H:=zzj H;rcases H with ⟨c12,H⟩|⟨c12,H⟩
    ·have c12b0:=beq_iff_eq.mpr c12;have c12b1:=bne_eq_false_iff_eq.mpr c12;clear c12
     (first|rw [c12b0]|rw [c12b1]|(simp only [i64_w,i32_w];rw [c12b0])|skip)
     have H':=Aside0.mk H;clear H
     go_wp2
     go_meet
     case rel=>exact ⟨_,(true),(zz2),H',⟨zz21⟩,⟨(have h0_:=HO0;zz23)⟩,⟨zz35⟩,⟨zz34⟩⟩
    ·have c12b0:=beq_eq_false_iff_ne.mpr c12;have c12b1:=bne_iff_ne.mpr c12
     (first|rw [c12b0]|rw [c12b1]|(simp only [i64_w,i32_w];rw [c12b0])|skip)
     have H':=Aside0.mk H;clear H
     go_wp2
     go_meet
     case rel=>exact ⟨_,((a2 == (-2))),(zz2),H',⟨zz21⟩,⟨(have h0_:=HO0;zz23)⟩,⟨zz35⟩,⟨zz34⟩⟩
   case rest =>
    clear HC8;clear c4b0 c4b1 c7b0 c7b1;(try clear hcz10_0);(try clear hfz10_0);obtain ⟨kq,x9_7,rfl,HA,HJ7,HO_0,BK174,HB⟩:=hcut
    cases kq with
    | zero=>exact absurd HA.out (by simp [U54.j0])
    | succ kj7 =>
     have H:=HA.out;clear HA;simp only [U54.j0] at H;have HC13:=Aside0.mk H;clear H
     go_upto_region 7 with (fail)
     go_cut [39] (fun v39 wc=>∃ (kq:Nat) (x39_12:Bool),v39 = .bool x39_12∧Aside0 (U54.j1 kq l0 a2 x9_7 x39_12 l1_0 = some (r1,r2))∧Aside0 (kq≤kj7)∧Aside0 (Kd.V (Kd.slice 65 (Kd.int .u32)) 32 wc w.heap.size (fun k_=>(P0_ k_∨w.heap.size≤k_)∧k_ ≠ gb174) (.slice A0 l0.length c0) l0)∧Aside0 (wc.heap[gb174]? = some (.cells #[(.slice A1_0 l1_0.length c1_0)] 56 (0,0)))∧Aside0 (Below w.heap.size w wc))
     case first =>
      have H:=HC13.out;clear HC13;by_cases c14:x9_7 = true
      ·subst c14;have H1:(U54.j1 kj7 l0 a2 true false l1_0) = some (r1,r2):=zz10;clear H;have H:=H1;clear H1;have H':=Aside0.mk H;clear H
       go_wp2
       go_meet
       case rel=>exact ⟨_,(false),(zz2),H',⟨(have h0_:=HJ7;zz36)⟩,⟨(have h0_:=HO_0;zz23)⟩,⟨zz35⟩,⟨zz34⟩⟩
      ·replace c14:=Bool.eq_false_iff.mpr c14;subst c14;have H1:(if a2 < 0 then (U54.j1 kj7 l0 a2 false true l1_0) else ((U44.f l1_0).bind fun t176=>(U54.j1 kj7 l0 a2 false (decide (a2≥t176)) l1_0))) = some (r1,r2):=zz13;clear H;have H:=H1;clear H1;replace H:=zzj H;rcases H with ⟨c15,H⟩|⟨c15,H⟩
       ·have c15b0:=decide_eq_true c15;clear c15
        (first|rw [c15b0]|rw [c15b1]|(simp only [i64_w,i32_w];rw [c15b0])|skip)
        have H':=Aside0.mk H;clear H
        go_wp2
        go_meet
        case rel=>exact ⟨_,(true),(zz2),H',⟨(have h0_:=HJ7;zz36)⟩,⟨(have h0_:=HO_0;zz23)⟩,⟨zz35⟩,⟨zz34⟩⟩
       ·have c15b0:=decide_eq_false c15;clear c15
        (first|rw [c15b0]|rw [c15b1]|(simp only [i64_w,i32_w];rw [c15b0])|skip)
        replace H:=zzb H;obtain ⟨t176,A16,H⟩:=H;have H':=Aside0.mk H;clear H;obtain ⟨hcz17_0,hfz17_0⟩:=zc1 BK174.out
        go_wp2_with (first|(go_at_call 30;(with_reducible refine (U44.calls _ _ l1_0 t176 _ ?_ ?_ A16.out).mono ?_);exact zz118;exact zz119;rintro e w18 ⟨rfl,hb⟩;replace HO_0:=Aside0.mk (Kd.V_below (have h0_:=HO_0;zz23) hb);replace BK174:=Aside0.mk (blk_below (zz35) hb);replace HB:=Aside0.mk (below_step (zz34) hb);(try clear hb)))
        go_meet
        case rel=>exact ⟨_,(decide (a2≥t176)),(zz2),H',⟨(have h0_:=HJ7;zz36)⟩,⟨(have h0_:=HO_0;zz23)⟩,⟨zz35⟩,⟨zz34⟩⟩
     case rest =>
      clear HC13;(try clear hcz10_0);(try clear hfz10_0);obtain ⟨kq,x39_12,rfl,HA,HJ12,HO_0,BK174,HB⟩:=hcut
      cases kq with
      | zero=>exact absurd HA.out (by simp [U54.j1])
      | succ kj12 =>
       have H:=HA.out;clear HA;simp only [U54.j1] at H;by_cases c19:x39_12 = true
       ·subst c19;have H1:(some (([]:List (List Int)),3)) = some (r1,r2):=zz10;clear H;have H:=H1;clear H1;simp only [Option.some.injEq,Prod.mk.injEq] at H;obtain ⟨rfl,rfl⟩:=H
        go_wp2
        go_ret2
        exact ⟨_,zz6,zz26,zz34⟩
       ·replace c19:=Bool.eq_false_iff.mpr c19;subst c19;have H1:(if 0≤(l0.length:Int) then (if ((l0.length:Int):Int).toNat≤11728124029610 then (U54.l0 kj12 l0 a2 x9_7 (List.replicate ((l0.length:Int):Int).toNat []) (l0.length:Int) 0 l1_0) else (none)) else (none)) = some (r1,r2):=zz13;clear H;have H:=H1;clear H1;replace H:=zzi H;obtain ⟨c20,H⟩:=H;have c20b0:=eq_true c20;have c20b1:=decide_eq_true c20;clear c20;replace H:=zzi H;obtain ⟨c21,H⟩:=H;have c21b0:=eq_true c21;have c21b1:=decide_eq_true c21;clear c21;obtain ⟨y177,hy177⟩:∃ y_:List (List Int),y_ = (List.replicate ((l0.length:Int):Int).toNat []):=⟨_,rfl⟩;replace H:(U54.l0 kj12 l0 a2 x9_7 y177 (l0.length:Int) 0 l1_0) = some (r1,r2):=(have h0_:=hy177;zz24);have Ny177:=Aside0.mk hy177;clear hy177;have H':=Aside0.mk H;clear H
        go_wp2_with (first|((with_reducible refine gate_dst (N:=42) rfl ?_);refine Kd.N_make (Kd.slice 65 (Kd.int .u32)) _ 32 rfl (N':=42) rfl 26 _ _ rfl (l0.length:Int) rfl rfl Try.underlying26 (.slice none 0 0) 24 info32 rfl (zz28) (zz4) [] (ok:=fun k_=>wc.heap.size≤k_) (okp:=fun _=>False) (Kd.FK_slice_mk (Nat.le_refl _) (Kd.F_nil _ _ _)) (fun _ hk=>hk.elim) (Nat.le_refl _) (of_decide_eq_true (zz11)) (Nat.le_trans (Nat.mul_le_mul_right _ (of_decide_eq_true (zz11):(l0.length:Int).toNat≤11728124029610)) (zz4)) (Below.refl _ _) (Nat.le_refl _) ?_;intro v178 w22 ho23 hb hg_ hnew_;clear hg_ hnew_;(first|rw [← Ny177.out] at ho23|(simp only [Int.reduceToNat] at ho23;rw [← Ny177.out] at ho23));replace HO_0:=Aside0.mk (Kd.V_elder' (have h0_:=HO_0;zz23) (Kd.N_base ho23) hb);have HO179:=Aside0.mk (Kd.N_lower (Kd.N_mono (ok':=fun k_=>(P0_ k_∨w.heap.size≤k_)∧k_ ≠ gb174) ho23 (fun k_ hk_=>⟨(.inr (Nat.le_trans (below_size (zz34)) hk_)),(Kd.freshB (g:=gb174) (o:=.cells #[.slice A1_0 l1_0.length c1_0] 56 (0,0)) (zz35) k_ hk_)⟩)) (below_size (zz34)));replace BK174:=Aside0.mk (blk_below (zz35) hb);replace HB:=Aside0.mk (below_step (zz34) hb);clear hb ho23))
        go_loopg [45] kj12 (fun kq v45 w'=>∃ (x10_3:List (List Int)) (x45_3:Int),v45 = .int .i64 x45_3∧Aside0 (U54.l0 kq l0 a2 x9_7 x10_3 (l0.length:Int) x45_3 l1_0 = some (r1,r2))∧Aside0 (kq≤kj12)∧Aside0 (Kd.V (Kd.slice 65 (Kd.int .u32)) 32 w' w.heap.size (fun k_=>(P0_ k_∨w.heap.size≤k_)∧some k_ ≠ (v178:Value).ownBlock∧k_ ≠ gb174) (.slice A0 l0.length c0) l0)∧Aside0 (Kd.N (Kd.slice 65 (Kd.int .u32)) 32 w' w.heap.size (fun k_=>(P0_ k_∨w.heap.size≤k_)∧k_ ≠ gb174) v178 x10_3)∧Aside0 (w'.heap[gb174]? = some (.cells #[(.slice A1_0 l1_0.length c1_0)] 56 (0,0)))∧Aside0 (Below w.heap.size w w'))
        case atStart=>exact ⟨(y177),(0),(zz2),H',⟨Nat.le_refl _⟩,⟨(have h0_:=HO_0;zz37)⟩,⟨(have h0_:=HO179;zz27)⟩,⟨zz35⟩,⟨zz34⟩⟩
        case round =>
         clear H'
         (try clear c19);clear c20b0 c20b1 c21b0 c21b1;(try clear hcz10_0);(try clear hcz17_0);(try clear hfz10_0);(try clear hfz17_0)
         obtain ⟨x10_3,x45_3,rfl,HA,HK3,HO_0,HO_10,BK174,HB⟩:=hrel
         cases gk with
         | zero=>exact absurd HA.out (by simp [U54.l0])
         | succ k3 =>
          have H:=HA.out;clear HA;simp only [U54.l0] at H;replace H:=zzj H;rcases H with ⟨c24,H⟩|⟨c24,H⟩
          ·have c24b0:=decide_eq_true c24;clear c24;by_cases c25:x9_7 = true
           ·subst c25;have H1:(if 0≤x45_3 then (if x45_3 < (l0.length:Int) then ((U51.f k3 (rd_L5 l0 x45_3)).bind fun t181=>(if x45_3 < (x10_3.length:Int) then (U54.l0 k3 l0 a2 true (x10_3.set (x45_3:Int).toNat t181) (l0.length:Int) (wrap64 (x45_3+1)) l1_0) else (none))) else (none)) else (none)) = some (r1,r2):=zz10;clear H;have H:=H1;clear H1;replace H:=zzi H;obtain ⟨c26,H⟩:=H;have c26b0:=decide_eq_true c26;clear c26;replace H:=zzi H;obtain ⟨c27,H⟩:=H;have c27b0:=decide_eq_true c27;clear c27;replace H:=zzb H;obtain ⟨t181,A28,H⟩:=H;replace H:=zzi H;obtain ⟨c29,H⟩:=H;have c29b0:=decide_eq_true c29;clear c29;obtain ⟨y184,hy184⟩:∃ y_:List (List Int),y_ = (x10_3.set (x45_3:Int).toNat t181):=⟨_,rfl⟩;replace H:(U54.l0 k3 l0 a2 true y184 (l0.length:Int) (wrap64 (x45_3+1)) l1_0) = some (r1,r2):=(have h0_:=hy184;zz24);have Ny184:=Aside0.mk hy184;clear hy184;have H':=Aside0.mk H;clear H;have p180:0≤(x45_3:Int):=of_decide_eq_true (zz11);have q180:x45_3 < (l0.length:Int):=of_decide_eq_true (zz11);obtain ⟨ad180,A180_0,c180_0,e180,hx180_0,hl180_0,hi180_0⟩:=at_L5 (Kd.V_reads' HO_0.out).2.2 x45_3 p180 q180
            cases e180
            obtain ⟨ce180,hce180,hMe180,hcc180⟩:=Kd.V_get HO_0.out [] x45_3 p180 (by first|exact q180|exact of_decide_eq_true (zz11)|(have e_:=(Kd.V_reads' HO_0.out).1;omega));obtain ⟨ua180_0,uc180_0,rfl,ul180_0,ge180_0⟩:=Kd.FK_slice_open hMe180;have hv180_0:=hcc180 0 _ rfl;rw [Nat.add_zero,show ((Kd.slice 65 (Kd.int .u32))).sz = 1 from rfl,Nat.mul_one] at hv180_0;replace hv180_0:=Option.some.inj (hv180_0.symm.trans hx180_0)
            injection hv180_0 with hva_ hvn_ hvc_
            rw [hva_] at ge180_0;rw [hvc_] at ul180_0;have HL180_0:=Aside0.mk (show Kd.V (Kd.int .u32) 65 _ w.heap.size _ _ (rd_L5 l0 x45_3) from Kd.V_mk ul180_0 ge180_0);clear hva_ hvn_ hvc_ ge180_0 ul180_0;clear hcc180 hce180;have HR180_0:=Aside0.mk hi180_0;have HC180_0:=Aside0.mk hl180_0;clear hi180_0 hl180_0;replace p180:=eq_true p180;replace q180:=eq_true q180
            go_wp2_with (first|((with_reducible refine gate_callee (f:=71) rfl ?_);refine goesL_ (some 55) rfl rfl Try.func71 (zz0) rfl #[.slice A180_0 (rd_L5 l0 x45_3).length c180_0] rfl (zz19) ?_;(with_reducible refine (U51.calls k3 _ _ (rd_L5 l0 x45_3) t181 _ ?_ ?_ A28.out).mono ?_);(exact (have h0_:=HR180_0;zz120));exact HC180_0.out;rintro e w31 ⟨v182,rfl,ho0,hb⟩;refine ⟨_,rfl,?_⟩;replace HO_0:=Aside0.mk (Kd.V_elder' (have h0_:=HO_0;zz23) (Kd.R_base ho0) hb);replace HO_10:=Aside0.mk (Kd.N_elder' (zz39) (Kd.R_base ho0) hb);replace HL180_0:=Aside0.mk (Kd.V_elder' (have h0_:=HL180_0;zz23) (Kd.R_base ho0) hb);have HO183:=Aside0.mk (Kd.R_lower (Kd.R_newM (M:=fun k_=>(w.heap.size≤k_)) ho0 (below_size (zz34)) (fun k_ h_=>h_)) (below_size (zz34)));replace BK174:=Aside0.mk (blk_below (zz35) hb);replace HR180_0:=Aside0.mk (Kd.C_below (have h0_:=HR180_0;zz38) hb);replace HB:=Aside0.mk (below_step (zz34) hb);(try clear hb);(try clear hk);(try clear ho0);have p30:0≤(x45_3:Int):=of_decide_eq_true (zz11);have q30:(x45_3:Int) < ((x10_3.length:Int):Int):=of_decide_eq_true (zz11);obtain ⟨go30,co30,eo30,gb30,gl30,cl30,HG30⟩:=Kd.N_form HO_10.out (zz4);(first|cases eo30|(injection eo30 with ea_ en_ ec_;(first|subst ea_|(injection ea_ with ea_;subst ea_));subst ec_;clear en_));have GB30:=Aside0.mk gb30;have GG30:=Aside0.mk HG30;clear gb30 gl30 HG30;obtain ⟨ce30,hcl30,hM30,hcc30,hfr30⟩:=Kd.N_elem HO_10.out [] (x45_3:Int) p30 q30;obtain ⟨ua30_0,uc30_0,rfl,ul30_0,ge30_0⟩:=Kd.FK_slice_open hM30;have hx30_0:=hcc30 0 _ rfl;have hf30_0:=hfr30 0;(try simp only [show ((Kd.slice 65 (Kd.int .u32))).sz = 1 from rfl,Nat.mul_one,Nat.add_zero] at hx30_0);(try simp only [show ((Kd.slice 65 (Kd.int .u32))).sz = 1 from rfl,Nat.mul_one,Nat.add_zero] at hf30_0);clear hcl30 hcc30 hfr30 hM30;replace p30:=eq_true p30;replace q30:=eq_true q30;obtain ⟨Ao34,co34,eo34⟩:=Kd.R_slice HO183.out;subst eo34;have n_:=Aside0.mk (Kd.N_mono (ok':=(fun k_=>(P0_ k_∨w.heap.size≤k_)∧some k_ ≠ (.slice Ao34 t181.length co34:Value).ownBlock∧k_ ≠ gb174)) HO_10.out (fun k_ hk=>⟨hk.1.1,⟨hk.2,hk.1.2⟩⟩));clear HO_10;have HO_10:=n_;clear n_;have HX32:=Aside0.mk (show Kd.N (Kd.slice 65 (Kd.int .u32)) 32 w31 w.heap.size (fun k_=>(P0_ k_∨w.heap.size≤k_)∧k_ ≠ gb174) (.slice (some ⟨go30,0,none⟩) x10_3.length co30) x10_3 from (by (with_reducible repeat (first|apply Kd.N_alloc|apply Kd.N_drewN|apply Kd.N_drew));exact Kd.N_mono HO_10.out (fun _ hk=>⟨hk.1,hk.2.2⟩)));obtain ⟨ce32,hcl32,hM32,hcc32,hfr32⟩:=Kd.N_elem HX32.out [] (x45_3:Int) (of_decide_eq_true (zz11)) (zz40);obtain ⟨ua32_0,uc32_0,rfl,ul32_0,ge32_0⟩:=Kd.FK_slice_open hM32;have HP32:=Kd.N_seg HX32.out (x45_3:Int) (of_decide_eq_true (zz11)) (zz40) (seg:=[.slice Ao34 t181.length co34]) (j:=0) hcl32 hcc32 (show 1≤1 from by decide) (x':=t181) (Kd.FK_slice_mk (Kd.R_reads' (Kd.R_mono (ok':=(fun k_=>((fun k_=>(P0_ k_∨w.heap.size≤k_)∧k_ ≠ gb174)) k_∧k_ ≠ go30)) (Kd.R_types (Kd.R_apart' (HO183.out) (Kd.N_typed HO_10.out) (zz28)) BK174.out (zz28)) (fun k_ hk=>⟨⟨(.inr (hk.1.1.1)),hk.2⟩,fun e_=>(hk.1.2) (zz41)⟩))).2.1 (Kd.R_F (Kd.R_mono (ok':=(fun k_=>((fun k_=>(P0_ k_∨w.heap.size≤k_)∧k_ ≠ gb174)) k_∧k_ ≠ go30)) (Kd.R_types (Kd.R_apart' (HO183.out) (Kd.N_typed HO_10.out) (zz28)) BK174.out (zz28)) (fun k_ hk=>⟨⟨(.inr (hk.1.1.1)),hk.2⟩,fun e_=>(hk.1.2) (zz41)⟩)))) (fun _ hk=>hk);have hx32_0:=hcc32 0 _ rfl;(try simp only [show ((Kd.slice 65 (Kd.int .u32))).sz = 1 from rfl,Nat.mul_one,Nat.add_zero] at hx32_0);have hf32_0:=hfr32 0;(try simp only [show ((Kd.slice 65 (Kd.int .u32))).sz = 1 from rfl,Nat.mul_one,Nat.add_zero] at hf32_0);clear hcl32 hcc32 hfr32 hM32;(try simp only [show ((Kd.slice 65 (Kd.int .u32))).sz = 1 from rfl,Nat.mul_one,Nat.add_zero] at HP32);(try simp only [show ((Kd.slice 65 (Kd.int .u32))).sz = 1 from rfl,Nat.mul_one,Nat.add_zero] at HP32))|((with_reducible refine gate_store (t:=32) (p:=56) rfl ?_);refine store_event (t:=32) (p:=56) (v:=?vo_w33) (w1:=(w31.setCell ⟨go30,(x45_3:Int).toNat,none⟩ (.slice Ao34 t181.length co34))) ?hg ?ho ?hn ?hr ?_;(case ho=>rfl);(case hg=>rfl);(case hn=>rfl);(case hr=>exact zz109);intro w33 hw;have hg:w31.grownBy w33 (some go30):=(by rw [hw];exact HP32.2);have hp_:Kd.N (Kd.slice 65 (Kd.int .u32)) 32 w33 w.heap.size (fun k_=>(P0_ k_∨w.heap.size≤k_)∧k_ ≠ gb174) (.slice (some ⟨go30,0,none⟩) x10_3.length co30) y184:=(by rw [hw,Ny184.out];exact HP32.1);clear HP32;replace HO_0:=Aside0.mk (Kd.V_afterv (v:=(.slice (some ⟨go30,0,none⟩) x10_3.length co30)) (v1:=(.slice (some ⟨go30,0,none⟩) x10_3.length co30)) (ok:=(fun k_=>(P0_ k_∨w.heap.size≤k_)∧some k_ ≠ (.slice Ao34 t181.length co34:Value).ownBlock∧k_ ≠ gb174)) (have h0_:=HO_0;zz42) hg (.inl rfl));replace BK174:=Aside0.mk (blk_grown (g:=gb174) (o:=.cells #[.slice A1_0 l1_0.length c1_0] 56 (0,0)) (zz35) hg (Kd.N_ne HO_10.out BK174.out (zz28)));replace HO_10:=Aside0.mk (hp_);replace HL180_0:=Aside0.mk (Kd.V_afterv (v:=(.slice (some ⟨go30,0,none⟩) x10_3.length co30)) (v1:=(.slice (some ⟨go30,0,none⟩) x10_3.length co30)) (ok:=(fun k_=>(P0_ k_∨w.heap.size≤k_)∧some k_ ≠ (.slice Ao34 t181.length co34:Value).ownBlock∧k_ ≠ gb174)) (have h0_:=HL180_0;zz42) hg (.inl rfl));replace HB:=Aside0.mk ((by rw [hw];exact below_set (HB.out) GB30.out:Below w.heap.size w w33));clear HO183;clear hg hw hp_))
            go_roundg k3
            case measure=>have:=HJ7.out;have:=HJ12.out;have:=HK3.out;omega
            case rel=>exact ⟨(y184),(wrap64 (x45_3+1)),(zz2),H',⟨by have:=HJ7.out;have:=HJ12.out;have:=HK3.out;omega⟩,⟨by (with_reducible repeat (first|apply Kd.V_alloc|apply Kd.V_drewN|apply Kd.V_drew));exact Kd.V_mono HO_0.out (fun _ hk=>⟨hk.1.1,⟨hk.2,hk.1.2.2⟩⟩)⟩,⟨zz39⟩,⟨zz35⟩,⟨zz34⟩⟩
           ·replace c25:=Bool.eq_false_iff.mpr c25;subst c25;have H1:(if 0≤x45_3 then (if x45_3 < (l0.length:Int) then (if x45_3 < (l1_0.length:Int) then (if 0≤a2 then (if a2 < ((rd_L1 l1_0 x45_3).length:Int) then ((nat_Of.f k3 (IntKind.u64.wrap (rd (rd_L1 l1_0 x45_3) a2))).bind fun t188=>((U50.f k3 (rd_L5 l0 x45_3) t188).bind fun t191=>(if x45_3 < (x10_3.length:Int) then (U54.l0 k3 l0 a2 false (x10_3.set (x45_3:Int).toNat t191) (l0.length:Int) (wrap64 (x45_3+1)) l1_0) else (none)))) else (none)) else (none)) else (none)) else (none)) else (none)) = some (r1,r2):=zz13;clear H;have H:=H1;clear H1;replace H:=zzi H;obtain ⟨c35,H⟩:=H;have c35b0:=decide_eq_true c35;clear c35;replace H:=zzi H;obtain ⟨c36,H⟩:=H;have c36b0:=decide_eq_true c36;clear c36;replace H:=zzi H;obtain ⟨c37,H⟩:=H;have c37b0:=decide_eq_true c37;clear c37;replace H:=zzi H;obtain ⟨c38,H⟩:=H;have c38b0:=decide_eq_true c38;clear c38;replace H:=zzi H;obtain ⟨c39,H⟩:=H;have c39b0:=decide_eq_true c39;clear c39;replace H:=zzb H;obtain ⟨t188,A40,H⟩:=H;replace H:=zzb H;obtain ⟨t191,A41,H⟩:=H;replace H:=zzi H;obtain ⟨c42,H⟩:=H;have c42b0:=decide_eq_true c42;clear c42;obtain ⟨y194,hy194⟩:∃ y_:List (List Int),y_ = (x10_3.set (x45_3:Int).toNat t191):=⟨_,rfl⟩;replace H:(U54.l0 k3 l0 a2 false y194 (l0.length:Int) (wrap64 (x45_3+1)) l1_0) = some (r1,r2):=(have h0_:=hy194;zz24);have Ny194:=Aside0.mk hy194;clear hy194;have H':=Aside0.mk H;clear H
            try go_wp2
            replace HO_0:=Aside0.mk (Kd.V_drew HO_0.out);replace HO_10:=Aside0.mk (Kd.N_drew HO_10.out);replace BK174:=Aside0.mk (blk_drew BK174.out);replace HB:=Aside0.mk (below_drew1 HB.out);have p185:0≤(x45_3:Int):=of_decide_eq_true (zz11);have q185:x45_3 < (l0.length:Int):=of_decide_eq_true (zz11);obtain ⟨ad185,A185_0,c185_0,e185,hx185_0,hl185_0,hi185_0⟩:=at_L5 (Kd.V_reads' HO_0.out).2.2 x45_3 p185 q185
            cases e185
            obtain ⟨ce185,hce185,hMe185,hcc185⟩:=Kd.V_get HO_0.out [] x45_3 p185 (by first|exact q185|exact of_decide_eq_true (zz11)|(have e_:=(Kd.V_reads' HO_0.out).1;omega));obtain ⟨ua185_0,uc185_0,rfl,ul185_0,ge185_0⟩:=Kd.FK_slice_open hMe185;have hv185_0:=hcc185 0 _ rfl;rw [Nat.add_zero,show ((Kd.slice 65 (Kd.int .u32))).sz = 1 from rfl,Nat.mul_one] at hv185_0;replace hv185_0:=Option.some.inj (hv185_0.symm.trans hx185_0)
            injection hv185_0 with hva_ hvn_ hvc_
            rw [hva_] at ge185_0;rw [hvc_] at ul185_0;have HL185_0:=Aside0.mk (show Kd.V (Kd.int .u32) 65 _ w.heap.size _ _ (rd_L5 l0 x45_3) from Kd.V_mk ul185_0 ge185_0);clear hva_ hvn_ hvc_ ge185_0 ul185_0;clear hcc185 hce185;have HR185_0:=Aside0.mk hi185_0;have HC185_0:=Aside0.mk hl185_0;clear hi185_0 hl185_0;replace p185:=eq_true p185;replace q185:=eq_true q185;have p186:0≤(x45_3:Int):=of_decide_eq_true (zz11);have q186:x45_3 < (l1_0.length:Int):=of_decide_eq_true (zz11);obtain ⟨ad186,A186_0,c186_0,e186,hx186_0,hl186_0,hi186_0⟩:=at_L1 HR1_0.out x45_3 p186 q186;have hw186_0:=hx186_0
            cases e186
            replace hx186_0:=(HB.out.cell (World.block_lt_of_cell? w _ hx186_0)).trans hx186_0;have HR186_0:=Aside0.mk hi186_0;have HC186_0:=Aside0.mk hl186_0;clear hi186_0 hl186_0;replace p186:=eq_true p186;replace q186:=eq_true q186;have p187:0≤(a2:Int):=of_decide_eq_true (zz11);have q187:a2 < ((rd_L1 l1_0 x45_3).length:Int):=of_decide_eq_true (zz11);obtain ⟨ad187,e187,hx187_0⟩:=Kd.at_int HR186_0.out a2 p187 q187;have hw187_0:=hx187_0
            cases e187
            replace hx187_0:=(HB.out.cell (World.block_lt_of_cell? w _ hx187_0)).trans hx187_0;replace p187:=eq_true p187;replace q187:=eq_true q187;refine start_ (n:=19) (S:=fun w'=>w'.cell? ⟨gb174,0,none⟩ = some (.slice (some ad186) l1_0.length c1_0)∧w'.cell? (ad185.add (x45_3).toNat) = some (.slice A185_0 (rd_L5 l0 x45_3).length c185_0)∧w'.cell? (ad186.add (x45_3).toNat) = some (.slice (some ad187) (rd_L1 l1_0 x45_3).length c186_0)∧w'.cell? (ad187.add (a2).toNat) = some (.int .i64 (rd (rd_L1 l1_0 x45_3) a2))) (ds:=[18]) #[false,false,false,false,false,false,false,false,false,false,false,false,false,false,false,false,false,false,false] (zz0) rfl rfl ⟨(blk_cell BK174.out 0).trans rfl,hx185_0,((HB.out.cell (World.block_lt_of_cell? w _ hw186_0)).trans hw186_0),((HB.out.cell (World.block_lt_of_cell? w _ hw187_0)).trans hw187_0)⟩ (fun hHeld=>?_);refine with_tabW U54.tab15 U54.bits15 (fun HT_ HW_=>?_)
            generalize wr.drew = w44 at HO_0 HO_10 BK174 HB HL185_0 HR185_0 HR186_0 hx185_0 hx186_0 hx187_0 hHeld ⊢
            refine zzp 0 57 ?_ #[true,false,false,false,false,false,false,false,false,false,false,false,false,false,false,false,false,false,false] rfl rfl (any_of HT_.out (zz0)) (fun _ _ _ h=>h) (Or.inl ⟨zz20,?_⟩) ?_ ?_ ?_;rotate_left
            ·intro w'
             go_simp
             with_reducible rfl
            rotate_left
            ·simp only [zzs]
             rfl
            refine zzp 1 58 ?_ #[true,true,false,false,false,false,false,false,false,false,false,false,false,false,false,false,false,false,false] rfl rfl (any_of HT_.out (zz0)) (fun _ _ _ h=>h) (Or.inl ⟨zz20,?_⟩) ?_ ?_ ?_;rotate_left
            ·intro w'
             go_simp
             with_reducible rfl
            rotate_left
            ·simp only [zzs]
             rfl
            refine zzp 2 59 ?_ #[true,true,true,false,false,false,false,false,false,false,false,false,false,false,false,false,false,false,false] rfl rfl (any_of HT_.out (zz0)) (fun _ _ _ h=>h) (Or.inl ⟨zz20,?_⟩) ?_ ?_ ?_;rotate_left
            ·intro w'
             go_simp
             with_reducible rfl
            rotate_left
            ·simp only [zzs]
             rfl
            refine zzp 3 60 ?_ #[true,true,true,true,false,false,false,false,false,false,false,false,false,false,false,false,false,false,false] rfl rfl (any_of HT_.out (zz0)) (fun _ _ _ h=>h) (Or.inl ⟨zz20,?_⟩) ?_ ?_ ?_;rotate_left
            ·intro w'
             go_simp
             with_reducible rfl
            rotate_left
            ·simp only [zzs]
             rfl
            refine zzp 4 61 ?_ #[true,true,true,true,true,false,false,false,false,false,false,false,false,false,false,false,false,false,false] rfl rfl (any_of HT_.out (zz0)) (fun _ _ _ h=>h) (Or.inl ⟨zz20,?_⟩) ?_ ?_ ?_;rotate_left
            ·intro w'
             go_simp
             with_reducible rfl
            rotate_left
            ·simp only [zzs]
             rfl
            refine zzp 6 63 ?_ #[true,true,true,true,true,false,true,false,false,false,false,false,false,false,false,false,false,false,false] rfl rfl (any_of HT_.out (zz0)) (fun _ _ _ h=>h) (Or.inl ⟨zz20,?_⟩) ?_ ?_ ?_;rotate_left
            ·intro w'
             go_simp
             with_reducible rfl
            rotate_left
            ·simp only [zzs]
             rfl
            refine zzp 8 65 ?_ #[true,true,true,true,true,false,true,false,true,false,false,false,false,false,false,false,false,false,false] rfl rfl (any_of HT_.out (zz0)) (fun _ _ _ h=>h) (Or.inl ⟨zz20,?_⟩) ?_ ?_ ?_;rotate_left
            ·intro w'
             go_simp
             with_reducible rfl
            rotate_left
            ·simp only [zzs]
             rfl
            refine zzp 11 68 ?_ #[true,true,true,true,true,false,true,false,true,false,false,true,false,false,false,false,false,false,false] rfl rfl (any_of HT_.out (zz0)) (fun _ _ _ h=>h) (Or.inl ⟨zz20,?_⟩) ?_ ?_ ?_;rotate_left
            ·intro w'
             go_simp
             with_reducible rfl
            rotate_left
            ·simp only [zzs]
             rfl
            refine take_ (i:=5) (N:=some 62) (v:=?_) (a':=?_) #[true,true,true,true,true,true,true,false,true,false,false,true,false,false,false,false,false,false,false] rfl rfl (take_ofW HT_.out HW_.out (zz0)) (fun _ _ _ h=>h) (Or.inl ⟨zz20,?_⟩) hHeld ?_ ?_;rotate_left
            ·rintro w' ⟨s0,s1,s2,s3⟩
             go_simp
             with_reducible rfl
            rotate_left
            ·simp only [zzs]
             rfl
            refine take_ (i:=7) (N:=some 64) (v:=?_) (a':=?_) #[true,true,true,true,true,true,true,true,true,false,false,true,false,false,false,false,false,false,false] rfl rfl (take_ofW HT_.out HW_.out (zz0)) (fun _ _ _ h=>h) (Or.inl ⟨zz20,?_⟩) hHeld ?_ ?_;rotate_left
            ·rintro w' ⟨s0,s1,s2,s3⟩
             go_simp
             with_reducible rfl
            rotate_left
            ·simp only [zzs]
             rfl
            refine zzp 9 66 ?_ #[true,true,true,true,true,true,true,true,true,true,false,true,false,false,false,false,false,false,false] rfl rfl (any_of HT_.out (zz0)) (fun _ _ _ h=>h) (Or.inl ⟨zz20,?_⟩) ?_ ?_ ?_;rotate_left
            ·intro w'
             go_simp
             with_reducible rfl
            rotate_left
            ·simp only [zzs]
             rfl
            refine take_ (i:=10) (N:=some 67) (v:=?_) (a':=?_) #[true,true,true,true,true,true,true,true,true,true,true,true,false,false,false,false,false,false,false] rfl rfl (take_ofW HT_.out HW_.out (zz0)) (fun _ _ _ h=>h) (Or.inl ⟨zz20,?_⟩) hHeld ?_ ?_;rotate_left
            ·rintro w' ⟨s0,s1,s2,s3⟩
             go_simp
             with_reducible rfl
            rotate_left
            ·simp only [zzs]
             rfl
            refine zzp 12 69 ?_ #[true,true,true,true,true,true,true,true,true,true,true,true,true,false,false,false,false,false,false] rfl rfl (any_of HT_.out (zz0)) (fun _ _ _ h=>h) (Or.inl ⟨zz20,?_⟩) ?_ ?_ ?_;rotate_left
            ·intro w'
             go_simp
             with_reducible rfl
            rotate_left
            ·simp only [zzs]
             rfl
            refine take_ (i:=13) (N:=some 70) (v:=?_) (a':=?_) #[true,true,true,true,true,true,true,true,true,true,true,true,true,true,false,false,false,false,false] rfl rfl (take_ofW HT_.out HW_.out (zz0)) (fun _ _ _ h=>h) (Or.inl ⟨zz20,?_⟩) hHeld ?_ ?_;rotate_left
            ·rintro w' ⟨s0,s1,s2,s3⟩
             go_simp
             with_reducible rfl
            rotate_left
            ·simp only [zzs]
             rfl
            refine zzp 14 71 ?_ #[true,true,true,true,true,true,true,true,true,true,true,true,true,true,true,false,false,false,false] rfl rfl (any_of HT_.out (zz0)) (fun _ _ _ h=>h) (Or.inl ⟨zz20,?_⟩) ?_ ?_ ?_;rotate_left
            ·intro w'
             go_simp
             with_reducible rfl
            rotate_left
            ·simp only [zzs]
             rfl
            refine one_ (i:=15) (N:=some 72) #[true,true,true,true,true,true,true,true,true,true,true,true,true,true,true,true,false,false,false] rfl rfl (one_of HT_.out (zz0)) (zz28) (fun K hK=>?_);refine goes_ Try.func38 (zz0) rfl #[.int .u64 (IntKind.u64.wrap (rd (rd_L1 l1_0 x45_3) a2))] (zz20) rfl rfl (zz19) ?_
            with_reducible refine (nat_Of.calls k3 (IntKind.u64.wrap (rd (rd_L1 l1_0 x45_3) a2)) t188 _ A40.out).mono ?_
            rintro e w45 ⟨v189,rfl,ho0,hb⟩;have HS1_:=(hb.cell (World.block_lt_of_cell? _ _ (hHeld.2.1))).trans (hHeld.2.1);refine ⟨_,rfl,?_⟩;replace HO_0:=Aside0.mk (Kd.V_below (have h0_:=HO_0;zz23) hb);replace HL185_0:=Aside0.mk (Kd.V_below (have h0_:=HL185_0;zz23) hb);have HO190:=Aside0.mk (Kd.V_lower (Kd.V_mono (ok':=fun k_=>(P0_ k_∨w.heap.size≤k_)∧some k_ ≠ (v178:Value).ownBlock∧k_ ≠ gb174) ho0 (fun k_ hk_=>⟨(.inr (Nat.le_trans (below_size (zz34)) hk_)),(Kd.fresh' (Kd.N_lt (zz39)) k_ hk_),(Kd.freshB (g:=gb174) (o:=.cells #[.slice (some ad186) l1_0.length c1_0] 56 (0,0)) (zz35) k_ hk_)⟩)) (below_size (zz34)));replace HO_10:=Aside0.mk (Kd.N_below (zz39) hb);replace BK174:=Aside0.mk (blk_below (zz35) hb);replace HR185_0:=Aside0.mk (Kd.C_below (have h0_:=HR185_0;zz38) hb);replace HB:=Aside0.mk (below_step (zz34) hb)
            (try clear hb)
            (try clear hk)
            (try clear ho0)
            obtain ⟨Ao46,co46,eo46⟩:=Kd.V_slice HO190.out
            (first|subst eo46|(injection eo46 with f1_ f2_ f3_;have f4_:=f1_.symm;have f5_:=f3_.symm;clear f1_ f2_ f3_;subst f4_;subst f5_))
            refine hK.out _ _ ⟨(blk_cell BK174.out 0).trans rfl,HS1_,((HB.out.cell (World.block_lt_of_cell? w _ hw186_0)).trans hw186_0),((HB.out.cell (World.block_lt_of_cell? w _ hw187_0)).trans hw187_0)⟩ (fun hHeld=>?_);clear hK K;refine norm_ (a':=?_) ?_ ?_;rotate_left
            ·show Act.put _ (some 72) _ = _
             simp only [zzs]
             rfl
            refine one_ (i:=16) (N:=some 73) #[true,true,true,true,true,true,true,true,true,true,true,true,true,true,true,true,true,false,false] rfl rfl (one_of HT_.out (zz0)) (zz28) (fun K hK=>?_);refine goes_ Try.func39 (zz0) rfl #[.slice A185_0 (rd_L5 l0 x45_3).length c185_0,.slice Ao46 t188.length co46] (zz20) rfl rfl (zz19) ?_
            with_reducible refine (U50.calls k3 (fun k_=>((P0_ k_∨w.heap.size≤k_)∧(some k_ ≠ (v178:Value).ownBlock∧k_ ≠ gb174))) _ _ (rd_L5 l0 x45_3) (fun k_=>((P0_ k_∨w.heap.size≤k_)∧(some k_ ≠ (v178:Value).ownBlock∧k_ ≠ gb174))) _ _ t188 t191 _ ?side1 ?side2 A41.out).mono ?_
            (case side1=>exact HL185_0.out)
            (case side2=>exact HO190.out)
            rintro e w47 ⟨v192,rfl,ho0,hb⟩;have HS1_:=(hb.cell (World.block_lt_of_cell? _ _ (hHeld.2.1))).trans (hHeld.2.1);refine ⟨_,rfl,?_⟩;replace HO_0:=Aside0.mk (Kd.V_below (have h0_:=HO_0;zz23) hb);replace HL185_0:=Aside0.mk (Kd.V_below (have h0_:=HL185_0;zz23) hb);replace HO190:=Aside0.mk (Kd.V_below (have h0_:=HO190;zz23) hb);have HO193:=Aside0.mk (Kd.V_lower (Kd.V_mono (ok':=fun k_=>(P0_ k_∨w.heap.size≤k_)∧some k_ ≠ (v178:Value).ownBlock∧k_ ≠ gb174) ho0 (fun k_ hk_=>⟨Or.elim hk_ (fun hs_=>Or.elim hs_ (fun hs_=>hs_.1) (fun hs_=>hs_.1)) (fun hn_=>(.inr (Nat.le_trans (below_size (zz34)) hn_))),Or.elim hk_ (fun hs_=>Or.elim hs_ (fun hs_=>hs_.2.1) (fun hs_=>hs_.2.1)) (fun hn_=>(Kd.fresh' (Kd.N_lt (zz39)) k_ hn_)),Or.elim hk_ (fun hs_=>Or.elim hs_ (fun hs_=>hs_.2.2) (fun hs_=>hs_.2.2)) (fun hn_=>(Kd.freshB (g:=gb174) (o:=.cells #[.slice (some ad186) l1_0.length c1_0] 56 (0,0)) (zz35) k_ hn_))⟩)) (below_size (zz34)));replace HO_10:=Aside0.mk (Kd.N_below (zz39) hb);replace BK174:=Aside0.mk (blk_below (zz35) hb);replace HR185_0:=Aside0.mk (Kd.C_below (have h0_:=HR185_0;zz38) hb);replace HB:=Aside0.mk (below_step (zz34) hb)
            (try clear hb)
            (try clear hb2)
            (try clear hk)
            (try clear hi)
            (try clear ho0)
            have p43:0≤(x45_3:Int):=of_decide_eq_true (zz11);have q43:(x45_3:Int) < ((x10_3.length:Int):Int):=of_decide_eq_true (zz11);obtain ⟨go43,co43,eo43,gb43,gl43,cl43,HG43⟩:=Kd.N_form HO_10.out (zz4)
            (first|cases eo43|(injection eo43 with ea_ en_ ec_;(first|subst ea_|(injection ea_ with ea_;subst ea_));subst ec_;clear en_))
            have GB43:=Aside0.mk gb43;have GG43:=Aside0.mk HG43;clear gb43 gl43 HG43;obtain ⟨ce43,hcl43,hM43,hcc43,hfr43⟩:=Kd.N_elem HO_10.out [] (x45_3:Int) p43 q43;obtain ⟨ua43_0,uc43_0,rfl,ul43_0,ge43_0⟩:=Kd.FK_slice_open hM43;have hx43_0:=hcc43 0 _ rfl;have hf43_0:=hfr43 0
            (try simp only [show ((Kd.slice 65 (Kd.int .u32))).sz = 1 from rfl,Nat.mul_one,Nat.add_zero] at hx43_0)
            (try simp only [show ((Kd.slice 65 (Kd.int .u32))).sz = 1 from rfl,Nat.mul_one,Nat.add_zero] at hf43_0)
            clear hcl43 hcc43 hfr43 hM43;replace p43:=eq_true p43;replace q43:=eq_true q43;obtain ⟨Ao49,co49,eo49⟩:=Kd.V_slice HO193.out
            (first|subst eo49|(injection eo49 with f1_ f2_ f3_;have f4_:=f1_.symm;have f5_:=f3_.symm;clear f1_ f2_ f3_;subst f4_;subst f5_))
            have HX48:=Aside0.mk (show Kd.N (Kd.slice 65 (Kd.int .u32)) 32 _ w.heap.size (fun k_=>(P0_ k_∨w.heap.size≤k_)∧k_ ≠ gb174) (.slice (some ⟨go43,0,none⟩) x10_3.length co43) x10_3 from (Kd.N_mono (HO_10.out) (fun k_ hk=>⟨hk.1,hk.2⟩)));obtain ⟨ce48,hcl48,hM48,hcc48,hfr48⟩:=Kd.N_elem HX48.out [] (x45_3:Int) (of_decide_eq_true (zz11)) (zz40);obtain ⟨ua48_0,uc48_0,rfl,ul48_0,ge48_0⟩:=Kd.FK_slice_open hM48;have HP48:=(Kd.N_seg HX48.out (x45_3:Int) (of_decide_eq_true (zz11)) (zz40) (seg:=[.slice Ao49 t191.length co49]) (j:=0) hcl48 hcc48 (show 1≤1 from by decide) (x':=t191) (Kd.FK_slice_mk (Kd.V_reads' (Kd.V_mono (ok':=(fun k_=>((fun k_=>(P0_ k_∨w.heap.size≤k_)∧k_ ≠ gb174)) k_∧k_ ≠ go43)) (HO193.out) (fun k_ hk=>⟨⟨hk.1,hk.2.2⟩,fun e_=>(hk.2.1) (zz41)⟩))).2.1 (Kd.V_F (Kd.V_mono (ok':=(fun k_=>((fun k_=>(P0_ k_∨w.heap.size≤k_)∧k_ ≠ gb174)) k_∧k_ ≠ go43)) (HO193.out) (fun k_ hk=>⟨⟨hk.1,hk.2.2⟩,fun e_=>(hk.2.1) (zz41)⟩)))) (fun _ hk=>hk)).1
            (try simp only [show ((Kd.slice 65 (Kd.int .u32))).sz = 1 from rfl,Nat.mul_one,Nat.add_zero] at HP48)
            rw [← Ny194.out] at HP48;have HQ48:=Aside0.mk HP48;clear hcl48 hcc48 hfr48 hM48 HP48;refine hK.out _ _ ⟨(blk_cell BK174.out 0).trans rfl,HS1_,((HB.out.cell (World.block_lt_of_cell? w _ hw186_0)).trans hw186_0),((HB.out.cell (World.block_lt_of_cell? w _ hw187_0)).trans hw187_0)⟩ (fun hHeld=>?_);clear hK K;refine norm_ (a':=?_) ?_ ?_;rotate_left
            ·show Act.put _ (some 73) _ = _
             simp only [zzs]
             rfl
            refine zzp 17 74 ?_ #[true,true,true,true,true,true,true,true,true,true,true,true,true,true,true,true,true,true,false] rfl rfl (any_of HT_.out (zz0)) (fun _ _ _ h=>h) (Or.inl ⟨zz20,?_⟩) ?_ ?_ ?_;rotate_left
            ·intro w'
             go_simp
             with_reducible rfl
            rotate_left
            ·simp only [zzs]
             rfl
            refine last_ (i:=18) (N:=none) #[true,true,true,true,true,true,true,true,true,true,true,true,true,true,true,true,true,true,true] rfl rfl (one_of HT_.out (zz0)) (zz28) (fun K hK=>?_);refine skip_ (w1:=?_) (zz20) rfl ?_ ?_;rotate_left
            ·go_simp
             rfl
            refine hK.out _ _ ?_;clear hK K;refine done_ (done_of HT_.out (zz0)) ?_
            try go_wp2
            go_roundg k3
            case measure=>have:=HJ7.out;have:=HJ12.out;have:=HK3.out;omega
            case rel=>exact ⟨(y194),(wrap64 (x45_3+1)),(zz2),H',⟨by have:=HJ7.out;have:=HJ12.out;have:=HK3.out;omega⟩,⟨by (with_reducible repeat (first|apply Kd.V_alloc|apply Kd.V_drewN|apply Kd.V_drew));exact Kd.V_mono (Kd.V_far (p:=⟨go43,(x45_3:Int).toNat,none⟩) (Kd.V_mono HO_0.out (fun k_ hk=>(⟨hk,fun e_=>hk.2.1 (zz41)⟩:_∧k_ ≠ go43))) (fun _ hk=>hk.2) (.slice Ao49 t191.length co49)) (fun _ hk=>⟨hk.1.1,⟨hk.1.2.1,hk.1.2.2⟩⟩)⟩,⟨(have h0_:=HQ48;zz27)⟩,⟨by (with_reducible repeat (first|refine blk_drewN ?_ _|refine blk_drew ?_|refine blk_alloc ?_ _));refine blk_far ?_ (by have h_:=Kd.N_away HO_10.out (fun _ hk=>hk.2);intro e_;exact h_ (zz41)) _;(with_reducible repeat (first|refine blk_drewN ?_ _|refine blk_drew ?_|refine blk_alloc ?_ _));exact BK174.out⟩,⟨by repeat (first|(with_reducible first|exact HB.out|apply below_alloc|apply pw_below_drewN|apply below_drew1|refine below_set ?_ GB43.out|refine below_set ?_ GE174.out)|exact HB.out)⟩⟩
          ·have c24b0:=decide_eq_false c24;clear c24;simp only [Option.some.injEq,Prod.mk.injEq] at H;obtain ⟨rfl,rfl⟩:=H
           go_wp2
           go_ret2
           exact ⟨_,zz6,(have h0_:=HO_10;zz30),zz34⟩
  ·have c7b0:=beq_eq_false_iff_ne.mpr c7;have c7b1:=bne_iff_ne.mpr c7;simp only [Option.some.injEq,Prod.mk.injEq] at H;obtain ⟨rfl,rfl⟩:=H;go_enter Try.func56,Try.ntmps56
   go_wp2_with (first|((with_reducible refine gate_dst (N:=4) rfl ?_);refine box_event ?hg (N:=4) ?hd (cs:=#[.slice A1_0 l1_0.length c1_0]) (t:=56) ?hr ?_;(case hd=>rfl);(case hg=>rfl);(case hr=>exact zz109);intro gb174 hg w50 hbox hb;replace HO0:=Aside0.mk (Kd.V_below (Kd.V_elderB (have h0_:=HO0;zz23) gb174 (Nat.le_of_eq hg.symm)) hb);have BK174:=Aside0.mk (hbox);have GW174:=Aside0.mk ((by rw [hg];exact (below_size (zz5)):w.heap.size≤gb174));have GE174:=Aside0.mk ((by rw [hg];exact (below_size (zz5)):w.heap.size≤gb174));replace HB:=Aside0.mk (below_step (zz5) hb);clear hb hbox hg;obtain ⟨hcz51_0,hfz51_0⟩:=zc1 BK174.out)|((with_reducible refine gate_callee (f:=54) rfl ?_);refine goesL_ (some 18) rfl rfl Try.func54 (zz0) rfl #[.agg #[.slice A1_0 l1_0.length c1_0],.int .i64 (l0.length:Int)] rfl (zz19) ?_;(with_reducible refine (U45.calls k _ _ l1_0 (l0.length:Int) t175 _ ?_ ?_ A6.out).mono ?_);exact zz118;exact zz119;rintro e w52 ⟨rfl,hb⟩;refine ⟨_,rfl,?_⟩;replace HO0:=Aside0.mk (Kd.V_below (have h0_:=HO0;zz23) hb);replace BK174:=Aside0.mk (blk_below (zz35) hb);replace HB:=Aside0.mk (below_step (zz34) hb);(try clear hb)))
   go_ret2
   exact ⟨_,zz6,zz26,zz34⟩
end Go.Proofs.Ytmcegphcjphdcaa.QA
