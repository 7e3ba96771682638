import Derived.Test.YtmcegphcjphdcaaXSwQAx0
import Derived.Test.YtmcegphcjphdcaaXSwQAx2
import Derived.Test.YtmcegphcjphdcaaXSwQAx3
import Derived.Test.YtmcegphcjphdcaaXSwQAx4
import Derived.Test.YtmcegphcjphdcaaXSwQAx5
import Derived.Test.YtmcegphcjphdcaaXSwQAx14
namespace Go.Proofs.Ytmcegphcjphdcaa.QA
open Go.RowKit Go.Proofs.YtmcegphcjphdcaaW.PrintWords Go.Proofs.YtmcegphcjphdcaaW.PrintLast Go.Proofs.YtmcegphcjphdcaaW.PrintMore
attribute [local go_sem] max2_int min2_int max_two min_two max_three min_three max_four min_four
set_option linter.unusedVariables false
set_option linter.unusedSimpArgs false
mutual
def U5.l0:Nat→List (S56)→Int→List (S56)→List (List Int)→Int→Int→List Int→List Int→List Int→List Int→List (List Int)→Option ((List (List Int)))
 | 0,_,_,_,_,_,_,_,_,_,_,_=>none
 | k+1,x1,x3,x4,x11,x24,x25,x520000,x520001,x521000,x521001,x521002=>if x25 < x24 then ((nat_Of.f k 1).bind fun t524=>(if 0≤x25 then (if x25 < (x11.length:Int) then (U5.l0 k x1 x3 x4 (x11.set (x25:Int).toNat t524) x24 (wrap64 (x25+1)) x520000 x520001 x521000 x521001 x521002) else (none)) else (none))) else (U5.l1 k x1 x3 x4 x11 x521002 (x521002.length:Int) 0 x520000 x520001)
def U5.l1:Nat→List (S56)→Int→List (S56)→List (List Int)→List (List Int)→Int→Int→List Int→List Int→Option ((List (List Int)))
 | 0,_,_,_,_,_,_,_,_,_=>none
 | k+1,x1,x3,x4,x11,x34,x35,x36,x520000,x520001=>if x36 < x35 then (if 0≤x36 then (if x36 < (x34.length:Int) then ((U6.f k x520000 x520001 x1 (rd_L1 x34 x36) x3).bind fun t529=>(U5.l2 k x1 x3 x4 x11 (rd_L1 x34 x36) t529 x34 x35 x36 x4 (x4.length:Int) 0 x520000 x520001)) else (none)) else (none)) else (some x11)
def U5.l2:Nat→List (S56)→Int→List (S56)→List (List Int)→List Int→List (List Int)→List (List Int)→Int→Int→List (S56)→Int→Int→List Int→List Int→Option ((List (List Int)))
 | 0,_,_,_,_,_,_,_,_,_,_,_,_,_,_=>none
 | k+1,x1,x3,x4,x11,x14,x15,x34,x35,x36,x45,x46,x47,x520000,x520001=>if x47 < x46 then (if 0≤x47 then (if x47 < (x45.length:Int) then (if 0≤x3 then (if x3 < (x14.length:Int) then ((U54.f k x15 ((rd_T56 x45 x47).f0) (rd x14 x3)).bind fun bt535=>(if x47 < (x11.length:Int) then ((U7.f k bt535.1).bind fun t540=>((U50.f k (rd_L5 x11 x47) t540).bind fun t543=>(U5.l2 k x1 x3 x4 (x11.set (x47:Int).toNat t543) x14 x15 x34 x35 x36 x45 x46 (wrap64 (x47+1)) x520000 x520001))) else (none))) else (none)) else (none)) else (none)) else (none)) else (U5.l1 k x1 x3 x4 x11 x34 x35 (wrap64 (x36+1)) x520000 x520001)
end
def U5.f (k:Nat) (l0_0:List Int) (l0_1:List Int) (l1:List (S56)) (l2_0:List Int) (l2_1:List Int) (l2_2:List (List Int)) (a3:Int) (l4:List (S56)):Option ((List (List Int))):=if 0≤(l4.length:Int) then (if ((l4.length:Int):Int).toNat≤11728124029610 then ((some (List.replicate ((l4.length:Int):Int).toNat []:List (List Int))).bind fun y521=>(U5.l0 k l1 a3 l4 y521 (y521.length:Int) 0 l0_0 l0_1 l2_0 l2_1 l2_2)) else (none)) else (none)
theorem zm18_0 {P:Prop} (h:P:=by repeat' first|(with_reducible first|exact ih0 ..|exact ih1 ..|exact ih2 ..|exact U6.mono ..|exact U7.mono ..|exact U50.mono ..|exact nat_Of.mono ..|exact U54.mono ..|exact LeO.refl _|exact LeO.none _|refine LeO.ite ?_ ?_|refine LeO.bind ?_ (fun _=>?_))|exact ih0 ..|exact ih1 ..|exact ih2 ..|exact U6.mono ..|exact U7.mono ..|exact U50.mono ..|exact nat_Of.mono ..|exact U54.mono ..|exact LeO.none _|refine LeO.ite ?_ ?_|refine LeO.bind ?_ (fun _=>?_)):P:=h
theorem U5.mono_l:∀ k,(∀ y0 y1 y2 y3 y4 y5 y6 y7 y8 y9 y10,LeO (U5.l0 k y0 y1 y2 y3 y4 y5 y6 y7 y8 y9 y10) (U5.l0 (k+1) y0 y1 y2 y3 y4 y5 y6 y7 y8 y9 y10))∧(∀ y0 y1 y2 y3 y4 y5 y6 y7 y8,LeO (U5.l1 k y0 y1 y2 y3 y4 y5 y6 y7 y8) (U5.l1 (k+1) y0 y1 y2 y3 y4 y5 y6 y7 y8))∧(∀ y0 y1 y2 y3 y4 y5 y6 y7 y8 y9 y10 y11 y12 y13,LeO (U5.l2 k y0 y1 y2 y3 y4 y5 y6 y7 y8 y9 y10 y11 y12 y13) (U5.l2 (k+1) y0 y1 y2 y3 y4 y5 y6 y7 y8 y9 y10 y11 y12 y13))
 | 0=>⟨fun _ _ _ _ _ _ _ _ _ _ _ r h=>by simp [U5.l0] at h,fun _ _ _ _ _ _ _ _ _ r h=>by simp [U5.l1] at h,fun _ _ _ _ _ _ _ _ _ _ _ _ _ _ r h=>by simp [U5.l2] at h⟩
 | k+1=>by
  obtain ⟨ih0,ih1,ih2⟩:=U5.mono_l k;refine ⟨?_,?_,?_⟩
  ·intro y0 y1 y2 y3 y4 y5 y6 y7 y8 y9 y10;unfold U5.l0
   exact zm18_0
  ·intro y0 y1 y2 y3 y4 y5 y6 y7 y8;unfold U5.l1
   exact zm18_0
  ·intro y0 y1 y2 y3 y4 y5 y6 y7 y8 y9 y10 y11 y12 y13;unfold U5.l2
   exact zm18_0
theorem U5.mono:∀ a0 a1 a2 a3 a4 a5 a6 a7 k,LeO (U5.f k a0 a1 a2 a3 a4 a5 a6 a7) (U5.f (k+1) a0 a1 a2 a3 a4 a5 a6 a7):=by
 intro a0 a1 a2 a3 a4 a5 a6 a7 k;obtain ⟨ih0,ih1,ih2⟩:=U5.mono_l k;unfold U5.f
 exact zm18_0
def U5.T14:Bool × List (List Nat × List Nat):=(true,[([],[]),([],[]),([],[]),([],[]),([2,3],[2,3]),([4],[4]),([0,1,5],[0,1,5]),([6],[6]),([7],[7]),([7],[7]),([8,6,0,1,2,3,4,5,6,7,8],[8]),([9,10,0,1,2,3,4,5,6,7,8,9,10],[9])])
def U5.B14:List Nat:=[0,0,0,0,12,28,63,127,255,255,511,2047]
theorem U5.tab14:rtab .any (opsOf Try.f52 14) = U5.T14:=zz0
theorem U5.bits14:waitsOk U5.T14.2 U5.B14 = true:=zz0
def U5.T15:Bool × List (List Nat × List Nat):=(true,[([],[]),([],[]),([],[]),([],[]),([2,3],[2,3]),([4],[4]),([],[]),([6],[6]),([5,7,7],[5,7]),([0,1,0,1,2,3,4,5,6,7,8],[0,1]),([9,8,8,0,1,2,3,4,5,6,7,8],[8,9])])
def U5.B15:List Nat:=[0,0,0,0,12,28,0,64,252,511,1023]
theorem U5.tab15:rtab .any (opsOf Try.f52 15) = U5.T15:=zz0
theorem U5.bits15:waitsOk U5.T15.2 U5.B15 = true:=zz0
set_option maxHeartbeats 8000000 in
set_option maxRecDepth 100000 in
theorem U5.calls (k:Nat) (A0_0:Option Addr) (c0_0:Nat) (l0_0:List Int) (A0_1:Option Addr) (c0_1:Nat) (l0_1:List Int) (A1:Option Addr) (c1:Nat) (l1:List (S56)) (A2_0:Option Addr) (c2_0:Nat) (l2_0:List Int) (A2_1:Option Addr) (c2_1:Nat) (l2_1:List Int) (A2_2:Option Addr) (c2_2:Nat) (l2_2:List (List Int)) (a3:Int) (A4:Option Addr) (c4:Nat) (l4:List (S56)) (r:List (List Int)) (w:World) (hr0_0:Kd.C (Kd.int .i64) w A0_0 l0_0.length l0_0) (hc0_0:l0_0.length≤c0_0) (hr0_1:Kd.C (Kd.int .i64) w A0_1 l0_1.length l0_1) (hc0_1:l0_1.length≤c0_1) (hr1:Kd.C k56 w A1 l1.length l1) (hc1:l1.length≤c1) (hr2_0:Kd.C (Kd.int .i64) w A2_0 l2_0.length l2_0) (hc2_0:l2_0.length≤c2_0) (hr2_1:Kd.C (Kd.int .i64) w A2_1 l2_1.length l2_1) (hc2_1:l2_1.length≤c2_1) (hr2_2:Kd.C (Kd.slice 3 (Kd.int .i64)) w A2_2 l2_2.length l2_2) (hc2_2:l2_2.length≤c2_2) (hr4:Kd.C k56 w A4 l4.length l4) (hc4:l4.length≤c4) (h:U5.f k l0_0 l0_1 l1 l2_0 l2_1 l2_2 a3 l4 = some r) :
  Calls Try.prog 52 #[.agg #[.slice A0_0 l0_0.length c0_0,.slice A0_1 l0_1.length c0_1],.slice A1 l1.length c1,.agg #[.slice A2_0 l2_0.length c2_0,.slice A2_1 l2_1.length c2_1,.slice A2_2 l2_2.length c2_2],.int .i64 a3,.slice A4 l4.length c4] w fun e w'=>∃ v0_:Value,e = .returned (v0_)∧Kd.N (Kd.slice 65 (Kd.int .u32)) 32 w' w.heap.size (fun k_=>(w.heap.size≤k_)) v0_ r∧Below w.heap.size w w':=by
 have hu24:=Try.underlying24;have hu36:=Try.underlying36;have hu56:=Try.underlying56;have HR0_0:=Aside0.mk hr0_0;have HC0_0:=Aside0.mk hc0_0;clear hr0_0 hc0_0;have HR0_1:=Aside0.mk hr0_1;have HC0_1:=Aside0.mk hc0_1;clear hr0_1 hc0_1;have HR1:=Aside0.mk hr1;have HC1:=Aside0.mk hc1;clear hr1 hc1;have HR2_0:=Aside0.mk hr2_0;have HC2_0:=Aside0.mk hc2_0;clear hr2_0 hc2_0;have HR2_1:=Aside0.mk hr2_1;have HC2_1:=Aside0.mk hc2_1;clear hr2_1 hc2_1;have HR2_2:=Aside0.mk hr2_2;have HC2_2:=Aside0.mk hc2_2;clear hr2_2 hc2_2;have HR4:=Aside0.mk hr4;have HC4:=Aside0.mk hc4;clear hr4 hc4;have HB:=Aside0.mk (Below.refl w.heap.size w);have H:(if 0≤(l4.length:Int) then (if ((l4.length:Int):Int).toNat≤11728124029610 then ((some (List.replicate ((l4.length:Int):Int).toNat []:List (List Int))).bind fun y521=>(U5.l0 k l1 a3 l4 y521 (y521.length:Int) 0 l0_0 l0_1 l2_0 l2_1 l2_2)) else (none)) else (none)) = some r:=h;clear h;replace H:=zzi H;obtain ⟨c6,H⟩:=H;have c6b0:=eq_true c6;have c6b1:=decide_eq_true c6;clear c6;replace H:=zzi H;obtain ⟨c7,H⟩:=H;have c7b0:=eq_true c7;have c7b1:=decide_eq_true c7;clear c7;obtain ⟨y521,hy521⟩:∃ y_:List (List Int),y_ = (List.replicate ((l4.length:Int):Int).toNat []):=⟨_,rfl⟩;replace H:(U5.l0 k l1 a3 l4 y521 (y521.length:Int) 0 l0_0 l0_1 l2_0 l2_1 l2_2) = some r:=(have h0_:=hy521;zz24);have Ny521:=Aside0.mk hy521;clear hy521;have H':=Aside0.mk H;clear H;go_enter Try.func52,Try.ntmps52
 go_wp2_with (first|((with_reducible refine gate_dst (N:=5) rfl ?_);refine box_event ?hg (N:=5) ?hd (cs:=#[.slice A0_0 l0_0.length c0_0,.slice A0_1 l0_1.length c0_1]) (t:=24) ?hr ?_;(case hd=>rfl);(case hg=>rfl);(case hr=>exact zz109);intro gb519 hg w8 hbox hb;have BK519:=Aside0.mk (hbox);have GW519:=Aside0.mk ((by rw [hg];exact (below_size (zz5)):w.heap.size≤gb519));have GE519:=Aside0.mk ((by rw [hg];exact (below_size (zz5)):w.heap.size≤gb519));replace HB:=Aside0.mk (below_step (zz5) hb);clear hb hbox hg)|((with_reducible refine gate_dst (N:=7) rfl ?_);refine box_event ?hg (N:=7) ?hd (cs:=#[.slice A2_0 l2_0.length c2_0,.slice A2_1 l2_1.length c2_1,.slice A2_2 l2_2.length c2_2]) (t:=36) ?hr ?_;(case hd=>rfl);(case hg=>rfl);(case hr=>exact zz109);intro gb520 hg w9 hbox hb;have BK520:=Aside0.mk (hbox);have GW520:=Aside0.mk ((by rw [hg];exact (below_size (have h0_:=GE519;zz7)):w.heap.size≤gb520));have GE520:=Aside0.mk ((by rw [hg];exact (below_size (have h0_:=GE519;zz7)):w.heap.size≤gb520));replace HB:=Aside0.mk (below_step (have h0_:=GE519;zz7) hb);have NB519_520:=Aside0.mk ((by rw [hg];exact Nat.ne_of_lt (blk_lt (g:=gb519) (o:=.cells #[.slice A0_0 l0_0.length c0_0,.slice A0_1 l0_1.length c0_1] 24 (0,0)) (zz58)):gb519 ≠ gb520));have NB520_519:=Aside0.mk ((by rw [hg];exact Nat.ne_of_gt (blk_lt (g:=gb519) (o:=.cells #[.slice A0_0 l0_0.length c0_0,.slice A0_1 l0_1.length c0_1] 24 (0,0)) (zz58)):gb520 ≠ gb519));replace BK519:=Aside0.mk (blk_below (zz58) hb);clear hb hbox hg)|((with_reducible refine gate_dst (N:=22) rfl ?_);refine Kd.N_make (Kd.slice 65 (Kd.int .u32)) _ 32 rfl (N':=22) rfl 26 _ _ rfl (l4.length:Int) rfl rfl Try.underlying26 (.slice none 0 0) 24 info32 rfl (zz28) (zz4) [] (ok:=fun k_=>w9.heap.size≤k_) (okp:=fun _=>False) (Kd.FK_slice_mk (Nat.le_refl _) (Kd.F_nil _ _ _)) (fun _ hk=>hk.elim) (Nat.le_refl _) (of_decide_eq_true (zz11)) (Nat.le_trans (Nat.mul_le_mul_right _ (of_decide_eq_true (zz11):(l4.length:Int).toNat≤11728124029610)) (zz4)) (Below.refl _ _) (Nat.le_refl _) ?_;intro v522 w10 ho11 hb hg_ hnew_;clear hg_ hnew_;(first|rw [← Ny521.out] at ho11|(simp only [Int.reduceToNat] at ho11;rw [← Ny521.out] at ho11));have HO523:=Aside0.mk (Kd.N_lower (Kd.N_mono (ok':=fun k_=>(w.heap.size≤k_)∧k_ ≠ gb519∧k_ ≠ gb520) ho11 (fun k_ hk_=>⟨(Nat.le_trans (below_size (zz59)) hk_),(Kd.freshB (g:=gb519) (o:=.cells #[.slice A0_0 l0_0.length c0_0,.slice A0_1 l0_1.length c0_1] 24 (0,0)) (zz58) k_ hk_),(Kd.freshB (g:=gb520) (o:=.cells #[.slice A2_0 l2_0.length c2_0,.slice A2_1 l2_1.length c2_1,.slice A2_2 l2_2.length c2_2] 36 (0,0)) (zz60) k_ hk_)⟩)) (below_size (zz59)));replace BK519:=Aside0.mk (blk_below (zz58) hb);replace BK520:=Aside0.mk (blk_below (zz60) hb);replace HB:=Aside0.mk (below_step (zz59) hb);clear hb ho11;obtain ⟨Ao12,co12,eo12⟩:=Kd.N_slice HO523.out;subst eo12))
 go_loopg [25] k (fun kq v25 w'=>∃ (x11_1:List (List Int)) (x25_1:Int),v25 = .int .i64 x25_1∧Aside0 (U5.l0 kq l1 a3 l4 x11_1 (y521.length:Int) x25_1 l0_0 l0_1 l2_0 l2_1 l2_2 = some r)∧Aside0 (kq≤k)∧Aside0 (Kd.N (Kd.slice 65 (Kd.int .u32)) 32 w' w.heap.size (fun k_=>(w.heap.size≤k_)∧k_ ≠ gb519∧k_ ≠ gb520) (.slice Ao12 y521.length co12) x11_1)∧Aside0 (w'.heap[gb519]? = some (.cells #[(.slice A0_0 l0_0.length c0_0),(.slice A0_1 l0_1.length c0_1)] 24 (0,0)))∧Aside0 (w'.heap[gb520]? = some (.cells #[(.slice A2_0 l2_0.length c2_0),(.slice A2_1 l2_1.length c2_1),(.slice A2_2 l2_2.length c2_2)] 36 (0,0)))∧Aside0 (Below w.heap.size w w'))
 case atStart=>exact ⟨(y521),(0),(zz2),H',⟨Nat.le_refl _⟩,⟨(have h0_:=HO523;zz27)⟩,⟨zz58⟩,⟨zz60⟩,⟨zz59⟩⟩
 case round =>
  clear H'
  (try clear c1);(try clear c4);clear c6b0 c6b1 c7b0 c7b1
  obtain ⟨x11_1,x25_1,rfl,HA,HK1,HO_11,BK519,BK520,HB⟩:=hrel;have hl11_1:=(Kd.N_reads' HO_11.out).1;rw [hl11_1] at HO_11
  (try simp only [hl11_1])
  (try simp only [hl11_1] at BK519)
  (try simp only [hl11_1] at BK520)
  cases gk with
  | zero=>exact absurd HA.out (by simp [U5.l0])
  | succ k1 =>
   have H:=HA.out;clear HA;simp only [U5.l0] at H;replace H:=zzj H;rcases H with ⟨c13,H⟩|⟨c13,H⟩
   ·have c13b0:=decide_eq_true c13;clear c13
    (try (have c13b0h_:=c13b0;simp only [hl11_1] at c13b0h_))
    (try (have c13b1h_:=c13b1;simp only [hl11_1] at c13b1h_))
    (try (have c13b2h_:=c13b2;simp only [hl11_1] at c13b2h_))
    replace H:=zzb H;obtain ⟨t524,A14,H⟩:=H;replace H:=zzi H;obtain ⟨c15,H⟩:=H;have c15b0:=decide_eq_true c15;clear c15;replace H:=zzi H;obtain ⟨c16,H⟩:=H;have c16b0:=decide_eq_true c16;clear c16
    (try (have c16b0h_:=c16b0;simp only [hl11_1] at c16b0h_))
    (try (have c16b1h_:=c16b1;simp only [hl11_1] at c16b1h_))
    (try (have c16b2h_:=c16b2;simp only [hl11_1] at c16b2h_))
    obtain ⟨y527,hy527⟩:∃ y_:List (List Int),y_ = (x11_1.set (x25_1:Int).toNat t524):=⟨_,rfl⟩;replace H:(U5.l0 k1 l1 a3 l4 y527 (y521.length:Int) (wrap64 (x25_1+1)) l0_0 l0_1 l2_0 l2_1 l2_2) = some r:=(have h0_:=hy527;zz24);have Ny527:=Aside0.mk hy527;clear hy527;have H':=Aside0.mk H;clear H
    go_wp2_with (first|((with_reducible refine gate_callee (f:=38) rfl ?_);refine goesL_ (some 30) rfl rfl Try.func38 (zz0) rfl #[.int .u64 1] rfl (zz19) ?_;(with_reducible refine (nat_Of.calls k1 1 t524 _ A14.out).mono ?_);rintro e w18 ⟨v525,rfl,ho0,hb⟩;refine ⟨_,rfl,?_⟩;have HO526:=Aside0.mk (Kd.V_lower (Kd.V_mono (ok':=fun k_=>(w.heap.size≤k_)∧some k_ ≠ (.slice Ao12 x11_1.length co12:Value).ownBlock∧k_ ≠ gb519∧k_ ≠ gb520) ho0 (fun k_ hk_=>⟨(Nat.le_trans (below_size (zz59)) hk_),(Kd.fresh' (Kd.N_lt (zz61)) k_ hk_),(Kd.freshB (g:=gb519) (o:=.cells #[.slice A0_0 l0_0.length c0_0,.slice A0_1 l0_1.length c0_1] 24 (0,0)) (zz58) k_ hk_),(Kd.freshB (g:=gb520) (o:=.cells #[.slice A2_0 l2_0.length c2_0,.slice A2_1 l2_1.length c2_1,.slice A2_2 l2_2.length c2_2] 36 (0,0)) (zz60) k_ hk_)⟩)) (below_size (zz59)));replace HO_11:=Aside0.mk (Kd.N_below (zz61) hb);replace BK519:=Aside0.mk (blk_below (zz58) hb);replace BK520:=Aside0.mk (blk_below (zz60) hb);replace HB:=Aside0.mk (below_step (zz59) hb);(try clear hb);(try clear hk);(try clear ho0);have p17:0≤(x25_1:Int):=of_decide_eq_true (zz11);have q17:(x25_1:Int) < ((x11_1.length:Int):Int):=of_decide_eq_true (zz11);obtain ⟨go17,co17,eo17,gb17,gl17,cl17,HG17⟩:=Kd.N_form HO_11.out (zz4);(first|cases eo17|(injection eo17 with ea_ en_ ec_;(first|subst ea_|(injection ea_ with ea_;subst ea_));subst ec_;clear en_));have GB17:=Aside0.mk gb17;have GG17:=Aside0.mk HG17;clear gb17 gl17 HG17;obtain ⟨ce17,hcl17,hM17,hcc17,hfr17⟩:=Kd.N_elem HO_11.out [] (x25_1:Int) p17 q17;obtain ⟨ua17_0,uc17_0,rfl,ul17_0,ge17_0⟩:=Kd.FK_slice_open hM17;have hx17_0:=hcc17 0 _ rfl;have hf17_0:=hfr17 0;(try simp only [show ((Kd.slice 65 (Kd.int .u32))).sz = 1 from rfl,Nat.mul_one,Nat.add_zero] at hx17_0);(try simp only [show ((Kd.slice 65 (Kd.int .u32))).sz = 1 from rfl,Nat.mul_one,Nat.add_zero] at hf17_0);clear hcl17 hcc17 hfr17 hM17;replace p17:=eq_true p17;replace q17:=eq_true q17;obtain ⟨Ao21,co21,eo21⟩:=Kd.V_slice HO526.out;subst eo21;have HX19:=Aside0.mk (show Kd.N (Kd.slice 65 (Kd.int .u32)) 32 w18 w.heap.size (fun k_=>(w.heap.size≤k_)∧k_ ≠ gb519∧k_ ≠ gb520) (.slice (some ⟨go17,0,none⟩) x11_1.length co12) x11_1 from (zz61));obtain ⟨ce19,hcl19,hM19,hcc19,hfr19⟩:=Kd.N_elem HX19.out [] (x25_1:Int) (of_decide_eq_true (zz11)) (by have h_:(x25_1:Int) < ((x11_1.length:Int):Int):=of_decide_eq_true (zz11);first|exact h_|(have e_:=(Kd.N_reads' HO_11.out).1;omega)|simpa using h_);obtain ⟨ua19_0,uc19_0,rfl,ul19_0,ge19_0⟩:=Kd.FK_slice_open hM19;have HP19:=Kd.N_seg HX19.out (x25_1:Int) (of_decide_eq_true (zz11)) (by have h_:(x25_1:Int) < ((x11_1.length:Int):Int):=of_decide_eq_true (zz11);first|exact h_|(have e_:=(Kd.N_reads' HO_11.out).1;omega)|simpa using h_) (seg:=[.slice Ao21 t524.length co21]) (j:=0) hcl19 hcc19 (show 1≤1 from by decide) (x':=t524) (Kd.FK_slice_mk (Kd.V_reads' (Kd.V_mono (ok':=(fun k_=>((fun k_=>(w.heap.size≤k_)∧k_ ≠ gb519∧k_ ≠ gb520)) k_∧k_ ≠ go17)) (HO526.out) (fun k_ hk=>⟨⟨hk.1,⟨hk.2.2.1,hk.2.2.2⟩⟩,fun e_=>(hk.2.1) (zz41)⟩))).2.1 (Kd.V_F (Kd.V_mono (ok':=(fun k_=>((fun k_=>(w.heap.size≤k_)∧k_ ≠ gb519∧k_ ≠ gb520)) k_∧k_ ≠ go17)) (HO526.out) (fun k_ hk=>⟨⟨hk.1,⟨hk.2.2.1,hk.2.2.2⟩⟩,fun e_=>(hk.2.1) (zz41)⟩)))) (fun _ hk=>hk);have hx19_0:=hcc19 0 _ rfl;(try simp only [show ((Kd.slice 65 (Kd.int .u32))).sz = 1 from rfl,Nat.mul_one,Nat.add_zero] at hx19_0);have hf19_0:=hfr19 0;(try simp only [show ((Kd.slice 65 (Kd.int .u32))).sz = 1 from rfl,Nat.mul_one,Nat.add_zero] at hf19_0);clear hcl19 hcc19 hfr19 hM19;(try simp only [show ((Kd.slice 65 (Kd.int .u32))).sz = 1 from rfl,Nat.mul_one,Nat.add_zero] at HP19);(try simp only [show ((Kd.slice 65 (Kd.int .u32))).sz = 1 from rfl,Nat.mul_one,Nat.add_zero] at HP19))|((with_reducible refine gate_store (t:=32) (p:=31) rfl ?_);refine store_event (t:=32) (p:=31) (v:=?vo_w20) (w1:=(w18.setCell ⟨go17,(x25_1:Int).toNat,none⟩ (.slice Ao21 t524.length co21))) ?hg ?ho ?hn ?hr ?_;(case ho=>rfl);(case hg=>rfl);(case hn=>rfl);(case hr=>exact zz109);intro w20 hw;have hg:w18.grownBy w20 (some go17):=(by rw [hw];exact HP19.2);have hp_:Kd.N (Kd.slice 65 (Kd.int .u32)) 32 w20 w.heap.size (fun k_=>(w.heap.size≤k_)∧k_ ≠ gb519∧k_ ≠ gb520) (.slice (some ⟨go17,0,none⟩) x11_1.length co12) y527:=(by rw [hw,Ny527.out];exact HP19.1);clear HP19;replace BK519:=Aside0.mk (blk_grown (g:=gb519) (o:=.cells #[.slice A0_0 l0_0.length c0_0,.slice A0_1 l0_1.length c0_1] 24 (0,0)) (zz58) hg (Kd.N_ne HO_11.out BK519.out (zz28)));replace BK520:=Aside0.mk (blk_grown (g:=gb520) (o:=.cells #[.slice A2_0 l2_0.length c2_0,.slice A2_1 l2_1.length c2_1,.slice A2_2 l2_2.length c2_2] 36 (0,0)) (zz60) hg (Kd.N_ne HO_11.out BK520.out (zz28)));replace HO_11:=Aside0.mk (hp_);replace HO526:=Aside0.mk (Kd.V_afterv (v:=(.slice (some ⟨go17,0,none⟩) x11_1.length co12)) (v1:=(.slice (some ⟨go17,0,none⟩) x11_1.length co12)) (ok:=(fun k_=>(w.heap.size≤k_)∧k_ ≠ gb519∧k_ ≠ gb520)) (have h0_:=HO526;zz62) hg (.inl rfl));replace HB:=Aside0.mk ((by rw [hw];exact below_set (HB.out) GB17.out:Below w.heap.size w w20));clear hg hw hp_))
    (try simp only [← hl11_1])
    go_roundg k1
    case measure=>have:=HK1.out;omega
    case rel=>exact ⟨(y527),(wrap64 (x25_1+1)),(zz2),H',⟨zz12⟩,⟨by (try simp only [hl11_1]);(with_reducible repeat (first|apply Kd.N_alloc|apply Kd.N_drewN|apply Kd.N_drew));exact HO_11.out⟩,⟨(have h0_:=BK519;zz63)⟩,⟨(have h0_:=BK520;zz63)⟩,⟨zz59⟩⟩
   ·have c13b0:=decide_eq_false c13;clear c13
    (try (have c13b0h_:=c13b0;simp only [hl11_1] at c13b0h_))
    (try (have c13b1h_:=c13b1;simp only [hl11_1] at c13b1h_))
    (try (have c13b2h_:=c13b2;simp only [hl11_1] at c13b2h_))
    have H':=Aside0.mk H;clear H;have hnb22:=NB520_519.out;have hnc22:=NB519_520.out;obtain ⟨hcz23_0,hcz23_1,hcz23_2,hfz23_0,hfz23_1,hfz23_2⟩:=zc3 BK520.out
    go_wp2
    go_loopg [36] k1 (fun kq v36 w'=>∃ (x11_2:List (List Int)) (x36_2:Int),v36 = .int .i64 x36_2∧Aside0 (U5.l1 kq l1 a3 l4 x11_2 l2_2 (l2_2.length:Int) x36_2 l0_0 l0_1 = some r)∧Aside0 (kq≤k1)∧Aside0 (Kd.N (Kd.slice 65 (Kd.int .u32)) 32 w' w.heap.size (fun k_=>(w.heap.size≤k_)∧k_ ≠ gb519∧k_ ≠ gb520) (.slice Ao12 x11_1.length co12) x11_2)∧Aside0 (w'.heap[gb519]? = some (.cells #[(.slice A0_0 l0_0.length c0_0),(.slice A0_1 l0_1.length c0_1)] 24 (0,0)))∧Aside0 (w'.heap[gb520]? = some (.cells #[(.slice A2_0 l2_0.length c2_0),(.slice A2_1 l2_1.length c2_1),(.slice A2_2 l2_2.length c2_2)] 36 (0,0)))∧Aside0 (Below w.heap.size w w'))
    case atStart=>exact ⟨(x11_1),(0),(zz2),H',⟨Nat.le_refl _⟩,⟨by (try simp only [hl11_1]);(with_reducible repeat (first|apply Kd.N_alloc|apply Kd.N_drewN|apply Kd.N_drew));exact HO_11.out⟩,⟨(have h0_:=BK519;zz63)⟩,⟨(have h0_:=BK520;zz63)⟩,⟨zz59⟩⟩
    case round =>
     clear H'
     (try clear c13b0);(try clear c13b1);(try clear c13b2);(try clear hcz23_0);(try clear hcz23_1);(try clear hcz23_2);(try clear hfz23_0);(try clear hfz23_1);(try clear hfz23_2)
     obtain ⟨x11_2,x36_2,rfl,HA,HK2,HO_11,BK519,BK520,HB⟩:=hrel;have hl11_2:=(Kd.N_reads' HO_11.out).1;rw [hl11_2] at HO_11
     (try simp only [hl11_2])
     (try simp only [hl11_2] at BK519)
     (try simp only [hl11_2] at BK520)
     cases gk with
     | zero=>exact absurd HA.out (by simp [U5.l1])
     | succ k2 =>
      have H:=HA.out;clear HA;simp only [U5.l1] at H;replace H:=zzj H;rcases H with ⟨c24,H⟩|⟨c24,H⟩
      ·have c24b0:=decide_eq_true c24;clear c24
       (try (have c24b0h_:=c24b0;simp only [hl11_1,hl11_2] at c24b0h_))
       (try (have c24b1h_:=c24b1;simp only [hl11_1,hl11_2] at c24b1h_))
       (try (have c24b2h_:=c24b2;simp only [hl11_1,hl11_2] at c24b2h_))
       replace H:=zzi H;obtain ⟨c25,H⟩:=H;have c25b0:=decide_eq_true c25;clear c25;replace H:=zzi H;obtain ⟨c26,H⟩:=H;have c26b0:=decide_eq_true c26;clear c26
       (try (have c26b0h_:=c26b0;simp only [hl11_1,hl11_2] at c26b0h_))
       (try (have c26b1h_:=c26b1;simp only [hl11_1,hl11_2] at c26b1h_))
       (try (have c26b2h_:=c26b2;simp only [hl11_1,hl11_2] at c26b2h_))
       replace H:=zzb H;obtain ⟨t529,A27,H⟩:=H;have H':=Aside0.mk H;clear H;have p528:0≤(x36_2:Int):=of_decide_eq_true (zz11);have q528:x36_2 < (l2_2.length:Int):=of_decide_eq_true (zz11);obtain ⟨ad528,A528_0,c528_0,e528,hx528_0,hl528_0,hi528_0⟩:=at_L1 HR2_2.out x36_2 p528 q528
       cases e528
       replace hx528_0:=(HB.out.cell (World.block_lt_of_cell? w _ hx528_0)).trans hx528_0;have HR528_0:=Aside0.mk hi528_0;have HC528_0:=Aside0.mk hl528_0;clear hi528_0 hl528_0;replace p528:=eq_true p528;replace q528:=eq_true q528;have hnb28:=NB519_520.out;have hnc28:=NB520_519.out;obtain ⟨hcz29_0,hcz29_1,hfz29_0,hfz29_1⟩:=zc2 BK519.out
       go_wp2_with (first|((with_reducible refine gate_callee (f:=31) rfl ?_);refine goesL_ (some 44) rfl rfl Try.func31 (zz0) rfl #[.agg #[.slice A0_0 l0_0.length c0_0,.slice A0_1 l0_1.length c0_1],.slice A1 l1.length c1,.slice A528_0 (rd_L1 l2_2 x36_2).length c528_0,.int .i64 a3] rfl (zz19) ?_;(with_reducible refine (U6.calls k2 _ _ l0_0 _ _ l0_1 _ _ l1 _ _ (rd_L1 l2_2 x36_2) a3 t529 _ ?_ ?_ ?_ ?_ ?_ ?_ ?_ ?_ A27.out).mono ?_);exact zz111;exact zz112;exact zz113;exact zz114;(exact (have h0_:=HR1;zz110));exact HC1.out;(exact (have h0_:=HR528_0;zz110));exact HC528_0.out;rintro e w30 ⟨v530,rfl,ho0,hb⟩;refine ⟨_,rfl,?_⟩;have HO531:=Aside0.mk (Kd.N_lower (Kd.N_mono (ok':=fun k_=>(w.heap.size≤k_)∧some k_ ≠ (.slice Ao12 x11_2.length co12:Value).ownBlock∧k_ ≠ gb519∧k_ ≠ gb520) ho0 (fun k_ hk_=>⟨(Nat.le_trans (below_size (zz59)) hk_),(Kd.fresh' (Kd.N_lt (zz61)) k_ hk_),(Kd.freshB (g:=gb519) (o:=.cells #[.slice A0_0 l0_0.length c0_0,.slice A0_1 l0_1.length c0_1] 24 (0,0)) (zz58) k_ hk_),(Kd.freshB (g:=gb520) (o:=.cells #[.slice A2_0 l2_0.length c2_0,.slice A2_1 l2_1.length c2_1,.slice (some ad528) l2_2.length c2_2] 36 (0,0)) (zz60) k_ hk_)⟩)) (below_size (zz59)));replace HO_11:=Aside0.mk (Kd.N_elder' (zz61) (Kd.N_base ho0) hb);replace BK519:=Aside0.mk (blk_below (zz58) hb);replace BK520:=Aside0.mk (blk_below (zz60) hb);replace HB:=Aside0.mk (below_step (zz59) hb);(try clear hb);(try clear ho0)))
       go_loopg [47] k2 (fun kq v47 w'=>∃ (x11_3:List (List Int)) (x47_3:Int),v47 = .int .i64 x47_3∧Aside0 (U5.l2 kq l1 a3 l4 x11_3 (rd_L1 l2_2 x36_2) t529 l2_2 (l2_2.length:Int) x36_2 l4 (l4.length:Int) x47_3 l0_0 l0_1 = some r)∧Aside0 (kq≤k2)∧Aside0 (Kd.N (Kd.slice 65 (Kd.int .u32)) 32 w' w.heap.size (fun k_=>(w.heap.size≤k_)∧some k_ ≠ (v530:Value).ownBlock∧k_ ≠ gb519∧k_ ≠ gb520) (.slice Ao12 x11_2.length co12) x11_3)∧Aside0 (Kd.N (Kd.slice 65 (Kd.int .u32)) 32 w' w.heap.size (fun k_=>(w.heap.size≤k_)∧some k_ ≠ ((.slice Ao12 x11_2.length co12):Value).ownBlock∧k_ ≠ gb519∧k_ ≠ gb520) v530 t529)∧Aside0 (w'.heap[gb519]? = some (.cells #[(.slice A0_0 l0_0.length c0_0),(.slice A0_1 l0_1.length c0_1)] 24 (0,0)))∧Aside0 (w'.heap[gb520]? = some (.cells #[(.slice A2_0 l2_0.length c2_0),(.slice A2_1 l2_1.length c2_1),(.slice (some ad528) l2_2.length c2_2)] 36 (0,0)))∧Aside0 (Below w.heap.size w w'))
       case atStart=>exact ⟨(x11_2),(0),(zz2),H',⟨Nat.le_refl _⟩,⟨by (try simp only [hl11_1]);(try simp only [hl11_2]);(with_reducible repeat (first|apply Kd.N_alloc|apply Kd.N_drewN|apply Kd.N_drew));exact Kd.N_mono HO_11.out (fun _ hk=>⟨hk.1.1,⟨hk.2,⟨hk.1.2.1,hk.1.2.2⟩⟩⟩)⟩,⟨by (try simp only [hl11_1]);(try simp only [hl11_2]);(with_reducible repeat (first|apply Kd.N_alloc|apply Kd.N_drewN|apply Kd.N_drew));exact HO531.out⟩,⟨(have h0_:=BK519;zz64)⟩,⟨(have h0_:=BK520;zz64)⟩,⟨zz59⟩⟩
       case round =>
        clear H'
        (try clear hx1);(try clear hx17);(try clear hf17);(try clear hx19);(try clear hf19);(try clear c24b0);(try clear c24b1);(try clear c24b2);clear c25b0 p528 q528;(try clear c26b0);(try clear c26b1);(try clear c26b2);(try clear hcz23_0);(try clear hcz23_1);(try clear hcz23_2);(try clear hcz29_0);(try clear hcz29_1);(try clear hfz23_0);(try clear hfz23_1);(try clear hfz23_2);(try clear hfz29_0);(try clear hfz29_1);(try clear hx17_0);(try clear hx19_0);(try clear hx528_0)
        obtain ⟨x11_3,x47_3,rfl,HA,HK3,HO_11,HO_15,BK519,BK520,HB⟩:=hrel;have hl11_3:=(Kd.N_reads' HO_11.out).1;rw [hl11_3] at HO_11
        (try simp only [hl11_3])
        (try simp only [hl11_3] at BK519)
        (try simp only [hl11_3] at BK520)
        (try simp only [hl11_3] at HO_15)
        cases gk with
        | zero=>exact absurd HA.out (by simp [U5.l2])
        | succ k3 =>
         have H:=HA.out;clear HA;simp only [U5.l2] at H;replace H:=zzj H;rcases H with ⟨c31,H⟩|⟨c31,H⟩
         ·have c31b0:=decide_eq_true c31;clear c31
          (try (have c31b0h_:=c31b0;simp only [hl11_1,hl11_2,hl11_3] at c31b0h_))
          (try (have c31b1h_:=c31b1;simp only [hl11_1,hl11_2,hl11_3] at c31b1h_))
          (try (have c31b2h_:=c31b2;simp only [hl11_1,hl11_2,hl11_3] at c31b2h_))
          replace H:=zzi H;obtain ⟨c32,H⟩:=H;have c32b0:=decide_eq_true c32;clear c32;replace H:=zzi H;obtain ⟨c33,H⟩:=H;have c33b0:=decide_eq_true c33;clear c33
          (try (have c33b0h_:=c33b0;simp only [hl11_1,hl11_2,hl11_3] at c33b0h_))
          (try (have c33b1h_:=c33b1;simp only [hl11_1,hl11_2,hl11_3] at c33b1h_))
          (try (have c33b2h_:=c33b2;simp only [hl11_1,hl11_2,hl11_3] at c33b2h_))
          replace H:=zzi H;obtain ⟨c34,H⟩:=H;have c34b0:=decide_eq_true c34;clear c34;replace H:=zzi H;obtain ⟨c35,H⟩:=H;have c35b0:=decide_eq_true c35;clear c35
          (try (have c35b0h_:=c35b0;simp only [hl11_1,hl11_2,hl11_3] at c35b0h_))
          (try (have c35b1h_:=c35b1;simp only [hl11_1,hl11_2,hl11_3] at c35b1h_))
          (try (have c35b2h_:=c35b2;simp only [hl11_1,hl11_2,hl11_3] at c35b2h_))
          replace H:=Option.bind_eq_some_iff.mp H;obtain ⟨⟨t535,t538⟩,A360,H⟩:=H;have A36:=Aside0.mk A360;clear A360;replace H:=zzi H;obtain ⟨c37,H⟩:=H;have c37b0:=decide_eq_true c37;clear c37
          (try (have c37b0h_:=c37b0;simp only [hl11_1,hl11_2,hl11_3] at c37b0h_))
          (try (have c37b1h_:=c37b1;simp only [hl11_1,hl11_2,hl11_3] at c37b1h_))
          (try (have c37b2h_:=c37b2;simp only [hl11_1,hl11_2,hl11_3] at c37b2h_))
          replace H:=zzb H;obtain ⟨t540,A38,H⟩:=H;replace H:=zzb H;obtain ⟨t543,A39,H⟩:=H;obtain ⟨y546,hy546⟩:∃ y_:List (List Int),y_ = (x11_3.set (x47_3:Int).toNat t543):=⟨_,rfl⟩;replace H:(U5.l2 k3 l1 a3 l4 y546 (rd_L1 l2_2 x36_2) t529 l2_2 (l2_2.length:Int) x36_2 l4 (l4.length:Int) (wrap64 (x47_3+1)) l0_0 l0_1) = some r:=(have h0_:=hy546;zz24);have Ny546:=Aside0.mk hy546;clear hy546;have H':=Aside0.mk H;clear H;have p532:0≤(x47_3:Int):=of_decide_eq_true (zz11);have q532:x47_3 < (l4.length:Int):=of_decide_eq_true (zz11);obtain ⟨ad532,A532_0,c532_0,e532,hx532_0,hl532_0,hi532_0⟩:=at_T56 HR4.out x47_3 p532 q532
          cases e532
          replace hx532_0:=(HB.out.cell (World.block_lt_of_cell? w _ hx532_0)).trans hx532_0;have HR532_0:=Aside0.mk hi532_0;have HC532_0:=Aside0.mk hl532_0;clear hi532_0 hl532_0;replace p532:=eq_true p532;replace q532:=eq_true q532
          try go_wp2_with (first|((with_reducible refine gate_dst (N:=17) rfl ?_);refine box_event ?hg (N:=17) ?hd (cs:=#[.slice none 0 0]) (t:=56) ?hr ?_;(case hd=>rfl);(case hg=>rfl);(case hr=>exact zz109);intro gb533 hg w41 hbox hb;replace HO_11:=Aside0.mk (Kd.N_below (Kd.N_elderB (zz61) gb533 (Nat.le_of_eq hg.symm)) hb);replace HO_15:=Aside0.mk (Kd.N_below (Kd.N_elderB (have h0_:=HO_15;zz27) gb533 (Nat.le_of_eq hg.symm)) hb);have BK533:=Aside0.mk (hbox);have GW533:=Aside0.mk ((by rw [hg];exact (below_size (zz59)):w.heap.size≤gb533));have GE533:=Aside0.mk ((by rw [hg];exact (below_size (zz59)):w.heap.size≤gb533));replace HB:=Aside0.mk (below_step (zz59) hb);have NB519_533:=Aside0.mk ((by rw [hg];exact Nat.ne_of_lt (blk_lt (g:=gb519) (o:=.cells #[.slice A0_0 l0_0.length c0_0,.slice A0_1 l0_1.length c0_1] 24 (0,0)) (zz58)):gb519 ≠ gb533));have NB533_519:=Aside0.mk ((by rw [hg];exact Nat.ne_of_gt (blk_lt (g:=gb519) (o:=.cells #[.slice A0_0 l0_0.length c0_0,.slice A0_1 l0_1.length c0_1] 24 (0,0)) (zz58)):gb533 ≠ gb519));replace BK519:=Aside0.mk (blk_below (zz58) hb);have NB520_533:=Aside0.mk ((by rw [hg];exact Nat.ne_of_lt (blk_lt (g:=gb520) (o:=.cells #[.slice A2_0 l2_0.length c2_0,.slice A2_1 l2_1.length c2_1,.slice (some ad528) l2_2.length c2_2] 36 (0,0)) (zz60)):gb520 ≠ gb533));have NB533_520:=Aside0.mk ((by rw [hg];exact Nat.ne_of_gt (blk_lt (g:=gb520) (o:=.cells #[.slice A2_0 l2_0.length c2_0,.slice A2_1 l2_1.length c2_1,.slice (some ad528) l2_2.length c2_2] 36 (0,0)) (zz60)):gb533 ≠ gb520));replace BK520:=Aside0.mk (blk_below (zz60) hb);clear hb hbox hg;have hnb42:=NB533_519.out;have hnc42:=NB519_533.out;have hnb43:=NB533_520.out;have hnc43:=NB520_533.out;obtain ⟨hcz44_0,hfz44_0⟩:=zc1 BK533.out))
          have n0_:Aside0 (Kd.N (Kd.slice 65 (Kd.int .u32)) 32 (w41.setCell ⟨gb533,0,none⟩ (.slice A532_0 ((rd_T56 l4 x47_3).f0).length c532_0)) w.heap.size (fun k_=>(w.heap.size≤k_)∧some k_ ≠ (v530:Value).ownBlock∧k_ ≠ gb519∧k_ ≠ gb520∧k_ ≠ gb533) (.slice Ao12 x11_3.length co12) x11_3):=⟨(have h0_:=HO_11;zz65)⟩;have n1_:Aside0 (Kd.N (Kd.slice 65 (Kd.int .u32)) 32 (w41.setCell ⟨gb533,0,none⟩ (.slice A532_0 ((rd_T56 l4 x47_3).f0).length c532_0)) w.heap.size (fun k_=>(w.heap.size≤k_)∧some k_ ≠ (.slice Ao12 x11_3.length co12:Value).ownBlock∧k_ ≠ gb519∧k_ ≠ gb520∧k_ ≠ gb533) v530 t529):=⟨(have h0_:=HO_15;zz65)⟩;have n2_:Aside0 ((w41.setCell ⟨gb533,0,none⟩ (.slice A532_0 ((rd_T56 l4 x47_3).f0).length c532_0)).heap[gb519]? = some (.cells #[.slice A0_0 l0_0.length c0_0,.slice A0_1 l0_1.length c0_1] 24 (0,0))):=⟨by (with_reducible repeat (first|refine blk_drewN ?_ _|refine blk_drew ?_|refine blk_alloc ?_ _));refine blk_far ?_ NB519_533.out _;(with_reducible repeat (first|refine blk_drewN ?_ _|refine blk_drew ?_|refine blk_alloc ?_ _));exact BK519.out⟩;have n3_:Aside0 ((w41.setCell ⟨gb533,0,none⟩ (.slice A532_0 ((rd_T56 l4 x47_3).f0).length c532_0)).heap[gb520]? = some (.cells #[.slice A2_0 l2_0.length c2_0,.slice A2_1 l2_1.length c2_1,.slice (some ad528) l2_2.length c2_2] 36 (0,0))):=⟨by (with_reducible repeat (first|refine blk_drewN ?_ _|refine blk_drew ?_|refine blk_alloc ?_ _));refine blk_far ?_ NB520_533.out _;(with_reducible repeat (first|refine blk_drewN ?_ _|refine blk_drew ?_|refine blk_alloc ?_ _));exact BK520.out⟩;have n4_:Aside0 ((w41.setCell ⟨gb533,0,none⟩ (.slice A532_0 ((rd_T56 l4 x47_3).f0).length c532_0)).heap[gb533]? = some (.cells #[.slice A532_0 ((rd_T56 l4 x47_3).f0).length c532_0] 56 (0,0))):=⟨(have h0_:=BK533;zz22)⟩;have n5_:Aside0 (Below w.heap.size w (w41.setCell ⟨gb533,0,none⟩ (.slice A532_0 ((rd_T56 l4 x47_3).f0).length c532_0))):=⟨zz66⟩
          (try (have hcs_:((w41.setCell ⟨gb533,0,none⟩ (.slice A532_0 ((rd_T56 l4 x47_3).f0).length c532_0))).cell? ⟨gb533,0,none⟩ = some (.slice A532_0 ((rd_T56 l4 x47_3).f0).length c532_0):=World.cell?_setCell_same _ _ _ (by assumption)))
          (try clear HO_11)
          (try clear HO_15)
          (try clear BK519)
          (try clear BK520)
          (try clear BK533)
          (try clear HB)
          first|generalize (w41.setCell ⟨gb533,0,none⟩ (.slice A532_0 ((rd_T56 l4 x47_3).f0).length c532_0)) = w45 at n0_ n1_ n2_ n3_ n4_ n5_ hcs_ ⊢|generalize (w41.setCell ⟨gb533,0,none⟩ (.slice A532_0 ((rd_T56 l4 x47_3).f0).length c532_0)) = w45 at n0_ n1_ n2_ n3_ n4_ n5_ ⊢
          have HO_11:=n0_;have HO_15:=n1_;have BK519:=n2_;have BK520:=n3_;have BK533:=n4_;have HB:=n5_;clear n0_ n1_ n2_ n3_ n4_ n5_;replace HO_11:=Aside0.mk (Kd.N_drew HO_11.out);replace HO_15:=Aside0.mk (Kd.N_drew HO_15.out);replace BK519:=Aside0.mk (blk_drew BK519.out);replace BK520:=Aside0.mk (blk_drew BK520.out);replace BK533:=Aside0.mk (blk_drew BK533.out);replace HB:=Aside0.mk (below_drew1 HB.out);have p534:0≤(a3:Int):=of_decide_eq_true (zz11);have q534:a3 < ((rd_L1 l2_2 x36_2).length:Int):=of_decide_eq_true (zz11);obtain ⟨ad534,e534,hx534_0⟩:=Kd.at_int HR528_0.out a3 p534 q534;have hw534_0:=hx534_0
          cases e534
          replace hx534_0:=(HB.out.cell (World.block_lt_of_cell? w _ hx534_0)).trans hx534_0;replace p534:=eq_true p534;replace q534:=eq_true q534;obtain ⟨Ao47,co47,eo47⟩:=Kd.N_slice HO_15.out
          (first|subst eo47|(injection eo47 with f1_ f2_ f3_;have f4_:=f1_.symm;have f5_:=f3_.symm;clear f1_ f2_ f3_;subst f4_;subst f5_))
          refine start_ (n:=12) (S:=fun w'=>w'.cell? ⟨gb533,0,none⟩ = some (.slice A532_0 ((rd_T56 l4 x47_3).f0).length c532_0)∧w'.cell? (ad534.add (a3).toNat) = some (.int .i64 (rd (rd_L1 l2_2 x36_2) a3))) (ds:=[]) #[false,false,false,false,false,false,false,false,false,false,false,false] (zz0) rfl rfl ⟨(blk_cell BK533.out 0).trans rfl,((HB.out.cell (World.block_lt_of_cell? w _ hw534_0)).trans hw534_0)⟩ (fun hHeld=>?_);refine with_tabW U5.tab14 U5.bits14 (fun HT_ HW_=>?_)
          generalize w45.drew = w46 at HO_11 HO_15 BK519 BK520 BK533 HB hx534_0 hHeld ⊢
          refine zzp 0 53 ?_ #[true,false,false,false,false,false,false,false,false,false,false,false] rfl rfl (any_of HT_.out (zz0)) (fun _ _ _ h=>h) (Or.inl ⟨zz20,?_⟩) ?_ ?_ ?_;rotate_left
          ·intro w'
           go_simp
           with_reducible rfl
          rotate_left
          ·simp only [zzs]
           rfl
          refine zzp 2 55 ?_ #[true,false,true,false,false,false,false,false,false,false,false,false] rfl rfl (any_of HT_.out (zz0)) (fun _ _ _ h=>h) (Or.inl ⟨zz20,?_⟩) ?_ ?_ ?_;rotate_left
          ·intro w'
           go_simp
           with_reducible rfl
          rotate_left
          ·simp only [zzs]
           rfl
          refine zzp 3 56 ?_ #[true,false,true,true,false,false,false,false,false,false,false,false] rfl rfl (any_of HT_.out (zz0)) (fun _ _ _ h=>h) (Or.inl ⟨zz20,?_⟩) ?_ ?_ ?_;rotate_left
          ·intro w'
           go_simp
           with_reducible rfl
          rotate_left
          ·simp only [zzs]
           rfl
          refine zzp 4 57 ?_ #[true,false,true,true,true,false,false,false,false,false,false,false] rfl rfl (any_of HT_.out (zz0)) (fun _ _ _ h=>h) (Or.inl ⟨zz20,?_⟩) ?_ ?_ ?_;rotate_left
          ·intro w'
           go_simp
           with_reducible rfl
          rotate_left
          ·simp only [zzs]
           rfl
          refine take_ (i:=1) (N:=some 54) (v:=?_) (a':=?_) #[true,true,true,true,true,false,false,false,false,false,false,false] rfl rfl (take_ofW HT_.out HW_.out (zz0)) (fun _ _ _ h=>h) (Or.inl ⟨zz20,?_⟩) hHeld ?_ ?_;rotate_left
          ·rintro w' ⟨s0,s1⟩
           go_simp
           with_reducible rfl
          rotate_left
          ·simp only [zzs]
           rfl
          refine take_ (i:=5) (N:=some 58) (v:=?_) (a':=?_) #[true,true,true,true,true,true,false,false,false,false,false,false] rfl rfl (take_ofW HT_.out HW_.out (zz0)) (fun _ _ _ h=>h) (Or.inl ⟨zz20,?_⟩) hHeld ?_ ?_;rotate_left
          ·rintro w' ⟨s0,s1⟩
           go_simp
           with_reducible rfl
          rotate_left
          ·simp only [zzs]
           rfl
          refine one_ (i:=6) (N:=some 59) #[true,true,true,true,true,true,true,false,false,false,false,false] rfl rfl (one_of HT_.out (zz0)) (zz28) (fun K hK=>?_);refine goes_ Try.func56 (zz0) rfl #[.slice Ao47 t529.length co47,.agg #[.slice A532_0 ((rd_T56 l4 x47_3).f0).length c532_0],.int .i64 (rd (rd_L1 l2_2 x36_2) a3)] (zz20) rfl rfl (zz19) ?_
          with_reducible refine (U54.calls k3 (fun k_=>((w.heap.size≤k_)∧(some k_ ≠ (.slice Ao12 x11_3.length co12:Value).ownBlock∧(k_ ≠ gb519∧(k_ ≠ gb520∧k_ ≠ gb533))))) _ _ t529 _ _ ((rd_T56 l4 x47_3).f0) (rd (rd_L1 l2_2 x36_2) a3) t535 t538 _ ?side1 ?side2 ?side3 A36.out).mono ?_
          (case side1=>exact Kd.N_V (HO_15.out))
          (case side2=>exact (have h0_:=HR532_0;zz110))
          (case side3=>exact HC532_0.out)
          rintro e w48 ⟨v536,rfl,ho0,hb⟩;refine ⟨_,rfl,?_⟩;replace HO_15:=Aside0.mk (Kd.N_elder' (have h0_:=HO_15;zz27) (Kd.N_base ho0) hb);have HO537:=Aside0.mk (Kd.N_lower (Kd.N_mono (ok':=fun k_=>(w.heap.size≤k_)∧some k_ ≠ (.slice Ao12 x11_3.length co12:Value).ownBlock∧k_ ≠ gb519∧k_ ≠ gb520∧k_ ≠ gb533) ho0 (fun k_ hk_=>⟨Or.elim hk_ (fun hs_=>hs_.1) (fun hn_=>(Nat.le_trans (below_size (zz66)) hn_)),Or.elim hk_ (fun hs_=>hs_.2.1) (fun hn_=>(Kd.fresh' (Kd.N_lt (zz61)) k_ hn_)),Or.elim hk_ (fun hs_=>hs_.2.2.1) (fun hn_=>(Kd.freshB (g:=gb519) (o:=.cells #[.slice A0_0 l0_0.length c0_0,.slice A0_1 l0_1.length c0_1] 24 (0,0)) (zz58) k_ hn_)),Or.elim hk_ (fun hs_=>hs_.2.2.2.1) (fun hn_=>(Kd.freshB (g:=gb520) (o:=.cells #[.slice A2_0 l2_0.length c2_0,.slice A2_1 l2_1.length c2_1,.slice (some ad528) l2_2.length c2_2] 36 (0,0)) (zz60) k_ hn_)),Or.elim hk_ (fun hs_=>hs_.2.2.2.2) (fun hn_=>(Kd.freshB (g:=gb533) (o:=.cells #[.slice A532_0 ((rd_T56 l4 x47_3).f0).length c532_0] 56 (0,0)) (have h0_:=BK533;zz9) k_ hn_))⟩)) (below_size (zz66)));replace HO_11:=Aside0.mk (Kd.N_elder' (zz61) (Kd.N_base ho0) hb);replace BK519:=Aside0.mk (blk_below (zz58) hb);replace BK520:=Aside0.mk (blk_below (zz60) hb);replace BK533:=Aside0.mk (blk_below (have h0_:=BK533;zz9) hb);replace HB:=Aside0.mk (below_step (zz66) hb)
          (try clear hb)
          (try clear hk)
          (try clear ho0)
          refine hK.out _ _ ⟨(blk_cell BK533.out 0).trans rfl,((HB.out.cell (World.block_lt_of_cell? w _ hw534_0)).trans hw534_0)⟩ (fun hHeld=>?_);clear hK K;refine norm_ (a':=?_) ?_ ?_;rotate_left
          ·show Act.put _ (some 59) _ = _
           simp only [zzs]
           rfl
          refine zzp 7 52 ?_ #[true,true,true,true,true,true,true,true,false,false,false,false] rfl rfl (any_of HT_.out (zz0)) (fun _ _ _ h=>h) (Or.inl ⟨zz20,?_⟩) ?_ ?_ ?_;rotate_left
          ·intro w'
           go_simp
           with_reducible rfl
          rotate_left
          ·simp only [zzs]
           rfl
          refine zzp 8 60 ?_ #[true,true,true,true,true,true,true,true,true,false,false,false] rfl rfl (any_of HT_.out (zz0)) (fun _ _ _ h=>h) (Or.inl ⟨zz20,?_⟩) ?_ ?_ ?_;rotate_left
          ·intro w'
           go_simp
           with_reducible rfl
          rotate_left
          ·simp only [zzs]
           rfl
          refine zzp 9 61 ?_ #[true,true,true,true,true,true,true,true,true,true,false,false] rfl rfl (any_of HT_.out (zz0)) (fun _ _ _ h=>h) (Or.inl ⟨zz20,?_⟩) ?_ ?_ ?_;rotate_left
          ·intro w'
           go_simp
           with_reducible rfl
          rotate_left
          ·simp only [zzs]
           rfl
          refine zzp 10 18 ?_ #[true,true,true,true,true,true,true,true,true,true,true,false] rfl rfl (any_of HT_.out (zz0)) (fun _ _ _ h=>h) (Or.inl ⟨zz20,?_⟩) ?_ ?_ ?_;rotate_left
          ·intro w'
           go_simp
           with_reducible rfl
          rotate_left
          ·simp only [zzs]
           rfl
          refine zzp 11 19 ?_ #[true,true,true,true,true,true,true,true,true,true,true,true] rfl rfl (any_of HT_.out (zz0)) (fun _ _ _ h=>h) (Or.inl ⟨zz20,?_⟩) ?_ ?_ ?_;rotate_left
          ·intro w'
           go_simp
           with_reducible rfl
          rotate_left
          ·simp only [zzs]
           rfl
          refine done_ (done_of HT_.out (zz0)) ?_
          try go_wp2
          replace HO_11:=Aside0.mk (Kd.N_drew HO_11.out);replace HO_15:=Aside0.mk (Kd.N_drew HO_15.out);replace HO537:=Aside0.mk (Kd.N_drew HO537.out);replace BK519:=Aside0.mk (blk_drew BK519.out);replace BK520:=Aside0.mk (blk_drew BK520.out);replace BK533:=Aside0.mk (blk_drew BK533.out);replace HB:=Aside0.mk (below_drew1 HB.out);have p539:0≤(x47_3:Int):=of_decide_eq_true (zz11);have q539:x47_3 < (x11_3.length:Int):=of_decide_eq_true (zz11);obtain ⟨ad539,A539_0,c539_0,e539,hx539_0,hl539_0,hi539_0⟩:=at_L5 (Kd.N_reads' HO_11.out).2.2 x47_3 p539 q539
          cases e539
          obtain ⟨ce539,hce539,hMe539,hcc539⟩:=Kd.N_get HO_11.out [] x47_3 p539 (by first|exact q539|exact of_decide_eq_true (zz11)|(have e_:=(Kd.N_reads' HO_11.out).1;omega));obtain ⟨ua539_0,uc539_0,rfl,ul539_0,ge539_0⟩:=Kd.FK_slice_open hMe539;have hv539_0:=hcc539 0 _ rfl;rw [Nat.add_zero,show ((Kd.slice 65 (Kd.int .u32))).sz = 1 from rfl,Nat.mul_one] at hv539_0;replace hv539_0:=Option.some.inj (hv539_0.symm.trans hx539_0)
          injection hv539_0 with hva_ hvn_ hvc_
          rw [hva_] at ge539_0;rw [hvc_] at ul539_0;have HL539_0:=Aside0.mk (show Kd.V (Kd.int .u32) 65 _ w.heap.size _ _ (rd_L5 x11_3 x47_3) from Kd.V_mk ul539_0 ge539_0);clear hva_ hvn_ hvc_ ge539_0 ul539_0;clear hcc539 hce539;have HR539_0:=Aside0.mk hi539_0;have HC539_0:=Aside0.mk hl539_0;clear hi539_0 hl539_0;replace p539:=eq_true p539;replace q539:=eq_true q539;obtain ⟨Ao50,co50,eo50⟩:=Kd.N_slice HO537.out
          (first|subst eo50|(injection eo50 with f1_ f2_ f3_;have f4_:=f1_.symm;have f5_:=f3_.symm;clear f1_ f2_ f3_;subst f4_;subst f5_))
          refine start_ (n:=11) (S:=fun w'=>w'.cell? (ad539.add (x47_3).toNat) = some (.slice A539_0 (rd_L5 x11_3 x47_3).length c539_0)) (ds:=[10]) #[false,false,false,false,false,false,false,false,false,false,false] (zz0) rfl rfl (hx539_0) (fun hHeld=>?_);refine with_tabW U5.tab15 U5.bits15 (fun HT_ HW_=>?_)
          generalize w48.drew = w49 at HO_11 HO_15 HO537 BK519 BK520 BK533 HB HL539_0 HR539_0 hx539_0 hHeld ⊢
          refine zzp 0 62 ?_ #[true,false,false,false,false,false,false,false,false,false,false] rfl rfl (any_of HT_.out (zz0)) (fun _ _ _ h=>h) (Or.inl ⟨zz20,?_⟩) ?_ ?_ ?_;rotate_left
          ·intro w'
           go_simp
           with_reducible rfl
          rotate_left
          ·simp only [zzs]
           rfl
          refine zzp 1 63 ?_ #[true,true,false,false,false,false,false,false,false,false,false] rfl rfl (any_of HT_.out (zz0)) (fun _ _ _ h=>h) (Or.inl ⟨zz20,?_⟩) ?_ ?_ ?_;rotate_left
          ·intro w'
           go_simp
           with_reducible rfl
          rotate_left
          ·simp only [zzs]
           rfl
          refine zzp 2 64 ?_ #[true,true,true,false,false,false,false,false,false,false,false] rfl rfl (any_of HT_.out (zz0)) (fun _ _ _ h=>h) (Or.inl ⟨zz20,?_⟩) ?_ ?_ ?_;rotate_left
          ·intro w'
           go_simp
           with_reducible rfl
          rotate_left
          ·simp only [zzs]
           rfl
          refine zzp 3 65 ?_ #[true,true,true,true,false,false,false,false,false,false,false] rfl rfl (any_of HT_.out (zz0)) (fun _ _ _ h=>h) (Or.inl ⟨zz20,?_⟩) ?_ ?_ ?_;rotate_left
          ·intro w'
           go_simp
           with_reducible rfl
          rotate_left
          ·simp only [zzs]
           rfl
          refine zzp 4 66 ?_ #[true,true,true,true,true,false,false,false,false,false,false] rfl rfl (any_of HT_.out (zz0)) (fun _ _ _ h=>h) (Or.inl ⟨zz20,?_⟩) ?_ ?_ ?_;rotate_left
          ·intro w'
           go_simp
           with_reducible rfl
          rotate_left
          ·simp only [zzs]
           rfl
          refine zzp 6 68 ?_ #[true,true,true,true,true,false,true,false,false,false,false] rfl rfl (any_of HT_.out (zz0)) (fun _ _ _ h=>h) (Or.inl ⟨zz20,?_⟩) ?_ ?_ ?_;rotate_left
          ·intro w'
           go_simp
           with_reducible rfl
          rotate_left
          ·simp only [zzs]
           rfl
          refine take_ (i:=5) (N:=some 67) (v:=?_) (a':=?_) #[true,true,true,true,true,true,true,false,false,false,false] rfl rfl (take_ofW HT_.out HW_.out (zz0)) (fun _ _ _ h=>h) (Or.inl ⟨zz20,?_⟩) hHeld ?_ ?_;rotate_left
          ·intro w' s0
           go_simp
           with_reducible rfl
          rotate_left
          ·simp only [zzs]
           rfl
          refine one_ (i:=7) (N:=some 69) #[true,true,true,true,true,true,true,true,false,false,false] rfl rfl (one_of HT_.out (zz0)) (zz28) (fun K hK=>?_);refine goes_ Try.func40 (zz0) rfl #[.slice Ao50 t535.length co50] (zz20) rfl rfl (zz19) ?_
          with_reducible refine (U7.calls k3 _ _ t535 t540 _ ?side1 ?side2 A38.out).mono ?_
          (case side1=>exact (have h0_:=HO537;zz130))
          (case side2=>exact (have h0_:=HO537;zz131))
          rintro e w51 ⟨v541,rfl,ho0,hb⟩;have HS0_:=(hb.cell (World.block_lt_of_cell? _ _ (hHeld))).trans (hHeld);refine ⟨_,rfl,?_⟩;replace HO_11:=Aside0.mk (Kd.N_elder' (zz61) (Kd.R_base ho0) hb);replace HO_15:=Aside0.mk (Kd.N_elder' (have h0_:=HO_15;zz27) (Kd.R_base ho0) hb);replace HO537:=Aside0.mk (Kd.N_elder' (have h0_:=HO537;zz27) (Kd.R_base ho0) hb);replace HL539_0:=Aside0.mk (Kd.V_elder' (have h0_:=HL539_0;zz23) (Kd.R_base ho0) hb);have HO542:=Aside0.mk (Kd.R_lower (Kd.R_newM (M:=fun k_=>(w.heap.size≤k_)) ho0 (below_size (zz66)) (fun k_ h_=>h_)) (below_size (zz66)));replace BK519:=Aside0.mk (blk_below (zz58) hb);replace BK520:=Aside0.mk (blk_below (zz60) hb);replace BK533:=Aside0.mk (blk_below (have h0_:=BK533;zz9) hb);replace HR539_0:=Aside0.mk (Kd.C_below (have h0_:=HR539_0;zz38) hb);replace HB:=Aside0.mk (below_step (zz66) hb)
          (try clear hb)
          (try clear hb2)
          (try clear hk)
          (try clear hi)
          (try clear ho0)
          obtain ⟨Ao52,co52,eo52⟩:=Kd.R_slice HO542.out
          (first|subst eo52|(injection eo52 with f1_ f2_ f3_;have f4_:=f1_.symm;have f5_:=f3_.symm;clear f1_ f2_ f3_;subst f4_;subst f5_))
          refine hK.out _ _ (HS0_) (fun hHeld=>?_);clear hK K;refine norm_ (a':=?_) ?_ ?_;rotate_left
          ·show Act.put _ (some 69) _ = _
           simp only [zzs]
           rfl
          refine one_ (i:=8) (N:=some 70) #[true,true,true,true,true,true,true,true,true,false,false] rfl rfl (one_of HT_.out (zz0)) (zz28) (fun K hK=>?_);refine goes_ Try.func39 (zz0) rfl #[.slice A539_0 (rd_L5 x11_3 x47_3).length c539_0,.slice Ao52 t540.length co52] (zz20) rfl rfl (zz19) ?_
          with_reducible refine (U50.calls k3 (fun k_=>(((((w.heap.size≤k_)∧(some k_ ≠ (.slice Ao47 t529.length co47:Value).ownBlock∧(k_ ≠ gb519∧(k_ ≠ gb520∧k_ ≠ gb533))))∧some k_ ≠ (.slice Ao50 t535.length co50:Value).ownBlock)∧some k_ ≠ (.slice (some ad539) x11_3.length co12:Value).ownBlock)∧some k_ ≠ (.slice Ao52 t540.length co52:Value).ownBlock)) _ _ (rd_L5 x11_3 x47_3) (fun k_=>some k_ = (.slice Ao52 t540.length co52:Value).ownBlock) _ _ t540 t543 _ ?side1 ?side2 A39.out).mono ?_
          (case side1=>exact HL539_0.out)
          (case side2=>exact Kd.R_V (Kd.R_tight rfl (Kd.R_types (Kd.R_types (Kd.R_types (Kd.R_apart' (Kd.R_apart' (Kd.R_apart' (HO542.out) (Kd.N_typed HO_11.out) (zz28)) (Kd.N_typed HO_15.out) (zz28)) (Kd.N_typed HO537.out) (zz28)) BK519.out (zz28)) BK520.out (zz28)) BK533.out (zz28))))
          rintro e w53 ⟨v544,rfl,ho0,hb⟩;have HS0_:=(hb.cell (World.block_lt_of_cell? _ _ (hHeld))).trans (hHeld);refine ⟨_,rfl,?_⟩;replace HL539_0:=Aside0.mk (Kd.V_below (have h0_:=HL539_0;zz23) hb);have HO545:=Aside0.mk (Kd.V_lower (Kd.V_mono (ok':=fun k_=>(w.heap.size≤k_)∧some k_ ≠ (.slice (some ad539) x11_3.length co12:Value).ownBlock∧some k_ ≠ (.slice Ao47 t529.length co47:Value).ownBlock∧some k_ ≠ (.slice Ao50 t535.length co50:Value).ownBlock∧k_ ≠ gb519∧k_ ≠ gb520∧k_ ≠ gb533) ho0 (fun k_ hk_=>⟨Or.elim hk_ (fun hs_=>Or.elim hs_ (fun hs_=>hs_.1.1.1.1) (fun hs_=>((Kd.R_types (Kd.R_types (Kd.R_types (Kd.R_apart' (Kd.R_apart' (Kd.R_apart' (HO542.out) (Kd.N_typed HO_11.out) (zz28)) (Kd.N_typed HO_15.out) (zz28)) (Kd.N_typed HO537.out) (zz28)) BK519.out (zz28)) BK520.out (zz28)) BK533.out (zz28)).1 k_ hs_.symm).1.1.1.1.1.1.1)) (fun hn_=>(Nat.le_trans (below_size (zz66)) hn_)),Or.elim hk_ (fun hs_=>Or.elim hs_ (fun hs_=>hs_.1.2) (fun hs_=>((Kd.R_types (Kd.R_types (Kd.R_types (Kd.R_apart' (Kd.R_apart' (Kd.R_apart' (HO542.out) (Kd.N_typed HO_11.out) (zz28)) (Kd.N_typed HO_15.out) (zz28)) (Kd.N_typed HO537.out) (zz28)) BK519.out (zz28)) BK520.out (zz28)) BK533.out (zz28)).1 k_ hs_.symm).1.1.1.1.1.2)) (fun hn_=>(Kd.fresh' (Kd.N_lt (zz61)) k_ hn_)),Or.elim hk_ (fun hs_=>Or.elim hs_ (fun hs_=>hs_.1.1.1.2.1) (fun hs_=>((Kd.R_types (Kd.R_types (Kd.R_types (Kd.R_apart' (Kd.R_apart' (Kd.R_apart' (HO542.out) (Kd.N_typed HO_11.out) (zz28)) (Kd.N_typed HO_15.out) (zz28)) (Kd.N_typed HO537.out) (zz28)) BK519.out (zz28)) BK520.out (zz28)) BK533.out (zz28)).1 k_ hs_.symm).1.1.1.1.2)) (fun hn_=>(Kd.fresh' (Kd.N_lt (have h0_:=HO_15;zz27)) k_ hn_)),Or.elim hk_ (fun hs_=>Or.elim hs_ (fun hs_=>hs_.1.1.2) (fun hs_=>((Kd.R_types (Kd.R_types (Kd.R_types (Kd.R_apart' (Kd.R_apart' (Kd.R_apart' (HO542.out) (Kd.N_typed HO_11.out) (zz28)) (Kd.N_typed HO_15.out) (zz28)) (Kd.N_typed HO537.out) (zz28)) BK519.out (zz28)) BK520.out (zz28)) BK533.out (zz28)).1 k_ hs_.symm).1.1.1.2)) (fun hn_=>(Kd.fresh' (Kd.N_lt (have h0_:=HO537;zz27)) k_ hn_)),Or.elim hk_ (fun hs_=>Or.elim hs_ (fun hs_=>hs_.1.1.1.2.2.1) (fun hs_=>((Kd.R_types (Kd.R_types (Kd.R_types (Kd.R_apart' (Kd.R_apart' (Kd.R_apart' (HO542.out) (Kd.N_typed HO_11.out) (zz28)) (Kd.N_typed HO_15.out) (zz28)) (Kd.N_typed HO537.out) (zz28)) BK519.out (zz28)) BK520.out (zz28)) BK533.out (zz28)).1 k_ hs_.symm).1.1.2)) (fun hn_=>(Kd.freshB (g:=gb519) (o:=.cells #[.slice A0_0 l0_0.length c0_0,.slice A0_1 l0_1.length c0_1] 24 (0,0)) (zz58) k_ hn_)),Or.elim hk_ (fun hs_=>Or.elim hs_ (fun hs_=>hs_.1.1.1.2.2.2.1) (fun hs_=>((Kd.R_types (Kd.R_types (Kd.R_types (Kd.R_apart' (Kd.R_apart' (Kd.R_apart' (HO542.out) (Kd.N_typed HO_11.out) (zz28)) (Kd.N_typed HO_15.out) (zz28)) (Kd.N_typed HO537.out) (zz28)) BK519.out (zz28)) BK520.out (zz28)) BK533.out (zz28)).1 k_ hs_.symm).1.2)) (fun hn_=>(Kd.freshB (g:=gb520) (o:=.cells #[.slice A2_0 l2_0.length c2_0,.slice A2_1 l2_1.length c2_1,.slice (some ad528) l2_2.length c2_2] 36 (0,0)) (zz60) k_ hn_)),Or.elim hk_ (fun hs_=>Or.elim hs_ (fun hs_=>hs_.1.1.1.2.2.2.2) (fun hs_=>((Kd.R_types (Kd.R_types (Kd.R_types (Kd.R_apart' (Kd.R_apart' (Kd.R_apart' (HO542.out) (Kd.N_typed HO_11.out) (zz28)) (Kd.N_typed HO_15.out) (zz28)) (Kd.N_typed HO537.out) (zz28)) BK519.out (zz28)) BK520.out (zz28)) BK533.out (zz28)).1 k_ hs_.symm).2)) (fun hn_=>(Kd.freshB (g:=gb533) (o:=.cells #[.slice A532_0 ((rd_T56 l4 x47_3).f0).length c532_0] 56 (0,0)) (have h0_:=BK533;zz9) k_ hn_))⟩)) (below_size (zz66)));replace HO_11:=Aside0.mk (Kd.N_below (zz61) hb);replace HO_15:=Aside0.mk (Kd.N_below (have h0_:=HO_15;zz27) hb);replace HO537:=Aside0.mk (Kd.N_below (have h0_:=HO537;zz27) hb);replace HO542:=Aside0.mk (Kd.R_below (have h0_:=HO542;zz25) hb);replace BK519:=Aside0.mk (blk_below (zz58) hb);replace BK520:=Aside0.mk (blk_below (zz60) hb);replace BK533:=Aside0.mk (blk_below (have h0_:=BK533;zz9) hb);replace HR539_0:=Aside0.mk (Kd.C_below (have h0_:=HR539_0;zz38) hb);replace HB:=Aside0.mk (below_step (zz66) hb)
          (try clear hb)
          (try clear hb2)
          (try clear hk)
          (try clear hi)
          (try clear ho0)
          have p40:0≤(x47_3:Int):=of_decide_eq_true (zz11);have q40:(x47_3:Int) < ((x11_3.length:Int):Int):=of_decide_eq_true (zz11);obtain ⟨go40,co40,eo40,gb40,gl40,cl40,HG40⟩:=Kd.N_form HO_11.out (zz4)
          (first|cases eo40|(injection eo40 with ea_ en_ ec_;(first|subst ea_|(injection ea_ with ea_;subst ea_));subst ec_;clear en_))
          have GB40:=Aside0.mk gb40;have GG40:=Aside0.mk HG40;clear gb40 gl40 HG40
          (first|simp only [add_plain] at hx539_0|skip)
          obtain ⟨ce40,hcl40,hM40,hcc40,hfr40⟩:=Kd.N_elem HO_11.out [] (x47_3:Int) p40 q40;obtain ⟨ua40_0,uc40_0,rfl,ul40_0,ge40_0⟩:=Kd.FK_slice_open hM40;have hx40_0:=hcc40 0 _ rfl;have hf40_0:=hfr40 0
          (try simp only [show ((Kd.slice 65 (Kd.int .u32))).sz = 1 from rfl,Nat.mul_one,Nat.add_zero] at hx40_0)
          (try simp only [show ((Kd.slice 65 (Kd.int .u32))).sz = 1 from rfl,Nat.mul_one,Nat.add_zero] at hf40_0)
          clear hcl40 hcc40 hfr40 hM40;replace p40:=eq_true p40;replace q40:=eq_true q40;obtain ⟨Ao55,co55,eo55⟩:=Kd.V_slice HO545.out
          (first|subst eo55|(injection eo55 with f1_ f2_ f3_;have f4_:=f1_.symm;have f5_:=f3_.symm;clear f1_ f2_ f3_;subst f4_;subst f5_))
          have HX54:=Aside0.mk (show Kd.N (Kd.slice 65 (Kd.int .u32)) 32 _ w.heap.size (fun k_=>(w.heap.size≤k_)∧some k_ ≠ (.slice Ao47 t529.length co47:Value).ownBlock∧some k_ ≠ (.slice Ao50 t535.length co50:Value).ownBlock∧k_ ≠ gb519∧k_ ≠ gb520∧k_ ≠ gb533) (.slice (some ⟨go40,0,none⟩) x11_3.length co12) x11_3 from (Kd.N_mono (HO_11.out) (fun k_ hk=>⟨hk.1.1.1,⟨hk.1.1.2.1,⟨hk.1.2,⟨hk.1.1.2.2.1,⟨hk.1.1.2.2.2.1,hk.1.1.2.2.2.2⟩⟩⟩⟩⟩)));have HO_11:=HX54;obtain ⟨ce54,hcl54,hM54,hcc54,hfr54⟩:=Kd.N_elem HX54.out [] (x47_3:Int) (of_decide_eq_true (zz11)) (by have h_:(x47_3:Int) < ((x11_3.length:Int):Int):=of_decide_eq_true (zz11);first|exact h_|(have e_:=(Kd.N_reads' HO_11.out).1;omega)|simpa using h_);obtain ⟨ua54_0,uc54_0,rfl,ul54_0,ge54_0⟩:=Kd.FK_slice_open hM54;have HP54:=(Kd.N_seg HX54.out (x47_3:Int) (of_decide_eq_true (zz11)) (by have h_:(x47_3:Int) < ((x11_3.length:Int):Int):=of_decide_eq_true (zz11);first|exact h_|(have e_:=(Kd.N_reads' HO_11.out).1;omega)|simpa using h_) (seg:=[.slice Ao55 t543.length co55]) (j:=0) hcl54 hcc54 (show 1≤1 from by decide) (x':=t543) (Kd.FK_slice_mk (Kd.V_reads' (Kd.V_mono (ok':=(fun k_=>((fun k_=>(w.heap.size≤k_)∧some k_ ≠ (.slice Ao47 t529.length co47:Value).ownBlock∧some k_ ≠ (.slice Ao50 t535.length co50:Value).ownBlock∧k_ ≠ gb519∧k_ ≠ gb520∧k_ ≠ gb533)) k_∧k_ ≠ go40)) (HO545.out) (fun k_ hk=>⟨⟨hk.1,⟨hk.2.2.1,⟨hk.2.2.2.1,⟨hk.2.2.2.2.1,⟨hk.2.2.2.2.2.1,hk.2.2.2.2.2.2⟩⟩⟩⟩⟩,fun e_=>(hk.2.1) (zz41)⟩))).2.1 (Kd.V_F (Kd.V_mono (ok':=(fun k_=>((fun k_=>(w.heap.size≤k_)∧some k_ ≠ (.slice Ao47 t529.length co47:Value).ownBlock∧some k_ ≠ (.slice Ao50 t535.length co50:Value).ownBlock∧k_ ≠ gb519∧k_ ≠ gb520∧k_ ≠ gb533)) k_∧k_ ≠ go40)) (HO545.out) (fun k_ hk=>⟨⟨hk.1,⟨hk.2.2.1,⟨hk.2.2.2.1,⟨hk.2.2.2.2.1,⟨hk.2.2.2.2.2.1,hk.2.2.2.2.2.2⟩⟩⟩⟩⟩,fun e_=>(hk.2.1) (zz41)⟩)))) (fun _ hk=>hk)).1
          (try simp only [show ((Kd.slice 65 (Kd.int .u32))).sz = 1 from rfl,Nat.mul_one,Nat.add_zero] at HP54)
          rw [← Ny546.out] at HP54;have HQ54:=Aside0.mk HP54;clear hcl54 hcc54 hfr54 hM54 HP54;refine hK.out _ _ (HS0_) (fun hHeld=>?_);clear hK K;refine norm_ (a':=?_) ?_ ?_;rotate_left
          ·show Act.put _ (some 70) _ = _
           simp only [zzs]
           rfl
          refine zzp 9 71 ?_ #[true,true,true,true,true,true,true,true,true,true,false] rfl rfl (any_of HT_.out (zz0)) (fun _ _ _ h=>h) (Or.inl ⟨zz20,?_⟩) ?_ ?_ ?_;rotate_left
          ·intro w'
           go_simp
           with_reducible rfl
          rotate_left
          ·simp only [zzs]
           rfl
          refine last_ (i:=10) (N:=none) #[true,true,true,true,true,true,true,true,true,true,true] rfl rfl (one_of HT_.out (zz0)) (zz28) (fun K hK=>?_);refine skip_ (w1:=?_) (zz20) rfl ?_ ?_;rotate_left
          ·go_simp
           rfl
          refine hK.out _ _ ?_;clear hK K;refine done_ (done_of HT_.out (zz0)) ?_
          try go_wp2
          (try simp only [← hl11_3])
          go_roundg k3
          case measure=>have:=HK1.out;have:=HK2.out;have:=HK3.out;omega
          case rel=>exact ⟨(y546),(wrap64 (x47_3+1)),(zz2),H',⟨by have:=HK1.out;have:=HK2.out;have:=HK3.out;omega⟩,⟨by (try simp only [hl11_1]);(try simp only [hl11_2]);(try simp only [hl11_3]);(with_reducible repeat (first|apply Kd.N_alloc|apply Kd.N_drewN|apply Kd.N_drew));exact Kd.N_mono HQ54.out (fun _ hk=>⟨hk.1,⟨hk.2.1,⟨hk.2.2.2.1,hk.2.2.2.2.1⟩⟩⟩)⟩,⟨by (try simp only [hl11_1]);(try simp only [hl11_2]);(try simp only [hl11_3]);(with_reducible repeat (first|apply Kd.N_alloc|apply Kd.N_drewN|apply Kd.N_drew));exact Kd.N_mono (Kd.N_far (p:=⟨go40,(x47_3:Int).toNat,none⟩) (Kd.N_mono HO_15.out (fun k_ hk=>(⟨hk,fun e_=>hk.1.1.2.1 (zz41)⟩:_∧k_ ≠ go40))) (fun _ hk=>hk.2) (.slice Ao55 t543.length co55)) (fun _ hk=>⟨hk.1.1.1.1,⟨hk.1.1.1.2.1,⟨hk.1.1.1.2.2.1,hk.1.1.1.2.2.2.1⟩⟩⟩)⟩,⟨by (try simp only [hl11_1]);(try simp only [hl11_2]);(try simp only [hl11_3]);(with_reducible repeat (first|refine blk_drewN ?_ _|refine blk_drew ?_|refine blk_alloc ?_ _));refine blk_far ?_ (by have h_:=Kd.N_away HO_11.out (fun _ hk=>hk.2.2.2.1);intro e_;exact h_ (zz41)) _;(with_reducible repeat (first|refine blk_drewN ?_ _|refine blk_drew ?_|refine blk_alloc ?_ _));exact BK519.out⟩,⟨by (try simp only [hl11_1]);(try simp only [hl11_2]);(try simp only [hl11_3]);(with_reducible repeat (first|refine blk_drewN ?_ _|refine blk_drew ?_|refine blk_alloc ?_ _));refine blk_far ?_ (by have h_:=Kd.N_away HO_11.out (fun _ hk=>hk.2.2.2.2.1);intro e_;exact h_ (zz41)) _;(with_reducible repeat (first|refine blk_drewN ?_ _|refine blk_drew ?_|refine blk_alloc ?_ _));exact BK520.out⟩,⟨by repeat (first|(with_reducible first|exact HB.out|apply below_alloc|apply pw_below_drewN|apply below_drew1|refine below_set ?_ GB40.out|refine below_set ?_ GE519.out|refine below_set ?_ GE520.out|refine below_set ?_ GE533.out)|exact HB.out)⟩⟩
         ·have c31b0:=decide_eq_false c31;clear c31
          (try (have c31b0h_:=c31b0;simp only [hl11_1,hl11_2,hl11_3] at c31b0h_))
          (try (have c31b1h_:=c31b1;simp only [hl11_1,hl11_2,hl11_3] at c31b1h_))
          (try (have c31b2h_:=c31b2;simp only [hl11_1,hl11_2,hl11_3] at c31b2h_))
          have H':=Aside0.mk H;clear H
          go_wp2
          (try simp only [← hl11_2,← hl11_3])
          go_roundg k3
          case measure=>have:=HK1.out;have:=HK2.out;have:=HK3.out;omega
          case rel=>exact ⟨(x11_3),(wrap64 (x36_2+1)),(zz2),H',⟨by have:=HK1.out;have:=HK2.out;have:=HK3.out;omega⟩,⟨by (try simp only [hl11_1]);(try simp only [hl11_2]);(try simp only [hl11_3]);(with_reducible repeat (first|apply Kd.N_alloc|apply Kd.N_drewN|apply Kd.N_drew));exact Kd.N_mono HO_11.out (fun _ hk=>⟨hk.1,⟨hk.2.2.1,hk.2.2.2⟩⟩)⟩,⟨(have h0_:=BK519;zz67)⟩,⟨(have h0_:=BK520;zz67)⟩,⟨zz59⟩⟩
      ·have c24b0:=decide_eq_false c24;clear c24
       (try (have c24b0h_:=c24b0;simp only [hl11_1,hl11_2] at c24b0h_))
       (try (have c24b1h_:=c24b1;simp only [hl11_1,hl11_2] at c24b1h_))
       (try (have c24b2h_:=c24b2;simp only [hl11_1,hl11_2] at c24b2h_))
       obtain rfl:=Option.some.inj H
       go_wp2
       go_ret
       exact ⟨_,zz6,(have h0_:=HO_11;zz30),zz59⟩
end Go.Proofs.Ytmcegphcjphdcaa.QA
