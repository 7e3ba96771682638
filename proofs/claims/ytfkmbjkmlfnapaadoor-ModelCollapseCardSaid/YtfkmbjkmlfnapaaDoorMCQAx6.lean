import Derived.Test.YtfkmbjkmlfnapaaDoorMCQAx0
import Derived.Test.YtfkmbjkmlfnapaaDoorMCQAx4
namespace Go.Proofs.YtfkmbjkmlfnapaaDoor.QA
open Go.RowKit Go.Proofs.YtfkmbjkmlfnapaaDoorW.PrintWords Go.Proofs.YtfkmbjkmlfnapaaDoorW.PrintLast Go.Proofs.YtfkmbjkmlfnapaaDoorW.PrintMore
attribute [local go_sem] yG yF yP yO yA yB yH yE
set_option linter.unusedVariables false
set_option linter.unusedSimpArgs false
def U24.l0:Nat→Int→List Int→Int→Int→List Int→Int→Int→Option (List Int)
 | 0,_,_,_,_,_,_,_=>none
 | k+1,x0,x1,x2,x7,x8,x9,x10=>if x10≤x7 then (if 0≤(wrap64 (x10 - 1)) then (if (wrap64 (x10 - 1)) < (x1.length:Int) then ((U22.f x0 (rd x1 (wrap64 (x10 - 1))) x2).bind fun t180=>(if (wrap64 (x10 - 1)) < (x8.length:Int) then (U24.l0 k x0 x1 x2 x7 (x8.set ((wrap64 (x10 - 1)):Int).toNat (wrap64 (x9 - (mx (mn (mn t180 (wrap64 (1000 - x10))) (wrap64 (x9 - 1))) (wrap64 ((wrap64 (x7 - x10))+1)))))) (mx (mn (mn t180 (wrap64 (1000 - x10))) (wrap64 (x9 - 1))) (wrap64 ((wrap64 (x7 - x10))+1))) (wrap64 (x10+1))) else (none))) else (none)) else (none)) else (if 0≤x7 then (if x7 < (x8.length:Int) then (some (x8.set (x7:Int).toNat x9)) else (none)) else (none))
def U24.f (k:Nat) (a0:Int) (l1:List Int) (a2:Int):Option (List Int):=if 0≤(wrap64 ((l1.length:Int)+1)) then (if (wrap64 ((l1.length:Int)+1):Int).toNat≤35184372088832 then (U24.l0 k a0 l1 a2 (l1.length:Int) (List.replicate (wrap64 ((l1.length:Int)+1):Int).toNat 0) 1000 1) else (none)) else (none)
theorem zm10_0 {P:Prop} (h:P:=by repeat' first|(with_reducible first|exact ih0 ..|exact LeO.refl _|exact LeO.none _|refine LeO.ite ?_ ?_|refine LeO.bind ?_ (fun _=>?_))|exact ih0 ..|exact LeO.none _|refine LeO.ite ?_ ?_|refine LeO.bind ?_ (fun _=>?_)):P:=h
theorem U24.mono_l:∀ k,(∀ y0 y1 y2 y3 y4 y5 y6,LeO (U24.l0 k y0 y1 y2 y3 y4 y5 y6) (U24.l0 (k+1) y0 y1 y2 y3 y4 y5 y6))
 | 0=>fun _ _ _ _ _ _ _ r h=>by simp [U24.l0] at h
 | k+1=>by
  have ih0:=U24.mono_l k
  ·intro y0 y1 y2 y3 y4 y5 y6;unfold U24.l0
   exact zm10_0
theorem U24.mono:∀ a0 a1 a2 k,LeO (U24.f k a0 a1 a2) (U24.f (k+1) a0 a1 a2):=by
 intro a0 a1 a2 k;have ih0:=U24.mono_l k;unfold U24.f
 exact zm10_0
set_option maxHeartbeats 8000000 in
set_option maxRecDepth 100000 in
theorem U24.calls (k:Nat) (a0:Int) (A1:Option Addr) (c1:Nat) (l1:List Int) (a2:Int) (r:List Int) (w:World) (hr1:Kd.C (Kd.int .i64) w A1 l1.length l1) (hc1:l1.length≤c1) (h:U24.f k a0 l1 a2 = some r) :
  Calls Tryd.prog 54 #[.int .i64 a0,.slice A1 l1.length c1,.int .i64 a2] w fun e w'=>∃ v0_:Value,e = .returned (v0_)∧Kd.R (Kd.int .i64) 3 w' w.heap.size (fun _=>True) v0_ r∧Below w.heap.size w w':=by
 have HR1:=wA.mk hr1;have HC1:=wA.mk hc1;clear hr1 hc1;have HB:=wA.mk (Below.refl w.heap.size w);have H:(if 0≤(wrap64 ((l1.length:Int)+1)) then (if (wrap64 ((l1.length:Int)+1):Int).toNat≤35184372088832 then (U24.l0 k a0 l1 a2 (l1.length:Int) (List.replicate (wrap64 ((l1.length:Int)+1):Int).toNat 0) 1000 1) else (none)) else (none)) = some r:=h;clear h;obtain ⟨ji4,hji4⟩:∃ j_:Int,(wrap64 ((l1.length:Int)+1)) = j_:=⟨_,rfl⟩;replace H:(if 0≤(ji4) then (if (ji4:Int).toNat≤35184372088832 then (U24.l0 k a0 l1 a2 (l1.length:Int) (List.replicate (ji4:Int).toNat 0) 1000 1) else (none)) else (none)) = some r:=(have h0_:=hji4;zz19);have hji4w:(IntKind.i64.wrap ((l1.length:Int)+1)) = ji4:=(yL _).trans hji4;replace H:=zzi H;obtain ⟨c5,H⟩:=H;have c5b0:=eq_true c5;have c5b1:=decide_eq_true c5;clear c5;replace H:=zzi H;obtain ⟨c6,H⟩:=H;have c6b0:=eq_true c6;have c6b1:=decide_eq_true c6;clear c6;obtain ⟨y176,hy176⟩:∃ y_:List Int,y_ = (List.replicate (ji4:Int).toNat 0):=⟨_,rfl⟩;replace H:(U24.l0 k a0 l1 a2 (l1.length:Int) y176 1000 1) = some r:=(have h0_:=hy176;zz16);have Ny176:=wA.mk hy176;clear hy176;have H':=wA.mk H;clear H;go_enter Tryd.func54,Tryd.ntmps54
 go_wp2_with (first|((with_reducible refine wK (N:=16) rfl ?_);refine Kd.R_make (Kd.int .i64) _ 3 rfl (N:=16) rfl 31 _ _ rfl ji4 rfl rfl Tryd.underlying31 (.int .i64 0) 8 info3 rfl (zz17) (zz15) 0 (ok:=fun _=>True) (okp:=fun _=>True) rfl (fun _ hk=>hk) trivial (of_decide_eq_true (zz4)) (Nat.le_trans (Nat.mul_le_mul_right _ (of_decide_eq_true (zz4):ji4.toNat≤35184372088832)) (zz15)) (Below.refl _ _) (Nat.le_refl _) ?_;intro v177 w7 ho8 hb hg_ hnew_;clear hg_ hnew_;(first|rw [← Ny176.out] at ho8|(simp only [Int.reduceToNat] at ho8;rw [← Ny176.out] at ho8));have HO178:=wA.mk (Kd.R_lower ho8 (wB (zz10)));replace HB:=wA.mk (wG (zz10) hb);clear hb ho8))
 go_loopg [9,10] k (fun kq v9 v10 w'=>∃ (x8_1:List Int) (x9_1:Int) (x10_1:Int),v9 = .int .i64 x9_1∧v10 = .int .i64 x10_1∧wA (U24.l0 kq a0 l1 a2 (l1.length:Int) x8_1 x9_1 x10_1 = some r)∧wA (kq≤k)∧wA (Kd.R (Kd.int .i64) 3 w' w.heap.size (fun _=>True) v177 x8_1)∧wA (Below w.heap.size w w'))
 case atStart=>exact ⟨(y176),(1000),(1),(zz1),(zz1),H',⟨Nat.le_refl _⟩,⟨(have h0_:=HO178;zz18)⟩,⟨zz10⟩⟩
 case round =>
  clear H'
  (try clear c1);clear c5b0 c5b1 c6b0 c6b1
  obtain ⟨x8_1,x9_1,x10_1,rfl,rfl,HA,HK1,HO_8,HB⟩:=hrel
  cases gk with
  | zero=>exact absurd HA.out (by simp [U24.l0])
  | succ k1 =>
   have H:=HA.out;clear HA;simp only [U24.l0] at H;replace H:=zzj H;rcases H with ⟨c9,H⟩|⟨c9,H⟩
   ·have c9b0:=decide_eq_true c9;clear c9;obtain ⟨ji10,hji10⟩:∃ j_:Int,(wrap64 (x10_1 - 1)) = j_:=⟨_,rfl⟩;replace H:(if 0≤(ji10) then (if (ji10) < (l1.length:Int) then ((U22.f a0 (rd l1 (ji10)) a2).bind fun t180=>(if (ji10) < (x8_1.length:Int) then (U24.l0 k1 a0 l1 a2 (l1.length:Int) (x8_1.set ((ji10):Int).toNat (wrap64 (x9_1 - (mx (mn (mn t180 (wrap64 (1000 - x10_1))) (wrap64 (x9_1 - 1))) (wrap64 ((wrap64 ((l1.length:Int) - x10_1))+1)))))) (mx (mn (mn t180 (wrap64 (1000 - x10_1))) (wrap64 (x9_1 - 1))) (wrap64 ((wrap64 ((l1.length:Int) - x10_1))+1))) (wrap64 (x10_1+1))) else (none))) else (none)) else (none)) = some r:=(have h0_:=hji10;zz19);have hji10w:(IntKind.i64.wrap (x10_1 - 1)) = ji10:=(yL _).trans hji10;replace H:=zzi H;obtain ⟨c11,H⟩:=H;have c11b0:=decide_eq_true c11;clear c11;replace H:=zzi H;obtain ⟨c12,H⟩:=H;have c12b0:=decide_eq_true c12;clear c12;replace H:=zzb H;obtain ⟨t180,A13,H⟩:=H;obtain ⟨ji14,hji14⟩:∃ j_:Int,(mn t180 (wrap64 (1000 - x10_1))) = j_:=⟨_,rfl⟩;replace H:(if (ji10) < (x8_1.length:Int) then (U24.l0 k1 a0 l1 a2 (l1.length:Int) (x8_1.set ((ji10):Int).toNat (wrap64 (x9_1 - (mx (mn (ji14) (wrap64 (x9_1 - 1))) (wrap64 ((wrap64 ((l1.length:Int) - x10_1))+1)))))) (mx (mn (ji14) (wrap64 (x9_1 - 1))) (wrap64 ((wrap64 ((l1.length:Int) - x10_1))+1))) (wrap64 (x10_1+1))) else (none)) = some r:=(have h0_:=hji14;zz19)
    (try rw [hji14] at A13)
    have hji14_:(if (wrap64 (1000 - x10_1)) < t180 then (wrap64 (1000 - x10_1)) else t180) = ji14:=hji14
    (try (have hji14N:=hji14_;simp only [Int.ofNat_lt] at hji14N))
    obtain ⟨ji15,hji15⟩:∃ j_:Int,(mn (ji14) (wrap64 (x9_1 - 1))) = j_:=⟨_,rfl⟩;replace H:(if (ji10) < (x8_1.length:Int) then (U24.l0 k1 a0 l1 a2 (l1.length:Int) (x8_1.set ((ji10):Int).toNat (wrap64 (x9_1 - (mx (ji15) (wrap64 ((wrap64 ((l1.length:Int) - x10_1))+1)))))) (mx (ji15) (wrap64 ((wrap64 ((l1.length:Int) - x10_1))+1))) (wrap64 (x10_1+1))) else (none)) = some r:=(have h0_:=hji15;zz19)
    (try rw [hji15] at A13)
    have hji15_:(if (wrap64 (x9_1 - 1)) < (ji14) then (wrap64 (x9_1 - 1)) else (ji14)) = ji15:=hji15
    (try (have hji15N:=hji15_;simp only [Int.ofNat_lt] at hji15N))
    obtain ⟨ji16,hji16⟩:∃ j_:Int,(mx (ji15) (wrap64 ((wrap64 ((l1.length:Int) - x10_1))+1))) = j_:=⟨_,rfl⟩;replace H:(if (ji10) < (x8_1.length:Int) then (U24.l0 k1 a0 l1 a2 (l1.length:Int) (x8_1.set ((ji10):Int).toNat (wrap64 (x9_1 - (ji16)))) ji16 (wrap64 (x10_1+1))) else (none)) = some r:=(have h0_:=hji16;zz19)
    (try rw [hji16] at A13)
    have hji16_:(if (ji15) < (wrap64 ((wrap64 ((l1.length:Int) - x10_1))+1)) then (wrap64 ((wrap64 ((l1.length:Int) - x10_1))+1)) else (ji15)) = ji16:=hji16
    (try (have hji16N:=hji16_;simp only [Int.ofNat_lt] at hji16N))
    replace H:=zzi H;obtain ⟨c17,H⟩:=H;have c17b0:=decide_eq_true c17;clear c17;obtain ⟨y181,hy181⟩:∃ y_:List Int,y_ = (x8_1.set ((ji10):Int).toNat (wrap64 (x9_1 - (ji16)))):=⟨_,rfl⟩;replace H:(U24.l0 k1 a0 l1 a2 (l1.length:Int) y181 ji16 (wrap64 (x10_1+1))) = some r:=(have h0_:=hy181;zz16);have Ny181:=wA.mk hy181;clear hy181;have H':=wA.mk H;clear H;have p179:0≤((ji10):Int):=of_decide_eq_true (zz4);have q179:(ji10) < (l1.length:Int):=of_decide_eq_true (zz4);obtain ⟨ad179,e179,hx179_0⟩:=Kd.at_int HR1.out (ji10) p179 q179
    cases e179
    replace hx179_0:=(HB.out.cell (World.block_lt_of_cell? w _ hx179_0)).trans hx179_0;replace p179:=eq_true p179;replace q179:=eq_true q179
    go_wp2_with (first|((with_reducible refine wH (f:=50) rfl ?_);refine wO (some 29) rfl rfl Tryd.func50 (zz0) rfl #[.int .i64 a0,.int .i64 (rd l1 (ji10)),.int .i64 a2] rfl (have h0_:=hji10;zz33) ?_;(with_reducible refine (U22.calls a0 (rd l1 (ji10)) a2 t180 _ A13.out).mono ?_);rintro e w' ⟨rfl,⟨nd,rfl⟩⟩;refine ⟨_,rfl,?_⟩;(try (rw [zA wr];generalize hq_:World.drewN wr _ = wr;have n0_:wA (Kd.R (Kd.int .i64) 3 wr w.heap.size (fun _=>True) v177 x8_1):=⟨by rw [← hq_];exact (have h0_:=HO_8;zz18)⟩;have n1_:wA (Below w.heap.size w wr):=⟨by rw [← hq_];exact (zz10)⟩;clear HO_8 HB hq_;have HO_8:=n0_;have HB:=n1_;clear n0_ n1_));have p18:0≤((ji10):Int):=of_decide_eq_true (zz4);have q18:((ji10):Int) < ((x8_1.length:Int):Int):=of_decide_eq_true (zz4);obtain ⟨go18,co18,eo18,gb18,gl18,cl18,HG18⟩:=Kd.R_form HO_8.out (zz15);(first|cases eo18|(injection eo18 with ea_ en_ ec_;(first|subst ea_|(injection ea_ with ea_;subst ea_));subst ec_;clear en_));have GB18:=wA.mk gb18;have GG18:=wA.mk HG18;clear gb18 gl18 HG18;obtain ⟨hx18_0,hf18_0⟩:=Kd.R_celln 0 HO_8.out ((ji10):Int) p18 q18;replace p18:=eq_true p18;replace q18:=eq_true q18;obtain ⟨hy19_,hz19_⟩:=Kd.R_celln 0 HO_8.out ((ji10):Int) (of_decide_eq_true (zz4)) (of_decide_eq_true (zz4));have HP19:=Kd.R_putg HO_8.out ((ji10):Int) (wrap64 (x9_1 - (ji16))))|((with_reducible refine yI (t:=3) (p:=46) rfl ?_);refine yC (t:=3) (p:=46) (v:=?vo_w20) (w1:=(wr.setCell ⟨go18,((ji10):Int).toNat,none⟩ (.int .i64 (wrap64 (x9_1 - (ji16)))))) ?hg ?ho ?hn ?hr ?_;(case ho=>rfl);(case hg=>rfl);(case hn=>rfl);(case hr=>exact zz205);intro w20 hw;have hg:wr.grownBy w20 (some go18):=(by rw [hw];exact HP19.2);have hp_:Kd.R (Kd.int .i64) 3 w20 w.heap.size (fun _=>True) (.slice (some ⟨go18,0,none⟩) x8_1.length co18) y181:=(by rw [hw,Ny181.out];exact HP19.1);clear HP19;replace HO_8:=wA.mk (hp_);replace HB:=wA.mk ((by rw [hw];exact wL (HB.out) GB18.out:Below w.heap.size w w20));clear hg hw hp_))
    go_roundg k1
    case measure=>have:=HK1.out;omega
    case rel=>exact ⟨(y181),(ji16),(wrap64 (x10_1+1)),(have h0_:=hji16;zz30),(zz1),H',⟨zz6⟩,⟨(have h0_:=HO_8;zz18)⟩,⟨zz10⟩⟩
   ·have c9b0:=decide_eq_false c9;clear c9;replace H:=zzi H;obtain ⟨c21,H⟩:=H;have c21b0:=decide_eq_true c21;have c21b1:decide (0≤l1.length) = true:=decide_eq_true (zz15);clear c21;replace H:=zzi H;obtain ⟨c22,H⟩:=H;have c22b0:=decide_eq_true c22;have c22b1:decide (l1.length < x8_1.length) = true:=decide_eq_true (Int.ofNat_lt.mp c22);clear c22;obtain ⟨y182,hy182⟩:∃ y_:List Int,y_ = (x8_1.set ((l1.length:Int):Int).toNat x9_1):=⟨_,rfl⟩;replace H:(some y182) = some r:=(have h0_:=hy182;zz16);have Ny182:=wA.mk hy182;clear hy182;obtain rfl:=Option.some.inj H;have p23:0≤((l1.length:Int):Int):=of_decide_eq_true (zz4);have q23:((l1.length:Int):Int) < ((x8_1.length:Int):Int):=of_decide_eq_true (zz4);obtain ⟨go23,co23,eo23,gb23,gl23,cl23,HG23⟩:=Kd.R_form HO_8.out (zz15)
    (first|cases eo23|(injection eo23 with ea_ en_ ec_;(first|subst ea_|(injection ea_ with ea_;subst ea_));subst ec_;clear en_))
    have GB23:=wA.mk gb23;have GG23:=wA.mk HG23;clear gb23 gl23 HG23;obtain ⟨hx23_0,hf23_0⟩:=Kd.R_celln 0 HO_8.out ((l1.length:Int):Int) p23 q23;replace p23:=eq_true p23;replace q23:=eq_true q23;obtain ⟨hy24_,hz24_⟩:=Kd.R_celln 0 HO_8.out ((l1.length:Int):Int) (of_decide_eq_true (zz4)) (of_decide_eq_true (zz4))
    (try simp only [Go.IntWalk.toNatUp] at hy24_ hz24_)
    have HP24:=Kd.R_putg HO_8.out ((l1.length:Int):Int) x9_1
    go_wp2_with (first|((with_reducible refine yI (t:=3) (p:=51) rfl ?_);refine yC (t:=3) (p:=51) (v:=?vo_w25) (w1:=(wr.setCell ⟨go23,((l1.length:Int):Int).toNat,none⟩ (.int .i64 x9_1))) ?hg ?ho ?hn ?hr ?_;(case ho=>rfl);(case hg=>rfl);(case hn=>rfl);(case hr=>exact zz205);intro w25 hw;have hg:wr.grownBy w25 (some go23):=(by rw [hw];exact HP24.2);have hp_:Kd.R (Kd.int .i64) 3 w25 w.heap.size (fun _=>True) (.slice (some ⟨go23,0,none⟩) x8_1.length co23) y182:=(by rw [hw,Ny182.out];exact HP24.1);clear HP24;replace HO_8:=wA.mk (hp_);replace HB:=wA.mk ((by rw [hw];exact wL (HB.out) GB23.out:Below w.heap.size w w25));clear hg hw hp_))
    go_ret
    exact ⟨_,(have h0_:=hji4;zz32),(have h0_:=HO_8;zz18),zz10⟩
end Go.Proofs.YtfkmbjkmlfnapaaDoor.QA
