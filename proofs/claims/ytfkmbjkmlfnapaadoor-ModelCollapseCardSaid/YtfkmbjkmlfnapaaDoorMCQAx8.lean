import Derived.Test.YtfkmbjkmlfnapaaDoorMCQAx0
import Derived.Test.YtfkmbjkmlfnapaaDoorMCQAx1
import Derived.Test.YtfkmbjkmlfnapaaDoorMCQAx2
namespace Go.Proofs.YtfkmbjkmlfnapaaDoor.QA
open Go.RowKit Go.Proofs.YtfkmbjkmlfnapaaDoorW.PrintWords Go.Proofs.YtfkmbjkmlfnapaaDoorW.PrintLast Go.Proofs.YtfkmbjkmlfnapaaDoorW.PrintMore
attribute [local go_sem] yG yF yP yO yA yB yH yE
set_option linter.unusedVariables false
set_option linter.unusedSimpArgs false
mutual
def U15.j0:Nat→List Int→Bool→List (List Int)→Option ((List (List Int)) × Int)
 | 0,_,_,_=>none
 | k+1,x1,x35,x201000=>if x35 = true then (some (([]:List (List Int)),1)) else (U15.l0 k x1 0 x1 (x1.length:Int) 0 x201000)
def U15.l0:Nat→List Int→Int→List Int→Int→Int→List (List Int)→Option ((List (List Int)) × Int)
 | 0,_,_,_,_,_,_=>none
 | k+1,x1,x7,x37,x38,x39,x201000=>if x39 < x38 then (if 0≤x39 then (if x39 < (x37.length:Int) then (if (rd x37 x39) = x7 then (U15.l0 k x1 (rd x37 x39) x37 x38 (wrap64 (x39+1)) x201000) else (if (rd x37 x39) = (wrap64 (x7+1)) then (U15.l0 k x1 (rd x37 x39) x37 x38 (wrap64 (x39+1)) x201000) else (some (([]:List (List Int)),1)))) else (none)) else (none)) else (if x7 = 0 then (some (([]:List (List Int)),19)) else (U15.l1 k x1 x7 x201000 (x201000.length:Int) 0 ([]:List (List Int))))
def U15.l1:Nat→List Int→Int→List (List Int)→Int→Int→List (List Int)→Option ((List (List Int)) × Int)
 | 0,_,_,_,_,_,_=>none
 | k+1,x1,x7,x59,x60,x61,x207000=>if x61 < x60 then (if 0≤x61 then (if x61 < (x59.length:Int) then (if 0≤(wrap64 (x7+1)) then (if (wrap64 (x7+1):Int).toNat≤35184372088832 then (U15.l2 k x1 x7 (List.replicate (wrap64 (x7+1):Int).toNat 0) x59 x60 x61 (rd_L1 x59 x61) ((rd_L1 x59 x61).length:Int) 0 x207000) else (none)) else (none)) else (none)) else (none)) else (some (x207000,0))
def U15.l2:Nat→List Int→Int→List Int→List (List Int)→Int→Int→List Int→Int→Int→List (List Int)→Option ((List (List Int)) × Int)
 | 0,_,_,_,_,_,_,_,_,_,_=>none
 | k+1,x1,x7,x13,x59,x60,x61,x68,x69,x70,x207000=>if x70 < x69 then (if 0≤x70 then (if x70 < (x68.length:Int) then (if x70 < (x1.length:Int) then (if 0≤(rd x1 x70) then (if (rd x1 x70) < (x13.length:Int) then (U15.l2 k x1 x7 (x13.set ((rd x1 x70):Int).toNat (wrap64 ((rd x13 (rd x1 x70))+(rd x68 x70)))) x59 x60 x61 x68 x69 (wrap64 (x70+1)) x207000) else (none)) else (none)) else (none)) else (none)) else (none)) else (if x207000.length < 5864062014805 then (U15.l1 k x1 x7 x59 x60 (wrap64 (x61+1)) (x207000++[x13])) else (none))
end
def U15.f (k:Nat) (l0_0:List (List Int)) (l1:List Int):Option ((List (List Int)) × Int):=(U21.f k l0_0 (l0_0.length:Int)).bind fun t202=>(if t202 = 0 then ((U14.f l0_0).bind fun t203=>(if (l1.length:Int) = t203 then (if 0 < (l1.length:Int) then (U15.j0 k l1 ((rd l1 0) != 0) l0_0) else (none)) else (U15.j0 k l1 true l0_0))) else (some (([]:List (List Int)),t202)))
theorem zm3_0 {P:Prop} (h:P:=by repeat' first|(with_reducible first|exact ih0 ..|exact ih1 ..|exact ih2 ..|exact ih3 ..|exact U21.mono ..|exact LeO.refl _|exact LeO.none _|refine LeO.ite ?_ ?_|refine LeO.bind ?_ (fun _=>?_))|exact ih0 ..|exact ih1 ..|exact ih2 ..|exact ih3 ..|exact U21.mono ..|exact LeO.none _|refine LeO.ite ?_ ?_|refine LeO.bind ?_ (fun _=>?_)):P:=h
theorem U15.mono_l:∀ k,(∀ y0 y1 y2,LeO (U15.j0 k y0 y1 y2) (U15.j0 (k+1) y0 y1 y2))∧(∀ y0 y1 y2 y3 y4 y5,LeO (U15.l0 k y0 y1 y2 y3 y4 y5) (U15.l0 (k+1) y0 y1 y2 y3 y4 y5))∧(∀ y0 y1 y2 y3 y4 y5,LeO (U15.l1 k y0 y1 y2 y3 y4 y5) (U15.l1 (k+1) y0 y1 y2 y3 y4 y5))∧(∀ y0 y1 y2 y3 y4 y5 y6 y7 y8 y9,LeO (U15.l2 k y0 y1 y2 y3 y4 y5 y6 y7 y8 y9) (U15.l2 (k+1) y0 y1 y2 y3 y4 y5 y6 y7 y8 y9))
 | 0=>⟨fun _ _ _ r h=>by simp [U15.j0] at h,fun _ _ _ _ _ _ r h=>by simp [U15.l0] at h,fun _ _ _ _ _ _ r h=>by simp [U15.l1] at h,fun _ _ _ _ _ _ _ _ _ _ r h=>by simp [U15.l2] at h⟩
 | k+1=>by
  obtain ⟨ih0,ih1,ih2,ih3⟩:=U15.mono_l k;refine ⟨?_,?_,?_,?_⟩
  ·intro y0 y1 y2;unfold U15.j0
   exact zm3_0
  ·intro y0 y1 y2 y3 y4 y5;unfold U15.l0
   exact zm3_0
  ·intro y0 y1 y2 y3 y4 y5;unfold U15.l1
   exact zm3_0
  ·intro y0 y1 y2 y3 y4 y5 y6 y7 y8 y9;unfold U15.l2
   exact zm3_0
theorem U15.mono:∀ a0 a1 k,LeO (U15.f k a0 a1) (U15.f (k+1) a0 a1):=by
 intro a0 a1 k;obtain ⟨ih0,ih1,ih2,ih3⟩:=U15.mono_l k;unfold U15.f
 exact zm3_0
set_option maxHeartbeats 8000000 in
set_option maxRecDepth 100000 in
theorem U15.calls (k:Nat) (A0_0:Option Addr) (c0_0:Nat) (l0_0:List (List Int)) (A1:Option Addr) (c1:Nat) (l1:List Int) (r1:List (List Int)) (r2:Int) (w:World) (hr0_0:Kd.C (Kd.slice 3 (Kd.int .i64)) w A0_0 l0_0.length l0_0) (hc0_0:l0_0.length≤c0_0) (hr1:Kd.C (Kd.int .i64) w A1 l1.length l1) (hc1:l1.length≤c1) (h:U15.f k l0_0 l1 = some (r1,r2)) :
  Calls Tryd.prog 26 #[.agg #[.slice A0_0 l0_0.length c0_0],.slice A1 l1.length c1] w fun e w'=>∃ v0_:Value,e = .returned (.tuple #[.agg #[v0_],.int .i64 r2])∧Kd.S (Kd.slice 3 (Kd.int .i64)) 31 w' w.heap.size (fun _=>True) v0_ r1∧Below w.heap.size w w':=by
 have hu24:=Tryd.underlying24;have HR0_0:=wA.mk hr0_0;have HC0_0:=wA.mk hc0_0;clear hr0_0 hc0_0;have HR1:=wA.mk hr1;have HC1:=wA.mk hc1;clear hr1 hc1;have HB:=wA.mk (Below.refl w.heap.size w);have H:((U21.f k l0_0 (l0_0.length:Int)).bind fun t202=>(if t202 = 0 then ((U14.f l0_0).bind fun t203=>(if (l1.length:Int) = t203 then (if 0 < (l1.length:Int) then (U15.j0 k l1 ((rd l1 0) != 0) l0_0) else (none)) else (U15.j0 k l1 true l0_0))) else (some (([]:List (List Int)),t202)))) = some (r1,r2):=h;clear h;replace H:=zzb H;obtain ⟨t202,A3,H⟩:=H;replace H:=zzj H;rcases H with ⟨c4,H⟩|⟨c4,H⟩
 ·have c4b0:=beq_iff_eq.mpr c4;have c4b1:=bne_eq_false_iff_eq.mpr c4;clear c4;have HC5:=wA.mk H;clear H;go_enter Tryd.func26,Tryd.ntmps26
  go_upto_region 4 with (first|((with_reducible refine wK (N:=2) rfl ?_);refine wM ?hg (N:=2) ?hd (cs:=#[.slice A0_0 l0_0.length c0_0]) (t:=24) ?hr ?_;(case hd=>rfl);(case hg=>rfl);(case hr=>exact zz205);intro gb200 hg w6 hbox hb;have BK200:=wA.mk (hbox);have GW200:=wA.mk ((by rw [hg];exact (wB (zz10)):w.heap.size≤gb200));have GE200:=wA.mk ((by rw [hg];exact (wB (zz10)):w.heap.size≤gb200));replace HB:=wA.mk (wG (zz10) hb);clear hb hbox hg)|((with_reducible refine wK (N:=4) rfl ?_);refine wM ?hg (N:=4) ?hd (cs:=#[.slice none 0 0]) (t:=24) ?hr ?_;(case hd=>rfl);(case hg=>rfl);(case hr=>exact zz205);intro gb201 hg w7 hbox hb;have BK201:=wA.mk (hbox);have GW201:=wA.mk ((by rw [hg];exact (wB (have h0_:=GE200;zz13)):w.heap.size≤gb201));have GE201:=wA.mk ((by rw [hg];exact (wB (have h0_:=GE200;zz13)):w.heap.size≤gb201));replace HB:=wA.mk (wG (have h0_:=GE200;zz13) hb);have NB200_201:=wA.mk ((by rw [hg];exact Nat.ne_of_lt (wJ (g:=gb200) (o:=.cells #[.slice A0_0 l0_0.length c0_0] 24 (0,0)) (zz20)):gb200 ≠ gb201));have NB201_200:=wA.mk ((by rw [hg];exact Nat.ne_of_gt (wJ (g:=gb200) (o:=.cells #[.slice A0_0 l0_0.length c0_0] 24 (0,0)) (zz20)):gb201 ≠ gb200));replace BK200:=wA.mk (wC (zz20) hb);clear hb hbox hg;have hnb8:=NB200_201.out;have hnc8:=NB201_200.out;obtain ⟨hcz9_0,hfz9_0⟩:=zc1 BK200.out)|((with_reducible refine wH (f:=14) rfl ?_);refine wO (some 20) rfl rfl Tryd.func14 (zz0) rfl #[.agg #[.slice A0_0 l0_0.length c0_0],.int .i64 (l0_0.length:Int)] rfl (zz5) ?_;(with_reducible refine (U21.calls k _ _ l0_0 (l0_0.length:Int) t202 _ ?_ ?_ A3.out).mono ?_);exact zz210;exact zz211;rintro e w10 ⟨rfl,hb⟩;refine ⟨_,rfl,?_⟩;replace BK200:=wA.mk (wC (zz20) hb);replace BK201:=wA.mk (wC (zz21) hb);replace HB:=wA.mk (wG (zz22) hb);(try clear hb)))
  (try simp only [Act.put,List.setIfInBounds_toArray,List.set_cons_zero,List.set_cons_succ])
  go_cut [35] (fun v35 wc=>∃ (kq:Nat) (x35_4:Bool),v35 = .bool x35_4∧wA (U15.j0 kq l1 x35_4 l0_0 = some (r1,r2))∧wA (kq≤k)∧wA (wc.heap[gb200]? = some (.cells #[(.slice A0_0 l0_0.length c0_0)] 24 (0,0)))∧wA (wc.heap[gb201]? = some (.cells #[(.slice none 0 0)] 24 (0,0)))∧wA (Below w.heap.size w wc))
  case first =>
   have H:=HC5.out;clear HC5;replace H:=zzb H;obtain ⟨t203,A11,H⟩:=H;replace H:=zzj H;rcases H with ⟨c12,H⟩|⟨c12,H⟩
   ·have c12b0:=beq_iff_eq.mpr c12;have c12b1:=bne_eq_false_iff_eq.mpr c12;clear c12
    (first|rw [c12b0]|rw [c12b1]|(simp only [yL,zM];rw [c12b0])|skip)
    replace H:=zzi H;obtain ⟨c13,H⟩:=H;have c13b0:=decide_eq_true c13;have c13b1:decide (0 < l1.length) = true:=decide_eq_true (zz15);clear c13;have H':=wA.mk H;clear H;have hnb14:=NB200_201.out;have hnc14:=NB201_200.out;obtain ⟨hcz15_0,hfz15_0⟩:=zc1 BK200.out
    go_wp2_with (first|((with_reducible refine wH (f:=16) rfl ?_);refine wO (some 28) rfl rfl Tryd.func16 (zz0) rfl #[.agg #[.slice A0_0 l0_0.length c0_0]] rfl (zz5) ?_;(with_reducible refine (U14.calls _ _ l0_0 t203 _ ?_ ?_ A11.out).mono ?_);exact zz210;exact zz211;rintro e w16 ⟨rfl,hb⟩;refine ⟨_,rfl,?_⟩;replace BK200:=wA.mk (wC (zz20) hb);replace BK201:=wA.mk (wC (zz21) hb);replace HB:=wA.mk (wG (zz22) hb);(try clear hb);have p204:0≤(0:Int):=(zz15);have q204:0 < (l1.length:Int):=of_decide_eq_true (zz4);obtain ⟨ad204,e204,hx204_0⟩:=Kd.at_int HR1.out 0 p204 q204;cases e204;have qi204:(0 < l1.length) = True:=eq_true (zz15);(try rw [show ((0:Int)).toNat = 0 from rfl] at hx204_0);(try rw [Addr.add_zero'] at hx204_0);replace hx204_0:=(HB.out.cell (World.block_lt_of_cell? w _ hx204_0)).trans hx204_0;replace p204:=eq_true p204;replace q204:=eq_true q204))
    go_meet
    case rel=>exact ⟨_,(((rd l1 0) != 0)),(zz1),H',⟨zz11⟩,⟨zz20⟩,⟨zz21⟩,⟨zz22⟩⟩
   ·have c12b0:=beq_eq_false_iff_ne.mpr c12;have c12b1:=bne_iff_ne.mpr c12
    (first|rw [c12b0]|rw [c12b1]|(simp only [yL,zM];rw [c12b0])|skip)
    have H':=wA.mk H;clear H;have hnb17:=NB200_201.out;have hnc17:=NB201_200.out;obtain ⟨hcz18_0,hfz18_0⟩:=zc1 BK200.out
    go_wp2_with (first|((with_reducible refine wH (f:=16) rfl ?_);refine wO (some 28) rfl rfl Tryd.func16 (zz0) rfl #[.agg #[.slice A0_0 l0_0.length c0_0]] rfl (zz5) ?_;(with_reducible refine (U14.calls _ _ l0_0 t203 _ ?_ ?_ A11.out).mono ?_);exact zz210;exact zz211;rintro e w19 ⟨rfl,hb⟩;refine ⟨_,rfl,?_⟩;replace BK200:=wA.mk (wC (zz20) hb);replace BK201:=wA.mk (wC (zz21) hb);replace HB:=wA.mk (wG (zz22) hb);(try clear hb)))
    go_meet
    case rel=>exact ⟨_,(true),(zz1),H',⟨zz11⟩,⟨zz20⟩,⟨zz21⟩,⟨zz22⟩⟩
  case rest =>
   clear HC5;(try clear c1);clear c4b0 c4b1;(try clear hcz9_0);(try clear hfz9_0);obtain ⟨kq,x35_4,rfl,HA,HJ4,BK200,BK201,HB⟩:=hcut
   cases kq with
   | zero=>exact absurd HA.out (by simp [U15.j0])
   | succ kj4 =>
    have H:=HA.out;clear HA;simp only [U15.j0] at H;by_cases c20:x35_4 = true
    ·subst c20;have H1:(some (([]:List (List Int)),1)) = some (r1,r2):=zz3;clear H;have H:=H1;clear H1;simp only [Option.some.injEq,Prod.mk.injEq] at H;obtain ⟨rfl,rfl⟩:=H;have hnb21:=NB201_200.out;have hnc21:=NB200_201.out;obtain ⟨hcz22_0,hfz22_0⟩:=zc1 BK201.out
     go_wp2
     refine bodyPost_ret (wZ rfl _ _ gb201 24 #[.slice none 0 0] (0,0) _ rfl (have h0_:=BK201;zz23) Tryd.underlying24 rfl (zz0)) rfl ?_
     exact ⟨_,zz14,zz24,zz22⟩
    ·replace c20:=Bool.eq_false_iff.mpr c20;subst c20;have H1:(U15.l0 kj4 l1 0 l1 (l1.length:Int) 0 l0_0) = some (r1,r2):=zz7;clear H;have H:=H1;clear H1;have H':=wA.mk H;clear H
     go_wp2
     go_loopg [7,39] kj4 (fun kq v7 v39 w'=>∃ (x7_2:Int) (x39_2:Int),v7 = .int .i64 x7_2∧v39 = .int .i64 x39_2∧wA (U15.l0 kq l1 x7_2 l1 (l1.length:Int) x39_2 l0_0 = some (r1,r2))∧wA (kq≤kj4)∧wA (w'.heap[gb200]? = some (.cells #[(.slice A0_0 l0_0.length c0_0)] 24 (0,0)))∧wA (w'.heap[gb201]? = some (.cells #[(.slice none 0 0)] 24 (0,0)))∧wA (Below w.heap.size w w'))
     case atStart=>exact ⟨(0),(0),(zz1),(zz1),H',⟨Nat.le_refl _⟩,⟨zz20⟩,⟨zz21⟩,⟨zz22⟩⟩
     case round =>
      clear H'
      (try clear hx2);(try clear qi2);(try clear c20);(try clear hcz15_0);(try clear hcz18_0);(try clear hcz9_0);(try clear hfz15_0);(try clear hfz18_0);(try clear hfz9_0);(try clear hx204_0)
      obtain ⟨x7_2,x39_2,rfl,rfl,HA,HK2,BK200,BK201,HB⟩:=hrel
      cases gk with
      | zero=>exact absurd HA.out (by simp [U15.l0])
      | succ k2 =>
       have H:=HA.out;clear HA;simp only [U15.l0] at H;replace H:=zzj H;rcases H with ⟨c23,H⟩|⟨c23,H⟩
       ·have c23b0:=decide_eq_true c23;clear c23;replace H:=zzi H;obtain ⟨c24,H⟩:=H;have c24b0:=decide_eq_true c24;clear c24;replace H:=zzi H;obtain ⟨c25,H⟩:=H;have c25b0:=decide_eq_true c25;clear c25;replace H:=zzj H;rcases H with ⟨c26,H⟩|⟨c26,H⟩
        ·have c26b0:=beq_iff_eq.mpr c26;have c26b1:=bne_eq_false_iff_eq.mpr c26;clear c26;have H':=wA.mk H;clear H;have p205:0≤(x39_2:Int):=of_decide_eq_true (zz4);have q205:x39_2 < (l1.length:Int):=of_decide_eq_true (zz4);obtain ⟨ad205,e205,hx205_0⟩:=Kd.at_int HR1.out x39_2 p205 q205
         cases e205
         replace hx205_0:=(HB.out.cell (World.block_lt_of_cell? w _ hx205_0)).trans hx205_0;replace p205:=eq_true p205;replace q205:=eq_true q205
         go_wp2
         go_roundg k2
         case measure=>have:=HJ4.out;have:=HK2.out;omega
         case rel=>exact ⟨(rd l1 x39_2),(wrap64 (x39_2+1)),(zz1),(zz1),H',⟨by have:=HJ4.out;have:=HK2.out;omega⟩,⟨zz20⟩,⟨zz21⟩,⟨zz22⟩⟩
        ·have c26b0:=beq_eq_false_iff_ne.mpr c26;have c26b1:=bne_iff_ne.mpr c26;replace H:=zzj H;rcases H with ⟨c27,H⟩|⟨c27,H⟩
         ·have c27b0:=beq_iff_eq.mpr c27;have c27b1:=bne_eq_false_iff_eq.mpr c27;clear c27;have H':=wA.mk H;clear H;have p205:0≤(x39_2:Int):=of_decide_eq_true (zz4);have q205:x39_2 < (l1.length:Int):=of_decide_eq_true (zz4);obtain ⟨ad205,e205,hx205_0⟩:=Kd.at_int HR1.out x39_2 p205 q205
          cases e205
          replace hx205_0:=(HB.out.cell (World.block_lt_of_cell? w _ hx205_0)).trans hx205_0;replace p205:=eq_true p205;replace q205:=eq_true q205
          go_wp2
          go_roundg k2
          case measure=>have:=HJ4.out;have:=HK2.out;omega
          case rel=>exact ⟨(rd l1 x39_2),(wrap64 (x39_2+1)),(zz1),(zz1),H',⟨by have:=HJ4.out;have:=HK2.out;omega⟩,⟨zz20⟩,⟨zz21⟩,⟨zz22⟩⟩
         ·have c27b0:=beq_eq_false_iff_ne.mpr c27;have c27b1:=bne_iff_ne.mpr c27;simp only [Option.some.injEq,Prod.mk.injEq] at H;obtain ⟨rfl,rfl⟩:=H;have p205:0≤(x39_2:Int):=of_decide_eq_true (zz4);have q205:x39_2 < (l1.length:Int):=of_decide_eq_true (zz4);obtain ⟨ad205,e205,hx205_0⟩:=Kd.at_int HR1.out x39_2 p205 q205
          cases e205
          replace hx205_0:=(HB.out.cell (World.block_lt_of_cell? w _ hx205_0)).trans hx205_0;replace p205:=eq_true p205;replace q205:=eq_true q205;have hnb28:=NB201_200.out;have hnc28:=NB200_201.out;obtain ⟨hcz29_0,hfz29_0⟩:=zc1 BK201.out
          go_wp2
          refine bodyPost_ret (wZ rfl _ _ gb201 24 #[.slice none 0 0] (0,0) _ rfl (have h0_:=BK201;zz23) Tryd.underlying24 rfl (zz0)) rfl ?_
          exact ⟨_,zz14,zz24,zz22⟩
       ·have c23b0:=decide_eq_false c23;clear c23;replace H:=zzj H;rcases H with ⟨c30,H⟩|⟨c30,H⟩
        ·have c30b0:=beq_iff_eq.mpr c30;have c30b1:=bne_eq_false_iff_eq.mpr c30;clear c30;simp only [Option.some.injEq,Prod.mk.injEq] at H;obtain ⟨rfl,rfl⟩:=H;have hnb31:=NB201_200.out;have hnc31:=NB200_201.out;obtain ⟨hcz32_0,hfz32_0⟩:=zc1 BK201.out
         go_wp2
         refine bodyPost_ret (wZ rfl _ _ gb201 24 #[.slice none 0 0] (0,0) _ rfl (have h0_:=BK201;zz23) Tryd.underlying24 rfl (zz0)) rfl ?_
         exact ⟨_,zz14,zz24,zz22⟩
        ·have c30b0:=beq_eq_false_iff_ne.mpr c30;have c30b1:=bne_iff_ne.mpr c30;have H':=wA.mk H;clear H
         go_wp2_with (first|((with_reducible refine wK (N:=10) rfl ?_);refine wM ?hg (N:=10) ?hd (cs:=#[.slice none 0 0]) (t:=24) ?hr ?_;(case hd=>rfl);(case hg=>rfl);(case hr=>exact zz205);intro gb206 hg w33 hbox hb;have BK206:=wA.mk (hbox);have GW206:=wA.mk ((by rw [hg];exact (wB (zz22)):w.heap.size≤gb206));have GE206:=wA.mk ((by rw [hg];exact (wB (zz22)):w.heap.size≤gb206));replace HB:=wA.mk (wG (zz22) hb);have NB200_206:=wA.mk ((by rw [hg];exact Nat.ne_of_lt (wJ (g:=gb200) (o:=.cells #[.slice A0_0 l0_0.length c0_0] 24 (0,0)) (zz20)):gb200 ≠ gb206));have NB206_200:=wA.mk ((by rw [hg];exact Nat.ne_of_gt (wJ (g:=gb200) (o:=.cells #[.slice A0_0 l0_0.length c0_0] 24 (0,0)) (zz20)):gb206 ≠ gb200));replace BK200:=wA.mk (wC (zz20) hb);have NB201_206:=wA.mk ((by rw [hg];exact Nat.ne_of_lt (wJ (g:=gb201) (o:=.cells #[.slice none 0 0] 24 (0,0)) (zz21)):gb201 ≠ gb206));have NB206_201:=wA.mk ((by rw [hg];exact Nat.ne_of_gt (wJ (g:=gb201) (o:=.cells #[.slice none 0 0] 24 (0,0)) (zz21)):gb206 ≠ gb201));replace BK201:=wA.mk (wC (zz21) hb);clear hb hbox hg;have hnb34:=NB200_201.out;have hnc34:=NB201_200.out;have hnb35:=NB200_206.out;have hnc35:=NB206_200.out;obtain ⟨hcz36_0,hfz36_0⟩:=zc1 BK200.out))
         go_loopg [61] k2 (fun kq v61 w'=>∃ (x61_3:Int) (x207000_3:List (List Int)) (u207000:Value),v61 = .int .i64 x61_3∧wA (U15.l1 kq l1 x7_2 l0_0 (l0_0.length:Int) x61_3 x207000_3 = some (r1,r2))∧wA (kq≤k2)∧wA (Kd.S (Kd.slice 3 (Kd.int .i64)) 31 w' w.heap.size (fun _=>True) u207000 x207000_3)∧wA (w'.heap[gb200]? = some (.cells #[(.slice A0_0 l0_0.length c0_0)] 24 (0,0)))∧wA (w'.heap[gb201]? = some (.cells #[(.slice none 0 0)] 24 (0,0)))∧wA (w'.heap[gb206]? = some (.cells #[u207000] 24 (0,0)))∧wA (Below w.heap.size w w'))
         case atStart=>exact ⟨(0),(([]:List (List Int))),(.slice none 0 0),(zz1),H',⟨Nat.le_refl _⟩,⟨zz24⟩,⟨zz20⟩,⟨zz21⟩,⟨(have h0_:=BK206;zz12)⟩,⟨zz25⟩⟩
         case round =>
          clear H'
          (try clear hx2);(try clear qi2);(try clear hx20);(try clear qi20);clear c23b0 c30 c30b0 c30b1;(try clear hcz15_0);(try clear hcz18_0);(try clear hcz22_0);(try clear hcz36_0);(try clear hcz9_0);(try clear hfz15_0);(try clear hfz18_0);(try clear hfz22_0);(try clear hfz36_0);(try clear hfz9_0);(try clear hx204_0)
          obtain ⟨x61_3,x207000_3,u207000,rfl,HA,HK3,HO_207000,BK200,BK201,BK206,HB⟩:=hrel
          cases gk with
          | zero=>exact absurd HA.out (by simp [U15.l1])
          | succ k3 =>
           have H:=HA.out;clear HA;simp only [U15.l1] at H;replace H:=zzj H;rcases H with ⟨c37,H⟩|⟨c37,H⟩
           ·have c37b0:=decide_eq_true c37;clear c37;replace H:=zzi H;obtain ⟨c38,H⟩:=H;have c38b0:=decide_eq_true c38;clear c38;replace H:=zzi H;obtain ⟨c39,H⟩:=H;have c39b0:=decide_eq_true c39;clear c39;obtain ⟨ji40,hji40⟩:∃ j_:Int,(wrap64 (x7_2+1)) = j_:=⟨_,rfl⟩;replace H:(if 0≤(ji40) then (if (ji40:Int).toNat≤35184372088832 then (U15.l2 k3 l1 x7_2 (List.replicate (ji40:Int).toNat 0) l0_0 (l0_0.length:Int) x61_3 (rd_L1 l0_0 x61_3) ((rd_L1 l0_0 x61_3).length:Int) 0 x207000_3) else (none)) else (none)) = some (r1,r2):=(have h0_:=hji40;zz19);have hji40w:(IntKind.i64.wrap (x7_2+1)) = ji40:=(yL _).trans hji40;replace H:=zzi H;obtain ⟨c41,H⟩:=H;have c41b0:=eq_true c41;have c41b1:=decide_eq_true c41;clear c41;replace H:=zzi H;obtain ⟨c42,H⟩:=H;have c42b0:=eq_true c42;have c42b1:=decide_eq_true c42;clear c42;obtain ⟨y208,hy208⟩:∃ y_:List Int,y_ = (List.replicate (ji40:Int).toNat 0):=⟨_,rfl⟩;replace H:(U15.l2 k3 l1 x7_2 y208 l0_0 (l0_0.length:Int) x61_3 (rd_L1 l0_0 x61_3) ((rd_L1 l0_0 x61_3).length:Int) 0 x207000_3) = some (r1,r2):=(have h0_:=hy208;zz16);have Ny208:=wA.mk hy208;clear hy208;have H':=wA.mk H;clear H;have p207:0≤(x61_3:Int):=of_decide_eq_true (zz4);have q207:x61_3 < (l0_0.length:Int):=of_decide_eq_true (zz4);obtain ⟨ad207,A207_0,c207_0,e207,hx207_0,hl207_0,hi207_0⟩:=at_L1 HR0_0.out x61_3 p207 q207
            cases e207
            replace hx207_0:=(HB.out.cell (World.block_lt_of_cell? w _ hx207_0)).trans hx207_0;have HR207_0:=wA.mk hi207_0;have HC207_0:=wA.mk hl207_0;clear hi207_0 hl207_0;replace p207:=eq_true p207;replace q207:=eq_true q207
            go_wp2_with (first|((with_reducible refine wK (N:=67) rfl ?_);refine Kd.R_make (Kd.int .i64) _ 3 rfl (N:=67) rfl 31 _ _ rfl ji40 rfl rfl Tryd.underlying31 (.int .i64 0) 8 info3 rfl (zz17) (zz15) 0 (ok:=fun _=>True) (okp:=fun _=>True) rfl (fun _ hk=>hk) trivial (of_decide_eq_true (zz4)) (Nat.le_trans (Nat.mul_le_mul_right _ (of_decide_eq_true (zz4):ji40.toNat≤35184372088832)) (zz15)) (Below.refl _ _) (Nat.le_refl _) ?_;intro v209 w43 ho44 hb hg_ hnew_;clear hg_ hnew_;(first|rw [← Ny208.out] at ho44|(simp only [Int.reduceToNat] at ho44;rw [← Ny208.out] at ho44));replace HO_207000:=wA.mk (Kd.S_elder' (have h0_:=HO_207000;zz26) (Kd.R_base ho44) hb);have HO210:=wA.mk (Kd.R_lower ho44 (wB (zz25)));replace BK200:=wA.mk (wC (zz20) hb);replace BK201:=wA.mk (wC (zz21) hb);replace BK206:=wA.mk (wC (have h0_:=BK206;zz12) hb);replace HB:=wA.mk (wG (zz25) hb);clear hb ho44))
            go_loopg [70] k3 (fun kq v70 w'=>∃ (x13_4:List Int) (x70_4:Int),v70 = .int .i64 x70_4∧wA (U15.l2 kq l1 x7_2 x13_4 l0_0 (l0_0.length:Int) x61_3 (rd_L1 l0_0 x61_3) ((rd_L1 l0_0 x61_3).length:Int) x70_4 x207000_3 = some (r1,r2))∧wA (kq≤k3)∧wA (Kd.R (Kd.int .i64) 3 w' w.heap.size (fun _=>True) v209 x13_4)∧wA (Kd.S (Kd.slice 3 (Kd.int .i64)) 31 w' w.heap.size (fun k_=>some k_ ≠ (v209:Value).ownBlock) u207000 x207000_3)∧wA (w'.heap[gb200]? = some (.cells #[(.slice (some ad207) l0_0.length c0_0)] 24 (0,0)))∧wA (w'.heap[gb201]? = some (.cells #[(.slice none 0 0)] 24 (0,0)))∧wA (w'.heap[gb206]? = some (.cells #[u207000] 24 (0,0)))∧wA (Below w.heap.size w w'))
            case atStart=>exact ⟨(y208),(0),(zz1),H',⟨Nat.le_refl _⟩,⟨(have h0_:=HO210;zz18)⟩,⟨(have h0_:=HO_207000;zz27)⟩,⟨zz20⟩,⟨zz21⟩,⟨(have h0_:=BK206;zz12)⟩,⟨zz25⟩⟩
            case round =>
             clear H'
             (try clear hx2);(try clear qi2);(try clear hx20);(try clear qi20);clear c37b0 c38b0 c39b0 c41b0 c41b1 c42b0 c42b1 p207 q207;(try clear hcz15_0);(try clear hcz18_0);(try clear hcz22_0);(try clear hcz29_0);(try clear hcz32_0);(try clear hcz36_0);(try clear hcz9_0);(try clear hfz15_0);(try clear hfz18_0);(try clear hfz22_0);(try clear hfz29_0);(try clear hfz32_0);(try clear hfz36_0);(try clear hfz9_0);(try clear hx204_0);(try clear hx205_0);(try clear hx207_0)
             obtain ⟨x13_4,x70_4,rfl,HA,HK4,HO_13,HO_207000,BK200,BK201,BK206,HB⟩:=hrel
             cases gk with
             | zero=>exact absurd HA.out (by simp [U15.l2])
             | succ k4 =>
              have H:=HA.out;clear HA;simp only [U15.l2] at H;replace H:=zzj H;rcases H with ⟨c45,H⟩|⟨c45,H⟩
              ·have c45b0:=decide_eq_true c45;clear c45;replace H:=zzi H;obtain ⟨c46,H⟩:=H;have c46b0:=decide_eq_true c46;clear c46;replace H:=zzi H;obtain ⟨c47,H⟩:=H;have c47b0:=decide_eq_true c47;clear c47;replace H:=zzi H;obtain ⟨c48,H⟩:=H;have c48b0:=decide_eq_true c48;clear c48;replace H:=zzi H;obtain ⟨c49,H⟩:=H;have c49b0:=decide_eq_true c49;clear c49;replace H:=zzi H;obtain ⟨c50,H⟩:=H;have c50b0:=decide_eq_true c50;clear c50;obtain ⟨y214,hy214⟩:∃ y_:List Int,y_ = (x13_4.set ((rd l1 x70_4):Int).toNat (wrap64 ((rd x13_4 (rd l1 x70_4))+(rd (rd_L1 l0_0 x61_3) x70_4)))):=⟨_,rfl⟩;replace H:(U15.l2 k4 l1 x7_2 y214 l0_0 (l0_0.length:Int) x61_3 (rd_L1 l0_0 x61_3) ((rd_L1 l0_0 x61_3).length:Int) (wrap64 (x70_4+1)) x207000_3) = some (r1,r2):=(have h0_:=hy214;zz16);have Ny214:=wA.mk hy214;clear hy214;have H':=wA.mk H;clear H;have p211:0≤(x70_4:Int):=of_decide_eq_true (zz4);have q211:x70_4 < ((rd_L1 l0_0 x61_3).length:Int):=of_decide_eq_true (zz4);obtain ⟨ad211,e211,hx211_0⟩:=Kd.at_int HR207_0.out x70_4 p211 q211
               cases e211
               replace hx211_0:=(HB.out.cell (World.block_lt_of_cell? w _ hx211_0)).trans hx211_0;replace p211:=eq_true p211;replace q211:=eq_true q211;have p212:0≤(x70_4:Int):=of_decide_eq_true (zz4);have q212:x70_4 < (l1.length:Int):=of_decide_eq_true (zz4);obtain ⟨ad212,e212,hx212_0⟩:=Kd.at_int HR1.out x70_4 p212 q212
               cases e212
               replace hx212_0:=(HB.out.cell (World.block_lt_of_cell? w _ hx212_0)).trans hx212_0;replace p212:=eq_true p212;replace q212:=eq_true q212;obtain ⟨Ao52,co52,eo52⟩:=Kd.R_slice HO_13.out;subst eo52;have p213:0≤((rd l1 x70_4):Int):=of_decide_eq_true (zz4);have q213:(rd l1 x70_4) < (x13_4.length:Int):=of_decide_eq_true (zz4);obtain ⟨ad213,e213,hx213_0⟩:=Kd.at_int (Kd.R_reads' HO_13.out).2.2 (rd l1 x70_4) p213 q213
               cases e213
               replace p213:=eq_true p213;replace q213:=eq_true q213;have p51:0≤((rd l1 x70_4):Int):=of_decide_eq_true (zz4);have q51:((rd l1 x70_4):Int) < ((x13_4.length:Int):Int):=of_decide_eq_true (zz4);obtain ⟨go51,co51,eo51,gb51,gl51,cl51,HG51⟩:=Kd.R_form HO_13.out (zz15)
               (first|cases eo51|(injection eo51 with ea_ en_ ec_;(first|subst ea_|(injection ea_ with ea_;subst ea_));subst ec_;clear en_))
               have GB51:=wA.mk gb51;have GG51:=wA.mk HG51;clear gb51 gl51 HG51
               (first|simp only [vE] at hx213_0|skip)
               obtain ⟨hx51_0,hf51_0⟩:=Kd.R_celln 0 HO_13.out ((rd l1 x70_4):Int) p51 q51;replace p51:=eq_true p51;replace q51:=eq_true q51;obtain ⟨hy53_,hz53_⟩:=Kd.R_celln 0 HO_13.out ((rd l1 x70_4):Int) (of_decide_eq_true (zz4)) (of_decide_eq_true (zz4));have HP53:=Kd.R_putg HO_13.out ((rd l1 x70_4):Int) (wrap64 ((rd x13_4 (rd l1 x70_4))+(rd (rd_L1 l0_0 x61_3) x70_4)))
               go_wp2_with (first|((with_reducible refine yI (t:=3) (p:=84) rfl ?_);refine yC (t:=3) (p:=84) (v:=?vo_w54) (w1:=(wr.setCell ⟨go51,((rd l1 x70_4):Int).toNat,none⟩ (.int .i64 (wrap64 ((rd x13_4 (rd l1 x70_4))+(rd (rd_L1 l0_0 x61_3) x70_4)))))) ?hg ?ho ?hn ?hr ?_;(case ho=>rfl);(case hg=>rfl);(case hn=>rfl);(case hr=>exact zz205);intro w54 hw;have hg:wr.grownBy w54 (some go51):=(by rw [hw];exact HP53.2);have hp_:Kd.R (Kd.int .i64) 3 w54 w.heap.size (fun _=>True) (.slice (some ⟨go51,0,none⟩) x13_4.length co52) y214:=(by rw [hw,Ny214.out];exact HP53.1);clear HP53;replace HO_207000:=wA.mk (Kd.S_after (v:=(.slice (some ⟨go51,0,none⟩) x13_4.length co52)) (v1:=(.slice (some ⟨go51,0,none⟩) x13_4.length co52)) (ok:=(fun _=>True)) (have h0_:=HO_207000;zz28) hg (.inl rfl));replace BK200:=wA.mk (yR (g:=gb200) (o:=.cells #[.slice (some ad207) l0_0.length c0_0] 24 (0,0)) (zz20) hg (Kd.R_ne HO_13.out BK200.out (zz17)));replace BK201:=wA.mk (yR (g:=gb201) (o:=.cells #[.slice none 0 0] 24 (0,0)) (zz21) hg (Kd.R_ne HO_13.out BK201.out (zz17)));replace BK206:=wA.mk (yR (g:=gb206) (o:=.cells #[u207000] 24 (0,0)) (have h0_:=BK206;zz12) hg (Kd.R_ne HO_13.out BK206.out (zz17)));replace HO_13:=wA.mk (hp_);replace HB:=wA.mk ((by rw [hw];exact wL (HB.out) GB51.out:Below w.heap.size w w54));clear hg hw hp_))
               go_roundg k4
               case measure=>have:=HJ4.out;have:=HK2.out;have:=HK3.out;have:=HK4.out;omega
               case rel=>exact ⟨(y214),(wrap64 (x70_4+1)),(zz1),H',⟨by have:=HJ4.out;have:=HK2.out;have:=HK3.out;have:=HK4.out;omega⟩,⟨(have h0_:=HO_13;zz18)⟩,⟨(have h0_:=HO_207000;zz27)⟩,⟨zz20⟩,⟨zz21⟩,⟨(have h0_:=BK206;zz12)⟩,⟨zz25⟩⟩
              ·have c45b0:=decide_eq_false c45;clear c45;replace H:=zzi H;obtain ⟨c55,H⟩:=H;have LMc55:=wA.mk c55;clear c55;obtain ⟨y215,hy215⟩:∃ y_:List (List Int),y_ = (x207000_3++[x13_4]):=⟨_,rfl⟩;replace H:(U15.l1 k4 l1 x7_2 l0_0 (l0_0.length:Int) (wrap64 (x61_3+1)) y215) = some (r1,r2):=(have h0_:=hy215;zz16);have Ny215:=wA.mk hy215;clear hy215;have H':=wA.mk H;clear H;have hnb56:=NB206_200.out;have hnc56:=NB200_206.out;have hnb57:=NB206_201.out;have hnc57:=NB201_206.out;obtain ⟨hcz58_0,hfz58_0⟩:=zc1 BK206.out;obtain ⟨Ao60,co60,eo60⟩:=Kd.R_slice HO_13.out;subst eo60
               go_wp2_with (first|((with_reducible refine yT (b:=.append) (xs:=#[.tmp 87,.tmp 89]) rfl ?_);at_builtin;refine Kd.S_append (Kd.slice 3 (Kd.int .i64)) (w0:=w) w.heap.size rfl (.tmp 87) (.tmp 89) 22 31 (.slice none 0 0) 24 rfl Tryd.underlying22 info31 rfl (zz17) (zz15) u207000 x207000_3 x13_4 [.slice Ao60 x13_4.length co60] (fun _=>True) (fun k_=>some k_ = (.slice Ao60 x13_4.length co60:Value).ownBlock) rfl rfl ?aP (fun k_ hk_=>((Kd.R_mono (ok':=fun k_=>((fun _=>True)) k_∧some k_ ≠ (u207000:Value).ownBlock) (Kd.R_apart' (HO_13.out) (Kd.S_typed HO_207000.out) (zz17)) (fun k_ hk=>⟨trivial,hk.2⟩))).1 k_ hk_.symm) ?aF ?aO ?aB ?aS ?aL ?_;(case aP=>exact Kd.M_row (Kd.R_mono (Kd.R_tight rfl (Kd.R_mono (ok':=fun k_=>((fun _=>True)) k_∧some k_ ≠ (u207000:Value).ownBlock) (Kd.R_apart' (HO_13.out) (Kd.S_typed HO_207000.out) (zz17)) (fun k_ hk=>⟨trivial,hk.2⟩))) (fun _ h_=>h_)));(case aB=>exact (zz25));(case aF=>exact zz207);(case aO=>exact (by (with_reducible repeat (first|apply Kd.S_alloc|apply Kd.S_drewN|apply Kd.S_drew));exact Kd.S_mono HO_207000.out (fun k_ hk=>⟨trivial,fun e_=>hk e_⟩)));(case aS=>exact (wB (zz25)));(case aL=>have:=LMc55.out;omega);intro v216 w59 ho hb hg hat;rw [← Ny215.out] at ho;replace BK200:=wA.mk (yR (g:=gb200) (o:=.cells #[.slice (some ad207) l0_0.length c0_0] 24 (0,0)) (zz20) hg (Kd.S_ne HO_207000.out BK200.out (zz17)));replace BK201:=wA.mk (yR (g:=gb201) (o:=.cells #[.slice none 0 0] 24 (0,0)) (zz21) hg (Kd.S_ne HO_207000.out BK201.out (zz17)));replace BK206:=wA.mk (yR (g:=gb206) (o:=.cells #[u207000] 24 (0,0)) (have h0_:=BK206;zz12) hg (Kd.S_ne HO_207000.out BK206.out (zz17)));replace HB:=wA.mk (hb);have HO217:=wA.mk (ho);clear HO_207000 HO_13;clear ho hb hg hat;obtain ⟨Ao61,co61,eo61⟩:=Kd.S_slice HO217.out;subst eo61;obtain ⟨hcz62_0,hfz62_0⟩:=zc1 BK206.out))
               go_roundg k4
               case measure=>have:=HJ4.out;have:=HK2.out;have:=HK3.out;have:=HK4.out;omega
               case rel=>exact ⟨(wrap64 (x61_3+1)),(y215),(.slice Ao61 y215.length co61),(zz1),H',⟨by have:=HJ4.out;have:=HK2.out;have:=HK3.out;have:=HK4.out;omega⟩,⟨by (with_reducible repeat (first|apply Kd.S_alloc|apply Kd.S_drewN|apply Kd.S_drew));exact Kd.S_mono (Kd.S_far (p:=⟨gb206,0,none⟩) (Kd.S_types HO217.out BK206.out (zz17)) (fun _ hk=>hk.2) (.slice Ao61 y215.length co61)) (fun _ hk=>trivial)⟩,⟨by (with_reducible repeat (first|refine wE ?_ _|refine wF ?_|refine wD ?_ _));refine wN ?_ NB200_206.out _;(with_reducible repeat (first|refine wE ?_ _|refine wF ?_|refine wD ?_ _));exact BK200.out⟩,⟨by (with_reducible repeat (first|refine wE ?_ _|refine wF ?_|refine wD ?_ _));refine wN ?_ NB201_206.out _;(with_reducible repeat (first|refine wE ?_ _|refine wF ?_|refine wD ?_ _));exact BK201.out⟩,⟨by (with_reducible repeat (first|refine wE ?_ _|refine wF ?_|refine wD ?_ _));refine wP (cs:=#[u207000]) ?_ 0 _ rfl;(with_reducible repeat (first|refine wE ?_ _|refine wF ?_|refine wD ?_ _));exact BK206.out⟩,⟨zz25⟩⟩
           ·have c37b0:=decide_eq_false c37;clear c37;simp only [Option.some.injEq,Prod.mk.injEq] at H;obtain ⟨rfl,rfl⟩:=H;have hnb63:=NB206_200.out;have hnc63:=NB200_206.out;have hnb64:=NB206_201.out;have hnc64:=NB201_206.out;obtain ⟨hcz65_0,hfz65_0⟩:=zc1 BK206.out;obtain ⟨Ao66,co66,eo66⟩:=Kd.S_slice HO_207000.out;subst eo66;have hnb67:=NB201_200.out;have hnc67:=NB200_201.out;obtain ⟨hcz68_0,hfz68_0⟩:=zc1 BK201.out
            go_wp2
            refine bodyPost_ret (wZ rfl _ _ gb201 24 #[.slice Ao66 x207000_3.length co66] (0,0) _ rfl (have h0_:=BK201;zz23) Tryd.underlying24 rfl (zz0)) rfl ?_
            exact ⟨_,zz14,by (with_reducible repeat (first|apply Kd.S_alloc|apply Kd.S_drewN|apply Kd.S_drew));exact Kd.S_mono (Kd.S_far (p:=⟨gb201,0,none⟩) (Kd.S_types HO_207000.out BK201.out (zz17)) (fun _ hk=>hk.2) (.slice Ao66 x207000_3.length co66)) (fun _ hk=>trivial),zz25⟩
 ·have c4b0:=beq_eq_false_iff_ne.mpr c4;have c4b1:=bne_iff_ne.mpr c4;simp only [Option.some.injEq,Prod.mk.injEq] at H;obtain ⟨rfl,rfl⟩:=H;go_enter Tryd.func26,Tryd.ntmps26
  go_wp2_with (first|((with_reducible refine wK (N:=2) rfl ?_);refine wM ?hg (N:=2) ?hd (cs:=#[.slice A0_0 l0_0.length c0_0]) (t:=24) ?hr ?_;(case hd=>rfl);(case hg=>rfl);(case hr=>exact zz205);intro gb200 hg w69 hbox hb;have BK200:=wA.mk (hbox);have GW200:=wA.mk ((by rw [hg];exact (wB (zz10)):w.heap.size≤gb200));have GE200:=wA.mk ((by rw [hg];exact (wB (zz10)):w.heap.size≤gb200));replace HB:=wA.mk (wG (zz10) hb);clear hb hbox hg)|((with_reducible refine wK (N:=4) rfl ?_);refine wM ?hg (N:=4) ?hd (cs:=#[.slice none 0 0]) (t:=24) ?hr ?_;(case hd=>rfl);(case hg=>rfl);(case hr=>exact zz205);intro gb201 hg w70 hbox hb;have BK201:=wA.mk (hbox);have GW201:=wA.mk ((by rw [hg];exact (wB (have h0_:=GE200;zz13)):w.heap.size≤gb201));have GE201:=wA.mk ((by rw [hg];exact (wB (have h0_:=GE200;zz13)):w.heap.size≤gb201));replace HB:=wA.mk (wG (have h0_:=GE200;zz13) hb);have NB200_201:=wA.mk ((by rw [hg];exact Nat.ne_of_lt (wJ (g:=gb200) (o:=.cells #[.slice A0_0 l0_0.length c0_0] 24 (0,0)) (zz20)):gb200 ≠ gb201));have NB201_200:=wA.mk ((by rw [hg];exact Nat.ne_of_gt (wJ (g:=gb200) (o:=.cells #[.slice A0_0 l0_0.length c0_0] 24 (0,0)) (zz20)):gb201 ≠ gb200));replace BK200:=wA.mk (wC (zz20) hb);clear hb hbox hg;have hnb71:=NB200_201.out;have hnc71:=NB201_200.out;obtain ⟨hcz72_0,hfz72_0⟩:=zc1 BK200.out)|((with_reducible refine wH (f:=14) rfl ?_);refine wO (some 20) rfl rfl Tryd.func14 (zz0) rfl #[.agg #[.slice A0_0 l0_0.length c0_0],.int .i64 (l0_0.length:Int)] rfl (zz5) ?_;(with_reducible refine (U21.calls k _ _ l0_0 (l0_0.length:Int) t202 _ ?_ ?_ A3.out).mono ?_);exact zz210;exact zz211;rintro e w73 ⟨rfl,hb⟩;refine ⟨_,rfl,?_⟩;replace BK200:=wA.mk (wC (zz20) hb);replace BK201:=wA.mk (wC (zz21) hb);replace HB:=wA.mk (wG (zz22) hb);(try clear hb);obtain ⟨hcz74_0,hfz74_0⟩:=zc1 BK201.out))
  refine bodyPost_ret (wZ rfl _ _ gb201 24 #[.slice none 0 0] (0,0) _ rfl (have h0_:=BK201;zz23) Tryd.underlying24 rfl (zz0)) rfl ?_
  exact ⟨_,zz14,zz24,zz22⟩
end Go.Proofs.YtfkmbjkmlfnapaaDoor.QA
