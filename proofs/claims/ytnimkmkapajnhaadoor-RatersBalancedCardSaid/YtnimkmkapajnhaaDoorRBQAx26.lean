import Derived.Test.YtnimkmkapajnhaaDoorRBQAx0
import Derived.Test.YtnimkmkapajnhaaDoorRBQAx8
import Derived.Test.YtnimkmkapajnhaaDoorRBQAx25
namespace Go.Proofs.YtnimkmkapajnhaaDoor.QA
open Go.RowKit Go.Proofs.YtnimkmkapajnhaaDoorW.PrintWords Go.Proofs.YtnimkmkapajnhaaDoorW.PrintLast Go.Proofs.YtnimkmkapajnhaaDoorW.PrintMore
attribute [local go_sem] yE yA yI yJ wY wX yC yD
set_option linter.unusedVariables false
set_option linter.unusedSimpArgs false
mutual
def U9.j0:Nat→Int→Int→Bool→Option (List Int × Int)
 | 0,_,_,_=>none
 | k+1,x0,x1,x17=>if x17 = true then (some (([]:List Int),x0)) else (U9.l0 k x0 x1 ([]:List Int) 0)
def U9.l0:Nat→Int→Int→List Int→Int→Option (List Int × Int)
 | 0,_,_,_,_=>none
 | k+1,x0,x1,x6,x7=>if x7 < x1 then (if x6.length < 17592186044416 then (U9.l0 k x0 x1 (x6++[x7]) (wrap64 (x7+1))) else (none)) else (U9.l1 k x0 x6 (wrap64 (x1 - 1)))
def U9.l1:Nat→Int→List Int→Int→Option (List Int × Int)
 | 0,_,_,_=>none
 | k+1,x0,x6,x8=>if x8≥1 then ((U7.f x0 (wrap64 (x8+1))).bind fun bt880=>(if 0≤x8 then (if x8 < (x6.length:Int) then (if 0≤bt880.1 then (if bt880.1 < (x6.length:Int) then (U9.l1 k bt880.2 ((x6.set (x8:Int).toNat (rd x6 bt880.1)).set (bt880.1:Int).toNat (rd x6 x8)) (wrap64 (x8 - 1))) else (none)) else (none)) else (none)) else (none))) else (some (x6,x0))
end
def U9.f (k:Nat) (a0:Int) (a1:Int):Option (List Int × Int):=if a1 < 0 then (U9.j0 k a0 a1 true) else (U9.j0 k a0 a1 (decide (a1 > 1024)))
theorem zm29_0 {P:Prop} (h:P:=by repeat' first|(with_reducible first|exact ih0 ..|exact ih1 ..|exact ih2 ..|exact LeO.refl _|exact LeO.none _|refine LeO.ite ?_ ?_|refine LeO.bind ?_ (fun _=>?_))|exact ih0 ..|exact ih1 ..|exact ih2 ..|exact LeO.none _|refine LeO.ite ?_ ?_|refine LeO.bind ?_ (fun _=>?_)):P:=h
theorem U9.mono_l:∀ k,(∀ y0 y1 y2,LeO (U9.j0 k y0 y1 y2) (U9.j0 (k+1) y0 y1 y2))∧(∀ y0 y1 y2 y3,LeO (U9.l0 k y0 y1 y2 y3) (U9.l0 (k+1) y0 y1 y2 y3))∧(∀ y0 y1 y2,LeO (U9.l1 k y0 y1 y2) (U9.l1 (k+1) y0 y1 y2))
 | 0=>⟨fun _ _ _ r h=>by simp [U9.j0] at h,fun _ _ _ _ r h=>by simp [U9.l0] at h,fun _ _ _ r h=>by simp [U9.l1] at h⟩
 | k+1=>by
  obtain ⟨ih0,ih1,ih2⟩:=U9.mono_l k;refine ⟨?_,?_,?_⟩
  ·intro y0 y1 y2;unfold U9.j0
   exact zm29_0
  ·intro y0 y1 y2 y3;unfold U9.l0
   exact zm29_0
  ·intro y0 y1 y2;unfold U9.l1
   exact zm29_0
theorem U9.mono:∀ a0 a1 k,LeO (U9.f k a0 a1) (U9.f (k+1) a0 a1):=by
 intro a0 a1 k;obtain ⟨ih0,ih1,ih2⟩:=U9.mono_l k;unfold U9.f
 exact zm29_0
set_option maxHeartbeats 8000000 in
set_option maxRecDepth 100000 in
theorem U9.calls (k:Nat) (a0:Int) (a1:Int) (r1:List Int) (r2:Int) (w:World) (h:U9.f k a0 a1 = some (r1,r2)) :
  Calls Tryd.prog 40 #[.int .u64 a0,.int .i64 a1] w fun e w'=>∃ v0_:Value,e = .returned (.tuple #[v0_,.int .u64 r2])∧Kd.R (Kd.int .i64) 3 w' w.heap.size (fun _=>True) v0_ r1∧Below w.heap.size w w':=by
 have HB:=wA.mk (Below.refl w.heap.size w);have H:(if a1 < 0 then (U9.j0 k a0 a1 true) else (U9.j0 k a0 a1 (decide (a1 > 1024)))) = some (r1,r2):=h;clear h;have HC3:=wA.mk H;clear H;go_enter Tryd.func40,Tryd.ntmps40
 go_upto_region 1 with (fail)
 go_cut [17] (fun v17 wc=>∃ (kq:Nat) (x17_2:Bool),v17 = .bool x17_2∧wA (U9.j0 kq a0 a1 x17_2 = some (r1,r2))∧wA (kq≤k)∧wA (Below w.heap.size w wc))
 case first =>
  have H:=HC3.out;clear HC3;replace H:=zzj H;rcases H with ⟨c4,H⟩|⟨c4,H⟩
  ·have c4b0:=qM c4;clear c4
   (first|rw [c4b0]|rw [c4b1]|(simp only [yS,zF];rw [c4b0])|skip);have H':=wA.mk H;clear H
   go_wp2
   go_meet
   case rel=>exact ⟨_,(true),(zz2),H',⟨zz28⟩,⟨zz3⟩⟩
  ·have c4b0:=qN c4;clear c4
   (first|rw [c4b0]|rw [c4b1]|(simp only [yS,zF];rw [c4b0])|skip);have H':=wA.mk H;clear H
   go_wp2
   go_meet
   case rel=>exact ⟨_,(decide (a1 > 1024)),(zz2),H',⟨zz28⟩,⟨zz3⟩⟩
 case rest =>
  clear HC3;obtain ⟨kq,x17_2,rfl,HA,HJ2,HB⟩:=hcut
  cases kq with
  | zero=>exact absurd HA.out (by simp [U9.j0])
  | succ kj2 =>
   have H:=HA.out;clear HA;simp only [U9.j0] at H;by_cases c5:x17_2 = true
   ·subst c5;have H1:(some (([]:List Int),a0)) = some (r1,r2):=zz18;clear H;have H:=H1;clear H1;simp only [Option.some.injEq,Prod.mk.injEq] at H;obtain ⟨rfl,rfl⟩:=H
    go_wp2
    go_ret2
    exact ⟨_,zz8,zz29,zz3⟩
   ·replace c5:=Bool.eq_false_iff.mpr c5;subst c5;have H1:(U9.l0 kj2 a0 a1 ([]:List Int) 0) = some (r1,r2):=zz19;clear H;have H:=H1;clear H1;have H':=wA.mk H;clear H
    go_wp2
    go_loopg [6,7] kj2 (fun kq v6 v7 w'=>∃ (x6_2:List Int) (x7_2:Int),v7 = .int .i64 x7_2∧wA (U9.l0 kq a0 a1 x6_2 x7_2 = some (r1,r2))∧wA (kq≤kj2)∧wA (Kd.R (Kd.int .i64) 3 w' w.heap.size (fun _=>True) v6 x6_2)∧wA (Below w.heap.size w w'))
    case atStart=>exact ⟨(([]:List Int)),(0),(zz2),H',⟨Nat.le_refl _⟩,⟨zz29⟩,⟨zz3⟩⟩
    case round =>
     clear H'
     (try clear c5);obtain ⟨x6_2,x7_2,rfl,HA,HK2,HO_6,HB⟩:=hrel
     cases gk with
     | zero=>exact absurd HA.out (by simp [U9.l0])
     | succ k2 =>
      have H:=HA.out;clear HA;simp only [U9.l0] at H;replace H:=zzj H;rcases H with ⟨c6,H⟩|⟨c6,H⟩
      ·have c6b0:=qM c6;clear c6;replace H:=zzi H;obtain ⟨c7,H⟩:=H;have LMc7:=wA.mk c7;clear c7;obtain ⟨y877,hy877⟩:∃ y_:List Int,y_ = (x6_2++[x7_2]):=⟨_,rfl⟩;replace H:(U9.l0 k2 a0 a1 y877 (wrap64 (x7_2+1))) = some (r1,r2):=(have h0_:=hy877;zz30);have Ny877:=wA.mk hy877;clear hy877;have H':=wA.mk H;clear H
       go_wp2_with (first|((with_reducible refine yZ (b:=.append) (xs:=#[.tmp 24,.tmp 26]) rfl ?_);at_builtin;refine Kd.R_append (Kd.int .i64) (w0:=w) w.heap.size rfl (.tmp 24) (.tmp 26) 23 3 (.int .i64 0) 8 rfl Tryd.underlying23 info3 rfl (zz26) (zz1) u6 x6_2 x7_2 [.int .i64 x7_2] (fun _=>True) (fun _=>False) rfl rfl ?aP (fun _ hk=>hk.elim) ?aF ?aO ?aB ?aS ?aL ?_;(case aP=>exact rfl);(case aB=>exact (zz3));(case aF=>exact zz166);(case aO=>exact (have h0_:=HO_6;zz31));(case aS=>exact zz165);(case aL=>have:=LMc7.out;omega);intro v878 w8 ho hb hg hat;rw [← Ny877.out] at ho;replace HB:=wA.mk (hb);have HO879:=wA.mk (ho);clear HO_6;clear ho hb hg hat))
       go_roundg k2
       case measure=>have:=HJ2.out;have:=HK2.out;omega
       case rel=>exact ⟨(y877),(wrap64 (x7_2+1)),(zz2),H',⟨by have:=HJ2.out;have:=HK2.out;omega⟩,⟨(have h0_:=HO879;zz31)⟩,⟨zz3⟩⟩
      ·have c6b0:=qN c6;clear c6;have H':=wA.mk H;clear H
       go_wp2
       go_loopg [0,8] k2 (fun kq v0 v8 w'=>∃ (x0_3:Int) (x6_3:List Int) (x8_3:Int),v0 = .int .u64 x0_3∧v8 = .int .i64 x8_3∧wA (U9.l1 kq x0_3 x6_3 x8_3 = some (r1,r2))∧wA (kq≤k2)∧wA (Kd.R (Kd.int .i64) 3 w' w.heap.size (fun _=>True) u6 x6_3)∧wA (Below w.heap.size w w'))
       case atStart=>exact ⟨(a0),(x6_2),(wrap64 (a1 - 1)),(zz2),(zz2),H',⟨Nat.le_refl _⟩,⟨(have h0_:=HO_6;zz31)⟩,⟨zz3⟩⟩
       case round =>
        clear H';clear c6b0;obtain ⟨x0_3,x6_3,x8_3,rfl,rfl,HA,HK3,HO_6,HB⟩:=hrel
        cases gk with
        | zero=>exact absurd HA.out (by simp [U9.l1])
        | succ k3 =>
         have H:=HA.out;clear HA;simp only [U9.l1] at H;replace H:=zzj H;rcases H with ⟨c9,H⟩|⟨c9,H⟩
         ·have c9b0:=qM c9;clear c9;replace H:=Option.bind_eq_some_iff.mp H;obtain ⟨⟨t880,t881⟩,A100,H⟩:=H;have A10:=wA.mk A100;clear A100;replace H:=zzi H;obtain ⟨c11,H⟩:=H;have c11b0:=qM c11;clear c11;replace H:=zzi H;obtain ⟨c12,H⟩:=H;have c12b0:=qM c12;clear c12;replace H:=zzi H;obtain ⟨c13,H⟩:=H;have c13b0:=qM c13;clear c13;replace H:=zzi H;obtain ⟨c14,H⟩:=H;have c14b0:=qM c14;clear c14;obtain ⟨y884,hy884⟩:∃ y_:List Int,y_ = (x6_3.set (x8_3:Int).toNat (rd x6_3 t880)):=⟨_,rfl⟩;replace H:(U9.l1 k3 t881 (y884.set (t880:Int).toNat (rd x6_3 x8_3)) (wrap64 (x8_3 - 1))) = some (r1,r2):=(have h0_:=hy884;zz30);have Ny884:=wA.mk hy884;clear hy884;obtain ⟨y885,hy885⟩:∃ y_:List Int,y_ = (y884.set (t880:Int).toNat (rd x6_3 x8_3)):=⟨_,rfl⟩;replace H:(U9.l1 k3 t881 y885 (wrap64 (x8_3 - 1))) = some (r1,r2):=(have h0_:=hy885;zz30);have Ny885:=wA.mk hy885;clear hy885;have H':=wA.mk H;clear H
          go_wp2_with (first|((with_reducible refine wI (f:=60) rfl ?_);refine wR (some 38) rfl rfl Tryd.func60 (zz0) rfl #[.int .u64 x0_3,.int .i64 (wrap64 (x8_3+1))] rfl (zz20) ?_;(with_reducible refine (U7.calls x0_3 (wrap64 (x8_3+1)) t880 t881 _ A10.out).mono ?_);rintro e w' ⟨rfl,⟨nd,rfl⟩⟩;refine ⟨_,rfl,?_⟩;(try (rw [vL wr];generalize hq_:World.drewN wr _ = wr;have n0_:wA (Kd.R (Kd.int .i64) 3 wr w.heap.size (fun _=>True) u6 x6_3):=⟨by rw [← hq_];exact (have h0_:=HO_6;zz31)⟩;have n1_:wA (Below w.heap.size w wr):=⟨by rw [← hq_];exact (zz3)⟩;clear HO_6 HB hq_;have HO_6:=n0_;have HB:=n1_;clear n0_ n1_));obtain ⟨Ao17,co17,eo17⟩:=Kd.R_slice HO_6.out;subst eo17;have p882:0≤(x8_3:Int):=qL (zz4);have q882:x8_3 < (x6_3.length:Int):=qL (zz4);obtain ⟨ad882,e882,hx882_0⟩:=Kd.at_int (Kd.R_reads' HO_6.out).2.2 x8_3 p882 q882;cases e882;replace p882:=eq_true p882;replace q882:=eq_true q882;have p883:0≤(t880:Int):=qL (zz4);have q883:t880 < (x6_3.length:Int):=qL (zz4);obtain ⟨ad883,e883,hx883_0⟩:=Kd.at_int (Kd.R_reads' HO_6.out).2.2 t880 p883 q883;obtain rfl:ad882 = ad883:=(by injection e883);replace p883:=eq_true p883;replace q883:=eq_true q883;have p15:0≤(x8_3:Int):=qL (zz4);have q15:(x8_3:Int) < ((x6_3.length:Int):Int):=qL (zz4);obtain ⟨go15,co15,eo15,gb15,gl15,cl15,HG15⟩:=Kd.R_form HO_6.out (zz1);(first|cases eo15|(injection eo15 with ea_ en_ ec_;(first|subst ea_|(injection ea_ with ea_;subst ea_));subst ec_;clear en_));have GB15:=wA.mk gb15;have GG15:=wA.mk HG15;clear gb15 gl15 HG15;(first|simp only [zI] at hx882_0|skip);(first|simp only [zI] at hx883_0|skip);obtain ⟨hx15_0,hf15_0⟩:=Kd.R_celln 0 HO_6.out (x8_3:Int) p15 q15;replace p15:=eq_true p15;replace q15:=eq_true q15;obtain ⟨hy18_,hz18_⟩:=Kd.R_celln 0 HO_6.out (x8_3:Int) (qL (zz4)) (qL (zz4));have HP18:=Kd.R_putg HO_6.out (x8_3:Int) (rd x6_3 t880))|((with_reducible refine yN (t:=3) (p:=52) rfl ?_);refine yL (t:=3) (p:=52) (v:=?vo_w19) (w1:=(wr.setCell ⟨go15,(x8_3:Int).toNat,none⟩ (.int .i64 (rd x6_3 t880)))) ?hg ?ho ?hn ?hr ?_;(case ho=>rfl);(case hg=>rfl);(case hn=>rfl);(case hr=>exact zz156);intro w19 hw;have hg:wr.grownBy w19 (some go15):=(by rw [hw];exact HP18.2);have hp_:Kd.R (Kd.int .i64) 3 w19 w.heap.size (fun _=>True) (.slice (some ⟨go15,0,none⟩) x6_3.length co17) y884:=(by rw [hw,Ny884.out];exact HP18.1);clear HP18;replace HO_6:=wA.mk (hp_);replace HB:=wA.mk ((by rw [hw];exact wO (HB.out) GB15.out:Below w.heap.size w w19));clear hg hw hp_;have p16:0≤(t880:Int):=qL (zz4);have q16:(t880:Int) < ((x6_3.length:Int):Int):=qL (zz4);obtain ⟨hx16_0,hf16_0⟩:=Kd.R_celln 0 HO_6.out (t880:Int) p16 q16;replace p16:=eq_true p16;replace q16:=eq_true q16;obtain ⟨hy20_,hz20_⟩:=Kd.R_celln 0 HO_6.out (t880:Int) (qL (zz4)) (qL (zz4));have HP20:=Kd.R_putg HO_6.out (t880:Int) (rd x6_3 x8_3))|((with_reducible refine yN (t:=3) (p:=56) rfl ?_);refine yL (t:=3) (p:=56) (v:=?vo_w21) (w1:=(w19.setCell ⟨go15,(t880:Int).toNat,none⟩ (.int .i64 (rd x6_3 x8_3)))) ?hg ?ho ?hn ?hr ?_;(case ho=>rfl);(case hg=>rfl);(case hn=>rfl);(case hr=>exact zz156);intro w21 hw;have hg:w19.grownBy w21 (some go15):=(by rw [hw];exact HP20.2);have hp_:Kd.R (Kd.int .i64) 3 w21 w.heap.size (fun _=>True) (.slice (some ⟨go15,0,none⟩) x6_3.length co17) y885:=(by rw [hw,Ny885.out];exact HP20.1);clear HP20;replace HO_6:=wA.mk (hp_);replace HB:=wA.mk ((by rw [hw];exact wO (HB.out) GB15.out:Below w.heap.size w w21));clear hg hw hp_))
          go_roundg k3
          case measure=>have:=HJ2.out;have:=HK2.out;have:=HK3.out;omega
          case rel=>exact ⟨(t881),(y885),(wrap64 (x8_3 - 1)),(zz2),(zz2),H',⟨by have:=HJ2.out;have:=HK2.out;have:=HK3.out;omega⟩,⟨(have h0_:=HO_6;zz31)⟩,⟨zz3⟩⟩
         ·have c9b0:=qN c9;clear c9;simp only [Option.some.injEq,Prod.mk.injEq] at H;obtain ⟨rfl,rfl⟩:=H
          go_wp2
          go_ret2
          exact ⟨_,zz8,(have h0_:=HO_6;zz31),zz3⟩
end Go.Proofs.YtnimkmkapajnhaaDoor.QA
