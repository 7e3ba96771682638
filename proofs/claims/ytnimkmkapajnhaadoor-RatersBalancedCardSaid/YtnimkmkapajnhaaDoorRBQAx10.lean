import Derived.Test.YtnimkmkapajnhaaDoorRBQAx0
namespace Go.Proofs.YtnimkmkapajnhaaDoor.QA
open Go.RowKit Go.Proofs.YtnimkmkapajnhaaDoorW.PrintWords Go.Proofs.YtnimkmkapajnhaaDoorW.PrintLast Go.Proofs.YtnimkmkapajnhaaDoorW.PrintMore
attribute [local go_sem] yE yA yI yJ wY wX yC yD
set_option linter.unusedVariables false
set_option linter.unusedSimpArgs false
def U3.f (a0:Int):Option (Int):=some (IntKind.u64.wrap ((IntKind.u64.wrap (a0 * 6364136223846793005))+1442695040888963407))
set_option maxHeartbeats 8000000 in
set_option maxRecDepth 100000 in
theorem U3.calls (a0:Int) (r:Int) (w:World) (h:U3.f a0 = some r) :
  Calls Tryd.prog 86 #[.int .u64 a0] w fun e w'=>e = .returned (.int .u64 r)∧yM w w':=by
 have H:(some (IntKind.u64.wrap ((IntKind.u64.wrap (a0 * 6364136223846793005))+1442695040888963407))) = some r:=h;clear h;obtain rfl:=Option.some.inj H;go_enter Tryd.func86,Tryd.ntmps86
 go_wp2
 go_ret
 exact ⟨zz2,zz9⟩
def U1.f (a0:Int):Option (Int × Int):=(U3.f a0).bind fun t156=>(some ((t156 / 4294967296) % 4294967296,t156))
set_option maxHeartbeats 8000000 in
set_option maxRecDepth 100000 in
theorem U1.calls (a0:Int) (r1:Int) (r2:Int) (w:World) (h:U1.f a0 = some (r1,r2)) :
  Calls Tryd.prog 74 #[.int .u64 a0] w fun e w'=>e = .returned (.tuple #[.int .u32 r1,.int .u64 r2])∧yM w w':=by
 have H:((U3.f a0).bind fun t156=>(some ((t156 / 4294967296) % 4294967296,t156))) = some (r1,r2):=h;clear h;replace H:=zzb H;obtain ⟨t156,A2,H⟩:=H;simp only [Option.some.injEq,Prod.mk.injEq] at H;obtain ⟨rfl,rfl⟩:=H;go_enter Tryd.func74,Tryd.ntmps74
 go_wp2_with (first|((with_reducible refine wI (f:=86) rfl ?_);refine wR (some 6) rfl rfl Tryd.func86 (zz0) rfl #[.int .u64 a0] rfl (zz20) ?_;(with_reducible refine (U3.calls a0 t156 _ A2.out).mono ?_);rintro e w' ⟨rfl,⟨nd,rfl⟩⟩;refine ⟨_,rfl,?_⟩))
 go_ret2
 exact ⟨zz2,zz9⟩
def U0.f (a0:Int) (a1:Int):Option (Int × Int):=if a1 < 1 then (some (0,a0)) else (if a1 > 2147483648 then (some (0,a0)) else ((U1.f a0).bind fun bt157=>(some (wrap64 ((IntKind.u64.wrap ((IntKind.u64.wrap (bt157.1)) * (IntKind.u64.wrap (a1)))) / 4294967296),bt157.2))))
set_option maxHeartbeats 8000000 in
set_option maxRecDepth 100000 in
theorem U0.calls (a0:Int) (a1:Int) (r1:Int) (r2:Int) (w:World) (h:U0.f a0 a1 = some (r1,r2)) :
  Calls Tryd.prog 59 #[.int .u64 a0,.int .i64 a1] w fun e w'=>e = .returned (.tuple #[.int .i64 r1,.int .u64 r2])∧yM w w':=by
 have H:(if a1 < 1 then (some (0,a0)) else (if a1 > 2147483648 then (some (0,a0)) else ((U1.f a0).bind fun bt157=>(some (wrap64 ((IntKind.u64.wrap ((IntKind.u64.wrap (bt157.1)) * (IntKind.u64.wrap (a1)))) / 4294967296),bt157.2))))) = some (r1,r2):=h;clear h;replace H:=zzj H;rcases H with ⟨c3,H⟩|⟨c3,H⟩
 ·have c3b0:=qM c3;clear c3;simp only [Option.some.injEq,Prod.mk.injEq] at H;obtain ⟨rfl,rfl⟩:=H;go_enter Tryd.func59,Tryd.ntmps59
  go_wp2
  go_ret2
  exact ⟨zz2,zz9⟩
 ·have c3b0:=qN c3;clear c3;replace H:=zzj H;rcases H with ⟨c4,H⟩|⟨c4,H⟩
  ·have c4b0:=qM c4;clear c4;simp only [Option.some.injEq,Prod.mk.injEq] at H;obtain ⟨rfl,rfl⟩:=H;go_enter Tryd.func59,Tryd.ntmps59
   go_wp2
   go_ret2
   exact ⟨zz2,zz9⟩
  ·have c4b0:=qN c4;clear c4;replace H:=Option.bind_eq_some_iff.mp H;obtain ⟨⟨t157,t158⟩,A50,H⟩:=H;have A5:=wA.mk A50;clear A50;simp only [Option.some.injEq,Prod.mk.injEq] at H;obtain ⟨rfl,rfl⟩:=H;go_enter Tryd.func59,Tryd.ntmps59
   go_wp2_with (first|((with_reducible refine wI (f:=74) rfl ?_);refine wR (some 16) rfl rfl Tryd.func74 (zz0) rfl #[.int .u64 a0] rfl (zz20) ?_;(with_reducible refine (U1.calls a0 t157 t158 _ A5.out).mono ?_);rintro e w' ⟨rfl,⟨nd,rfl⟩⟩;refine ⟨_,rfl,?_⟩))
   go_ret2
   exact ⟨zz2,zz9⟩
mutual
def U2.j0:Nat→Int→Int→Bool→Option (List Int × Int)
 | 0,_,_,_=>none
 | k+1,x0,x1,x15=>if x15 = true then (some (([]:List Int),x0)) else (if 0≤x1 then (if (x1:Int).toNat≤35184372088832 then ((some (List.replicate (x1:Int).toNat 0:List Int)).bind fun y159=>(U2.l0 k x0 x1 y159 (y159.length:Int) 0)) else (none)) else (none))
def U2.l0:Nat→Int→Int→List Int→Int→Int→Option (List Int × Int)
 | 0,_,_,_,_,_=>none
 | k+1,x0,x1,x6,x20,x21=>if x21 < x20 then (if 0≤x21 then (if x21 < (x6.length:Int) then (U2.l0 k x0 x1 (x6.set (x21:Int).toNat x21) x20 (wrap64 (x21+1))) else (none)) else (none)) else (U2.l1 k x0 x6 (wrap64 (x1 - 1)))
def U2.l1:Nat→Int→List Int→Int→Option (List Int × Int)
 | 0,_,_,_=>none
 | k+1,x0,x6,x8=>if x8≥1 then ((U0.f x0 (wrap64 (x8+1))).bind fun bt163=>(if 0≤bt163.1 then (if bt163.1 < (x6.length:Int) then (if 0≤x8 then (if x8 < (x6.length:Int) then (U2.l1 k bt163.2 ((x6.set (x8:Int).toNat (rd x6 bt163.1)).set (bt163.1:Int).toNat (rd x6 x8)) (wrap64 (x8 - 1))) else (none)) else (none)) else (none)) else (none))) else (some (x6,x0))
end
def U2.f (k:Nat) (a0:Int) (a1:Int):Option (List Int × Int):=if a1 < 0 then (U2.j0 k a0 a1 true) else (U2.j0 k a0 a1 (decide (a1 > 1024)))
theorem zm7_0 {P:Prop} (h:P:=by repeat' first|(with_reducible first|exact ih0 ..|exact ih1 ..|exact ih2 ..|exact LeO.refl _|exact LeO.none _|refine LeO.ite ?_ ?_|refine LeO.bind ?_ (fun _=>?_))|exact ih0 ..|exact ih1 ..|exact ih2 ..|exact LeO.none _|refine LeO.ite ?_ ?_|refine LeO.bind ?_ (fun _=>?_)):P:=h
theorem U2.mono_l:∀ k,(∀ y0 y1 y2,LeO (U2.j0 k y0 y1 y2) (U2.j0 (k+1) y0 y1 y2))∧(∀ y0 y1 y2 y3 y4,LeO (U2.l0 k y0 y1 y2 y3 y4) (U2.l0 (k+1) y0 y1 y2 y3 y4))∧(∀ y0 y1 y2,LeO (U2.l1 k y0 y1 y2) (U2.l1 (k+1) y0 y1 y2))
 | 0=>⟨fun _ _ _ r h=>by simp [U2.j0] at h,fun _ _ _ _ _ r h=>by simp [U2.l0] at h,fun _ _ _ r h=>by simp [U2.l1] at h⟩
 | k+1=>by
  obtain ⟨ih0,ih1,ih2⟩:=U2.mono_l k;refine ⟨?_,?_,?_⟩
  ·intro y0 y1 y2;unfold U2.j0
   exact zm7_0
  ·intro y0 y1 y2 y3 y4;unfold U2.l0
   exact zm7_0
  ·intro y0 y1 y2;unfold U2.l1
   exact zm7_0
theorem U2.mono:∀ a0 a1 k,LeO (U2.f k a0 a1) (U2.f (k+1) a0 a1):=by
 intro a0 a1 k;obtain ⟨ih0,ih1,ih2⟩:=U2.mono_l k;unfold U2.f
 exact zm7_0
def U2.T14:Bool × List (List Nat × List Nat):=(true,[([],[]),([],[]),([],[]),([],[]),([],[]),([],[]),([4,5],[4,5]),([6],[6]),([],[]),([],[]),([8,9],[8,9]),([10],[10]),([0,1,0,1,4,5,6,7,11],[0,1]),([12,7,0,1,4,5,6,7,11],[7,12]),([2,3,0,1,2,3,4,5,6,7,8,9,10,11,12,13],[2,3]),([14,11,13,0,1,2,3,4,5,6,7,8,9,10,11,12,13],[11,14])])
def U2.B14:List Nat:=[0,0,0,0,0,0,48,112,0,0,768,1792,4083,8179,16383,32767]
theorem U2.tab14:zH .any (zU Tryd.f38 14) = U2.T14:=zz0
theorem U2.bits14:yY U2.T14.2 U2.B14 = true:=zz0
set_option maxHeartbeats 8000000 in
set_option maxRecDepth 100000 in
theorem U2.calls (k:Nat) (a0:Int) (a1:Int) (r1:List Int) (r2:Int) (w:World) (h:U2.f k a0 a1 = some (r1,r2)) :
  Calls Tryd.prog 38 #[.int .u64 a0,.int .i64 a1] w fun e w'=>∃ v0_:Value,e = .returned (.tuple #[v0_,.int .u64 r2])∧Kd.R (Kd.int .i64) 3 w' w.heap.size (fun _=>True) v0_ r1∧Below w.heap.size w w':=by
 have HB:=wA.mk (Below.refl w.heap.size w);have H:(if a1 < 0 then (U2.j0 k a0 a1 true) else (U2.j0 k a0 a1 (decide (a1 > 1024)))) = some (r1,r2):=h;clear h;have HC3:=wA.mk H;clear H;go_enter Tryd.func38,Tryd.ntmps38
 go_upto_region 1 with (fail)
 go_cut [15] (fun v15 wc=>∃ (kq:Nat) (x15_2:Bool),v15 = .bool x15_2∧wA (U2.j0 kq a0 a1 x15_2 = some (r1,r2))∧wA (kq≤k)∧wA (Below w.heap.size w wc))
 case first =>
  have H:=HC3.out;clear HC3;replace H:=zzj H;rcases H with ⟨c4,H⟩|⟨c4,H⟩
  ·have c4b0:=qM c4;clear c4
   (first|rw [c4b0]|rw [c4b1]|(simp only [yS,zF];rw [c4b0])|skip);have H':=wA.mk H;clear H
   go_wp2
   go_meet
   case rel=>exact ⟨_,(true),(zz2),H',⟨zz28⟩,⟨zz3⟩⟩
  ·have c4b0:=qN c4;clear c4
   (first|rw [c4b0]|rw [c4b1]|(simp only [yS,zF];rw [c4b0])|skip);have H':=wA.mk H;clear H
   go_wp2
   go_meet
   case rel=>exact ⟨_,(decide (a1 > 1024)),(zz2),H',⟨zz28⟩,⟨zz3⟩⟩
 case rest =>
  clear HC3;obtain ⟨kq,x15_2,rfl,HA,HJ2,HB⟩:=hcut
  cases kq with
  | zero=>exact absurd HA.out (by simp [U2.j0])
  | succ kj2 =>
   have H:=HA.out;clear HA;simp only [U2.j0] at H;by_cases c5:x15_2 = true
   ·subst c5;have H1:(some (([]:List Int),a0)) = some (r1,r2):=zz18;clear H;have H:=H1;clear H1;simp only [Option.some.injEq,Prod.mk.injEq] at H;obtain ⟨rfl,rfl⟩:=H
    go_wp2
    go_ret2
    exact ⟨_,zz8,zz29,zz3⟩
   ·replace c5:=Bool.eq_false_iff.mpr c5;subst c5;have H1:(if 0≤a1 then (if (a1:Int).toNat≤35184372088832 then ((some (List.replicate (a1:Int).toNat 0:List Int)).bind fun y159=>(U2.l0 kj2 a0 a1 y159 (y159.length:Int) 0)) else (none)) else (none)) = some (r1,r2):=zz19;clear H;have H:=H1;clear H1;replace H:=zzi H;obtain ⟨c6,H⟩:=H;have c6b0:=eq_true c6;have c6b1:=qM c6;clear c6;replace H:=zzi H;obtain ⟨c7,H⟩:=H;have c7b0:=eq_true c7;have c7b1:=qM c7;clear c7;obtain ⟨y159,hy159⟩:∃ y_:List Int,y_ = (List.replicate (a1:Int).toNat 0):=⟨_,rfl⟩;replace H:(U2.l0 kj2 a0 a1 y159 (y159.length:Int) 0) = some (r1,r2):=(have h0_:=hy159;zz30);have Ny159:=wA.mk hy159;clear hy159;have H':=wA.mk H;clear H
    go_wp2_with (first|((with_reducible refine wL (N:=18) rfl ?_);refine Kd.R_make (Kd.int .i64) _ 3 rfl (N:=18) rfl 23 _ _ rfl a1 rfl rfl Tryd.underlying23 (.int .i64 0) 8 info3 rfl (zz26) (zz1) 0 (ok:=fun _=>True) (okp:=fun _=>True) rfl (fun _ hk=>hk) trivial (qL (zz4)) (Nat.le_trans (Nat.mul_le_mul_right _ (qL (zz4):a1.toNat≤35184372088832)) (zz1)) (Below.refl _ _) (Nat.le_refl _) ?_;intro v160 w8 ho9 hb hg_ hnew_;clear hg_ hnew_;(first|rw [← Ny159.out] at ho9|(simp only [Int.reduceToNat] at ho9;rw [← Ny159.out] at ho9));have HO161:=wA.mk (Kd.R_lower ho9 (wB (zz3)));replace HB:=wA.mk (wC (zz3) hb);clear hb ho9;obtain ⟨Ao10,co10,eo10⟩:=Kd.R_slice HO161.out;subst eo10))
    go_loopg [21] kj2 (fun kq v21 w'=>∃ (x6_2:List Int) (x21_2:Int),v21 = .int .i64 x21_2∧wA (U2.l0 kq a0 a1 x6_2 (y159.length:Int) x21_2 = some (r1,r2))∧wA (kq≤kj2)∧wA (Kd.R (Kd.int .i64) 3 w' w.heap.size (fun _=>True) (.slice Ao10 y159.length co10) x6_2)∧wA (Below w.heap.size w w'))
    case atStart=>exact ⟨(y159),(0),(zz2),H',⟨Nat.le_refl _⟩,⟨(have h0_:=HO161;zz31)⟩,⟨zz3⟩⟩
    case round =>
     clear H'
     (try clear c5);clear c6b0 c6b1 c7b0 c7b1
     obtain ⟨x6_2,x21_2,rfl,HA,HK2,HO_6,HB⟩:=hrel;have hl6_2:=(Kd.R_reads' HO_6.out).1;rw [hl6_2] at HO_6
     (try simp only [hl6_2])
     cases gk with
     | zero=>exact absurd HA.out (by simp [U2.l0])
     | succ k2 =>
      have H:=HA.out;clear HA;simp only [U2.l0] at H;replace H:=zzj H;rcases H with ⟨c11,H⟩|⟨c11,H⟩
      ·have c11b0:=qM c11;clear c11
       (try (have c11b0h_:=c11b0;simp only [hl6_2] at c11b0h_));(try (have c11b1h_:=c11b1;simp only [hl6_2] at c11b1h_));(try (have c11b2h_:=c11b2;simp only [hl6_2] at c11b2h_));replace H:=zzi H;obtain ⟨c12,H⟩:=H;have c12b0:=qM c12;clear c12;replace H:=zzi H;obtain ⟨c13,H⟩:=H;have c13b0:=qM c13;clear c13
       (try (have c13b0h_:=c13b0;simp only [hl6_2] at c13b0h_));(try (have c13b1h_:=c13b1;simp only [hl6_2] at c13b1h_));(try (have c13b2h_:=c13b2;simp only [hl6_2] at c13b2h_));obtain ⟨y162,hy162⟩:∃ y_:List Int,y_ = (x6_2.set (x21_2:Int).toNat x21_2):=⟨_,rfl⟩;replace H:(U2.l0 k2 a0 a1 y162 (y159.length:Int) (wrap64 (x21_2+1))) = some (r1,r2):=(have h0_:=hy162;zz30);have Ny162:=wA.mk hy162;clear hy162;have H':=wA.mk H;clear H;have p14:0≤(x21_2:Int):=qL (zz4);have q14:(x21_2:Int) < ((x6_2.length:Int):Int):=qL (zz4);obtain ⟨go14,co14,eo14,gb14,gl14,cl14,HG14⟩:=Kd.R_form HO_6.out (zz1)
       (first|cases eo14|(injection eo14 with ea_ en_ ec_;(first|subst ea_|(injection ea_ with ea_;subst ea_));subst ec_;clear en_));have GB14:=wA.mk gb14;have GG14:=wA.mk HG14;clear gb14 gl14 HG14;obtain ⟨hx14_0,hf14_0⟩:=Kd.R_celln 0 HO_6.out (x21_2:Int) p14 q14;replace p14:=eq_true p14;replace q14:=eq_true q14;obtain ⟨hy15_,hz15_⟩:=Kd.R_celln 0 HO_6.out (x21_2:Int) (qL (zz4)) (qL (zz4));have HP15:=Kd.R_putg HO_6.out (x21_2:Int) x21_2
       go_wp2_with (first|((with_reducible refine yN (t:=3) (p:=27) rfl ?_);refine yL (t:=3) (p:=27) (v:=?vo_w16) (w1:=(wr.setCell ⟨go14,(x21_2:Int).toNat,none⟩ (.int .i64 x21_2))) ?hg ?ho ?hn ?hr ?_;(case ho=>rfl);(case hg=>rfl);(case hn=>rfl);(case hr=>exact zz156);intro w16 hw;have hg:wr.grownBy w16 (some go14):=(by rw [hw];exact HP15.2);have hp_:Kd.R (Kd.int .i64) 3 w16 w.heap.size (fun _=>True) (.slice (some ⟨go14,0,none⟩) x6_2.length co10) y162:=(by rw [hw,Ny162.out];exact HP15.1);clear HP15;replace HO_6:=wA.mk (hp_);replace HB:=wA.mk ((by rw [hw];exact wO (HB.out) GB14.out:Below w.heap.size w w16));clear hg hw hp_))
       (try simp only [← hl6_2]);go_roundg k2
       case measure=>have:=HJ2.out;have:=HK2.out;omega
       case rel=>exact ⟨(y162),(wrap64 (x21_2+1)),(zz2),H',⟨by have:=HJ2.out;have:=HK2.out;omega⟩,⟨by (try simp only [hl6_2]);(with_reducible repeat (first|apply Kd.R_alloc|apply Kd.R_drewN|apply Kd.R_drew));exact HO_6.out⟩,⟨zz3⟩⟩
      ·have c11b0:=qN c11;clear c11
       (try (have c11b0h_:=c11b0;simp only [hl6_2] at c11b0h_));(try (have c11b1h_:=c11b1;simp only [hl6_2] at c11b1h_));(try (have c11b2h_:=c11b2;simp only [hl6_2] at c11b2h_));have H':=wA.mk H;clear H
       go_wp2
       go_loopg [0,8] k2 (fun kq v0 v8 w'=>∃ (x0_3:Int) (x6_3:List Int) (x8_3:Int),v0 = .int .u64 x0_3∧v8 = .int .i64 x8_3∧wA (U2.l1 kq x0_3 x6_3 x8_3 = some (r1,r2))∧wA (kq≤k2)∧wA (Kd.R (Kd.int .i64) 3 w' w.heap.size (fun _=>True) (.slice Ao10 x6_2.length co10) x6_3)∧wA (Below w.heap.size w w'))
       case atStart=>exact ⟨(a0),(x6_2),(wrap64 (a1 - 1)),(zz2),(zz2),H',⟨Nat.le_refl _⟩,⟨by (try simp only [hl6_2]);(with_reducible repeat (first|apply Kd.R_alloc|apply Kd.R_drewN|apply Kd.R_drew));exact HO_6.out⟩,⟨zz3⟩⟩
       case round =>
        clear H'
        (try clear c11b0);(try clear c11b1);(try clear c11b2);obtain ⟨x0_3,x6_3,x8_3,rfl,rfl,HA,HK3,HO_6,HB⟩:=hrel;have hl6_3:=(Kd.R_reads' HO_6.out).1;rw [hl6_3] at HO_6
        (try simp only [hl6_3])
        cases gk with
        | zero=>exact absurd HA.out (by simp [U2.l1])
        | succ k3 =>
         have H:=HA.out;clear HA;simp only [U2.l1] at H;replace H:=zzj H;rcases H with ⟨c17,H⟩|⟨c17,H⟩
         ·have c17b0:=qM c17;clear c17;replace H:=Option.bind_eq_some_iff.mp H;obtain ⟨⟨t163,t164⟩,A180,H⟩:=H;have A18:=wA.mk A180;clear A180;replace H:=zzi H;obtain ⟨c19,H⟩:=H;have c19b0:=qM c19;clear c19;replace H:=zzi H;obtain ⟨c20,H⟩:=H;have c20b0:=qM c20;clear c20
          (try (have c20b0h_:=c20b0;simp only [hl6_2,hl6_3] at c20b0h_));(try (have c20b1h_:=c20b1;simp only [hl6_2,hl6_3] at c20b1h_));(try (have c20b2h_:=c20b2;simp only [hl6_2,hl6_3] at c20b2h_));replace H:=zzi H;obtain ⟨c21,H⟩:=H;have c21b0:=qM c21;clear c21;replace H:=zzi H;obtain ⟨c22,H⟩:=H;have c22b0:=qM c22;clear c22
          (try (have c22b0h_:=c22b0;simp only [hl6_2,hl6_3] at c22b0h_));(try (have c22b1h_:=c22b1;simp only [hl6_2,hl6_3] at c22b1h_));(try (have c22b2h_:=c22b2;simp only [hl6_2,hl6_3] at c22b2h_));obtain ⟨y167,hy167⟩:∃ y_:List Int,y_ = (x6_3.set (x8_3:Int).toNat (rd x6_3 t163)):=⟨_,rfl⟩;replace H:(U2.l1 k3 t164 (y167.set (t163:Int).toNat (rd x6_3 x8_3)) (wrap64 (x8_3 - 1))) = some (r1,r2):=(have h0_:=hy167;zz30);have Ny167:=wA.mk hy167;clear hy167;obtain ⟨y168,hy168⟩:∃ y_:List Int,y_ = (y167.set (t163:Int).toNat (rd x6_3 x8_3)):=⟨_,rfl⟩;replace H:(U2.l1 k3 t164 y168 (wrap64 (x8_3 - 1))) = some (r1,r2):=(have h0_:=hy168;zz30);have Ny168:=wA.mk hy168;clear hy168;have H':=wA.mk H;clear H
          try go_wp2_with (first|((with_reducible refine wI (f:=59) rfl ?_);refine wR (some 39) rfl rfl Tryd.func59 (zz0) rfl #[.int .u64 x0_3,.int .i64 (wrap64 (x8_3+1))] rfl (zz20) ?_;(with_reducible refine (U0.calls x0_3 (wrap64 (x8_3+1)) t163 t164 _ A18.out).mono ?_);rintro e w' ⟨rfl,⟨nd,rfl⟩⟩;refine ⟨_,rfl,?_⟩;(try (rw [vL wr];generalize hq_:World.drewN wr _ = wr;have n0_:wA (Kd.R (Kd.int .i64) 3 wr w.heap.size (fun _=>True) (.slice Ao10 x6_3.length co10) x6_3):=⟨by rw [← hq_];exact (have h0_:=HO_6;zz31)⟩;have n1_:wA (Below w.heap.size w wr):=⟨by rw [← hq_];exact (zz3)⟩;clear HO_6 HB hq_;have HO_6:=n0_;have HB:=n1_;clear n0_ n1_))))
          replace HO_6:=wA.mk (Kd.R_drew HO_6.out);replace HB:=wA.mk (wS HB.out);have p165:0≤(t163:Int):=qL (zz4);have q165:t163 < (x6_3.length:Int):=qL (zz4);obtain ⟨ad165,e165,hx165_0⟩:=Kd.at_int (Kd.R_reads' HO_6.out).2.2 t163 p165 q165
          cases e165
          replace p165:=eq_true p165;replace q165:=eq_true q165;have p166:0≤(x8_3:Int):=qL (zz4);have q166:x8_3 < (x6_3.length:Int):=qL (zz4);obtain ⟨ad166,e166,hx166_0⟩:=Kd.at_int (Kd.R_reads' HO_6.out).2.2 x8_3 p166 q166;obtain rfl:ad165 = ad166:=(by injection e166);replace p166:=eq_true p166;replace q166:=eq_true q166;have p23:0≤(x8_3:Int):=qL (zz4);have q23:(x8_3:Int) < ((x6_3.length:Int):Int):=qL (zz4);obtain ⟨go23,co23,eo23,gb23,gl23,cl23,HG23⟩:=Kd.R_form HO_6.out (zz1)
          (first|cases eo23|(injection eo23 with ea_ en_ ec_;(first|subst ea_|(injection ea_ with ea_;subst ea_));subst ec_;clear en_));have GB23:=wA.mk gb23;have GG23:=wA.mk HG23;clear gb23 gl23 HG23
          (first|simp only [zI] at hx165_0|skip);(first|simp only [zI] at hx166_0|skip);obtain ⟨hx23_0,hf23_0⟩:=Kd.R_celln 0 HO_6.out (x8_3:Int) p23 q23;replace p23:=eq_true p23;replace q23:=eq_true q23;have HP26:=Kd.R_putn HO_6.out (x8_3:Int) (rd x6_3 t163);rw [← Ny167.out] at HP26;have HQ26:=wA.mk HP26;clear HP26;have p24:0≤(t163:Int):=qL (zz4);have q24:(t163:Int) < ((x6_3.length:Int):Int):=qL (zz4);obtain ⟨hx24_0,hf24_0⟩:=Kd.R_celln 0 HQ26.out (t163:Int) p24 q24;replace p24:=eq_true p24;replace q24:=eq_true q24;have HP27:=Kd.R_putn HQ26.out (t163:Int) (rd x6_3 x8_3);rw [← Ny168.out] at HP27;have HQ27:=wA.mk HP27;clear HP27;refine yP (n:=16) (S:=fun w'=>w'.cell? ⟨go23,(t163).toNat,none⟩ = some (.int .i64 (rd x6_3 t163))∧w'.cell? ⟨go23,(x8_3).toNat,none⟩ = some (.int .i64 (rd x6_3 x8_3))) (ds:=[13,15]) #[fF,fF,fF,fF,fF,fF,fF,fF,fF,fF,fF,fF,fF,fF,fF,fF] (zz0) rfl rfl ⟨hx165_0,hx166_0⟩ (fun hHeld=>?_);refine yG U2.tab14 U2.bits14 (fun HT_ HW_=>?_)
          generalize wr.drew = w25 at HO_6 HB GG23 HQ26 HQ27 hf23_0 hf24_0 hx165_0 hx166_0 hx23_0 hx24_0 hHeld ⊢
          refine zzp 0 42 ?_ #[tT,fF,fF,fF,fF,fF,fF,fF,fF,fF,fF,fF,fF,fF,fF,fF] rfl rfl (wJ HT_.out (zz0)) (fun _ _ _ h=>h) (Or.inl ⟨zz25,?_⟩) ?_ ?_ ?_;rotate_left
          ·intro w';go_simp;with_reducible rfl
          rotate_left;·simp only [zzs];rfl
          refine zzp 1 43 ?_ #[tT,tT,fF,fF,fF,fF,fF,fF,fF,fF,fF,fF,fF,fF,fF,fF] rfl rfl (wJ HT_.out (zz0)) (fun _ _ _ h=>h) (Or.inl ⟨zz25,?_⟩) ?_ ?_ ?_;rotate_left
          ·intro w';go_simp;with_reducible rfl
          rotate_left;·simp only [zzs];rfl
          refine zzp 2 44 ?_ #[tT,tT,tT,fF,fF,fF,fF,fF,fF,fF,fF,fF,fF,fF,fF,fF] rfl rfl (wJ HT_.out (zz0)) (fun _ _ _ h=>h) (Or.inl ⟨zz25,?_⟩) ?_ ?_ ?_;rotate_left
          ·intro w';go_simp;with_reducible rfl
          rotate_left;·simp only [zzs];rfl
          refine zzp 3 45 ?_ #[tT,tT,tT,tT,fF,fF,fF,fF,fF,fF,fF,fF,fF,fF,fF,fF] rfl rfl (wJ HT_.out (zz0)) (fun _ _ _ h=>h) (Or.inl ⟨zz25,?_⟩) ?_ ?_ ?_;rotate_left
          ·intro w';go_simp;with_reducible rfl
          rotate_left;·simp only [zzs];rfl
          refine zzp 4 46 ?_ #[tT,tT,tT,tT,tT,fF,fF,fF,fF,fF,fF,fF,fF,fF,fF,fF] rfl rfl (wJ HT_.out (zz0)) (fun _ _ _ h=>h) (Or.inl ⟨zz25,?_⟩) ?_ ?_ ?_;rotate_left
          ·intro w';go_simp;with_reducible rfl
          rotate_left;·simp only [zzs];rfl
          refine zzp 5 47 ?_ #[tT,tT,tT,tT,tT,tT,fF,fF,fF,fF,fF,fF,fF,fF,fF,fF] rfl rfl (wJ HT_.out (zz0)) (fun _ _ _ h=>h) (Or.inl ⟨zz25,?_⟩) ?_ ?_ ?_;rotate_left
          ·intro w';go_simp;with_reducible rfl
          rotate_left;·simp only [zzs];rfl
          refine zzp 6 48 ?_ #[tT,tT,tT,tT,tT,tT,tT,fF,fF,fF,fF,fF,fF,fF,fF,fF] rfl rfl (wJ HT_.out (zz0)) (fun _ _ _ h=>h) (Or.inl ⟨zz25,?_⟩) ?_ ?_ ?_;rotate_left
          ·intro w';go_simp;with_reducible rfl
          rotate_left;·simp only [zzs];rfl
          refine zzp 8 50 ?_ #[tT,tT,tT,tT,tT,tT,tT,fF,tT,fF,fF,fF,fF,fF,fF,fF] rfl rfl (wJ HT_.out (zz0)) (fun _ _ _ h=>h) (Or.inl ⟨zz25,?_⟩) ?_ ?_ ?_;rotate_left
          ·intro w';go_simp;with_reducible rfl
          rotate_left;·simp only [zzs];rfl
          refine zzp 9 51 ?_ #[tT,tT,tT,tT,tT,tT,tT,fF,tT,tT,fF,fF,fF,fF,fF,fF] rfl rfl (wJ HT_.out (zz0)) (fun _ _ _ h=>h) (Or.inl ⟨zz25,?_⟩) ?_ ?_ ?_;rotate_left
          ·intro w';go_simp;with_reducible rfl
          rotate_left;·simp only [zzs];rfl
          refine zzp 10 52 ?_ #[tT,tT,tT,tT,tT,tT,tT,fF,tT,tT,tT,fF,fF,fF,fF,fF] rfl rfl (wJ HT_.out (zz0)) (fun _ _ _ h=>h) (Or.inl ⟨zz25,?_⟩) ?_ ?_ ?_;rotate_left
          ·intro w';go_simp;with_reducible rfl
          rotate_left;·simp only [zzs];rfl
          refine take_ (i:=7) (N:=some 49) (v:=?_) (a':=?_) #[tT,tT,tT,tT,tT,tT,tT,tT,tT,tT,tT,fF,fF,fF,fF,fF] rfl rfl (wU HT_.out HW_.out (zz0)) (fun _ _ _ h=>h) (Or.inl ⟨zz25,?_⟩) hHeld ?_ ?_;rotate_left
          ·rintro w' ⟨s0,s1⟩
           go_simp
           with_reducible rfl
          rotate_left;·simp only [zzs];rfl
          refine take_ (i:=11) (N:=some 53) (v:=?_) (a':=?_) #[tT,tT,tT,tT,tT,tT,tT,tT,tT,tT,tT,tT,fF,fF,fF,fF] rfl rfl (wU HT_.out HW_.out (zz0)) (fun _ _ _ h=>h) (Or.inl ⟨zz25,?_⟩) hHeld ?_ ?_;rotate_left
          ·rintro w' ⟨s0,s1⟩
           go_simp
           with_reducible rfl
          rotate_left;·simp only [zzs];rfl
          refine zzp 12 54 ?_ #[tT,tT,tT,tT,tT,tT,tT,tT,tT,tT,tT,tT,tT,fF,fF,fF] rfl rfl (wJ HT_.out (zz0)) (fun _ _ _ h=>h) (Or.inl ⟨zz25,?_⟩) ?_ ?_ ?_;rotate_left
          ·intro w';go_simp;with_reducible rfl
          rotate_left;·simp only [zzs];rfl
          refine last_ (i:=13) (N:=none) #[tT,tT,tT,tT,tT,tT,tT,tT,tT,tT,tT,tT,tT,tT,fF,fF] rfl rfl (yO HT_.out (zz0)) (zz26) (fun K hK=>?_);refine vI (w1:=?_) (zz25) rfl ?_ ?_;rotate_left
          ·go_simp;rfl
          refine hK.out _ _ ?_;clear hK K;refine zzp 14 55 ?_ #[tT,tT,tT,tT,tT,tT,tT,tT,tT,tT,tT,tT,tT,tT,tT,fF] rfl rfl (wJ HT_.out (zz0)) (fun _ _ _ h=>h) (Or.inl ⟨zz25,?_⟩) ?_ ?_ ?_;rotate_left
          ·intro w';go_simp;with_reducible rfl
          rotate_left;·simp only [zzs];rfl
          refine last_ (i:=15) (N:=none) #[tT,tT,tT,tT,tT,tT,tT,tT,tT,tT,tT,tT,tT,tT,tT,tT] rfl rfl (yO HT_.out (zz0)) (zz26) (fun K hK=>?_);refine vI (w1:=?_) (zz25) rfl ?_ ?_;rotate_left
          ·go_simp;rfl
          refine hK.out _ _ ?_;clear hK K;refine yX (yQ HT_.out (zz0)) ?_
          try go_wp2
          (try simp only [← hl6_3]);go_roundg k3
          case measure=>have:=HJ2.out;have:=HK2.out;have:=HK3.out;omega
          case rel=>exact ⟨(t164),(y168),(wrap64 (x8_3 - 1)),(zz2),(zz2),H',⟨by have:=HJ2.out;have:=HK2.out;have:=HK3.out;omega⟩,⟨by (try simp only [hl6_2]);(try simp only [hl6_3]);(with_reducible repeat (first|apply Kd.R_alloc|apply Kd.R_drewN|apply Kd.R_drew));exact HQ27.out⟩,⟨by repeat (first|(with_reducible first|exact HB.out|apply wV|apply wT|apply wS|refine wO ?_ GB23.out|refine wO ?_ GB23.out)|exact HB.out)⟩⟩
         ·have c17b0:=qN c17;clear c17;simp only [Option.some.injEq,Prod.mk.injEq] at H;obtain ⟨rfl,rfl⟩:=H
          go_wp2
          go_ret2
          exact ⟨_,zz8,(have h0_:=HO_6;zz31),zz3⟩
end Go.Proofs.YtnimkmkapajnhaaDoor.QA
