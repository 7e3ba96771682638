import Derived.Test.YtnimkmkapajnhaaDoorRTQAx0
import Derived.Test.YtnimkmkapajnhaaDoorRTQAx4
import Derived.Test.YtnimkmkapajnhaaDoorRTQAx8
import Derived.Test.YtnimkmkapajnhaaDoorRTQAx28
namespace Go.Proofs.YtnimkmkapajnhaaDoor.QA
open Go.RowKit Go.Proofs.YtnimkmkapajnhaaDoorW.PrintWords Go.Proofs.YtnimkmkapajnhaaDoorW.PrintLast Go.Proofs.YtnimkmkapajnhaaDoorW.PrintMore
attribute [local go_sem] yG yF yN yM yB yC yH yE
set_option linter.unusedVariables false
set_option linter.unusedSimpArgs false
mutual
def U8.l0:Nat→List (S26)→List (S44)→Int→Int→Int→Option (Int × Int)
 | 0,_,_,_,_,_=>none
 | k+1,x0,x1,x2,x9,x10=>if x10 < (x1.length:Int) then (if 0≤x10 then (if ((rd_T44 x1 x10).f0) = x2 then (U8.l0 k x0 x1 x2 (wrap64 (x9+1)) (wrap64 (x10+1))) else (U8.l0 k x0 x1 x2 x9 (wrap64 (x10+1)))) else (none)) else (if x9 = 2 then (U8.l1 k x0 x1 x2 (-1) 0) else (some (0,6)))
def U8.l1:Nat→List (S26)→List (S44)→Int→Int→Int→Option (Int × Int)
 | 0,_,_,_,_,_=>none
 | k+1,x0,x1,x2,x11,x12=>if x12 < (x0.length:Int) then (if 0≤x12 then ((U7.f k ((rd_T26 x0 x12).f0) ((rd_T26 x0 x12).f1) ((rd_T26 x0 x12).f2) x2).bind fun t939=>(if t939 = true then ((U10.f k x1 x2 ((rd_T26 x0 x12).f0)).bind fun t940=>(if t940 = true then (U8.j2 k x0 x1 x2 x11 x12 true ((rd_T26 x0 x12).f0) ((rd_T26 x0 x12).f1) ((rd_T26 x0 x12).f2)) else ((U6.f k x1 ((rd_T26 x0 x12).f0)).bind fun t941=>(U8.j2 k x0 x1 x2 x11 x12 (decide (t941≥((rd_T26 x0 x12).f1))) ((rd_T26 x0 x12).f0) ((rd_T26 x0 x12).f1) ((rd_T26 x0 x12).f2))))) else (U8.j2 k x0 x1 x2 x11 x12 true ((rd_T26 x0 x12).f0) ((rd_T26 x0 x12).f1) ((rd_T26 x0 x12).f2)))) else (none)) else (if x11 < 0 then (some (0,14)) else (if 0≤x11 then (if x11 < (x0.length:Int) then (some ((rd_T26 x0 x11).f0,0)) else (none)) else (none)))
def U8.j2:Nat→List (S26)→List (S44)→Int→Int→Int→Bool→Int→Int→List Int→Option (Int × Int)
 | 0,_,_,_,_,_,_,_,_,_=>none
 | k+1,x0,x1,x2,x11,x12,x65,x939000,x939001,x939002=>if x65 = true then (U8.l1 k x0 x1 x2 x11 (wrap64 (x12+1))) else (if x11 < 0 then (U8.l1 k x0 x1 x2 x12 (wrap64 (x12+1))) else ((U6.f k x1 x939000).bind fun t942=>(if 0≤x11 then (if x11 < (x0.length:Int) then ((U6.f k x1 ((rd_T26 x0 x11).f0)).bind fun t944=>(if t942 < t944 then (U8.l1 k x0 x1 x2 x12 (wrap64 (x12+1))) else (U8.l1 k x0 x1 x2 x11 (wrap64 (x12+1))))) else (none)) else (none))))
end
def U8.f (k:Nat) (l0:List (S26)) (l1:List (S44)) (a2:Int):Option (Int × Int):=(U9.f k l0).bind fun t934=>(if t934 = 0 then (U8.l0 k l0 l1 a2 0 0) else (some (0,t934)))
theorem zm25_0 {P:Prop} (h:P:=by repeat' first|(with_reducible first|exact ih0 ..|exact ih1 ..|exact ih2 ..|exact U6.mono ..|exact U7.mono ..|exact U9.mono ..|exact U10.mono ..|exact LeO.refl _|exact LeO.none _|refine LeO.ite ?_ ?_|refine LeO.bind ?_ (fun _=>?_))|exact ih0 ..|exact ih1 ..|exact ih2 ..|exact U6.mono ..|exact U7.mono ..|exact U9.mono ..|exact U10.mono ..|exact LeO.none _|refine LeO.ite ?_ ?_|refine LeO.bind ?_ (fun _=>?_)):P:=h
theorem U8.mono_l:∀ k,(∀ y0 y1 y2 y3 y4,LeO (U8.l0 k y0 y1 y2 y3 y4) (U8.l0 (k+1) y0 y1 y2 y3 y4))∧(∀ y0 y1 y2 y3 y4,LeO (U8.l1 k y0 y1 y2 y3 y4) (U8.l1 (k+1) y0 y1 y2 y3 y4))∧(∀ y0 y1 y2 y3 y4 y5 y6 y7 y8,LeO (U8.j2 k y0 y1 y2 y3 y4 y5 y6 y7 y8) (U8.j2 (k+1) y0 y1 y2 y3 y4 y5 y6 y7 y8))
 | 0=>⟨fun _ _ _ _ _ r h=>by simp [U8.l0] at h,fun _ _ _ _ _ r h=>by simp [U8.l1] at h,fun _ _ _ _ _ _ _ _ _ r h=>by simp [U8.j2] at h⟩
 | k+1=>by
  obtain ⟨ih0,ih1,ih2⟩:=U8.mono_l k;refine ⟨?_,?_,?_⟩
  ·intro y0 y1 y2 y3 y4;unfold U8.l0
   exact zm25_0
  ·intro y0 y1 y2 y3 y4;unfold U8.l1
   exact zm25_0
  ·intro y0 y1 y2 y3 y4 y5 y6 y7 y8;unfold U8.j2
   exact zm25_0
theorem U8.mono:∀ a0 a1 a2 k,LeO (U8.f k a0 a1 a2) (U8.f (k+1) a0 a1 a2):=by
 intro a0 a1 a2 k;obtain ⟨ih0,ih1,ih2⟩:=U8.mono_l k;unfold U8.f
 exact zm25_0
def U8.T17:Bool × List (List Nat × List Nat):=(true,[([],[]),([],[]),([0,1],[0,1]),([2],[2]),([3,2],[3]),([4],[4]),([4],[4]),([4],[4]),([7,4],[4,7]),([5,6,8,4,4],[4,5,6,8]),([4,9],[4,9]),([10,9],[10]),([11],[11]),([11],[11]),([13,11],[11,13]),([12,14,11,11],[11,12,14]),([11],[11]),([16,11],[11,16]),([15,17,11],[11,15,17]),([11,18],[11,18])])
def U8.B17:List Nat:=[0,0,3,7,15,31,31,31,159,511,1023,2047,4095,4095,12287,32767,4095,69631,262143,524287]
theorem U8.tab17:zF .any (zQ Tryd.f22 17) = U8.T17:=zz0
theorem U8.bits17:yY U8.T17.2 U8.B17 = true:=zz0
def U8.T18:Bool × List (List Nat × List Nat):=(true,[([],[]),([0],[0]),([1],[1]),([2],[2]),([2],[2]),([4,2],[2,4]),([3,5,2,2],[2,3,5]),([2],[2]),([2],[2]),([2],[2]),([8,9,2],[2,8,9]),([10,2],[2,10]),([11,2],[2,11]),([7,12,6,2],[2,7,12]),([6,13,2],[2,6,13]),([2,14],[2,14])])
def U8.B18:List Nat:=[0,1,3,7,7,23,63,7,7,7,775,1799,3847,8191,16383,32767]
theorem U8.tab18:zF .any (zQ Tryd.f22 18) = U8.T18:=zz0
theorem U8.bits18:yY U8.T18.2 U8.B18 = true:=zz0
set_option maxHeartbeats 8000000 in
set_option maxRecDepth 100000 in
theorem U8.calls (k:Nat) (A0:Option Addr) (c0:Nat) (l0:List (S26)) (A1:Option Addr) (c1:Nat) (l1:List (S44)) (a2:Int) (r1:Int) (r2:Int) (w:World) (hr0:Kd.C k26 w A0 l0.length l0) (hc0:l0.length≤c0) (hr1:Kd.C k44 w A1 l1.length l1) (hc1:l1.length≤c1) (h:U8.f k l0 l1 a2 = some (r1,r2)) :
  Calls Tryd.prog 22 #[.slice A0 l0.length c0,.slice A1 l1.length c1,.int .i64 a2] w fun e w'=>e = .returned (.tuple #[.int .i64 r1,.int .i64 r2])∧Below w.heap.size w w':=by
 have hu26:=Tryd.underlying26;have HR0:=wA.mk hr0;have HC0:=wA.mk hc0;clear hr0 hc0;have HR1:=wA.mk hr1;have HC1:=wA.mk hc1;clear hr1 hc1;have HB:=wA.mk (Below.refl w.heap.size w);have H:((U9.f k l0).bind fun t934=>(if t934 = 0 then (U8.l0 k l0 l1 a2 0 0) else (some (0,t934)))) = some (r1,r2):=h;clear h;replace H:=zzb H;obtain ⟨t934,A4,H⟩:=H;replace H:=zzj H;rcases H with ⟨c5,H⟩|⟨c5,H⟩
 ·have c5b0:=beq_iff_eq.mpr c5;have c5b1:=bne_eq_false_iff_eq.mpr c5;clear c5;have H':=wA.mk H;clear H;go_enter Tryd.func22,Tryd.ntmps22
  go_wp2_with (first|((with_reducible refine wJ (f:=10) rfl ?_);refine wS (some 15) rfl rfl Tryd.func10 (zz0) rfl #[.slice A0 l0.length c0] rfl (zz21) ?_;(with_reducible refine (U9.calls k _ _ l0 t934 _ ?_ ?_ A4.out).mono ?_);exact zz163;exact HC0.out;rintro e w' ⟨rfl,⟨nd,rfl⟩⟩;refine ⟨_,rfl,?_⟩))
  go_loopg [9,10] k (fun kq v9 v10 w'=>∃ (x9_1:Int) (x10_1:Int),v9 = .int .i64 x9_1∧v10 = .int .i64 x10_1∧wA (U8.l0 kq l0 l1 a2 x9_1 x10_1 = some (r1,r2))∧wA (kq≤k)∧wA (Below w.heap.size w w'))
  case atStart=>exact ⟨(0),(0),(zz2),(zz2),H',⟨Nat.le_refl _⟩,⟨zz12⟩⟩
  case round =>
   clear H'
   (try clear c1);clear c5b0 c5b1
   obtain ⟨x9_1,x10_1,rfl,rfl,HA,HK1,HB⟩:=hrel
   cases gk with
   | zero=>exact absurd HA.out (by simp [U8.l0])
   | succ k1 =>
    have H:=HA.out;clear HA;simp only [U8.l0] at H;replace H:=zzj H;rcases H with ⟨c6,H⟩|⟨c6,H⟩
    ·have c6b0:=qM c6;clear c6;replace H:=zzi H;obtain ⟨c7,H⟩:=H;have c7b0:=qM c7;clear c7;replace H:=zzj H;rcases H with ⟨c8,H⟩|⟨c8,H⟩
     ·have c8b0:=beq_iff_eq.mpr c8;have c8b1:=bne_eq_false_iff_eq.mpr c8;clear c8;have H':=wA.mk H;clear H;have p935:0≤(x10_1:Int):=qL (zz4);have q935:x10_1 < (l1.length:Int):=qL (zz4);obtain ⟨ad935,e935,hx935_0,hx935_1⟩:=at_T44 HR1.out x10_1 p935 q935
      cases e935
      replace hx935_0:=(HB.out.cell (qK w _ hx935_0)).trans hx935_0;replace hx935_1:=(HB.out.cell (qK w _ hx935_1)).trans hx935_1;replace p935:=eq_true p935;replace q935:=eq_true q935
      go_wp2
      go_roundg k1
      case measure=>have:=HK1.out;omega
      case rel=>exact ⟨(wrap64 (x9_1+1)),(wrap64 (x10_1+1)),(zz2),(zz2),H',⟨zz7⟩,⟨zz12⟩⟩
     ·have c8b0:=beq_eq_false_iff_ne.mpr c8;have c8b1:=bne_iff_ne.mpr c8;have H':=wA.mk H;clear H;have p935:0≤(x10_1:Int):=qL (zz4);have q935:x10_1 < (l1.length:Int):=qL (zz4);obtain ⟨ad935,e935,hx935_0,hx935_1⟩:=at_T44 HR1.out x10_1 p935 q935
      cases e935
      replace hx935_0:=(HB.out.cell (qK w _ hx935_0)).trans hx935_0;replace hx935_1:=(HB.out.cell (qK w _ hx935_1)).trans hx935_1;replace p935:=eq_true p935;replace q935:=eq_true q935
      go_wp2
      go_roundg k1
      case measure=>have:=HK1.out;omega
      case rel=>exact ⟨(x9_1),(wrap64 (x10_1+1)),(zz2),(zz2),H',⟨zz7⟩,⟨zz12⟩⟩
    ·have c6b0:=qN c6;clear c6;replace H:=zzj H;rcases H with ⟨c9,H⟩|⟨c9,H⟩
     ·have c9b0:=beq_iff_eq.mpr c9;have c9b1:=bne_eq_false_iff_eq.mpr c9;clear c9;have H':=wA.mk H;clear H
      go_wp2
      go_loopg [11,12] k1 (fun kq v11 v12 w'=>∃ (x11_2:Int) (x12_2:Int),v11 = .int .i64 x11_2∧v12 = .int .i64 x12_2∧wA (U8.l1 kq l0 l1 a2 x11_2 x12_2 = some (r1,r2))∧wA (kq≤k1)∧wA (Below w.heap.size w w'))
      case atStart=>exact ⟨((-1)),(0),(zz2),(zz2),H',⟨Nat.le_refl _⟩,⟨zz12⟩⟩
      case round =>
       clear H';clear c6b0 c9b0 c9b1;obtain ⟨x11_2,x12_2,rfl,rfl,HA,HK2,HB⟩:=hrel
       cases gk with
       | zero=>exact absurd HA.out (by simp [U8.l1])
       | succ k2 =>
        have H:=HA.out;clear HA;simp only [U8.l1] at H;replace H:=zzj H;rcases H with ⟨c10,H⟩|⟨c10,H⟩
        ·have c10b0:=qM c10;clear c10;replace H:=zzi H;obtain ⟨c11,H⟩:=H;have c11b0:=qM c11;clear c11;have HC12:=wA.mk H;clear H;have p937:0≤(x12_2:Int):=qL (zz4);have q937:x12_2 < (l0.length:Int):=qL (zz4);obtain ⟨ad937,A937_2,c937_2,e937,hx937_0,hx937_1,hx937_2,hl937_2,hi937_2⟩:=at_T26 HR0.out x12_2 p937 q937
         cases e937
         replace hx937_0:=(HB.out.cell (qK w _ hx937_0)).trans hx937_0;replace hx937_1:=(HB.out.cell (qK w _ hx937_1)).trans hx937_1;replace hx937_2:=(HB.out.cell (qK w _ hx937_2)).trans hx937_2;have HR937_2:=wA.mk hi937_2;have HC937_2:=wA.mk hl937_2;clear hi937_2 hl937_2;replace p937:=eq_true p937;replace q937:=eq_true q937
         go_upto_region 17 with (first|((with_reducible refine wL (N:=13) rfl ?_);refine wM ?hg (N:=13) ?hd (cs:=#[.int .i64 0,.int .i64 0,.slice none 0 0]) (t:=26) ?hr ?_;(case hd=>rfl);(case hg=>rfl);(case hr=>exact zz161);intro gb938 hg w13 hbox hb;have BK938:=wA.mk (hbox);have GW938:=wA.mk ((by rw [hg];exact (wB (zz12)):w.heap.size≤gb938));have GE938:=wA.mk ((by rw [hg];exact (wB (zz12)):w.heap.size≤gb938));replace HB:=wA.mk (wC (zz12) hb);clear hb hbox hg;obtain ⟨hcz14_0,hcz14_1,hcz14_2,hfz14_0,hfz14_1,hfz14_2⟩:=zc3 BK938.out))
         (try simp only [Act.put,List.setIfInBounds_toArray,List.set_cons_zero,List.set_cons_succ]);go_cut [65] (fun v65 wc=>∃ (kq:Nat) (x65_11:Bool),v65 = .bool x65_11∧wA (U8.j2 kq l0 l1 a2 x11_2 x12_2 x65_11 ((rd_T26 l0 x12_2).f0) ((rd_T26 l0 x12_2).f1) ((rd_T26 l0 x12_2).f2) = some (r1,r2))∧wA (kq≤k2)∧wA (wc.heap[gb938]? = some (.cells #[.int .i64 ((rd_T26 l0 x12_2).f0),.int .i64 ((rd_T26 l0 x12_2).f1),(.slice A937_2 ((rd_T26 l0 x12_2).f2).length c937_2)] 26 (0,0)))∧wA (Below w.heap.size w wc))
         case first =>
          have H:=HC12.out;clear HC12;replace H:=zzb H;obtain ⟨t939,A15,H⟩:=H;by_cases c16:t939 = true
          ·subst c16;have H1:((U10.f k2 l1 a2 ((rd_T26 l0 x12_2).f0)).bind fun t940=>(if t940 = true then (U8.j2 k2 l0 l1 a2 x11_2 x12_2 true ((rd_T26 l0 x12_2).f0) ((rd_T26 l0 x12_2).f1) ((rd_T26 l0 x12_2).f2)) else ((U6.f k2 l1 ((rd_T26 l0 x12_2).f0)).bind fun t941=>(U8.j2 k2 l0 l1 a2 x11_2 x12_2 (decide (t941≥((rd_T26 l0 x12_2).f1))) ((rd_T26 l0 x12_2).f0) ((rd_T26 l0 x12_2).f1) ((rd_T26 l0 x12_2).f2))))) = some (r1,r2):=zz10;clear H;have H:=H1;clear H1;replace H:=zzb H;obtain ⟨t940,A17,H⟩:=H;by_cases c18:t940 = true
           ·subst c18;have H1:(U8.j2 k2 l0 l1 a2 x11_2 x12_2 true ((rd_T26 l0 x12_2).f0) ((rd_T26 l0 x12_2).f1) ((rd_T26 l0 x12_2).f2)) = some (r1,r2):=zz10;clear H;have H:=H1;clear H1;have H':=wA.mk H;clear H
            try go_wp2
            have n0_:wA ((((w13.setCell ⟨gb938,0,none⟩ (.int .i64 ((rd_T26 l0 x12_2).f0))).setCell ⟨gb938,1,none⟩ (.int .i64 ((rd_T26 l0 x12_2).f1))).setCell ⟨gb938,2,none⟩ (.slice A937_2 ((rd_T26 l0 x12_2).f2).length c937_2)).heap[gb938]? = some (.cells #[.int .i64 ((rd_T26 l0 x12_2).f0),.int .i64 ((rd_T26 l0 x12_2).f1),.slice A937_2 ((rd_T26 l0 x12_2).f2).length c937_2] 26 (0,0))):=⟨zz157⟩;have n1_:wA (Below w.heap.size w (((w13.setCell ⟨gb938,0,none⟩ (.int .i64 ((rd_T26 l0 x12_2).f0))).setCell ⟨gb938,1,none⟩ (.int .i64 ((rd_T26 l0 x12_2).f1))).setCell ⟨gb938,2,none⟩ (.slice A937_2 ((rd_T26 l0 x12_2).f2).length c937_2))):=⟨zz158⟩
            (try clear BK938);(try clear HB);generalize (((w13.setCell ⟨gb938,0,none⟩ (.int .i64 ((rd_T26 l0 x12_2).f0))).setCell ⟨gb938,1,none⟩ (.int .i64 ((rd_T26 l0 x12_2).f1))).setCell ⟨gb938,2,none⟩ (.slice A937_2 ((rd_T26 l0 x12_2).f2).length c937_2)) = w19 at n0_ n1_ ⊢
            have BK938:=n0_;have HB:=n1_;clear n0_ n1_;replace BK938:=wA.mk (wG BK938.out);replace HB:=wA.mk (wR HB.out);refine yO (n:=20) (S:=fun w'=>w'.cell? ⟨gb938,0,none⟩ = some (.int .i64 ((rd_T26 l0 x12_2).f0))∧w'.cell? ⟨gb938,1,none⟩ = some (.int .i64 ((rd_T26 l0 x12_2).f1))∧w'.cell? ⟨gb938,2,none⟩ = some (.slice A937_2 ((rd_T26 l0 x12_2).f2).length c937_2)) (ds:=[]) #[fF,fF,fF,fF,fF,fF,fF,fF,fF,fF,fF,fF,fF,fF,fF,fF,fF,fF,fF,fF] (zz0) rfl rfl ⟨(wH BK938.out 0).trans rfl,(wH BK938.out 1).trans rfl,(wH BK938.out 2).trans rfl⟩ (fun hHeld=>?_);refine yA U8.tab17 U8.bits17 (fun HT_ HW_=>?_)
            generalize w19.drew = w20 at BK938 HB hHeld ⊢
            refine zzp 1 47 ?_ #[fF,tT,fF,fF,fF,fF,fF,fF,fF,fF,fF,fF,fF,fF,fF,fF,fF,fF,fF,fF] rfl rfl (wI HT_.out (zz0)) (fun _ _ _ h=>h) (Or.inl ⟨zz26,?_⟩) ?_ ?_ ?_;rotate_left
            ·intro w';go_simp;with_reducible rfl
            rotate_left;·simp only [zzs];rfl
            refine take_ (i:=0) (N:=some 46) (v:=?_) (a':=?_) #[tT,tT,fF,fF,fF,fF,fF,fF,fF,fF,fF,fF,fF,fF,fF,fF,fF,fF,fF,fF] rfl rfl (wT HT_.out HW_.out (zz0)) (fun _ _ _ h=>h) (Or.inl ⟨zz26,?_⟩) hHeld ?_ ?_;rotate_left
            ·rintro w' ⟨s0,s1,s2⟩
             go_simp
             with_reducible rfl
            rotate_left;·simp only [zzs];rfl
            refine yV (i:=2) (N:=some 48) #[tT,tT,tT,fF,fF,fF,fF,fF,fF,fF,fF,fF,fF,fF,fF,fF,fF,fF,fF,fF] rfl rfl (yD HT_.out (zz0)) (zz27) (fun K hK=>?_);refine yP Tryd.func14 (zz0) rfl #[.agg #[.int .i64 ((rd_T26 l0 x12_2).f0),.int .i64 ((rd_T26 l0 x12_2).f1),.slice A937_2 ((rd_T26 l0 x12_2).f2).length c937_2],.int .i64 a2] (zz26) rfl rfl (zz21) ?_
            with_reducible refine (U7.calls k2 ((rd_T26 l0 x12_2).f0) ((rd_T26 l0 x12_2).f1) _ _ ((rd_T26 l0 x12_2).f2) a2 true _ ?side1 ?side2 A15.out).mono ?_
            (case side1=>exact (have h0_:=HR937_2;zz162));(case side2=>exact HC937_2.out);rintro e w21 ⟨rfl,hb⟩;refine ⟨_,rfl,?_⟩;replace BK938:=wA.mk (wF (have h0_:=BK938;zz24) hb);replace HB:=wA.mk (wC (zz158) hb)
            (try clear hb);refine hK.out _ _ ⟨(wH BK938.out 0).trans rfl,(wH BK938.out 1).trans rfl,(wH BK938.out 2).trans rfl⟩ (fun hHeld=>?_);clear hK K;refine wZ (a':=?_) ?_ ?_;rotate_left
            ·show Act.put _ (some 48) _ = _;simp only [zzs];rfl
            refine zzp 3 49 ?_ #[tT,tT,tT,tT,fF,fF,fF,fF,fF,fF,fF,fF,fF,fF,fF,fF,fF,fF,fF,fF] rfl rfl (wI HT_.out (zz0)) (fun _ _ _ h=>h) (Or.inl ⟨zz26,?_⟩) ?_ ?_ ?_;rotate_left
            ·intro w';go_simp;with_reducible rfl
            rotate_left;·simp only [zzs];rfl
            refine zzp 4 50 ?_ #[tT,tT,tT,tT,tT,fF,fF,fF,fF,fF,fF,fF,fF,fF,fF,fF,fF,fF,fF,fF] rfl rfl (wI HT_.out (zz0)) (fun _ _ _ h=>h) (Or.inl ⟨zz26,?_⟩) ?_ ?_ ?_;rotate_left
            ·intro w';go_simp;with_reducible rfl
            rotate_left;·simp only [zzs];rfl
            refine zzp 5 51 ?_ #[tT,tT,tT,tT,tT,tT,fF,fF,fF,fF,fF,fF,fF,fF,fF,fF,fF,fF,fF,fF] rfl rfl (wI HT_.out (zz0)) (fun _ _ _ h=>h) (Or.inl ⟨zz26,?_⟩) ?_ ?_ ?_;rotate_left
            ·intro w';go_simp;with_reducible rfl
            rotate_left;·simp only [zzs];rfl
            refine zzp 6 52 ?_ #[tT,tT,tT,tT,tT,tT,tT,fF,fF,fF,fF,fF,fF,fF,fF,fF,fF,fF,fF,fF] rfl rfl (wI HT_.out (zz0)) (fun _ _ _ h=>h) (Or.inl ⟨zz26,?_⟩) ?_ ?_ ?_;rotate_left
            ·intro w';go_simp;with_reducible rfl
            rotate_left;·simp only [zzs];rfl
            refine zzp 7 53 ?_ #[tT,tT,tT,tT,tT,tT,tT,tT,fF,fF,fF,fF,fF,fF,fF,fF,fF,fF,fF,fF] rfl rfl (wI HT_.out (zz0)) (fun _ _ _ h=>h) (Or.inl ⟨zz26,?_⟩) ?_ ?_ ?_;rotate_left
            ·intro w';go_simp;with_reducible rfl
            rotate_left;·simp only [zzs];rfl
            refine take_ (i:=8) (N:=some 54) (v:=?_) (a':=?_) #[tT,tT,tT,tT,tT,tT,tT,tT,tT,fF,fF,fF,fF,fF,fF,fF,fF,fF,fF,fF] rfl rfl (wT HT_.out HW_.out (zz0)) (fun _ _ _ h=>h) (Or.inl ⟨zz26,?_⟩) hHeld ?_ ?_;rotate_left
            ·rintro w' ⟨s0,s1,s2⟩
             go_simp
             with_reducible rfl
            rotate_left;·simp only [zzs];rfl
            refine yV (i:=9) (N:=some 55) #[tT,tT,tT,tT,tT,tT,tT,tT,tT,tT,fF,fF,fF,fF,fF,fF,fF,fF,fF,fF] rfl rfl (yD HT_.out (zz0)) (zz27) (fun K hK=>?_);refine yP Tryd.func42 (zz0) rfl #[.slice A1 l1.length c1,.int .i64 a2,.int .i64 ((rd_T26 l0 x12_2).f0)] (zz26) rfl rfl (zz21) ?_
            with_reducible refine (U10.calls k2 _ _ l1 a2 ((rd_T26 l0 x12_2).f0) true _ ?side1 ?side2 A17.out).mono ?_
            (case side1=>exact zz164);(case side2=>exact HC1.out);rintro e w' ⟨rfl,⟨nd,rfl⟩⟩;refine ⟨_,rfl,?_⟩;refine hK.out _ _ ⟨(wH BK938.out 0).trans rfl,(wH BK938.out 1).trans rfl,(wH BK938.out 2).trans rfl⟩ (fun hHeld=>?_);clear hK K;refine wZ (a':=?_) ?_ ?_;rotate_left
            ·show Act.put _ (some 55) _ = _;simp only [zzs];rfl
            refine zzp 10 56 ?_ #[tT,tT,tT,tT,tT,tT,tT,tT,tT,tT,tT,fF,fF,fF,fF,fF,fF,fF,fF,fF] rfl rfl (wI HT_.out (zz0)) (fun _ _ _ h=>h) (Or.inl ⟨zz26,?_⟩) ?_ ?_ ?_;rotate_left
            ·intro w';go_simp;with_reducible rfl
            rotate_left;·simp only [zzs];rfl
            refine zzp 11 57 ?_ #[tT,tT,tT,tT,tT,tT,tT,tT,tT,tT,tT,tT,fF,fF,fF,fF,fF,fF,fF,fF] rfl rfl (wI HT_.out (zz0)) (fun _ _ _ h=>h) (Or.inl ⟨zz26,?_⟩) ?_ ?_ ?_;rotate_left
            ·intro w';go_simp;with_reducible rfl
            rotate_left;·simp only [zzs];rfl
            refine wW (i:=12) (N:=some 58) (v:=undef) (a':=?_) #[tT,tT,tT,tT,tT,tT,tT,tT,tT,tT,tT,tT,tT,fF,fF,fF,fF,fF,fF,fF] rfl rfl (wI HT_.out (zz0)) (fun _ _ _ h=>h) (Or.inr ⟨zz26,rfl⟩) ?_ ?_;rotate_left
            ·simp only [zzs];rfl
            refine wW (i:=13) (N:=some 59) (v:=undef) (a':=?_) #[tT,tT,tT,tT,tT,tT,tT,tT,tT,tT,tT,tT,tT,tT,fF,fF,fF,fF,fF,fF] rfl rfl (wI HT_.out (zz0)) (fun _ _ _ h=>h) (Or.inr ⟨zz26,rfl⟩) ?_ ?_;rotate_left
            ·simp only [zzs];rfl
            refine wW (i:=14) (N:=some 60) (v:=undef) (a':=?_) #[tT,tT,tT,tT,tT,tT,tT,tT,tT,tT,tT,tT,tT,tT,tT,fF,fF,fF,fF,fF] rfl rfl (wI HT_.out (zz0)) (fun _ _ _ h=>h) (Or.inr ⟨zz26,rfl⟩) ?_ ?_;rotate_left
            ·simp only [zzs];rfl
            refine wW (i:=15) (N:=some 61) (v:=undef) (a':=?_) #[tT,tT,tT,tT,tT,tT,tT,tT,tT,tT,tT,tT,tT,tT,tT,tT,fF,fF,fF,fF] rfl rfl (wI HT_.out (zz0)) (fun _ _ _ h=>h) (Or.inr ⟨zz26,rfl⟩) ?_ ?_;rotate_left
            ·simp only [zzs];rfl
            refine wW (i:=16) (N:=some 62) (v:=undef) (a':=?_) #[tT,tT,tT,tT,tT,tT,tT,tT,tT,tT,tT,tT,tT,tT,tT,tT,tT,fF,fF,fF] rfl rfl (wI HT_.out (zz0)) (fun _ _ _ h=>h) (Or.inr ⟨zz26,rfl⟩) ?_ ?_;rotate_left
            ·simp only [zzs];rfl
            refine wW (i:=17) (N:=some 63) (v:=undef) (a':=?_) #[tT,tT,tT,tT,tT,tT,tT,tT,tT,tT,tT,tT,tT,tT,tT,tT,tT,tT,fF,fF] rfl rfl (wI HT_.out (zz0)) (fun _ _ _ h=>h) (Or.inr ⟨zz26,rfl⟩) ?_ ?_;rotate_left
            ·simp only [zzs];rfl
            refine wW (i:=18) (N:=some 64) (v:=undef) (a':=?_) #[tT,tT,tT,tT,tT,tT,tT,tT,tT,tT,tT,tT,tT,tT,tT,tT,tT,tT,tT,fF] rfl rfl (wI HT_.out (zz0)) (fun _ _ _ h=>h) (Or.inr ⟨zz26,rfl⟩) ?_ ?_;rotate_left
            ·simp only [zzs];rfl
            refine zzp 19 65 ?_ #[tT,tT,tT,tT,tT,tT,tT,tT,tT,tT,tT,tT,tT,tT,tT,tT,tT,tT,tT,tT] rfl rfl (wI HT_.out (zz0)) (fun _ _ _ h=>h) (Or.inl ⟨zz26,?_⟩) ?_ ?_ ?_;rotate_left
            ·intro w';go_simp;with_reducible rfl
            rotate_left;·simp only [zzs];rfl
            refine yU (yL HT_.out (zz0)) ?_
            try go_wp2
            go_meet
            case rel=>exact ⟨_,(true),(zz2),H',⟨zz9⟩,⟨(have h0_:=BK938;zz24)⟩,⟨zz158⟩⟩
           ·replace c18:=Bool.eq_false_iff.mpr c18;subst c18;have H1:((U6.f k2 l1 ((rd_T26 l0 x12_2).f0)).bind fun t941=>(U8.j2 k2 l0 l1 a2 x11_2 x12_2 (decide (t941≥((rd_T26 l0 x12_2).f1))) ((rd_T26 l0 x12_2).f0) ((rd_T26 l0 x12_2).f1) ((rd_T26 l0 x12_2).f2))) = some (r1,r2):=zz11;clear H;have H:=H1;clear H1;replace H:=zzb H;obtain ⟨t941,A22,H⟩:=H;have H':=wA.mk H;clear H
            try go_wp2
            have n0_:wA ((((w13.setCell ⟨gb938,0,none⟩ (.int .i64 ((rd_T26 l0 x12_2).f0))).setCell ⟨gb938,1,none⟩ (.int .i64 ((rd_T26 l0 x12_2).f1))).setCell ⟨gb938,2,none⟩ (.slice A937_2 ((rd_T26 l0 x12_2).f2).length c937_2)).heap[gb938]? = some (.cells #[.int .i64 ((rd_T26 l0 x12_2).f0),.int .i64 ((rd_T26 l0 x12_2).f1),.slice A937_2 ((rd_T26 l0 x12_2).f2).length c937_2] 26 (0,0))):=⟨zz157⟩;have n1_:wA (Below w.heap.size w (((w13.setCell ⟨gb938,0,none⟩ (.int .i64 ((rd_T26 l0 x12_2).f0))).setCell ⟨gb938,1,none⟩ (.int .i64 ((rd_T26 l0 x12_2).f1))).setCell ⟨gb938,2,none⟩ (.slice A937_2 ((rd_T26 l0 x12_2).f2).length c937_2))):=⟨zz158⟩
            (try clear BK938);(try clear HB);generalize (((w13.setCell ⟨gb938,0,none⟩ (.int .i64 ((rd_T26 l0 x12_2).f0))).setCell ⟨gb938,1,none⟩ (.int .i64 ((rd_T26 l0 x12_2).f1))).setCell ⟨gb938,2,none⟩ (.slice A937_2 ((rd_T26 l0 x12_2).f2).length c937_2)) = w23 at n0_ n1_ ⊢
            have BK938:=n0_;have HB:=n1_;clear n0_ n1_;replace BK938:=wA.mk (wG BK938.out);replace HB:=wA.mk (wR HB.out);refine yO (n:=20) (S:=fun w'=>w'.cell? ⟨gb938,0,none⟩ = some (.int .i64 ((rd_T26 l0 x12_2).f0))∧w'.cell? ⟨gb938,1,none⟩ = some (.int .i64 ((rd_T26 l0 x12_2).f1))∧w'.cell? ⟨gb938,2,none⟩ = some (.slice A937_2 ((rd_T26 l0 x12_2).f2).length c937_2)) (ds:=[]) #[fF,fF,fF,fF,fF,fF,fF,fF,fF,fF,fF,fF,fF,fF,fF,fF,fF,fF,fF,fF] (zz0) rfl rfl ⟨(wH BK938.out 0).trans rfl,(wH BK938.out 1).trans rfl,(wH BK938.out 2).trans rfl⟩ (fun hHeld=>?_);refine yA U8.tab17 U8.bits17 (fun HT_ HW_=>?_)
            generalize w23.drew = w24 at BK938 HB hHeld ⊢
            refine zzp 1 47 ?_ #[fF,tT,fF,fF,fF,fF,fF,fF,fF,fF,fF,fF,fF,fF,fF,fF,fF,fF,fF,fF] rfl rfl (wI HT_.out (zz0)) (fun _ _ _ h=>h) (Or.inl ⟨zz26,?_⟩) ?_ ?_ ?_;rotate_left
            ·intro w';go_simp;with_reducible rfl
            rotate_left;·simp only [zzs];rfl
            refine take_ (i:=0) (N:=some 46) (v:=?_) (a':=?_) #[tT,tT,fF,fF,fF,fF,fF,fF,fF,fF,fF,fF,fF,fF,fF,fF,fF,fF,fF,fF] rfl rfl (wT HT_.out HW_.out (zz0)) (fun _ _ _ h=>h) (Or.inl ⟨zz26,?_⟩) hHeld ?_ ?_;rotate_left
            ·rintro w' ⟨s0,s1,s2⟩
             go_simp
             with_reducible rfl
            rotate_left;·simp only [zzs];rfl
            refine yV (i:=2) (N:=some 48) #[tT,tT,tT,fF,fF,fF,fF,fF,fF,fF,fF,fF,fF,fF,fF,fF,fF,fF,fF,fF] rfl rfl (yD HT_.out (zz0)) (zz27) (fun K hK=>?_);refine yP Tryd.func14 (zz0) rfl #[.agg #[.int .i64 ((rd_T26 l0 x12_2).f0),.int .i64 ((rd_T26 l0 x12_2).f1),.slice A937_2 ((rd_T26 l0 x12_2).f2).length c937_2],.int .i64 a2] (zz26) rfl rfl (zz21) ?_
            with_reducible refine (U7.calls k2 ((rd_T26 l0 x12_2).f0) ((rd_T26 l0 x12_2).f1) _ _ ((rd_T26 l0 x12_2).f2) a2 true _ ?side1 ?side2 A15.out).mono ?_
            (case side1=>exact (have h0_:=HR937_2;zz162));(case side2=>exact HC937_2.out);rintro e w25 ⟨rfl,hb⟩;refine ⟨_,rfl,?_⟩;replace BK938:=wA.mk (wF (have h0_:=BK938;zz24) hb);replace HB:=wA.mk (wC (zz158) hb)
            (try clear hb);refine hK.out _ _ ⟨(wH BK938.out 0).trans rfl,(wH BK938.out 1).trans rfl,(wH BK938.out 2).trans rfl⟩ (fun hHeld=>?_);clear hK K;refine wZ (a':=?_) ?_ ?_;rotate_left
            ·show Act.put _ (some 48) _ = _;simp only [zzs];rfl
            refine zzp 3 49 ?_ #[tT,tT,tT,tT,fF,fF,fF,fF,fF,fF,fF,fF,fF,fF,fF,fF,fF,fF,fF,fF] rfl rfl (wI HT_.out (zz0)) (fun _ _ _ h=>h) (Or.inl ⟨zz26,?_⟩) ?_ ?_ ?_;rotate_left
            ·intro w';go_simp;with_reducible rfl
            rotate_left;·simp only [zzs];rfl
            refine zzp 4 50 ?_ #[tT,tT,tT,tT,tT,fF,fF,fF,fF,fF,fF,fF,fF,fF,fF,fF,fF,fF,fF,fF] rfl rfl (wI HT_.out (zz0)) (fun _ _ _ h=>h) (Or.inl ⟨zz26,?_⟩) ?_ ?_ ?_;rotate_left
            ·intro w';go_simp;with_reducible rfl
            rotate_left;·simp only [zzs];rfl
            refine zzp 5 51 ?_ #[tT,tT,tT,tT,tT,tT,fF,fF,fF,fF,fF,fF,fF,fF,fF,fF,fF,fF,fF,fF] rfl rfl (wI HT_.out (zz0)) (fun _ _ _ h=>h) (Or.inl ⟨zz26,?_⟩) ?_ ?_ ?_;rotate_left
            ·intro w';go_simp;with_reducible rfl
            rotate_left;·simp only [zzs];rfl
            refine zzp 6 52 ?_ #[tT,tT,tT,tT,tT,tT,tT,fF,fF,fF,fF,fF,fF,fF,fF,fF,fF,fF,fF,fF] rfl rfl (wI HT_.out (zz0)) (fun _ _ _ h=>h) (Or.inl ⟨zz26,?_⟩) ?_ ?_ ?_;rotate_left
            ·intro w';go_simp;with_reducible rfl
            rotate_left;·simp only [zzs];rfl
            refine zzp 7 53 ?_ #[tT,tT,tT,tT,tT,tT,tT,tT,fF,fF,fF,fF,fF,fF,fF,fF,fF,fF,fF,fF] rfl rfl (wI HT_.out (zz0)) (fun _ _ _ h=>h) (Or.inl ⟨zz26,?_⟩) ?_ ?_ ?_;rotate_left
            ·intro w';go_simp;with_reducible rfl
            rotate_left;·simp only [zzs];rfl
            refine take_ (i:=8) (N:=some 54) (v:=?_) (a':=?_) #[tT,tT,tT,tT,tT,tT,tT,tT,tT,fF,fF,fF,fF,fF,fF,fF,fF,fF,fF,fF] rfl rfl (wT HT_.out HW_.out (zz0)) (fun _ _ _ h=>h) (Or.inl ⟨zz26,?_⟩) hHeld ?_ ?_;rotate_left
            ·rintro w' ⟨s0,s1,s2⟩
             go_simp
             with_reducible rfl
            rotate_left;·simp only [zzs];rfl
            refine yV (i:=9) (N:=some 55) #[tT,tT,tT,tT,tT,tT,tT,tT,tT,tT,fF,fF,fF,fF,fF,fF,fF,fF,fF,fF] rfl rfl (yD HT_.out (zz0)) (zz27) (fun K hK=>?_);refine yP Tryd.func42 (zz0) rfl #[.slice A1 l1.length c1,.int .i64 a2,.int .i64 ((rd_T26 l0 x12_2).f0)] (zz26) rfl rfl (zz21) ?_
            with_reducible refine (U10.calls k2 _ _ l1 a2 ((rd_T26 l0 x12_2).f0) false _ ?side1 ?side2 A17.out).mono ?_
            (case side1=>exact zz164);(case side2=>exact HC1.out);rintro e w' ⟨rfl,⟨nd,rfl⟩⟩;refine ⟨_,rfl,?_⟩;refine hK.out _ _ ⟨(wH BK938.out 0).trans rfl,(wH BK938.out 1).trans rfl,(wH BK938.out 2).trans rfl⟩ (fun hHeld=>?_);clear hK K;refine wZ (a':=?_) ?_ ?_;rotate_left
            ·show Act.put _ (some 55) _ = _;simp only [zzs];rfl
            refine zzp 10 56 ?_ #[tT,tT,tT,tT,tT,tT,tT,tT,tT,tT,tT,fF,fF,fF,fF,fF,fF,fF,fF,fF] rfl rfl (wI HT_.out (zz0)) (fun _ _ _ h=>h) (Or.inl ⟨zz26,?_⟩) ?_ ?_ ?_;rotate_left
            ·intro w';go_simp;with_reducible rfl
            rotate_left;·simp only [zzs];rfl
            refine zzp 11 57 ?_ #[tT,tT,tT,tT,tT,tT,tT,tT,tT,tT,tT,tT,fF,fF,fF,fF,fF,fF,fF,fF] rfl rfl (wI HT_.out (zz0)) (fun _ _ _ h=>h) (Or.inl ⟨zz26,?_⟩) ?_ ?_ ?_;rotate_left
            ·intro w';go_simp;with_reducible rfl
            rotate_left;·simp only [zzs];rfl
            refine zzp 12 58 ?_ #[tT,tT,tT,tT,tT,tT,tT,tT,tT,tT,tT,tT,tT,fF,fF,fF,fF,fF,fF,fF] rfl rfl (wI HT_.out (zz0)) (fun _ _ _ h=>h) (Or.inl ⟨zz26,?_⟩) ?_ ?_ ?_;rotate_left
            ·intro w';go_simp;with_reducible rfl
            rotate_left;·simp only [zzs];rfl
            refine zzp 13 59 ?_ #[tT,tT,tT,tT,tT,tT,tT,tT,tT,tT,tT,tT,tT,tT,fF,fF,fF,fF,fF,fF] rfl rfl (wI HT_.out (zz0)) (fun _ _ _ h=>h) (Or.inl ⟨zz26,?_⟩) ?_ ?_ ?_;rotate_left
            ·intro w';go_simp;with_reducible rfl
            rotate_left;·simp only [zzs];rfl
            refine zzp 16 62 ?_ #[tT,tT,tT,tT,tT,tT,tT,tT,tT,tT,tT,tT,tT,tT,fF,fF,tT,fF,fF,fF] rfl rfl (wI HT_.out (zz0)) (fun _ _ _ h=>h) (Or.inl ⟨zz26,?_⟩) ?_ ?_ ?_;rotate_left
            ·intro w';go_simp;with_reducible rfl
            rotate_left;·simp only [zzs];rfl
            refine take_ (i:=14) (N:=some 60) (v:=?_) (a':=?_) #[tT,tT,tT,tT,tT,tT,tT,tT,tT,tT,tT,tT,tT,tT,tT,fF,tT,fF,fF,fF] rfl rfl (wT HT_.out HW_.out (zz0)) (fun _ _ _ h=>h) (Or.inl ⟨zz26,?_⟩) hHeld ?_ ?_;rotate_left
            ·rintro w' ⟨s0,s1,s2⟩
             go_simp
             with_reducible rfl
            rotate_left;·simp only [zzs];rfl
            refine take_ (i:=17) (N:=some 63) (v:=?_) (a':=?_) #[tT,tT,tT,tT,tT,tT,tT,tT,tT,tT,tT,tT,tT,tT,tT,fF,tT,tT,fF,fF] rfl rfl (wT HT_.out HW_.out (zz0)) (fun _ _ _ h=>h) (Or.inl ⟨zz26,?_⟩) hHeld ?_ ?_;rotate_left
            ·rintro w' ⟨s0,s1,s2⟩
             go_simp
             with_reducible rfl
            rotate_left;·simp only [zzs];rfl
            refine yV (i:=15) (N:=some 61) #[tT,tT,tT,tT,tT,tT,tT,tT,tT,tT,tT,tT,tT,tT,tT,tT,tT,tT,fF,fF] rfl rfl (yD HT_.out (zz0)) (zz27) (fun K hK=>?_);refine yP Tryd.func16 (zz0) rfl #[.slice A1 l1.length c1,.int .i64 ((rd_T26 l0 x12_2).f0)] (zz26) rfl rfl (zz21) ?_
            with_reducible refine (U6.calls k2 _ _ l1 ((rd_T26 l0 x12_2).f0) t941 _ ?side1 ?side2 A22.out).mono ?_
            (case side1=>exact zz182);(case side2=>exact HC1.out);rintro e w' ⟨rfl,⟨nd,rfl⟩⟩;refine ⟨_,rfl,?_⟩;refine hK.out _ _ ⟨(wH BK938.out 0).trans rfl,(wH BK938.out 1).trans rfl,(wH BK938.out 2).trans rfl⟩ (fun hHeld=>?_);clear hK K;refine wZ (a':=?_) ?_ ?_;rotate_left
            ·show Act.put _ (some 61) _ = _;simp only [zzs];rfl
            refine zzp 18 64 ?_ #[tT,tT,tT,tT,tT,tT,tT,tT,tT,tT,tT,tT,tT,tT,tT,tT,tT,tT,tT,fF] rfl rfl (wI HT_.out (zz0)) (fun _ _ _ h=>h) (Or.inl ⟨zz26,?_⟩) ?_ ?_ ?_;rotate_left
            ·intro w';go_simp;with_reducible rfl
            rotate_left;·simp only [zzs];rfl
            refine zzp 19 65 ?_ #[tT,tT,tT,tT,tT,tT,tT,tT,tT,tT,tT,tT,tT,tT,tT,tT,tT,tT,tT,tT] rfl rfl (wI HT_.out (zz0)) (fun _ _ _ h=>h) (Or.inl ⟨zz26,?_⟩) ?_ ?_ ?_;rotate_left
            ·intro w';go_simp;with_reducible rfl
            rotate_left;·simp only [zzs];rfl
            refine yU (yL HT_.out (zz0)) ?_
            try go_wp2
            go_meet
            case rel=>exact ⟨_,(decide (t941≥((rd_T26 l0 x12_2).f1))),(zz2),H',⟨zz9⟩,⟨(have h0_:=BK938;zz24)⟩,⟨zz158⟩⟩
          ·replace c16:=Bool.eq_false_iff.mpr c16;subst c16;have H1:(U8.j2 k2 l0 l1 a2 x11_2 x12_2 true ((rd_T26 l0 x12_2).f0) ((rd_T26 l0 x12_2).f1) ((rd_T26 l0 x12_2).f2)) = some (r1,r2):=zz11;clear H;have H:=H1;clear H1;have H':=wA.mk H;clear H
           try go_wp2
           have n0_:wA ((((w13.setCell ⟨gb938,0,none⟩ (.int .i64 ((rd_T26 l0 x12_2).f0))).setCell ⟨gb938,1,none⟩ (.int .i64 ((rd_T26 l0 x12_2).f1))).setCell ⟨gb938,2,none⟩ (.slice A937_2 ((rd_T26 l0 x12_2).f2).length c937_2)).heap[gb938]? = some (.cells #[.int .i64 ((rd_T26 l0 x12_2).f0),.int .i64 ((rd_T26 l0 x12_2).f1),.slice A937_2 ((rd_T26 l0 x12_2).f2).length c937_2] 26 (0,0))):=⟨zz157⟩;have n1_:wA (Below w.heap.size w (((w13.setCell ⟨gb938,0,none⟩ (.int .i64 ((rd_T26 l0 x12_2).f0))).setCell ⟨gb938,1,none⟩ (.int .i64 ((rd_T26 l0 x12_2).f1))).setCell ⟨gb938,2,none⟩ (.slice A937_2 ((rd_T26 l0 x12_2).f2).length c937_2))):=⟨zz158⟩
           (try clear BK938);(try clear HB);generalize (((w13.setCell ⟨gb938,0,none⟩ (.int .i64 ((rd_T26 l0 x12_2).f0))).setCell ⟨gb938,1,none⟩ (.int .i64 ((rd_T26 l0 x12_2).f1))).setCell ⟨gb938,2,none⟩ (.slice A937_2 ((rd_T26 l0 x12_2).f2).length c937_2)) = w26 at n0_ n1_ ⊢
           have BK938:=n0_;have HB:=n1_;clear n0_ n1_;replace BK938:=wA.mk (wG BK938.out);replace HB:=wA.mk (wR HB.out);refine yO (n:=20) (S:=fun w'=>w'.cell? ⟨gb938,0,none⟩ = some (.int .i64 ((rd_T26 l0 x12_2).f0))∧w'.cell? ⟨gb938,1,none⟩ = some (.int .i64 ((rd_T26 l0 x12_2).f1))∧w'.cell? ⟨gb938,2,none⟩ = some (.slice A937_2 ((rd_T26 l0 x12_2).f2).length c937_2)) (ds:=[]) #[fF,fF,fF,fF,fF,fF,fF,fF,fF,fF,fF,fF,fF,fF,fF,fF,fF,fF,fF,fF] (zz0) rfl rfl ⟨(wH BK938.out 0).trans rfl,(wH BK938.out 1).trans rfl,(wH BK938.out 2).trans rfl⟩ (fun hHeld=>?_);refine yA U8.tab17 U8.bits17 (fun HT_ HW_=>?_)
           generalize w26.drew = w27 at BK938 HB hHeld ⊢
           refine zzp 1 47 ?_ #[fF,tT,fF,fF,fF,fF,fF,fF,fF,fF,fF,fF,fF,fF,fF,fF,fF,fF,fF,fF] rfl rfl (wI HT_.out (zz0)) (fun _ _ _ h=>h) (Or.inl ⟨zz26,?_⟩) ?_ ?_ ?_;rotate_left
           ·intro w';go_simp;with_reducible rfl
           rotate_left;·simp only [zzs];rfl
           refine take_ (i:=0) (N:=some 46) (v:=?_) (a':=?_) #[tT,tT,fF,fF,fF,fF,fF,fF,fF,fF,fF,fF,fF,fF,fF,fF,fF,fF,fF,fF] rfl rfl (wT HT_.out HW_.out (zz0)) (fun _ _ _ h=>h) (Or.inl ⟨zz26,?_⟩) hHeld ?_ ?_;rotate_left
           ·rintro w' ⟨s0,s1,s2⟩
            go_simp
            with_reducible rfl
           rotate_left;·simp only [zzs];rfl
           refine yV (i:=2) (N:=some 48) #[tT,tT,tT,fF,fF,fF,fF,fF,fF,fF,fF,fF,fF,fF,fF,fF,fF,fF,fF,fF] rfl rfl (yD HT_.out (zz0)) (zz27) (fun K hK=>?_);refine yP Tryd.func14 (zz0) rfl #[.agg #[.int .i64 ((rd_T26 l0 x12_2).f0),.int .i64 ((rd_T26 l0 x12_2).f1),.slice A937_2 ((rd_T26 l0 x12_2).f2).length c937_2],.int .i64 a2] (zz26) rfl rfl (zz21) ?_
           with_reducible refine (U7.calls k2 ((rd_T26 l0 x12_2).f0) ((rd_T26 l0 x12_2).f1) _ _ ((rd_T26 l0 x12_2).f2) a2 false _ ?side1 ?side2 A15.out).mono ?_
           (case side1=>exact (have h0_:=HR937_2;zz162));(case side2=>exact HC937_2.out);rintro e w28 ⟨rfl,hb⟩;refine ⟨_,rfl,?_⟩;replace BK938:=wA.mk (wF (have h0_:=BK938;zz24) hb);replace HB:=wA.mk (wC (zz158) hb)
           (try clear hb);refine hK.out _ _ ⟨(wH BK938.out 0).trans rfl,(wH BK938.out 1).trans rfl,(wH BK938.out 2).trans rfl⟩ (fun hHeld=>?_);clear hK K;refine wZ (a':=?_) ?_ ?_;rotate_left
           ·show Act.put _ (some 48) _ = _;simp only [zzs];rfl
           refine zzp 3 49 ?_ #[tT,tT,tT,tT,fF,fF,fF,fF,fF,fF,fF,fF,fF,fF,fF,fF,fF,fF,fF,fF] rfl rfl (wI HT_.out (zz0)) (fun _ _ _ h=>h) (Or.inl ⟨zz26,?_⟩) ?_ ?_ ?_;rotate_left
           ·intro w';go_simp;with_reducible rfl
           rotate_left;·simp only [zzs];rfl
           refine zzp 4 50 ?_ #[tT,tT,tT,tT,tT,fF,fF,fF,fF,fF,fF,fF,fF,fF,fF,fF,fF,fF,fF,fF] rfl rfl (wI HT_.out (zz0)) (fun _ _ _ h=>h) (Or.inl ⟨zz26,?_⟩) ?_ ?_ ?_;rotate_left
           ·intro w';go_simp;with_reducible rfl
           rotate_left;·simp only [zzs];rfl
           refine wW (i:=5) (N:=some 51) (v:=undef) (a':=?_) #[tT,tT,tT,tT,tT,tT,fF,fF,fF,fF,fF,fF,fF,fF,fF,fF,fF,fF,fF,fF] rfl rfl (wI HT_.out (zz0)) (fun _ _ _ h=>h) (Or.inr ⟨zz26,rfl⟩) ?_ ?_;rotate_left
           ·simp only [zzs];rfl
           refine wW (i:=6) (N:=some 52) (v:=undef) (a':=?_) #[tT,tT,tT,tT,tT,tT,tT,fF,fF,fF,fF,fF,fF,fF,fF,fF,fF,fF,fF,fF] rfl rfl (wI HT_.out (zz0)) (fun _ _ _ h=>h) (Or.inr ⟨zz26,rfl⟩) ?_ ?_;rotate_left
           ·simp only [zzs];rfl
           refine wW (i:=7) (N:=some 53) (v:=undef) (a':=?_) #[tT,tT,tT,tT,tT,tT,tT,tT,fF,fF,fF,fF,fF,fF,fF,fF,fF,fF,fF,fF] rfl rfl (wI HT_.out (zz0)) (fun _ _ _ h=>h) (Or.inr ⟨zz26,rfl⟩) ?_ ?_;rotate_left
           ·simp only [zzs];rfl
           refine wW (i:=8) (N:=some 54) (v:=undef) (a':=?_) #[tT,tT,tT,tT,tT,tT,tT,tT,tT,fF,fF,fF,fF,fF,fF,fF,fF,fF,fF,fF] rfl rfl (wI HT_.out (zz0)) (fun _ _ _ h=>h) (Or.inr ⟨zz26,rfl⟩) ?_ ?_;rotate_left
           ·simp only [zzs];rfl
           refine wW (i:=9) (N:=some 55) (v:=undef) (a':=?_) #[tT,tT,tT,tT,tT,tT,tT,tT,tT,tT,fF,fF,fF,fF,fF,fF,fF,fF,fF,fF] rfl rfl (wI HT_.out (zz0)) (fun _ _ _ h=>h) (Or.inr ⟨zz26,rfl⟩) ?_ ?_;rotate_left
           ·simp only [zzs];rfl
           refine zzp 10 56 ?_ #[tT,tT,tT,tT,tT,tT,tT,tT,tT,tT,tT,fF,fF,fF,fF,fF,fF,fF,fF,fF] rfl rfl (wI HT_.out (zz0)) (fun _ _ _ h=>h) (Or.inl ⟨zz26,?_⟩) ?_ ?_ ?_;rotate_left
           ·intro w';go_simp;with_reducible rfl
           rotate_left;·simp only [zzs];rfl
           refine zzp 11 57 ?_ #[tT,tT,tT,tT,tT,tT,tT,tT,tT,tT,tT,tT,fF,fF,fF,fF,fF,fF,fF,fF] rfl rfl (wI HT_.out (zz0)) (fun _ _ _ h=>h) (Or.inl ⟨zz26,?_⟩) ?_ ?_ ?_;rotate_left
           ·intro w';go_simp;with_reducible rfl
           rotate_left;·simp only [zzs];rfl
           refine wW (i:=12) (N:=some 58) (v:=undef) (a':=?_) #[tT,tT,tT,tT,tT,tT,tT,tT,tT,tT,tT,tT,tT,fF,fF,fF,fF,fF,fF,fF] rfl rfl (wI HT_.out (zz0)) (fun _ _ _ h=>h) (Or.inr ⟨zz26,rfl⟩) ?_ ?_;rotate_left
           ·simp only [zzs];rfl
           refine wW (i:=13) (N:=some 59) (v:=undef) (a':=?_) #[tT,tT,tT,tT,tT,tT,tT,tT,tT,tT,tT,tT,tT,tT,fF,fF,fF,fF,fF,fF] rfl rfl (wI HT_.out (zz0)) (fun _ _ _ h=>h) (Or.inr ⟨zz26,rfl⟩) ?_ ?_;rotate_left
           ·simp only [zzs];rfl
           refine wW (i:=14) (N:=some 60) (v:=undef) (a':=?_) #[tT,tT,tT,tT,tT,tT,tT,tT,tT,tT,tT,tT,tT,tT,tT,fF,fF,fF,fF,fF] rfl rfl (wI HT_.out (zz0)) (fun _ _ _ h=>h) (Or.inr ⟨zz26,rfl⟩) ?_ ?_;rotate_left
           ·simp only [zzs];rfl
           refine wW (i:=15) (N:=some 61) (v:=undef) (a':=?_) #[tT,tT,tT,tT,tT,tT,tT,tT,tT,tT,tT,tT,tT,tT,tT,tT,fF,fF,fF,fF] rfl rfl (wI HT_.out (zz0)) (fun _ _ _ h=>h) (Or.inr ⟨zz26,rfl⟩) ?_ ?_;rotate_left
           ·simp only [zzs];rfl
           refine wW (i:=16) (N:=some 62) (v:=undef) (a':=?_) #[tT,tT,tT,tT,tT,tT,tT,tT,tT,tT,tT,tT,tT,tT,tT,tT,tT,fF,fF,fF] rfl rfl (wI HT_.out (zz0)) (fun _ _ _ h=>h) (Or.inr ⟨zz26,rfl⟩) ?_ ?_;rotate_left
           ·simp only [zzs];rfl
           refine wW (i:=17) (N:=some 63) (v:=undef) (a':=?_) #[tT,tT,tT,tT,tT,tT,tT,tT,tT,tT,tT,tT,tT,tT,tT,tT,tT,tT,fF,fF] rfl rfl (wI HT_.out (zz0)) (fun _ _ _ h=>h) (Or.inr ⟨zz26,rfl⟩) ?_ ?_;rotate_left
           ·simp only [zzs];rfl
           refine wW (i:=18) (N:=some 64) (v:=undef) (a':=?_) #[tT,tT,tT,tT,tT,tT,tT,tT,tT,tT,tT,tT,tT,tT,tT,tT,tT,tT,tT,fF] rfl rfl (wI HT_.out (zz0)) (fun _ _ _ h=>h) (Or.inr ⟨zz26,rfl⟩) ?_ ?_;rotate_left
           ·simp only [zzs];rfl
           refine zzp 19 65 ?_ #[tT,tT,tT,tT,tT,tT,tT,tT,tT,tT,tT,tT,tT,tT,tT,tT,tT,tT,tT,tT] rfl rfl (wI HT_.out (zz0)) (fun _ _ _ h=>h) (Or.inl ⟨zz26,?_⟩) ?_ ?_ ?_;rotate_left
           ·intro w';go_simp;with_reducible rfl
           rotate_left;·simp only [zzs];rfl
           refine yU (yL HT_.out (zz0)) ?_
           try go_wp2
           go_meet
           case rel=>exact ⟨_,(true),(zz2),H',⟨zz9⟩,⟨(have h0_:=BK938;zz24)⟩,⟨zz158⟩⟩
         case rest =>
          clear HC12;(try clear hx9);(try clear hcz14_0);(try clear hcz14_1);(try clear hcz14_2);(try clear hfz14_0);(try clear hfz14_1);(try clear hfz14_2);(try clear hx937_0);(try clear hx937_1);(try clear hx937_2);clear p937 q937;obtain ⟨kq,x65_11,rfl,HA,HJ11,BK938,HB⟩:=hcut
          cases kq with
          | zero=>exact absurd HA.out (by simp [U8.j2])
          | succ kj11 =>
           have H:=HA.out;clear HA;simp only [U8.j2] at H;by_cases c29:x65_11 = true
           ·subst c29;have H1:(U8.l1 kj11 l0 l1 a2 x11_2 (wrap64 (x12_2+1))) = some (r1,r2):=zz10;clear H;have H:=H1;clear H1;have H':=wA.mk H;clear H
            go_wp2
            go_roundg kj11
            case measure=>have:=HK1.out;have:=HK2.out;have:=HJ11.out;omega
            case rel=>exact ⟨(x11_2),(wrap64 (x12_2+1)),(zz2),(zz2),H',⟨zz159⟩,⟨zz158⟩⟩
           ·replace c29:=Bool.eq_false_iff.mpr c29;subst c29;have H1:(if x11_2 < 0 then (U8.l1 kj11 l0 l1 a2 x12_2 (wrap64 (x12_2+1))) else ((U6.f kj11 l1 ((rd_T26 l0 x12_2).f0)).bind fun t942=>(if 0≤x11_2 then (if x11_2 < (l0.length:Int) then ((U6.f kj11 l1 ((rd_T26 l0 x11_2).f0)).bind fun t944=>(if t942 < t944 then (U8.l1 kj11 l0 l1 a2 x12_2 (wrap64 (x12_2+1))) else (U8.l1 kj11 l0 l1 a2 x11_2 (wrap64 (x12_2+1))))) else (none)) else (none)))) = some (r1,r2):=zz11;clear H;have H:=H1;clear H1;replace H:=zzj H;rcases H with ⟨c30,H⟩|⟨c30,H⟩
            ·have c30b0:=qM c30;clear c30;have H':=wA.mk H;clear H
             try go_wp2
             replace BK938:=wA.mk (wG BK938.out);replace HB:=wA.mk (wR HB.out);refine yO (n:=16) (S:=fun w'=>True) (ds:=[]) #[fF,fF,fF,fF,fF,fF,fF,fF,fF,fF,fF,fF,fF,fF,fF,fF] (zz0) rfl rfl trivial (fun hHeld=>?_);refine yA U8.tab18 U8.bits18 (fun HT_ HW_=>?_)
             generalize wc.drew = w31 at BK938 HB hHeld ⊢
             refine zzp 0 66 ?_ #[tT,fF,fF,fF,fF,fF,fF,fF,fF,fF,fF,fF,fF,fF,fF,fF] rfl rfl (wI HT_.out (zz0)) (fun _ _ _ h=>h) (Or.inl ⟨zz26,?_⟩) ?_ ?_ ?_;rotate_left
             ·intro w';go_simp;with_reducible rfl
             rotate_left;·simp only [zzs];rfl
             refine zzp 1 67 ?_ #[tT,tT,fF,fF,fF,fF,fF,fF,fF,fF,fF,fF,fF,fF,fF,fF] rfl rfl (wI HT_.out (zz0)) (fun _ _ _ h=>h) (Or.inl ⟨zz26,?_⟩) ?_ ?_ ?_;rotate_left
             ·intro w';go_simp;with_reducible rfl
             rotate_left;·simp only [zzs];rfl
             refine zzp 2 68 ?_ #[tT,tT,tT,fF,fF,fF,fF,fF,fF,fF,fF,fF,fF,fF,fF,fF] rfl rfl (wI HT_.out (zz0)) (fun _ _ _ h=>h) (Or.inl ⟨zz26,?_⟩) ?_ ?_ ?_;rotate_left
             ·intro w';go_simp;with_reducible rfl
             rotate_left;·simp only [zzs];rfl
             refine wW (i:=3) (N:=some 69) (v:=undef) (a':=?_) #[tT,tT,tT,tT,fF,fF,fF,fF,fF,fF,fF,fF,fF,fF,fF,fF] rfl rfl (wI HT_.out (zz0)) (fun _ _ _ h=>h) (Or.inr ⟨zz26,rfl⟩) ?_ ?_;rotate_left
             ·simp only [zzs];rfl
             refine wW (i:=4) (N:=some 70) (v:=undef) (a':=?_) #[tT,tT,tT,tT,tT,fF,fF,fF,fF,fF,fF,fF,fF,fF,fF,fF] rfl rfl (wI HT_.out (zz0)) (fun _ _ _ h=>h) (Or.inr ⟨zz26,rfl⟩) ?_ ?_;rotate_left
             ·simp only [zzs];rfl
             refine wW (i:=5) (N:=some 71) (v:=undef) (a':=?_) #[tT,tT,tT,tT,tT,tT,fF,fF,fF,fF,fF,fF,fF,fF,fF,fF] rfl rfl (wI HT_.out (zz0)) (fun _ _ _ h=>h) (Or.inr ⟨zz26,rfl⟩) ?_ ?_;rotate_left
             ·simp only [zzs];rfl
             refine wW (i:=6) (N:=some 72) (v:=undef) (a':=?_) #[tT,tT,tT,tT,tT,tT,tT,fF,fF,fF,fF,fF,fF,fF,fF,fF] rfl rfl (wI HT_.out (zz0)) (fun _ _ _ h=>h) (Or.inr ⟨zz26,rfl⟩) ?_ ?_;rotate_left
             ·simp only [zzs];rfl
             refine wW (i:=7) (N:=some 73) (v:=undef) (a':=?_) #[tT,tT,tT,tT,tT,tT,tT,tT,fF,fF,fF,fF,fF,fF,fF,fF] rfl rfl (wI HT_.out (zz0)) (fun _ _ _ h=>h) (Or.inr ⟨zz26,rfl⟩) ?_ ?_;rotate_left
             ·simp only [zzs];rfl
             refine wW (i:=8) (N:=some 74) (v:=undef) (a':=?_) #[tT,tT,tT,tT,tT,tT,tT,tT,tT,fF,fF,fF,fF,fF,fF,fF] rfl rfl (wI HT_.out (zz0)) (fun _ _ _ h=>h) (Or.inr ⟨zz26,rfl⟩) ?_ ?_;rotate_left
             ·simp only [zzs];rfl
             refine wW (i:=9) (N:=some 75) (v:=undef) (a':=?_) #[tT,tT,tT,tT,tT,tT,tT,tT,tT,tT,fF,fF,fF,fF,fF,fF] rfl rfl (wI HT_.out (zz0)) (fun _ _ _ h=>h) (Or.inr ⟨zz26,rfl⟩) ?_ ?_;rotate_left
             ·simp only [zzs];rfl
             refine wW (i:=10) (N:=some 76) (v:=undef) (a':=?_) #[tT,tT,tT,tT,tT,tT,tT,tT,tT,tT,tT,fF,fF,fF,fF,fF] rfl rfl (wI HT_.out (zz0)) (fun _ _ _ h=>h) (Or.inr ⟨zz26,rfl⟩) ?_ ?_;rotate_left
             ·simp only [zzs];rfl
             refine wW (i:=11) (N:=some 77) (v:=undef) (a':=?_) #[tT,tT,tT,tT,tT,tT,tT,tT,tT,tT,tT,tT,fF,fF,fF,fF] rfl rfl (wI HT_.out (zz0)) (fun _ _ _ h=>h) (Or.inr ⟨zz26,rfl⟩) ?_ ?_;rotate_left
             ·simp only [zzs];rfl
             refine wW (i:=12) (N:=some 78) (v:=undef) (a':=?_) #[tT,tT,tT,tT,tT,tT,tT,tT,tT,tT,tT,tT,tT,fF,fF,fF] rfl rfl (wI HT_.out (zz0)) (fun _ _ _ h=>h) (Or.inr ⟨zz26,rfl⟩) ?_ ?_;rotate_left
             ·simp only [zzs];rfl
             refine wW (i:=13) (N:=some 79) (v:=undef) (a':=?_) #[tT,tT,tT,tT,tT,tT,tT,tT,tT,tT,tT,tT,tT,tT,fF,fF] rfl rfl (wI HT_.out (zz0)) (fun _ _ _ h=>h) (Or.inr ⟨zz26,rfl⟩) ?_ ?_;rotate_left
             ·simp only [zzs];rfl
             refine wW (i:=14) (N:=some 80) (v:=undef) (a':=?_) #[tT,tT,tT,tT,tT,tT,tT,tT,tT,tT,tT,tT,tT,tT,tT,fF] rfl rfl (wI HT_.out (zz0)) (fun _ _ _ h=>h) (Or.inr ⟨zz26,rfl⟩) ?_ ?_;rotate_left
             ·simp only [zzs];rfl
             refine zzp 15 81 ?_ #[tT,tT,tT,tT,tT,tT,tT,tT,tT,tT,tT,tT,tT,tT,tT,tT] rfl rfl (wI HT_.out (zz0)) (fun _ _ _ h=>h) (Or.inl ⟨zz26,?_⟩) ?_ ?_ ?_;rotate_left
             ·intro w';go_simp;with_reducible rfl
             rotate_left;·simp only [zzs];rfl
             refine yU (yL HT_.out (zz0)) ?_
             try go_wp2
             go_roundg kj11
             case measure=>have:=HK1.out;have:=HK2.out;have:=HJ11.out;omega
             case rel=>exact ⟨(x12_2),(wrap64 (x12_2+1)),(zz2),(zz2),H',⟨zz159⟩,⟨zz158⟩⟩
            ·have c30b0:=qN c30;clear c30;replace H:=zzb H;obtain ⟨t942,A32,H⟩:=H;replace H:=zzi H;obtain ⟨c33,H⟩:=H;have c33b0:=qM c33;clear c33;replace H:=zzi H;obtain ⟨c34,H⟩:=H;have c34b0:=qM c34;clear c34;replace H:=zzb H;obtain ⟨t944,A35,H⟩:=H;replace H:=zzj H;rcases H with ⟨c36,H⟩|⟨c36,H⟩
             ·have c36b0:=qM c36;clear c36;have H':=wA.mk H;clear H
              try go_wp2
              replace BK938:=wA.mk (wG BK938.out);replace HB:=wA.mk (wR HB.out);have p943:0≤(x11_2:Int):=qL (zz4);have q943:x11_2 < (l0.length:Int):=qL (zz4);obtain ⟨ad943,A943_2,c943_2,e943,hx943_0,hx943_1,hx943_2,hl943_2,hi943_2⟩:=at_T26 HR0.out x11_2 p943 q943;have hw943_2:=hx943_2;have hw943_1:=hx943_1;have hw943_0:=hx943_0;obtain rfl:ad937 = ad943:=(by injection e943);replace hx943_0:=(HB.out.cell (qK w _ hx943_0)).trans hx943_0;replace hx943_1:=(HB.out.cell (qK w _ hx943_1)).trans hx943_1;replace hx943_2:=(HB.out.cell (qK w _ hx943_2)).trans hx943_2;have HR943_2:=wA.mk hi943_2;have HC943_2:=wA.mk hl943_2;clear hi943_2 hl943_2;replace p943:=eq_true p943;replace q943:=eq_true q943;refine yO (n:=16) (S:=fun w'=>w'.cell? ⟨gb938,0,none⟩ = some (.int .i64 ((rd_T26 l0 x12_2).f0))∧w'.cell? ⟨gb938,1,none⟩ = some (.int .i64 ((rd_T26 l0 x12_2).f1))∧w'.cell? ⟨gb938,2,none⟩ = some (.slice A937_2 ((rd_T26 l0 x12_2).f2).length c937_2)∧w'.cell? (ad937.add ((x11_2).toNat * 3)) = some (.int .i64 ((rd_T26 l0 x11_2).f0))∧w'.cell? ⟨(ad937.add ((x11_2).toNat * 3)).block,(ad937.add ((x11_2).toNat * 3)).off+1,none⟩ = some (.int .i64 ((rd_T26 l0 x11_2).f1))∧w'.cell? ⟨(ad937.add ((x11_2).toNat * 3)).block,(ad937.add ((x11_2).toNat * 3)).off+2,none⟩ = some (.slice A943_2 ((rd_T26 l0 x11_2).f2).length c943_2)) (ds:=[]) #[fF,fF,fF,fF,fF,fF,fF,fF,fF,fF,fF,fF,fF,fF,fF,fF] (zz0) rfl rfl ⟨(wH BK938.out 0).trans rfl,(wH BK938.out 1).trans rfl,(wH BK938.out 2).trans rfl,((HB.out.cell (qK w _ hw943_0)).trans hw943_0),((HB.out.cell (qK w _ hw943_1)).trans hw943_1),((HB.out.cell (qK w _ hw943_2)).trans hw943_2)⟩ (fun hHeld=>?_);refine yA U8.tab18 U8.bits18 (fun HT_ HW_=>?_)
              generalize wc.drew = w37 at BK938 HB HR943_2 hx943_0 hx943_1 hx943_2 hHeld ⊢
              refine zzp 0 66 ?_ #[tT,fF,fF,fF,fF,fF,fF,fF,fF,fF,fF,fF,fF,fF,fF,fF] rfl rfl (wI HT_.out (zz0)) (fun _ _ _ h=>h) (Or.inl ⟨zz26,?_⟩) ?_ ?_ ?_;rotate_left
              ·intro w';go_simp;with_reducible rfl
              rotate_left;·simp only [zzs];rfl
              refine zzp 1 67 ?_ #[tT,tT,fF,fF,fF,fF,fF,fF,fF,fF,fF,fF,fF,fF,fF,fF] rfl rfl (wI HT_.out (zz0)) (fun _ _ _ h=>h) (Or.inl ⟨zz26,?_⟩) ?_ ?_ ?_;rotate_left
              ·intro w';go_simp;with_reducible rfl
              rotate_left;·simp only [zzs];rfl
              refine zzp 2 68 ?_ #[tT,tT,tT,fF,fF,fF,fF,fF,fF,fF,fF,fF,fF,fF,fF,fF] rfl rfl (wI HT_.out (zz0)) (fun _ _ _ h=>h) (Or.inl ⟨zz26,?_⟩) ?_ ?_ ?_;rotate_left
              ·intro w';go_simp;with_reducible rfl
              rotate_left;·simp only [zzs];rfl
              refine zzp 3 69 ?_ #[tT,tT,tT,tT,fF,fF,fF,fF,fF,fF,fF,fF,fF,fF,fF,fF] rfl rfl (wI HT_.out (zz0)) (fun _ _ _ h=>h) (Or.inl ⟨zz26,?_⟩) ?_ ?_ ?_;rotate_left
              ·intro w';go_simp;with_reducible rfl
              rotate_left;·simp only [zzs];rfl
              refine zzp 4 70 ?_ #[tT,tT,tT,tT,tT,fF,fF,fF,fF,fF,fF,fF,fF,fF,fF,fF] rfl rfl (wI HT_.out (zz0)) (fun _ _ _ h=>h) (Or.inl ⟨zz26,?_⟩) ?_ ?_ ?_;rotate_left
              ·intro w';go_simp;with_reducible rfl
              rotate_left;·simp only [zzs];rfl
              refine zzp 7 73 ?_ #[tT,tT,tT,tT,tT,fF,fF,tT,fF,fF,fF,fF,fF,fF,fF,fF] rfl rfl (wI HT_.out (zz0)) (fun _ _ _ h=>h) (Or.inl ⟨zz26,?_⟩) ?_ ?_ ?_;rotate_left
              ·intro w';go_simp;with_reducible rfl
              rotate_left;·simp only [zzs];rfl
              refine zzp 8 74 ?_ #[tT,tT,tT,tT,tT,fF,fF,tT,tT,fF,fF,fF,fF,fF,fF,fF] rfl rfl (wI HT_.out (zz0)) (fun _ _ _ h=>h) (Or.inl ⟨zz26,?_⟩) ?_ ?_ ?_;rotate_left
              ·intro w';go_simp;with_reducible rfl
              rotate_left;·simp only [zzs];rfl
              refine zzp 9 75 ?_ #[tT,tT,tT,tT,tT,fF,fF,tT,tT,tT,fF,fF,fF,fF,fF,fF] rfl rfl (wI HT_.out (zz0)) (fun _ _ _ h=>h) (Or.inl ⟨zz26,?_⟩) ?_ ?_ ?_;rotate_left
              ·intro w';go_simp;with_reducible rfl
              rotate_left;·simp only [zzs];rfl
              refine zzp 10 76 ?_ #[tT,tT,tT,tT,tT,fF,fF,tT,tT,tT,tT,fF,fF,fF,fF,fF] rfl rfl (wI HT_.out (zz0)) (fun _ _ _ h=>h) (Or.inl ⟨zz26,?_⟩) ?_ ?_ ?_;rotate_left
              ·intro w';go_simp;with_reducible rfl
              rotate_left;·simp only [zzs];rfl
              refine zzp 11 77 ?_ #[tT,tT,tT,tT,tT,fF,fF,tT,tT,tT,tT,tT,fF,fF,fF,fF] rfl rfl (wI HT_.out (zz0)) (fun _ _ _ h=>h) (Or.inl ⟨zz26,?_⟩) ?_ ?_ ?_;rotate_left
              ·intro w';go_simp;with_reducible rfl
              rotate_left;·simp only [zzs];rfl
              refine take_ (i:=5) (N:=some 71) (v:=?_) (a':=?_) #[tT,tT,tT,tT,tT,tT,fF,tT,tT,tT,tT,tT,fF,fF,fF,fF] rfl rfl (wT HT_.out HW_.out (zz0)) (fun _ _ _ h=>h) (Or.inl ⟨zz26,?_⟩) hHeld ?_ ?_;rotate_left
              ·rintro w' ⟨s0,s1,s2,s3,s4,s5⟩
               go_simp
               with_reducible rfl
              rotate_left;·simp only [zzs];rfl
              refine take_ (i:=12) (N:=some 78) (v:=?_) (a':=?_) #[tT,tT,tT,tT,tT,tT,fF,tT,tT,tT,tT,tT,tT,fF,fF,fF] rfl rfl (wT HT_.out HW_.out (zz0)) (fun _ _ _ h=>h) (Or.inl ⟨zz26,?_⟩) hHeld ?_ ?_;rotate_left
              ·rintro w' ⟨s0,s1,s2,s3,s4,s5⟩
               go_simp
               with_reducible rfl
              rotate_left;·simp only [zzs];rfl
              refine yV (i:=6) (N:=some 72) #[tT,tT,tT,tT,tT,tT,tT,tT,tT,tT,tT,tT,tT,fF,fF,fF] rfl rfl (yD HT_.out (zz0)) (zz27) (fun K hK=>?_);refine yP Tryd.func16 (zz0) rfl #[.slice A1 l1.length c1,.int .i64 ((rd_T26 l0 x12_2).f0)] (zz26) rfl rfl (zz21) ?_
              with_reducible refine (U6.calls kj11 _ _ l1 ((rd_T26 l0 x12_2).f0) t942 _ ?side1 ?side2 A32.out).mono ?_
              (case side1=>exact zz164);(case side2=>exact HC1.out);rintro e w' ⟨rfl,⟨nd,rfl⟩⟩;refine ⟨_,rfl,?_⟩;refine hK.out _ _ ⟨(wH BK938.out 0).trans rfl,(wH BK938.out 1).trans rfl,(wH BK938.out 2).trans rfl,((HB.out.cell (qK w _ hw943_0)).trans hw943_0),((HB.out.cell (qK w _ hw943_1)).trans hw943_1),((HB.out.cell (qK w _ hw943_2)).trans hw943_2)⟩ (fun hHeld=>?_);clear hK K;refine wZ (a':=?_) ?_ ?_;rotate_left
              ·show Act.put _ (some 72) _ = _;simp only [zzs];rfl
              refine yV (i:=13) (N:=some 79) #[tT,tT,tT,tT,tT,tT,tT,tT,tT,tT,tT,tT,tT,tT,fF,fF] rfl rfl (yD HT_.out (zz0)) (zz27) (fun K hK=>?_);refine yP Tryd.func16 (zz0) rfl #[.slice A1 l1.length c1,.int .i64 ((rd_T26 l0 x11_2).f0)] (zz26) rfl rfl (zz21) ?_
              with_reducible refine (U6.calls kj11 _ _ l1 ((rd_T26 l0 x11_2).f0) t944 _ ?side1 ?side2 A35.out).mono ?_
              (case side1=>exact zz182);(case side2=>exact HC1.out);rintro e w' ⟨rfl,⟨nd,rfl⟩⟩;refine ⟨_,rfl,?_⟩;refine hK.out _ _ ⟨(wH BK938.out 0).trans rfl,(wH BK938.out 1).trans rfl,(wH BK938.out 2).trans rfl,((HB.out.cell (qK w _ hw943_0)).trans hw943_0),((HB.out.cell (qK w _ hw943_1)).trans hw943_1),((HB.out.cell (qK w _ hw943_2)).trans hw943_2)⟩ (fun hHeld=>?_);clear hK K;refine wZ (a':=?_) ?_ ?_;rotate_left
              ·show Act.put _ (some 79) _ = _;simp only [zzs];rfl
              refine zzp 14 80 ?_ #[tT,tT,tT,tT,tT,tT,tT,tT,tT,tT,tT,tT,tT,tT,tT,fF] rfl rfl (wI HT_.out (zz0)) (fun _ _ _ h=>h) (Or.inl ⟨zz26,?_⟩) ?_ ?_ ?_;rotate_left
              ·intro w';go_simp;with_reducible rfl
              rotate_left;·simp only [zzs];rfl
              refine zzp 15 81 ?_ #[tT,tT,tT,tT,tT,tT,tT,tT,tT,tT,tT,tT,tT,tT,tT,tT] rfl rfl (wI HT_.out (zz0)) (fun _ _ _ h=>h) (Or.inl ⟨zz26,?_⟩) ?_ ?_ ?_;rotate_left
              ·intro w';go_simp;with_reducible rfl
              rotate_left;·simp only [zzs];rfl
              refine yU (yL HT_.out (zz0)) ?_
              try go_wp2
              go_roundg kj11
              case measure=>have:=HK1.out;have:=HK2.out;have:=HJ11.out;omega
              case rel=>exact ⟨(x12_2),(wrap64 (x12_2+1)),(zz2),(zz2),H',⟨zz159⟩,⟨zz158⟩⟩
             ·have c36b0:=qN c36;clear c36;have H':=wA.mk H;clear H
              try go_wp2
              replace BK938:=wA.mk (wG BK938.out);replace HB:=wA.mk (wR HB.out);have p943:0≤(x11_2:Int):=qL (zz4);have q943:x11_2 < (l0.length:Int):=qL (zz4);obtain ⟨ad943,A943_2,c943_2,e943,hx943_0,hx943_1,hx943_2,hl943_2,hi943_2⟩:=at_T26 HR0.out x11_2 p943 q943;have hw943_2:=hx943_2;have hw943_1:=hx943_1;have hw943_0:=hx943_0;obtain rfl:ad937 = ad943:=(by injection e943);replace hx943_0:=(HB.out.cell (qK w _ hx943_0)).trans hx943_0;replace hx943_1:=(HB.out.cell (qK w _ hx943_1)).trans hx943_1;replace hx943_2:=(HB.out.cell (qK w _ hx943_2)).trans hx943_2;have HR943_2:=wA.mk hi943_2;have HC943_2:=wA.mk hl943_2;clear hi943_2 hl943_2;replace p943:=eq_true p943;replace q943:=eq_true q943;refine yO (n:=16) (S:=fun w'=>w'.cell? ⟨gb938,0,none⟩ = some (.int .i64 ((rd_T26 l0 x12_2).f0))∧w'.cell? ⟨gb938,1,none⟩ = some (.int .i64 ((rd_T26 l0 x12_2).f1))∧w'.cell? ⟨gb938,2,none⟩ = some (.slice A937_2 ((rd_T26 l0 x12_2).f2).length c937_2)∧w'.cell? (ad937.add ((x11_2).toNat * 3)) = some (.int .i64 ((rd_T26 l0 x11_2).f0))∧w'.cell? ⟨(ad937.add ((x11_2).toNat * 3)).block,(ad937.add ((x11_2).toNat * 3)).off+1,none⟩ = some (.int .i64 ((rd_T26 l0 x11_2).f1))∧w'.cell? ⟨(ad937.add ((x11_2).toNat * 3)).block,(ad937.add ((x11_2).toNat * 3)).off+2,none⟩ = some (.slice A943_2 ((rd_T26 l0 x11_2).f2).length c943_2)) (ds:=[]) #[fF,fF,fF,fF,fF,fF,fF,fF,fF,fF,fF,fF,fF,fF,fF,fF] (zz0) rfl rfl ⟨(wH BK938.out 0).trans rfl,(wH BK938.out 1).trans rfl,(wH BK938.out 2).trans rfl,((HB.out.cell (qK w _ hw943_0)).trans hw943_0),((HB.out.cell (qK w _ hw943_1)).trans hw943_1),((HB.out.cell (qK w _ hw943_2)).trans hw943_2)⟩ (fun hHeld=>?_);refine yA U8.tab18 U8.bits18 (fun HT_ HW_=>?_)
              generalize wc.drew = w38 at BK938 HB HR943_2 hx943_0 hx943_1 hx943_2 hHeld ⊢
              refine zzp 0 66 ?_ #[tT,fF,fF,fF,fF,fF,fF,fF,fF,fF,fF,fF,fF,fF,fF,fF] rfl rfl (wI HT_.out (zz0)) (fun _ _ _ h=>h) (Or.inl ⟨zz26,?_⟩) ?_ ?_ ?_;rotate_left
              ·intro w';go_simp;with_reducible rfl
              rotate_left;·simp only [zzs];rfl
              refine zzp 1 67 ?_ #[tT,tT,fF,fF,fF,fF,fF,fF,fF,fF,fF,fF,fF,fF,fF,fF] rfl rfl (wI HT_.out (zz0)) (fun _ _ _ h=>h) (Or.inl ⟨zz26,?_⟩) ?_ ?_ ?_;rotate_left
              ·intro w';go_simp;with_reducible rfl
              rotate_left;·simp only [zzs];rfl
              refine zzp 2 68 ?_ #[tT,tT,tT,fF,fF,fF,fF,fF,fF,fF,fF,fF,fF,fF,fF,fF] rfl rfl (wI HT_.out (zz0)) (fun _ _ _ h=>h) (Or.inl ⟨zz26,?_⟩) ?_ ?_ ?_;rotate_left
              ·intro w';go_simp;with_reducible rfl
              rotate_left;·simp only [zzs];rfl
              refine zzp 3 69 ?_ #[tT,tT,tT,tT,fF,fF,fF,fF,fF,fF,fF,fF,fF,fF,fF,fF] rfl rfl (wI HT_.out (zz0)) (fun _ _ _ h=>h) (Or.inl ⟨zz26,?_⟩) ?_ ?_ ?_;rotate_left
              ·intro w';go_simp;with_reducible rfl
              rotate_left;·simp only [zzs];rfl
              refine zzp 4 70 ?_ #[tT,tT,tT,tT,tT,fF,fF,fF,fF,fF,fF,fF,fF,fF,fF,fF] rfl rfl (wI HT_.out (zz0)) (fun _ _ _ h=>h) (Or.inl ⟨zz26,?_⟩) ?_ ?_ ?_;rotate_left
              ·intro w';go_simp;with_reducible rfl
              rotate_left;·simp only [zzs];rfl
              refine zzp 7 73 ?_ #[tT,tT,tT,tT,tT,fF,fF,tT,fF,fF,fF,fF,fF,fF,fF,fF] rfl rfl (wI HT_.out (zz0)) (fun _ _ _ h=>h) (Or.inl ⟨zz26,?_⟩) ?_ ?_ ?_;rotate_left
              ·intro w';go_simp;with_reducible rfl
              rotate_left;·simp only [zzs];rfl
              refine zzp 8 74 ?_ #[tT,tT,tT,tT,tT,fF,fF,tT,tT,fF,fF,fF,fF,fF,fF,fF] rfl rfl (wI HT_.out (zz0)) (fun _ _ _ h=>h) (Or.inl ⟨zz26,?_⟩) ?_ ?_ ?_;rotate_left
              ·intro w';go_simp;with_reducible rfl
              rotate_left;·simp only [zzs];rfl
              refine zzp 9 75 ?_ #[tT,tT,tT,tT,tT,fF,fF,tT,tT,tT,fF,fF,fF,fF,fF,fF] rfl rfl (wI HT_.out (zz0)) (fun _ _ _ h=>h) (Or.inl ⟨zz26,?_⟩) ?_ ?_ ?_;rotate_left
              ·intro w';go_simp;with_reducible rfl
              rotate_left;·simp only [zzs];rfl
              refine zzp 10 76 ?_ #[tT,tT,tT,tT,tT,fF,fF,tT,tT,tT,tT,fF,fF,fF,fF,fF] rfl rfl (wI HT_.out (zz0)) (fun _ _ _ h=>h) (Or.inl ⟨zz26,?_⟩) ?_ ?_ ?_;rotate_left
              ·intro w';go_simp;with_reducible rfl
              rotate_left;·simp only [zzs];rfl
              refine zzp 11 77 ?_ #[tT,tT,tT,tT,tT,fF,fF,tT,tT,tT,tT,tT,fF,fF,fF,fF] rfl rfl (wI HT_.out (zz0)) (fun _ _ _ h=>h) (Or.inl ⟨zz26,?_⟩) ?_ ?_ ?_;rotate_left
              ·intro w';go_simp;with_reducible rfl
              rotate_left;·simp only [zzs];rfl
              refine take_ (i:=5) (N:=some 71) (v:=?_) (a':=?_) #[tT,tT,tT,tT,tT,tT,fF,tT,tT,tT,tT,tT,fF,fF,fF,fF] rfl rfl (wT HT_.out HW_.out (zz0)) (fun _ _ _ h=>h) (Or.inl ⟨zz26,?_⟩) hHeld ?_ ?_;rotate_left
              ·rintro w' ⟨s0,s1,s2,s3,s4,s5⟩
               go_simp
               with_reducible rfl
              rotate_left;·simp only [zzs];rfl
              refine take_ (i:=12) (N:=some 78) (v:=?_) (a':=?_) #[tT,tT,tT,tT,tT,tT,fF,tT,tT,tT,tT,tT,tT,fF,fF,fF] rfl rfl (wT HT_.out HW_.out (zz0)) (fun _ _ _ h=>h) (Or.inl ⟨zz26,?_⟩) hHeld ?_ ?_;rotate_left
              ·rintro w' ⟨s0,s1,s2,s3,s4,s5⟩
               go_simp
               with_reducible rfl
              rotate_left;·simp only [zzs];rfl
              refine yV (i:=6) (N:=some 72) #[tT,tT,tT,tT,tT,tT,tT,tT,tT,tT,tT,tT,tT,fF,fF,fF] rfl rfl (yD HT_.out (zz0)) (zz27) (fun K hK=>?_);refine yP Tryd.func16 (zz0) rfl #[.slice A1 l1.length c1,.int .i64 ((rd_T26 l0 x12_2).f0)] (zz26) rfl rfl (zz21) ?_
              with_reducible refine (U6.calls kj11 _ _ l1 ((rd_T26 l0 x12_2).f0) t942 _ ?side1 ?side2 A32.out).mono ?_
              (case side1=>exact zz164);(case side2=>exact HC1.out);rintro e w' ⟨rfl,⟨nd,rfl⟩⟩;refine ⟨_,rfl,?_⟩;refine hK.out _ _ ⟨(wH BK938.out 0).trans rfl,(wH BK938.out 1).trans rfl,(wH BK938.out 2).trans rfl,((HB.out.cell (qK w _ hw943_0)).trans hw943_0),((HB.out.cell (qK w _ hw943_1)).trans hw943_1),((HB.out.cell (qK w _ hw943_2)).trans hw943_2)⟩ (fun hHeld=>?_);clear hK K;refine wZ (a':=?_) ?_ ?_;rotate_left
              ·show Act.put _ (some 72) _ = _;simp only [zzs];rfl
              refine yV (i:=13) (N:=some 79) #[tT,tT,tT,tT,tT,tT,tT,tT,tT,tT,tT,tT,tT,tT,fF,fF] rfl rfl (yD HT_.out (zz0)) (zz27) (fun K hK=>?_);refine yP Tryd.func16 (zz0) rfl #[.slice A1 l1.length c1,.int .i64 ((rd_T26 l0 x11_2).f0)] (zz26) rfl rfl (zz21) ?_
              with_reducible refine (U6.calls kj11 _ _ l1 ((rd_T26 l0 x11_2).f0) t944 _ ?side1 ?side2 A35.out).mono ?_
              (case side1=>exact zz182);(case side2=>exact HC1.out);rintro e w' ⟨rfl,⟨nd,rfl⟩⟩;refine ⟨_,rfl,?_⟩;refine hK.out _ _ ⟨(wH BK938.out 0).trans rfl,(wH BK938.out 1).trans rfl,(wH BK938.out 2).trans rfl,((HB.out.cell (qK w _ hw943_0)).trans hw943_0),((HB.out.cell (qK w _ hw943_1)).trans hw943_1),((HB.out.cell (qK w _ hw943_2)).trans hw943_2)⟩ (fun hHeld=>?_);clear hK K;refine wZ (a':=?_) ?_ ?_;rotate_left
              ·show Act.put _ (some 79) _ = _;simp only [zzs];rfl
              refine zzp 14 80 ?_ #[tT,tT,tT,tT,tT,tT,tT,tT,tT,tT,tT,tT,tT,tT,tT,fF] rfl rfl (wI HT_.out (zz0)) (fun _ _ _ h=>h) (Or.inl ⟨zz26,?_⟩) ?_ ?_ ?_;rotate_left
              ·intro w';go_simp;with_reducible rfl
              rotate_left;·simp only [zzs];rfl
              refine zzp 15 81 ?_ #[tT,tT,tT,tT,tT,tT,tT,tT,tT,tT,tT,tT,tT,tT,tT,tT] rfl rfl (wI HT_.out (zz0)) (fun _ _ _ h=>h) (Or.inl ⟨zz26,?_⟩) ?_ ?_ ?_;rotate_left
              ·intro w';go_simp;with_reducible rfl
              rotate_left;·simp only [zzs];rfl
              refine yU (yL HT_.out (zz0)) ?_
              try go_wp2
              go_roundg kj11
              case measure=>have:=HK1.out;have:=HK2.out;have:=HJ11.out;omega
              case rel=>exact ⟨(x11_2),(wrap64 (x12_2+1)),(zz2),(zz2),H',⟨zz159⟩,⟨zz158⟩⟩
        ·have c10b0:=qN c10;clear c10;replace H:=zzj H;rcases H with ⟨c39,H⟩|⟨c39,H⟩
         ·have c39b0:=qM c39;clear c39;simp only [Option.some.injEq,Prod.mk.injEq] at H;obtain ⟨rfl,rfl⟩:=H
          go_wp2
          go_ret2
          exact ⟨zz14,zz12⟩
         ·have c39b0:=qN c39;clear c39;replace H:=zzi H;obtain ⟨c40,H⟩:=H;have c40b0:=qM c40;clear c40;replace H:=zzi H;obtain ⟨c41,H⟩:=H;have c41b0:=qM c41;clear c41;simp only [Option.some.injEq,Prod.mk.injEq] at H;obtain ⟨rfl,rfl⟩:=H;have p936:0≤(x11_2:Int):=qL (zz4);have q936:x11_2 < (l0.length:Int):=qL (zz4);obtain ⟨ad936,A936_2,c936_2,e936,hx936_0,hx936_1,hx936_2,hl936_2,hi936_2⟩:=at_T26 HR0.out x11_2 p936 q936
          cases e936
          replace hx936_0:=(HB.out.cell (qK w _ hx936_0)).trans hx936_0;replace hx936_1:=(HB.out.cell (qK w _ hx936_1)).trans hx936_1;replace hx936_2:=(HB.out.cell (qK w _ hx936_2)).trans hx936_2;have HR936_2:=wA.mk hi936_2;have HC936_2:=wA.mk hl936_2;clear hi936_2 hl936_2;replace p936:=eq_true p936;replace q936:=eq_true q936
          go_wp2
          go_ret2
          exact ⟨zz14,zz12⟩
     ·have c9b0:=beq_eq_false_iff_ne.mpr c9;have c9b1:=bne_iff_ne.mpr c9;simp only [Option.some.injEq,Prod.mk.injEq] at H;obtain ⟨rfl,rfl⟩:=H
      go_wp2
      go_ret2
      exact ⟨zz14,zz12⟩
 ·have c5b0:=beq_eq_false_iff_ne.mpr c5;have c5b1:=bne_iff_ne.mpr c5;simp only [Option.some.injEq,Prod.mk.injEq] at H;obtain ⟨rfl,rfl⟩:=H;go_enter Tryd.func22,Tryd.ntmps22
  go_wp2_with (first|((with_reducible refine wJ (f:=10) rfl ?_);refine wS (some 15) rfl rfl Tryd.func10 (zz0) rfl #[.slice A0 l0.length c0] rfl (zz21) ?_;(with_reducible refine (U9.calls k _ _ l0 t934 _ ?_ ?_ A4.out).mono ?_);exact zz163;exact HC0.out;rintro e w' ⟨rfl,⟨nd,rfl⟩⟩;refine ⟨_,rfl,?_⟩))
  go_ret2
  exact ⟨zz14,zz12⟩
end Go.Proofs.YtnimkmkapajnhaaDoor.QA
