import Derived.Test.YtnimkmkapajnhaaDoorRDQAx0
import Derived.Test.YtnimkmkapajnhaaDoorRDQAx4
import Derived.Test.YtnimkmkapajnhaaDoorRDQAx5
import Derived.Test.YtnimkmkapajnhaaDoorRDQAx13
import Derived.Test.YtnimkmkapajnhaaDoorRDQAx24
namespace Go.Proofs.YtnimkmkapajnhaaDoor.QA
open Go.RowKit Go.Proofs.YtnimkmkapajnhaaDoorW.PrintWords Go.Proofs.YtnimkmkapajnhaaDoorW.PrintLast Go.Proofs.YtnimkmkapajnhaaDoorW.PrintMore
attribute [local go_sem] yF yD yK yL wZ yA yG yE
set_option linter.unusedVariables false
set_option linter.unusedSimpArgs false
mutual
def U4.l0:Nat→List (S26)→List (S44)→Int→Int→Int→Option (Bool)
 | 0,_,_,_,_,_=>none
 | k+1,x0,x1,x2,x7,x9=>if x9 < (x1.length:Int) then (if 0≤x9 then (if ((rd_T44 x1 x9).f0) = x2 then (if ((rd_T44 x1 x9).f1) = x7 then (none) else (U4.l0 k x0 x1 x2 x7 (wrap64 (x9+1)))) else (U4.l0 k x0 x1 x2 x7 (wrap64 (x9+1)))) else (none)) else (U4.l1 k x0 x1 x2 x7 0)
def U4.l1:Nat→List (S26)→List (S44)→Int→Int→Int→Option (Bool)
 | 0,_,_,_,_,_=>none
 | k+1,x0,x1,x2,x7,x10=>if x10 < (x0.length:Int) then (if 0≤x10 then (if ((rd_T26 x0 x10).f0) = x7 then ((U30.f k ((rd_T26 x0 x10).f0) ((rd_T26 x0 x10).f1) ((rd_T26 x0 x10).f2) x2).bind fun t976=>(if t976 = true then ((U29.f k x1 x7).bind fun t977=>(if t977 < ((rd_T26 x0 x10).f1) then ((U5.f k).bind fun t979=>(some t979)) else (none))) else (none))) else (U4.l1 k x0 x1 x2 x7 (wrap64 (x10+1)))) else (none)) else (none)
end
def U4.f (k:Nat) (l0:List (S26)) (l1:List (S44)) (a2:Int):Option (Bool):=(U31.f k l0 l1 a2).bind fun bt969=>(if bt969.2 = 0 then (U4.l0 k l0 l1 a2 bt969.1 0) else (if bt969.1 = 0 then ((U5.f k).bind fun t971=>(some t971)) else (none)))
theorem zm23_0 {P:Prop} (h:P:=by repeat' first|(with_reducible first|exact ih0 ..|exact ih1 ..|exact U5.mono ..|exact U29.mono ..|exact U30.mono ..|exact U31.mono ..|exact LeO.refl _|exact LeO.none _|refine LeO.ite ?_ ?_|refine LeO.bind ?_ (fun _=>?_))|exact ih0 ..|exact ih1 ..|exact U5.mono ..|exact U29.mono ..|exact U30.mono ..|exact U31.mono ..|exact LeO.none _|refine LeO.ite ?_ ?_|refine LeO.bind ?_ (fun _=>?_)):P:=h
theorem U4.mono_l:∀ k,(∀ y0 y1 y2 y3 y4,LeO (U4.l0 k y0 y1 y2 y3 y4) (U4.l0 (k+1) y0 y1 y2 y3 y4))∧(∀ y0 y1 y2 y3 y4,LeO (U4.l1 k y0 y1 y2 y3 y4) (U4.l1 (k+1) y0 y1 y2 y3 y4))
 | 0=>⟨fun _ _ _ _ _ r h=>by simp [U4.l0] at h,fun _ _ _ _ _ r h=>by simp [U4.l1] at h⟩
 | k+1=>by
  obtain ⟨ih0,ih1⟩:=U4.mono_l k;refine ⟨?_,?_⟩
  ·intro y0 y1 y2 y3 y4;unfold U4.l0
   exact zm23_0
  ·intro y0 y1 y2 y3 y4;unfold U4.l1
   exact zm23_0
theorem U4.mono:∀ a0 a1 a2 k,LeO (U4.f k a0 a1 a2) (U4.f (k+1) a0 a1 a2):=by
 intro a0 a1 a2 k;obtain ⟨ih0,ih1⟩:=U4.mono_l k;unfold U4.f
 exact zm23_0
def U4.T13:Bool × List (List Nat × List Nat):=(true,[([],[]),([],[]),([0,1],[0,1]),([2],[2]),([],[]),([3,4],[3,4]),([5,5],[5]),([6],[6]),([6],[6]),([7,8,6,6],[6,7,8]),([6],[6]),([6],[6]),([10,11,6],[6,10,11]),([12,6],[6,12]),([13,6],[6,13]),([9,14,6],[6,9,14]),([6,15],[6,15]),([16,9],[16]),([17,17],[17]),([17,18],[17,18]),([19,18,0,1,2,3,4,5,6,7,8,9,10,11,12,13,14,15,16,17,18,19],[19])])
def U4.B13:List Nat:=[0,0,3,7,0,31,63,127,127,511,127,127,3199,7295,15487,32767,65535,131071,262143,524287,1048575]
theorem U4.tab13:zF .any (zQ Tryd.f7 13) = U4.T13:=zz0
theorem U4.bits13:yX U4.T13.2 U4.B13 = true:=zz0
set_option maxHeartbeats 8000000 in
set_option maxRecDepth 100000 in
theorem U4.calls (k:Nat) (A0:Option Addr) (c0:Nat) (l0:List (S26)) (A1:Option Addr) (c1:Nat) (l1:List (S44)) (a2:Int) (r:Bool) (w:World) (hr0:Kd.C k26 w A0 l0.length l0) (hc0:l0.length≤c0) (hr1:Kd.C k44 w A1 l1.length l1) (hc1:l1.length≤c1) (h:U4.f k l0 l1 a2 = some r) :
  Calls Tryd.prog 7 #[.slice A0 l0.length c0,.slice A1 l1.length c1,.int .i64 a2] w fun e w'=>e = .returned (.bool r)∧Below w.heap.size w w':=by
 have hu26:=Tryd.underlying26;have HR0:=wA.mk hr0;have HC0:=wA.mk hc0;clear hr0 hc0;have HR1:=wA.mk hr1;have HC1:=wA.mk hc1;clear hr1 hc1;have HB:=wA.mk (Below.refl w.heap.size w);have H:((U31.f k l0 l1 a2).bind fun bt969=>(if bt969.2 = 0 then (U4.l0 k l0 l1 a2 bt969.1 0) else (if bt969.1 = 0 then ((U5.f k).bind fun t971=>(some t971)) else (none)))) = some r:=h;clear h;replace H:=Option.bind_eq_some_iff.mp H;obtain ⟨⟨t969,t970⟩,A40,H⟩:=H;have A4:=wA.mk A40;clear A40;replace H:=zzj H;rcases H with ⟨c5,H⟩|⟨c5,H⟩
 ·have c5b0:=beq_iff_eq.mpr c5;have c5b1:=bne_eq_false_iff_eq.mpr c5;clear c5;have H':=wA.mk H;clear H;go_enter Tryd.func7,Tryd.ntmps7
  go_wp2_with (first|((with_reducible refine wI (f:=21) rfl ?_);refine wR (some 15) rfl rfl Tryd.func21 (zz0) rfl #[.slice A0 l0.length c0,.slice A1 l1.length c1,.int .i64 a2] rfl (zz20) ?_;(with_reducible refine (U31.calls k _ _ l0 _ _ l1 a2 t969 t970 _ ?_ ?_ ?_ ?_ A4.out).mono ?_);exact zz159;exact HC0.out;exact zz167;exact HC1.out;rintro e w6 ⟨rfl,hb⟩;refine ⟨_,rfl,?_⟩;replace HB:=wA.mk (wC (zz3) hb);(try clear hb)))
  go_loopg [9] k (fun kq v9 w'=>∃ (x9_1:Int),v9 = .int .i64 x9_1∧wA (U4.l0 kq l0 l1 a2 t969 x9_1 = some r)∧wA (kq≤k)∧wA (Below w.heap.size w w'))
  case atStart=>exact ⟨(0),(zz2),H',⟨Nat.le_refl _⟩,⟨zz3⟩⟩
  case round =>
   clear H'
   (try clear c1);clear c5b0 c5b1
   obtain ⟨x9_1,rfl,HA,HK1,HB⟩:=hrel
   cases gk with
   | zero=>exact absurd HA.out (by simp [U4.l0])
   | succ k1 =>
    have H:=HA.out;clear HA;simp only [U4.l0] at H;replace H:=zzj H;rcases H with ⟨c7,H⟩|⟨c7,H⟩
    ·have c7b0:=decide_eq_true c7;clear c7;replace H:=zzi H;obtain ⟨c8,H⟩:=H;have c8b0:=decide_eq_true c8;clear c8;replace H:=zzj H;rcases H with ⟨c9,H⟩|⟨c9,H⟩
     ·have c9b0:=beq_iff_eq.mpr c9;have c9b1:=bne_eq_false_iff_eq.mpr c9;clear c9;replace H:=zzj H;rcases H with ⟨c10,H⟩|⟨c10,H⟩
      ·exact absurd H (zz7)
      ·have c10b0:=beq_eq_false_iff_ne.mpr c10;have c10b1:=bne_iff_ne.mpr c10;have H':=wA.mk H;clear H;have p972:0≤(x9_1:Int):=of_decide_eq_true (zz4);have q972:x9_1 < (l1.length:Int):=of_decide_eq_true (zz4);obtain ⟨ad972,e972,hx972_0,hx972_1⟩:=at_T44 HR1.out x9_1 p972 q972
       cases e972
       replace hx972_0:=(HB.out.cell (World.block_lt_of_cell? w _ hx972_0)).trans hx972_0;replace hx972_1:=(HB.out.cell (World.block_lt_of_cell? w _ hx972_1)).trans hx972_1;replace p972:=eq_true p972;replace q972:=eq_true q972;have p973:0≤(x9_1:Int):=of_decide_eq_true (zz4);have q973:x9_1 < (l1.length:Int):=of_decide_eq_true (zz4);obtain ⟨ad973,e973,hx973_0,hx973_1⟩:=at_T44 HR1.out x9_1 p973 q973;obtain rfl:ad972 = ad973:=(by injection e973);replace hx973_0:=(HB.out.cell (World.block_lt_of_cell? w _ hx973_0)).trans hx973_0;replace hx973_1:=(HB.out.cell (World.block_lt_of_cell? w _ hx973_1)).trans hx973_1;replace p973:=eq_true p973;replace q973:=eq_true q973
       go_wp2
       go_roundg k1
       case measure=>have:=HK1.out;omega
       case rel=>exact ⟨(wrap64 (x9_1+1)),(zz2),H',⟨zz5⟩,⟨zz3⟩⟩
     ·have c9b0:=beq_eq_false_iff_ne.mpr c9;have c9b1:=bne_iff_ne.mpr c9;have H':=wA.mk H;clear H;have p972:0≤(x9_1:Int):=of_decide_eq_true (zz4);have q972:x9_1 < (l1.length:Int):=of_decide_eq_true (zz4);obtain ⟨ad972,e972,hx972_0,hx972_1⟩:=at_T44 HR1.out x9_1 p972 q972
      cases e972
      replace hx972_0:=(HB.out.cell (World.block_lt_of_cell? w _ hx972_0)).trans hx972_0;replace hx972_1:=(HB.out.cell (World.block_lt_of_cell? w _ hx972_1)).trans hx972_1;replace p972:=eq_true p972;replace q972:=eq_true q972
      go_wp2
      go_roundg k1
      case measure=>have:=HK1.out;omega
      case rel=>exact ⟨(wrap64 (x9_1+1)),(zz2),H',⟨zz5⟩,⟨zz3⟩⟩
    ·have c7b0:=decide_eq_false c7;clear c7;have H':=wA.mk H;clear H
     go_wp2
     go_loopg [10] k1 (fun kq v10 w'=>∃ (x10_2:Int),v10 = .int .i64 x10_2∧wA (U4.l1 kq l0 l1 a2 t969 x10_2 = some r)∧wA (kq≤k1)∧wA (Below w.heap.size w w'))
     case atStart=>exact ⟨(0),(zz2),H',⟨Nat.le_refl _⟩,⟨zz3⟩⟩
     case round =>
      clear H';clear c7b0;obtain ⟨x10_2,rfl,HA,HK2,HB⟩:=hrel
      cases gk with
      | zero=>exact absurd HA.out (by simp [U4.l1])
      | succ k2 =>
       have H:=HA.out;clear HA;simp only [U4.l1] at H;replace H:=zzi H;obtain ⟨c11,H⟩:=H;have c11b0:=decide_eq_true c11;clear c11;replace H:=zzi H;obtain ⟨c12,H⟩:=H;have c12b0:=decide_eq_true c12;clear c12;replace H:=zzj H;rcases H with ⟨c13,H⟩|⟨c13,H⟩
       ·have c13b0:=beq_iff_eq.mpr c13;have c13b1:=bne_eq_false_iff_eq.mpr c13;clear c13;replace H:=zzb H;obtain ⟨t976,A14,H⟩:=H;by_cases c15:t976 = true
        ·subst c15;have H1:((U29.f k2 l1 t969).bind fun t977=>(if t977 < ((rd_T26 l0 x10_2).f1) then ((U5.f k2).bind fun t979=>(some t979)) else (none))) = some r:=zz18;clear H;have H:=H1;clear H1;replace H:=zzb H;obtain ⟨t977,A16,H⟩:=H;replace H:=zzj H;rcases H with ⟨c17,H⟩|⟨c17,H⟩
         ·have c17b0:=decide_eq_true c17;clear c17;replace H:=zzb H;obtain ⟨t979,A18,H⟩:=H;obtain rfl:=Option.some.inj H;have p974:0≤(x10_2:Int):=of_decide_eq_true (zz4);have q974:x10_2 < (l0.length:Int):=of_decide_eq_true (zz4);obtain ⟨ad974,A974_2,c974_2,e974,hx974_0,hx974_1,hx974_2,hl974_2,hi974_2⟩:=at_T26 HR0.out x10_2 p974 q974
          cases e974
          replace hx974_0:=(HB.out.cell (World.block_lt_of_cell? w _ hx974_0)).trans hx974_0;replace hx974_1:=(HB.out.cell (World.block_lt_of_cell? w _ hx974_1)).trans hx974_1;replace hx974_2:=(HB.out.cell (World.block_lt_of_cell? w _ hx974_2)).trans hx974_2;have HR974_2:=wA.mk hi974_2;have HC974_2:=wA.mk hl974_2;clear hi974_2 hl974_2;replace p974:=eq_true p974;replace q974:=eq_true q974
          try go_wp2
          replace HB:=wA.mk (wS HB.out);have p975:0≤(x10_2:Int):=of_decide_eq_true (zz4);have q975:x10_2 < (l0.length:Int):=of_decide_eq_true (zz4);obtain ⟨ad975,A975_2,c975_2,e975,hx975_0,hx975_1,hx975_2,hl975_2,hi975_2⟩:=at_T26 HR0.out x10_2 p975 q975;have hw975_2:=hx975_2;have hw975_1:=hx975_1;have hw975_0:=hx975_0;obtain rfl:ad974 = ad975:=(by injection e975);replace hx975_0:=(HB.out.cell (World.block_lt_of_cell? w _ hx975_0)).trans hx975_0;replace hx975_1:=(HB.out.cell (World.block_lt_of_cell? w _ hx975_1)).trans hx975_1;replace hx975_2:=(HB.out.cell (World.block_lt_of_cell? w _ hx975_2)).trans hx975_2;have HR975_2:=wA.mk hi975_2;have HC975_2:=wA.mk hl975_2;clear hi975_2 hl975_2;replace p975:=eq_true p975;replace q975:=eq_true q975
          (try (have ea_:=Option.some.inj (hx975_2.symm.trans (zz38));injection ea_ with ea_ en_ ec_;subst ea_;subst ec_;clear en_))
          have p978:0≤(x10_2:Int):=of_decide_eq_true (zz4);have q978:x10_2 < (l0.length:Int):=of_decide_eq_true (zz4);obtain ⟨ad978,A978_2,c978_2,e978,hx978_0,hx978_1,hx978_2,hl978_2,hi978_2⟩:=at_T26 HR0.out x10_2 p978 q978;have hw978_2:=hx978_2;have hw978_1:=hx978_1;have hw978_0:=hx978_0;obtain rfl:ad974 = ad978:=(by injection e978);replace hx978_0:=(HB.out.cell (World.block_lt_of_cell? w _ hx978_0)).trans hx978_0;replace hx978_1:=(HB.out.cell (World.block_lt_of_cell? w _ hx978_1)).trans hx978_1;replace hx978_2:=(HB.out.cell (World.block_lt_of_cell? w _ hx978_2)).trans hx978_2;have HR978_2:=wA.mk hi978_2;have HC978_2:=wA.mk hl978_2;clear hi978_2 hl978_2;replace p978:=eq_true p978;replace q978:=eq_true q978
          (try (have ea_:=Option.some.inj (hx978_2.symm.trans (zz38));injection ea_ with ea_ en_ ec_;subst ea_;subst ec_;clear en_))
          refine yO (n:=21) (S:=fun w'=>w'.cell? (ad974.add ((x10_2).toNat * 3)) = some (.int .i64 ((rd_T26 l0 x10_2).f0))∧w'.cell? ⟨(ad974.add ((x10_2).toNat * 3)).block,(ad974.add ((x10_2).toNat * 3)).off+1,none⟩ = some (.int .i64 ((rd_T26 l0 x10_2).f1))∧w'.cell? ⟨(ad974.add ((x10_2).toNat * 3)).block,(ad974.add ((x10_2).toNat * 3)).off+2,none⟩ = some (.slice A975_2 ((rd_T26 l0 x10_2).f2).length c975_2)∧w'.cell? (ad974.add ((x10_2).toNat * 3)) = some (.int .i64 ((rd_T26 l0 x10_2).f0))∧w'.cell? ⟨(ad974.add ((x10_2).toNat * 3)).block,(ad974.add ((x10_2).toNat * 3)).off+1,none⟩ = some (.int .i64 ((rd_T26 l0 x10_2).f1))∧w'.cell? ⟨(ad974.add ((x10_2).toNat * 3)).block,(ad974.add ((x10_2).toNat * 3)).off+2,none⟩ = some (.slice A978_2 ((rd_T26 l0 x10_2).f2).length c978_2)) (ds:=[]) #[false,false,false,false,false,false,false,false,false,false,false,false,false,false,false,false,false,false,false,false,false] (zz0) rfl rfl ⟨((HB.out.cell (World.block_lt_of_cell? w _ hw975_0)).trans hw975_0),((HB.out.cell (World.block_lt_of_cell? w _ hw975_1)).trans hw975_1),((HB.out.cell (World.block_lt_of_cell? w _ hw975_2)).trans hw975_2),((HB.out.cell (World.block_lt_of_cell? w _ hw978_0)).trans hw978_0),((HB.out.cell (World.block_lt_of_cell? w _ hw978_1)).trans hw978_1),((HB.out.cell (World.block_lt_of_cell? w _ hw978_2)).trans hw978_2)⟩ (fun hHeld=>?_);refine yC U4.tab13 U4.bits13 (fun HT_ HW_=>?_)
          generalize wr.drew = w19 at HB HR975_2 HR978_2 hx975_0 hx975_1 hx975_2 hx978_0 hx978_1 hx978_2 hHeld ⊢
          refine zzp 0 60 ?_ #[true,false,false,false,false,false,false,false,false,false,false,false,false,false,false,false,false,false,false,false,false] rfl rfl (wJ HT_.out (zz0)) (fun _ _ _ h=>h) (Or.inl ⟨zz37,?_⟩) ?_ ?_ ?_;rotate_left
          ·intro w'
           go_simp
           with_reducible rfl
          rotate_left
          ·simp only [zzs]
           rfl
          refine zzp 1 61 ?_ #[true,true,false,false,false,false,false,false,false,false,false,false,false,false,false,false,false,false,false,false,false] rfl rfl (wJ HT_.out (zz0)) (fun _ _ _ h=>h) (Or.inl ⟨zz37,?_⟩) ?_ ?_ ?_;rotate_left
          ·intro w'
           go_simp
           with_reducible rfl
          rotate_left
          ·simp only [zzs]
           rfl
          refine zzp 2 62 ?_ #[true,true,true,false,false,false,false,false,false,false,false,false,false,false,false,false,false,false,false,false,false] rfl rfl (wJ HT_.out (zz0)) (fun _ _ _ h=>h) (Or.inl ⟨zz37,?_⟩) ?_ ?_ ?_;rotate_left
          ·intro w'
           go_simp
           with_reducible rfl
          rotate_left
          ·simp only [zzs]
           rfl
          refine zzp 4 64 ?_ #[true,true,true,false,true,false,false,false,false,false,false,false,false,false,false,false,false,false,false,false,false] rfl rfl (wJ HT_.out (zz0)) (fun _ _ _ h=>h) (Or.inl ⟨zz37,?_⟩) ?_ ?_ ?_;rotate_left
          ·intro w'
           go_simp
           with_reducible rfl
          rotate_left
          ·simp only [zzs]
           rfl
          refine take_ (i:=3) (N:=some 63) (v:=?_) (a':=?_) #[true,true,true,true,true,false,false,false,false,false,false,false,false,false,false,false,false,false,false,false,false] rfl rfl (wT HT_.out HW_.out (zz0)) (fun _ _ _ h=>h) (Or.inl ⟨zz37,?_⟩) hHeld ?_ ?_;rotate_left
          ·rintro w' ⟨s0,s1,s2,s3,s4,s5⟩
           go_simp
           with_reducible rfl
          rotate_left
          ·simp only [zzs]
           rfl
          refine yY (i:=5) (N:=some 65) #[true,true,true,true,true,true,false,false,false,false,false,false,false,false,false,false,false,false,false,false,false] rfl rfl (yJ HT_.out (zz0)) (zz24) (fun K hK=>?_);refine yP Tryd.func13 (zz0) rfl #[.agg #[.int .i64 ((rd_T26 l0 x10_2).f0),.int .i64 ((rd_T26 l0 x10_2).f1),.slice A975_2 ((rd_T26 l0 x10_2).f2).length c975_2],.int .i64 a2] (zz37) rfl rfl (zz20) ?_
          with_reducible refine (U30.calls k2 ((rd_T26 l0 x10_2).f0) ((rd_T26 l0 x10_2).f1) _ _ ((rd_T26 l0 x10_2).f2) a2 true _ ?side1 ?side2 A14.out).mono ?_
          (case side1=>exact (have h0_:=HR975_2;zz158))
          (case side2=>exact HC975_2.out)
          rintro e w20 ⟨rfl,hb⟩;refine ⟨_,rfl,?_⟩;replace HB:=wA.mk (wC (zz3) hb)
          (try clear hb)
          refine hK.out _ _ ⟨((HB.out.cell (World.block_lt_of_cell? w _ hw975_0)).trans hw975_0),((HB.out.cell (World.block_lt_of_cell? w _ hw975_1)).trans hw975_1),((HB.out.cell (World.block_lt_of_cell? w _ hw975_2)).trans hw975_2),((HB.out.cell (World.block_lt_of_cell? w _ hw978_0)).trans hw978_0),((HB.out.cell (World.block_lt_of_cell? w _ hw978_1)).trans hw978_1),((HB.out.cell (World.block_lt_of_cell? w _ hw978_2)).trans hw978_2)⟩ (fun hHeld=>?_);clear hK K;refine wY (a':=?_) ?_ ?_;rotate_left
          ·show Act.put _ (some 65) _ = _
           simp only [zzs]
           rfl
          refine zzp 6 66 ?_ #[true,true,true,true,true,true,true,false,false,false,false,false,false,false,false,false,false,false,false,false,false] rfl rfl (wJ HT_.out (zz0)) (fun _ _ _ h=>h) (Or.inl ⟨zz37,?_⟩) ?_ ?_ ?_;rotate_left
          ·intro w'
           go_simp
           with_reducible rfl
          rotate_left
          ·simp only [zzs]
           rfl
          refine zzp 7 67 ?_ #[true,true,true,true,true,true,true,true,false,false,false,false,false,false,false,false,false,false,false,false,false] rfl rfl (wJ HT_.out (zz0)) (fun _ _ _ h=>h) (Or.inl ⟨zz37,?_⟩) ?_ ?_ ?_;rotate_left
          ·intro w'
           go_simp
           with_reducible rfl
          rotate_left
          ·simp only [zzs]
           rfl
          refine zzp 8 68 ?_ #[true,true,true,true,true,true,true,true,true,false,false,false,false,false,false,false,false,false,false,false,false] rfl rfl (wJ HT_.out (zz0)) (fun _ _ _ h=>h) (Or.inl ⟨zz37,?_⟩) ?_ ?_ ?_;rotate_left
          ·intro w'
           go_simp
           with_reducible rfl
          rotate_left
          ·simp only [zzs]
           rfl
          refine zzp 10 70 ?_ #[true,true,true,true,true,true,true,true,true,false,true,false,false,false,false,false,false,false,false,false,false] rfl rfl (wJ HT_.out (zz0)) (fun _ _ _ h=>h) (Or.inl ⟨zz37,?_⟩) ?_ ?_ ?_;rotate_left
          ·intro w'
           go_simp
           with_reducible rfl
          rotate_left
          ·simp only [zzs]
           rfl
          refine zzp 11 71 ?_ #[true,true,true,true,true,true,true,true,true,false,true,true,false,false,false,false,false,false,false,false,false] rfl rfl (wJ HT_.out (zz0)) (fun _ _ _ h=>h) (Or.inl ⟨zz37,?_⟩) ?_ ?_ ?_;rotate_left
          ·intro w'
           go_simp
           with_reducible rfl
          rotate_left
          ·simp only [zzs]
           rfl
          refine zzp 12 72 ?_ #[true,true,true,true,true,true,true,true,true,false,true,true,true,false,false,false,false,false,false,false,false] rfl rfl (wJ HT_.out (zz0)) (fun _ _ _ h=>h) (Or.inl ⟨zz37,?_⟩) ?_ ?_ ?_;rotate_left
          ·intro w'
           go_simp
           with_reducible rfl
          rotate_left
          ·simp only [zzs]
           rfl
          refine zzp 13 73 ?_ #[true,true,true,true,true,true,true,true,true,false,true,true,true,true,false,false,false,false,false,false,false] rfl rfl (wJ HT_.out (zz0)) (fun _ _ _ h=>h) (Or.inl ⟨zz37,?_⟩) ?_ ?_ ?_;rotate_left
          ·intro w'
           go_simp
           with_reducible rfl
          rotate_left
          ·simp only [zzs]
           rfl
          refine take_ (i:=14) (N:=some 74) (v:=?_) (a':=?_) #[true,true,true,true,true,true,true,true,true,false,true,true,true,true,true,false,false,false,false,false,false] rfl rfl (wT HT_.out HW_.out (zz0)) (fun _ _ _ h=>h) (Or.inl ⟨zz37,?_⟩) hHeld ?_ ?_;rotate_left
          ·rintro w' ⟨s0,s1,s2,s3,s4,s5⟩
           go_simp
           with_reducible rfl
          rotate_left
          ·simp only [zzs]
           rfl
          refine yY (i:=9) (N:=some 69) #[true,true,true,true,true,true,true,true,true,true,true,true,true,true,true,false,false,false,false,false,false] rfl rfl (yJ HT_.out (zz0)) (zz24) (fun K hK=>?_);refine yP Tryd.func15 (zz0) rfl #[.slice A1 l1.length c1,.int .i64 t969] (zz37) rfl rfl (zz20) ?_
          with_reducible refine (U29.calls k2 _ _ l1 t969 t977 _ ?side1 ?side2 A16.out).mono ?_
          (case side1=>exact zz160)
          (case side2=>exact HC1.out)
          rintro e w21 ⟨rfl,hb⟩;refine ⟨_,rfl,?_⟩;replace HB:=wA.mk (wC (zz3) hb)
          (try clear hb)
          (try clear hb2)
          (try clear hk)
          (try clear hi)
          refine hK.out _ _ ⟨((HB.out.cell (World.block_lt_of_cell? w _ hw975_0)).trans hw975_0),((HB.out.cell (World.block_lt_of_cell? w _ hw975_1)).trans hw975_1),((HB.out.cell (World.block_lt_of_cell? w _ hw975_2)).trans hw975_2),((HB.out.cell (World.block_lt_of_cell? w _ hw978_0)).trans hw978_0),((HB.out.cell (World.block_lt_of_cell? w _ hw978_1)).trans hw978_1),((HB.out.cell (World.block_lt_of_cell? w _ hw978_2)).trans hw978_2)⟩ (fun hHeld=>?_);clear hK K;refine wY (a':=?_) ?_ ?_;rotate_left
          ·show Act.put _ (some 69) _ = _
           simp only [zzs]
           rfl
          refine zzp 15 75 ?_ #[true,true,true,true,true,true,true,true,true,true,true,true,true,true,true,true,false,false,false,false,false] rfl rfl (wJ HT_.out (zz0)) (fun _ _ _ h=>h) (Or.inl ⟨zz37,?_⟩) ?_ ?_ ?_;rotate_left
          ·intro w'
           go_simp
           with_reducible rfl
          rotate_left
          ·simp only [zzs]
           rfl
          refine zzp 16 76 ?_ #[true,true,true,true,true,true,true,true,true,true,true,true,true,true,true,true,true,false,false,false,false] rfl rfl (wJ HT_.out (zz0)) (fun _ _ _ h=>h) (Or.inl ⟨zz37,?_⟩) ?_ ?_ ?_;rotate_left
          ·intro w'
           go_simp
           with_reducible rfl
          rotate_left
          ·simp only [zzs]
           rfl
          refine zzp 17 77 ?_ #[true,true,true,true,true,true,true,true,true,true,true,true,true,true,true,true,true,true,false,false,false] rfl rfl (wJ HT_.out (zz0)) (fun _ _ _ h=>h) (Or.inl ⟨zz37,?_⟩) ?_ ?_ ?_;rotate_left
          ·intro w'
           go_simp
           with_reducible rfl
          rotate_left
          ·simp only [zzs]
           rfl
          refine yY (i:=18) (N:=some 78) #[true,true,true,true,true,true,true,true,true,true,true,true,true,true,true,true,true,true,true,false,false] rfl rfl (yJ HT_.out (zz0)) (zz24) (fun K hK=>?_);refine yP Tryd.func17 (zz0) rfl #[] (zz37) rfl rfl (zz20) ?_
          with_reducible refine (U5.calls k2  t979 _ A18.out).mono ?_
          rintro e w22 ⟨rfl,hb⟩;refine ⟨_,rfl,?_⟩;replace HB:=wA.mk (wC (zz3) hb)
          (try clear hb)
          (try clear hb2)
          (try clear hk)
          (try clear hi)
          refine hK.out _ _ ⟨((HB.out.cell (World.block_lt_of_cell? w _ hw975_0)).trans hw975_0),((HB.out.cell (World.block_lt_of_cell? w _ hw975_1)).trans hw975_1),((HB.out.cell (World.block_lt_of_cell? w _ hw975_2)).trans hw975_2),((HB.out.cell (World.block_lt_of_cell? w _ hw978_0)).trans hw978_0),((HB.out.cell (World.block_lt_of_cell? w _ hw978_1)).trans hw978_1),((HB.out.cell (World.block_lt_of_cell? w _ hw978_2)).trans hw978_2)⟩ (fun hHeld=>?_);clear hK K;refine wY (a':=?_) ?_ ?_;rotate_left
          ·show Act.put _ (some 78) _ = _
           simp only [zzs]
           rfl
          refine zzp 19 79 ?_ #[true,true,true,true,true,true,true,true,true,true,true,true,true,true,true,true,true,true,true,true,false] rfl rfl (wJ HT_.out (zz0)) (fun _ _ _ h=>h) (Or.inl ⟨zz37,?_⟩) ?_ ?_ ?_;rotate_left
          ·intro w'
           go_simp
           with_reducible rfl
          rotate_left
          ·simp only [zzs]
           rfl
          refine zzp 20 6 ?_ #[true,true,true,true,true,true,true,true,true,true,true,true,true,true,true,true,true,true,true,true,true] rfl rfl (wJ HT_.out (zz0)) (fun _ _ _ h=>h) (Or.inl ⟨zz37,?_⟩) ?_ ?_ ?_;rotate_left
          ·intro w'
           go_simp
           with_reducible rfl
          rotate_left
          ·simp only [zzs]
           rfl
          refine yZ (yN HT_.out (zz0)) ?_
          try go_wp2
          go_ret
          exact ⟨zz8,zz3⟩
         ·have c17b0:=decide_eq_false c17;clear c17
          exact absurd H (zz7)
        ·replace c15:=Bool.eq_false_iff.mpr c15;subst c15;have H1:(none) = some r:=zz19;clear H;have H:=H1;clear H1
         exact absurd H (zz7)
       ·have c13b0:=beq_eq_false_iff_ne.mpr c13;have c13b1:=bne_iff_ne.mpr c13;have H':=wA.mk H;clear H;have p974:0≤(x10_2:Int):=of_decide_eq_true (zz4);have q974:x10_2 < (l0.length:Int):=of_decide_eq_true (zz4);obtain ⟨ad974,A974_2,c974_2,e974,hx974_0,hx974_1,hx974_2,hl974_2,hi974_2⟩:=at_T26 HR0.out x10_2 p974 q974
        cases e974
        replace hx974_0:=(HB.out.cell (World.block_lt_of_cell? w _ hx974_0)).trans hx974_0;replace hx974_1:=(HB.out.cell (World.block_lt_of_cell? w _ hx974_1)).trans hx974_1;replace hx974_2:=(HB.out.cell (World.block_lt_of_cell? w _ hx974_2)).trans hx974_2;have HR974_2:=wA.mk hi974_2;have HC974_2:=wA.mk hl974_2;clear hi974_2 hl974_2;replace p974:=eq_true p974;replace q974:=eq_true q974
        go_wp2
        go_roundg k2
        case measure=>have:=HK1.out;have:=HK2.out;omega
        case rel=>exact ⟨(wrap64 (x10_2+1)),(zz2),H',⟨zz29⟩,⟨zz3⟩⟩
 ·have c5b0:=beq_eq_false_iff_ne.mpr c5;have c5b1:=bne_iff_ne.mpr c5;replace H:=zzi H;obtain ⟨c23,H⟩:=H;have c23b0:=beq_iff_eq.mpr c23;have c23b1:=bne_eq_false_iff_eq.mpr c23;clear c23;replace H:=zzb H;obtain ⟨t971,A24,H⟩:=H;obtain rfl:=Option.some.inj H;go_enter Tryd.func7,Tryd.ntmps7
  go_wp2_with (first|((with_reducible refine wI (f:=21) rfl ?_);refine wR (some 15) rfl rfl Tryd.func21 (zz0) rfl #[.slice A0 l0.length c0,.slice A1 l1.length c1,.int .i64 a2] rfl (zz20) ?_;(with_reducible refine (U31.calls k _ _ l0 _ _ l1 a2 t969 t970 _ ?_ ?_ ?_ ?_ A4.out).mono ?_);exact zz159;exact HC0.out;exact zz167;exact HC1.out;rintro e w25 ⟨rfl,hb⟩;refine ⟨_,rfl,?_⟩;replace HB:=wA.mk (wC (zz3) hb);(try clear hb))|(go_at_call 17;(with_reducible refine (U5.calls k  t971 _ A24.out).mono ?_);rintro e w26 ⟨rfl,hb⟩;replace HB:=wA.mk (wC (zz3) hb);(try clear hb)))
  go_ret
  exact ⟨zz8,zz3⟩
end Go.Proofs.YtnimkmkapajnhaaDoor.QA
