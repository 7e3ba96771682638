import Derived.Test.YtnimkmkapajnhaaDoorRBQAx0
import Derived.Test.YtnimkmkapajnhaaDoorRBQAx4
import Derived.Test.YtnimkmkapajnhaaDoorRBQAx5
import Derived.Test.YtnimkmkapajnhaaDoorRBQAx6
namespace Go.Proofs.YtnimkmkapajnhaaDoor.QA
open Go.RowKit Go.Proofs.YtnimkmkapajnhaaDoorW.PrintWords Go.Proofs.YtnimkmkapajnhaaDoorW.PrintLast Go.Proofs.YtnimkmkapajnhaaDoorW.PrintMore
attribute [local go_sem] yE yA yI yJ wY wX yC yD
set_option linter.unusedVariables false
set_option linter.unusedSimpArgs false
mutual
def U31.l0:Nat→List (S26)→List Int→List (S44)→List (S44)→Int→Int→Option (Int)
 | 0,_,_,_,_,_,_=>none
 | k+1,x0,x1,x2,x26,x27,x28=>if x28 < x27 then (if 0≤x28 then (if x28 < (x26.length:Int) then (if 0≤(wrap64 (Int.tdiv x28 2)) then (if (wrap64 (Int.tdiv x28 2)) < (x1.length:Int) then (if ((rd_T44 x26 x28).f0) = (rd x1 (wrap64 (Int.tdiv x28 2))) then (U31.l0 k x0 x1 x2 x26 x27 (wrap64 (x28+1))) else (some 1)) else (none)) else (none)) else (none)) else (none)) else (U31.l1 k x0 x2 (x2.length:Int) 0)
def U31.l1:Nat→List (S26)→List (S44)→Int→Int→Option (Int)
 | 0,_,_,_,_=>none
 | k+1,x0,x2,x43,x44=>if x44 < x43 then ((U39.f k x0 x2 x44).bind fun t133=>(if t133 = 0 then (U31.l1 k x0 x2 x43 (wrap64 (x44+1))) else (some t133))) else (U31.l2 k x2 x0 (x0.length:Int) 0)
def U31.l2:Nat→List (S44)→List (S26)→Int→Int→Option (Int)
 | 0,_,_,_,_=>none
 | k+1,x2,x55,x56,x57=>if x57 < x56 then (if 0≤x57 then (if x57 < (x55.length:Int) then ((U34.f k x2 ((rd_T26 x55 x57).f0)).bind fun t136=>(if t136 > ((rd_T26 x55 x57).f1) then (some 3) else (U31.l2 k x2 x55 x56 (wrap64 (x57+1))))) else (none)) else (none)) else (some 0)
end
def U31.f (k:Nat) (l0:List (S26)) (l1:List Int) (l2:List (S44)):Option (Int):=(U41.f k l0 l1).bind fun t129=>(if t129 = 0 then (if (l2.length:Int) = (wrap64 (2 * (l1.length:Int))) then (U31.l0 k l0 l1 l2 l2 (l2.length:Int) 0) else (some 1)) else (some t129))
theorem zm6_0 {P:Prop} (h:P:=by repeat' first|(with_reducible first|exact ih0 ..|exact ih1 ..|exact ih2 ..|exact U34.mono ..|exact U39.mono ..|exact U41.mono ..|exact LeO.refl _|exact LeO.none _|refine LeO.ite ?_ ?_|refine LeO.bind ?_ (fun _=>?_))|exact ih0 ..|exact ih1 ..|exact ih2 ..|exact U34.mono ..|exact U39.mono ..|exact U41.mono ..|exact LeO.none _|refine LeO.ite ?_ ?_|refine LeO.bind ?_ (fun _=>?_)):P:=h
theorem U31.mono_l:∀ k,(∀ y0 y1 y2 y3 y4 y5,LeO (U31.l0 k y0 y1 y2 y3 y4 y5) (U31.l0 (k+1) y0 y1 y2 y3 y4 y5))∧(∀ y0 y1 y2 y3,LeO (U31.l1 k y0 y1 y2 y3) (U31.l1 (k+1) y0 y1 y2 y3))∧(∀ y0 y1 y2 y3,LeO (U31.l2 k y0 y1 y2 y3) (U31.l2 (k+1) y0 y1 y2 y3))
 | 0=>⟨fun _ _ _ _ _ _ r h=>by simp [U31.l0] at h,fun _ _ _ _ r h=>by simp [U31.l1] at h,fun _ _ _ _ r h=>by simp [U31.l2] at h⟩
 | k+1=>by
  obtain ⟨ih0,ih1,ih2⟩:=U31.mono_l k;refine ⟨?_,?_,?_⟩
  ·intro y0 y1 y2 y3 y4 y5;unfold U31.l0
   exact zm6_0
  ·intro y0 y1 y2 y3;unfold U31.l1
   exact zm6_0
  ·intro y0 y1 y2 y3;unfold U31.l2
   exact zm6_0
theorem U31.mono:∀ a0 a1 a2 k,LeO (U31.f k a0 a1 a2) (U31.f (k+1) a0 a1 a2):=by
 intro a0 a1 a2 k;obtain ⟨ih0,ih1,ih2⟩:=U31.mono_l k;unfold U31.f
 exact zm6_0
def U31.T9:Bool × List (List Nat × List Nat):=(true,[([],[]),([0],[0]),([],[]),([],[]),([3],[3]),([2,4],[2,4]),([5],[5]),([1,6],[1,6])])
def U31.B9:List Nat:=[0,1,0,0,8,28,60,127]
theorem U31.tab9:zH .any (zU Tryd.f11 9) = U31.T9:=zz0
theorem U31.bits9:yY U31.T9.2 U31.B9 = true:=zz0
set_option maxHeartbeats 8000000 in
set_option maxRecDepth 100000 in
theorem U31.calls (k:Nat) (A0:Option Addr) (c0:Nat) (l0:List (S26)) (A1:Option Addr) (c1:Nat) (l1:List Int) (A2:Option Addr) (c2:Nat) (l2:List (S44)) (r:Int) (w:World) (hr0:Kd.C k26 w A0 l0.length l0) (hc0:l0.length≤c0) (hr1:Kd.C (Kd.int .i64) w A1 l1.length l1) (hc1:l1.length≤c1) (hr2:Kd.C k44 w A2 l2.length l2) (hc2:l2.length≤c2) (h:U31.f k l0 l1 l2 = some r) :
  Calls Tryd.prog 11 #[.slice A0 l0.length c0,.slice A1 l1.length c1,.slice A2 l2.length c2] w fun e w'=>e = .returned (.int .i64 r)∧Below w.heap.size w w':=by
 have hu44:=Tryd.underlying44;have hu26:=Tryd.underlying26;have HR0:=wA.mk hr0;have HC0:=wA.mk hc0;clear hr0 hc0;have HR1:=wA.mk hr1;have HC1:=wA.mk hc1;clear hr1 hc1;have HR2:=wA.mk hr2;have HC2:=wA.mk hc2;clear hr2 hc2;have HB:=wA.mk (Below.refl w.heap.size w);have H:((U41.f k l0 l1).bind fun t129=>(if t129 = 0 then (if (l2.length:Int) = (wrap64 (2 * (l1.length:Int))) then (U31.l0 k l0 l1 l2 l2 (l2.length:Int) 0) else (some 1)) else (some t129))) = some r:=h;clear h;replace H:=zzb H;obtain ⟨t129,A4,H⟩:=H;replace H:=zzj H;rcases H with ⟨c5,H⟩|⟨c5,H⟩
 ·have c5b0:=beq_iff_eq.mpr c5;have c5b1:=bne_eq_false_iff_eq.mpr c5;clear c5;replace H:=zzj H;rcases H with ⟨c6,H⟩|⟨c6,H⟩
  ·have c6b0:=beq_iff_eq.mpr c6;have c6b1:=bne_eq_false_iff_eq.mpr c6;clear c6;have H':=wA.mk H;clear H;go_enter Tryd.func11,Tryd.ntmps11
   go_wp2_with (first|((with_reducible refine wI (f:=32) rfl ?_);refine wR (some 16) rfl rfl Tryd.func32 (zz0) rfl #[.slice A0 l0.length c0,.slice A1 l1.length c1] rfl (zz20) ?_;(with_reducible refine (U41.calls k _ _ l0 _ _ l1 t129 _ ?_ ?_ ?_ ?_ A4.out).mono ?_);exact zz158;exact HC0.out;exact zz161;exact HC1.out;rintro e w7 ⟨rfl,hb⟩;refine ⟨_,rfl,?_⟩;replace HB:=wA.mk (wC (zz3) hb);(try clear hb)))
   go_loopg [28] k (fun kq v28 w'=>∃ (x28_1:Int),v28 = .int .i64 x28_1∧wA (U31.l0 kq l0 l1 l2 l2 (l2.length:Int) x28_1 = some r)∧wA (kq≤k)∧wA (Below w.heap.size w w'))
   case atStart=>exact ⟨(0),(zz2),H',⟨Nat.le_refl _⟩,⟨zz3⟩⟩
   case round =>
    clear H'
    (try clear c1);(try clear c2);clear c5b0 c5b1 c6b0 c6b1
    obtain ⟨x28_1,rfl,HA,HK1,HB⟩:=hrel
    cases gk with
    | zero=>exact absurd HA.out (by simp [U31.l0])
    | succ k1 =>
     have H:=HA.out;clear HA;simp only [U31.l0] at H;replace H:=zzj H;rcases H with ⟨c8,H⟩|⟨c8,H⟩
     ·have c8b0:=qM c8;clear c8;replace H:=zzi H;obtain ⟨c9,H⟩:=H;have c9b0:=qM c9;clear c9;replace H:=zzi H;obtain ⟨c10,H⟩:=H;have c10b0:=qM c10;clear c10;obtain ⟨ji11,hji11⟩:∃ j_:Int,(wrap64 (Int.tdiv x28_1 2)) = j_:=⟨_,rfl⟩;replace H:(if 0≤(ji11) then (if (ji11) < (l1.length:Int) then (if ((rd_T44 l2 x28_1).f0) = (rd l1 (ji11)) then (U31.l0 k1 l0 l1 l2 l2 (l2.length:Int) (wrap64 (x28_1+1))) else (some 1)) else (none)) else (none)) = some r:=(have h0_:=hji11;zz10);have hji11w:(IntKind.i64.wrap (Int.tdiv x28_1 2)) = ji11:=(yS _).trans hji11;replace H:=zzi H;obtain ⟨c12,H⟩:=H;have c12b0:=qM c12;clear c12;replace H:=zzi H;obtain ⟨c13,H⟩:=H;have c13b0:=qM c13;clear c13;replace H:=zzj H;rcases H with ⟨c14,H⟩|⟨c14,H⟩
      ·have c14b0:=beq_iff_eq.mpr c14;have c14b1:=bne_eq_false_iff_eq.mpr c14;clear c14;have H':=wA.mk H;clear H;have p130:0≤(x28_1:Int):=qL (zz4);have q130:x28_1 < (l2.length:Int):=qL (zz4);obtain ⟨ad130,e130,hx130_0,hx130_1⟩:=at_T44 HR2.out x28_1 p130 q130
       cases e130
       replace hx130_0:=(HB.out.cell (qK w _ hx130_0)).trans hx130_0;replace hx130_1:=(HB.out.cell (qK w _ hx130_1)).trans hx130_1;replace p130:=eq_true p130;replace q130:=eq_true q130
       try go_wp2_with (first|((with_reducible refine wL (N:=9) rfl ?_);refine wM ?hg (N:=9) ?hd (cs:=#[.int .i64 0,.int .i64 0]) (t:=44) ?hr ?_;(case hd=>rfl);(case hg=>rfl);(case hr=>exact zz156);intro gb131 hg w15 hbox hb;have BK131:=wA.mk (hbox);have GW131:=wA.mk ((by rw [hg];exact (wB (zz3)):w.heap.size≤gb131));have GE131:=wA.mk ((by rw [hg];exact (wB (zz3)):w.heap.size≤gb131));replace HB:=wA.mk (wC (zz3) hb);clear hb hbox hg;obtain ⟨hcz16_0,hcz16_1,hfz16_0,hfz16_1⟩:=zc2 BK131.out))
       have n0_:wA (((w15.setCell ⟨gb131,0,none⟩ (.int .i64 ((rd_T44 l2 x28_1).f0))).setCell ⟨gb131,1,none⟩ (.int .i64 ((rd_T44 l2 x28_1).f1))).heap[gb131]? = some (.cells #[.int .i64 ((rd_T44 l2 x28_1).f0),.int .i64 ((rd_T44 l2 x28_1).f1)] 44 (0,0))):=⟨by (with_reducible repeat (first|refine wE ?_ _|refine wG ?_|refine wD ?_ _));refine wP (cs:=#[.int .i64 ((rd_T44 l2 x28_1).f0),.int .i64 0]) ?_ 1 _ rfl;(with_reducible repeat (first|refine wE ?_ _|refine wG ?_|refine wD ?_ _));refine wP (cs:=#[.int .i64 0,.int .i64 0]) ?_ 0 _ rfl;(with_reducible repeat (first|refine wE ?_ _|refine wG ?_|refine wD ?_ _));exact BK131.out⟩;have n1_:wA (Below w.heap.size w ((w15.setCell ⟨gb131,0,none⟩ (.int .i64 ((rd_T44 l2 x28_1).f0))).setCell ⟨gb131,1,none⟩ (.int .i64 ((rd_T44 l2 x28_1).f1)))):=⟨(have h0_:=GE131;zz6)⟩
       (try clear BK131);(try clear HB);generalize ((w15.setCell ⟨gb131,0,none⟩ (.int .i64 ((rd_T44 l2 x28_1).f0))).setCell ⟨gb131,1,none⟩ (.int .i64 ((rd_T44 l2 x28_1).f1))) = w17 at n0_ n1_ ⊢
       have BK131:=n0_;have HB:=n1_;clear n0_ n1_;replace BK131:=wA.mk (wG BK131.out);replace HB:=wA.mk (wS HB.out);have p132:0≤((ji11):Int):=qL (zz4);have q132:(ji11) < (l1.length:Int):=qL (zz4);obtain ⟨ad132,e132,hx132_0⟩:=Kd.at_int HR1.out (ji11) p132 q132;have hw132_0:=hx132_0
       cases e132
       replace hx132_0:=(HB.out.cell (qK w _ hx132_0)).trans hx132_0;replace p132:=eq_true p132;replace q132:=eq_true q132;refine yP (n:=8) (S:=fun w'=>w'.cell? ⟨gb131,0,none⟩ = some (.int .i64 ((rd_T44 l2 x28_1).f0))∧w'.cell? ⟨gb131,1,none⟩ = some (.int .i64 ((rd_T44 l2 x28_1).f1))∧w'.cell? (ad132.add ((ji11)).toNat) = some (.int .i64 (rd l1 (ji11)))) (ds:=[]) #[fF,fF,fF,fF,fF,fF,fF,fF] (zz0) rfl rfl ⟨(wH BK131.out 0).trans rfl,(wH BK131.out 1).trans rfl,((HB.out.cell (qK w _ hw132_0)).trans hw132_0)⟩ (fun hHeld=>?_);refine yG U31.tab9 U31.bits9 (fun HT_ HW_=>?_)
       generalize w17.drew = w18 at BK131 HB hx132_0 hHeld ⊢
       refine zzp 0 33 ?_ #[tT,fF,fF,fF,fF,fF,fF,fF] rfl rfl (wJ HT_.out (zz0)) (fun _ _ _ h=>h) (Or.inl ⟨zz25,?_⟩) ?_ ?_ ?_;rotate_left
       ·intro w';go_simp;with_reducible rfl
       rotate_left;·simp only [zzs];rfl
       refine zzp 2 35 ?_ #[tT,fF,tT,fF,fF,fF,fF,fF] rfl rfl (wJ HT_.out (zz0)) (fun _ _ _ h=>h) (Or.inl ⟨zz25,?_⟩) ?_ ?_ ?_;rotate_left
       ·intro w';go_simp;with_reducible rfl
       rotate_left;·simp only [zzs];rfl
       refine zzp 3 36 ?_ #[tT,fF,tT,tT,fF,fF,fF,fF] rfl rfl (wJ HT_.out (zz0)) (fun _ _ _ h=>h) (Or.inl ⟨zz25,?_⟩) ?_ ?_ ?_;rotate_left
       ·intro w';go_simp;with_reducible rfl
       rotate_left;·simp only [zzs];rfl
       refine zzp 4 37 ?_ #[tT,fF,tT,tT,tT,fF,fF,fF] rfl rfl (wJ HT_.out (zz0)) (fun _ _ _ h=>h) (Or.inl ⟨zz25,?_⟩) ?_ ?_ ?_;rotate_left
       ·intro w';go_simp;with_reducible rfl
       rotate_left;·simp only [zzs];rfl
       refine zzp 5 38 ?_ #[tT,fF,tT,tT,tT,tT,fF,fF] rfl rfl (wJ HT_.out (zz0)) (fun _ _ _ h=>h) (Or.inl ⟨zz25,?_⟩) ?_ ?_ ?_;rotate_left
       ·intro w';go_simp;with_reducible rfl
       rotate_left;·simp only [zzs];rfl
       refine take_ (i:=1) (N:=some 34) (v:=?_) (a':=?_) #[tT,tT,tT,tT,tT,tT,fF,fF] rfl rfl (wU HT_.out HW_.out (zz0)) (fun _ _ _ h=>h) (Or.inl ⟨zz25,?_⟩) hHeld ?_ ?_;rotate_left
       ·rintro w' ⟨s0,s1,s2⟩
        go_simp
        with_reducible rfl
       rotate_left;·simp only [zzs];rfl
       refine take_ (i:=6) (N:=some 39) (v:=?_) (a':=?_) #[tT,tT,tT,tT,tT,tT,tT,fF] rfl rfl (wU HT_.out HW_.out (zz0)) (fun _ _ _ h=>h) (Or.inl ⟨zz25,?_⟩) hHeld ?_ ?_;rotate_left
       ·rintro w' ⟨s0,s1,s2⟩
        go_simp
        with_reducible rfl
       rotate_left;·simp only [zzs];rfl
       refine zzp 7 40 ?_ #[tT,tT,tT,tT,tT,tT,tT,tT] rfl rfl (wJ HT_.out (zz0)) (fun _ _ _ h=>h) (Or.inl ⟨zz25,?_⟩) ?_ ?_ ?_;rotate_left
       ·intro w';go_simp;with_reducible rfl
       rotate_left;·simp only [zzs];rfl
       refine yX (yQ HT_.out (zz0)) ?_
       try go_wp2
       go_roundg k1
       case measure=>have:=HK1.out;omega
       case rel=>exact ⟨(wrap64 (x28_1+1)),(zz2),H',⟨zz5⟩,⟨(have h0_:=GE131;zz6)⟩⟩
      ·have c14b0:=beq_eq_false_iff_ne.mpr c14;have c14b1:=bne_iff_ne.mpr c14;obtain rfl:=Option.some.inj H;have p130:0≤(x28_1:Int):=qL (zz4);have q130:x28_1 < (l2.length:Int):=qL (zz4);obtain ⟨ad130,e130,hx130_0,hx130_1⟩:=at_T44 HR2.out x28_1 p130 q130
       cases e130
       replace hx130_0:=(HB.out.cell (qK w _ hx130_0)).trans hx130_0;replace hx130_1:=(HB.out.cell (qK w _ hx130_1)).trans hx130_1;replace p130:=eq_true p130;replace q130:=eq_true q130
       try go_wp2_with (first|((with_reducible refine wL (N:=9) rfl ?_);refine wM ?hg (N:=9) ?hd (cs:=#[.int .i64 0,.int .i64 0]) (t:=44) ?hr ?_;(case hd=>rfl);(case hg=>rfl);(case hr=>exact zz156);intro gb131 hg w19 hbox hb;have BK131:=wA.mk (hbox);have GW131:=wA.mk ((by rw [hg];exact (wB (zz3)):w.heap.size≤gb131));have GE131:=wA.mk ((by rw [hg];exact (wB (zz3)):w.heap.size≤gb131));replace HB:=wA.mk (wC (zz3) hb);clear hb hbox hg;obtain ⟨hcz20_0,hcz20_1,hfz20_0,hfz20_1⟩:=zc2 BK131.out))
       have n0_:wA (((w19.setCell ⟨gb131,0,none⟩ (.int .i64 ((rd_T44 l2 x28_1).f0))).setCell ⟨gb131,1,none⟩ (.int .i64 ((rd_T44 l2 x28_1).f1))).heap[gb131]? = some (.cells #[.int .i64 ((rd_T44 l2 x28_1).f0),.int .i64 ((rd_T44 l2 x28_1).f1)] 44 (0,0))):=⟨by (with_reducible repeat (first|refine wE ?_ _|refine wG ?_|refine wD ?_ _));refine wP (cs:=#[.int .i64 ((rd_T44 l2 x28_1).f0),.int .i64 0]) ?_ 1 _ rfl;(with_reducible repeat (first|refine wE ?_ _|refine wG ?_|refine wD ?_ _));refine wP (cs:=#[.int .i64 0,.int .i64 0]) ?_ 0 _ rfl;(with_reducible repeat (first|refine wE ?_ _|refine wG ?_|refine wD ?_ _));exact BK131.out⟩;have n1_:wA (Below w.heap.size w ((w19.setCell ⟨gb131,0,none⟩ (.int .i64 ((rd_T44 l2 x28_1).f0))).setCell ⟨gb131,1,none⟩ (.int .i64 ((rd_T44 l2 x28_1).f1)))):=⟨(have h0_:=GE131;zz6)⟩
       (try clear BK131);(try clear HB);generalize ((w19.setCell ⟨gb131,0,none⟩ (.int .i64 ((rd_T44 l2 x28_1).f0))).setCell ⟨gb131,1,none⟩ (.int .i64 ((rd_T44 l2 x28_1).f1))) = w21 at n0_ n1_ ⊢
       have BK131:=n0_;have HB:=n1_;clear n0_ n1_;replace BK131:=wA.mk (wG BK131.out);replace HB:=wA.mk (wS HB.out);have p132:0≤((ji11):Int):=qL (zz4);have q132:(ji11) < (l1.length:Int):=qL (zz4);obtain ⟨ad132,e132,hx132_0⟩:=Kd.at_int HR1.out (ji11) p132 q132;have hw132_0:=hx132_0
       cases e132
       replace hx132_0:=(HB.out.cell (qK w _ hx132_0)).trans hx132_0;replace p132:=eq_true p132;replace q132:=eq_true q132;refine yP (n:=8) (S:=fun w'=>w'.cell? ⟨gb131,0,none⟩ = some (.int .i64 ((rd_T44 l2 x28_1).f0))∧w'.cell? ⟨gb131,1,none⟩ = some (.int .i64 ((rd_T44 l2 x28_1).f1))∧w'.cell? (ad132.add ((ji11)).toNat) = some (.int .i64 (rd l1 (ji11)))) (ds:=[]) #[fF,fF,fF,fF,fF,fF,fF,fF] (zz0) rfl rfl ⟨(wH BK131.out 0).trans rfl,(wH BK131.out 1).trans rfl,((HB.out.cell (qK w _ hw132_0)).trans hw132_0)⟩ (fun hHeld=>?_);refine yG U31.tab9 U31.bits9 (fun HT_ HW_=>?_)
       generalize w21.drew = w22 at BK131 HB hx132_0 hHeld ⊢
       refine zzp 0 33 ?_ #[tT,fF,fF,fF,fF,fF,fF,fF] rfl rfl (wJ HT_.out (zz0)) (fun _ _ _ h=>h) (Or.inl ⟨zz25,?_⟩) ?_ ?_ ?_;rotate_left
       ·intro w';go_simp;with_reducible rfl
       rotate_left;·simp only [zzs];rfl
       refine zzp 2 35 ?_ #[tT,fF,tT,fF,fF,fF,fF,fF] rfl rfl (wJ HT_.out (zz0)) (fun _ _ _ h=>h) (Or.inl ⟨zz25,?_⟩) ?_ ?_ ?_;rotate_left
       ·intro w';go_simp;with_reducible rfl
       rotate_left;·simp only [zzs];rfl
       refine zzp 3 36 ?_ #[tT,fF,tT,tT,fF,fF,fF,fF] rfl rfl (wJ HT_.out (zz0)) (fun _ _ _ h=>h) (Or.inl ⟨zz25,?_⟩) ?_ ?_ ?_;rotate_left
       ·intro w';go_simp;with_reducible rfl
       rotate_left;·simp only [zzs];rfl
       refine zzp 4 37 ?_ #[tT,fF,tT,tT,tT,fF,fF,fF] rfl rfl (wJ HT_.out (zz0)) (fun _ _ _ h=>h) (Or.inl ⟨zz25,?_⟩) ?_ ?_ ?_;rotate_left
       ·intro w';go_simp;with_reducible rfl
       rotate_left;·simp only [zzs];rfl
       refine zzp 5 38 ?_ #[tT,fF,tT,tT,tT,tT,fF,fF] rfl rfl (wJ HT_.out (zz0)) (fun _ _ _ h=>h) (Or.inl ⟨zz25,?_⟩) ?_ ?_ ?_;rotate_left
       ·intro w';go_simp;with_reducible rfl
       rotate_left;·simp only [zzs];rfl
       refine take_ (i:=1) (N:=some 34) (v:=?_) (a':=?_) #[tT,tT,tT,tT,tT,tT,fF,fF] rfl rfl (wU HT_.out HW_.out (zz0)) (fun _ _ _ h=>h) (Or.inl ⟨zz25,?_⟩) hHeld ?_ ?_;rotate_left
       ·rintro w' ⟨s0,s1,s2⟩
        go_simp
        with_reducible rfl
       rotate_left;·simp only [zzs];rfl
       refine take_ (i:=6) (N:=some 39) (v:=?_) (a':=?_) #[tT,tT,tT,tT,tT,tT,tT,fF] rfl rfl (wU HT_.out HW_.out (zz0)) (fun _ _ _ h=>h) (Or.inl ⟨zz25,?_⟩) hHeld ?_ ?_;rotate_left
       ·rintro w' ⟨s0,s1,s2⟩
        go_simp
        with_reducible rfl
       rotate_left;·simp only [zzs];rfl
       refine zzp 7 40 ?_ #[tT,tT,tT,tT,tT,tT,tT,tT] rfl rfl (wJ HT_.out (zz0)) (fun _ _ _ h=>h) (Or.inl ⟨zz25,?_⟩) ?_ ?_ ?_;rotate_left
       ·intro w';go_simp;with_reducible rfl
       rotate_left;·simp only [zzs];rfl
       refine yX (yQ HT_.out (zz0)) ?_
       try go_wp2
       go_ret
       exact ⟨(have h0_:=hji11;zz16),(have h0_:=GE131;zz6)⟩
     ·have c8b0:=qN c8;clear c8;have H':=wA.mk H;clear H
      go_wp2
      go_loopg [44] k1 (fun kq v44 w'=>∃ (x44_2:Int),v44 = .int .i64 x44_2∧wA (U31.l1 kq l0 l2 (l2.length:Int) x44_2 = some r)∧wA (kq≤k1)∧wA (Below w.heap.size w w'))
      case atStart=>exact ⟨(0),(zz2),H',⟨Nat.le_refl _⟩,⟨zz3⟩⟩
      case round =>
       clear H';clear c8b0;obtain ⟨x44_2,rfl,HA,HK2,HB⟩:=hrel
       cases gk with
       | zero=>exact absurd HA.out (by simp [U31.l1])
       | succ k2 =>
        have H:=HA.out;clear HA;simp only [U31.l1] at H;replace H:=zzj H;rcases H with ⟨c23,H⟩|⟨c23,H⟩
        ·have c23b0:=qM c23;clear c23;replace H:=zzb H;obtain ⟨t133,A24,H⟩:=H;replace H:=zzj H;rcases H with ⟨c25,H⟩|⟨c25,H⟩
         ·have c25b0:=beq_iff_eq.mpr c25;have c25b1:=bne_eq_false_iff_eq.mpr c25;clear c25;have H':=wA.mk H;clear H
          go_wp2_with (first|((with_reducible refine wI (f:=33) rfl ?_);refine wR (some 50) rfl rfl Tryd.func33 (zz0) rfl #[.slice A0 l0.length c0,.slice A2 l2.length c2,.int .i64 x44_2] rfl (zz20) ?_;(with_reducible refine (U39.calls k2 _ _ l0 _ _ l2 x44_2 t133 _ ?_ ?_ ?_ ?_ A24.out).mono ?_);exact zz160;exact HC0.out;(exact (have h0_:=HR2;zz157));exact HC2.out;rintro e w26 ⟨rfl,hb⟩;refine ⟨_,rfl,?_⟩;replace HB:=wA.mk (wC (zz3) hb);(try clear hb)))
          go_roundg k2
          case measure=>have:=HK1.out;have:=HK2.out;omega
          case rel=>exact ⟨(wrap64 (x44_2+1)),(zz2),H',⟨zz27⟩,⟨zz3⟩⟩
         ·have c25b0:=beq_eq_false_iff_ne.mpr c25;have c25b1:=bne_iff_ne.mpr c25;obtain rfl:=Option.some.inj H
          go_wp2_with (first|((with_reducible refine wI (f:=33) rfl ?_);refine wR (some 50) rfl rfl Tryd.func33 (zz0) rfl #[.slice A0 l0.length c0,.slice A2 l2.length c2,.int .i64 x44_2] rfl (zz20) ?_;(with_reducible refine (U39.calls k2 _ _ l0 _ _ l2 x44_2 t133 _ ?_ ?_ ?_ ?_ A24.out).mono ?_);exact zz160;exact HC0.out;(exact (have h0_:=HR2;zz157));exact HC2.out;rintro e w27 ⟨rfl,hb⟩;refine ⟨_,rfl,?_⟩;replace HB:=wA.mk (wC (zz3) hb);(try clear hb)))
          go_ret
          exact ⟨zz8,zz3⟩
        ·have c23b0:=qN c23;clear c23;have H':=wA.mk H;clear H
         go_wp2
         go_loopg [57] k2 (fun kq v57 w'=>∃ (x57_3:Int),v57 = .int .i64 x57_3∧wA (U31.l2 kq l2 l0 (l0.length:Int) x57_3 = some r)∧wA (kq≤k2)∧wA (Below w.heap.size w w'))
         case atStart=>exact ⟨(0),(zz2),H',⟨Nat.le_refl _⟩,⟨zz3⟩⟩
         case round =>
          clear H'
          (try clear hx1);(try clear hx13);clear c23b0;(try clear hcz16_0);(try clear hcz16_1);(try clear hcz20_0);(try clear hcz20_1);(try clear hfz16_0);(try clear hfz16_1);(try clear hfz20_0);(try clear hfz20_1);(try clear hx130_0);(try clear hx130_1);(try clear hx132_0)
          obtain ⟨x57_3,rfl,HA,HK3,HB⟩:=hrel
          cases gk with
          | zero=>exact absurd HA.out (by simp [U31.l2])
          | succ k3 =>
           have H:=HA.out;clear HA;simp only [U31.l2] at H;replace H:=zzj H;rcases H with ⟨c28,H⟩|⟨c28,H⟩
           ·have c28b0:=qM c28;clear c28;replace H:=zzi H;obtain ⟨c29,H⟩:=H;have c29b0:=qM c29;clear c29;replace H:=zzi H;obtain ⟨c30,H⟩:=H;have c30b0:=qM c30;clear c30;replace H:=zzb H;obtain ⟨t136,A31,H⟩:=H;replace H:=zzj H;rcases H with ⟨c32,H⟩|⟨c32,H⟩
            ·have c32b0:=qM c32;clear c32;obtain rfl:=Option.some.inj H;have p134:0≤(x57_3:Int):=qL (zz4);have q134:x57_3 < (l0.length:Int):=qL (zz4);obtain ⟨ad134,A134_2,c134_2,e134,hx134_0,hx134_1,hx134_2,hl134_2,hi134_2⟩:=at_T26 HR0.out x57_3 p134 q134
             cases e134
             replace hx134_0:=(HB.out.cell (qK w _ hx134_0)).trans hx134_0;replace hx134_1:=(HB.out.cell (qK w _ hx134_1)).trans hx134_1;replace hx134_2:=(HB.out.cell (qK w _ hx134_2)).trans hx134_2;have HR134_2:=wA.mk hi134_2;have HC134_2:=wA.mk hl134_2;clear hi134_2 hl134_2;replace p134:=eq_true p134;replace q134:=eq_true q134
             try go_wp2_with (first|((with_reducible refine wL (N:=13) rfl ?_);refine wM ?hg (N:=13) ?hd (cs:=#[.int .i64 0,.int .i64 0,.slice none 0 0]) (t:=26) ?hr ?_;(case hd=>rfl);(case hg=>rfl);(case hr=>exact zz156);intro gb135 hg w33 hbox hb;have BK135:=wA.mk (hbox);have GW135:=wA.mk ((by rw [hg];exact (wB (zz3)):w.heap.size≤gb135));have GE135:=wA.mk ((by rw [hg];exact (wB (zz3)):w.heap.size≤gb135));replace HB:=wA.mk (wC (zz3) hb);clear hb hbox hg;obtain ⟨hcz34_0,hcz34_1,hcz34_2,hfz34_0,hfz34_1,hfz34_2⟩:=zc3 BK135.out))
             have n0_:wA ((((w33.setCell ⟨gb135,0,none⟩ (.int .i64 ((rd_T26 l0 x57_3).f0))).setCell ⟨gb135,1,none⟩ (.int .i64 ((rd_T26 l0 x57_3).f1))).setCell ⟨gb135,2,none⟩ (.slice A134_2 ((rd_T26 l0 x57_3).f2).length c134_2)).heap[gb135]? = some (.cells #[.int .i64 ((rd_T26 l0 x57_3).f0),.int .i64 ((rd_T26 l0 x57_3).f1),.slice A134_2 ((rd_T26 l0 x57_3).f2).length c134_2] 26 (0,0))):=⟨by (with_reducible repeat (first|refine wE ?_ _|refine wG ?_|refine wD ?_ _));refine wP (cs:=#[.int .i64 ((rd_T26 l0 x57_3).f0),.int .i64 ((rd_T26 l0 x57_3).f1),.slice none 0 0]) ?_ 2 _ rfl;(with_reducible repeat (first|refine wE ?_ _|refine wG ?_|refine wD ?_ _));refine wP (cs:=#[.int .i64 ((rd_T26 l0 x57_3).f0),.int .i64 0,.slice none 0 0]) ?_ 1 _ rfl;(with_reducible repeat (first|refine wE ?_ _|refine wG ?_|refine wD ?_ _));refine wP (cs:=#[.int .i64 0,.int .i64 0,.slice none 0 0]) ?_ 0 _ rfl;(with_reducible repeat (first|refine wE ?_ _|refine wG ?_|refine wD ?_ _));exact BK135.out⟩;have n1_:wA (Below w.heap.size w (((w33.setCell ⟨gb135,0,none⟩ (.int .i64 ((rd_T26 l0 x57_3).f0))).setCell ⟨gb135,1,none⟩ (.int .i64 ((rd_T26 l0 x57_3).f1))).setCell ⟨gb135,2,none⟩ (.slice A134_2 ((rd_T26 l0 x57_3).f2).length c134_2))):=⟨(have h0_:=GE135;zz6)⟩
             (try clear BK135);(try clear HB);generalize (((w33.setCell ⟨gb135,0,none⟩ (.int .i64 ((rd_T26 l0 x57_3).f0))).setCell ⟨gb135,1,none⟩ (.int .i64 ((rd_T26 l0 x57_3).f1))).setCell ⟨gb135,2,none⟩ (.slice A134_2 ((rd_T26 l0 x57_3).f2).length c134_2)) = w35 at n0_ n1_ ⊢
             have BK135:=n0_;have HB:=n1_;clear n0_ n1_;replace BK135:=wA.mk (wG BK135.out);replace HB:=wA.mk (wS HB.out);refine yP (n:=7) (S:=fun w'=>w'.cell? ⟨gb135,0,none⟩ = some (.int .i64 ((rd_T26 l0 x57_3).f0))∧w'.cell? ⟨gb135,1,none⟩ = some (.int .i64 ((rd_T26 l0 x57_3).f1))∧w'.cell? ⟨gb135,2,none⟩ = some (.slice A134_2 ((rd_T26 l0 x57_3).f2).length c134_2)) (ds:=[]) #[fF,fF,fF,fF,fF,fF,fF] (zz0) rfl rfl ⟨(wH BK135.out 0).trans rfl,(wH BK135.out 1).trans rfl,(wH BK135.out 2).trans rfl⟩ (fun hHeld=>?_)
             generalize w35.drew = w36 at BK135 HB hHeld ⊢
             refine yF (i:=0) (N:=some 61) (v:=?_) (a':=?_) #[tT,fF,fF,fF,fF,fF,fF] rfl rfl (zz0) (fun _ _ _ h=>h) (Or.inl ⟨zz25,?_⟩) ?_ ?_;rotate_left
             ·intro w';go_simp;with_reducible rfl
             rotate_left;·simp only [zzs];rfl
             refine yF (i:=1) (N:=some 62) (v:=?_) (a':=?_) #[tT,tT,fF,fF,fF,fF,fF] rfl rfl (zz0) (fun _ _ _ h=>h) (Or.inl ⟨zz25,?_⟩) ?_ ?_;rotate_left
             ·intro w';go_simp;with_reducible rfl
             rotate_left;·simp only [zzs];rfl
             refine yF (i:=4) (N:=some 65) (v:=?_) (a':=?_) #[tT,tT,fF,fF,tT,fF,fF] rfl rfl (zz0) (fun _ _ _ h=>h) (Or.inl ⟨zz25,?_⟩) ?_ ?_;rotate_left
             ·intro w';go_simp;with_reducible rfl
             rotate_left;·simp only [zzs];rfl
             refine take_ (i:=2) (N:=some 63) (v:=?_) (a':=?_) #[tT,tT,tT,fF,tT,fF,fF] rfl rfl (zz0) (fun _ _ _ h=>h) (Or.inl ⟨zz25,?_⟩) hHeld ?_ ?_;rotate_left
             ·rintro w' ⟨s0,s1,s2⟩
              go_simp
              with_reducible rfl
             rotate_left;·simp only [zzs];rfl
             refine take_ (i:=5) (N:=some 66) (v:=?_) (a':=?_) #[tT,tT,tT,fF,tT,tT,fF] rfl rfl (zz0) (fun _ _ _ h=>h) (Or.inl ⟨zz25,?_⟩) hHeld ?_ ?_;rotate_left
             ·rintro w' ⟨s0,s1,s2⟩
              go_simp
              with_reducible rfl
             rotate_left;·simp only [zzs];rfl
             refine zA (i:=3) (N:=some 64) #[tT,tT,tT,tT,tT,tT,fF] rfl rfl (zz0) (zz26) (fun K hK=>?_);refine yT Tryd.func15 (zz0) rfl #[.slice A2 l2.length c2,.int .i64 ((rd_T26 l0 x57_3).f0)] (zz25) rfl rfl (zz20) ?_
             with_reducible refine (U34.calls k3 _ _ l2 ((rd_T26 l0 x57_3).f0) t136 _ ?side1 ?side2 A31.out).mono ?_
             (case side1=>exact (have h0_:=HR2;zz157));(case side2=>exact HC2.out);rintro e w37 ⟨rfl,hb⟩;refine ⟨_,rfl,?_⟩;replace BK135:=wA.mk (wF (have h0_:=BK135;zz23) hb);replace HB:=wA.mk (wC (have h0_:=GE135;zz6) hb)
             (try clear hb);refine hK.out _ _ ⟨(wH BK135.out 0).trans rfl,(wH BK135.out 1).trans rfl,(wH BK135.out 2).trans rfl⟩ (fun hHeld=>?_);clear hK K;refine yB (a':=?_) ?_ ?_;rotate_left
             ·show Act.put _ (some 64) _ = _;simp only [zzs];rfl
             refine yF (i:=6) (N:=some 67) (v:=?_) (a':=?_) #[tT,tT,tT,tT,tT,tT,tT] rfl rfl (zz0) (fun _ _ _ h=>h) (Or.inl ⟨zz25,?_⟩) ?_ ?_;rotate_left
             ·intro w';go_simp;with_reducible rfl
             rotate_left;·simp only [zzs];rfl
             refine yX (zz0) ?_
             try go_wp2
             go_ret
             exact ⟨zz8,(have h0_:=GE135;zz6)⟩
            ·have c32b0:=qN c32;clear c32;have H':=wA.mk H;clear H;have p134:0≤(x57_3:Int):=qL (zz4);have q134:x57_3 < (l0.length:Int):=qL (zz4);obtain ⟨ad134,A134_2,c134_2,e134,hx134_0,hx134_1,hx134_2,hl134_2,hi134_2⟩:=at_T26 HR0.out x57_3 p134 q134
             cases e134
             replace hx134_0:=(HB.out.cell (qK w _ hx134_0)).trans hx134_0;replace hx134_1:=(HB.out.cell (qK w _ hx134_1)).trans hx134_1;replace hx134_2:=(HB.out.cell (qK w _ hx134_2)).trans hx134_2;have HR134_2:=wA.mk hi134_2;have HC134_2:=wA.mk hl134_2;clear hi134_2 hl134_2;replace p134:=eq_true p134;replace q134:=eq_true q134
             try go_wp2_with (first|((with_reducible refine wL (N:=13) rfl ?_);refine wM ?hg (N:=13) ?hd (cs:=#[.int .i64 0,.int .i64 0,.slice none 0 0]) (t:=26) ?hr ?_;(case hd=>rfl);(case hg=>rfl);(case hr=>exact zz156);intro gb135 hg w38 hbox hb;have BK135:=wA.mk (hbox);have GW135:=wA.mk ((by rw [hg];exact (wB (zz3)):w.heap.size≤gb135));have GE135:=wA.mk ((by rw [hg];exact (wB (zz3)):w.heap.size≤gb135));replace HB:=wA.mk (wC (zz3) hb);clear hb hbox hg;obtain ⟨hcz39_0,hcz39_1,hcz39_2,hfz39_0,hfz39_1,hfz39_2⟩:=zc3 BK135.out))
             have n0_:wA ((((w38.setCell ⟨gb135,0,none⟩ (.int .i64 ((rd_T26 l0 x57_3).f0))).setCell ⟨gb135,1,none⟩ (.int .i64 ((rd_T26 l0 x57_3).f1))).setCell ⟨gb135,2,none⟩ (.slice A134_2 ((rd_T26 l0 x57_3).f2).length c134_2)).heap[gb135]? = some (.cells #[.int .i64 ((rd_T26 l0 x57_3).f0),.int .i64 ((rd_T26 l0 x57_3).f1),.slice A134_2 ((rd_T26 l0 x57_3).f2).length c134_2] 26 (0,0))):=⟨by (with_reducible repeat (first|refine wE ?_ _|refine wG ?_|refine wD ?_ _));refine wP (cs:=#[.int .i64 ((rd_T26 l0 x57_3).f0),.int .i64 ((rd_T26 l0 x57_3).f1),.slice none 0 0]) ?_ 2 _ rfl;(with_reducible repeat (first|refine wE ?_ _|refine wG ?_|refine wD ?_ _));refine wP (cs:=#[.int .i64 ((rd_T26 l0 x57_3).f0),.int .i64 0,.slice none 0 0]) ?_ 1 _ rfl;(with_reducible repeat (first|refine wE ?_ _|refine wG ?_|refine wD ?_ _));refine wP (cs:=#[.int .i64 0,.int .i64 0,.slice none 0 0]) ?_ 0 _ rfl;(with_reducible repeat (first|refine wE ?_ _|refine wG ?_|refine wD ?_ _));exact BK135.out⟩;have n1_:wA (Below w.heap.size w (((w38.setCell ⟨gb135,0,none⟩ (.int .i64 ((rd_T26 l0 x57_3).f0))).setCell ⟨gb135,1,none⟩ (.int .i64 ((rd_T26 l0 x57_3).f1))).setCell ⟨gb135,2,none⟩ (.slice A134_2 ((rd_T26 l0 x57_3).f2).length c134_2))):=⟨(have h0_:=GE135;zz6)⟩
             (try clear BK135);(try clear HB);generalize (((w38.setCell ⟨gb135,0,none⟩ (.int .i64 ((rd_T26 l0 x57_3).f0))).setCell ⟨gb135,1,none⟩ (.int .i64 ((rd_T26 l0 x57_3).f1))).setCell ⟨gb135,2,none⟩ (.slice A134_2 ((rd_T26 l0 x57_3).f2).length c134_2)) = w40 at n0_ n1_ ⊢
             have BK135:=n0_;have HB:=n1_;clear n0_ n1_;replace BK135:=wA.mk (wG BK135.out);replace HB:=wA.mk (wS HB.out);refine yP (n:=7) (S:=fun w'=>w'.cell? ⟨gb135,0,none⟩ = some (.int .i64 ((rd_T26 l0 x57_3).f0))∧w'.cell? ⟨gb135,1,none⟩ = some (.int .i64 ((rd_T26 l0 x57_3).f1))∧w'.cell? ⟨gb135,2,none⟩ = some (.slice A134_2 ((rd_T26 l0 x57_3).f2).length c134_2)) (ds:=[]) #[fF,fF,fF,fF,fF,fF,fF] (zz0) rfl rfl ⟨(wH BK135.out 0).trans rfl,(wH BK135.out 1).trans rfl,(wH BK135.out 2).trans rfl⟩ (fun hHeld=>?_)
             generalize w40.drew = w41 at BK135 HB hHeld ⊢
             refine yF (i:=0) (N:=some 61) (v:=?_) (a':=?_) #[tT,fF,fF,fF,fF,fF,fF] rfl rfl (zz0) (fun _ _ _ h=>h) (Or.inl ⟨zz25,?_⟩) ?_ ?_;rotate_left
             ·intro w';go_simp;with_reducible rfl
             rotate_left;·simp only [zzs];rfl
             refine yF (i:=1) (N:=some 62) (v:=?_) (a':=?_) #[tT,tT,fF,fF,fF,fF,fF] rfl rfl (zz0) (fun _ _ _ h=>h) (Or.inl ⟨zz25,?_⟩) ?_ ?_;rotate_left
             ·intro w';go_simp;with_reducible rfl
             rotate_left;·simp only [zzs];rfl
             refine yF (i:=4) (N:=some 65) (v:=?_) (a':=?_) #[tT,tT,fF,fF,tT,fF,fF] rfl rfl (zz0) (fun _ _ _ h=>h) (Or.inl ⟨zz25,?_⟩) ?_ ?_;rotate_left
             ·intro w';go_simp;with_reducible rfl
             rotate_left;·simp only [zzs];rfl
             refine take_ (i:=2) (N:=some 63) (v:=?_) (a':=?_) #[tT,tT,tT,fF,tT,fF,fF] rfl rfl (zz0) (fun _ _ _ h=>h) (Or.inl ⟨zz25,?_⟩) hHeld ?_ ?_;rotate_left
             ·rintro w' ⟨s0,s1,s2⟩
              go_simp
              with_reducible rfl
             rotate_left;·simp only [zzs];rfl
             refine take_ (i:=5) (N:=some 66) (v:=?_) (a':=?_) #[tT,tT,tT,fF,tT,tT,fF] rfl rfl (zz0) (fun _ _ _ h=>h) (Or.inl ⟨zz25,?_⟩) hHeld ?_ ?_;rotate_left
             ·rintro w' ⟨s0,s1,s2⟩
              go_simp
              with_reducible rfl
             rotate_left;·simp only [zzs];rfl
             refine zA (i:=3) (N:=some 64) #[tT,tT,tT,tT,tT,tT,fF] rfl rfl (zz0) (zz26) (fun K hK=>?_);refine yT Tryd.func15 (zz0) rfl #[.slice A2 l2.length c2,.int .i64 ((rd_T26 l0 x57_3).f0)] (zz25) rfl rfl (zz20) ?_
             with_reducible refine (U34.calls k3 _ _ l2 ((rd_T26 l0 x57_3).f0) t136 _ ?side1 ?side2 A31.out).mono ?_
             (case side1=>exact (have h0_:=HR2;zz157));(case side2=>exact HC2.out);rintro e w42 ⟨rfl,hb⟩;refine ⟨_,rfl,?_⟩;replace BK135:=wA.mk (wF (have h0_:=BK135;zz23) hb);replace HB:=wA.mk (wC (have h0_:=GE135;zz6) hb)
             (try clear hb);refine hK.out _ _ ⟨(wH BK135.out 0).trans rfl,(wH BK135.out 1).trans rfl,(wH BK135.out 2).trans rfl⟩ (fun hHeld=>?_);clear hK K;refine yB (a':=?_) ?_ ?_;rotate_left
             ·show Act.put _ (some 64) _ = _;simp only [zzs];rfl
             refine yF (i:=6) (N:=some 67) (v:=?_) (a':=?_) #[tT,tT,tT,tT,tT,tT,tT] rfl rfl (zz0) (fun _ _ _ h=>h) (Or.inl ⟨zz25,?_⟩) ?_ ?_;rotate_left
             ·intro w';go_simp;with_reducible rfl
             rotate_left;·simp only [zzs];rfl
             refine yX (zz0) ?_
             try go_wp2
             go_roundg k3
             case measure=>have:=HK1.out;have:=HK2.out;have:=HK3.out;omega
             case rel=>exact ⟨(wrap64 (x57_3+1)),(zz2),H',⟨by have:=HK1.out;have:=HK2.out;have:=HK3.out;omega⟩,⟨(have h0_:=GE135;zz6)⟩⟩
           ·have c28b0:=qN c28;clear c28;obtain rfl:=Option.some.inj H
            go_wp2
            go_ret
            exact ⟨zz8,zz3⟩
  ·have c6b0:=beq_eq_false_iff_ne.mpr c6;have c6b1:=bne_iff_ne.mpr c6;obtain rfl:=Option.some.inj H;go_enter Tryd.func11,Tryd.ntmps11
   go_wp2_with (first|((with_reducible refine wI (f:=32) rfl ?_);refine wR (some 16) rfl rfl Tryd.func32 (zz0) rfl #[.slice A0 l0.length c0,.slice A1 l1.length c1] rfl (zz20) ?_;(with_reducible refine (U41.calls k _ _ l0 _ _ l1 t129 _ ?_ ?_ ?_ ?_ A4.out).mono ?_);exact zz158;exact HC0.out;exact zz161;exact HC1.out;rintro e w43 ⟨rfl,hb⟩;refine ⟨_,rfl,?_⟩;replace HB:=wA.mk (wC (zz3) hb);(try clear hb)))
   go_ret
   exact ⟨zz8,zz3⟩
 ·have c5b0:=beq_eq_false_iff_ne.mpr c5;have c5b1:=bne_iff_ne.mpr c5;obtain rfl:=Option.some.inj H;go_enter Tryd.func11,Tryd.ntmps11
  go_wp2_with (first|((with_reducible refine wI (f:=32) rfl ?_);refine wR (some 16) rfl rfl Tryd.func32 (zz0) rfl #[.slice A0 l0.length c0,.slice A1 l1.length c1] rfl (zz20) ?_;(with_reducible refine (U41.calls k _ _ l0 _ _ l1 t129 _ ?_ ?_ ?_ ?_ A4.out).mono ?_);exact zz158;exact HC0.out;exact zz161;exact HC1.out;rintro e w44 ⟨rfl,hb⟩;refine ⟨_,rfl,?_⟩;replace HB:=wA.mk (wC (zz3) hb);(try clear hb)))
  go_ret
  exact ⟨zz8,zz3⟩
end Go.Proofs.YtnimkmkapajnhaaDoor.QA
