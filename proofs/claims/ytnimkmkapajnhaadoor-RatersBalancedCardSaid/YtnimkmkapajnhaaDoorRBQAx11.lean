import Derived.Test.YtnimkmkapajnhaaDoorRBQAx0
import Derived.Test.YtnimkmkapajnhaaDoorRBQAx5
namespace Go.Proofs.YtnimkmkapajnhaaDoor.QA
open Go.RowKit Go.Proofs.YtnimkmkapajnhaaDoorW.PrintWords Go.Proofs.YtnimkmkapajnhaaDoorW.PrintLast Go.Proofs.YtnimkmkapajnhaaDoorW.PrintMore
attribute [local go_sem] yE yA yI yJ wY wX yC yD
set_option linter.unusedVariables false
set_option linter.unusedSimpArgs false
mutual
def U42.l0:Nat→List (S26)→List Int→Int→Int→Int→List Int→Int→Int→Option (Int)
 | 0,_,_,_,_,_,_,_,_=>none
 | k+1,x0,x2,x3,x4,x11,x14,x15,x16=>if x16 < x15 then (if 0≤x16 then (if x16 < (x14.length:Int) then (if (rd x14 x16) = x4 then (U42.j1 k x0 x2 x3 x4 x11 (rd x14 x16) x14 x15 x16 true) else (if 0≤(rd x14 x16) then (if (rd x14 x16) < (x0.length:Int) then ((U35.f k ((rd_T26 x0 (rd x14 x16)).f0) ((rd_T26 x0 (rd x14 x16)).f1) ((rd_T26 x0 (rd x14 x16)).f2) x3).bind fun t171=>(if t171 = true then (if (rd x14 x16) < (x2.length:Int) then (U42.j1 k x0 x2 x3 x4 x11 (rd x14 x16) x14 x15 x16 (decide ((rd x2 (rd x14 x16))≥((rd_T26 x0 (rd x14 x16)).f1)))) else (none)) else (U42.j1 k x0 x2 x3 x4 x11 (rd x14 x16) x14 x15 x16 true))) else (none)) else (none))) else (none)) else (none)) else (some x11)
def U42.j1:Nat→List (S26)→List Int→Int→Int→Int→Int→List Int→Int→Int→Bool→Option (Int)
 | 0,_,_,_,_,_,_,_,_,_,_=>none
 | k+1,x0,x2,x3,x4,x11,x13,x14,x15,x16,x43=>if x43 = true then (U42.l0 k x0 x2 x3 x4 x11 x14 x15 (wrap64 (x16+1))) else (if x11 < 0 then (U42.l0 k x0 x2 x3 x4 x13 x14 x15 (wrap64 (x16+1))) else (if 0≤x13 then (if x13 < (x2.length:Int) then (if 0≤x11 then (if x11 < (x2.length:Int) then (if (rd x2 x13) < (rd x2 x11) then (U42.l0 k x0 x2 x3 x4 x13 x14 x15 (wrap64 (x16+1))) else (U42.l0 k x0 x2 x3 x4 x11 x14 x15 (wrap64 (x16+1)))) else (none)) else (none)) else (none)) else (none)))
end
def U42.f (k:Nat) (l0:List (S26)) (l1:List Int) (l2:List Int) (a3:Int) (a4:Int):Option (Int):=U42.l0 k l0 l2 a3 a4 (-1) l1 (l1.length:Int) 0
theorem zm8_0 {P:Prop} (h:P:=by repeat' first|(with_reducible first|exact ih0 ..|exact ih1 ..|exact U35.mono ..|exact LeO.refl _|exact LeO.none _|refine LeO.ite ?_ ?_|refine LeO.bind ?_ (fun _=>?_))|exact ih0 ..|exact ih1 ..|exact U35.mono ..|exact LeO.none _|refine LeO.ite ?_ ?_|refine LeO.bind ?_ (fun _=>?_)):P:=h
theorem U42.mono_l:∀ k,(∀ y0 y1 y2 y3 y4 y5 y6 y7,LeO (U42.l0 k y0 y1 y2 y3 y4 y5 y6 y7) (U42.l0 (k+1) y0 y1 y2 y3 y4 y5 y6 y7))∧(∀ y0 y1 y2 y3 y4 y5 y6 y7 y8 y9,LeO (U42.j1 k y0 y1 y2 y3 y4 y5 y6 y7 y8 y9) (U42.j1 (k+1) y0 y1 y2 y3 y4 y5 y6 y7 y8 y9))
 | 0=>⟨fun _ _ _ _ _ _ _ _ r h=>by simp [U42.l0] at h,fun _ _ _ _ _ _ _ _ _ _ r h=>by simp [U42.j1] at h⟩
 | k+1=>by
  obtain ⟨ih0,ih1⟩:=U42.mono_l k;refine ⟨?_,?_⟩
  ·intro y0 y1 y2 y3 y4 y5 y6 y7;unfold U42.l0
   exact zm8_0
  ·intro y0 y1 y2 y3 y4 y5 y6 y7 y8 y9;unfold U42.j1
   exact zm8_0
theorem U42.mono:∀ a0 a1 a2 a3 a4 k,LeO (U42.f k a0 a1 a2 a3 a4) (U42.f (k+1) a0 a1 a2 a3 a4):=by
 intro a0 a1 a2 a3 a4 k;obtain ⟨ih0,ih1⟩:=U42.mono_l k;unfold U42.f
 exact zm8_0
def U42.T5:Bool × List (List Nat × List Nat):=(true,[([],[]),([],[]),([0,1],[0,1]),([2],[2]),([3],[3]),([3],[3]),([4,5,3],[3,4,5]),([6,3],[3,6]),([3],[3]),([7,8,3,3],[3,7,8]),([9,3],[3,9]),([3,10],[3,10]),([11,9],[11]),([12],[12]),([12],[12]),([13,14,12],[12,13,14]),([15,12],[12,15]),([12],[12]),([12],[12]),([17,18,12],[12,17,18]),([19,12],[12,19]),([20,12],[12,20]),([16,21,12],[12,16,21]),([12,22],[12,22])])
def U42.B5:List Nat:=[0,0,3,7,15,15,63,127,15,511,1023,2047,4095,8191,8191,32767,65535,8191,8191,401407,925695,1974271,4194303,8388607]
theorem U42.tab5:zH .any (zU Tryd.f39 5) = U42.T5:=zz0
theorem U42.bits5:yY U42.T5.2 U42.B5 = true:=zz0
def U42.T6:Bool × List (List Nat × List Nat):=(true,[([],[]),([0],[0]),([1],[1]),([2],[2]),([2],[2]),([3,4,2],[2,3,4]),([5,2],[2,5]),([2],[2]),([2],[2]),([7,8,2],[2,7,8]),([9,2],[2,9]),([6,10,2],[2,6,10]),([2,11],[2,11])])
def U42.B6:List Nat:=[0,1,3,7,7,31,63,7,7,391,903,2047,4095]
theorem U42.tab6:zH .any (zU Tryd.f39 6) = U42.T6:=zz0
theorem U42.bits6:yY U42.T6.2 U42.B6 = true:=zz0
set_option maxHeartbeats 8000000 in
set_option maxRecDepth 100000 in
theorem U42.calls (k:Nat) (A0:Option Addr) (c0:Nat) (l0:List (S26)) (A1:Option Addr) (c1:Nat) (l1:List Int) (A2:Option Addr) (c2:Nat) (l2:List Int) (a3:Int) (a4:Int) (r:Int) (w:World) (hr0:Kd.C k26 w A0 l0.length l0) (hc0:l0.length≤c0) (hr1:Kd.C (Kd.int .i64) w A1 l1.length l1) (hc1:l1.length≤c1) (hr2:Kd.C (Kd.int .i64) w A2 l2.length l2) (hc2:l2.length≤c2) (h:U42.f k l0 l1 l2 a3 a4 = some r) :
  Calls Tryd.prog 39 #[.slice A0 l0.length c0,.slice A1 l1.length c1,.slice A2 l2.length c2,.int .i64 a3,.int .i64 a4] w fun e w'=>e = .returned (.int .i64 r)∧Below w.heap.size w w':=by
 have hu26:=Tryd.underlying26;have HR0:=wA.mk hr0;have HC0:=wA.mk hc0;clear hr0 hc0;have HR1:=wA.mk hr1;have HC1:=wA.mk hc1;clear hr1 hc1;have HR2:=wA.mk hr2;have HC2:=wA.mk hc2;clear hr2 hc2;have HB:=wA.mk (Below.refl w.heap.size w);have H:(U42.l0 k l0 l2 a3 a4 (-1) l1 (l1.length:Int) 0) = some r:=h;clear h;have H':=wA.mk H;clear H;go_enter Tryd.func39,Tryd.ntmps39
 go_wp2
 go_loopg [11,16] k (fun kq v11 v16 w'=>∃ (x11_1:Int) (x16_1:Int),v11 = .int .i64 x11_1∧v16 = .int .i64 x16_1∧wA (U42.l0 kq l0 l2 a3 a4 x11_1 l1 (l1.length:Int) x16_1 = some r)∧wA (kq≤k)∧wA (Below w.heap.size w w'))
 case atStart=>exact ⟨((-1)),(0),(zz2),(zz2),H',⟨Nat.le_refl _⟩,⟨zz3⟩⟩
 case round =>
  clear H'
  (try clear c1);(try clear c2);obtain ⟨x11_1,x16_1,rfl,rfl,HA,HK1,HB⟩:=hrel
  cases gk with
  | zero=>exact absurd HA.out (by simp [U42.l0])
  | succ k1 =>
   have H:=HA.out;clear HA;simp only [U42.l0] at H;replace H:=zzj H;rcases H with ⟨c6,H⟩|⟨c6,H⟩
   ·have c6b0:=qM c6;clear c6;replace H:=zzi H;obtain ⟨c7,H⟩:=H;have c7b0:=qM c7;clear c7;replace H:=zzi H;obtain ⟨c8,H⟩:=H;have c8b0:=qM c8;clear c8;have HC9:=wA.mk H;clear H;have p169:0≤(x16_1:Int):=qL (zz4);have q169:x16_1 < (l1.length:Int):=qL (zz4);obtain ⟨ad169,e169,hx169_0⟩:=Kd.at_int HR1.out x16_1 p169 q169
    cases e169
    replace hx169_0:=(HB.out.cell (qK w _ hx169_0)).trans hx169_0;replace p169:=eq_true p169;replace q169:=eq_true q169
    go_upto_region 5 with (fail)
    go_cut [43] (fun v43 wc=>∃ (kq:Nat) (x43_8:Bool),v43 = .bool x43_8∧wA (U42.j1 kq l0 l2 a3 a4 x11_1 (rd l1 x16_1) l1 (l1.length:Int) x16_1 x43_8 = some r)∧wA (kq≤k1)∧wA (Below w.heap.size w wc))
    case first =>
     have H:=HC9.out;clear HC9;replace H:=zzj H;rcases H with ⟨c10,H⟩|⟨c10,H⟩
     ·have c10b0:=beq_iff_eq.mpr c10;have c10b1:=bne_eq_false_iff_eq.mpr c10;clear c10
      (first|rw [c10b0]|rw [c10b1]|(simp only [yS,zF];rw [c10b0])|skip);have H':=wA.mk H;clear H
      try go_wp2
      replace HB:=wA.mk (wS HB.out);refine yP (n:=24) (S:=fun w'=>True) (ds:=[]) #[fF,fF,fF,fF,fF,fF,fF,fF,fF,fF,fF,fF,fF,fF,fF,fF,fF,fF,fF,fF,fF,fF,fF,fF] (zz0) rfl rfl trivial (fun hHeld=>?_);refine yG U42.tab5 U42.bits5 (fun HT_ HW_=>?_)
      generalize wr.drew = w11 at HB hHeld ⊢
      refine zzp 0 20 ?_ #[tT,fF,fF,fF,fF,fF,fF,fF,fF,fF,fF,fF,fF,fF,fF,fF,fF,fF,fF,fF,fF,fF,fF,fF] rfl rfl (wJ HT_.out (zz0)) (fun _ _ _ h=>h) (Or.inl ⟨zz25,?_⟩) ?_ ?_ ?_;rotate_left
      ·intro w';go_simp;with_reducible rfl
      rotate_left;·simp only [zzs];rfl
      refine zzp 1 21 ?_ #[tT,tT,fF,fF,fF,fF,fF,fF,fF,fF,fF,fF,fF,fF,fF,fF,fF,fF,fF,fF,fF,fF,fF,fF] rfl rfl (wJ HT_.out (zz0)) (fun _ _ _ h=>h) (Or.inl ⟨zz25,?_⟩) ?_ ?_ ?_;rotate_left
      ·intro w';go_simp;with_reducible rfl
      rotate_left;·simp only [zzs];rfl
      refine zzp 2 22 ?_ #[tT,tT,tT,fF,fF,fF,fF,fF,fF,fF,fF,fF,fF,fF,fF,fF,fF,fF,fF,fF,fF,fF,fF,fF] rfl rfl (wJ HT_.out (zz0)) (fun _ _ _ h=>h) (Or.inl ⟨zz25,?_⟩) ?_ ?_ ?_;rotate_left
      ·intro w';go_simp;with_reducible rfl
      rotate_left;·simp only [zzs];rfl
      refine zzp 3 23 ?_ #[tT,tT,tT,tT,fF,fF,fF,fF,fF,fF,fF,fF,fF,fF,fF,fF,fF,fF,fF,fF,fF,fF,fF,fF] rfl rfl (wJ HT_.out (zz0)) (fun _ _ _ h=>h) (Or.inl ⟨zz25,?_⟩) ?_ ?_ ?_;rotate_left
      ·intro w';go_simp;with_reducible rfl
      rotate_left;·simp only [zzs];rfl
      refine yF (i:=4) (N:=some 24) (v:=undef) (a':=?_) #[tT,tT,tT,tT,tT,fF,fF,fF,fF,fF,fF,fF,fF,fF,fF,fF,fF,fF,fF,fF,fF,fF,fF,fF] rfl rfl (wJ HT_.out (zz0)) (fun _ _ _ h=>h) (Or.inr ⟨zz25,rfl⟩) ?_ ?_;rotate_left
      ·simp only [zzs];rfl
      refine yF (i:=5) (N:=some 25) (v:=undef) (a':=?_) #[tT,tT,tT,tT,tT,tT,fF,fF,fF,fF,fF,fF,fF,fF,fF,fF,fF,fF,fF,fF,fF,fF,fF,fF] rfl rfl (wJ HT_.out (zz0)) (fun _ _ _ h=>h) (Or.inr ⟨zz25,rfl⟩) ?_ ?_;rotate_left
      ·simp only [zzs];rfl
      refine yF (i:=6) (N:=some 26) (v:=undef) (a':=?_) #[tT,tT,tT,tT,tT,tT,tT,fF,fF,fF,fF,fF,fF,fF,fF,fF,fF,fF,fF,fF,fF,fF,fF,fF] rfl rfl (wJ HT_.out (zz0)) (fun _ _ _ h=>h) (Or.inr ⟨zz25,rfl⟩) ?_ ?_;rotate_left
      ·simp only [zzs];rfl
      refine yF (i:=7) (N:=some 27) (v:=undef) (a':=?_) #[tT,tT,tT,tT,tT,tT,tT,tT,fF,fF,fF,fF,fF,fF,fF,fF,fF,fF,fF,fF,fF,fF,fF,fF] rfl rfl (wJ HT_.out (zz0)) (fun _ _ _ h=>h) (Or.inr ⟨zz25,rfl⟩) ?_ ?_;rotate_left
      ·simp only [zzs];rfl
      refine yF (i:=8) (N:=some 28) (v:=undef) (a':=?_) #[tT,tT,tT,tT,tT,tT,tT,tT,tT,fF,fF,fF,fF,fF,fF,fF,fF,fF,fF,fF,fF,fF,fF,fF] rfl rfl (wJ HT_.out (zz0)) (fun _ _ _ h=>h) (Or.inr ⟨zz25,rfl⟩) ?_ ?_;rotate_left
      ·simp only [zzs];rfl
      refine yF (i:=9) (N:=some 29) (v:=undef) (a':=?_) #[tT,tT,tT,tT,tT,tT,tT,tT,tT,tT,fF,fF,fF,fF,fF,fF,fF,fF,fF,fF,fF,fF,fF,fF] rfl rfl (wJ HT_.out (zz0)) (fun _ _ _ h=>h) (Or.inr ⟨zz25,rfl⟩) ?_ ?_;rotate_left
      ·simp only [zzs];rfl
      refine yF (i:=10) (N:=some 30) (v:=undef) (a':=?_) #[tT,tT,tT,tT,tT,tT,tT,tT,tT,tT,tT,fF,fF,fF,fF,fF,fF,fF,fF,fF,fF,fF,fF,fF] rfl rfl (wJ HT_.out (zz0)) (fun _ _ _ h=>h) (Or.inr ⟨zz25,rfl⟩) ?_ ?_;rotate_left
      ·simp only [zzs];rfl
      refine zzp 11 31 ?_ #[tT,tT,tT,tT,tT,tT,tT,tT,tT,tT,tT,tT,fF,fF,fF,fF,fF,fF,fF,fF,fF,fF,fF,fF] rfl rfl (wJ HT_.out (zz0)) (fun _ _ _ h=>h) (Or.inl ⟨zz25,?_⟩) ?_ ?_ ?_;rotate_left
      ·intro w';go_simp;with_reducible rfl
      rotate_left;·simp only [zzs];rfl
      refine zzp 12 32 ?_ #[tT,tT,tT,tT,tT,tT,tT,tT,tT,tT,tT,tT,tT,fF,fF,fF,fF,fF,fF,fF,fF,fF,fF,fF] rfl rfl (wJ HT_.out (zz0)) (fun _ _ _ h=>h) (Or.inl ⟨zz25,?_⟩) ?_ ?_ ?_;rotate_left
      ·intro w';go_simp;with_reducible rfl
      rotate_left;·simp only [zzs];rfl
      refine yF (i:=13) (N:=some 33) (v:=undef) (a':=?_) #[tT,tT,tT,tT,tT,tT,tT,tT,tT,tT,tT,tT,tT,tT,fF,fF,fF,fF,fF,fF,fF,fF,fF,fF] rfl rfl (wJ HT_.out (zz0)) (fun _ _ _ h=>h) (Or.inr ⟨zz25,rfl⟩) ?_ ?_;rotate_left
      ·simp only [zzs];rfl
      refine yF (i:=14) (N:=some 34) (v:=undef) (a':=?_) #[tT,tT,tT,tT,tT,tT,tT,tT,tT,tT,tT,tT,tT,tT,tT,fF,fF,fF,fF,fF,fF,fF,fF,fF] rfl rfl (wJ HT_.out (zz0)) (fun _ _ _ h=>h) (Or.inr ⟨zz25,rfl⟩) ?_ ?_;rotate_left
      ·simp only [zzs];rfl
      refine yF (i:=15) (N:=some 35) (v:=undef) (a':=?_) #[tT,tT,tT,tT,tT,tT,tT,tT,tT,tT,tT,tT,tT,tT,tT,tT,fF,fF,fF,fF,fF,fF,fF,fF] rfl rfl (wJ HT_.out (zz0)) (fun _ _ _ h=>h) (Or.inr ⟨zz25,rfl⟩) ?_ ?_;rotate_left
      ·simp only [zzs];rfl
      refine yF (i:=16) (N:=some 36) (v:=undef) (a':=?_) #[tT,tT,tT,tT,tT,tT,tT,tT,tT,tT,tT,tT,tT,tT,tT,tT,tT,fF,fF,fF,fF,fF,fF,fF] rfl rfl (wJ HT_.out (zz0)) (fun _ _ _ h=>h) (Or.inr ⟨zz25,rfl⟩) ?_ ?_;rotate_left
      ·simp only [zzs];rfl
      refine yF (i:=17) (N:=some 37) (v:=undef) (a':=?_) #[tT,tT,tT,tT,tT,tT,tT,tT,tT,tT,tT,tT,tT,tT,tT,tT,tT,tT,fF,fF,fF,fF,fF,fF] rfl rfl (wJ HT_.out (zz0)) (fun _ _ _ h=>h) (Or.inr ⟨zz25,rfl⟩) ?_ ?_;rotate_left
      ·simp only [zzs];rfl
      refine yF (i:=18) (N:=some 38) (v:=undef) (a':=?_) #[tT,tT,tT,tT,tT,tT,tT,tT,tT,tT,tT,tT,tT,tT,tT,tT,tT,tT,tT,fF,fF,fF,fF,fF] rfl rfl (wJ HT_.out (zz0)) (fun _ _ _ h=>h) (Or.inr ⟨zz25,rfl⟩) ?_ ?_;rotate_left
      ·simp only [zzs];rfl
      refine yF (i:=19) (N:=some 39) (v:=undef) (a':=?_) #[tT,tT,tT,tT,tT,tT,tT,tT,tT,tT,tT,tT,tT,tT,tT,tT,tT,tT,tT,tT,fF,fF,fF,fF] rfl rfl (wJ HT_.out (zz0)) (fun _ _ _ h=>h) (Or.inr ⟨zz25,rfl⟩) ?_ ?_;rotate_left
      ·simp only [zzs];rfl
      refine yF (i:=20) (N:=some 40) (v:=undef) (a':=?_) #[tT,tT,tT,tT,tT,tT,tT,tT,tT,tT,tT,tT,tT,tT,tT,tT,tT,tT,tT,tT,tT,fF,fF,fF] rfl rfl (wJ HT_.out (zz0)) (fun _ _ _ h=>h) (Or.inr ⟨zz25,rfl⟩) ?_ ?_;rotate_left
      ·simp only [zzs];rfl
      refine yF (i:=21) (N:=some 41) (v:=undef) (a':=?_) #[tT,tT,tT,tT,tT,tT,tT,tT,tT,tT,tT,tT,tT,tT,tT,tT,tT,tT,tT,tT,tT,tT,fF,fF] rfl rfl (wJ HT_.out (zz0)) (fun _ _ _ h=>h) (Or.inr ⟨zz25,rfl⟩) ?_ ?_;rotate_left
      ·simp only [zzs];rfl
      refine yF (i:=22) (N:=some 42) (v:=undef) (a':=?_) #[tT,tT,tT,tT,tT,tT,tT,tT,tT,tT,tT,tT,tT,tT,tT,tT,tT,tT,tT,tT,tT,tT,tT,fF] rfl rfl (wJ HT_.out (zz0)) (fun _ _ _ h=>h) (Or.inr ⟨zz25,rfl⟩) ?_ ?_;rotate_left
      ·simp only [zzs];rfl
      refine zzp 23 43 ?_ #[tT,tT,tT,tT,tT,tT,tT,tT,tT,tT,tT,tT,tT,tT,tT,tT,tT,tT,tT,tT,tT,tT,tT,tT] rfl rfl (wJ HT_.out (zz0)) (fun _ _ _ h=>h) (Or.inl ⟨zz25,?_⟩) ?_ ?_ ?_;rotate_left
      ·intro w';go_simp;with_reducible rfl
      rotate_left;·simp only [zzs];rfl
      refine yX (yQ HT_.out (zz0)) ?_
      try go_wp2
      go_meet
      case rel=>exact ⟨_,(true),(zz2),H',⟨by have:=HK1.out;first|omega|exact Nat.le_refl _⟩,⟨zz3⟩⟩
     ·have c10b0:=beq_eq_false_iff_ne.mpr c10;have c10b1:=bne_iff_ne.mpr c10
      (first|rw [c10b0]|rw [c10b1]|(simp only [yS,zF];rw [c10b0])|skip);replace H:=zzi H;obtain ⟨c12,H⟩:=H;have c12b0:=qM c12;clear c12;replace H:=zzi H;obtain ⟨c13,H⟩:=H;have c13b0:=qM c13;clear c13;replace H:=zzb H;obtain ⟨t171,A14,H⟩:=H;by_cases c15:t171 = true
      ·subst c15;have H1:(if (rd l1 x16_1) < (l2.length:Int) then (U42.j1 k1 l0 l2 a3 a4 x11_1 (rd l1 x16_1) l1 (l1.length:Int) x16_1 (decide ((rd l2 (rd l1 x16_1))≥((rd_T26 l0 (rd l1 x16_1)).f1)))) else (none)) = some r:=zz18;clear H;have H:=H1;clear H1;replace H:=zzi H;obtain ⟨c16,H⟩:=H;have c16b0:=qM c16;clear c16;have H':=wA.mk H;clear H
       try go_wp2
       replace HB:=wA.mk (wS HB.out);have p170:0≤((rd l1 x16_1):Int):=qL (zz4);have q170:(rd l1 x16_1) < (l0.length:Int):=qL (zz4);obtain ⟨ad170,A170_2,c170_2,e170,hx170_0,hx170_1,hx170_2,hl170_2,hi170_2⟩:=at_T26 HR0.out (rd l1 x16_1) p170 q170;have hw170_2:=hx170_2;have hw170_1:=hx170_1;have hw170_0:=hx170_0
       cases e170
       replace hx170_0:=(HB.out.cell (qK w _ hx170_0)).trans hx170_0;replace hx170_1:=(HB.out.cell (qK w _ hx170_1)).trans hx170_1;replace hx170_2:=(HB.out.cell (qK w _ hx170_2)).trans hx170_2;have HR170_2:=wA.mk hi170_2;have HC170_2:=wA.mk hl170_2;clear hi170_2 hl170_2;replace p170:=eq_true p170;replace q170:=eq_true q170;have p172:0≤((rd l1 x16_1):Int):=qL (zz4);have q172:(rd l1 x16_1) < (l2.length:Int):=qL (zz4);obtain ⟨ad172,e172,hx172_0⟩:=Kd.at_int HR2.out (rd l1 x16_1) p172 q172;have hw172_0:=hx172_0
       cases e172
       replace hx172_0:=(HB.out.cell (qK w _ hx172_0)).trans hx172_0;replace p172:=eq_true p172;replace q172:=eq_true q172;have p173:0≤((rd l1 x16_1):Int):=qL (zz4);have q173:(rd l1 x16_1) < (l0.length:Int):=qL (zz4);obtain ⟨ad173,A173_2,c173_2,e173,hx173_0,hx173_1,hx173_2,hl173_2,hi173_2⟩:=at_T26 HR0.out (rd l1 x16_1) p173 q173;have hw173_2:=hx173_2;have hw173_1:=hx173_1;have hw173_0:=hx173_0;obtain rfl:ad170 = ad173:=(by injection e173);replace hx173_0:=(HB.out.cell (qK w _ hx173_0)).trans hx173_0;replace hx173_1:=(HB.out.cell (qK w _ hx173_1)).trans hx173_1;replace hx173_2:=(HB.out.cell (qK w _ hx173_2)).trans hx173_2;have HR173_2:=wA.mk hi173_2;have HC173_2:=wA.mk hl173_2;clear hi173_2 hl173_2;replace p173:=eq_true p173;replace q173:=eq_true q173
       (try (have ea_:=Option.some.inj (hx173_2.symm.trans (by first|exact HS0_|exact HS1_|exact HS2_|exact HS3_|exact HS4_|exact HS5_));injection ea_ with ea_ en_ ec_;subst ea_;subst ec_;clear en_));refine yP (n:=24) (S:=fun w'=>w'.cell? (ad170.add (((rd l1 x16_1)).toNat * 3)) = some (.int .i64 ((rd_T26 l0 (rd l1 x16_1)).f0))∧w'.cell? ⟨(ad170.add (((rd l1 x16_1)).toNat * 3)).block,(ad170.add (((rd l1 x16_1)).toNat * 3)).off+1,none⟩ = some (.int .i64 ((rd_T26 l0 (rd l1 x16_1)).f1))∧w'.cell? ⟨(ad170.add (((rd l1 x16_1)).toNat * 3)).block,(ad170.add (((rd l1 x16_1)).toNat * 3)).off+2,none⟩ = some (.slice A170_2 ((rd_T26 l0 (rd l1 x16_1)).f2).length c170_2)∧w'.cell? (ad172.add ((rd l1 x16_1)).toNat) = some (.int .i64 (rd l2 (rd l1 x16_1)))∧w'.cell? (ad170.add (((rd l1 x16_1)).toNat * 3)) = some (.int .i64 ((rd_T26 l0 (rd l1 x16_1)).f0))∧w'.cell? ⟨(ad170.add (((rd l1 x16_1)).toNat * 3)).block,(ad170.add (((rd l1 x16_1)).toNat * 3)).off+1,none⟩ = some (.int .i64 ((rd_T26 l0 (rd l1 x16_1)).f1))∧w'.cell? ⟨(ad170.add (((rd l1 x16_1)).toNat * 3)).block,(ad170.add (((rd l1 x16_1)).toNat * 3)).off+2,none⟩ = some (.slice A173_2 ((rd_T26 l0 (rd l1 x16_1)).f2).length c173_2)) (ds:=[]) #[fF,fF,fF,fF,fF,fF,fF,fF,fF,fF,fF,fF,fF,fF,fF,fF,fF,fF,fF,fF,fF,fF,fF,fF] (zz0) rfl rfl ⟨((HB.out.cell (qK w _ hw170_0)).trans hw170_0),((HB.out.cell (qK w _ hw170_1)).trans hw170_1),((HB.out.cell (qK w _ hw170_2)).trans hw170_2),((HB.out.cell (qK w _ hw172_0)).trans hw172_0),((HB.out.cell (qK w _ hw173_0)).trans hw173_0),((HB.out.cell (qK w _ hw173_1)).trans hw173_1),((HB.out.cell (qK w _ hw173_2)).trans hw173_2)⟩ (fun hHeld=>?_);refine yG U42.tab5 U42.bits5 (fun HT_ HW_=>?_)
       generalize wr.drew = w17 at HB HR170_2 HR173_2 hx170_0 hx170_1 hx170_2 hx172_0 hx173_0 hx173_1 hx173_2 hHeld ⊢
       refine zzp 0 20 ?_ #[tT,fF,fF,fF,fF,fF,fF,fF,fF,fF,fF,fF,fF,fF,fF,fF,fF,fF,fF,fF,fF,fF,fF,fF] rfl rfl (wJ HT_.out (zz0)) (fun _ _ _ h=>h) (Or.inl ⟨zz25,?_⟩) ?_ ?_ ?_;rotate_left
       ·intro w';go_simp;with_reducible rfl
       rotate_left;·simp only [zzs];rfl
       refine zzp 1 21 ?_ #[tT,tT,fF,fF,fF,fF,fF,fF,fF,fF,fF,fF,fF,fF,fF,fF,fF,fF,fF,fF,fF,fF,fF,fF] rfl rfl (wJ HT_.out (zz0)) (fun _ _ _ h=>h) (Or.inl ⟨zz25,?_⟩) ?_ ?_ ?_;rotate_left
       ·intro w';go_simp;with_reducible rfl
       rotate_left;·simp only [zzs];rfl
       refine zzp 2 22 ?_ #[tT,tT,tT,fF,fF,fF,fF,fF,fF,fF,fF,fF,fF,fF,fF,fF,fF,fF,fF,fF,fF,fF,fF,fF] rfl rfl (wJ HT_.out (zz0)) (fun _ _ _ h=>h) (Or.inl ⟨zz25,?_⟩) ?_ ?_ ?_;rotate_left
       ·intro w';go_simp;with_reducible rfl
       rotate_left;·simp only [zzs];rfl
       refine zzp 3 23 ?_ #[tT,tT,tT,tT,fF,fF,fF,fF,fF,fF,fF,fF,fF,fF,fF,fF,fF,fF,fF,fF,fF,fF,fF,fF] rfl rfl (wJ HT_.out (zz0)) (fun _ _ _ h=>h) (Or.inl ⟨zz25,?_⟩) ?_ ?_ ?_;rotate_left
       ·intro w';go_simp;with_reducible rfl
       rotate_left;·simp only [zzs];rfl
       refine zzp 4 24 ?_ #[tT,tT,tT,tT,tT,fF,fF,fF,fF,fF,fF,fF,fF,fF,fF,fF,fF,fF,fF,fF,fF,fF,fF,fF] rfl rfl (wJ HT_.out (zz0)) (fun _ _ _ h=>h) (Or.inl ⟨zz25,?_⟩) ?_ ?_ ?_;rotate_left
       ·intro w';go_simp;with_reducible rfl
       rotate_left;·simp only [zzs];rfl
       refine zzp 5 25 ?_ #[tT,tT,tT,tT,tT,tT,fF,fF,fF,fF,fF,fF,fF,fF,fF,fF,fF,fF,fF,fF,fF,fF,fF,fF] rfl rfl (wJ HT_.out (zz0)) (fun _ _ _ h=>h) (Or.inl ⟨zz25,?_⟩) ?_ ?_ ?_;rotate_left
       ·intro w';go_simp;with_reducible rfl
       rotate_left;·simp only [zzs];rfl
       refine zzp 6 26 ?_ #[tT,tT,tT,tT,tT,tT,tT,fF,fF,fF,fF,fF,fF,fF,fF,fF,fF,fF,fF,fF,fF,fF,fF,fF] rfl rfl (wJ HT_.out (zz0)) (fun _ _ _ h=>h) (Or.inl ⟨zz25,?_⟩) ?_ ?_ ?_;rotate_left
       ·intro w';go_simp;with_reducible rfl
       rotate_left;·simp only [zzs];rfl
       refine zzp 8 28 ?_ #[tT,tT,tT,tT,tT,tT,tT,fF,tT,fF,fF,fF,fF,fF,fF,fF,fF,fF,fF,fF,fF,fF,fF,fF] rfl rfl (wJ HT_.out (zz0)) (fun _ _ _ h=>h) (Or.inl ⟨zz25,?_⟩) ?_ ?_ ?_;rotate_left
       ·intro w';go_simp;with_reducible rfl
       rotate_left;·simp only [zzs];rfl
       refine take_ (i:=7) (N:=some 27) (v:=?_) (a':=?_) #[tT,tT,tT,tT,tT,tT,tT,tT,tT,fF,fF,fF,fF,fF,fF,fF,fF,fF,fF,fF,fF,fF,fF,fF] rfl rfl (wU HT_.out HW_.out (zz0)) (fun _ _ _ h=>h) (Or.inl ⟨zz25,?_⟩) hHeld ?_ ?_;rotate_left
       ·rintro w' ⟨s0,s1,s2,s3,s4,s5,s6⟩
        go_simp
        with_reducible rfl
       rotate_left;·simp only [zzs];rfl
       refine zA (i:=9) (N:=some 29) #[tT,tT,tT,tT,tT,tT,tT,tT,tT,tT,fF,fF,fF,fF,fF,fF,fF,fF,fF,fF,fF,fF,fF,fF] rfl rfl (yO HT_.out (zz0)) (zz26) (fun K hK=>?_);refine yT Tryd.func13 (zz0) rfl #[.agg #[.int .i64 ((rd_T26 l0 (rd l1 x16_1)).f0),.int .i64 ((rd_T26 l0 (rd l1 x16_1)).f1),.slice A170_2 ((rd_T26 l0 (rd l1 x16_1)).f2).length c170_2],.int .i64 a3] (zz25) rfl rfl (zz20) ?_
       with_reducible refine (U35.calls k1 ((rd_T26 l0 (rd l1 x16_1)).f0) ((rd_T26 l0 (rd l1 x16_1)).f1) _ _ ((rd_T26 l0 (rd l1 x16_1)).f2) a3 true _ ?side1 ?side2 A14.out).mono ?_
       (case side1=>exact (have h0_:=HR170_2;zz157));(case side2=>exact HC170_2.out);rintro e w18 ⟨rfl,hb⟩;refine ⟨_,rfl,?_⟩;replace HB:=wA.mk (wC (zz3) hb)
       (try clear hb);refine hK.out _ _ ⟨((HB.out.cell (qK w _ hw170_0)).trans hw170_0),((HB.out.cell (qK w _ hw170_1)).trans hw170_1),((HB.out.cell (qK w _ hw170_2)).trans hw170_2),((HB.out.cell (qK w _ hw172_0)).trans hw172_0),((HB.out.cell (qK w _ hw173_0)).trans hw173_0),((HB.out.cell (qK w _ hw173_1)).trans hw173_1),((HB.out.cell (qK w _ hw173_2)).trans hw173_2)⟩ (fun hHeld=>?_);clear hK K;refine yB (a':=?_) ?_ ?_;rotate_left
       ·show Act.put _ (some 29) _ = _;simp only [zzs];rfl
       refine zzp 10 30 ?_ #[tT,tT,tT,tT,tT,tT,tT,tT,tT,tT,tT,fF,fF,fF,fF,fF,fF,fF,fF,fF,fF,fF,fF,fF] rfl rfl (wJ HT_.out (zz0)) (fun _ _ _ h=>h) (Or.inl ⟨zz25,?_⟩) ?_ ?_ ?_;rotate_left
       ·intro w';go_simp;with_reducible rfl
       rotate_left;·simp only [zzs];rfl
       refine zzp 11 31 ?_ #[tT,tT,tT,tT,tT,tT,tT,tT,tT,tT,tT,tT,fF,fF,fF,fF,fF,fF,fF,fF,fF,fF,fF,fF] rfl rfl (wJ HT_.out (zz0)) (fun _ _ _ h=>h) (Or.inl ⟨zz25,?_⟩) ?_ ?_ ?_;rotate_left
       ·intro w';go_simp;with_reducible rfl
       rotate_left;·simp only [zzs];rfl
       refine zzp 12 32 ?_ #[tT,tT,tT,tT,tT,tT,tT,tT,tT,tT,tT,tT,tT,fF,fF,fF,fF,fF,fF,fF,fF,fF,fF,fF] rfl rfl (wJ HT_.out (zz0)) (fun _ _ _ h=>h) (Or.inl ⟨zz25,?_⟩) ?_ ?_ ?_;rotate_left
       ·intro w';go_simp;with_reducible rfl
       rotate_left;·simp only [zzs];rfl
       refine zzp 13 33 ?_ #[tT,tT,tT,tT,tT,tT,tT,tT,tT,tT,tT,tT,tT,tT,fF,fF,fF,fF,fF,fF,fF,fF,fF,fF] rfl rfl (wJ HT_.out (zz0)) (fun _ _ _ h=>h) (Or.inl ⟨zz25,?_⟩) ?_ ?_ ?_;rotate_left
       ·intro w';go_simp;with_reducible rfl
       rotate_left;·simp only [zzs];rfl
       refine zzp 14 34 ?_ #[tT,tT,tT,tT,tT,tT,tT,tT,tT,tT,tT,tT,tT,tT,tT,fF,fF,fF,fF,fF,fF,fF,fF,fF] rfl rfl (wJ HT_.out (zz0)) (fun _ _ _ h=>h) (Or.inl ⟨zz25,?_⟩) ?_ ?_ ?_;rotate_left
       ·intro w';go_simp;with_reducible rfl
       rotate_left;·simp only [zzs];rfl
       refine zzp 15 35 ?_ #[tT,tT,tT,tT,tT,tT,tT,tT,tT,tT,tT,tT,tT,tT,tT,tT,fF,fF,fF,fF,fF,fF,fF,fF] rfl rfl (wJ HT_.out (zz0)) (fun _ _ _ h=>h) (Or.inl ⟨zz25,?_⟩) ?_ ?_ ?_;rotate_left
       ·intro w';go_simp;with_reducible rfl
       rotate_left;·simp only [zzs];rfl
       refine zzp 17 37 ?_ #[tT,tT,tT,tT,tT,tT,tT,tT,tT,tT,tT,tT,tT,tT,tT,tT,fF,tT,fF,fF,fF,fF,fF,fF] rfl rfl (wJ HT_.out (zz0)) (fun _ _ _ h=>h) (Or.inl ⟨zz25,?_⟩) ?_ ?_ ?_;rotate_left
       ·intro w';go_simp;with_reducible rfl
       rotate_left;·simp only [zzs];rfl
       refine zzp 18 38 ?_ #[tT,tT,tT,tT,tT,tT,tT,tT,tT,tT,tT,tT,tT,tT,tT,tT,fF,tT,tT,fF,fF,fF,fF,fF] rfl rfl (wJ HT_.out (zz0)) (fun _ _ _ h=>h) (Or.inl ⟨zz25,?_⟩) ?_ ?_ ?_;rotate_left
       ·intro w';go_simp;with_reducible rfl
       rotate_left;·simp only [zzs];rfl
       refine zzp 19 39 ?_ #[tT,tT,tT,tT,tT,tT,tT,tT,tT,tT,tT,tT,tT,tT,tT,tT,fF,tT,tT,tT,fF,fF,fF,fF] rfl rfl (wJ HT_.out (zz0)) (fun _ _ _ h=>h) (Or.inl ⟨zz25,?_⟩) ?_ ?_ ?_;rotate_left
       ·intro w';go_simp;with_reducible rfl
       rotate_left;·simp only [zzs];rfl
       refine zzp 20 40 ?_ #[tT,tT,tT,tT,tT,tT,tT,tT,tT,tT,tT,tT,tT,tT,tT,tT,fF,tT,tT,tT,tT,fF,fF,fF] rfl rfl (wJ HT_.out (zz0)) (fun _ _ _ h=>h) (Or.inl ⟨zz25,?_⟩) ?_ ?_ ?_;rotate_left
       ·intro w';go_simp;with_reducible rfl
       rotate_left;·simp only [zzs];rfl
       refine take_ (i:=16) (N:=some 36) (v:=?_) (a':=?_) #[tT,tT,tT,tT,tT,tT,tT,tT,tT,tT,tT,tT,tT,tT,tT,tT,tT,tT,tT,tT,tT,fF,fF,fF] rfl rfl (wU HT_.out HW_.out (zz0)) (fun _ _ _ h=>h) (Or.inl ⟨zz25,?_⟩) hHeld ?_ ?_;rotate_left
       ·rintro w' ⟨s0,s1,s2,s3,s4,s5,s6⟩
        go_simp
        with_reducible rfl
       rotate_left;·simp only [zzs];rfl
       refine take_ (i:=21) (N:=some 41) (v:=?_) (a':=?_) #[tT,tT,tT,tT,tT,tT,tT,tT,tT,tT,tT,tT,tT,tT,tT,tT,tT,tT,tT,tT,tT,tT,fF,fF] rfl rfl (wU HT_.out HW_.out (zz0)) (fun _ _ _ h=>h) (Or.inl ⟨zz25,?_⟩) hHeld ?_ ?_;rotate_left
       ·rintro w' ⟨s0,s1,s2,s3,s4,s5,s6⟩
        go_simp
        with_reducible rfl
       rotate_left;·simp only [zzs];rfl
       refine zzp 22 42 ?_ #[tT,tT,tT,tT,tT,tT,tT,tT,tT,tT,tT,tT,tT,tT,tT,tT,tT,tT,tT,tT,tT,tT,tT,fF] rfl rfl (wJ HT_.out (zz0)) (fun _ _ _ h=>h) (Or.inl ⟨zz25,?_⟩) ?_ ?_ ?_;rotate_left
       ·intro w';go_simp;with_reducible rfl
       rotate_left;·simp only [zzs];rfl
       refine zzp 23 43 ?_ #[tT,tT,tT,tT,tT,tT,tT,tT,tT,tT,tT,tT,tT,tT,tT,tT,tT,tT,tT,tT,tT,tT,tT,tT] rfl rfl (wJ HT_.out (zz0)) (fun _ _ _ h=>h) (Or.inl ⟨zz25,?_⟩) ?_ ?_ ?_;rotate_left
       ·intro w';go_simp;with_reducible rfl
       rotate_left;·simp only [zzs];rfl
       refine yX (yQ HT_.out (zz0)) ?_
       try go_wp2
       go_meet
       case rel=>exact ⟨_,(decide ((rd l2 (rd l1 x16_1))≥((rd_T26 l0 (rd l1 x16_1)).f1))),(zz2),H',⟨by have:=HK1.out;first|omega|exact Nat.le_refl _⟩,⟨zz3⟩⟩
      ·replace c15:=Bool.eq_false_iff.mpr c15;subst c15;have H1:(U42.j1 k1 l0 l2 a3 a4 x11_1 (rd l1 x16_1) l1 (l1.length:Int) x16_1 true) = some r:=zz19;clear H;have H:=H1;clear H1;have H':=wA.mk H;clear H
       try go_wp2
       replace HB:=wA.mk (wS HB.out);have p170:0≤((rd l1 x16_1):Int):=qL (zz4);have q170:(rd l1 x16_1) < (l0.length:Int):=qL (zz4);obtain ⟨ad170,A170_2,c170_2,e170,hx170_0,hx170_1,hx170_2,hl170_2,hi170_2⟩:=at_T26 HR0.out (rd l1 x16_1) p170 q170;have hw170_2:=hx170_2;have hw170_1:=hx170_1;have hw170_0:=hx170_0
       cases e170
       replace hx170_0:=(HB.out.cell (qK w _ hx170_0)).trans hx170_0;replace hx170_1:=(HB.out.cell (qK w _ hx170_1)).trans hx170_1;replace hx170_2:=(HB.out.cell (qK w _ hx170_2)).trans hx170_2;have HR170_2:=wA.mk hi170_2;have HC170_2:=wA.mk hl170_2;clear hi170_2 hl170_2;replace p170:=eq_true p170;replace q170:=eq_true q170;refine yP (n:=24) (S:=fun w'=>w'.cell? (ad170.add (((rd l1 x16_1)).toNat * 3)) = some (.int .i64 ((rd_T26 l0 (rd l1 x16_1)).f0))∧w'.cell? ⟨(ad170.add (((rd l1 x16_1)).toNat * 3)).block,(ad170.add (((rd l1 x16_1)).toNat * 3)).off+1,none⟩ = some (.int .i64 ((rd_T26 l0 (rd l1 x16_1)).f1))∧w'.cell? ⟨(ad170.add (((rd l1 x16_1)).toNat * 3)).block,(ad170.add (((rd l1 x16_1)).toNat * 3)).off+2,none⟩ = some (.slice A170_2 ((rd_T26 l0 (rd l1 x16_1)).f2).length c170_2)) (ds:=[]) #[fF,fF,fF,fF,fF,fF,fF,fF,fF,fF,fF,fF,fF,fF,fF,fF,fF,fF,fF,fF,fF,fF,fF,fF] (zz0) rfl rfl ⟨((HB.out.cell (qK w _ hw170_0)).trans hw170_0),((HB.out.cell (qK w _ hw170_1)).trans hw170_1),((HB.out.cell (qK w _ hw170_2)).trans hw170_2)⟩ (fun hHeld=>?_);refine yG U42.tab5 U42.bits5 (fun HT_ HW_=>?_)
       generalize wr.drew = w19 at HB HR170_2 hx170_0 hx170_1 hx170_2 hHeld ⊢
       refine zzp 0 20 ?_ #[tT,fF,fF,fF,fF,fF,fF,fF,fF,fF,fF,fF,fF,fF,fF,fF,fF,fF,fF,fF,fF,fF,fF,fF] rfl rfl (wJ HT_.out (zz0)) (fun _ _ _ h=>h) (Or.inl ⟨zz25,?_⟩) ?_ ?_ ?_;rotate_left
       ·intro w';go_simp;with_reducible rfl
       rotate_left;·simp only [zzs];rfl
       refine zzp 1 21 ?_ #[tT,tT,fF,fF,fF,fF,fF,fF,fF,fF,fF,fF,fF,fF,fF,fF,fF,fF,fF,fF,fF,fF,fF,fF] rfl rfl (wJ HT_.out (zz0)) (fun _ _ _ h=>h) (Or.inl ⟨zz25,?_⟩) ?_ ?_ ?_;rotate_left
       ·intro w';go_simp;with_reducible rfl
       rotate_left;·simp only [zzs];rfl
       refine zzp 2 22 ?_ #[tT,tT,tT,fF,fF,fF,fF,fF,fF,fF,fF,fF,fF,fF,fF,fF,fF,fF,fF,fF,fF,fF,fF,fF] rfl rfl (wJ HT_.out (zz0)) (fun _ _ _ h=>h) (Or.inl ⟨zz25,?_⟩) ?_ ?_ ?_;rotate_left
       ·intro w';go_simp;with_reducible rfl
       rotate_left;·simp only [zzs];rfl
       refine zzp 3 23 ?_ #[tT,tT,tT,tT,fF,fF,fF,fF,fF,fF,fF,fF,fF,fF,fF,fF,fF,fF,fF,fF,fF,fF,fF,fF] rfl rfl (wJ HT_.out (zz0)) (fun _ _ _ h=>h) (Or.inl ⟨zz25,?_⟩) ?_ ?_ ?_;rotate_left
       ·intro w';go_simp;with_reducible rfl
       rotate_left;·simp only [zzs];rfl
       refine zzp 4 24 ?_ #[tT,tT,tT,tT,tT,fF,fF,fF,fF,fF,fF,fF,fF,fF,fF,fF,fF,fF,fF,fF,fF,fF,fF,fF] rfl rfl (wJ HT_.out (zz0)) (fun _ _ _ h=>h) (Or.inl ⟨zz25,?_⟩) ?_ ?_ ?_;rotate_left
       ·intro w';go_simp;with_reducible rfl
       rotate_left;·simp only [zzs];rfl
       refine zzp 5 25 ?_ #[tT,tT,tT,tT,tT,tT,fF,fF,fF,fF,fF,fF,fF,fF,fF,fF,fF,fF,fF,fF,fF,fF,fF,fF] rfl rfl (wJ HT_.out (zz0)) (fun _ _ _ h=>h) (Or.inl ⟨zz25,?_⟩) ?_ ?_ ?_;rotate_left
       ·intro w';go_simp;with_reducible rfl
       rotate_left;·simp only [zzs];rfl
       refine zzp 6 26 ?_ #[tT,tT,tT,tT,tT,tT,tT,fF,fF,fF,fF,fF,fF,fF,fF,fF,fF,fF,fF,fF,fF,fF,fF,fF] rfl rfl (wJ HT_.out (zz0)) (fun _ _ _ h=>h) (Or.inl ⟨zz25,?_⟩) ?_ ?_ ?_;rotate_left
       ·intro w';go_simp;with_reducible rfl
       rotate_left;·simp only [zzs];rfl
       refine zzp 8 28 ?_ #[tT,tT,tT,tT,tT,tT,tT,fF,tT,fF,fF,fF,fF,fF,fF,fF,fF,fF,fF,fF,fF,fF,fF,fF] rfl rfl (wJ HT_.out (zz0)) (fun _ _ _ h=>h) (Or.inl ⟨zz25,?_⟩) ?_ ?_ ?_;rotate_left
       ·intro w';go_simp;with_reducible rfl
       rotate_left;·simp only [zzs];rfl
       refine take_ (i:=7) (N:=some 27) (v:=?_) (a':=?_) #[tT,tT,tT,tT,tT,tT,tT,tT,tT,fF,fF,fF,fF,fF,fF,fF,fF,fF,fF,fF,fF,fF,fF,fF] rfl rfl (wU HT_.out HW_.out (zz0)) (fun _ _ _ h=>h) (Or.inl ⟨zz25,?_⟩) hHeld ?_ ?_;rotate_left
       ·rintro w' ⟨s0,s1,s2⟩
        go_simp
        with_reducible rfl
       rotate_left;·simp only [zzs];rfl
       refine zA (i:=9) (N:=some 29) #[tT,tT,tT,tT,tT,tT,tT,tT,tT,tT,fF,fF,fF,fF,fF,fF,fF,fF,fF,fF,fF,fF,fF,fF] rfl rfl (yO HT_.out (zz0)) (zz26) (fun K hK=>?_);refine yT Tryd.func13 (zz0) rfl #[.agg #[.int .i64 ((rd_T26 l0 (rd l1 x16_1)).f0),.int .i64 ((rd_T26 l0 (rd l1 x16_1)).f1),.slice A170_2 ((rd_T26 l0 (rd l1 x16_1)).f2).length c170_2],.int .i64 a3] (zz25) rfl rfl (zz20) ?_
       with_reducible refine (U35.calls k1 ((rd_T26 l0 (rd l1 x16_1)).f0) ((rd_T26 l0 (rd l1 x16_1)).f1) _ _ ((rd_T26 l0 (rd l1 x16_1)).f2) a3 false _ ?side1 ?side2 A14.out).mono ?_
       (case side1=>exact (have h0_:=HR170_2;zz157));(case side2=>exact HC170_2.out);rintro e w20 ⟨rfl,hb⟩;refine ⟨_,rfl,?_⟩;replace HB:=wA.mk (wC (zz3) hb)
       (try clear hb);refine hK.out _ _ ⟨((HB.out.cell (qK w _ hw170_0)).trans hw170_0),((HB.out.cell (qK w _ hw170_1)).trans hw170_1),((HB.out.cell (qK w _ hw170_2)).trans hw170_2)⟩ (fun hHeld=>?_);clear hK K;refine yB (a':=?_) ?_ ?_;rotate_left
       ·show Act.put _ (some 29) _ = _;simp only [zzs];rfl
       refine zzp 10 30 ?_ #[tT,tT,tT,tT,tT,tT,tT,tT,tT,tT,tT,fF,fF,fF,fF,fF,fF,fF,fF,fF,fF,fF,fF,fF] rfl rfl (wJ HT_.out (zz0)) (fun _ _ _ h=>h) (Or.inl ⟨zz25,?_⟩) ?_ ?_ ?_;rotate_left
       ·intro w';go_simp;with_reducible rfl
       rotate_left;·simp only [zzs];rfl
       refine zzp 11 31 ?_ #[tT,tT,tT,tT,tT,tT,tT,tT,tT,tT,tT,tT,fF,fF,fF,fF,fF,fF,fF,fF,fF,fF,fF,fF] rfl rfl (wJ HT_.out (zz0)) (fun _ _ _ h=>h) (Or.inl ⟨zz25,?_⟩) ?_ ?_ ?_;rotate_left
       ·intro w';go_simp;with_reducible rfl
       rotate_left;·simp only [zzs];rfl
       refine zzp 12 32 ?_ #[tT,tT,tT,tT,tT,tT,tT,tT,tT,tT,tT,tT,tT,fF,fF,fF,fF,fF,fF,fF,fF,fF,fF,fF] rfl rfl (wJ HT_.out (zz0)) (fun _ _ _ h=>h) (Or.inl ⟨zz25,?_⟩) ?_ ?_ ?_;rotate_left
       ·intro w';go_simp;with_reducible rfl
       rotate_left;·simp only [zzs];rfl
       refine yF (i:=13) (N:=some 33) (v:=undef) (a':=?_) #[tT,tT,tT,tT,tT,tT,tT,tT,tT,tT,tT,tT,tT,tT,fF,fF,fF,fF,fF,fF,fF,fF,fF,fF] rfl rfl (wJ HT_.out (zz0)) (fun _ _ _ h=>h) (Or.inr ⟨zz25,rfl⟩) ?_ ?_;rotate_left
       ·simp only [zzs];rfl
       refine yF (i:=14) (N:=some 34) (v:=undef) (a':=?_) #[tT,tT,tT,tT,tT,tT,tT,tT,tT,tT,tT,tT,tT,tT,tT,fF,fF,fF,fF,fF,fF,fF,fF,fF] rfl rfl (wJ HT_.out (zz0)) (fun _ _ _ h=>h) (Or.inr ⟨zz25,rfl⟩) ?_ ?_;rotate_left
       ·simp only [zzs];rfl
       refine yF (i:=15) (N:=some 35) (v:=undef) (a':=?_) #[tT,tT,tT,tT,tT,tT,tT,tT,tT,tT,tT,tT,tT,tT,tT,tT,fF,fF,fF,fF,fF,fF,fF,fF] rfl rfl (wJ HT_.out (zz0)) (fun _ _ _ h=>h) (Or.inr ⟨zz25,rfl⟩) ?_ ?_;rotate_left
       ·simp only [zzs];rfl
       refine yF (i:=16) (N:=some 36) (v:=undef) (a':=?_) #[tT,tT,tT,tT,tT,tT,tT,tT,tT,tT,tT,tT,tT,tT,tT,tT,tT,fF,fF,fF,fF,fF,fF,fF] rfl rfl (wJ HT_.out (zz0)) (fun _ _ _ h=>h) (Or.inr ⟨zz25,rfl⟩) ?_ ?_;rotate_left
       ·simp only [zzs];rfl
       refine yF (i:=17) (N:=some 37) (v:=undef) (a':=?_) #[tT,tT,tT,tT,tT,tT,tT,tT,tT,tT,tT,tT,tT,tT,tT,tT,tT,tT,fF,fF,fF,fF,fF,fF] rfl rfl (wJ HT_.out (zz0)) (fun _ _ _ h=>h) (Or.inr ⟨zz25,rfl⟩) ?_ ?_;rotate_left
       ·simp only [zzs];rfl
       refine yF (i:=18) (N:=some 38) (v:=undef) (a':=?_) #[tT,tT,tT,tT,tT,tT,tT,tT,tT,tT,tT,tT,tT,tT,tT,tT,tT,tT,tT,fF,fF,fF,fF,fF] rfl rfl (wJ HT_.out (zz0)) (fun _ _ _ h=>h) (Or.inr ⟨zz25,rfl⟩) ?_ ?_;rotate_left
       ·simp only [zzs];rfl
       refine yF (i:=19) (N:=some 39) (v:=undef) (a':=?_) #[tT,tT,tT,tT,tT,tT,tT,tT,tT,tT,tT,tT,tT,tT,tT,tT,tT,tT,tT,tT,fF,fF,fF,fF] rfl rfl (wJ HT_.out (zz0)) (fun _ _ _ h=>h) (Or.inr ⟨zz25,rfl⟩) ?_ ?_;rotate_left
       ·simp only [zzs];rfl
       refine yF (i:=20) (N:=some 40) (v:=undef) (a':=?_) #[tT,tT,tT,tT,tT,tT,tT,tT,tT,tT,tT,tT,tT,tT,tT,tT,tT,tT,tT,tT,tT,fF,fF,fF] rfl rfl (wJ HT_.out (zz0)) (fun _ _ _ h=>h) (Or.inr ⟨zz25,rfl⟩) ?_ ?_;rotate_left
       ·simp only [zzs];rfl
       refine yF (i:=21) (N:=some 41) (v:=undef) (a':=?_) #[tT,tT,tT,tT,tT,tT,tT,tT,tT,tT,tT,tT,tT,tT,tT,tT,tT,tT,tT,tT,tT,tT,fF,fF] rfl rfl (wJ HT_.out (zz0)) (fun _ _ _ h=>h) (Or.inr ⟨zz25,rfl⟩) ?_ ?_;rotate_left
       ·simp only [zzs];rfl
       refine yF (i:=22) (N:=some 42) (v:=undef) (a':=?_) #[tT,tT,tT,tT,tT,tT,tT,tT,tT,tT,tT,tT,tT,tT,tT,tT,tT,tT,tT,tT,tT,tT,tT,fF] rfl rfl (wJ HT_.out (zz0)) (fun _ _ _ h=>h) (Or.inr ⟨zz25,rfl⟩) ?_ ?_;rotate_left
       ·simp only [zzs];rfl
       refine zzp 23 43 ?_ #[tT,tT,tT,tT,tT,tT,tT,tT,tT,tT,tT,tT,tT,tT,tT,tT,tT,tT,tT,tT,tT,tT,tT,tT] rfl rfl (wJ HT_.out (zz0)) (fun _ _ _ h=>h) (Or.inl ⟨zz25,?_⟩) ?_ ?_ ?_;rotate_left
       ·intro w';go_simp;with_reducible rfl
       rotate_left;·simp only [zzs];rfl
       refine yX (yQ HT_.out (zz0)) ?_
       try go_wp2
       go_meet
       case rel=>exact ⟨_,(true),(zz2),H',⟨by have:=HK1.out;first|omega|exact Nat.le_refl _⟩,⟨zz3⟩⟩
    case rest =>
     clear HC9;obtain ⟨kq,x43_8,rfl,HA,HJ8,HB⟩:=hcut
     cases kq with
     | zero=>exact absurd HA.out (by simp [U42.j1])
     | succ kj8 =>
      have H:=HA.out;clear HA;simp only [U42.j1] at H;by_cases c21:x43_8 = true
      ·subst c21;have H1:(U42.l0 kj8 l0 l2 a3 a4 x11_1 l1 (l1.length:Int) (wrap64 (x16_1+1))) = some r:=zz18;clear H;have H:=H1;clear H1;have H':=wA.mk H;clear H
       go_wp2
       go_roundg kj8
       case measure=>have:=HK1.out;have:=HJ8.out;omega
       case rel=>exact ⟨(x11_1),(wrap64 (x16_1+1)),(zz2),(zz2),H',⟨by have:=HK1.out;have:=HJ8.out;omega⟩,⟨zz3⟩⟩
      ·replace c21:=Bool.eq_false_iff.mpr c21;subst c21;have H1:(if x11_1 < 0 then (U42.l0 kj8 l0 l2 a3 a4 (rd l1 x16_1) l1 (l1.length:Int) (wrap64 (x16_1+1))) else (if 0≤(rd l1 x16_1) then (if (rd l1 x16_1) < (l2.length:Int) then (if 0≤x11_1 then (if x11_1 < (l2.length:Int) then (if (rd l2 (rd l1 x16_1)) < (rd l2 x11_1) then (U42.l0 kj8 l0 l2 a3 a4 (rd l1 x16_1) l1 (l1.length:Int) (wrap64 (x16_1+1))) else (U42.l0 kj8 l0 l2 a3 a4 x11_1 l1 (l1.length:Int) (wrap64 (x16_1+1)))) else (none)) else (none)) else (none)) else (none))) = some r:=zz19;clear H;have H:=H1;clear H1;replace H:=zzj H;rcases H with ⟨c22,H⟩|⟨c22,H⟩
       ·have c22b0:=qM c22;clear c22;have H':=wA.mk H;clear H
        try go_wp2
        replace HB:=wA.mk (wS HB.out);refine yP (n:=13) (S:=fun w'=>True) (ds:=[]) #[fF,fF,fF,fF,fF,fF,fF,fF,fF,fF,fF,fF,fF] (zz0) rfl rfl trivial (fun hHeld=>?_);refine yG U42.tab6 U42.bits6 (fun HT_ HW_=>?_)
        generalize wc.drew = w23 at HB hHeld ⊢
        refine zzp 0 44 ?_ #[tT,fF,fF,fF,fF,fF,fF,fF,fF,fF,fF,fF,fF] rfl rfl (wJ HT_.out (zz0)) (fun _ _ _ h=>h) (Or.inl ⟨zz25,?_⟩) ?_ ?_ ?_;rotate_left
        ·intro w';go_simp;with_reducible rfl
        rotate_left;·simp only [zzs];rfl
        refine zzp 1 45 ?_ #[tT,tT,fF,fF,fF,fF,fF,fF,fF,fF,fF,fF,fF] rfl rfl (wJ HT_.out (zz0)) (fun _ _ _ h=>h) (Or.inl ⟨zz25,?_⟩) ?_ ?_ ?_;rotate_left
        ·intro w';go_simp;with_reducible rfl
        rotate_left;·simp only [zzs];rfl
        refine zzp 2 46 ?_ #[tT,tT,tT,fF,fF,fF,fF,fF,fF,fF,fF,fF,fF] rfl rfl (wJ HT_.out (zz0)) (fun _ _ _ h=>h) (Or.inl ⟨zz25,?_⟩) ?_ ?_ ?_;rotate_left
        ·intro w';go_simp;with_reducible rfl
        rotate_left;·simp only [zzs];rfl
        refine yF (i:=3) (N:=some 47) (v:=undef) (a':=?_) #[tT,tT,tT,tT,fF,fF,fF,fF,fF,fF,fF,fF,fF] rfl rfl (wJ HT_.out (zz0)) (fun _ _ _ h=>h) (Or.inr ⟨zz25,rfl⟩) ?_ ?_;rotate_left
        ·simp only [zzs];rfl
        refine yF (i:=4) (N:=some 48) (v:=undef) (a':=?_) #[tT,tT,tT,tT,tT,fF,fF,fF,fF,fF,fF,fF,fF] rfl rfl (wJ HT_.out (zz0)) (fun _ _ _ h=>h) (Or.inr ⟨zz25,rfl⟩) ?_ ?_;rotate_left
        ·simp only [zzs];rfl
        refine yF (i:=5) (N:=some 49) (v:=undef) (a':=?_) #[tT,tT,tT,tT,tT,tT,fF,fF,fF,fF,fF,fF,fF] rfl rfl (wJ HT_.out (zz0)) (fun _ _ _ h=>h) (Or.inr ⟨zz25,rfl⟩) ?_ ?_;rotate_left
        ·simp only [zzs];rfl
        refine yF (i:=6) (N:=some 50) (v:=undef) (a':=?_) #[tT,tT,tT,tT,tT,tT,tT,fF,fF,fF,fF,fF,fF] rfl rfl (wJ HT_.out (zz0)) (fun _ _ _ h=>h) (Or.inr ⟨zz25,rfl⟩) ?_ ?_;rotate_left
        ·simp only [zzs];rfl
        refine yF (i:=7) (N:=some 51) (v:=undef) (a':=?_) #[tT,tT,tT,tT,tT,tT,tT,tT,fF,fF,fF,fF,fF] rfl rfl (wJ HT_.out (zz0)) (fun _ _ _ h=>h) (Or.inr ⟨zz25,rfl⟩) ?_ ?_;rotate_left
        ·simp only [zzs];rfl
        refine yF (i:=8) (N:=some 52) (v:=undef) (a':=?_) #[tT,tT,tT,tT,tT,tT,tT,tT,tT,fF,fF,fF,fF] rfl rfl (wJ HT_.out (zz0)) (fun _ _ _ h=>h) (Or.inr ⟨zz25,rfl⟩) ?_ ?_;rotate_left
        ·simp only [zzs];rfl
        refine yF (i:=9) (N:=some 53) (v:=undef) (a':=?_) #[tT,tT,tT,tT,tT,tT,tT,tT,tT,tT,fF,fF,fF] rfl rfl (wJ HT_.out (zz0)) (fun _ _ _ h=>h) (Or.inr ⟨zz25,rfl⟩) ?_ ?_;rotate_left
        ·simp only [zzs];rfl
        refine yF (i:=10) (N:=some 54) (v:=undef) (a':=?_) #[tT,tT,tT,tT,tT,tT,tT,tT,tT,tT,tT,fF,fF] rfl rfl (wJ HT_.out (zz0)) (fun _ _ _ h=>h) (Or.inr ⟨zz25,rfl⟩) ?_ ?_;rotate_left
        ·simp only [zzs];rfl
        refine yF (i:=11) (N:=some 55) (v:=undef) (a':=?_) #[tT,tT,tT,tT,tT,tT,tT,tT,tT,tT,tT,tT,fF] rfl rfl (wJ HT_.out (zz0)) (fun _ _ _ h=>h) (Or.inr ⟨zz25,rfl⟩) ?_ ?_;rotate_left
        ·simp only [zzs];rfl
        refine zzp 12 56 ?_ #[tT,tT,tT,tT,tT,tT,tT,tT,tT,tT,tT,tT,tT] rfl rfl (wJ HT_.out (zz0)) (fun _ _ _ h=>h) (Or.inl ⟨zz25,?_⟩) ?_ ?_ ?_;rotate_left
        ·intro w';go_simp;with_reducible rfl
        rotate_left;·simp only [zzs];rfl
        refine yX (yQ HT_.out (zz0)) ?_
        try go_wp2
        go_roundg kj8
        case measure=>have:=HK1.out;have:=HJ8.out;omega
        case rel=>exact ⟨((rd l1 x16_1)),(wrap64 (x16_1+1)),(zz2),(zz2),H',⟨by have:=HK1.out;have:=HJ8.out;omega⟩,⟨zz3⟩⟩
       ·have c22b0:=qN c22;clear c22;replace H:=zzi H;obtain ⟨c24,H⟩:=H;have c24b0:=qM c24;clear c24;replace H:=zzi H;obtain ⟨c25,H⟩:=H;have c25b0:=qM c25;clear c25;replace H:=zzi H;obtain ⟨c26,H⟩:=H;have c26b0:=qM c26;clear c26;replace H:=zzi H;obtain ⟨c27,H⟩:=H;have c27b0:=qM c27;clear c27;replace H:=zzj H;rcases H with ⟨c28,H⟩|⟨c28,H⟩
        ·have c28b0:=qM c28;clear c28;have H':=wA.mk H;clear H
         try go_wp2
         replace HB:=wA.mk (wS HB.out);have p174:0≤((rd l1 x16_1):Int):=qL (zz4);have q174:(rd l1 x16_1) < (l2.length:Int):=qL (zz4);obtain ⟨ad174,e174,hx174_0⟩:=Kd.at_int HR2.out (rd l1 x16_1) p174 q174;have hw174_0:=hx174_0
         cases e174
         replace hx174_0:=(HB.out.cell (qK w _ hx174_0)).trans hx174_0;replace p174:=eq_true p174;replace q174:=eq_true q174;have p175:0≤(x11_1:Int):=qL (zz4);have q175:x11_1 < (l2.length:Int):=qL (zz4);obtain ⟨ad175,e175,hx175_0⟩:=Kd.at_int HR2.out x11_1 p175 q175;have hw175_0:=hx175_0;obtain rfl:ad174 = ad175:=(by injection e175);replace hx175_0:=(HB.out.cell (qK w _ hx175_0)).trans hx175_0;replace p175:=eq_true p175;replace q175:=eq_true q175;refine yP (n:=13) (S:=fun w'=>w'.cell? (ad174.add ((rd l1 x16_1)).toNat) = some (.int .i64 (rd l2 (rd l1 x16_1)))∧w'.cell? (ad174.add (x11_1).toNat) = some (.int .i64 (rd l2 x11_1))) (ds:=[]) #[fF,fF,fF,fF,fF,fF,fF,fF,fF,fF,fF,fF,fF] (zz0) rfl rfl ⟨((HB.out.cell (qK w _ hw174_0)).trans hw174_0),((HB.out.cell (qK w _ hw175_0)).trans hw175_0)⟩ (fun hHeld=>?_);refine yG U42.tab6 U42.bits6 (fun HT_ HW_=>?_)
         generalize wc.drew = w29 at HB hx174_0 hx175_0 hHeld ⊢
         refine zzp 0 44 ?_ #[tT,fF,fF,fF,fF,fF,fF,fF,fF,fF,fF,fF,fF] rfl rfl (wJ HT_.out (zz0)) (fun _ _ _ h=>h) (Or.inl ⟨zz25,?_⟩) ?_ ?_ ?_;rotate_left
         ·intro w';go_simp;with_reducible rfl
         rotate_left;·simp only [zzs];rfl
         refine zzp 1 45 ?_ #[tT,tT,fF,fF,fF,fF,fF,fF,fF,fF,fF,fF,fF] rfl rfl (wJ HT_.out (zz0)) (fun _ _ _ h=>h) (Or.inl ⟨zz25,?_⟩) ?_ ?_ ?_;rotate_left
         ·intro w';go_simp;with_reducible rfl
         rotate_left;·simp only [zzs];rfl
         refine zzp 2 46 ?_ #[tT,tT,tT,fF,fF,fF,fF,fF,fF,fF,fF,fF,fF] rfl rfl (wJ HT_.out (zz0)) (fun _ _ _ h=>h) (Or.inl ⟨zz25,?_⟩) ?_ ?_ ?_;rotate_left
         ·intro w';go_simp;with_reducible rfl
         rotate_left;·simp only [zzs];rfl
         refine zzp 3 47 ?_ #[tT,tT,tT,tT,fF,fF,fF,fF,fF,fF,fF,fF,fF] rfl rfl (wJ HT_.out (zz0)) (fun _ _ _ h=>h) (Or.inl ⟨zz25,?_⟩) ?_ ?_ ?_;rotate_left
         ·intro w';go_simp;with_reducible rfl
         rotate_left;·simp only [zzs];rfl
         refine zzp 4 48 ?_ #[tT,tT,tT,tT,tT,fF,fF,fF,fF,fF,fF,fF,fF] rfl rfl (wJ HT_.out (zz0)) (fun _ _ _ h=>h) (Or.inl ⟨zz25,?_⟩) ?_ ?_ ?_;rotate_left
         ·intro w';go_simp;with_reducible rfl
         rotate_left;·simp only [zzs];rfl
         refine zzp 5 49 ?_ #[tT,tT,tT,tT,tT,tT,fF,fF,fF,fF,fF,fF,fF] rfl rfl (wJ HT_.out (zz0)) (fun _ _ _ h=>h) (Or.inl ⟨zz25,?_⟩) ?_ ?_ ?_;rotate_left
         ·intro w';go_simp;with_reducible rfl
         rotate_left;·simp only [zzs];rfl
         refine zzp 7 51 ?_ #[tT,tT,tT,tT,tT,tT,fF,tT,fF,fF,fF,fF,fF] rfl rfl (wJ HT_.out (zz0)) (fun _ _ _ h=>h) (Or.inl ⟨zz25,?_⟩) ?_ ?_ ?_;rotate_left
         ·intro w';go_simp;with_reducible rfl
         rotate_left;·simp only [zzs];rfl
         refine zzp 8 52 ?_ #[tT,tT,tT,tT,tT,tT,fF,tT,tT,fF,fF,fF,fF] rfl rfl (wJ HT_.out (zz0)) (fun _ _ _ h=>h) (Or.inl ⟨zz25,?_⟩) ?_ ?_ ?_;rotate_left
         ·intro w';go_simp;with_reducible rfl
         rotate_left;·simp only [zzs];rfl
         refine zzp 9 53 ?_ #[tT,tT,tT,tT,tT,tT,fF,tT,tT,tT,fF,fF,fF] rfl rfl (wJ HT_.out (zz0)) (fun _ _ _ h=>h) (Or.inl ⟨zz25,?_⟩) ?_ ?_ ?_;rotate_left
         ·intro w';go_simp;with_reducible rfl
         rotate_left;·simp only [zzs];rfl
         refine take_ (i:=6) (N:=some 50) (v:=?_) (a':=?_) #[tT,tT,tT,tT,tT,tT,tT,tT,tT,tT,fF,fF,fF] rfl rfl (wU HT_.out HW_.out (zz0)) (fun _ _ _ h=>h) (Or.inl ⟨zz25,?_⟩) hHeld ?_ ?_;rotate_left
         ·rintro w' ⟨s0,s1⟩
          go_simp
          with_reducible rfl
         rotate_left;·simp only [zzs];rfl
         refine take_ (i:=10) (N:=some 54) (v:=?_) (a':=?_) #[tT,tT,tT,tT,tT,tT,tT,tT,tT,tT,tT,fF,fF] rfl rfl (wU HT_.out HW_.out (zz0)) (fun _ _ _ h=>h) (Or.inl ⟨zz25,?_⟩) hHeld ?_ ?_;rotate_left
         ·rintro w' ⟨s0,s1⟩
          go_simp
          with_reducible rfl
         rotate_left;·simp only [zzs];rfl
         refine zzp 11 55 ?_ #[tT,tT,tT,tT,tT,tT,tT,tT,tT,tT,tT,tT,fF] rfl rfl (wJ HT_.out (zz0)) (fun _ _ _ h=>h) (Or.inl ⟨zz25,?_⟩) ?_ ?_ ?_;rotate_left
         ·intro w';go_simp;with_reducible rfl
         rotate_left;·simp only [zzs];rfl
         refine zzp 12 56 ?_ #[tT,tT,tT,tT,tT,tT,tT,tT,tT,tT,tT,tT,tT] rfl rfl (wJ HT_.out (zz0)) (fun _ _ _ h=>h) (Or.inl ⟨zz25,?_⟩) ?_ ?_ ?_;rotate_left
         ·intro w';go_simp;with_reducible rfl
         rotate_left;·simp only [zzs];rfl
         refine yX (yQ HT_.out (zz0)) ?_
         try go_wp2
         go_roundg kj8
         case measure=>have:=HK1.out;have:=HJ8.out;omega
         case rel=>exact ⟨((rd l1 x16_1)),(wrap64 (x16_1+1)),(zz2),(zz2),H',⟨by have:=HK1.out;have:=HJ8.out;omega⟩,⟨zz3⟩⟩
        ·have c28b0:=qN c28;clear c28;have H':=wA.mk H;clear H
         try go_wp2
         replace HB:=wA.mk (wS HB.out);have p174:0≤((rd l1 x16_1):Int):=qL (zz4);have q174:(rd l1 x16_1) < (l2.length:Int):=qL (zz4);obtain ⟨ad174,e174,hx174_0⟩:=Kd.at_int HR2.out (rd l1 x16_1) p174 q174;have hw174_0:=hx174_0
         cases e174
         replace hx174_0:=(HB.out.cell (qK w _ hx174_0)).trans hx174_0;replace p174:=eq_true p174;replace q174:=eq_true q174;have p175:0≤(x11_1:Int):=qL (zz4);have q175:x11_1 < (l2.length:Int):=qL (zz4);obtain ⟨ad175,e175,hx175_0⟩:=Kd.at_int HR2.out x11_1 p175 q175;have hw175_0:=hx175_0;obtain rfl:ad174 = ad175:=(by injection e175);replace hx175_0:=(HB.out.cell (qK w _ hx175_0)).trans hx175_0;replace p175:=eq_true p175;replace q175:=eq_true q175;refine yP (n:=13) (S:=fun w'=>w'.cell? (ad174.add ((rd l1 x16_1)).toNat) = some (.int .i64 (rd l2 (rd l1 x16_1)))∧w'.cell? (ad174.add (x11_1).toNat) = some (.int .i64 (rd l2 x11_1))) (ds:=[]) #[fF,fF,fF,fF,fF,fF,fF,fF,fF,fF,fF,fF,fF] (zz0) rfl rfl ⟨((HB.out.cell (qK w _ hw174_0)).trans hw174_0),((HB.out.cell (qK w _ hw175_0)).trans hw175_0)⟩ (fun hHeld=>?_);refine yG U42.tab6 U42.bits6 (fun HT_ HW_=>?_)
         generalize wc.drew = w30 at HB hx174_0 hx175_0 hHeld ⊢
         refine zzp 0 44 ?_ #[tT,fF,fF,fF,fF,fF,fF,fF,fF,fF,fF,fF,fF] rfl rfl (wJ HT_.out (zz0)) (fun _ _ _ h=>h) (Or.inl ⟨zz25,?_⟩) ?_ ?_ ?_;rotate_left
         ·intro w';go_simp;with_reducible rfl
         rotate_left;·simp only [zzs];rfl
         refine zzp 1 45 ?_ #[tT,tT,fF,fF,fF,fF,fF,fF,fF,fF,fF,fF,fF] rfl rfl (wJ HT_.out (zz0)) (fun _ _ _ h=>h) (Or.inl ⟨zz25,?_⟩) ?_ ?_ ?_;rotate_left
         ·intro w';go_simp;with_reducible rfl
         rotate_left;·simp only [zzs];rfl
         refine zzp 2 46 ?_ #[tT,tT,tT,fF,fF,fF,fF,fF,fF,fF,fF,fF,fF] rfl rfl (wJ HT_.out (zz0)) (fun _ _ _ h=>h) (Or.inl ⟨zz25,?_⟩) ?_ ?_ ?_;rotate_left
         ·intro w';go_simp;with_reducible rfl
         rotate_left;·simp only [zzs];rfl
         refine zzp 3 47 ?_ #[tT,tT,tT,tT,fF,fF,fF,fF,fF,fF,fF,fF,fF] rfl rfl (wJ HT_.out (zz0)) (fun _ _ _ h=>h) (Or.inl ⟨zz25,?_⟩) ?_ ?_ ?_;rotate_left
         ·intro w';go_simp;with_reducible rfl
         rotate_left;·simp only [zzs];rfl
         refine zzp 4 48 ?_ #[tT,tT,tT,tT,tT,fF,fF,fF,fF,fF,fF,fF,fF] rfl rfl (wJ HT_.out (zz0)) (fun _ _ _ h=>h) (Or.inl ⟨zz25,?_⟩) ?_ ?_ ?_;rotate_left
         ·intro w';go_simp;with_reducible rfl
         rotate_left;·simp only [zzs];rfl
         refine zzp 5 49 ?_ #[tT,tT,tT,tT,tT,tT,fF,fF,fF,fF,fF,fF,fF] rfl rfl (wJ HT_.out (zz0)) (fun _ _ _ h=>h) (Or.inl ⟨zz25,?_⟩) ?_ ?_ ?_;rotate_left
         ·intro w';go_simp;with_reducible rfl
         rotate_left;·simp only [zzs];rfl
         refine zzp 7 51 ?_ #[tT,tT,tT,tT,tT,tT,fF,tT,fF,fF,fF,fF,fF] rfl rfl (wJ HT_.out (zz0)) (fun _ _ _ h=>h) (Or.inl ⟨zz25,?_⟩) ?_ ?_ ?_;rotate_left
         ·intro w';go_simp;with_reducible rfl
         rotate_left;·simp only [zzs];rfl
         refine zzp 8 52 ?_ #[tT,tT,tT,tT,tT,tT,fF,tT,tT,fF,fF,fF,fF] rfl rfl (wJ HT_.out (zz0)) (fun _ _ _ h=>h) (Or.inl ⟨zz25,?_⟩) ?_ ?_ ?_;rotate_left
         ·intro w';go_simp;with_reducible rfl
         rotate_left;·simp only [zzs];rfl
         refine zzp 9 53 ?_ #[tT,tT,tT,tT,tT,tT,fF,tT,tT,tT,fF,fF,fF] rfl rfl (wJ HT_.out (zz0)) (fun _ _ _ h=>h) (Or.inl ⟨zz25,?_⟩) ?_ ?_ ?_;rotate_left
         ·intro w';go_simp;with_reducible rfl
         rotate_left;·simp only [zzs];rfl
         refine take_ (i:=6) (N:=some 50) (v:=?_) (a':=?_) #[tT,tT,tT,tT,tT,tT,tT,tT,tT,tT,fF,fF,fF] rfl rfl (wU HT_.out HW_.out (zz0)) (fun _ _ _ h=>h) (Or.inl ⟨zz25,?_⟩) hHeld ?_ ?_;rotate_left
         ·rintro w' ⟨s0,s1⟩
          go_simp
          with_reducible rfl
         rotate_left;·simp only [zzs];rfl
         refine take_ (i:=10) (N:=some 54) (v:=?_) (a':=?_) #[tT,tT,tT,tT,tT,tT,tT,tT,tT,tT,tT,fF,fF] rfl rfl (wU HT_.out HW_.out (zz0)) (fun _ _ _ h=>h) (Or.inl ⟨zz25,?_⟩) hHeld ?_ ?_;rotate_left
         ·rintro w' ⟨s0,s1⟩
          go_simp
          with_reducible rfl
         rotate_left;·simp only [zzs];rfl
         refine zzp 11 55 ?_ #[tT,tT,tT,tT,tT,tT,tT,tT,tT,tT,tT,tT,fF] rfl rfl (wJ HT_.out (zz0)) (fun _ _ _ h=>h) (Or.inl ⟨zz25,?_⟩) ?_ ?_ ?_;rotate_left
         ·intro w';go_simp;with_reducible rfl
         rotate_left;·simp only [zzs];rfl
         refine zzp 12 56 ?_ #[tT,tT,tT,tT,tT,tT,tT,tT,tT,tT,tT,tT,tT] rfl rfl (wJ HT_.out (zz0)) (fun _ _ _ h=>h) (Or.inl ⟨zz25,?_⟩) ?_ ?_ ?_;rotate_left
         ·intro w';go_simp;with_reducible rfl
         rotate_left;·simp only [zzs];rfl
         refine yX (yQ HT_.out (zz0)) ?_
         try go_wp2
         go_roundg kj8
         case measure=>have:=HK1.out;have:=HJ8.out;omega
         case rel=>exact ⟨(x11_1),(wrap64 (x16_1+1)),(zz2),(zz2),H',⟨by have:=HK1.out;have:=HJ8.out;omega⟩,⟨zz3⟩⟩
   ·have c6b0:=qN c6;clear c6;obtain rfl:=Option.some.inj H
    go_wp2
    go_ret
    exact ⟨zz8,zz3⟩
end Go.Proofs.YtnimkmkapajnhaaDoor.QA
