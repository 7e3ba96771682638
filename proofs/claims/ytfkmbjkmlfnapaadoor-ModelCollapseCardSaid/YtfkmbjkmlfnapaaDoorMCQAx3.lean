import Derived.Test.YtfkmbjkmlfnapaaDoorMCQAx0
import Derived.Test.YtfkmbjkmlfnapaaDoorMCQAx1
import Derived.Test.YtfkmbjkmlfnapaaDoorMCQAx2
namespace Go.Proofs.YtfkmbjkmlfnapaaDoor.QA
open Go.RowKit Go.Proofs.YtfkmbjkmlfnapaaDoorW.PrintWords Go.Proofs.YtfkmbjkmlfnapaaDoorW.PrintLast Go.Proofs.YtfkmbjkmlfnapaaDoorW.PrintMore
attribute [local go_sem] yG yF yP yO yA yB yH yE
set_option linter.unusedVariables false
set_option linter.unusedSimpArgs false
mutual
def U17.l0:Nat→Int→List (List Int)→Option (Bool)
 | 0,_,_=>none
 | k+1,x3,x127000=>if x3 < (x127000.length:Int) then (if 0≤(wrap64 (x3 - 1)) then (if (wrap64 (x3 - 1)) < (x127000.length:Int) then ((U25.f k (rd_L1 x127000 (wrap64 (x3 - 1)))).bind fun t129=>(if 0≤x3 then ((U25.f k (rd_L1 x127000 x3)).bind fun t133=>(U17.l1 k x3 t129 t133 (t133.length:Int) 0 x127000)) else (none))) else (none)) else (none)) else (some true)
def U17.l1:Nat→Int→List Int→List Int→Int→Int→List (List Int)→Option (Bool)
 | 0,_,_,_,_,_,_=>none
 | k+1,x3,x4,x5,x34,x35,x127000=>if x35 < x34 then (if 0≤x35 then (if x35 < (x5.length:Int) then (if x35 < (x4.length:Int) then (if (rd x5 x35) < (rd x4 x35) then (some false) else (U17.l1 k x3 x4 x5 x34 (wrap64 (x35+1)) x127000)) else (none)) else (none)) else (none)) else (U17.l0 k (wrap64 (x3+1)) x127000)
end
def U17.f (k:Nat) (l0_0:List (List Int)):Option (Bool):=(U21.f k l0_0 (l0_0.length:Int)).bind fun t127=>(if t127 = 0 then (U17.l0 k 1 l0_0) else (some false))
theorem zm7_0 {P:Prop} (h:P:=by repeat' first|(with_reducible first|exact ih0 ..|exact ih1 ..|exact U21.mono ..|exact U25.mono ..|exact LeO.refl _|exact LeO.none _|refine LeO.ite ?_ ?_|refine LeO.bind ?_ (fun _=>?_))|exact ih0 ..|exact ih1 ..|exact U21.mono ..|exact U25.mono ..|exact LeO.none _|refine LeO.ite ?_ ?_|refine LeO.bind ?_ (fun _=>?_)):P:=h
theorem U17.mono_l:∀ k,(∀ y0 y1,LeO (U17.l0 k y0 y1) (U17.l0 (k+1) y0 y1))∧(∀ y0 y1 y2 y3 y4 y5,LeO (U17.l1 k y0 y1 y2 y3 y4 y5) (U17.l1 (k+1) y0 y1 y2 y3 y4 y5))
 | 0=>⟨fun _ _ r h=>by simp [U17.l0] at h,fun _ _ _ _ _ _ r h=>by simp [U17.l1] at h⟩
 | k+1=>by
  obtain ⟨ih0,ih1⟩:=U17.mono_l k;refine ⟨?_,?_⟩
  ·intro y0 y1;unfold U17.l0
   exact zm7_0
  ·intro y0 y1 y2 y3 y4 y5;unfold U17.l1
   exact zm7_0
theorem U17.mono:∀ a0 k,LeO (U17.f k a0) (U17.f (k+1) a0):=by
 intro a0 k;obtain ⟨ih0,ih1⟩:=U17.mono_l k;unfold U17.f
 exact zm7_0
def U17.T6:Bool × List (List Nat × List Nat):=(true,[([],[]),([0],[0]),([],[]),([2],[2]),([1,3],[1,3]),([4],[4]),([5],[5]),([],[]),([7],[7]),([],[]),([8,9],[8,9]),([10],[10]),([11,6],[11]),([6,12,0,1,2,3,4,5,6],[6]),([12,13,0,1,2,3,4,5,6,7,8,9,10,11,12,13],[12])])
def U17.B6:List Nat:=[0,1,0,4,15,31,63,0,128,0,896,1920,4095,8191,16383]
theorem U17.tab6:yX .any (vD Tryd.f18 6) = U17.T6:=zz0
theorem U17.bits6:yQ U17.T6.2 U17.B6 = true:=zz0
def U17.T10:Bool × List (List Nat × List Nat):=(true,[([],[]),([],[]),([0,1],[0,1]),([2],[2]),([],[]),([],[]),([4,5],[4,5]),([6],[6]),([3,7],[3,7])])
def U17.B10:List Nat:=[0,0,3,7,0,0,48,112,255]
theorem U17.tab10:yX .any (vD Tryd.f18 10) = U17.T10:=zz0
theorem U17.bits10:yQ U17.T10.2 U17.B10 = true:=zz0
set_option maxHeartbeats 8000000 in
set_option maxRecDepth 100000 in
theorem U17.calls (k:Nat) (A0_0:Option Addr) (c0_0:Nat) (l0_0:List (List Int)) (r:Bool) (w:World) (hr0_0:Kd.C (Kd.slice 3 (Kd.int .i64)) w A0_0 l0_0.length l0_0) (hc0_0:l0_0.length≤c0_0) (h:U17.f k l0_0 = some r) :
  Calls Tryd.prog 18 #[.agg #[.slice A0_0 l0_0.length c0_0]] w fun e w'=>e = .returned (.bool r)∧Below w.heap.size w w':=by
 have hu24:=Tryd.underlying24;have HR0_0:=wA.mk hr0_0;have HC0_0:=wA.mk hc0_0;clear hr0_0 hc0_0;have HB:=wA.mk (Below.refl w.heap.size w);have H:((U21.f k l0_0 (l0_0.length:Int)).bind fun t127=>(if t127 = 0 then (U17.l0 k 1 l0_0) else (some false))) = some r:=h;clear h;replace H:=zzb H;obtain ⟨t127,A2,H⟩:=H;replace H:=zzj H;rcases H with ⟨c3,H⟩|⟨c3,H⟩
 ·have c3b0:=beq_iff_eq.mpr c3;have c3b1:=bne_eq_false_iff_eq.mpr c3;clear c3;have H':=wA.mk H;clear H;go_enter Tryd.func18,Tryd.ntmps18
  go_wp2_with (first|((with_reducible refine wK (N:=1) rfl ?_);refine wM ?hg (N:=1) ?hd (cs:=#[.slice A0_0 l0_0.length c0_0]) (t:=24) ?hr ?_;(case hd=>rfl);(case hg=>rfl);(case hr=>exact zz205);intro gb126 hg w4 hbox hb;have BK126:=wA.mk (hbox);have GW126:=wA.mk ((by rw [hg];exact (wB (zz10)):w.heap.size≤gb126));have GE126:=wA.mk ((by rw [hg];exact (wB (zz10)):w.heap.size≤gb126));replace HB:=wA.mk (wG (zz10) hb);clear hb hbox hg;obtain ⟨hcz5_0,hfz5_0⟩:=zc1 BK126.out)|((with_reducible refine wH (f:=14) rfl ?_);refine wO (some 11) rfl rfl Tryd.func14 (zz0) rfl #[.agg #[.slice A0_0 l0_0.length c0_0],.int .i64 (l0_0.length:Int)] rfl (zz5) ?_;(with_reducible refine (U21.calls k _ _ l0_0 (l0_0.length:Int) t127 _ ?_ ?_ A2.out).mono ?_);exact zz210;exact zz211;rintro e w6 ⟨rfl,hb⟩;refine ⟨_,rfl,?_⟩;replace BK126:=wA.mk (wC (have h0_:=BK126;zz12) hb);replace HB:=wA.mk (wG (have h0_:=GE126;zz13) hb);(try clear hb)))
  go_loopg [3] k (fun kq v3 w'=>∃ (x3_1:Int),v3 = .int .i64 x3_1∧wA (U17.l0 kq x3_1 l0_0 = some r)∧wA (kq≤k)∧wA (w'.heap[gb126]? = some (.cells #[(.slice A0_0 l0_0.length c0_0)] 24 (0,0)))∧wA (Below w.heap.size w w'))
  case atStart=>exact ⟨(1),(zz1),H',⟨Nat.le_refl _⟩,⟨(have h0_:=BK126;zz12)⟩,⟨(have h0_:=GE126;zz13)⟩⟩
  case round =>
   clear H'
   clear c3b0 c3b1;(try clear hcz5_0);(try clear hfz5_0)
   obtain ⟨x3_1,rfl,HA,HK1,BK126,HB⟩:=hrel
   cases gk with
   | zero=>exact absurd HA.out (by simp [U17.l0])
   | succ k1 =>
    have H:=HA.out;clear HA;simp only [U17.l0] at H;replace H:=zzj H;rcases H with ⟨c7,H⟩|⟨c7,H⟩
    ·have c7b0:=decide_eq_true c7;clear c7;obtain ⟨ji8,hji8⟩:∃ j_:Int,(wrap64 (x3_1 - 1)) = j_:=⟨_,rfl⟩;replace H:(if 0≤(ji8) then (if (ji8) < (l0_0.length:Int) then ((U25.f k1 (rd_L1 l0_0 (ji8))).bind fun t129=>(if 0≤x3_1 then ((U25.f k1 (rd_L1 l0_0 x3_1)).bind fun t133=>(U17.l1 k1 x3_1 t129 t133 (t133.length:Int) 0 l0_0)) else (none))) else (none)) else (none)) = some r:=(have h0_:=hji8;zz19);have hji8w:(IntKind.i64.wrap (x3_1 - 1)) = ji8:=(yL _).trans hji8;replace H:=zzi H;obtain ⟨c9,H⟩:=H;have c9b0:=decide_eq_true c9;clear c9;replace H:=zzi H;obtain ⟨c10,H⟩:=H;have c10b0:=decide_eq_true c10;clear c10;replace H:=zzb H;obtain ⟨t129,A11,H⟩:=H;replace H:=zzi H;obtain ⟨c12,H⟩:=H;have c12b0:=decide_eq_true c12;clear c12;replace H:=zzb H;obtain ⟨t133,A13,H⟩:=H;have H':=wA.mk H;clear H;obtain ⟨hcz14_0,hfz14_0⟩:=zc1 BK126.out
     try go_wp2
     replace BK126:=wA.mk (wF BK126.out);replace HB:=wA.mk (wR HB.out);have p128:0≤((ji8):Int):=of_decide_eq_true (zz4);have q128:(ji8) < (l0_0.length:Int):=of_decide_eq_true (zz4);obtain ⟨ad128,A128_0,c128_0,e128,hx128_0,hl128_0,hi128_0⟩:=at_L1 HR0_0.out (ji8) p128 q128;have hw128_0:=hx128_0
     cases e128
     replace hx128_0:=(HB.out.cell (World.block_lt_of_cell? w _ hx128_0)).trans hx128_0;have HR128_0:=wA.mk hi128_0;have HC128_0:=wA.mk hl128_0;clear hi128_0 hl128_0;replace p128:=eq_true p128;replace q128:=eq_true q128;have p132:0≤(x3_1:Int):=of_decide_eq_true (zz4);have q132:x3_1 < (l0_0.length:Int):=of_decide_eq_true (zz4);obtain ⟨ad132,A132_0,c132_0,e132,hx132_0,hl132_0,hi132_0⟩:=at_L1 HR0_0.out x3_1 p132 q132;have hw132_0:=hx132_0;obtain rfl:ad128 = ad132:=(by injection e132);replace hx132_0:=(HB.out.cell (World.block_lt_of_cell? w _ hx132_0)).trans hx132_0;have HR132_0:=wA.mk hi132_0;have HC132_0:=wA.mk hl132_0;clear hi132_0 hl132_0;replace p132:=eq_true p132;replace q132:=eq_true q132;refine zC (n:=15) (S:=fun w'=>w'.cell? ⟨gb126,0,none⟩ = some (.slice (some ad128) l0_0.length c0_0)∧w'.cell? (ad128.add ((ji8)).toNat) = some (.slice A128_0 (rd_L1 l0_0 (ji8)).length c128_0)∧w'.cell? (ad128.add (x3_1).toNat) = some (.slice A132_0 (rd_L1 l0_0 x3_1).length c132_0)) (ds:=[]) #[false,false,false,false,false,false,false,false,false,false,false,false,false,false,false] (zz0) rfl rfl ⟨(wI BK126.out 0).trans rfl,((HB.out.cell (World.block_lt_of_cell? w _ hw128_0)).trans hw128_0),((HB.out.cell (World.block_lt_of_cell? w _ hw132_0)).trans hw132_0)⟩ (fun hHeld=>?_);refine yS U17.tab6 U17.bits6 (fun HT_ HW_=>?_)
     generalize wr.drew = w15 at BK126 HB HR128_0 HR132_0 hx128_0 hx132_0 hHeld ⊢
     refine zzp 0 20 ?_ #[true,false,false,false,false,false,false,false,false,false,false,false,false,false,false] rfl rfl (wU HT_.out (zz0)) (fun _ _ _ h=>h) (Or.inl ⟨zz9,?_⟩) ?_ ?_ ?_;rotate_left
     ·intro w'
      go_simp
      with_reducible rfl
     rotate_left
     ·simp only [zzs]
      rfl
     refine zzp 2 22 ?_ #[true,false,true,false,false,false,false,false,false,false,false,false,false,false,false] rfl rfl (wU HT_.out (zz0)) (fun _ _ _ h=>h) (Or.inl ⟨zz9,?_⟩) ?_ ?_ ?_;rotate_left
     ·intro w'
      go_simp
      with_reducible rfl
     rotate_left
     ·simp only [zzs]
      rfl
     refine zzp 3 23 ?_ #[true,false,true,true,false,false,false,false,false,false,false,false,false,false,false] rfl rfl (wU HT_.out (zz0)) (fun _ _ _ h=>h) (Or.inl ⟨zz9,?_⟩) ?_ ?_ ?_;rotate_left
     ·intro w'
      go_simp
      with_reducible rfl
     rotate_left
     ·simp only [zzs]
      rfl
     refine zzp 7 27 ?_ #[true,false,true,true,false,false,false,true,false,false,false,false,false,false,false] rfl rfl (wU HT_.out (zz0)) (fun _ _ _ h=>h) (Or.inl ⟨zz9,?_⟩) ?_ ?_ ?_;rotate_left
     ·intro w'
      go_simp
      with_reducible rfl
     rotate_left
     ·simp only [zzs]
      rfl
     refine zzp 9 29 ?_ #[true,false,true,true,false,false,false,true,false,true,false,false,false,false,false] rfl rfl (wU HT_.out (zz0)) (fun _ _ _ h=>h) (Or.inl ⟨zz9,?_⟩) ?_ ?_ ?_;rotate_left
     ·intro w'
      go_simp
      with_reducible rfl
     rotate_left
     ·simp only [zzs]
      rfl
     refine take_ (i:=1) (N:=some 21) (v:=?_) (a':=?_) #[true,true,true,true,false,false,false,true,false,true,false,false,false,false,false] rfl rfl (wY HT_.out HW_.out (zz0)) (fun _ _ _ h=>h) (Or.inl ⟨zz9,?_⟩) hHeld ?_ ?_;rotate_left
     ·rintro w' ⟨s0,s1,s2⟩
      go_simp
      with_reducible rfl
     rotate_left
     ·simp only [zzs]
      rfl
     refine zzp 4 24 ?_ #[true,true,true,true,true,false,false,true,false,true,false,false,false,false,false] rfl rfl (wU HT_.out (zz0)) (fun _ _ _ h=>h) (Or.inl ⟨zz9,?_⟩) ?_ ?_ ?_;rotate_left
     ·intro w'
      go_simp
      with_reducible rfl
     rotate_left
     ·simp only [zzs]
      rfl
     refine take_ (i:=5) (N:=some 25) (v:=?_) (a':=?_) #[true,true,true,true,true,true,false,true,false,true,false,false,false,false,false] rfl rfl (wY HT_.out HW_.out (zz0)) (fun _ _ _ h=>h) (Or.inl ⟨zz9,?_⟩) hHeld ?_ ?_;rotate_left
     ·rintro w' ⟨s0,s1,s2⟩
      go_simp
      with_reducible rfl
     rotate_left
     ·simp only [zzs]
      rfl
     refine take_ (i:=8) (N:=some 28) (v:=?_) (a':=?_) #[true,true,true,true,true,true,false,true,true,true,false,false,false,false,false] rfl rfl (wY HT_.out HW_.out (zz0)) (fun _ _ _ h=>h) (Or.inl ⟨zz9,?_⟩) hHeld ?_ ?_;rotate_left
     ·rintro w' ⟨s0,s1,s2⟩
      go_simp
      with_reducible rfl
     rotate_left
     ·simp only [zzs]
      rfl
     refine zzp 10 30 ?_ #[true,true,true,true,true,true,false,true,true,true,true,false,false,false,false] rfl rfl (wU HT_.out (zz0)) (fun _ _ _ h=>h) (Or.inl ⟨zz9,?_⟩) ?_ ?_ ?_;rotate_left
     ·intro w'
      go_simp
      with_reducible rfl
     rotate_left
     ·simp only [zzs]
      rfl
     refine take_ (i:=11) (N:=some 31) (v:=?_) (a':=?_) #[true,true,true,true,true,true,false,true,true,true,true,true,false,false,false] rfl rfl (wY HT_.out HW_.out (zz0)) (fun _ _ _ h=>h) (Or.inl ⟨zz9,?_⟩) hHeld ?_ ?_;rotate_left
     ·rintro w' ⟨s0,s1,s2⟩
      go_simp
      with_reducible rfl
     rotate_left
     ·simp only [zzs]
      rfl
     refine yW (i:=6) (N:=some 26) #[true,true,true,true,true,true,true,true,true,true,true,true,false,false,false] rfl rfl (yD HT_.out (zz0)) (zz17) (fun K hK=>?_);refine yN Tryd.func47 (zz0) rfl #[.slice A128_0 (rd_L1 l0_0 (ji8)).length c128_0] (zz9) rfl rfl (have h0_:=hji8;zz33) ?_
     with_reducible refine (U25.calls k1 _ _ (rd_L1 l0_0 (ji8)) t129 _ ?side1 ?side2 A11.out).mono ?_
     (case side1=>exact (have h0_:=HR128_0;zz206))
     (case side2=>exact HC128_0.out)
     rintro e w16 ⟨v130,rfl,ho0,hb⟩;refine ⟨_,rfl,?_⟩;have HO131:=wA.mk (Kd.R_lower ho0 (wB (have h0_:=GE126;zz13)));replace BK126:=wA.mk (wC (have h0_:=BK126;zz12) hb);replace HB:=wA.mk (wG (have h0_:=GE126;zz13) hb)
     (try clear hb)
     (try clear ho0)
     refine hK.out _ _ ⟨(wI BK126.out 0).trans rfl,((HB.out.cell (World.block_lt_of_cell? w _ hw128_0)).trans hw128_0),((HB.out.cell (World.block_lt_of_cell? w _ hw132_0)).trans hw132_0)⟩ (fun hHeld=>?_);clear hK K;refine yJ (a':=?_) ?_ ?_;rotate_left
     ·show Act.put _ (some 26) _ = _
      simp only [zzs]
      rfl
     refine yW (i:=12) (N:=some 32) #[true,true,true,true,true,true,true,true,true,true,true,true,true,false,false] rfl rfl (yD HT_.out (zz0)) (zz17) (fun K hK=>?_);refine yN Tryd.func47 (zz0) rfl #[.slice A132_0 (rd_L1 l0_0 x3_1).length c132_0] (zz9) rfl rfl (zz5) ?_
     with_reducible refine (U25.calls k1 _ _ (rd_L1 l0_0 x3_1) t133 _ ?side1 ?side2 A13.out).mono ?_
     (case side1=>exact (have h0_:=HR132_0;zz206))
     (case side2=>exact HC132_0.out)
     rintro e w17 ⟨v134,rfl,ho0,hb⟩;refine ⟨_,rfl,?_⟩;have HO135:=wA.mk (Kd.R_lower (Kd.R_new' ho0 (Kd.R_lt (have h0_:=HO131;zz18))) (wB (have h0_:=GE126;zz13)));replace HO131:=wA.mk (Kd.R_elder' (have h0_:=HO131;zz18) (Kd.R_base ho0) hb);replace BK126:=wA.mk (wC (have h0_:=BK126;zz12) hb);replace HB:=wA.mk (wG (have h0_:=GE126;zz13) hb)
     (try clear hb)
     (try clear hb2)
     (try clear hk)
     (try clear hi)
     (try clear ho0)
     refine hK.out _ _ ⟨(wI BK126.out 0).trans rfl,((HB.out.cell (World.block_lt_of_cell? w _ hw128_0)).trans hw128_0),((HB.out.cell (World.block_lt_of_cell? w _ hw132_0)).trans hw132_0)⟩ (fun hHeld=>?_);clear hK K;refine yJ (a':=?_) ?_ ?_;rotate_left
     ·show Act.put _ (some 32) _ = _
      simp only [zzs]
      rfl
     refine zzp 13 4 ?_ #[true,true,true,true,true,true,true,true,true,true,true,true,true,true,false] rfl rfl (wU HT_.out (zz0)) (fun _ _ _ h=>h) (Or.inl ⟨zz9,?_⟩) ?_ ?_ ?_;rotate_left
     ·intro w'
      go_simp
      with_reducible rfl
     rotate_left
     ·simp only [zzs]
      rfl
     refine zzp 14 5 ?_ #[true,true,true,true,true,true,true,true,true,true,true,true,true,true,true] rfl rfl (wU HT_.out (zz0)) (fun _ _ _ h=>h) (Or.inl ⟨zz9,?_⟩) ?_ ?_ ?_;rotate_left
     ·intro w'
      go_simp
      with_reducible rfl
     rotate_left
     ·simp only [zzs]
      rfl
     refine zN (zL HT_.out (zz0)) ?_;obtain ⟨Ao18,co18,eo18⟩:=Kd.R_slice HO135.out;subst eo18
     try go_wp2
     go_loopg [35] k1 (fun kq v35 w'=>∃ (x35_2:Int),v35 = .int .i64 x35_2∧wA (U17.l1 kq x3_1 t129 t133 (t133.length:Int) x35_2 l0_0 = some r)∧wA (kq≤k1)∧wA (Kd.R (Kd.int .i64) 3 w' w.heap.size (fun k_=>some k_ ≠ ((.slice Ao18 t133.length co18):Value).ownBlock) v130 t129)∧wA (Kd.R (Kd.int .i64) 3 w' w.heap.size (fun k_=>some k_ ≠ (v130:Value).ownBlock) (.slice Ao18 t133.length co18) t133)∧wA (w'.heap[gb126]? = some (.cells #[(.slice (some ad128) l0_0.length c0_0)] 24 (0,0)))∧wA (Below w.heap.size w w'))
     case atStart=>exact ⟨(0),(zz1),H',⟨Nat.le_refl _⟩,⟨(have h0_:=HO131;zz65)⟩,⟨(have h0_:=HO135;zz65)⟩,⟨(have h0_:=BK126;zz12)⟩,⟨(have h0_:=GE126;zz13)⟩⟩
     case round =>
      clear H'
      clear c7b0 c9b0 c10b0 c12b0 p128 p132 q128 q132;(try clear hcz14_0);(try clear hcz5_0);(try clear hfz14_0);(try clear hfz5_0);(try clear hx128_0);(try clear hx132_0)
      obtain ⟨x35_2,rfl,HA,HK2,HO_4,HO_5,BK126,HB⟩:=hrel
      cases gk with
      | zero=>exact absurd HA.out (by simp [U17.l1])
      | succ k2 =>
       have H:=HA.out;clear HA;simp only [U17.l1] at H;replace H:=zzj H;rcases H with ⟨c19,H⟩|⟨c19,H⟩
       ·have c19b0:=decide_eq_true c19;clear c19;replace H:=zzi H;obtain ⟨c20,H⟩:=H;have c20b0:=decide_eq_true c20;clear c20;replace H:=zzi H;obtain ⟨c21,H⟩:=H;have c21b0:=decide_eq_true c21;clear c21;replace H:=zzi H;obtain ⟨c22,H⟩:=H;have c22b0:=decide_eq_true c22;clear c22;replace H:=zzj H;rcases H with ⟨c23,H⟩|⟨c23,H⟩
        ·have c23b0:=decide_eq_true c23;clear c23;obtain rfl:=Option.some.inj H
         try go_wp2
         replace HO_4:=wA.mk (Kd.R_drew HO_4.out);replace HO_5:=wA.mk (Kd.R_drew HO_5.out);replace BK126:=wA.mk (wF BK126.out);replace HB:=wA.mk (wR HB.out);have p136:0≤(x35_2:Int):=of_decide_eq_true (zz4);have q136:x35_2 < (t133.length:Int):=of_decide_eq_true (zz4);obtain ⟨ad136,e136,hx136_0⟩:=Kd.at_int (Kd.R_reads' HO_5.out).2.2 x35_2 p136 q136
         cases e136
         replace p136:=eq_true p136;replace q136:=eq_true q136;obtain ⟨Ao25,co25,eo25⟩:=Kd.R_slice HO_4.out
         (first|subst eo25|(injection eo25 with f1_ f2_ f3_;have f4_:=f1_.symm;have f5_:=f3_.symm;clear f1_ f2_ f3_;subst f4_;subst f5_))
         have p137:0≤(x35_2:Int):=of_decide_eq_true (zz4);have q137:x35_2 < (t129.length:Int):=of_decide_eq_true (zz4);obtain ⟨ad137,e137,hx137_0⟩:=Kd.at_int (Kd.R_reads' HO_4.out).2.2 x35_2 p137 q137
         cases e137
         replace p137:=eq_true p137;replace q137:=eq_true q137;refine zC (n:=9) (S:=fun w'=>w'.cell? (ad136.add (x35_2).toNat) = some (.int .i64 (rd t133 x35_2))∧w'.cell? (ad137.add (x35_2).toNat) = some (.int .i64 (rd t129 x35_2))) (ds:=[]) #[false,false,false,false,false,false,false,false,false] (zz0) rfl rfl ⟨hx136_0,hx137_0⟩ (fun hHeld=>?_);refine yS U17.tab10 U17.bits10 (fun HT_ HW_=>?_)
         generalize wr.drew = w24 at HO_4 HO_5 BK126 HB hx136_0 hx137_0 hHeld ⊢
         refine zzp 0 38 ?_ #[true,false,false,false,false,false,false,false,false] rfl rfl (wU HT_.out (zz0)) (fun _ _ _ h=>h) (Or.inl ⟨zz9,?_⟩) ?_ ?_ ?_;rotate_left
         ·intro w'
          go_simp
          with_reducible rfl
         rotate_left
         ·simp only [zzs]
          rfl
         refine zzp 1 39 ?_ #[true,true,false,false,false,false,false,false,false] rfl rfl (wU HT_.out (zz0)) (fun _ _ _ h=>h) (Or.inl ⟨zz9,?_⟩) ?_ ?_ ?_;rotate_left
         ·intro w'
          go_simp
          with_reducible rfl
         rotate_left
         ·simp only [zzs]
          rfl
         refine zzp 2 40 ?_ #[true,true,true,false,false,false,false,false,false] rfl rfl (wU HT_.out (zz0)) (fun _ _ _ h=>h) (Or.inl ⟨zz9,?_⟩) ?_ ?_ ?_;rotate_left
         ·intro w'
          go_simp
          with_reducible rfl
         rotate_left
         ·simp only [zzs]
          rfl
         refine zzp 4 42 ?_ #[true,true,true,false,true,false,false,false,false] rfl rfl (wU HT_.out (zz0)) (fun _ _ _ h=>h) (Or.inl ⟨zz9,?_⟩) ?_ ?_ ?_;rotate_left
         ·intro w'
          go_simp
          with_reducible rfl
         rotate_left
         ·simp only [zzs]
          rfl
         refine zzp 5 43 ?_ #[true,true,true,false,true,true,false,false,false] rfl rfl (wU HT_.out (zz0)) (fun _ _ _ h=>h) (Or.inl ⟨zz9,?_⟩) ?_ ?_ ?_;rotate_left
         ·intro w'
          go_simp
          with_reducible rfl
         rotate_left
         ·simp only [zzs]
          rfl
         refine zzp 6 44 ?_ #[true,true,true,false,true,true,true,false,false] rfl rfl (wU HT_.out (zz0)) (fun _ _ _ h=>h) (Or.inl ⟨zz9,?_⟩) ?_ ?_ ?_;rotate_left
         ·intro w'
          go_simp
          with_reducible rfl
         rotate_left
         ·simp only [zzs]
          rfl
         refine take_ (i:=3) (N:=some 41) (v:=?_) (a':=?_) #[true,true,true,true,true,true,true,false,false] rfl rfl (wY HT_.out HW_.out (zz0)) (fun _ _ _ h=>h) (Or.inl ⟨zz9,?_⟩) hHeld ?_ ?_;rotate_left
         ·rintro w' ⟨s0,s1⟩
          go_simp
          with_reducible rfl
         rotate_left
         ·simp only [zzs]
          rfl
         refine take_ (i:=7) (N:=some 45) (v:=?_) (a':=?_) #[true,true,true,true,true,true,true,true,false] rfl rfl (wY HT_.out HW_.out (zz0)) (fun _ _ _ h=>h) (Or.inl ⟨zz9,?_⟩) hHeld ?_ ?_;rotate_left
         ·rintro w' ⟨s0,s1⟩
          go_simp
          with_reducible rfl
         rotate_left
         ·simp only [zzs]
          rfl
         refine zzp 8 46 ?_ #[true,true,true,true,true,true,true,true,true] rfl rfl (wU HT_.out (zz0)) (fun _ _ _ h=>h) (Or.inl ⟨zz9,?_⟩) ?_ ?_ ?_;rotate_left
         ·intro w'
          go_simp
          with_reducible rfl
         rotate_left
         ·simp only [zzs]
          rfl
         refine zN (zL HT_.out (zz0)) ?_
         try go_wp2
         go_ret
         exact ⟨(have h0_:=hji8;zz32),(have h0_:=GE126;zz13)⟩
        ·have c23b0:=decide_eq_false c23;clear c23;have H':=wA.mk H;clear H
         try go_wp2
         replace HO_4:=wA.mk (Kd.R_drew HO_4.out);replace HO_5:=wA.mk (Kd.R_drew HO_5.out);replace BK126:=wA.mk (wF BK126.out);replace HB:=wA.mk (wR HB.out);have p136:0≤(x35_2:Int):=of_decide_eq_true (zz4);have q136:x35_2 < (t133.length:Int):=of_decide_eq_true (zz4);obtain ⟨ad136,e136,hx136_0⟩:=Kd.at_int (Kd.R_reads' HO_5.out).2.2 x35_2 p136 q136
         cases e136
         replace p136:=eq_true p136;replace q136:=eq_true q136;obtain ⟨Ao27,co27,eo27⟩:=Kd.R_slice HO_4.out
         (first|subst eo27|(injection eo27 with f1_ f2_ f3_;have f4_:=f1_.symm;have f5_:=f3_.symm;clear f1_ f2_ f3_;subst f4_;subst f5_))
         have p137:0≤(x35_2:Int):=of_decide_eq_true (zz4);have q137:x35_2 < (t129.length:Int):=of_decide_eq_true (zz4);obtain ⟨ad137,e137,hx137_0⟩:=Kd.at_int (Kd.R_reads' HO_4.out).2.2 x35_2 p137 q137
         cases e137
         replace p137:=eq_true p137;replace q137:=eq_true q137;refine zC (n:=9) (S:=fun w'=>w'.cell? (ad136.add (x35_2).toNat) = some (.int .i64 (rd t133 x35_2))∧w'.cell? (ad137.add (x35_2).toNat) = some (.int .i64 (rd t129 x35_2))) (ds:=[]) #[false,false,false,false,false,false,false,false,false] (zz0) rfl rfl ⟨hx136_0,hx137_0⟩ (fun hHeld=>?_);refine yS U17.tab10 U17.bits10 (fun HT_ HW_=>?_)
         generalize wr.drew = w26 at HO_4 HO_5 BK126 HB hx136_0 hx137_0 hHeld ⊢
         refine zzp 0 38 ?_ #[true,false,false,false,false,false,false,false,false] rfl rfl (wU HT_.out (zz0)) (fun _ _ _ h=>h) (Or.inl ⟨zz9,?_⟩) ?_ ?_ ?_;rotate_left
         ·intro w'
          go_simp
          with_reducible rfl
         rotate_left
         ·simp only [zzs]
          rfl
         refine zzp 1 39 ?_ #[true,true,false,false,false,false,false,false,false] rfl rfl (wU HT_.out (zz0)) (fun _ _ _ h=>h) (Or.inl ⟨zz9,?_⟩) ?_ ?_ ?_;rotate_left
         ·intro w'
          go_simp
          with_reducible rfl
         rotate_left
         ·simp only [zzs]
          rfl
         refine zzp 2 40 ?_ #[true,true,true,false,false,false,false,false,false] rfl rfl (wU HT_.out (zz0)) (fun _ _ _ h=>h) (Or.inl ⟨zz9,?_⟩) ?_ ?_ ?_;rotate_left
         ·intro w'
          go_simp
          with_reducible rfl
         rotate_left
         ·simp only [zzs]
          rfl
         refine zzp 4 42 ?_ #[true,true,true,false,true,false,false,false,false] rfl rfl (wU HT_.out (zz0)) (fun _ _ _ h=>h) (Or.inl ⟨zz9,?_⟩) ?_ ?_ ?_;rotate_left
         ·intro w'
          go_simp
          with_reducible rfl
         rotate_left
         ·simp only [zzs]
          rfl
         refine zzp 5 43 ?_ #[true,true,true,false,true,true,false,false,false] rfl rfl (wU HT_.out (zz0)) (fun _ _ _ h=>h) (Or.inl ⟨zz9,?_⟩) ?_ ?_ ?_;rotate_left
         ·intro w'
          go_simp
          with_reducible rfl
         rotate_left
         ·simp only [zzs]
          rfl
         refine zzp 6 44 ?_ #[true,true,true,false,true,true,true,false,false] rfl rfl (wU HT_.out (zz0)) (fun _ _ _ h=>h) (Or.inl ⟨zz9,?_⟩) ?_ ?_ ?_;rotate_left
         ·intro w'
          go_simp
          with_reducible rfl
         rotate_left
         ·simp only [zzs]
          rfl
         refine take_ (i:=3) (N:=some 41) (v:=?_) (a':=?_) #[true,true,true,true,true,true,true,false,false] rfl rfl (wY HT_.out HW_.out (zz0)) (fun _ _ _ h=>h) (Or.inl ⟨zz9,?_⟩) hHeld ?_ ?_;rotate_left
         ·rintro w' ⟨s0,s1⟩
          go_simp
          with_reducible rfl
         rotate_left
         ·simp only [zzs]
          rfl
         refine take_ (i:=7) (N:=some 45) (v:=?_) (a':=?_) #[true,true,true,true,true,true,true,true,false] rfl rfl (wY HT_.out HW_.out (zz0)) (fun _ _ _ h=>h) (Or.inl ⟨zz9,?_⟩) hHeld ?_ ?_;rotate_left
         ·rintro w' ⟨s0,s1⟩
          go_simp
          with_reducible rfl
         rotate_left
         ·simp only [zzs]
          rfl
         refine zzp 8 46 ?_ #[true,true,true,true,true,true,true,true,true] rfl rfl (wU HT_.out (zz0)) (fun _ _ _ h=>h) (Or.inl ⟨zz9,?_⟩) ?_ ?_ ?_;rotate_left
         ·intro w'
          go_simp
          with_reducible rfl
         rotate_left
         ·simp only [zzs]
          rfl
         refine zN (zL HT_.out (zz0)) ?_
         try go_wp2
         go_roundg k2
         case measure=>have:=HK1.out;have:=HK2.out;omega
         case rel=>exact ⟨(wrap64 (x35_2+1)),(zz1),H',⟨zz64⟩,⟨zz61⟩,⟨(have h0_:=HO_5;zz18)⟩,⟨(have h0_:=BK126;zz12)⟩,⟨(have h0_:=GE126;zz13)⟩⟩
       ·have c19b0:=decide_eq_false c19;clear c19;have H':=wA.mk H;clear H
        go_wp2
        go_roundg k2
        case measure=>have:=HK1.out;have:=HK2.out;omega
        case rel=>exact ⟨(wrap64 (x3_1+1)),(zz1),H',⟨zz64⟩,⟨(have h0_:=BK126;zz12)⟩,⟨(have h0_:=GE126;zz13)⟩⟩
    ·have c7b0:=decide_eq_false c7;clear c7;obtain rfl:=Option.some.inj H;obtain ⟨hcz28_0,hfz28_0⟩:=zc1 BK126.out
     go_wp2
     go_ret
     exact ⟨zz14,(have h0_:=GE126;zz13)⟩
 ·have c3b0:=beq_eq_false_iff_ne.mpr c3;have c3b1:=bne_iff_ne.mpr c3;obtain rfl:=Option.some.inj H;go_enter Tryd.func18,Tryd.ntmps18
  go_wp2_with (first|((with_reducible refine wK (N:=1) rfl ?_);refine wM ?hg (N:=1) ?hd (cs:=#[.slice A0_0 l0_0.length c0_0]) (t:=24) ?hr ?_;(case hd=>rfl);(case hg=>rfl);(case hr=>exact zz205);intro gb126 hg w29 hbox hb;have BK126:=wA.mk (hbox);have GW126:=wA.mk ((by rw [hg];exact (wB (zz10)):w.heap.size≤gb126));have GE126:=wA.mk ((by rw [hg];exact (wB (zz10)):w.heap.size≤gb126));replace HB:=wA.mk (wG (zz10) hb);clear hb hbox hg;obtain ⟨hcz30_0,hfz30_0⟩:=zc1 BK126.out)|((with_reducible refine wH (f:=14) rfl ?_);refine wO (some 11) rfl rfl Tryd.func14 (zz0) rfl #[.agg #[.slice A0_0 l0_0.length c0_0],.int .i64 (l0_0.length:Int)] rfl (zz5) ?_;(with_reducible refine (U21.calls k _ _ l0_0 (l0_0.length:Int) t127 _ ?_ ?_ A2.out).mono ?_);exact zz210;exact zz211;rintro e w31 ⟨rfl,hb⟩;refine ⟨_,rfl,?_⟩;replace BK126:=wA.mk (wC (have h0_:=BK126;zz12) hb);replace HB:=wA.mk (wG (have h0_:=GE126;zz13) hb);(try clear hb)))
  go_ret
  exact ⟨zz14,(have h0_:=GE126;zz13)⟩
end Go.Proofs.YtfkmbjkmlfnapaaDoor.QA
