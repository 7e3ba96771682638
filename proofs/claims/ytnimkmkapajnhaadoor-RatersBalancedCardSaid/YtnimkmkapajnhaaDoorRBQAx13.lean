import Derived.Test.YtnimkmkapajnhaaDoorRBQAx0
import Derived.Test.YtnimkmkapajnhaaDoorRBQAx2
import Derived.Test.YtnimkmkapajnhaaDoorRBQAx4
import Derived.Test.YtnimkmkapajnhaaDoorRBQAx5
namespace Go.Proofs.YtnimkmkapajnhaaDoor.QA
open Go.RowKit Go.Proofs.YtnimkmkapajnhaaDoorW.PrintWords Go.Proofs.YtnimkmkapajnhaaDoorW.PrintLast Go.Proofs.YtnimkmkapajnhaaDoorW.PrintMore
attribute [local go_sem] yE yA yI yJ wY wX yC yD
set_option linter.unusedVariables false
set_option linter.unusedSimpArgs false
mutual
def U36.l0:Nat→List (S26)→List (S44)→Int→List Int→List (S44)→Int→Int→Option (Int × Int)
 | 0,_,_,_,_,_,_,_=>none
 | k+1,x0,x1,x2,x9,x22,x23,x24=>if x24 < x23 then (if 0≤x24 then (if x24 < (x22.length:Int) then (if ((rd_T44 x22 x24).f0) = x2 then (if x9.length < 17592186044416 then (U36.l0 k x0 x1 x2 (x9++[(rd_T44 x22 x24).f1]) x22 x23 (wrap64 (x24+1))) else (none)) else (U36.l0 k x0 x1 x2 x9 x22 x23 (wrap64 (x24+1)))) else (none)) else (none)) else (if (x9.length:Int) = 2 then (U36.l1 k x1 x2 x9 0 0 x0 (x0.length:Int) 0) else (some (0,6)))
def U36.l1:Nat→List (S44)→Int→List Int→Int→Int→List (S26)→Int→Int→Option (Int × Int)
 | 0,_,_,_,_,_,_,_,_=>none
 | k+1,x1,x2,x9,x12,x13,x41,x42,x43=>if x43 < x42 then (if 0≤x43 then (if x43 < (x41.length:Int) then ((U34.f k x1 ((rd_T26 x41 x43).f0)).bind fun t207=>((U35.f k ((rd_T26 x41 x43).f0) ((rd_T26 x41 x43).f1) ((rd_T26 x41 x43).f2) x2).bind fun t208=>(if t208 = true then ((U56.f k x9 ((rd_T26 x41 x43).f0)).bind fun t209=>(if t209 = true then (U36.l1 k x1 x2 x9 x12 x13 x41 x42 (wrap64 (x43+1))) else (if t207 < ((rd_T26 x41 x43).f1) then (if x12 = 0 then (U36.l1 k x1 x2 x9 ((rd_T26 x41 x43).f0) t207 x41 x42 (wrap64 (x43+1))) else (if t207 < x13 then (U36.l1 k x1 x2 x9 ((rd_T26 x41 x43).f0) t207 x41 x42 (wrap64 (x43+1))) else (U36.l1 k x1 x2 x9 x12 x13 x41 x42 (wrap64 (x43+1))))) else (U36.l1 k x1 x2 x9 x12 x13 x41 x42 (wrap64 (x43+1)))))) else (U36.l1 k x1 x2 x9 x12 x13 x41 x42 (wrap64 (x43+1)))))) else (none)) else (none)) else (if x12 = 0 then (some (0,14)) else (some (x12,0)))
end
def U36.f (k:Nat) (l0:List (S26)) (l1:List (S44)) (a2:Int):Option (Int × Int):=(U37.f k l0).bind fun t199=>(if t199 = 0 then (U36.l0 k l0 l1 a2 ([]:List Int) l1 (l1.length:Int) 0) else (some (0,t199)))
theorem zm10_0 {P:Prop} (h:P:=by repeat' first|(with_reducible first|exact ih0 ..|exact ih1 ..|exact U34.mono ..|exact U35.mono ..|exact U37.mono ..|exact U56.mono ..|exact LeO.refl _|exact LeO.none _|refine LeO.ite ?_ ?_|refine LeO.bind ?_ (fun _=>?_))|exact ih0 ..|exact ih1 ..|exact U34.mono ..|exact U35.mono ..|exact U37.mono ..|exact U56.mono ..|exact LeO.none _|refine LeO.ite ?_ ?_|refine LeO.bind ?_ (fun _=>?_)):P:=h
theorem U36.mono_l:∀ k,(∀ y0 y1 y2 y3 y4 y5 y6,LeO (U36.l0 k y0 y1 y2 y3 y4 y5 y6) (U36.l0 (k+1) y0 y1 y2 y3 y4 y5 y6))∧(∀ y0 y1 y2 y3 y4 y5 y6 y7,LeO (U36.l1 k y0 y1 y2 y3 y4 y5 y6 y7) (U36.l1 (k+1) y0 y1 y2 y3 y4 y5 y6 y7))
 | 0=>⟨fun _ _ _ _ _ _ _ r h=>by simp [U36.l0] at h,fun _ _ _ _ _ _ _ _ r h=>by simp [U36.l1] at h⟩
 | k+1=>by
  obtain ⟨ih0,ih1⟩:=U36.mono_l k;refine ⟨?_,?_⟩
  ·intro y0 y1 y2 y3 y4 y5 y6;unfold U36.l0
   exact zm10_0
  ·intro y0 y1 y2 y3 y4 y5 y6 y7;unfold U36.l1
   exact zm10_0
theorem U36.mono:∀ a0 a1 a2 k,LeO (U36.f k a0 a1 a2) (U36.f (k+1) a0 a1 a2):=by
 intro a0 a1 a2 k;obtain ⟨ih0,ih1⟩:=U36.mono_l k;unfold U36.f
 exact zm10_0
set_option maxHeartbeats 8000000 in
set_option maxRecDepth 100000 in
theorem U36.calls (k:Nat) (A0:Option Addr) (c0:Nat) (l0:List (S26)) (A1:Option Addr) (c1:Nat) (l1:List (S44)) (a2:Int) (r1:Int) (r2:Int) (w:World) (hr0:Kd.C k26 w A0 l0.length l0) (hc0:l0.length≤c0) (hr1:Kd.C k44 w A1 l1.length l1) (hc1:l1.length≤c1) (h:U36.f k l0 l1 a2 = some (r1,r2)) :
  Calls Tryd.prog 21 #[.slice A0 l0.length c0,.slice A1 l1.length c1,.int .i64 a2] w fun e w'=>e = .returned (.tuple #[.int .i64 r1,.int .i64 r2])∧Below w.heap.size w w':=by
 have hu44:=Tryd.underlying44;have hu26:=Tryd.underlying26;have HR0:=wA.mk hr0;have HC0:=wA.mk hc0;clear hr0 hc0;have HR1:=wA.mk hr1;have HC1:=wA.mk hc1;clear hr1 hc1;have HB:=wA.mk (Below.refl w.heap.size w);have H:((U37.f k l0).bind fun t199=>(if t199 = 0 then (U36.l0 k l0 l1 a2 ([]:List Int) l1 (l1.length:Int) 0) else (some (0,t199)))) = some (r1,r2):=h;clear h;replace H:=zzb H;obtain ⟨t199,A4,H⟩:=H;replace H:=zzj H;rcases H with ⟨c5,H⟩|⟨c5,H⟩
 ·have c5b0:=beq_iff_eq.mpr c5;have c5b1:=bne_eq_false_iff_eq.mpr c5;clear c5;have H':=wA.mk H;clear H;go_enter Tryd.func21,Tryd.ntmps21
  go_wp2_with (first|((with_reducible refine wI (f:=9) rfl ?_);refine wR (some 18) rfl rfl Tryd.func9 (zz0) rfl #[.slice A0 l0.length c0] rfl (zz20) ?_;(with_reducible refine (U37.calls k _ _ l0 t199 _ ?_ ?_ A4.out).mono ?_);exact zz158;exact HC0.out;rintro e w6 ⟨rfl,hb⟩;refine ⟨_,rfl,?_⟩;replace HB:=wA.mk (wC (zz3) hb);(try clear hb)))
  go_loopg [9,24] k (fun kq v9 v24 w'=>∃ (x9_1:List Int) (x24_1:Int),v24 = .int .i64 x24_1∧wA (U36.l0 kq l0 l1 a2 x9_1 l1 (l1.length:Int) x24_1 = some (r1,r2))∧wA (kq≤k)∧wA (Kd.R (Kd.int .i64) 3 w' w.heap.size (fun _=>True) v9 x9_1)∧wA (Below w.heap.size w w'))
  case atStart=>exact ⟨(([]:List Int)),(0),(zz2),H',⟨Nat.le_refl _⟩,⟨zz29⟩,⟨zz3⟩⟩
  case round =>
   clear H'
   (try clear c1);clear c5b0 c5b1
   obtain ⟨x9_1,x24_1,rfl,HA,HK1,HO_9,HB⟩:=hrel
   cases gk with
   | zero=>exact absurd HA.out (by simp [U36.l0])
   | succ k1 =>
    have H:=HA.out;clear HA;simp only [U36.l0] at H;replace H:=zzj H;rcases H with ⟨c7,H⟩|⟨c7,H⟩
    ·have c7b0:=qM c7;clear c7;replace H:=zzi H;obtain ⟨c8,H⟩:=H;have c8b0:=qM c8;clear c8;replace H:=zzi H;obtain ⟨c9,H⟩:=H;have c9b0:=qM c9;clear c9;replace H:=zzj H;rcases H with ⟨c10,H⟩|⟨c10,H⟩
     ·have c10b0:=beq_iff_eq.mpr c10;have c10b1:=bne_eq_false_iff_eq.mpr c10;clear c10;replace H:=zzi H;obtain ⟨c11,H⟩:=H;have LMc11:=wA.mk c11;clear c11;obtain ⟨y202,hy202⟩:∃ y_:List Int,y_ = (x9_1++[(rd_T44 l1 x24_1).f1]):=⟨_,rfl⟩;replace H:(U36.l0 k1 l0 l1 a2 y202 l1 (l1.length:Int) (wrap64 (x24_1+1))) = some (r1,r2):=(have h0_:=hy202;zz30);have Ny202:=wA.mk hy202;clear hy202;have H':=wA.mk H;clear H;have p200:0≤(x24_1:Int):=qL (zz4);have q200:x24_1 < (l1.length:Int):=qL (zz4);obtain ⟨ad200,e200,hx200_0,hx200_1⟩:=at_T44 HR1.out x24_1 p200 q200
      cases e200
      replace hx200_0:=(HB.out.cell (qK w _ hx200_0)).trans hx200_0;replace hx200_1:=(HB.out.cell (qK w _ hx200_1)).trans hx200_1;replace p200:=eq_true p200;replace q200:=eq_true q200
      go_wp2_with (first|((with_reducible refine wL (N:=11) rfl ?_);refine wM ?hg (N:=11) ?hd (cs:=#[.int .i64 0,.int .i64 0]) (t:=44) ?hr ?_;(case hd=>rfl);(case hg=>rfl);(case hr=>exact zz156);intro gb201 hg w12 hbox hb;replace HO_9:=wA.mk (Kd.R_below (zz36) hb);have BK201:=wA.mk (hbox);have GW201:=wA.mk ((by rw [hg];exact (wB (zz3)):w.heap.size≤gb201));have GE201:=wA.mk ((by rw [hg];exact (wB (zz3)):w.heap.size≤gb201));replace HB:=wA.mk (wC (zz3) hb);clear hb hbox hg;obtain ⟨hcz13_0,hcz13_1,hfz13_0,hfz13_1⟩:=zc2 BK201.out)|((with_reducible refine yZ (b:=.append) (xs:=#[.tmp 32,.tmp 35]) rfl ?_);at_builtin;refine Kd.R_append (Kd.int .i64) (w0:=w) w.heap.size rfl (.tmp 32) (.tmp 35) 23 3 (.int .i64 0) 8 rfl Tryd.underlying23 info3 rfl (zz26) (zz1) u9 x9_1 ((rd_T44 l1 x24_1).f1) [.int .i64 ((rd_T44 l1 x24_1).f1)] (fun _=>True) (fun _=>False) rfl (by first|(go_simp;done)|(go_simp;rfl)) ?aP (fun _ hk=>hk.elim) ?aF ?aO ?aB ?aS ?aL ?_;(case aP=>exact rfl);(case aB=>exact (have h0_:=GE201;zz6));(case aF=>exact zz166);(case aO=>exact (by (with_reducible repeat (first|apply Kd.R_alloc|apply Kd.R_drewN|apply Kd.R_drew));exact Kd.R_mono (Kd.R_far (p:=⟨gb201,1,none⟩) (Kd.R_far (p:=⟨gb201,0,none⟩) (Kd.R_types HO_9.out BK201.out (zz26)) (fun _ hk=>hk.2) (.int .i64 ((rd_T44 l1 x24_1).f0))) (fun _ hk=>hk.2) (.int .i64 ((rd_T44 l1 x24_1).f1))) (fun _ hk=>trivial)));(case aS=>exact (wB (have h0_:=GE201;zz6)));(case aL=>have:=LMc11.out;omega);intro v203 w14 ho hb hg hat;rw [← Ny202.out] at ho;replace BK201:=wA.mk (blk_grown (g:=gb201) (o:=.cells #[.int .i64 ((rd_T44 l1 x24_1).f0),.int .i64 ((rd_T44 l1 x24_1).f1)] 44 (0,0)) (by (with_reducible repeat (first|refine wE ?_ _|refine wG ?_|refine wD ?_ _));refine wP (cs:=#[.int .i64 ((rd_T44 l1 x24_1).f0),.int .i64 0]) ?_ 1 _ rfl;(with_reducible repeat (first|refine wE ?_ _|refine wG ?_|refine wD ?_ _));refine wP (cs:=#[.int .i64 0,.int .i64 0]) ?_ 0 _ rfl;(with_reducible repeat (first|refine wE ?_ _|refine wG ?_|refine wD ?_ _));exact BK201.out) hg (Kd.R_ne HO_9.out BK201.out (zz26)));replace HB:=wA.mk (hb);have HO204:=wA.mk (ho);clear HO_9;clear ho hb hg hat))
      go_roundg k1
      case measure=>have:=HK1.out;omega
      case rel=>exact ⟨(y202),(wrap64 (x24_1+1)),(zz2),H',⟨zz5⟩,⟨(have h0_:=HO204;zz31)⟩,⟨(have h0_:=GE201;zz6)⟩⟩
     ·have c10b0:=beq_eq_false_iff_ne.mpr c10;have c10b1:=bne_iff_ne.mpr c10;have H':=wA.mk H;clear H;have p200:0≤(x24_1:Int):=qL (zz4);have q200:x24_1 < (l1.length:Int):=qL (zz4);obtain ⟨ad200,e200,hx200_0,hx200_1⟩:=at_T44 HR1.out x24_1 p200 q200
      cases e200
      replace hx200_0:=(HB.out.cell (qK w _ hx200_0)).trans hx200_0;replace hx200_1:=(HB.out.cell (qK w _ hx200_1)).trans hx200_1;replace p200:=eq_true p200;replace q200:=eq_true q200
      go_wp2_with (first|((with_reducible refine wL (N:=11) rfl ?_);refine wM ?hg (N:=11) ?hd (cs:=#[.int .i64 0,.int .i64 0]) (t:=44) ?hr ?_;(case hd=>rfl);(case hg=>rfl);(case hr=>exact zz156);intro gb201 hg w15 hbox hb;replace HO_9:=wA.mk (Kd.R_below (zz36) hb);have BK201:=wA.mk (hbox);have GW201:=wA.mk ((by rw [hg];exact (wB (zz3)):w.heap.size≤gb201));have GE201:=wA.mk ((by rw [hg];exact (wB (zz3)):w.heap.size≤gb201));replace HB:=wA.mk (wC (zz3) hb);clear hb hbox hg;obtain ⟨hcz16_0,hcz16_1,hfz16_0,hfz16_1⟩:=zc2 BK201.out))
      go_roundg k1
      case measure=>have:=HK1.out;omega
      case rel=>exact ⟨(x9_1),(wrap64 (x24_1+1)),(zz2),H',⟨zz5⟩,⟨by (with_reducible repeat (first|apply Kd.R_alloc|apply Kd.R_drewN|apply Kd.R_drew));exact Kd.R_mono (Kd.R_far (p:=⟨gb201,1,none⟩) (Kd.R_far (p:=⟨gb201,0,none⟩) (Kd.R_types HO_9.out BK201.out (zz26)) (fun _ hk=>hk.2) (.int .i64 ((rd_T44 l1 x24_1).f0))) (fun _ hk=>hk.2) (.int .i64 ((rd_T44 l1 x24_1).f1))) (fun _ hk=>trivial)⟩,⟨(have h0_:=GE201;zz6)⟩⟩
    ·have c7b0:=qN c7;clear c7;replace H:=zzj H;rcases H with ⟨c17,H⟩|⟨c17,H⟩
     ·have c17b0:=beq_iff_eq.mpr c17;have c17b1:=bne_eq_false_iff_eq.mpr c17;clear c17;have H':=wA.mk H;clear H;obtain ⟨Ao18,co18,eo18⟩:=Kd.R_slice HO_9.out;subst eo18
      go_wp2
      go_loopg [12,13,43] k1 (fun kq v12 v13 v43 w'=>∃ (x12_2:Int) (x13_2:Int) (x43_2:Int),v12 = .int .i64 x12_2∧v13 = .int .i64 x13_2∧v43 = .int .i64 x43_2∧wA (U36.l1 kq l1 a2 x9_1 x12_2 x13_2 l0 (l0.length:Int) x43_2 = some (r1,r2))∧wA (kq≤k1)∧wA (Kd.R (Kd.int .i64) 3 w' w.heap.size (fun _=>True) (.slice Ao18 x9_1.length co18) x9_1)∧wA (Below w.heap.size w w'))
      case atStart=>exact ⟨(0),(0),(0),(zz2),(zz2),(zz2),H',⟨Nat.le_refl _⟩,⟨zz36⟩,⟨zz3⟩⟩
      case round =>
       clear H';clear c7b0 c17b0 c17b1;obtain ⟨x12_2,x13_2,x43_2,rfl,rfl,rfl,HA,HK2,HO_9,HB⟩:=hrel
       cases gk with
       | zero=>exact absurd HA.out (by simp [U36.l1])
       | succ k2 =>
        have H:=HA.out;clear HA;simp only [U36.l1] at H;replace H:=zzj H;rcases H with ⟨c19,H⟩|⟨c19,H⟩
        ·have c19b0:=qM c19;clear c19;replace H:=zzi H;obtain ⟨c20,H⟩:=H;have c20b0:=qM c20;clear c20;replace H:=zzi H;obtain ⟨c21,H⟩:=H;have c21b0:=qM c21;clear c21;replace H:=zzb H;obtain ⟨t207,A22,H⟩:=H;replace H:=zzb H;obtain ⟨t208,A23,H⟩:=H;by_cases c24:t208 = true
         ·subst c24;have H1:((U56.f k2 x9_1 ((rd_T26 l0 x43_2).f0)).bind fun t209=>(if t209 = true then (U36.l1 k2 l1 a2 x9_1 x12_2 x13_2 l0 (l0.length:Int) (wrap64 (x43_2+1))) else (if t207 < ((rd_T26 l0 x43_2).f1) then (if x12_2 = 0 then (U36.l1 k2 l1 a2 x9_1 ((rd_T26 l0 x43_2).f0) t207 l0 (l0.length:Int) (wrap64 (x43_2+1))) else (if t207 < x13_2 then (U36.l1 k2 l1 a2 x9_1 ((rd_T26 l0 x43_2).f0) t207 l0 (l0.length:Int) (wrap64 (x43_2+1))) else (U36.l1 k2 l1 a2 x9_1 x12_2 x13_2 l0 (l0.length:Int) (wrap64 (x43_2+1))))) else (U36.l1 k2 l1 a2 x9_1 x12_2 x13_2 l0 (l0.length:Int) (wrap64 (x43_2+1)))))) = some (r1,r2):=zz18;clear H;have H:=H1;clear H1;replace H:=zzb H;obtain ⟨t209,A25,H⟩:=H;by_cases c26:t209 = true
          ·subst c26;have H1:(U36.l1 k2 l1 a2 x9_1 x12_2 x13_2 l0 (l0.length:Int) (wrap64 (x43_2+1))) = some (r1,r2):=zz18;clear H;have H:=H1;clear H1;have H':=wA.mk H;clear H;have p205:0≤(x43_2:Int):=qL (zz4);have q205:x43_2 < (l0.length:Int):=qL (zz4);obtain ⟨ad205,A205_2,c205_2,e205,hx205_0,hx205_1,hx205_2,hl205_2,hi205_2⟩:=at_T26 HR0.out x43_2 p205 q205
           cases e205
           replace hx205_0:=(HB.out.cell (qK w _ hx205_0)).trans hx205_0;replace hx205_1:=(HB.out.cell (qK w _ hx205_1)).trans hx205_1;replace hx205_2:=(HB.out.cell (qK w _ hx205_2)).trans hx205_2;have HR205_2:=wA.mk hi205_2;have HC205_2:=wA.mk hl205_2;clear hi205_2 hl205_2;replace p205:=eq_true p205;replace q205:=eq_true q205
           go_wp2_with (first|((with_reducible refine wL (N:=15) rfl ?_);refine wM ?hg (N:=15) ?hd (cs:=#[.int .i64 0,.int .i64 0,.slice none 0 0]) (t:=26) ?hr ?_;(case hd=>rfl);(case hg=>rfl);(case hr=>exact zz156);intro gb206 hg w27 hbox hb;replace HO_9:=wA.mk (Kd.R_below (zz36) hb);have BK206:=wA.mk (hbox);have GW206:=wA.mk ((by rw [hg];exact (wB (zz3)):w.heap.size≤gb206));have GE206:=wA.mk ((by rw [hg];exact (wB (zz3)):w.heap.size≤gb206));replace HB:=wA.mk (wC (zz3) hb);clear hb hbox hg;obtain ⟨hcz28_0,hcz28_1,hcz28_2,hfz28_0,hfz28_1,hfz28_2⟩:=zc3 BK206.out)|((with_reducible refine wI (f:=15) rfl ?_);refine wR (some 50) rfl rfl Tryd.func15 (zz0) rfl #[.slice A1 l1.length c1,.int .i64 ((rd_T26 l0 x43_2).f0)] rfl (zz20) ?_;(with_reducible refine (U34.calls k2 _ _ l1 ((rd_T26 l0 x43_2).f0) t207 _ ?_ ?_ A22.out).mono ?_);exact zz167;exact HC1.out;rintro e w29 ⟨rfl,hb⟩;refine ⟨_,rfl,?_⟩;replace HO_9:=wA.mk (Kd.R_below (zz38) hb);replace BK206:=wA.mk (wF (g:=gb206) (o:=.cells #[.int .i64 ((rd_T26 l0 x43_2).f0),.int .i64 ((rd_T26 l0 x43_2).f1),.slice A205_2 ((rd_T26 l0 x43_2).f2).length c205_2] 26 (0,0)) (have h0_:=BK206;zz17) hb);replace HB:=wA.mk (wC (zz37) hb);(try clear hb);obtain ⟨hcz30_0,hcz30_1,hcz30_2,hfz30_0,hfz30_1,hfz30_2⟩:=zc3 BK206.out)|((with_reducible refine wI (f:=13) rfl ?_);refine wR (some 53) rfl rfl Tryd.func13 (zz0) rfl #[.agg #[.int .i64 ((rd_T26 l0 x43_2).f0),.int .i64 ((rd_T26 l0 x43_2).f1),.slice A205_2 ((rd_T26 l0 x43_2).f2).length c205_2],.int .i64 a2] rfl (zz20) ?_;(with_reducible refine (U35.calls k2 ((rd_T26 l0 x43_2).f0) ((rd_T26 l0 x43_2).f1) _ _ ((rd_T26 l0 x43_2).f2) a2 true _ ?_ ?_ A23.out).mono ?_);(exact (have h0_:=HR205_2;zz157));exact HC205_2.out;rintro e w31 ⟨rfl,hb⟩;refine ⟨_,rfl,?_⟩;replace HO_9:=wA.mk (Kd.R_below (zz36) hb);replace BK206:=wA.mk (wF (have h0_:=BK206;zz23) hb);replace HB:=wA.mk (wC (zz37) hb);(try clear hb);obtain ⟨hcz32_0,hcz32_1,hcz32_2,hfz32_0,hfz32_1,hfz32_2⟩:=zc3 BK206.out)|(go_at_call 36;(with_reducible refine (U56.calls k2 _ _ x9_1 ((rd_T26 l0 x43_2).f0) true _ ?_ ?_ A25.out).mono ?_);(exact (have h0_:=HO_9;zz162));exact zz168;rintro e w' ⟨rfl,⟨nd,rfl⟩⟩))
           go_roundg k2
           case measure=>have:=HK1.out;have:=HK2.out;omega
           case rel=>exact ⟨(x12_2),(x13_2),(wrap64 (x43_2+1)),(zz2),(zz2),(zz2),H',⟨zz27⟩,⟨zz36⟩,⟨zz37⟩⟩
          ·replace c26:=Bool.eq_false_iff.mpr c26;subst c26;have H1:(if t207 < ((rd_T26 l0 x43_2).f1) then (if x12_2 = 0 then (U36.l1 k2 l1 a2 x9_1 ((rd_T26 l0 x43_2).f0) t207 l0 (l0.length:Int) (wrap64 (x43_2+1))) else (if t207 < x13_2 then (U36.l1 k2 l1 a2 x9_1 ((rd_T26 l0 x43_2).f0) t207 l0 (l0.length:Int) (wrap64 (x43_2+1))) else (U36.l1 k2 l1 a2 x9_1 x12_2 x13_2 l0 (l0.length:Int) (wrap64 (x43_2+1))))) else (U36.l1 k2 l1 a2 x9_1 x12_2 x13_2 l0 (l0.length:Int) (wrap64 (x43_2+1)))) = some (r1,r2):=zz19;clear H;have H:=H1;clear H1;replace H:=zzj H;rcases H with ⟨c33,H⟩|⟨c33,H⟩
           ·have c33b0:=qM c33;clear c33;replace H:=zzj H;rcases H with ⟨c34,H⟩|⟨c34,H⟩
            ·have c34b0:=beq_iff_eq.mpr c34;have c34b1:=bne_eq_false_iff_eq.mpr c34;clear c34;have H':=wA.mk H;clear H;have p205:0≤(x43_2:Int):=qL (zz4);have q205:x43_2 < (l0.length:Int):=qL (zz4);obtain ⟨ad205,A205_2,c205_2,e205,hx205_0,hx205_1,hx205_2,hl205_2,hi205_2⟩:=at_T26 HR0.out x43_2 p205 q205
             cases e205
             replace hx205_0:=(HB.out.cell (qK w _ hx205_0)).trans hx205_0;replace hx205_1:=(HB.out.cell (qK w _ hx205_1)).trans hx205_1;replace hx205_2:=(HB.out.cell (qK w _ hx205_2)).trans hx205_2;have HR205_2:=wA.mk hi205_2;have HC205_2:=wA.mk hl205_2;clear hi205_2 hl205_2;replace p205:=eq_true p205;replace q205:=eq_true q205
             go_wp2_with (first|((with_reducible refine wL (N:=15) rfl ?_);refine wM ?hg (N:=15) ?hd (cs:=#[.int .i64 0,.int .i64 0,.slice none 0 0]) (t:=26) ?hr ?_;(case hd=>rfl);(case hg=>rfl);(case hr=>exact zz156);intro gb206 hg w35 hbox hb;replace HO_9:=wA.mk (Kd.R_below (zz36) hb);have BK206:=wA.mk (hbox);have GW206:=wA.mk ((by rw [hg];exact (wB (zz3)):w.heap.size≤gb206));have GE206:=wA.mk ((by rw [hg];exact (wB (zz3)):w.heap.size≤gb206));replace HB:=wA.mk (wC (zz3) hb);clear hb hbox hg;obtain ⟨hcz36_0,hcz36_1,hcz36_2,hfz36_0,hfz36_1,hfz36_2⟩:=zc3 BK206.out)|((with_reducible refine wI (f:=15) rfl ?_);refine wR (some 50) rfl rfl Tryd.func15 (zz0) rfl #[.slice A1 l1.length c1,.int .i64 ((rd_T26 l0 x43_2).f0)] rfl (zz20) ?_;(with_reducible refine (U34.calls k2 _ _ l1 ((rd_T26 l0 x43_2).f0) t207 _ ?_ ?_ A22.out).mono ?_);exact zz167;exact HC1.out;rintro e w37 ⟨rfl,hb⟩;refine ⟨_,rfl,?_⟩;replace HO_9:=wA.mk (Kd.R_below (zz38) hb);replace BK206:=wA.mk (wF (g:=gb206) (o:=.cells #[.int .i64 ((rd_T26 l0 x43_2).f0),.int .i64 ((rd_T26 l0 x43_2).f1),.slice A205_2 ((rd_T26 l0 x43_2).f2).length c205_2] 26 (0,0)) (have h0_:=BK206;zz17) hb);replace HB:=wA.mk (wC (zz37) hb);(try clear hb);obtain ⟨hcz38_0,hcz38_1,hcz38_2,hfz38_0,hfz38_1,hfz38_2⟩:=zc3 BK206.out)|((with_reducible refine wI (f:=13) rfl ?_);refine wR (some 53) rfl rfl Tryd.func13 (zz0) rfl #[.agg #[.int .i64 ((rd_T26 l0 x43_2).f0),.int .i64 ((rd_T26 l0 x43_2).f1),.slice A205_2 ((rd_T26 l0 x43_2).f2).length c205_2],.int .i64 a2] rfl (zz20) ?_;(with_reducible refine (U35.calls k2 ((rd_T26 l0 x43_2).f0) ((rd_T26 l0 x43_2).f1) _ _ ((rd_T26 l0 x43_2).f2) a2 true _ ?_ ?_ A23.out).mono ?_);(exact (have h0_:=HR205_2;zz157));exact HC205_2.out;rintro e w39 ⟨rfl,hb⟩;refine ⟨_,rfl,?_⟩;replace HO_9:=wA.mk (Kd.R_below (zz36) hb);replace BK206:=wA.mk (wF (have h0_:=BK206;zz23) hb);replace HB:=wA.mk (wC (zz37) hb);(try clear hb);obtain ⟨hcz40_0,hcz40_1,hcz40_2,hfz40_0,hfz40_1,hfz40_2⟩:=zc3 BK206.out)|(go_at_call 36;(with_reducible refine (U56.calls k2 _ _ x9_1 ((rd_T26 l0 x43_2).f0) false _ ?_ ?_ A25.out).mono ?_);(exact (have h0_:=HO_9;zz162));exact zz168;rintro e w' ⟨rfl,⟨nd,rfl⟩⟩))
             go_roundg k2
             case measure=>have:=HK1.out;have:=HK2.out;omega
             case rel=>exact ⟨((rd_T26 l0 x43_2).f0),(t207),(wrap64 (x43_2+1)),(zz2),(zz2),(zz2),H',⟨zz27⟩,⟨zz36⟩,⟨zz37⟩⟩
            ·have c34b0:=beq_eq_false_iff_ne.mpr c34;have c34b1:=bne_iff_ne.mpr c34;replace H:=zzj H;rcases H with ⟨c41,H⟩|⟨c41,H⟩
             ·have c41b0:=qM c41;clear c41;have H':=wA.mk H;clear H;have p205:0≤(x43_2:Int):=qL (zz4);have q205:x43_2 < (l0.length:Int):=qL (zz4);obtain ⟨ad205,A205_2,c205_2,e205,hx205_0,hx205_1,hx205_2,hl205_2,hi205_2⟩:=at_T26 HR0.out x43_2 p205 q205
              cases e205
              replace hx205_0:=(HB.out.cell (qK w _ hx205_0)).trans hx205_0;replace hx205_1:=(HB.out.cell (qK w _ hx205_1)).trans hx205_1;replace hx205_2:=(HB.out.cell (qK w _ hx205_2)).trans hx205_2;have HR205_2:=wA.mk hi205_2;have HC205_2:=wA.mk hl205_2;clear hi205_2 hl205_2;replace p205:=eq_true p205;replace q205:=eq_true q205
              go_wp2_with (first|((with_reducible refine wL (N:=15) rfl ?_);refine wM ?hg (N:=15) ?hd (cs:=#[.int .i64 0,.int .i64 0,.slice none 0 0]) (t:=26) ?hr ?_;(case hd=>rfl);(case hg=>rfl);(case hr=>exact zz156);intro gb206 hg w42 hbox hb;replace HO_9:=wA.mk (Kd.R_below (zz36) hb);have BK206:=wA.mk (hbox);have GW206:=wA.mk ((by rw [hg];exact (wB (zz3)):w.heap.size≤gb206));have GE206:=wA.mk ((by rw [hg];exact (wB (zz3)):w.heap.size≤gb206));replace HB:=wA.mk (wC (zz3) hb);clear hb hbox hg;obtain ⟨hcz43_0,hcz43_1,hcz43_2,hfz43_0,hfz43_1,hfz43_2⟩:=zc3 BK206.out)|((with_reducible refine wI (f:=15) rfl ?_);refine wR (some 50) rfl rfl Tryd.func15 (zz0) rfl #[.slice A1 l1.length c1,.int .i64 ((rd_T26 l0 x43_2).f0)] rfl (zz20) ?_;(with_reducible refine (U34.calls k2 _ _ l1 ((rd_T26 l0 x43_2).f0) t207 _ ?_ ?_ A22.out).mono ?_);exact zz167;exact HC1.out;rintro e w44 ⟨rfl,hb⟩;refine ⟨_,rfl,?_⟩;replace HO_9:=wA.mk (Kd.R_below (zz38) hb);replace BK206:=wA.mk (wF (g:=gb206) (o:=.cells #[.int .i64 ((rd_T26 l0 x43_2).f0),.int .i64 ((rd_T26 l0 x43_2).f1),.slice A205_2 ((rd_T26 l0 x43_2).f2).length c205_2] 26 (0,0)) (have h0_:=BK206;zz17) hb);replace HB:=wA.mk (wC (zz37) hb);(try clear hb);obtain ⟨hcz45_0,hcz45_1,hcz45_2,hfz45_0,hfz45_1,hfz45_2⟩:=zc3 BK206.out)|((with_reducible refine wI (f:=13) rfl ?_);refine wR (some 53) rfl rfl Tryd.func13 (zz0) rfl #[.agg #[.int .i64 ((rd_T26 l0 x43_2).f0),.int .i64 ((rd_T26 l0 x43_2).f1),.slice A205_2 ((rd_T26 l0 x43_2).f2).length c205_2],.int .i64 a2] rfl (zz20) ?_;(with_reducible refine (U35.calls k2 ((rd_T26 l0 x43_2).f0) ((rd_T26 l0 x43_2).f1) _ _ ((rd_T26 l0 x43_2).f2) a2 true _ ?_ ?_ A23.out).mono ?_);(exact (have h0_:=HR205_2;zz157));exact HC205_2.out;rintro e w46 ⟨rfl,hb⟩;refine ⟨_,rfl,?_⟩;replace HO_9:=wA.mk (Kd.R_below (zz36) hb);replace BK206:=wA.mk (wF (have h0_:=BK206;zz23) hb);replace HB:=wA.mk (wC (zz37) hb);(try clear hb);obtain ⟨hcz47_0,hcz47_1,hcz47_2,hfz47_0,hfz47_1,hfz47_2⟩:=zc3 BK206.out)|(go_at_call 36;(with_reducible refine (U56.calls k2 _ _ x9_1 ((rd_T26 l0 x43_2).f0) false _ ?_ ?_ A25.out).mono ?_);(exact (have h0_:=HO_9;zz162));exact zz168;rintro e w' ⟨rfl,⟨nd,rfl⟩⟩))
              go_roundg k2
              case measure=>have:=HK1.out;have:=HK2.out;omega
              case rel=>exact ⟨((rd_T26 l0 x43_2).f0),(t207),(wrap64 (x43_2+1)),(zz2),(zz2),(zz2),H',⟨zz27⟩,⟨zz36⟩,⟨zz37⟩⟩
             ·have c41b0:=qN c41;clear c41;have H':=wA.mk H;clear H;have p205:0≤(x43_2:Int):=qL (zz4);have q205:x43_2 < (l0.length:Int):=qL (zz4);obtain ⟨ad205,A205_2,c205_2,e205,hx205_0,hx205_1,hx205_2,hl205_2,hi205_2⟩:=at_T26 HR0.out x43_2 p205 q205
              cases e205
              replace hx205_0:=(HB.out.cell (qK w _ hx205_0)).trans hx205_0;replace hx205_1:=(HB.out.cell (qK w _ hx205_1)).trans hx205_1;replace hx205_2:=(HB.out.cell (qK w _ hx205_2)).trans hx205_2;have HR205_2:=wA.mk hi205_2;have HC205_2:=wA.mk hl205_2;clear hi205_2 hl205_2;replace p205:=eq_true p205;replace q205:=eq_true q205
              go_wp2_with (first|((with_reducible refine wL (N:=15) rfl ?_);refine wM ?hg (N:=15) ?hd (cs:=#[.int .i64 0,.int .i64 0,.slice none 0 0]) (t:=26) ?hr ?_;(case hd=>rfl);(case hg=>rfl);(case hr=>exact zz156);intro gb206 hg w48 hbox hb;replace HO_9:=wA.mk (Kd.R_below (zz36) hb);have BK206:=wA.mk (hbox);have GW206:=wA.mk ((by rw [hg];exact (wB (zz3)):w.heap.size≤gb206));have GE206:=wA.mk ((by rw [hg];exact (wB (zz3)):w.heap.size≤gb206));replace HB:=wA.mk (wC (zz3) hb);clear hb hbox hg;obtain ⟨hcz49_0,hcz49_1,hcz49_2,hfz49_0,hfz49_1,hfz49_2⟩:=zc3 BK206.out)|((with_reducible refine wI (f:=15) rfl ?_);refine wR (some 50) rfl rfl Tryd.func15 (zz0) rfl #[.slice A1 l1.length c1,.int .i64 ((rd_T26 l0 x43_2).f0)] rfl (zz20) ?_;(with_reducible refine (U34.calls k2 _ _ l1 ((rd_T26 l0 x43_2).f0) t207 _ ?_ ?_ A22.out).mono ?_);exact zz167;exact HC1.out;rintro e w50 ⟨rfl,hb⟩;refine ⟨_,rfl,?_⟩;replace HO_9:=wA.mk (Kd.R_below (zz38) hb);replace BK206:=wA.mk (wF (g:=gb206) (o:=.cells #[.int .i64 ((rd_T26 l0 x43_2).f0),.int .i64 ((rd_T26 l0 x43_2).f1),.slice A205_2 ((rd_T26 l0 x43_2).f2).length c205_2] 26 (0,0)) (have h0_:=BK206;zz17) hb);replace HB:=wA.mk (wC (zz37) hb);(try clear hb);obtain ⟨hcz51_0,hcz51_1,hcz51_2,hfz51_0,hfz51_1,hfz51_2⟩:=zc3 BK206.out)|((with_reducible refine wI (f:=13) rfl ?_);refine wR (some 53) rfl rfl Tryd.func13 (zz0) rfl #[.agg #[.int .i64 ((rd_T26 l0 x43_2).f0),.int .i64 ((rd_T26 l0 x43_2).f1),.slice A205_2 ((rd_T26 l0 x43_2).f2).length c205_2],.int .i64 a2] rfl (zz20) ?_;(with_reducible refine (U35.calls k2 ((rd_T26 l0 x43_2).f0) ((rd_T26 l0 x43_2).f1) _ _ ((rd_T26 l0 x43_2).f2) a2 true _ ?_ ?_ A23.out).mono ?_);(exact (have h0_:=HR205_2;zz157));exact HC205_2.out;rintro e w52 ⟨rfl,hb⟩;refine ⟨_,rfl,?_⟩;replace HO_9:=wA.mk (Kd.R_below (zz36) hb);replace BK206:=wA.mk (wF (have h0_:=BK206;zz23) hb);replace HB:=wA.mk (wC (zz37) hb);(try clear hb);obtain ⟨hcz53_0,hcz53_1,hcz53_2,hfz53_0,hfz53_1,hfz53_2⟩:=zc3 BK206.out)|(go_at_call 36;(with_reducible refine (U56.calls k2 _ _ x9_1 ((rd_T26 l0 x43_2).f0) false _ ?_ ?_ A25.out).mono ?_);(exact (have h0_:=HO_9;zz162));exact zz168;rintro e w' ⟨rfl,⟨nd,rfl⟩⟩))
              go_roundg k2
              case measure=>have:=HK1.out;have:=HK2.out;omega
              case rel=>exact ⟨(x12_2),(x13_2),(wrap64 (x43_2+1)),(zz2),(zz2),(zz2),H',⟨zz27⟩,⟨zz36⟩,⟨zz37⟩⟩
           ·have c33b0:=qN c33;clear c33;have H':=wA.mk H;clear H;have p205:0≤(x43_2:Int):=qL (zz4);have q205:x43_2 < (l0.length:Int):=qL (zz4);obtain ⟨ad205,A205_2,c205_2,e205,hx205_0,hx205_1,hx205_2,hl205_2,hi205_2⟩:=at_T26 HR0.out x43_2 p205 q205
            cases e205
            replace hx205_0:=(HB.out.cell (qK w _ hx205_0)).trans hx205_0;replace hx205_1:=(HB.out.cell (qK w _ hx205_1)).trans hx205_1;replace hx205_2:=(HB.out.cell (qK w _ hx205_2)).trans hx205_2;have HR205_2:=wA.mk hi205_2;have HC205_2:=wA.mk hl205_2;clear hi205_2 hl205_2;replace p205:=eq_true p205;replace q205:=eq_true q205
            go_wp2_with (first|((with_reducible refine wL (N:=15) rfl ?_);refine wM ?hg (N:=15) ?hd (cs:=#[.int .i64 0,.int .i64 0,.slice none 0 0]) (t:=26) ?hr ?_;(case hd=>rfl);(case hg=>rfl);(case hr=>exact zz156);intro gb206 hg w54 hbox hb;replace HO_9:=wA.mk (Kd.R_below (zz36) hb);have BK206:=wA.mk (hbox);have GW206:=wA.mk ((by rw [hg];exact (wB (zz3)):w.heap.size≤gb206));have GE206:=wA.mk ((by rw [hg];exact (wB (zz3)):w.heap.size≤gb206));replace HB:=wA.mk (wC (zz3) hb);clear hb hbox hg;obtain ⟨hcz55_0,hcz55_1,hcz55_2,hfz55_0,hfz55_1,hfz55_2⟩:=zc3 BK206.out)|((with_reducible refine wI (f:=15) rfl ?_);refine wR (some 50) rfl rfl Tryd.func15 (zz0) rfl #[.slice A1 l1.length c1,.int .i64 ((rd_T26 l0 x43_2).f0)] rfl (zz20) ?_;(with_reducible refine (U34.calls k2 _ _ l1 ((rd_T26 l0 x43_2).f0) t207 _ ?_ ?_ A22.out).mono ?_);exact zz167;exact HC1.out;rintro e w56 ⟨rfl,hb⟩;refine ⟨_,rfl,?_⟩;replace HO_9:=wA.mk (Kd.R_below (zz38) hb);replace BK206:=wA.mk (wF (g:=gb206) (o:=.cells #[.int .i64 ((rd_T26 l0 x43_2).f0),.int .i64 ((rd_T26 l0 x43_2).f1),.slice A205_2 ((rd_T26 l0 x43_2).f2).length c205_2] 26 (0,0)) (have h0_:=BK206;zz17) hb);replace HB:=wA.mk (wC (zz37) hb);(try clear hb);obtain ⟨hcz57_0,hcz57_1,hcz57_2,hfz57_0,hfz57_1,hfz57_2⟩:=zc3 BK206.out)|((with_reducible refine wI (f:=13) rfl ?_);refine wR (some 53) rfl rfl Tryd.func13 (zz0) rfl #[.agg #[.int .i64 ((rd_T26 l0 x43_2).f0),.int .i64 ((rd_T26 l0 x43_2).f1),.slice A205_2 ((rd_T26 l0 x43_2).f2).length c205_2],.int .i64 a2] rfl (zz20) ?_;(with_reducible refine (U35.calls k2 ((rd_T26 l0 x43_2).f0) ((rd_T26 l0 x43_2).f1) _ _ ((rd_T26 l0 x43_2).f2) a2 true _ ?_ ?_ A23.out).mono ?_);(exact (have h0_:=HR205_2;zz157));exact HC205_2.out;rintro e w58 ⟨rfl,hb⟩;refine ⟨_,rfl,?_⟩;replace HO_9:=wA.mk (Kd.R_below (zz36) hb);replace BK206:=wA.mk (wF (have h0_:=BK206;zz23) hb);replace HB:=wA.mk (wC (zz37) hb);(try clear hb);obtain ⟨hcz59_0,hcz59_1,hcz59_2,hfz59_0,hfz59_1,hfz59_2⟩:=zc3 BK206.out)|(go_at_call 36;(with_reducible refine (U56.calls k2 _ _ x9_1 ((rd_T26 l0 x43_2).f0) false _ ?_ ?_ A25.out).mono ?_);(exact (have h0_:=HO_9;zz162));exact zz168;rintro e w' ⟨rfl,⟨nd,rfl⟩⟩))
            go_roundg k2
            case measure=>have:=HK1.out;have:=HK2.out;omega
            case rel=>exact ⟨(x12_2),(x13_2),(wrap64 (x43_2+1)),(zz2),(zz2),(zz2),H',⟨zz27⟩,⟨zz36⟩,⟨zz37⟩⟩
         ·replace c24:=Bool.eq_false_iff.mpr c24;subst c24;have H1:(U36.l1 k2 l1 a2 x9_1 x12_2 x13_2 l0 (l0.length:Int) (wrap64 (x43_2+1))) = some (r1,r2):=zz19;clear H;have H:=H1;clear H1;have H':=wA.mk H;clear H;have p205:0≤(x43_2:Int):=qL (zz4);have q205:x43_2 < (l0.length:Int):=qL (zz4);obtain ⟨ad205,A205_2,c205_2,e205,hx205_0,hx205_1,hx205_2,hl205_2,hi205_2⟩:=at_T26 HR0.out x43_2 p205 q205
          cases e205
          replace hx205_0:=(HB.out.cell (qK w _ hx205_0)).trans hx205_0;replace hx205_1:=(HB.out.cell (qK w _ hx205_1)).trans hx205_1;replace hx205_2:=(HB.out.cell (qK w _ hx205_2)).trans hx205_2;have HR205_2:=wA.mk hi205_2;have HC205_2:=wA.mk hl205_2;clear hi205_2 hl205_2;replace p205:=eq_true p205;replace q205:=eq_true q205
          go_wp2_with (first|((with_reducible refine wL (N:=15) rfl ?_);refine wM ?hg (N:=15) ?hd (cs:=#[.int .i64 0,.int .i64 0,.slice none 0 0]) (t:=26) ?hr ?_;(case hd=>rfl);(case hg=>rfl);(case hr=>exact zz156);intro gb206 hg w60 hbox hb;replace HO_9:=wA.mk (Kd.R_below (zz36) hb);have BK206:=wA.mk (hbox);have GW206:=wA.mk ((by rw [hg];exact (wB (zz3)):w.heap.size≤gb206));have GE206:=wA.mk ((by rw [hg];exact (wB (zz3)):w.heap.size≤gb206));replace HB:=wA.mk (wC (zz3) hb);clear hb hbox hg;obtain ⟨hcz61_0,hcz61_1,hcz61_2,hfz61_0,hfz61_1,hfz61_2⟩:=zc3 BK206.out)|((with_reducible refine wI (f:=15) rfl ?_);refine wR (some 50) rfl rfl Tryd.func15 (zz0) rfl #[.slice A1 l1.length c1,.int .i64 ((rd_T26 l0 x43_2).f0)] rfl (zz20) ?_;(with_reducible refine (U34.calls k2 _ _ l1 ((rd_T26 l0 x43_2).f0) t207 _ ?_ ?_ A22.out).mono ?_);exact zz167;exact HC1.out;rintro e w62 ⟨rfl,hb⟩;refine ⟨_,rfl,?_⟩;replace HO_9:=wA.mk (Kd.R_below (zz38) hb);replace BK206:=wA.mk (wF (g:=gb206) (o:=.cells #[.int .i64 ((rd_T26 l0 x43_2).f0),.int .i64 ((rd_T26 l0 x43_2).f1),.slice A205_2 ((rd_T26 l0 x43_2).f2).length c205_2] 26 (0,0)) (have h0_:=BK206;zz17) hb);replace HB:=wA.mk (wC (zz37) hb);(try clear hb);obtain ⟨hcz63_0,hcz63_1,hcz63_2,hfz63_0,hfz63_1,hfz63_2⟩:=zc3 BK206.out)|((with_reducible refine wI (f:=13) rfl ?_);refine wR (some 53) rfl rfl Tryd.func13 (zz0) rfl #[.agg #[.int .i64 ((rd_T26 l0 x43_2).f0),.int .i64 ((rd_T26 l0 x43_2).f1),.slice A205_2 ((rd_T26 l0 x43_2).f2).length c205_2],.int .i64 a2] rfl (zz20) ?_;(with_reducible refine (U35.calls k2 ((rd_T26 l0 x43_2).f0) ((rd_T26 l0 x43_2).f1) _ _ ((rd_T26 l0 x43_2).f2) a2 false _ ?_ ?_ A23.out).mono ?_);(exact (have h0_:=HR205_2;zz157));exact HC205_2.out;rintro e w64 ⟨rfl,hb⟩;refine ⟨_,rfl,?_⟩;replace HO_9:=wA.mk (Kd.R_below (zz36) hb);replace BK206:=wA.mk (wF (have h0_:=BK206;zz23) hb);replace HB:=wA.mk (wC (zz37) hb);(try clear hb)))
          go_roundg k2
          case measure=>have:=HK1.out;have:=HK2.out;omega
          case rel=>exact ⟨(x12_2),(x13_2),(wrap64 (x43_2+1)),(zz2),(zz2),(zz2),H',⟨zz27⟩,⟨zz36⟩,⟨zz37⟩⟩
        ·have c19b0:=qN c19;clear c19;replace H:=zzj H;rcases H with ⟨c65,H⟩|⟨c65,H⟩
         ·have c65b0:=beq_iff_eq.mpr c65;have c65b1:=bne_eq_false_iff_eq.mpr c65;clear c65;simp only [Option.some.injEq,Prod.mk.injEq] at H;obtain ⟨rfl,rfl⟩:=H
          go_wp2
          go_ret2
          exact ⟨zz8,zz3⟩
         ·have c65b0:=beq_eq_false_iff_ne.mpr c65;have c65b1:=bne_iff_ne.mpr c65;simp only [Option.some.injEq,Prod.mk.injEq] at H;obtain ⟨rfl,rfl⟩:=H
          go_wp2
          go_ret2
          exact ⟨zz8,zz3⟩
     ·have c17b0:=beq_eq_false_iff_ne.mpr c17;have c17b1:=bne_iff_ne.mpr c17;simp only [Option.some.injEq,Prod.mk.injEq] at H;obtain ⟨rfl,rfl⟩:=H;obtain ⟨Ao66,co66,eo66⟩:=Kd.R_slice HO_9.out;subst eo66
      go_wp2
      go_ret2
      exact ⟨zz8,zz3⟩
 ·have c5b0:=beq_eq_false_iff_ne.mpr c5;have c5b1:=bne_iff_ne.mpr c5;simp only [Option.some.injEq,Prod.mk.injEq] at H;obtain ⟨rfl,rfl⟩:=H;go_enter Tryd.func21,Tryd.ntmps21
  go_wp2_with (first|((with_reducible refine wI (f:=9) rfl ?_);refine wR (some 18) rfl rfl Tryd.func9 (zz0) rfl #[.slice A0 l0.length c0] rfl (zz20) ?_;(with_reducible refine (U37.calls k _ _ l0 t199 _ ?_ ?_ A4.out).mono ?_);exact zz158;exact HC0.out;rintro e w67 ⟨rfl,hb⟩;refine ⟨_,rfl,?_⟩;replace HB:=wA.mk (wC (zz3) hb);(try clear hb)))
  go_ret2
  exact ⟨zz8,zz3⟩
def U43.j0:Nat→List Int→List Int→Bool→Option (Int)
 | 0,_,_,_=>none
 | k+1,x0,x1,x5=>if x5 = true then (some 5) else (if (x0.length:Int) = (x1.length:Int) then (if (x0.length:Int) = 0 then (some 20) else (some 0)) else (some 1))
def U43.f (k:Nat) (l0:List Int) (l1:List Int):Option (Int):=if (l0.length:Int) > 200 then (U43.j0 k l0 l1 true) else (U43.j0 k l0 l1 (decide ((l1.length:Int) > 200)))
theorem zm10_1 {P:Prop} (h:P:=by repeat' first|(with_reducible first|exact ih0 ..|exact LeO.refl _|exact LeO.none _|refine LeO.ite ?_ ?_|refine LeO.bind ?_ (fun _=>?_))|exact ih0 ..|exact LeO.none _|refine LeO.ite ?_ ?_|refine LeO.bind ?_ (fun _=>?_)):P:=h
theorem U43.mono_l:∀ k,(∀ y0 y1 y2,LeO (U43.j0 k y0 y1 y2) (U43.j0 (k+1) y0 y1 y2))
 | 0=>fun _ _ _ r h=>by simp [U43.j0] at h
 | k+1=>by
  have ih0:=U43.mono_l k
  ·intro y0 y1 y2;unfold U43.j0
   exact zm10_1
theorem U43.mono:∀ a0 a1 k,LeO (U43.f k a0 a1) (U43.f (k+1) a0 a1):=by
 intro a0 a1 k;have ih0:=U43.mono_l k;unfold U43.f
 exact zm10_1
set_option maxHeartbeats 8000000 in
set_option maxRecDepth 100000 in
theorem U43.calls (k:Nat) (A0:Option Addr) (c0:Nat) (l0:List Int) (A1:Option Addr) (c1:Nat) (l1:List Int) (r:Int) (w:World) (hr0:Kd.C (Kd.int .i64) w A0 l0.length l0) (hc0:l0.length≤c0) (hr1:Kd.C (Kd.int .i64) w A1 l1.length l1) (hc1:l1.length≤c1) (h:U43.f k l0 l1 = some r) :
  Calls Tryd.prog 43 #[.slice A0 l0.length c0,.slice A1 l1.length c1] w fun e w'=>e = .returned (.int .i64 r)∧yM w w':=by
 have HR0:=wA.mk hr0;have HC0:=wA.mk hc0;clear hr0 hc0;have HR1:=wA.mk hr1;have HC1:=wA.mk hc1;clear hr1 hc1;have H:(if (l0.length:Int) > 200 then (U43.j0 k l0 l1 true) else (U43.j0 k l0 l1 (decide ((l1.length:Int) > 200)))) = some r:=h;clear h;have HC3:=wA.mk H;clear H;go_enter Tryd.func43,Tryd.ntmps43
 go_upto_region 1 with (fail)
 go_cut [5] (fun v5 wc=>∃ (kq:Nat) (x5_2:Bool),v5 = .bool x5_2∧wA (U43.j0 kq l0 l1 x5_2 = some r)∧wA (kq≤k)∧yM w wc)
 case first =>
  have H:=HC3.out;clear HC3;replace H:=zzj H;rcases H with ⟨c4,H⟩|⟨c4,H⟩
  ·have c4b0:=qM c4;have c4b1:decide (200 < l0.length) = true:=qM (zz1);clear c4
   (first|rw [c4b0]|rw [c4b1]|(simp only [yS,zF];rw [c4b0])|skip);have H':=wA.mk H;clear H
   go_wp2
   go_meet
   case rel=>exact ⟨_,(true),(zz2),H',⟨zz28⟩,zz9⟩
  ·have c4b0:=qN c4;have c4b1:decide (200 < l0.length) = false:=qN (zz1);clear c4
   (first|rw [c4b0]|rw [c4b1]|(simp only [yS,zF];rw [c4b0])|skip);have H':=wA.mk H;clear H
   go_wp2
   go_meet
   case rel=>exact ⟨_,(decide ((l1.length:Int) > 200)),(zz2),H',⟨zz28⟩,zz9⟩
 case rest =>
  clear HC3;(try clear c1);obtain ⟨kq,x5_2,rfl,HA,HJ2,⟨mc2,rfl⟩⟩:=hcut
  cases kq with
  | zero=>exact absurd HA.out (by simp [U43.j0])
  | succ kj2 =>
   have H:=HA.out;clear HA;simp only [U43.j0] at H;by_cases c5:x5_2 = true
   ·subst c5;have H1:(some 5) = some r:=zz18;clear H;have H:=H1;clear H1;obtain rfl:=Option.some.inj H
    go_wp2
    go_ret
    exact ⟨zz2,zz9⟩
   ·replace c5:=Bool.eq_false_iff.mpr c5;subst c5;have H1:(if (l0.length:Int) = (l1.length:Int) then (if (l0.length:Int) = 0 then (some 20) else (some 0)) else (some 1)) = some r:=zz19;clear H;have H:=H1;clear H1;replace H:=zzj H;rcases H with ⟨c6,H⟩|⟨c6,H⟩
    ·have c6b0:=beq_iff_eq.mpr c6;have c6b1:=bne_eq_false_iff_eq.mpr c6;have c6b2:(l0.length == l1.length) = true:=(have h0_:=c6;zz39);clear c6;replace H:=zzj H;rcases H with ⟨c7,H⟩|⟨c7,H⟩
     ·have c7b0:=beq_iff_eq.mpr c7;have c7b1:=bne_eq_false_iff_eq.mpr c7;clear c7;obtain rfl:=Option.some.inj H
      go_wp2
      go_ret
      exact ⟨zz2,zz9⟩
     ·have c7b0:=beq_eq_false_iff_ne.mpr c7;have c7b1:=bne_iff_ne.mpr c7;have c7b2:¬ (l0 = []):=fun h_=>c7 (by rw [h_];rfl);obtain rfl:=Option.some.inj H
      go_wp2
      go_ret
      exact ⟨zz2,zz9⟩
    ·have c6b0:=beq_eq_false_iff_ne.mpr c6;have c6b1:=bne_iff_ne.mpr c6;have c6b2:(l0.length == l1.length) = false:=(have h0_:=c6;zz39);obtain rfl:=Option.some.inj H
     go_wp2
     go_ret
     exact ⟨zz2,zz9⟩
def U29.l0:Nat→List Int→Int→Option (List Int)
 | 0,_,_=>none
 | k+1,x0,x3=>if x3 > 0 then (if 0≤(wrap64 (x3 - 1)) then (if (wrap64 (x3 - 1)) < (x0.length:Int) then (if (rd x0 (wrap64 (x3 - 1))) = 0 then (U29.l0 k x0 (wrap64 (x3 - 1))) else (if 0≤x3 then (if x3≤(x0.length:Int) then (some (x0.take (x3:Int).toNat)) else (none)) else (none))) else (none)) else (none)) else (if 0≤x3 then (if x3≤(x0.length:Int) then (some (x0.take (x3:Int).toNat)) else (none)) else (none))
def U29.f (k:Nat) (l0:List Int):Option (List Int):=U29.l0 k l0 (l0.length:Int)
theorem U29.mono_l:∀ k,(∀ y0 y1,LeO (U29.l0 k y0 y1) (U29.l0 (k+1) y0 y1))
 | 0=>fun _ _ r h=>by simp [U29.l0] at h
 | k+1=>by
  have ih0:=U29.mono_l k
  ·intro y0 y1;unfold U29.l0
   exact zm10_1
theorem U29.mono:∀ a0 k,LeO (U29.f k a0) (U29.f (k+1) a0):=by
 intro a0 k;have ih0:=U29.mono_l k;unfold U29.f
 exact zm10_1
set_option maxHeartbeats 8000000 in
set_option maxRecDepth 100000 in
theorem U29.calls (k:Nat) (P0_:Nat→Prop) (A0:Option Addr) (c0:Nat) (l0:List Int) (r:List Int) (w:World) (hs0:Kd.V (Kd.int .u32) 79 w w.heap.size (fun k_=>P0_ k_) (.slice A0 l0.length c0) l0) (h:U29.f k l0 = some r) :
  Calls Tryd.prog 70 #[.slice A0 l0.length c0] w fun e w'=>∃ v0_:Value,e = .returned (v0_)∧Kd.V (Kd.int .u32) 79 w' w.heap.size (fun k_=>(P0_ k_∨w.heap.size≤k_)) v0_ r∧Below w.heap.size w w':=by
 have HO0:=wA.mk (show Kd.V (Kd.int .u32) 79 w w.heap.size (fun k_=>(P0_ k_∨w.heap.size≤k_)) (.slice A0 l0.length c0) l0 from Kd.V_mono hs0 (fun k_ hk=>.inl hk));have HB:=wA.mk (Below.refl w.heap.size w);have H:(U29.l0 k l0 (l0.length:Int)) = some r:=h;clear h;have H':=wA.mk H;clear H;go_enter Tryd.func70,Tryd.ntmps70
 go_wp2
 go_loopg [3] k (fun kq v3 w'=>∃ (x3_1:Int),v3 = .int .i64 x3_1∧wA (U29.l0 kq l0 x3_1 = some r)∧wA (kq≤k)∧wA (Kd.V (Kd.int .u32) 79 w' w.heap.size (fun k_=>(P0_ k_∨w.heap.size≤k_)) (.slice A0 l0.length c0) l0)∧wA (Below w.heap.size w w'))
 case atStart=>exact ⟨((l0.length:Int)),(zz2),H',⟨Nat.le_refl _⟩,⟨zz40⟩,⟨zz3⟩⟩
 case round =>
  clear H';obtain ⟨x3_1,rfl,HA,HK1,HO_0,HB⟩:=hrel
  cases gk with
  | zero=>exact absurd HA.out (by simp [U29.l0])
  | succ k1 =>
   have H:=HA.out;clear HA;simp only [U29.l0] at H;replace H:=zzj H;rcases H with ⟨c2,H⟩|⟨c2,H⟩
   ·have c2b0:=qM c2;clear c2;obtain ⟨ji3,hji3⟩:∃ j_:Int,(wrap64 (x3_1 - 1)) = j_:=⟨_,rfl⟩;replace H:(if 0≤(ji3) then (if (ji3) < (l0.length:Int) then (if (rd l0 (ji3)) = 0 then (U29.l0 k1 l0 ji3) else (if 0≤x3_1 then (if x3_1≤(l0.length:Int) then (some (l0.take (x3_1:Int).toNat)) else (none)) else (none))) else (none)) else (none)) = some r:=(have h0_:=hji3;zz10);have hji3w:(IntKind.i64.wrap (x3_1 - 1)) = ji3:=(yS _).trans hji3;replace H:=zzi H;obtain ⟨c4,H⟩:=H;have c4b0:=qM c4;clear c4;replace H:=zzi H;obtain ⟨c5,H⟩:=H;have c5b0:=qM c5;clear c5;replace H:=zzj H;rcases H with ⟨c6,H⟩|⟨c6,H⟩
    ·have c6b0:=beq_iff_eq.mpr c6;have c6b1:=bne_eq_false_iff_eq.mpr c6;clear c6;have H':=wA.mk H;clear H;have p210:0≤((ji3):Int):=qL (zz4);have q210:(ji3) < (l0.length:Int):=qL (zz4);obtain ⟨ad210,e210,hx210_0⟩:=Kd.at_int (Kd.V_reads' HO_0.out).2.2 (ji3) p210 q210
     cases e210
     replace p210:=eq_true p210;replace q210:=eq_true q210
     go_wp2
     go_roundg k1
     case measure=>have:=HK1.out;omega
     case rel=>exact ⟨(ji3),(have h0_:=hji3;zz11),H',⟨zz5⟩,⟨(have h0_:=HO_0;zz41)⟩,⟨zz3⟩⟩
    ·have c6b0:=beq_eq_false_iff_ne.mpr c6;have c6b1:=bne_iff_ne.mpr c6;replace H:=zzi H;obtain ⟨c7,H⟩:=H;have c7b0:=eq_true c7;have c7b1:=qM c7;clear c7;replace H:=zzi H;obtain ⟨c8,H⟩:=H;have c8b0:=eq_true c8;have c8b1:=qM c8;clear c8;obtain ⟨y211,hy211⟩:∃ y_:List Int,y_ = (l0.take (x3_1:Int).toNat):=⟨_,rfl⟩;replace H:(some y211) = some r:=(have h0_:=hy211;zz30);have Ny211:=wA.mk hy211;clear hy211;obtain rfl:=Option.some.inj H;have p210:0≤((ji3):Int):=qL (zz4);have q210:(ji3) < (l0.length:Int):=qL (zz4);obtain ⟨ad210,e210,hx210_0⟩:=Kd.at_int (Kd.V_reads' HO_0.out).2.2 (ji3) p210 q210
     cases e210
     replace p210:=eq_true p210;replace q210:=eq_true q210;have q9:(x3_1:Int)≤((l0.length:Int):Int):=qL (zz4);obtain ⟨i09,hi09,_,hsz9,_⟩:=info_parts info79;have hroom9:l0.length≤c0:=(Kd.V_reads' HO_0.out).2.1;have hC9:Kd.F (Kd.int .u32) _ _ (some ad210) l0.length l0:=(Kd.V_at (base:=w.heap.size) HO_0.out).2.2;have hcut9:=cut_to3 (P:=Tryd.prog) 47 79 .i64 Tryd.underlying47 hi09 (some ad210) l0.length c0 x3_1 (qL (zz4)) q9 hroom9;have hr9:=Kd.F_take (m:=(x3_1:Int).toNat) hC9 (zz1);have hy9:y211.length = (x3_1:Int).toNat:=(by rw [Ny211.out,List.length_take];omega);rw [← Ny211.out] at hr9;rw [← hy9] at hcut9;have HO215:=wA.mk (show Kd.V (Kd.int .u32) 79 _ w.heap.size _ (.slice (some ad210) y211.length y211.length) y211 from Kd.V_mk (zz1) hr9);have HC215:=wA.mk (show y211.length≤y211.length from by omega);clear hr9 hC9 hroom9 hi09 hsz9;have KY9:=wA.mk hy9;clear hy9;replace q9:=eq_true q9
     go_wp2
     go_ret
     exact ⟨_,(have h0_:=hji3;zz16),(have h0_:=HO215;zz41),zz3⟩
   ·have c2b0:=qN c2;clear c2;replace H:=zzi H;obtain ⟨c10,H⟩:=H;have c10b0:=eq_true c10;have c10b1:=qM c10;clear c10;replace H:=zzi H;obtain ⟨c11,H⟩:=H;have c11b0:=eq_true c11;have c11b1:=qM c11;clear c11;obtain ⟨y216,hy216⟩:∃ y_:List Int,y_ = (l0.take (x3_1:Int).toNat):=⟨_,rfl⟩;replace H:(some y216) = some r:=(have h0_:=hy216;zz30);have Ny216:=wA.mk hy216;clear hy216;obtain rfl:=Option.some.inj H;have q12:(x3_1:Int)≤((l0.length:Int):Int):=qL (zz4);obtain ⟨i012,hi012,_,hsz12,_⟩:=info_parts info79;have hroom12:l0.length≤c0:=(Kd.V_reads' HO_0.out).2.1;have hC12:Kd.F (Kd.int .u32) _ _ A0 l0.length l0:=(Kd.V_at (base:=w.heap.size) HO_0.out).2.2;have hcut12:=cut_to3 (P:=Tryd.prog) 47 79 .i64 Tryd.underlying47 hi012 A0 l0.length c0 x3_1 (qL (zz4)) q12 hroom12;have hr12:=Kd.F_take (m:=(x3_1:Int).toNat) hC12 (zz1);have hy12:y216.length = (x3_1:Int).toNat:=(by rw [Ny216.out,List.length_take];omega);rw [← Ny216.out] at hr12;rw [← hy12] at hcut12;have HO220:=wA.mk (show Kd.V (Kd.int .u32) 79 _ w.heap.size _ (.slice A0 y216.length y216.length) y216 from Kd.V_mk (zz1) hr12);have HC220:=wA.mk (show y216.length≤y216.length from by omega);clear hr12 hC12 hroom12 hi012 hsz12;have KY12:=wA.mk hy12;clear hy12;replace q12:=eq_true q12
    go_wp2
    go_ret
    exact ⟨_,zz8,(have h0_:=HO220;zz41),zz3⟩
def bits_Len32.f (a0:Int):Option (Int):=if 0≤a0 then (if a0≤4294967295 then (some (Lib.bitLen a0.toNat:Int)) else (none)) else (none)
theorem bits_Len32.calls (a0:Int) (r:Int) (w:World) (h:bits_Len32.f a0 = some r) :
  Calls Tryd.prog 88 #[.int .u32 a0] w fun e w'=>e = .returned (.int .i64 r)∧yM w w':=by
 unfold bits_Len32.f at h
 split at h
 ·split at h
  ·rename_i h0 h1
   obtain rfl:=Option.some.inj h
   exact (Tryd.bits_Len32 a0 w h0 h1).mono fun e w' he=>⟨he.1,he.2 ▸ yM.refl w⟩
  ·exact absurd h (zz7)
 ·exact absurd h (zz7)
def U20.f (k:Nat) (l0:List Int):Option (Int):=(U29.f k l0).bind fun t221=>(if (t221.length:Int) = 0 then (some 0) else (if 0≤(wrap64 ((t221.length:Int) - 1)) then (if (wrap64 ((t221.length:Int) - 1)) < (t221.length:Int) then ((bits_Len32.f (rd t221 (wrap64 ((t221.length:Int) - 1)))).bind fun t225=>(some (wrap64 ((wrap64 (32 * (wrap64 ((t221.length:Int) - 1))))+t225)))) else (none)) else (none)))
theorem zm10_2 {P:Prop} (h:P:=by repeat' first|(with_reducible first|exact U29.mono ..|exact LeO.refl _|exact LeO.none _|refine LeO.ite ?_ ?_|refine LeO.bind ?_ (fun _=>?_))|exact U29.mono ..|exact LeO.none _|refine LeO.ite ?_ ?_|refine LeO.bind ?_ (fun _=>?_)):P:=h
theorem U20.mono:∀ a0 k,LeO (U20.f k a0) (U20.f (k+1) a0):=by
 intro a0 k;unfold U20.f
 exact zm10_2
set_option maxHeartbeats 8000000 in
set_option maxRecDepth 100000 in
theorem U20.calls (k:Nat) (A0:Option Addr) (c0:Nat) (l0:List Int) (r:Int) (w:World) (hr0:Kd.C (Kd.int .u32) w A0 l0.length l0) (hc0:l0.length≤c0) (h:U20.f k l0 = some r) :
  Calls Tryd.prog 77 #[.slice A0 l0.length c0] w fun e w'=>e = .returned (.int .i64 r)∧Below w.heap.size w w':=by
 have HR0:=wA.mk hr0;have HC0:=wA.mk hc0;clear hr0 hc0;have HB:=wA.mk (Below.refl w.heap.size w);have H:((U29.f k l0).bind fun t221=>(if (t221.length:Int) = 0 then (some 0) else (if 0≤(wrap64 ((t221.length:Int) - 1)) then (if (wrap64 ((t221.length:Int) - 1)) < (t221.length:Int) then ((bits_Len32.f (rd t221 (wrap64 ((t221.length:Int) - 1)))).bind fun t225=>(some (wrap64 ((wrap64 (32 * (wrap64 ((t221.length:Int) - 1))))+t225)))) else (none)) else (none)))) = some r:=h;clear h;replace H:=zzb H;obtain ⟨t221,A2,H⟩:=H;replace H:=zzj H;rcases H with ⟨c3,H⟩|⟨c3,H⟩
 ·have c3b0:=beq_iff_eq.mpr c3;have c3b1:=bne_eq_false_iff_eq.mpr c3;clear c3;obtain rfl:=Option.some.inj H;go_enter Tryd.func77,Tryd.ntmps77
  go_wp2_with (first|((with_reducible refine wI (f:=70) rfl ?_);refine wR (some 5) rfl rfl Tryd.func70 (zz0) rfl #[.slice A0 l0.length c0] rfl (zz20) ?_;(with_reducible refine (U29.calls k (fun k_=>k_ < w.heap.size) _ _ l0 t221 _ ?_ A2.out).mono ?_);exact zz169;rintro e w4 ⟨v222,rfl,ho0,hb⟩;refine ⟨_,rfl,?_⟩;have HO223:=wA.mk (Kd.V_lower (Kd.V_mono (ok':=fun k_=>True) ho0 (fun k_ hk_=>trivial)) (wB (zz3)));replace HB:=wA.mk (wC (zz3) hb);(try clear hb);(try clear ho0);obtain ⟨Ao5,co5,eo5⟩:=Kd.V_slice HO223.out;subst eo5))
  go_ret
  exact ⟨zz8,zz3⟩
 ·have c3b0:=beq_eq_false_iff_ne.mpr c3;have c3b1:=bne_iff_ne.mpr c3;have c3b2:¬ (t221 = []):=fun h_=>c3 (by rw [h_];rfl);obtain ⟨ji6,hji6⟩:∃ j_:Int,(wrap64 ((t221.length:Int) - 1)) = j_:=⟨_,rfl⟩;replace H:(if 0≤(ji6) then (if (ji6) < (t221.length:Int) then ((bits_Len32.f (rd t221 (ji6))).bind fun t225=>(some (wrap64 ((wrap64 (32 * (ji6)))+t225)))) else (none)) else (none)) = some r:=(have h0_:=hji6;zz10)
  (try rw [hji6] at A2);have hji6w:(IntKind.i64.wrap ((t221.length:Int) - 1)) = ji6:=(yS _).trans hji6;replace H:=zzi H;obtain ⟨c7,H⟩:=H;have c7b0:=qM c7;clear c7;replace H:=zzi H;obtain ⟨c8,H⟩:=H;have c8b0:=qM c8;clear c8;replace H:=zzb H;obtain ⟨t225,A9,H⟩:=H;obtain rfl:=Option.some.inj H;go_enter Tryd.func77,Tryd.ntmps77
  go_wp2_with (first|((with_reducible refine wI (f:=70) rfl ?_);refine wR (some 5) rfl rfl Tryd.func70 (zz0) rfl #[.slice A0 l0.length c0] rfl (zz20) ?_;(with_reducible refine (U29.calls k (fun k_=>k_ < w.heap.size) _ _ l0 t221 _ ?_ A2.out).mono ?_);exact zz169;rintro e w10 ⟨v222,rfl,ho0,hb⟩;refine ⟨_,rfl,?_⟩;have HO223:=wA.mk (Kd.V_lower (Kd.V_mono (ok':=fun k_=>True) ho0 (fun k_ hk_=>trivial)) (wB (zz3)));replace HB:=wA.mk (wC (zz3) hb);(try clear hb);(try clear ho0);obtain ⟨Ao11,co11,eo11⟩:=Kd.V_slice HO223.out;subst eo11;have p224:0≤((ji6):Int):=qL (zz4);have q224:(ji6) < (t221.length:Int):=qL (zz4);obtain ⟨ad224,e224,hx224_0⟩:=Kd.at_int (Kd.V_reads' HO223.out).2.2 (ji6) p224 q224;cases e224;replace p224:=eq_true p224;replace q224:=eq_true q224)|((with_reducible refine wI (f:=88) rfl ?_);refine wR (some 19) rfl rfl Tryd.func88 (zz0) rfl #[.int .u32 (rd t221 (ji6))] rfl (by (try simp only [List.map_toArray,List.map_cons,List.map_nil]);first|done|(simp only [hji6];rfl)|rfl|(simp only [List.length_drop,List.length_take];rfl)) ?_;(with_reducible refine (bits_Len32.calls (rd t221 (ji6)) t225 _ A9.out).mono ?_);rintro e w' ⟨rfl,⟨nd,rfl⟩⟩;refine ⟨_,rfl,?_⟩))
  go_ret
  exact ⟨(have h0_:=hji6;zz16),zz3⟩
end Go.Proofs.YtnimkmkapajnhaaDoor.QA
