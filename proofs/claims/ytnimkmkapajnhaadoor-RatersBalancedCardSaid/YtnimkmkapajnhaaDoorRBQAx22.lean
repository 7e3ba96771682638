import Derived.Test.YtnimkmkapajnhaaDoorRBQAx0
import Derived.Test.YtnimkmkapajnhaaDoorRBQAx13
import Derived.Test.YtnimkmkapajnhaaDoorRBQAx14
import Derived.Test.YtnimkmkapajnhaaDoorRBQAx15
import Derived.Test.YtnimkmkapajnhaaDoorRBQAx16
import Derived.Test.YtnimkmkapajnhaaDoorRBQAx20
namespace Go.Proofs.YtnimkmkapajnhaaDoor.QA
open Go.RowKit Go.Proofs.YtnimkmkapajnhaaDoorW.PrintWords Go.Proofs.YtnimkmkapajnhaaDoorW.PrintLast Go.Proofs.YtnimkmkapajnhaaDoorW.PrintMore
attribute [local go_sem] yE yA yI yJ wY wX yC yD
set_option linter.unusedVariables false
set_option linter.unusedSimpArgs false
mutual
def U38.l0:Nat→List Int→List Int→Int→Int→List Int→Int→Int→Option (Bool × List Int × List Int × Int)
 | 0,_,_,_,_,_,_,_=>none
 | k+1,x0,x1,x9,x10,x23,x24,x25=>if x25 < x24 then (if 0≤x25 then (if x25 < (x23.length:Int) then (if x25 < (x1.length:Int) then (U38.l1 k x0 x1 (wrap64 (x9+(wrap64 ((wrap64 ((rd x23 x25) - (rd x1 x25))) * (wrap64 ((rd x23 x25) - (rd x1 x25))))))) x10 (rd x23 x25) x23 x24 x25 x1 (x1.length:Int) 0) else (none)) else (none)) else (none)) else (if x10 = 0 then (some (false,([]:List Int),([]:List Int),8)) else ((U40.f k 1 1).bind fun bt669=>((U40.f k (wrap64 (x9 * (x0.length:Int))) x10).bind fun bt676=>((U51.f k bt669.1 bt669.2.1 bt669.2.2 bt676.1 bt676.2.1 bt676.2.2).bind fun bt683=>(some (bt683.1,bt683.2.1,bt683.2.2,0))))))
def U38.l1:Nat→List Int→List Int→Int→Int→Int→List Int→Int→Int→List Int→Int→Int→Option (Bool × List Int × List Int × Int)
 | 0,_,_,_,_,_,_,_,_,_,_,_=>none
 | k+1,x0,x1,x9,x10,x12,x23,x24,x25,x45,x46,x47=>if x47 < x46 then (if 0≤x47 then (if x47 < (x45.length:Int) then (U38.l1 k x0 x1 x9 (wrap64 (x10+(wrap64 ((wrap64 (x12 - (rd x45 x47))) * (wrap64 (x12 - (rd x45 x47))))))) x12 x23 x24 x25 x45 x46 (wrap64 (x47+1))) else (none)) else (none)) else (U38.l0 k x0 x1 x9 x10 x23 x24 (wrap64 (x25+1)))
end
def U38.f (k:Nat) (l0:List Int) (l1:List Int) (a2:Int):Option (Bool × List Int × List Int × Int):=(U44.f k l0 l1 a2).bind fun t664=>(if t664 = 0 then (U38.l0 k l0 l1 0 0 l0 (l0.length:Int) 0) else (some (false,([]:List Int),([]:List Int),t664)))
theorem zm19_0 {P:Prop} (h:P:=by repeat' first|(with_reducible first|exact ih0 ..|exact ih1 ..|exact U40.mono ..|exact U44.mono ..|exact U51.mono ..|exact LeO.refl _|exact LeO.none _|refine LeO.ite ?_ ?_|refine LeO.bind ?_ (fun _=>?_))|exact ih0 ..|exact ih1 ..|exact U40.mono ..|exact U44.mono ..|exact U51.mono ..|exact LeO.none _|refine LeO.ite ?_ ?_|refine LeO.bind ?_ (fun _=>?_)):P:=h
theorem U38.mono_l:∀ k,(∀ y0 y1 y2 y3 y4 y5 y6,LeO (U38.l0 k y0 y1 y2 y3 y4 y5 y6) (U38.l0 (k+1) y0 y1 y2 y3 y4 y5 y6))∧(∀ y0 y1 y2 y3 y4 y5 y6 y7 y8 y9 y10,LeO (U38.l1 k y0 y1 y2 y3 y4 y5 y6 y7 y8 y9 y10) (U38.l1 (k+1) y0 y1 y2 y3 y4 y5 y6 y7 y8 y9 y10))
 | 0=>⟨fun _ _ _ _ _ _ _ r h=>by simp [U38.l0] at h,fun _ _ _ _ _ _ _ _ _ _ _ r h=>by simp [U38.l1] at h⟩
 | k+1=>by
  obtain ⟨ih0,ih1⟩:=U38.mono_l k;refine ⟨?_,?_⟩
  ·intro y0 y1 y2 y3 y4 y5 y6;unfold U38.l0
   exact zm19_0
  ·intro y0 y1 y2 y3 y4 y5 y6 y7 y8 y9 y10;unfold U38.l1
   exact zm19_0
theorem U38.mono:∀ a0 a1 a2 k,LeO (U38.f k a0 a1 a2) (U38.f (k+1) a0 a1 a2):=by
 intro a0 a1 a2 k;obtain ⟨ih0,ih1⟩:=U38.mono_l k;unfold U38.f
 exact zm19_0
set_option maxHeartbeats 8000000 in
set_option maxRecDepth 100000 in
theorem U38.calls (k:Nat) (A0:Option Addr) (c0:Nat) (l0:List Int) (A1:Option Addr) (c1:Nat) (l1:List Int) (a2:Int) (r1:Bool) (r2:List Int) (r3:List Int) (r4:Int) (w:World) (hr0:Kd.C (Kd.int .i64) w A0 l0.length l0) (hc0:l0.length≤c0) (hr1:Kd.C (Kd.int .i64) w A1 l1.length l1) (hc1:l1.length≤c1) (h:U38.f k l0 l1 a2 = some (r1,r2,r3,r4)) :
  Calls Tryd.prog 27 #[.slice A0 l0.length c0,.slice A1 l1.length c1,.int .i64 a2] w fun e w'=>∃ v1_ v2_:Value,e = .returned (.tuple #[.agg #[.bool r1,v1_,v2_],.int .i64 r4])∧Kd.R (Kd.int .u32) 79 w' w.heap.size (fun k_=>(w.heap.size≤k_)) v1_ r2∧Kd.V (Kd.int .u32) 79 w' w.heap.size (fun k_=>(w.heap.size≤k_)∧some k_ ≠ (v1_:Value).ownBlock) v2_ r3∧Below w.heap.size w w':=by
 have hu51:=Tryd.underlying51;have HR0:=wA.mk hr0;have HC0:=wA.mk hc0;clear hr0 hc0;have HR1:=wA.mk hr1;have HC1:=wA.mk hc1;clear hr1 hc1;have HB:=wA.mk (Below.refl w.heap.size w);have H:((U44.f k l0 l1 a2).bind fun t664=>(if t664 = 0 then (U38.l0 k l0 l1 0 0 l0 (l0.length:Int) 0) else (some (false,([]:List Int),([]:List Int),t664)))) = some (r1,r2,r3,r4):=h;clear h;replace H:=zzb H;obtain ⟨t664,A4,H⟩:=H;replace H:=zzj H;rcases H with ⟨c5,H⟩|⟨c5,H⟩
 ·have c5b0:=beq_iff_eq.mpr c5;have c5b1:=bne_eq_false_iff_eq.mpr c5;clear c5;have H':=wA.mk H;clear H;go_enter Tryd.func27,Tryd.ntmps27
  go_wp2_with (first|((with_reducible refine wL (N:=6) rfl ?_);refine wM ?hg (N:=6) ?hd (cs:=#[.bool false,.slice none 0 0,.slice none 0 0]) (t:=51) ?hr ?_;(case hd=>rfl);(case hg=>rfl);(case hr=>exact zz156);intro gb663 hg w6 hbox hb;have BK663:=wA.mk (hbox);have GW663:=wA.mk ((by rw [hg];exact (wB (zz3)):w.heap.size≤gb663));have GE663:=wA.mk ((by rw [hg];exact (wB (zz3)):w.heap.size≤gb663));replace HB:=wA.mk (wC (zz3) hb);clear hb hbox hg)|(go_at_call 47;(with_reducible refine (U44.calls k _ _ l0 _ _ l1 a2 t664 _ ?_ ?_ ?_ ?_ A4.out).mono ?_);exact zz160;exact HC0.out;exact zz159;exact HC1.out;rintro e w' ⟨rfl,⟨nd,rfl⟩⟩;(try first|exact ⟨rfl,_,World.drewN_drewN _ _ _⟩|exact ⟨rfl,_,Eq.trans (World.drewN_drewN _ _ _) (congrArg (World.drewN _) (Nat.add_assoc _ _ _))⟩)))
  go_loopg [9,10,25] k (fun kq v9 v10 v25 w'=>∃ (x9_1:Int) (x10_1:Int) (x25_1:Int),v9 = .int .i64 x9_1∧v10 = .int .i64 x10_1∧v25 = .int .i64 x25_1∧wA (U38.l0 kq l0 l1 x9_1 x10_1 l0 (l0.length:Int) x25_1 = some (r1,r2,r3,r4))∧wA (kq≤k)∧wA (w'.heap[gb663]? = some (.cells #[.bool false,(.slice none 0 0),(.slice none 0 0)] 51 (0,0)))∧wA (Below w.heap.size w w'))
  case atStart=>exact ⟨(0),(0),(0),(zz2),(zz2),(zz2),H',⟨Nat.le_refl _⟩,⟨(have h0_:=BK663;zz23)⟩,⟨zz138⟩⟩
  case round =>
   clear H'
   (try clear c1);clear c5b0 c5b1
   obtain ⟨x9_1,x10_1,x25_1,rfl,rfl,rfl,HA,HK1,BK663,HB⟩:=hrel
   cases gk with
   | zero=>exact absurd HA.out (by simp [U38.l0])
   | succ k1 =>
    have H:=HA.out;clear HA;simp only [U38.l0] at H;replace H:=zzj H;rcases H with ⟨c7,H⟩|⟨c7,H⟩
    ·have c7b0:=qM c7;clear c7;replace H:=zzi H;obtain ⟨c8,H⟩:=H;have c8b0:=qM c8;clear c8;replace H:=zzi H;obtain ⟨c9,H⟩:=H;have c9b0:=qM c9;clear c9;replace H:=zzi H;obtain ⟨c10,H⟩:=H;have c10b0:=qM c10;clear c10;have H':=wA.mk H;clear H;have p665:0≤(x25_1:Int):=qL (zz4);have q665:x25_1 < (l0.length:Int):=qL (zz4);obtain ⟨ad665,e665,hx665_0⟩:=Kd.at_int HR0.out x25_1 p665 q665
     cases e665
     replace hx665_0:=(HB.out.cell (qK w _ hx665_0)).trans hx665_0;replace p665:=eq_true p665;replace q665:=eq_true q665;have p666:0≤(x25_1:Int):=qL (zz4);have q666:x25_1 < (l1.length:Int):=qL (zz4);obtain ⟨ad666,e666,hx666_0⟩:=Kd.at_int HR1.out x25_1 p666 q666
     cases e666
     replace hx666_0:=(HB.out.cell (qK w _ hx666_0)).trans hx666_0;replace p666:=eq_true p666;replace q666:=eq_true q666;have p667:0≤(x25_1:Int):=qL (zz4);have q667:x25_1 < (l1.length:Int):=qL (zz4);obtain ⟨ad667,e667,hx667_0⟩:=Kd.at_int HR1.out x25_1 p667 q667;obtain rfl:ad666 = ad667:=(by injection e667);replace hx667_0:=(HB.out.cell (qK w _ hx667_0)).trans hx667_0;replace p667:=eq_true p667;replace q667:=eq_true q667
     go_wp2
     repeat (go_quiet (fail);try go_wp2)
     go_loopg [10,47] k1 (fun kq v10 v47 w'=>∃ (x10_2:Int) (x47_2:Int),v10 = .int .i64 x10_2∧v47 = .int .i64 x47_2∧wA (U38.l1 kq l0 l1 (wrap64 (x9_1+(wrap64 ((wrap64 ((rd l0 x25_1) - (rd l1 x25_1))) * (wrap64 ((rd l0 x25_1) - (rd l1 x25_1))))))) x10_2 (rd l0 x25_1) l0 (l0.length:Int) x25_1 l1 (l1.length:Int) x47_2 = some (r1,r2,r3,r4))∧wA (kq≤k1)∧wA (w'.heap[gb663]? = some (.cells #[.bool false,(.slice none 0 0),(.slice none 0 0)] 51 (0,0)))∧wA (Below w.heap.size w w'))
     case atStart=>exact ⟨(x10_1),(0),(zz2),(zz2),H',⟨Nat.le_refl _⟩,⟨(have h0_:=BK663;zz23)⟩,⟨zz138⟩⟩
     case round =>
      clear H'
      clear c7b0 c8b0 c9b0 c10b0 p665 p666 p667 q665 q666 q667;(try clear hx665_0);(try clear hx666_0);(try clear hx667_0)
      obtain ⟨x10_2,x47_2,rfl,rfl,HA,HK2,BK663,HB⟩:=hrel
      cases gk with
      | zero=>exact absurd HA.out (by simp [U38.l1])
      | succ k2 =>
       have H:=HA.out;clear HA;simp only [U38.l1] at H;replace H:=zzj H;rcases H with ⟨c11,H⟩|⟨c11,H⟩
       ·have c11b0:=qM c11;clear c11;replace H:=zzi H;obtain ⟨c12,H⟩:=H;have c12b0:=qM c12;clear c12;replace H:=zzi H;obtain ⟨c13,H⟩:=H;have c13b0:=qM c13;clear c13;have H':=wA.mk H;clear H;have p668:0≤(x47_2:Int):=qL (zz4);have q668:x47_2 < (l1.length:Int):=qL (zz4);obtain ⟨ad668,e668,hx668_0⟩:=Kd.at_int HR1.out x47_2 p668 q668;obtain rfl:ad666 = ad668:=(by injection e668);replace hx668_0:=(HB.out.cell (qK w _ hx668_0)).trans hx668_0;replace p668:=eq_true p668;replace q668:=eq_true q668
        go_wp2
        go_roundg k2
        case measure=>have:=HK1.out;have:=HK2.out;omega
        case rel=>exact ⟨(wrap64 (x10_2+(wrap64 ((wrap64 ((rd l0 x25_1) - (rd l1 x47_2))) * (wrap64 ((rd l0 x25_1) - (rd l1 x47_2))))))),(wrap64 (x47_2+1)),(zz2),(zz2),H',⟨zz27⟩,⟨(have h0_:=BK663;zz23)⟩,⟨zz138⟩⟩
       ·have c11b0:=qN c11;clear c11;have H':=wA.mk H;clear H
        go_wp2
        go_roundg k2
        case measure=>have:=HK1.out;have:=HK2.out;omega
        case rel=>exact ⟨((wrap64 (x9_1+(wrap64 ((wrap64 ((rd l0 x25_1) - (rd l1 x25_1))) * (wrap64 ((rd l0 x25_1) - (rd l1 x25_1)))))))),(x10_2),(wrap64 (x25_1+1)),(zz2),(zz2),(zz2),H',⟨zz27⟩,⟨(have h0_:=BK663;zz23)⟩,⟨zz138⟩⟩
    ·have c7b0:=qN c7;clear c7;replace H:=zzj H;rcases H with ⟨c14,H⟩|⟨c14,H⟩
     ·have c14b0:=beq_iff_eq.mpr c14;have c14b1:=bne_eq_false_iff_eq.mpr c14;clear c14;simp only [Option.some.injEq,Prod.mk.injEq] at H;obtain ⟨rfl,rfl,rfl,rfl⟩:=H;obtain ⟨hcz15_0,hcz15_1,hcz15_2,hfz15_0,hfz15_1,hfz15_2⟩:=zc3 BK663.out
      go_wp2
      refine bodyPost_ret (yU rfl _ _ gb663 51 #[.bool false,.slice none 0 0,.slice none 0 0] (0,0) _ rfl (have h0_:=BK663;zz42) Tryd.underlying51 rfl (zz0)) rfl ?_
      exact ⟨_,_,zz8,zz29,(Kd.V_nil _ _ _ _ _),zz138⟩
     ·have c14b0:=beq_eq_false_iff_ne.mpr c14;have c14b1:=bne_iff_ne.mpr c14;replace H:=Option.bind_eq_some_iff.mp H;obtain ⟨⟨t669,t670,t673⟩,A160,H⟩:=H;have A16:=wA.mk A160;clear A160;replace H:=Option.bind_eq_some_iff.mp H;obtain ⟨⟨t676,t677,t680⟩,A170,H⟩:=H;have A17:=wA.mk A170;clear A170;replace H:=Option.bind_eq_some_iff.mp H;obtain ⟨⟨t683,t684,t687⟩,A180,H⟩:=H;have A18:=wA.mk A180;clear A180;simp only [Option.some.injEq,Prod.mk.injEq] at H;obtain ⟨rfl,rfl,rfl,rfl⟩:=H
      go_wp2_with (first|(go_at_call 44;(with_reducible refine (U40.calls k1 1 1 t669 t670 t673 _ A16.out).mono ?_);rintro e w19 ⟨v671,v674,rfl,ho0,ho1,hb⟩;have HO672:=wA.mk (Kd.R_lower (Kd.R_newM (M:=fun k_=>(w.heap.size≤k_)) (Kd.R_mono (ok':=fun k_=>True) ho0 (fun _ hk_=>trivial)) (wB (zz138)) (fun k_ h_=>h_)) (wB (zz138)));have HO675:=wA.mk (Kd.V_lower (Kd.V_mono (ok':=fun k_=>(w.heap.size≤k_)∧some k_ ≠ (v671:Value).ownBlock∧k_ ≠ gb663) ho1 (fun k_ hk_=>⟨(Nat.le_trans (wB (zz138)) hk_.1),hk_.2,(Kd.freshB (g:=gb663) (o:=.cells #[.bool false,.slice none 0 0,.slice none 0 0] 51 (0,0)) (have h0_:=BK663;zz23) k_ hk_.1)⟩)) (wB (zz138)));replace BK663:=wA.mk (wF (have h0_:=BK663;zz23) hb);replace HB:=wA.mk (wC (zz138) hb);(try clear hb);(try clear ho0);(try clear ho1))|(go_at_call 44;(with_reducible refine (U40.calls k1 (wrap64 (x9_1 * (l0.length:Int))) x10_1 t676 t677 t680 _ A17.out).mono ?_);rintro e w20 ⟨v678,v681,rfl,ho0,ho1,hb⟩;replace HO675:=wA.mk (Kd.V_elder' (have h0_:=HO675;zz41) (Kd.R_base ho0) hb);have HO679:=wA.mk (Kd.R_lower (Kd.R_new' (Kd.R_newM (M:=fun k_=>(w.heap.size≤k_)) (Kd.R_mono (ok':=fun k_=>True) ho0 (fun _ hk_=>trivial)) (wB (zz138)) (fun k_ h_=>h_)) (Kd.R_lt (have h0_:=HO672;zz31))) (wB (zz138)));have HO682:=wA.mk (Kd.V_lower (Kd.V_mono (ok':=fun k_=>(w.heap.size≤k_)∧some k_ ≠ (v678:Value).ownBlock∧some k_ ≠ (v671:Value).ownBlock∧k_ ≠ gb663) ho1 (fun k_ hk_=>⟨(Nat.le_trans (wB (zz138)) hk_.1),hk_.2,(Kd.fresh' (Kd.R_lt (have h0_:=HO672;zz31)) k_ hk_.1),(Kd.freshB (g:=gb663) (o:=.cells #[.bool false,.slice none 0 0,.slice none 0 0] 51 (0,0)) (have h0_:=BK663;zz23) k_ hk_.1)⟩)) (wB (zz138)));replace HO672:=wA.mk (Kd.R_elder' (have h0_:=HO672;zz31) (Kd.R_base ho0) hb);replace BK663:=wA.mk (wF (have h0_:=BK663;zz23) hb);replace HB:=wA.mk (wC (zz138) hb);(try clear hb);(try clear ho0);(try clear ho1);obtain ⟨Ao21,co21,eo21⟩:=Kd.R_slice HO672.out;subst eo21;obtain ⟨Ao22,co22,eo22⟩:=Kd.V_slice HO675.out;subst eo22;obtain ⟨Ao23,co23,eo23⟩:=Kd.R_slice HO679.out;subst eo23;obtain ⟨Ao24,co24,eo24⟩:=Kd.V_slice HO682.out;subst eo24)|(go_at_call 49;(with_reducible refine (U51.calls k1 t669 (fun k_=>some k_ = (.slice Ao21 t670.length co21:Value).ownBlock) _ _ t670 _ _ t673 t676 (fun k_=>some k_ = (.slice Ao23 t677.length co23:Value).ownBlock) _ _ t677 _ _ t680 t683 t684 t687 _ ?_ ?_ ?_ ?_ ?_ ?_ A18.out).mono ?_);exact Kd.R_V (Kd.R_tight rfl (Kd.R_types (HO672.out) BK663.out (zz26)));(exact (have h0_:=HO675;zz170));(exact (have h0_:=HO675;zz172));exact Kd.R_V (Kd.R_tight rfl (Kd.R_types (HO679.out) BK663.out (zz26)));(exact (have h0_:=HO682;zz170));(exact (have h0_:=HO682;zz172));rintro e w25 ⟨v685,v688,rfl,ho0,ho1,hb⟩;replace HO675:=wA.mk (Kd.V_elder' (have h0_:=HO675;zz41) (Kd.R_base ho0) hb);replace HO682:=wA.mk (Kd.V_elder' (have h0_:=HO682;zz41) (Kd.R_base ho0) hb);have HO686:=wA.mk (Kd.R_lower (Kd.R_new' (Kd.R_new' (Kd.R_newM (M:=fun k_=>(w.heap.size≤k_)) (Kd.R_mono (ok':=fun k_=>True) ho0 (fun _ hk_=>trivial)) (wB (zz138)) (fun k_ h_=>h_)) (Kd.R_lt (have h0_:=HO672;zz31))) (Kd.R_lt (have h0_:=HO679;zz31))) (wB (zz138)));have HO689:=wA.mk (Kd.V_lower (Kd.V_mono (ok':=fun k_=>(w.heap.size≤k_)∧some k_ ≠ (v685:Value).ownBlock∧k_ ≠ gb663) ho1 (fun k_ hk_=>⟨Or.elim hk_.1 (fun hs_=>Or.elim hs_ (fun hs_=>((Kd.R_types (HO672.out) BK663.out (zz26)).1 k_ hs_.symm).1.1.1) (fun hs_=>((Kd.R_types (HO679.out) BK663.out (zz26)).1 k_ hs_.symm).1.1.1)) (fun hn_=>(Nat.le_trans (wB (zz138)) hn_)),hk_.2,Or.elim hk_.1 (fun hs_=>Or.elim hs_ (fun hs_=>((Kd.R_types (HO672.out) BK663.out (zz26)).1 k_ hs_.symm).2) (fun hs_=>((Kd.R_types (HO679.out) BK663.out (zz26)).1 k_ hs_.symm).2)) (fun hn_=>(Kd.freshB (g:=gb663) (o:=.cells #[.bool false,.slice none 0 0,.slice none 0 0] 51 (0,0)) (have h0_:=BK663;zz23) k_ hn_))⟩)) (wB (zz138)));replace HO672:=wA.mk (Kd.R_elder' (have h0_:=HO672;zz31) (Kd.R_base ho0) hb);replace HO679:=wA.mk (Kd.R_elder' (have h0_:=HO679;zz31) (Kd.R_base ho0) hb);replace BK663:=wA.mk (wF (have h0_:=BK663;zz23) hb);replace HB:=wA.mk (wC (zz138) hb);(try clear hb);(try clear ho0);(try clear ho1);obtain ⟨hcz26_0,hcz26_1,hcz26_2,hfz26_0,hfz26_1,hfz26_2⟩:=zc3 BK663.out;obtain ⟨Ao27,co27,eo27⟩:=Kd.R_slice HO686.out;subst eo27;obtain ⟨Ao28,co28,eo28⟩:=Kd.V_slice HO689.out;subst eo28))
      refine bodyPost_ret (yU rfl _ _ gb663 51 #[.bool t683,.slice Ao27 t684.length co27,.slice Ao28 t687.length co28] (0,0) _ rfl (by (with_reducible repeat (first|refine wE ?_ _|refine wG ?_|refine wD ?_ _));refine wP (cs:=#[.bool t683,.slice Ao27 t684.length co27,.slice none 0 0]) ?_ 2 _ rfl;(with_reducible repeat (first|refine wE ?_ _|refine wG ?_|refine wD ?_ _));refine wP (cs:=#[.bool t683,.slice none 0 0,.slice none 0 0]) ?_ 1 _ rfl;(with_reducible repeat (first|refine wE ?_ _|refine wG ?_|refine wD ?_ _));refine wP (cs:=#[.bool false,.slice none 0 0,.slice none 0 0]) ?_ 0 _ rfl;(with_reducible repeat (first|refine wE ?_ _|refine wG ?_|refine wD ?_ _));exact BK663.out) Tryd.underlying51 rfl (zz0)) rfl ?_
      exact ⟨_,_,zz8,by (with_reducible repeat (first|apply Kd.R_alloc|apply Kd.R_drewN|apply Kd.R_drew));exact Kd.R_mono (Kd.R_far (p:=⟨gb663,2,none⟩) (Kd.R_far (p:=⟨gb663,1,none⟩) (Kd.R_far (p:=⟨gb663,0,none⟩) (Kd.R_types HO686.out BK663.out (zz26)) (fun _ hk=>hk.2) (.bool t683)) (fun _ hk=>hk.2) (.slice Ao27 t684.length co27)) (fun _ hk=>hk.2) (.slice Ao28 t687.length co28)) (fun _ hk=>hk.1.1.1.1),by (with_reducible repeat (first|apply Kd.V_alloc|apply Kd.V_drewN|apply Kd.V_drew));exact Kd.V_mono (Kd.V_far (p:=⟨gb663,2,none⟩) (Kd.V_far (p:=⟨gb663,1,none⟩) (Kd.V_far (p:=⟨gb663,0,none⟩) (Kd.V_mono HO689.out (fun k_ hk=>(⟨hk,hk.2.2⟩:_∧k_ ≠ gb663))) (fun _ hk=>hk.2) (.bool t683)) (fun _ hk=>hk.2) (.slice Ao27 t684.length co27)) (fun _ hk=>hk.2) (.slice Ao28 t687.length co28)) (fun _ hk=>⟨hk.1.1,hk.1.2.1⟩),zz138⟩
 ·have c5b0:=beq_eq_false_iff_ne.mpr c5;have c5b1:=bne_iff_ne.mpr c5;simp only [Option.some.injEq,Prod.mk.injEq] at H;obtain ⟨rfl,rfl,rfl,rfl⟩:=H;go_enter Tryd.func27,Tryd.ntmps27
  go_wp2_with (first|((with_reducible refine wL (N:=6) rfl ?_);refine wM ?hg (N:=6) ?hd (cs:=#[.bool false,.slice none 0 0,.slice none 0 0]) (t:=51) ?hr ?_;(case hd=>rfl);(case hg=>rfl);(case hr=>exact zz156);intro gb663 hg w29 hbox hb;have BK663:=wA.mk (hbox);have GW663:=wA.mk ((by rw [hg];exact (wB (zz3)):w.heap.size≤gb663));have GE663:=wA.mk ((by rw [hg];exact (wB (zz3)):w.heap.size≤gb663));replace HB:=wA.mk (wC (zz3) hb);clear hb hbox hg)|(go_at_call 47;(with_reducible refine (U44.calls k _ _ l0 _ _ l1 a2 t664 _ ?_ ?_ ?_ ?_ A4.out).mono ?_);exact zz160;exact HC0.out;exact zz159;exact HC1.out;rintro e w' ⟨rfl,⟨nd,rfl⟩⟩;(try first|exact ⟨rfl,_,World.drewN_drewN _ _ _⟩|exact ⟨rfl,_,Eq.trans (World.drewN_drewN _ _ _) (congrArg (World.drewN _) (Nat.add_assoc _ _ _))⟩);obtain ⟨hcz30_0,hcz30_1,hcz30_2,hfz30_0,hfz30_1,hfz30_2⟩:=zc3 BK663.out))
  refine bodyPost_ret (yU rfl _ _ gb663 51 #[.bool false,.slice none 0 0,.slice none 0 0] (0,0) _ rfl (have h0_:=BK663;zz42) Tryd.underlying51 rfl (zz0)) rfl ?_
  exact ⟨_,_,zz8,zz29,(Kd.V_nil _ _ _ _ _),zz138⟩
def U48.f (k:Nat) (a0_0:Bool) (l0_1:List Int) (l0_2:List Int):Option (Bool × List Int × List Int):=(U52.f k a0_0 l0_1 l0_2).bind fun bt692=>(some (bt692.1,bt692.2.1,bt692.2.2))
theorem zm19_1 {P:Prop} (h:P:=by repeat' first|(with_reducible first|exact U52.mono ..|exact LeO.refl _|exact LeO.none _|refine LeO.ite ?_ ?_|refine LeO.bind ?_ (fun _=>?_))|exact U52.mono ..|exact LeO.none _|refine LeO.ite ?_ ?_|refine LeO.bind ?_ (fun _=>?_)):P:=h
theorem U48.mono:∀ a0 a1 a2 k,LeO (U48.f k a0 a1 a2) (U48.f (k+1) a0 a1 a2):=by
 intro a0 a1 a2 k;unfold U48.f
 exact zm19_1
set_option maxHeartbeats 8000000 in
set_option maxRecDepth 100000 in
theorem U48.calls (k:Nat) (a0_0:Bool) (P0_1_:Nat→Prop) (A0_1:Option Addr) (c0_1:Nat) (l0_1:List Int) (P0_2_:Nat→Prop) (A0_2:Option Addr) (c0_2:Nat) (l0_2:List Int) (r1:Bool) (r2:List Int) (r3:List Int) (w:World) (hs0_1:Kd.V (Kd.int .u32) 79 w w.heap.size (fun k_=>P0_1_ k_) (.slice A0_1 l0_1.length c0_1) l0_1) (hs0_2:Kd.V (Kd.int .u32) 79 w w.heap.size (fun k_=>P0_2_ k_) (.slice A0_2 l0_2.length c0_2) l0_2) (h:U48.f k a0_0 l0_1 l0_2 = some (r1,r2,r3)) :
  Calls Tryd.prog 54 #[.agg #[.bool a0_0,.slice A0_1 l0_1.length c0_1,.slice A0_2 l0_2.length c0_2]] w fun e w'=>∃ v1_ v2_:Value,e = .returned (.agg #[.bool r1,v1_,v2_])∧Kd.R (Kd.int .u32) 79 w' w.heap.size (fun k_=>(w.heap.size≤k_)) v1_ r2∧Kd.V (Kd.int .u32) 79 w' w.heap.size (fun k_=>((P0_1_ k_∨P0_2_ k_)∨w.heap.size≤k_)∧some k_ ≠ (v1_:Value).ownBlock) v2_ r3∧Below w.heap.size w w':=by
 have hu51:=Tryd.underlying51;have hu49:=Tryd.underlying49;have HO0_1:=wA.mk (show Kd.V (Kd.int .u32) 79 w w.heap.size (fun k_=>((P0_1_ k_∨P0_2_ k_)∨w.heap.size≤k_)) (.slice A0_1 l0_1.length c0_1) l0_1 from Kd.V_mono hs0_1 (fun k_ hk=>.inl (.inl hk)));have HO0_2:=wA.mk (show Kd.V (Kd.int .u32) 79 w w.heap.size (fun k_=>((P0_1_ k_∨P0_2_ k_)∨w.heap.size≤k_)) (.slice A0_2 l0_2.length c0_2) l0_2 from Kd.V_mono hs0_2 (fun k_ hk=>.inl (.inr hk)));have HB:=wA.mk (Below.refl w.heap.size w);have H:((U52.f k a0_0 l0_1 l0_2).bind fun bt692=>(some (bt692.1,bt692.2.1,bt692.2.2))) = some (r1,r2,r3):=h;clear h;replace H:=Option.bind_eq_some_iff.mp H;obtain ⟨⟨t692,t693,t696⟩,A20,H⟩:=H;have A2:=wA.mk A20;clear A20;simp only [Option.some.injEq,Prod.mk.injEq] at H;obtain ⟨rfl,rfl,rfl⟩:=H;go_enter Tryd.func54,Tryd.ntmps54
 go_wp2_with (first|((with_reducible refine wL (N:=1) rfl ?_);refine wM ?hg (N:=1) ?hd (cs:=#[.bool a0_0,.slice A0_1 l0_1.length c0_1,.slice A0_2 l0_2.length c0_2]) (t:=51) ?hr ?_;(case hd=>rfl);(case hg=>rfl);(case hr=>exact zz156);intro gb690 hg w3 hbox hb;replace HO0_1:=wA.mk (Kd.V_below (Kd.V_elderB (zz49) gb690 (Nat.le_of_eq hg.symm)) hb);replace HO0_2:=wA.mk (Kd.V_below (Kd.V_elderB (have h0_:=HO0_2;zz41) gb690 (Nat.le_of_eq hg.symm)) hb);have BK690:=wA.mk (hbox);have GW690:=wA.mk ((by rw [hg];exact (wB (zz3)):w.heap.size≤gb690));have GE690:=wA.mk ((by rw [hg];exact (wB (zz3)):w.heap.size≤gb690));replace HB:=wA.mk (wC (zz3) hb);clear hb hbox hg)|((with_reducible refine wL (N:=2) rfl ?_);refine wM ?hg (N:=2) ?hd (cs:=#[.bool false,.slice none 0 0,.slice none 0 0]) (t:=51) ?hr ?_;(case hd=>rfl);(case hg=>rfl);(case hr=>exact zz156);intro gb691 hg w4 hbox hb;replace HO0_1:=wA.mk (Kd.V_below (Kd.V_elderB (zz49) gb691 (Nat.le_of_eq hg.symm)) hb);replace HO0_2:=wA.mk (Kd.V_below (Kd.V_elderB (have h0_:=HO0_2;zz41) gb691 (Nat.le_of_eq hg.symm)) hb);have BK691:=wA.mk (hbox);have GW691:=wA.mk ((by rw [hg];exact (wB (have h0_:=GE690;zz6)):w.heap.size≤gb691));have GE691:=wA.mk ((by rw [hg];exact (wB (have h0_:=GE690;zz6)):w.heap.size≤gb691));replace HB:=wA.mk (wC (have h0_:=GE690;zz6) hb);have NB690_691:=wA.mk ((by rw [hg];exact Nat.ne_of_lt (wN (g:=gb690) (o:=.cells #[.bool a0_0,.slice A0_1 l0_1.length c0_1,.slice A0_2 l0_2.length c0_2] 51 (0,0)) (have h0_:=BK690;zz23)):gb690 ≠ gb691));have NB691_690:=wA.mk ((by rw [hg];exact Nat.ne_of_gt (wN (g:=gb690) (o:=.cells #[.bool a0_0,.slice A0_1 l0_1.length c0_1,.slice A0_2 l0_2.length c0_2] 51 (0,0)) (have h0_:=BK690;zz23)):gb691 ≠ gb690));replace BK690:=wA.mk (wF (have h0_:=BK690;zz23) hb);clear hb hbox hg;have hnb5:=NB690_691.out;have hnc5:=NB691_690.out;obtain ⟨hcz6_0,hcz6_1,hcz6_2,hfz6_0,hfz6_1,hfz6_2⟩:=zc3 BK690.out)|((with_reducible refine wI (f:=65) rfl ?_);refine wR (some 7) rfl rfl Tryd.func65 (zz0) rfl #[.agg #[.bool a0_0,.slice A0_1 l0_1.length c0_1],.slice A0_2 l0_2.length c0_2] rfl (zz20) ?_;(with_reducible refine (U52.calls k a0_0 (fun k_=>((((P0_1_ k_∨P0_2_ k_)∨w.heap.size≤k_)∧k_ ≠ gb690)∧k_ ≠ gb691)) _ _ l0_1 (fun k_=>((((P0_1_ k_∨P0_2_ k_)∨w.heap.size≤k_)∧k_ ≠ gb690)∧k_ ≠ gb691)) _ _ l0_2 t692 t693 t696 _ ?_ ?_ A2.out).mono ?_);exact HO0_1.out;exact HO0_2.out;rintro e w7 ⟨v694,v697,rfl,ho0,ho1,hb⟩;refine ⟨_,rfl,?_⟩;replace HO0_1:=wA.mk (Kd.V_elder' (zz49) (Kd.R_base ho0) hb);replace HO0_2:=wA.mk (Kd.V_elder' (have h0_:=HO0_2;zz41) (Kd.R_base ho0) hb);have HO695:=wA.mk (Kd.R_lower (Kd.R_newM (M:=fun k_=>(w.heap.size≤k_)) (Kd.R_mono (ok':=fun k_=>True) ho0 (fun _ hk_=>trivial)) (wB (have h0_:=GE690;have h1_:=GE691;zz57)) (fun k_ h_=>h_)) (wB (have h0_:=GE690;have h1_:=GE691;zz57)));have HO698:=wA.mk (Kd.V_lower (Kd.V_mono (ok':=fun k_=>((P0_1_ k_∨P0_2_ k_)∨w.heap.size≤k_)∧some k_ ≠ (v694:Value).ownBlock∧k_ ≠ gb690∧k_ ≠ gb691) ho1 (fun k_ hk_=>⟨Or.elim hk_.1 (fun hs_=>Or.elim hs_ (fun hs_=>hs_.1.1) (fun hs_=>hs_.1.1)) (fun hn_=>(.inr (Nat.le_trans (wB (have h0_:=GE690;have h1_:=GE691;zz57)) hn_))),hk_.2,Or.elim hk_.1 (fun hs_=>Or.elim hs_ (fun hs_=>hs_.1.2) (fun hs_=>hs_.1.2)) (fun hn_=>(Kd.freshB (g:=gb690) (o:=.cells #[.bool a0_0,.slice A0_1 l0_1.length c0_1,.slice A0_2 l0_2.length c0_2] 51 (0,0)) (have h0_:=BK690;zz23) k_ hn_)),Or.elim hk_.1 (fun hs_=>Or.elim hs_ (fun hs_=>hs_.2) (fun hs_=>hs_.2)) (fun hn_=>(Kd.freshB (g:=gb691) (o:=.cells #[.bool false,.slice none 0 0,.slice none 0 0] 51 (0,0)) (have h0_:=BK691;zz23) k_ hn_))⟩)) (wB (have h0_:=GE690;have h1_:=GE691;zz57)));replace BK690:=wA.mk (wF (have h0_:=BK690;zz23) hb);replace BK691:=wA.mk (wF (have h0_:=BK691;zz23) hb);replace HB:=wA.mk (wC (have h0_:=GE690;have h1_:=GE691;zz57) hb);(try clear hb);(try clear ho0);(try clear ho1);obtain ⟨hcz8_0,hcz8_1,hcz8_2,hfz8_0,hfz8_1,hfz8_2⟩:=zc3 BK691.out;obtain ⟨Ao9,co9,eo9⟩:=Kd.R_slice HO695.out;subst eo9;obtain ⟨Ao10,co10,eo10⟩:=Kd.V_slice HO698.out;subst eo10))
 refine bodyPost_ret (results_cell_row rfl _ _ gb691 51 #[.bool t692,.slice Ao9 t693.length co9,.slice Ao10 t696.length co10] (0,0) _ rfl (by (with_reducible repeat (first|refine wE ?_ _|refine wG ?_|refine wD ?_ _));refine wP (cs:=#[.bool t692,.slice Ao9 t693.length co9,.slice none 0 0]) ?_ 2 _ rfl;(with_reducible repeat (first|refine wE ?_ _|refine wG ?_|refine wD ?_ _));refine wP (cs:=#[.bool t692,.slice none 0 0,.slice none 0 0]) ?_ 1 _ rfl;(with_reducible repeat (first|refine wE ?_ _|refine wG ?_|refine wD ?_ _));refine wP (cs:=#[.bool false,.slice none 0 0,.slice none 0 0]) ?_ 0 _ rfl;(with_reducible repeat (first|refine wE ?_ _|refine wG ?_|refine wD ?_ _));exact BK691.out) Tryd.underlying51 rfl (zz0)) rfl ?_
 exact ⟨_,_,zz8,by (with_reducible repeat (first|apply Kd.R_alloc|apply Kd.R_drewN|apply Kd.R_drew));exact Kd.R_mono (Kd.R_far (p:=⟨gb691,2,none⟩) (Kd.R_far (p:=⟨gb691,1,none⟩) (Kd.R_far (p:=⟨gb691,0,none⟩) (Kd.R_types HO695.out BK691.out (zz26)) (fun _ hk=>hk.2) (.bool t692)) (fun _ hk=>hk.2) (.slice Ao9 t693.length co9)) (fun _ hk=>hk.2) (.slice Ao10 t696.length co10)) (fun _ hk=>hk.1.1),by (with_reducible repeat (first|apply Kd.V_alloc|apply Kd.V_drewN|apply Kd.V_drew));exact Kd.V_mono (Kd.V_far (p:=⟨gb691,2,none⟩) (Kd.V_far (p:=⟨gb691,1,none⟩) (Kd.V_far (p:=⟨gb691,0,none⟩) (Kd.V_mono HO698.out (fun k_ hk=>(⟨hk,hk.2.2.2⟩:_∧k_ ≠ gb691))) (fun _ hk=>hk.2) (.bool t692)) (fun _ hk=>hk.2) (.slice Ao9 t693.length co9)) (fun _ hk=>hk.2) (.slice Ao10 t696.length co10)) (fun _ hk=>⟨hk.1.1,hk.1.2.1⟩),(have h0_:=GE690;have h1_:=GE691;zz57)⟩
def U60.f (a0:Int):Option (ByteArray):=if 0≤a0 then (if a0 < 100 then (some ⟨(Lib.decDigits a0.toNat).toArray⟩) else (none)) else (none)
theorem U60.calls (a0:Int) (r:ByteArray) (w:World) (h:U60.f a0 = some r) :
  Calls Tryd.prog 97 #[.int .i64 a0] w fun e w'=>e = .returned (.string r)∧yM w w':=by
 unfold U60.f at h
 split at h
 ·split at h
  ·rename_i h0 h1
   obtain rfl:=Option.some.inj h;obtain ⟨i,rfl⟩:=Int.eq_ofNat_of_zero_le h0
   exact (Tryd.internal_strconv_small i (zz1) w).mono fun e w' he=>⟨he.1,he.2 ▸ yM.refl w⟩
  ·exact absurd h (zz7)
 ·exact absurd h (zz7)
def U59.f (a0:Int) (a1:Int):Option (ByteArray):=if a1 = 10 then (if a0 < 100 then ((U60.f (wrap64 (a0))).bind fun t699=>(some t699)) else (none)) else (none)
set_option maxHeartbeats 8000000 in
set_option maxRecDepth 100000 in
theorem U59.calls (a0:Int) (a1:Int) (r:ByteArray) (w:World) (h:U59.f a0 a1 = some r) :
  Calls Tryd.prog 85 #[.int .u64 a0,.int .i64 a1] w fun e w'=>e = .returned (.string r)∧Below w.heap.size w w':=by
 have HB:=wA.mk (Below.refl w.heap.size w);have H:(if a1 = 10 then (if a0 < 100 then ((U60.f (wrap64 (a0))).bind fun t699=>(some t699)) else (none)) else (none)) = some r:=h;clear h;replace H:=zzi H;obtain ⟨c3,H⟩:=H;have c3b0:=beq_iff_eq.mpr c3;have c3b1:=bne_eq_false_iff_eq.mpr c3;clear c3;replace H:=zzi H;obtain ⟨c4,H⟩:=H;have c4b0:=qM c4;clear c4;replace H:=zzb H;obtain ⟨t699,A5,H⟩:=H;obtain rfl:=Option.some.inj H;go_enter Tryd.func85,Tryd.ntmps85
 go_wp2_with (first|((with_reducible refine wI (f:=97) rfl ?_);refine wR (some 15) rfl rfl Tryd.func97 (zz0) rfl #[.int .i64 (wrap64 (a0))] rfl (zz20) ?_;(with_reducible refine (U60.calls (wrap64 (a0)) t699 _ A5.out).mono ?_);rintro e w' ⟨rfl,⟨nd,rfl⟩⟩;refine ⟨_,rfl,?_⟩))
 go_ret
 exact ⟨zz8,zz3⟩
def U58.f (a0:Int) (a1:Int):Option (ByteArray):=(U59.f a0 a1).bind fun t700=>(some t700)
set_option maxHeartbeats 8000000 in
set_option maxRecDepth 100000 in
theorem U58.calls (a0:Int) (a1:Int) (r:ByteArray) (w:World) (h:U58.f a0 a1 = some r) :
  Calls Tryd.prog 73 #[.int .u64 a0,.int .i64 a1] w fun e w'=>e = .returned (.string r)∧Below w.heap.size w w':=by
 have HB:=wA.mk (Below.refl w.heap.size w);have H:((U59.f a0 a1).bind fun t700=>(some t700)) = some r:=h;clear h;replace H:=zzb H;obtain ⟨t700,A3,H⟩:=H;obtain rfl:=Option.some.inj H;go_enter Tryd.func73,Tryd.ntmps73
 go_wp2_with (first|((with_reducible refine wI (f:=85) rfl ?_);refine wR (some 7) rfl rfl Tryd.func85 (zz0) rfl #[.int .u64 a0,.int .i64 a1] rfl (zz20) ?_;(with_reducible refine (U59.calls a0 a1 t700 _ A3.out).mono ?_);rintro e w4 ⟨rfl,hb⟩;refine ⟨_,rfl,?_⟩;replace HB:=wA.mk (wC (zz3) hb);(try clear hb)))
 go_ret
 exact ⟨zz8,zz3⟩
mutual
def U26.l0:Nat→List Int→List Int→Option (ByteArray)
 | 0,_,_=>none
 | k+1,x3,x4=>if (x3.length:Int) > 0 then ((U28.f k x3 1000000000).bind fun bt704=>(if x4.length < 35184372088832 then (U26.l0 k bt704.1 (x4++[bt704.2])) else (none))) else (if (x4.length:Int) = 0 then (some (⟨#[48]⟩:ByteArray)) else (U26.l1 k x4 ([]:List Int) (wrap64 ((x4.length:Int) - 1))))
def U26.l1:Nat→List Int→List Int→Int→Option (ByteArray)
 | 0,_,_,_=>none
 | k+1,x4,x7,x8=>if x8≥0 then (if 0≤x8 then (if x8 < (x4.length:Int) then ((U58.f (IntKind.u64.wrap (rd x4 x8)) 10).bind fun t712=>(if x8 < (wrap64 ((x4.length:Int) - 1)) then (U26.l2 k x4 x7 x8 t712 (wrap64 (9 - (t712.size:Int))) 0) else (if x7.length+t712.size < 140737488355328 then (U26.l1 k x4 (x7++bytesOf t712) (wrap64 (x8 - 1))) else (none)))) else (none)) else (none)) else (some (strOfNums x7))
def U26.l2:Nat→List Int→List Int→Int→ByteArray→Int→Int→Option (ByteArray)
 | 0,_,_,_,_,_,_=>none
 | k+1,x4,x7,x8,x9,x48,x49=>if x49 < x48 then (if x7.length < 140737488355328 then (U26.l2 k x4 (x7++[48]) x8 x9 x48 (wrap64 (x49+1))) else (none)) else (if x7.length+x9.size < 140737488355328 then (U26.l1 k x4 (x7++bytesOf x9) (wrap64 (x8 - 1))) else (none))
end
def U26.f (k:Nat) (l0:List Int):Option (ByteArray):=(U25.f k l0).bind fun t701=>(U26.l0 k t701 ([]:List Int))
theorem zm19_2 {P:Prop} (h:P:=by repeat' first|(with_reducible first|exact ih0 ..|exact ih1 ..|exact ih2 ..|exact U25.mono ..|exact U28.mono ..|exact LeO.refl _|exact LeO.none _|refine LeO.ite ?_ ?_|refine LeO.bind ?_ (fun _=>?_))|exact ih0 ..|exact ih1 ..|exact ih2 ..|exact U25.mono ..|exact U28.mono ..|exact LeO.none _|refine LeO.ite ?_ ?_|refine LeO.bind ?_ (fun _=>?_)):P:=h
theorem U26.mono_l:∀ k,(∀ y0 y1,LeO (U26.l0 k y0 y1) (U26.l0 (k+1) y0 y1))∧(∀ y0 y1 y2,LeO (U26.l1 k y0 y1 y2) (U26.l1 (k+1) y0 y1 y2))∧(∀ y0 y1 y2 y3 y4 y5,LeO (U26.l2 k y0 y1 y2 y3 y4 y5) (U26.l2 (k+1) y0 y1 y2 y3 y4 y5))
 | 0=>⟨fun _ _ r h=>by simp [U26.l0] at h,fun _ _ _ r h=>by simp [U26.l1] at h,fun _ _ _ _ _ _ r h=>by simp [U26.l2] at h⟩
 | k+1=>by
  obtain ⟨ih0,ih1,ih2⟩:=U26.mono_l k;refine ⟨?_,?_,?_⟩
  ·intro y0 y1;unfold U26.l0
   exact zm19_2
  ·intro y0 y1 y2;unfold U26.l1
   exact zm19_2
  ·intro y0 y1 y2 y3 y4 y5;unfold U26.l2
   exact zm19_2
theorem U26.mono:∀ a0 k,LeO (U26.f k a0) (U26.f (k+1) a0):=by
 intro a0 k;obtain ⟨ih0,ih1,ih2⟩:=U26.mono_l k;unfold U26.f
 exact zm19_2
set_option maxHeartbeats 8000000 in
set_option maxRecDepth 100000 in
theorem U26.calls (k:Nat) (A0:Option Addr) (c0:Nat) (l0:List Int) (r:ByteArray) (w:World) (hr0:Kd.C (Kd.int .u32) w A0 l0.length l0) (hc0:l0.length≤c0) (h:U26.f k l0 = some r) :
  Calls Tryd.prog 58 #[.slice A0 l0.length c0] w fun e w'=>e = .returned (.string r)∧Below w.heap.size w w':=by
 have HR0:=wA.mk hr0;have HC0:=wA.mk hc0;clear hr0 hc0;have HB:=wA.mk (Below.refl w.heap.size w);have H:((U25.f k l0).bind fun t701=>(U26.l0 k t701 ([]:List Int))) = some r:=h;clear h;replace H:=zzb H;obtain ⟨t701,A2,H⟩:=H;have H':=wA.mk H;clear H;go_enter Tryd.func58,Tryd.ntmps58
 go_wp2_with (first|((with_reducible refine wI (f:=71) rfl ?_);refine wR (some 11) rfl rfl Tryd.func71 (zz0) rfl #[.slice A0 l0.length c0] rfl (zz20) ?_;(with_reducible refine (U25.calls k _ _ l0 t701 _ ?_ ?_ A2.out).mono ?_);exact zz158;exact HC0.out;rintro e w3 ⟨v702,rfl,ho0,hb⟩;refine ⟨_,rfl,?_⟩;have HO703:=wA.mk (Kd.R_lower ho0 (wB (zz3)));replace HB:=wA.mk (wC (zz3) hb);(try clear hb);(try clear ho0)))
 go_loopg [3,4] k (fun kq v3 v4 w'=>∃ (x3_1:List Int) (x4_1:List Int),wA (U26.l0 kq x3_1 x4_1 = some r)∧wA (kq≤k)∧wA (Kd.V (Kd.int .u32) 79 w' w.heap.size (fun k_=>some k_ ≠ (v4:Value).ownBlock) v3 x3_1)∧wA (Kd.R (Kd.int .u32) 79 w' w.heap.size (fun _=>True) v4 x4_1)∧wA (Below w.heap.size w w'))
 case atStart=>exact ⟨(t701),(([]:List Int)),H',⟨Nat.le_refl _⟩,⟨Kd.R_V (by (with_reducible repeat (first|apply Kd.R_alloc|apply Kd.R_drewN|apply Kd.R_drew));exact Kd.R_mono HO703.out (fun _ hk=>(by simp [Value.ownBlock])))⟩,⟨zz29⟩,⟨zz3⟩⟩
 case round =>
  clear H';obtain ⟨x3_1,x4_1,HA,HK1,HO_3,HO_4,HB⟩:=hrel
  cases gk with
  | zero=>exact absurd HA.out (by simp [U26.l0])
  | succ k1 =>
   have H:=HA.out;clear HA;simp only [U26.l0] at H;replace H:=zzj H;rcases H with ⟨c4,H⟩|⟨c4,H⟩
   ·have c4b0:=qM c4;have c4b1:decide (0 < x3_1.length) = true:=qM (zz1);clear c4;replace H:=Option.bind_eq_some_iff.mp H;obtain ⟨⟨t704,t707⟩,A50,H⟩:=H;have A5:=wA.mk A50;clear A50;replace H:=zzi H;obtain ⟨c6,H⟩:=H;have LMc6:=wA.mk c6;clear c6;obtain ⟨y708,hy708⟩:∃ y_:List Int,y_ = (x4_1++[t707]):=⟨_,rfl⟩;replace H:(U26.l0 k1 t704 y708) = some r:=(have h0_:=hy708;zz30);have Ny708:=wA.mk hy708;clear hy708;have H':=wA.mk H;clear H;obtain ⟨Ao7,co7,eo7⟩:=Kd.V_slice HO_3.out;subst eo7
    go_wp2_with (first|((with_reducible refine wI (f:=72) rfl ?_);refine wR (some 17) rfl rfl Tryd.func72 (zz0) rfl #[.slice Ao7 x3_1.length co7,.int .u32 1000000000] rfl (zz20) ?_;(with_reducible refine (U28.calls k1 _ _ x3_1 1000000000 t704 t707 _ ?_ ?_ A5.out).mono ?_);(exact (have h0_:=HO_3;zz170));(exact (have h0_:=HO_3;zz172));rintro e w8 ⟨v705,rfl,ho0,hb⟩;refine ⟨_,rfl,?_⟩;replace HO_3:=wA.mk (Kd.V_below (have h0_:=HO_3;zz41) hb);have HO706:=wA.mk (Kd.V_lower (Kd.V_mono (ok':=fun k_=>some k_ ≠ (u4:Value).ownBlock) ho0 (fun k_ hk_=>(Kd.fresh' (Kd.R_lt (zz139)) k_ hk_))) (wB (zz3)));replace HO_4:=wA.mk (Kd.R_below (zz139) hb);replace HB:=wA.mk (wC (zz3) hb);(try clear hb);(try clear ho0))|((with_reducible refine yZ (b:=.append) (xs:=#[.tmp 20,.tmp 22]) rfl ?_);at_builtin;refine Kd.R_append (Kd.int .u32) (w0:=w) w.heap.size rfl (.tmp 20) (.tmp 22) 46 79 (.int .u32 0) 4 rfl Tryd.underlying46 info79 rfl (zz26) (zz1) u4 x4_1 t707 [.int .u32 t707] (fun _=>True) (fun _=>False) rfl rfl ?aP (fun _ hk=>hk.elim) ?aF ?aO ?aB ?aS ?aL ?_;(case aP=>exact rfl);(case aB=>exact (zz3));(case aF=>exact zz166);(case aO=>exact (zz139));(case aS=>exact zz165);(case aL=>have:=LMc6.out;omega);intro v709 w9 ho hb hg hat;rw [← Ny708.out] at ho;replace HO_3:=wA.mk (Kd.V_afterv (ok:=(fun _=>True)) (have h0_:=HO_3;zz43) hg hat);replace HO706:=wA.mk (Kd.V_afterv (ok:=(fun _=>True)) (have h0_:=HO706;zz43) hg hat);replace HB:=wA.mk (hb);have HO710:=wA.mk (ho);clear HO_4;clear ho hb hg hat))
    go_roundg k1
    case measure=>have:=HK1.out;omega
    case rel=>exact ⟨(t704),(y708),H',⟨zz5⟩,⟨(have h0_:=HO706;zz78)⟩,⟨(have h0_:=HO710;zz31)⟩,⟨zz3⟩⟩
   ·have c4b0:=qN c4;have c4b1:decide (0 < x3_1.length) = false:=qN (zz1);clear c4;replace H:=zzj H;rcases H with ⟨c10,H⟩|⟨c10,H⟩
    ·have c10b0:=beq_iff_eq.mpr c10;have c10b1:=bne_eq_false_iff_eq.mpr c10;clear c10;obtain rfl:=Option.some.inj H;obtain ⟨Ao11,co11,eo11⟩:=Kd.V_slice HO_3.out;subst eo11;obtain ⟨Ao12,co12,eo12⟩:=Kd.R_slice HO_4.out;subst eo12
     go_wp2
     go_ret
     exact ⟨zz8,zz3⟩
    ·have c10b0:=beq_eq_false_iff_ne.mpr c10;have c10b1:=bne_iff_ne.mpr c10;have c10b2:¬ (x4_1 = []):=fun h_=>c10 (by rw [h_];rfl);have H':=wA.mk H;clear H;obtain ⟨Ao13,co13,eo13⟩:=Kd.V_slice HO_3.out;subst eo13;obtain ⟨Ao14,co14,eo14⟩:=Kd.R_slice HO_4.out;subst eo14
     go_wp2
     go_loopg [7,8] k1 (fun kq v7 v8 w'=>∃ (x7_2:List Int) (x8_2:Int),v8 = .int .i64 x8_2∧wA (U26.l1 kq x4_1 x7_2 x8_2 = some r)∧wA (kq≤k1)∧wA (Kd.R (Kd.int .u32) 79 w' w.heap.size (fun _=>True) (.slice Ao14 x4_1.length co14) x4_1)∧wA (Kd.R (Kd.int .u8) 5 w' w.heap.size (fun _=>True) v7 x7_2)∧wA (Below w.heap.size w w'))
     case atStart=>exact ⟨(([]:List Int)),(wrap64 ((x4_1.length:Int) - 1)),(zz2),H',⟨Nat.le_refl _⟩,⟨zz139⟩,⟨zz29⟩,⟨zz3⟩⟩
     case round =>
      clear H';clear c4b0 c4b1 c10 c10b0 c10b1 c10b2;obtain ⟨x7_2,x8_2,rfl,HA,HK2,HO_4,HO_7,HB⟩:=hrel
      cases gk with
      | zero=>exact absurd HA.out (by simp [U26.l1])
      | succ k2 =>
       have H:=HA.out;clear HA;simp only [U26.l1] at H;replace H:=zzj H;rcases H with ⟨c15,H⟩|⟨c15,H⟩
       ·have c15b0:=qM c15;clear c15;replace H:=zzi H;obtain ⟨c16,H⟩:=H;have c16b0:=qM c16;clear c16;replace H:=zzi H;obtain ⟨c17,H⟩:=H;have c17b0:=qM c17;clear c17;replace H:=zzb H;obtain ⟨t712,A18,H⟩:=H;replace H:=zzj H;rcases H with ⟨c19,H⟩|⟨c19,H⟩
        ·have c19b0:=qM c19;clear c19;have H':=wA.mk H;clear H;have p711:0≤(x8_2:Int):=qL (zz4);have q711:x8_2 < (x4_1.length:Int):=qL (zz4);obtain ⟨ad711,e711,hx711_0⟩:=Kd.at_int (Kd.R_reads' HO_4.out).2.2 x8_2 p711 q711
         cases e711
         replace p711:=eq_true p711;replace q711:=eq_true q711
         go_wp2_with (first|((with_reducible refine wI (f:=73) rfl ?_);refine wR (some 40) rfl rfl Tryd.func73 (zz0) rfl #[.int .u64 (IntKind.u64.wrap (rd x4_1 x8_2)),.int .i64 10] rfl (zz20) ?_;(with_reducible refine (U58.calls (IntKind.u64.wrap (rd x4_1 x8_2)) 10 t712 _ A18.out).mono ?_);rintro e w20 ⟨rfl,hb⟩;refine ⟨_,rfl,?_⟩;replace HO_4:=wA.mk (Kd.R_below (zz139) hb);replace HO_7:=wA.mk (Kd.R_below (zz62) hb);replace HB:=wA.mk (wC (zz3) hb);(try clear hb)))
         go_loopg [7,49] k2 (fun kq v7 v49 w'=>∃ (x7_3:List Int) (x49_3:Int),v49 = .int .i64 x49_3∧wA (U26.l2 kq x4_1 x7_3 x8_2 t712 (wrap64 (9 - (t712.size:Int))) x49_3 = some r)∧wA (kq≤k2)∧wA (Kd.R (Kd.int .u32) 79 w' w.heap.size (fun _=>True) (.slice (some ad711) x4_1.length co14) x4_1)∧wA (Kd.R (Kd.int .u8) 5 w' w.heap.size (fun _=>True) v7 x7_3)∧wA (Below w.heap.size w w'))
         case atStart=>exact ⟨(x7_2),(0),(zz2),H',⟨Nat.le_refl _⟩,⟨zz139⟩,⟨zz62⟩,⟨zz3⟩⟩
         case round =>
          clear H'
          clear c15b0 c16b0 c17b0 c19b0 p711 q711;(try clear hx711_0)
          obtain ⟨x7_3,x49_3,rfl,HA,HK3,HO_4,HO_7,HB⟩:=hrel
          cases gk with
          | zero=>exact absurd HA.out (by simp [U26.l2])
          | succ k3 =>
           have H:=HA.out;clear HA;simp only [U26.l2] at H;replace H:=zzj H;rcases H with ⟨c21,H⟩|⟨c21,H⟩
           ·have c21b0:=qM c21;clear c21;replace H:=zzi H;obtain ⟨c22,H⟩:=H;have LMc22:=wA.mk c22;clear c22;obtain ⟨y713,hy713⟩:∃ y_:List Int,y_ = (x7_3++[48]):=⟨_,rfl⟩;replace H:(U26.l2 k3 x4_1 y713 x8_2 t712 (wrap64 (9 - (t712.size:Int))) (wrap64 (x49_3+1))) = some r:=(have h0_:=hy713;zz30);have Ny713:=wA.mk hy713;clear hy713;have H':=wA.mk H;clear H
            go_wp2_with (first|((with_reducible refine yZ (b:=.append) (xs:=#[.tmp 51,.tmp 52]) rfl ?_);at_builtin;refine Kd.R_append (Kd.int .u8) (w0:=w) w.heap.size rfl (.tmp 51) (.tmp 52) 103 5 (.int .u8 0) 1 rfl Tryd.underlying103 info5 rfl (zz26) (zz1) u7 x7_3 48 [.int .u8 48] (fun _=>True) (fun _=>False) rfl rfl ?aP (fun _ hk=>hk.elim) ?aF ?aO ?aB ?aS ?aL ?_;(case aP=>exact rfl);(case aB=>exact (zz3));(case aF=>exact zz166);(case aO=>exact (zz62));(case aS=>exact zz165);(case aL=>have:=LMc22.out;omega);intro v714 w23 ho hb hg hat;rw [← Ny713.out] at ho;replace HO_4:=wA.mk (Kd.R_over' (zz139) (Kd.R_typed (zz62)) (zz26) hg);replace HB:=wA.mk (hb);have HO715:=wA.mk (ho);clear HO_7;clear ho hb hg hat))
            go_roundg k3
            case measure=>have:=HK1.out;have:=HK2.out;have:=HK3.out;omega
            case rel=>exact ⟨(y713),(wrap64 (x49_3+1)),(zz2),H',⟨by have:=HK1.out;have:=HK2.out;have:=HK3.out;omega⟩,⟨zz139⟩,⟨(have h0_:=HO715;zz31)⟩,⟨zz3⟩⟩
           ·have c21b0:=qN c21;clear c21;replace H:=zzi H;obtain ⟨c24,H⟩:=H;have LMc24:=wA.mk c24;clear c24;obtain ⟨y716,hy716⟩:∃ y_:List Int,y_ = (x7_3++bytesOf t712):=⟨_,rfl⟩;replace H:(U26.l1 k3 x4_1 y716 (wrap64 (x8_2 - 1))) = some r:=(have h0_:=hy716;zz30);have Ny716:=wA.mk hy716;clear hy716;have H':=wA.mk H;clear H
            go_wp2_with (first|(at_builtin;refine zY (w0:=w) w.heap.size rfl (.tmp 55) _ 103 9 5 rfl Tryd.underlying103 Tryd.underlying9 info5 u7 x7_3 t712 rfl rfl ?aO ?aB ?aS ?aL ?_;(case aB=>exact (zz3));(case aO=>exact (Kd.own_of_R (zz62)));(case aS=>exact zz165);(case aL=>have:=LMc24.out;omega);intro v717 w25 ho0 hb hg;have ho:=Kd.R_of_own (h1:=fun _=>rfl) (ok:=fun _=>True) ho0 (fun _ _=>trivial);clear ho0;have hat:=True.intro;rw [← Ny716.out] at ho;change Kd.R (Kd.int .u8) 5 w25 w.heap.size (fun _=>True) v717 y716 at ho;replace HO_4:=wA.mk (Kd.R_over' (zz139) (Kd.R_typed (zz62)) (zz26) hg);replace HB:=wA.mk (hb);have HO718:=wA.mk (ho);clear HO_7;clear ho hb hg hat))
            go_roundg k3
            case measure=>have:=HK1.out;have:=HK2.out;have:=HK3.out;omega
            case rel=>exact ⟨(y716),(wrap64 (x8_2 - 1)),(zz2),H',⟨by have:=HK1.out;have:=HK2.out;have:=HK3.out;omega⟩,⟨zz139⟩,⟨(have h0_:=HO718;zz31)⟩,⟨zz3⟩⟩
        ·have c19b0:=qN c19;clear c19;replace H:=zzi H;obtain ⟨c26,H⟩:=H;have LMc26:=wA.mk c26;clear c26;obtain ⟨y719,hy719⟩:∃ y_:List Int,y_ = (x7_2++bytesOf t712):=⟨_,rfl⟩;replace H:(U26.l1 k2 x4_1 y719 (wrap64 (x8_2 - 1))) = some r:=(have h0_:=hy719;zz30);have Ny719:=wA.mk hy719;clear hy719;have H':=wA.mk H;clear H;have p711:0≤(x8_2:Int):=qL (zz4);have q711:x8_2 < (x4_1.length:Int):=qL (zz4);obtain ⟨ad711,e711,hx711_0⟩:=Kd.at_int (Kd.R_reads' HO_4.out).2.2 x8_2 p711 q711
         cases e711
         replace p711:=eq_true p711;replace q711:=eq_true q711
         go_wp2_with (first|((with_reducible refine wI (f:=73) rfl ?_);refine wR (some 40) rfl rfl Tryd.func73 (zz0) rfl #[.int .u64 (IntKind.u64.wrap (rd x4_1 x8_2)),.int .i64 10] rfl (zz20) ?_;(with_reducible refine (U58.calls (IntKind.u64.wrap (rd x4_1 x8_2)) 10 t712 _ A18.out).mono ?_);rintro e w27 ⟨rfl,hb⟩;refine ⟨_,rfl,?_⟩;replace HO_4:=wA.mk (Kd.R_below (zz139) hb);replace HO_7:=wA.mk (Kd.R_below (zz62) hb);replace HB:=wA.mk (wC (zz3) hb);(try clear hb))|(at_builtin;refine zY (w0:=w) w.heap.size rfl (.tmp 55) _ 103 9 5 rfl Tryd.underlying103 Tryd.underlying9 info5 u7 x7_2 t712 rfl rfl ?aO ?aB ?aS ?aL ?_;(case aB=>exact (zz3));(case aO=>exact (Kd.own_of_R (zz62)));(case aS=>exact zz165);(case aL=>have:=LMc26.out;omega);intro v720 w28 ho0 hb hg;have ho:=Kd.R_of_own (h1:=fun _=>rfl) (ok:=fun _=>True) ho0 (fun _ _=>trivial);clear ho0;have hat:=True.intro;rw [← Ny719.out] at ho;change Kd.R (Kd.int .u8) 5 w28 w.heap.size (fun _=>True) v720 y719 at ho;replace HO_4:=wA.mk (Kd.R_over' (zz139) (Kd.R_typed (zz62)) (zz26) hg);replace HB:=wA.mk (hb);have HO721:=wA.mk (ho);clear HO_7;clear ho hb hg hat))
         go_roundg k2
         case measure=>have:=HK1.out;have:=HK2.out;omega
         case rel=>exact ⟨(y719),(wrap64 (x8_2 - 1)),(zz2),H',⟨zz27⟩,⟨zz139⟩,⟨(have h0_:=HO721;zz31)⟩,⟨zz3⟩⟩
       ·have c15b0:=qN c15;clear c15;obtain rfl:=Option.some.inj H;have hcv29:=own_string (P:=Tryd.prog) Tryd.underlying103 Tryd.underlying5 Tryd.underlying9 (Kd.own_of_R HO_7.out)
        go_wp2
        go_ret
        exact ⟨zz8,zz3⟩
def U17.f (k:Nat) (a0_0:Bool) (l0_1:List Int):Option (Int):=(U20.f k l0_1).bind fun t723=>(if t723 = 0 then (some 0) else (if a0_0 = true then (some (-1)) else (some 1)))
theorem zm19_3 {P:Prop} (h:P:=by repeat' first|(with_reducible first|exact U20.mono ..|exact LeO.refl _|exact LeO.none _|refine LeO.ite ?_ ?_|refine LeO.bind ?_ (fun _=>?_))|exact U20.mono ..|exact LeO.none _|refine LeO.ite ?_ ?_|refine LeO.bind ?_ (fun _=>?_)):P:=h
theorem U17.mono:∀ a0 a1 k,LeO (U17.f k a0 a1) (U17.f (k+1) a0 a1):=by
 intro a0 a1 k;unfold U17.f
 exact zm19_3
set_option maxHeartbeats 8000000 in
set_option maxRecDepth 100000 in
theorem U17.calls (k:Nat) (a0_0:Bool) (A0_1:Option Addr) (c0_1:Nat) (l0_1:List Int) (r:Int) (w:World) (hr0_1:Kd.C (Kd.int .u32) w A0_1 l0_1.length l0_1) (hc0_1:l0_1.length≤c0_1) (h:U17.f k a0_0 l0_1 = some r) :
  Calls Tryd.prog 69 #[.agg #[.bool a0_0,.slice A0_1 l0_1.length c0_1]] w fun e w'=>e = .returned (.int .i64 r)∧Below w.heap.size w w':=by
 have hu49:=Tryd.underlying49;have HR0_1:=wA.mk hr0_1;have HC0_1:=wA.mk hc0_1;clear hr0_1 hc0_1;have HB:=wA.mk (Below.refl w.heap.size w);have H:((U20.f k l0_1).bind fun t723=>(if t723 = 0 then (some 0) else (if a0_0 = true then (some (-1)) else (some 1)))) = some r:=h;clear h;replace H:=zzb H;obtain ⟨t723,A2,H⟩:=H;replace H:=zzj H;rcases H with ⟨c3,H⟩|⟨c3,H⟩
 ·have c3b0:=beq_iff_eq.mpr c3;have c3b1:=bne_eq_false_iff_eq.mpr c3;clear c3;obtain rfl:=Option.some.inj H;go_enter Tryd.func69,Tryd.ntmps69
  go_wp2_with (first|((with_reducible refine wL (N:=1) rfl ?_);refine wM ?hg (N:=1) ?hd (cs:=#[.bool a0_0,.slice A0_1 l0_1.length c0_1]) (t:=49) ?hr ?_;(case hd=>rfl);(case hg=>rfl);(case hr=>exact zz156);intro gb722 hg w4 hbox hb;have BK722:=wA.mk (hbox);have GW722:=wA.mk ((by rw [hg];exact (wB (zz3)):w.heap.size≤gb722));have GE722:=wA.mk ((by rw [hg];exact (wB (zz3)):w.heap.size≤gb722));replace HB:=wA.mk (wC (zz3) hb);clear hb hbox hg;obtain ⟨hcz5_0,hcz5_1,hfz5_0,hfz5_1⟩:=zc2 BK722.out)|((with_reducible refine wI (f:=77) rfl ?_);refine wR (some 6) rfl rfl Tryd.func77 (zz0) rfl #[.slice A0_1 l0_1.length c0_1] rfl (zz20) ?_;(with_reducible refine (U20.calls k _ _ l0_1 t723 _ ?_ ?_ A2.out).mono ?_);(exact (have h0_:=HR0_1;zz157));exact zz173;rintro e w6 ⟨rfl,hb⟩;refine ⟨_,rfl,?_⟩;replace BK722:=wA.mk (wF (have h0_:=BK722;zz23) hb);replace HB:=wA.mk (wC (have h0_:=GE722;zz6) hb);(try clear hb)))
  go_ret
  exact ⟨zz8,(have h0_:=GE722;zz6)⟩
 ·have c3b0:=beq_eq_false_iff_ne.mpr c3;have c3b1:=bne_iff_ne.mpr c3;by_cases c7:a0_0 = true
  ·subst c7;have H1:(some (-1)) = some r:=zz18;clear H;have H:=H1;clear H1;obtain rfl:=Option.some.inj H;go_enter Tryd.func69,Tryd.ntmps69
   go_wp2_with (first|((with_reducible refine wL (N:=1) rfl ?_);refine wM ?hg (N:=1) ?hd (cs:=#[.bool true,.slice A0_1 l0_1.length c0_1]) (t:=49) ?hr ?_;(case hd=>rfl);(case hg=>rfl);(case hr=>exact zz156);intro gb722 hg w8 hbox hb;have BK722:=wA.mk (hbox);have GW722:=wA.mk ((by rw [hg];exact (wB (zz3)):w.heap.size≤gb722));have GE722:=wA.mk ((by rw [hg];exact (wB (zz3)):w.heap.size≤gb722));replace HB:=wA.mk (wC (zz3) hb);clear hb hbox hg;obtain ⟨hcz9_0,hcz9_1,hfz9_0,hfz9_1⟩:=zc2 BK722.out)|((with_reducible refine wI (f:=77) rfl ?_);refine wR (some 6) rfl rfl Tryd.func77 (zz0) rfl #[.slice A0_1 l0_1.length c0_1] rfl (zz20) ?_;(with_reducible refine (U20.calls k _ _ l0_1 t723 _ ?_ ?_ A2.out).mono ?_);(exact (have h0_:=HR0_1;zz157));exact zz173;rintro e w10 ⟨rfl,hb⟩;refine ⟨_,rfl,?_⟩;replace BK722:=wA.mk (wF (have h0_:=BK722;zz23) hb);replace HB:=wA.mk (wC (have h0_:=GE722;zz6) hb);(try clear hb);obtain ⟨hcz11_0,hcz11_1,hfz11_0,hfz11_1⟩:=zc2 BK722.out))
   go_ret
   exact ⟨zz8,(have h0_:=GE722;zz6)⟩
  ·replace c7:=Bool.eq_false_iff.mpr c7;subst c7;have H1:(some 1) = some r:=zz19;clear H;have H:=H1;clear H1;obtain rfl:=Option.some.inj H;go_enter Tryd.func69,Tryd.ntmps69
   go_wp2_with (first|((with_reducible refine wL (N:=1) rfl ?_);refine wM ?hg (N:=1) ?hd (cs:=#[.bool false,.slice A0_1 l0_1.length c0_1]) (t:=49) ?hr ?_;(case hd=>rfl);(case hg=>rfl);(case hr=>exact zz156);intro gb722 hg w12 hbox hb;have BK722:=wA.mk (hbox);have GW722:=wA.mk ((by rw [hg];exact (wB (zz3)):w.heap.size≤gb722));have GE722:=wA.mk ((by rw [hg];exact (wB (zz3)):w.heap.size≤gb722));replace HB:=wA.mk (wC (zz3) hb);clear hb hbox hg;obtain ⟨hcz13_0,hcz13_1,hfz13_0,hfz13_1⟩:=zc2 BK722.out)|((with_reducible refine wI (f:=77) rfl ?_);refine wR (some 6) rfl rfl Tryd.func77 (zz0) rfl #[.slice A0_1 l0_1.length c0_1] rfl (zz20) ?_;(with_reducible refine (U20.calls k _ _ l0_1 t723 _ ?_ ?_ A2.out).mono ?_);(exact (have h0_:=HR0_1;zz157));exact zz173;rintro e w14 ⟨rfl,hb⟩;refine ⟨_,rfl,?_⟩;replace BK722:=wA.mk (wF (have h0_:=BK722;zz23) hb);replace HB:=wA.mk (wC (have h0_:=GE722;zz6) hb);(try clear hb);obtain ⟨hcz15_0,hcz15_1,hfz15_0,hfz15_1⟩:=zc2 BK722.out))
   go_ret
   exact ⟨zz8,(have h0_:=GE722;zz6)⟩
end Go.Proofs.YtnimkmkapajnhaaDoor.QA
