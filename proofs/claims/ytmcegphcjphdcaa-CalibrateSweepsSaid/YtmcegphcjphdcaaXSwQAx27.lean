import Derived.Test.YtmcegphcjphdcaaXSwQAx0
import Derived.Test.YtmcegphcjphdcaaXSwQAx17
namespace Go.Proofs.Ytmcegphcjphdcaa.QA
open Go.RowKit Go.Proofs.YtmcegphcjphdcaaW.PrintWords Go.Proofs.YtmcegphcjphdcaaW.PrintLast Go.Proofs.YtmcegphcjphdcaaW.PrintMore
attribute [local go_sem] max2_int min2_int max_two min_two max_three min_three max_four min_four
set_option linter.unusedVariables false
set_option linter.unusedSimpArgs false
def U38.l0:Nat→List (S56)→Int→List (S56)→Int→List (List Int)→Option ((List (S56)))
 | 0,_,_,_,_,_=>none
 | k+1,x0,x1,x7,x8,x602000=>if x8 < (x0.length:Int) then (if x8 = x1 then (if x7.length < 5864062014805 then (U38.l0 k x0 x1 (x7++[(⟨x602000⟩:S56)]) (wrap64 (x8+1)) x602000) else (none)) else (if 0≤x8 then (if x7.length < 5864062014805 then (U38.l0 k x0 x1 (x7++[(⟨(rd_T56 x0 x8).f0⟩:S56)]) (wrap64 (x8+1)) x602000) else (none)) else (none))) else (some x7)
def U38.f (k:Nat) (l0:List (S56)) (a1:Int) (l2_0:List (List Int)):Option ((List (S56))):=U38.l0 k l0 a1 ([]:List (S56)) 0 l2_0
theorem zm25_0 {P:Prop} (h:P:=by repeat' first|(with_reducible first|exact ih0 ..|exact LeO.refl _|exact LeO.none _|refine LeO.ite ?_ ?_|refine LeO.bind ?_ (fun _=>?_))|exact ih0 ..|exact LeO.none _|refine LeO.ite ?_ ?_|refine LeO.bind ?_ (fun _=>?_)):P:=h
theorem U38.mono_l:∀ k,(∀ y0 y1 y2 y3 y4,LeO (U38.l0 k y0 y1 y2 y3 y4) (U38.l0 (k+1) y0 y1 y2 y3 y4))
 | 0=>fun _ _ _ _ _ r h=>by simp [U38.l0] at h
 | k+1=>by
  have ih0:=U38.mono_l k
  ·intro y0 y1 y2 y3 y4;unfold U38.l0
   exact zm25_0
theorem U38.mono:∀ a0 a1 a2 k,LeO (U38.f k a0 a1 a2) (U38.f (k+1) a0 a1 a2):=by
 intro a0 a1 a2 k;have ih0:=U38.mono_l k;unfold U38.f
 exact zm25_0
set_option maxHeartbeats 8000000 in
set_option maxRecDepth 100000 in
theorem U38.calls (k:Nat) (P0_:Nat→Prop) (A0:Option Addr) (c0:Nat) (l0:List (S56)) (a1:Int) (P2_0_:Nat→Prop) (A2_0:Option Addr) (c2_0:Nat) (l2_0:List (List Int)) (r:List (S56)) (w:World) (hs0:Kd.V k56 56 w w.heap.size (fun k_=>P0_ k_) (.slice A0 l0.length c0) l0) (hs2_0:Kd.V (Kd.slice 3 (Kd.int .i64)) 22 w w.heap.size (fun k_=>P2_0_ k_) (.slice A2_0 l2_0.length c2_0) l2_0) (h:U38.f k l0 a1 l2_0 = some r) :
  Calls Try.prog 68 #[.slice A0 l0.length c0,.int .i64 a1,.agg #[.slice A2_0 l2_0.length c2_0]] w fun e w'=>∃ v0_:Value,e = .returned (v0_)∧Kd.N k56 56 w' w.heap.size (fun k_=>((P0_ k_∨P2_0_ k_)∨w.heap.size≤k_)) v0_ r∧Below w.heap.size w w':=by
 have hu56:=Try.underlying56;have HO0:=Aside0.mk (show Kd.V k56 56 w w.heap.size (fun k_=>((P0_ k_∨P2_0_ k_)∨w.heap.size≤k_)) (.slice A0 l0.length c0) l0 from Kd.V_mono hs0 (fun k_ hk=>.inl (.inl hk)));have HO2_0:=Aside0.mk (show Kd.V (Kd.slice 3 (Kd.int .i64)) 22 w w.heap.size (fun k_=>((P0_ k_∨P2_0_ k_)∨w.heap.size≤k_)) (.slice A2_0 l2_0.length c2_0) l2_0 from Kd.V_mono hs2_0 (fun k_ hk=>.inl (.inr hk)));have HB:=Aside0.mk (Below.refl w.heap.size w);have H:(U38.l0 k l0 a1 ([]:List (S56)) 0 l2_0) = some r:=h;clear h;have H':=Aside0.mk H;clear H;go_enter Try.func68,Try.ntmps68
 go_wp2_with (first|((with_reducible refine gate_dst (N:=5) rfl ?_);refine box_event ?hg (N:=5) ?hd (cs:=#[.slice A2_0 l2_0.length c2_0]) (t:=56) ?hr ?_;(case hd=>rfl);(case hg=>rfl);(case hr=>exact zz109);intro gb601 hg w4 hbox hb;replace HO0:=Aside0.mk (Kd.V_below (Kd.V_elderB (have h0_:=HO0;zz23) gb601 (Nat.le_of_eq hg.symm)) hb);replace HO2_0:=Aside0.mk (Kd.V_below (Kd.V_elderB (have h0_:=HO2_0;zz23) gb601 (Nat.le_of_eq hg.symm)) hb);have BK601:=Aside0.mk (hbox);have GW601:=Aside0.mk ((by rw [hg];exact (below_size (zz5)):w.heap.size≤gb601));have GE601:=Aside0.mk ((by rw [hg];exact (below_size (zz5)):w.heap.size≤gb601));replace HB:=Aside0.mk (below_step (zz5) hb);clear hb hbox hg))
 go_loopg [7,8] k (fun kq v7 v8 w'=>∃ (x7_1:List (S56)) (x8_1:Int),v8 = .int .i64 x8_1∧Aside0 (U38.l0 kq l0 a1 x7_1 x8_1 l2_0 = some r)∧Aside0 (kq≤k)∧Aside0 (Kd.V k56 56 w' w.heap.size (fun k_=>((P0_ k_∨P2_0_ k_)∨w.heap.size≤k_)∧some k_ ≠ (v7:Value).ownBlock∧k_ ≠ gb601) (.slice A0 l0.length c0) l0)∧Aside0 (Kd.N k56 56 w' w.heap.size (fun k_=>((P0_ k_∨P2_0_ k_)∨w.heap.size≤k_)∧k_ ≠ gb601) v7 x7_1)∧Aside0 (Kd.V (Kd.slice 3 (Kd.int .i64)) 22 w' w.heap.size (fun k_=>((P0_ k_∨P2_0_ k_)∨w.heap.size≤k_)∧some k_ ≠ (v7:Value).ownBlock∧k_ ≠ gb601) (.slice A2_0 l2_0.length c2_0) l2_0)∧Aside0 (w'.heap[gb601]? = some (.cells #[(.slice A2_0 l2_0.length c2_0)] 56 (0,0)))∧Aside0 (Below w.heap.size w w'))
 case atStart=>exact ⟨(([]:List (S56))),(0),(zz2),H',⟨Nat.le_refl _⟩,⟨(have h0_:=HO0;zz87)⟩,⟨zz55⟩,⟨(have h0_:=HO2_0;zz87)⟩,⟨(have h0_:=BK601;zz9)⟩,⟨(have h0_:=GE601;zz7)⟩⟩
 case round =>
  clear H';obtain ⟨x7_1,x8_1,rfl,HA,HK1,HO_0,HO_7,HO_602000,BK601,HB⟩:=hrel
  cases gk with
  | zero=>exact absurd HA.out (by simp [U38.l0])
  | succ k1 =>
   have H:=HA.out;clear HA;simp only [U38.l0] at H;replace H:=zzj H;rcases H with ⟨c5,H⟩|⟨c5,H⟩
   ·have c5b0:=decide_eq_true c5;clear c5;replace H:=zzj H;rcases H with ⟨c6,H⟩|⟨c6,H⟩
    ·have c6b0:=beq_iff_eq.mpr c6;have c6b1:=bne_eq_false_iff_eq.mpr c6;clear c6;replace H:=zzi H;obtain ⟨c7,H⟩:=H;have LMc7:=Aside0.mk c7;clear c7;obtain ⟨y602,hy602⟩:∃ y_:List (S56),y_ = (x7_1++[(⟨l2_0⟩:S56)]):=⟨_,rfl⟩;replace H:(U38.l0 k1 l0 a1 y602 (wrap64 (x8_1+1)) l2_0) = some r:=(have h0_:=hy602;zz24);have Ny602:=Aside0.mk hy602;clear hy602;have H':=Aside0.mk H;clear H;obtain ⟨hcz8_0,hfz8_0⟩:=zc1 BK601.out
     go_wp2_with (first|((with_reducible refine gate_builtin (b:=.append) (xs:=#[.tmp 18,.tmp 20]) rfl ?_);at_builtin;refine Kd.N_append k56 (w0:=w) w.heap.size rfl (.tmp 18) (.tmp 20) 25 56 (.agg #[(.slice none 0 0)]) 24 rfl Try.underlying25 info56 rfl (zz28) (zz4) u7 x7_1 (⟨l2_0⟩:S56) [.slice A2_0 l2_0.length c2_0] (fun k_=>((P0_ k_∨P2_0_ k_)∨w.heap.size≤k_)∧k_ ≠ gb601) (fun k_=>((fun k_=>((P0_ k_∨P2_0_ k_)∨w.heap.size≤k_)∧k_ ≠ gb601)) k_∧some k_ ≠ (u7:Value).ownBlock) rfl rfl ?aP (fun _ hk=>hk) ?aF ?aO ?aB ?aS ?aL ?_;(case aP=>exact (k56_mkF _ _ (⟨l2_0⟩:S56) (Kd.V_reads' (Kd.V_mono (ok':=(fun k_=>((fun k_=>((P0_ k_∨P2_0_ k_)∨w.heap.size≤k_)∧k_ ≠ gb601)) k_∧some k_ ≠ (u7:Value).ownBlock)) (HO_602000.out) (fun k_ hk=>⟨⟨hk.1,hk.2.2⟩,hk.2.1⟩))).2.1 (Kd.V_F (Kd.V_mono (ok':=(fun k_=>((fun k_=>((P0_ k_∨P2_0_ k_)∨w.heap.size≤k_)∧k_ ≠ gb601)) k_∧some k_ ≠ (u7:Value).ownBlock)) (HO_602000.out) (fun k_ hk=>⟨⟨hk.1,hk.2.2⟩,hk.2.1⟩)))));(case aB=>exact (have h0_:=GE601;zz7));(case aF=>exact (fun k_ hk=>⟨(.inr (Nat.le_trans (below_size (have h0_:=GE601;zz7)) hk)),Kd.freshB (g:=gb601) (o:=.cells #[.slice A2_0 l2_0.length c2_0] 56 (0,0)) (have h0_:=BK601;zz9) k_ hk⟩));(case aO=>exact (have h0_:=HO_7;zz27));(case aS=>exact (below_size (have h0_:=GE601;zz7)));(case aL=>exact zz134);intro v603 w9 ho hb hg hat;rw [← Ny602.out] at ho;replace HO_0:=Aside0.mk (Kd.V_afterv (ok:=(fun k_=>((P0_ k_∨P2_0_ k_)∨w.heap.size≤k_)∧k_ ≠ gb601)) (have h0_:=HO_0;zz29) hg hat);replace HO_602000:=Aside0.mk (Kd.V_afterv (ok:=(fun k_=>((P0_ k_∨P2_0_ k_)∨w.heap.size≤k_)∧k_ ≠ gb601)) (have h0_:=HO_602000;zz29) hg hat);replace BK601:=Aside0.mk (blk_grown (g:=gb601) (o:=.cells #[.slice A2_0 l2_0.length c2_0] 56 (0,0)) (have h0_:=BK601;zz9) hg (Kd.N_away HO_7.out (fun _ hk=>hk.2)));replace HB:=Aside0.mk (hb);have HO604:=Aside0.mk (ho);clear HO_7;clear ho hb hg hat))
     go_roundg k1
     case measure=>have:=HK1.out;omega
     case rel=>exact ⟨(y602),(wrap64 (x8_1+1)),(zz2),H',⟨zz12⟩,⟨(have h0_:=HO_0;zz37)⟩,⟨(have h0_:=HO604;zz27)⟩,⟨(have h0_:=HO_602000;zz37)⟩,⟨(have h0_:=BK601;zz9)⟩,⟨(have h0_:=GE601;zz7)⟩⟩
    ·have c6b0:=beq_eq_false_iff_ne.mpr c6;have c6b1:=bne_iff_ne.mpr c6;replace H:=zzi H;obtain ⟨c10,H⟩:=H;have c10b0:=decide_eq_true c10;clear c10;replace H:=zzi H;obtain ⟨c11,H⟩:=H;have LMc11:=Aside0.mk c11;clear c11;obtain ⟨y606,hy606⟩:∃ y_:List (S56),y_ = (x7_1++[(⟨(rd_T56 l0 x8_1).f0⟩:S56)]):=⟨_,rfl⟩;replace H:(U38.l0 k1 l0 a1 y606 (wrap64 (x8_1+1)) l2_0) = some r:=(have h0_:=hy606;zz24);have Ny606:=Aside0.mk hy606;clear hy606;have H':=Aside0.mk H;clear H;have p605:0≤(x8_1:Int):=of_decide_eq_true (zz11);have q605:x8_1 < (l0.length:Int):=of_decide_eq_true (zz11);obtain ⟨ad605,A605_0,c605_0,e605,hx605_0,hl605_0,hi605_0⟩:=at_T56 (Kd.V_reads' HO_0.out).2.2 x8_1 p605 q605
     cases e605
     obtain ⟨ce605,hce605,hMe605,hcc605⟩:=Kd.V_get HO_0.out z56 x8_1 p605 (by first|exact q605|exact of_decide_eq_true (zz11)|(have e_:=(Kd.V_reads' HO_0.out).1;omega));obtain ⟨ua605_0,uc605_0,rfl,ul605_0,ge605_0⟩:=k56_openF hMe605;have hv605_0:=hcc605 0 _ rfl;rw [Nat.add_zero,show (k56).sz = 1 from rfl,Nat.mul_one] at hv605_0;replace hv605_0:=Option.some.inj (hv605_0.symm.trans hx605_0)
     injection hv605_0 with hva_ hvn_ hvc_
     rw [hva_] at ge605_0;rw [hvc_] at ul605_0;have HL605_0:=Aside0.mk (show Kd.V (Kd.slice 3 (Kd.int .i64)) 22 _ w.heap.size _ _ ((rd_T56 l0 x8_1).f0) from Kd.V_mk ul605_0 ge605_0);clear hva_ hvn_ hvc_ ge605_0 ul605_0;clear hcc605 hce605;have HR605_0:=Aside0.mk hi605_0;have HC605_0:=Aside0.mk hl605_0;clear hi605_0 hl605_0;replace p605:=eq_true p605;replace q605:=eq_true q605
     go_wp2_with (first|((with_reducible refine gate_builtin (b:=.append) (xs:=#[.tmp 22,.tmp 27]) rfl ?_);at_builtin;refine Kd.N_append k56 (w0:=w) w.heap.size rfl (.tmp 22) (.tmp 27) 25 56 (.agg #[(.slice none 0 0)]) 24 rfl Try.underlying25 info56 rfl (zz28) (zz4) u7 x7_1 (⟨(rd_T56 l0 x8_1).f0⟩:S56) [.slice A605_0 ((rd_T56 l0 x8_1).f0).length c605_0] (fun k_=>((P0_ k_∨P2_0_ k_)∨w.heap.size≤k_)∧k_ ≠ gb601) (fun k_=>((fun k_=>((P0_ k_∨P2_0_ k_)∨w.heap.size≤k_)∧k_ ≠ gb601)) k_∧some k_ ≠ (u7:Value).ownBlock) rfl rfl ?aP (fun _ hk=>hk) ?aF ?aO ?aB ?aS ?aL ?_;(case aP=>exact (k56_mkF _ _ (⟨(rd_T56 l0 x8_1).f0⟩:S56) (Kd.V_reads' (Kd.V_mono (ok':=(fun k_=>((fun k_=>((P0_ k_∨P2_0_ k_)∨w.heap.size≤k_)∧k_ ≠ gb601)) k_∧some k_ ≠ (u7:Value).ownBlock)) (HL605_0.out) (fun k_ hk=>⟨⟨hk.1,hk.2.2⟩,hk.2.1⟩))).2.1 (Kd.V_F (Kd.V_mono (ok':=(fun k_=>((fun k_=>((P0_ k_∨P2_0_ k_)∨w.heap.size≤k_)∧k_ ≠ gb601)) k_∧some k_ ≠ (u7:Value).ownBlock)) (HL605_0.out) (fun k_ hk=>⟨⟨hk.1,hk.2.2⟩,hk.2.1⟩)))));(case aB=>exact (have h0_:=GE601;zz7));(case aF=>exact (fun k_ hk=>⟨(.inr (Nat.le_trans (below_size (have h0_:=GE601;zz7)) hk)),Kd.freshB (g:=gb601) (o:=.cells #[.slice A2_0 l2_0.length c2_0] 56 (0,0)) (have h0_:=BK601;zz9) k_ hk⟩));(case aO=>exact (have h0_:=HO_7;zz27));(case aS=>exact (below_size (have h0_:=GE601;zz7)));(case aL=>have:=LMc11.out;omega);intro v607 w12 ho hb hg hat;rw [← Ny606.out] at ho;replace HO_0:=Aside0.mk (Kd.V_afterv (ok:=(fun k_=>((P0_ k_∨P2_0_ k_)∨w.heap.size≤k_)∧k_ ≠ gb601)) (have h0_:=HO_0;zz29) hg hat);replace HO_602000:=Aside0.mk (Kd.V_afterv (ok:=(fun k_=>((P0_ k_∨P2_0_ k_)∨w.heap.size≤k_)∧k_ ≠ gb601)) (have h0_:=HO_602000;zz29) hg hat);replace BK601:=Aside0.mk (blk_grown (g:=gb601) (o:=.cells #[.slice A2_0 l2_0.length c2_0] 56 (0,0)) (have h0_:=BK601;zz9) hg (Kd.N_away HO_7.out (fun _ hk=>hk.2)));replace HL605_0:=Aside0.mk (Kd.V_afterv (ok:=(fun k_=>((P0_ k_∨P2_0_ k_)∨w.heap.size≤k_)∧k_ ≠ gb601)) (have h0_:=HL605_0;zz29) hg hat);replace HB:=Aside0.mk (hb);have HO608:=Aside0.mk (ho);clear HO_7;clear ho hb hg hat))
     go_roundg k1
     case measure=>have:=HK1.out;omega
     case rel=>exact ⟨(y606),(wrap64 (x8_1+1)),(zz2),H',⟨zz12⟩,⟨(have h0_:=HO_0;zz37)⟩,⟨(have h0_:=HO608;zz27)⟩,⟨(have h0_:=HO_602000;zz37)⟩,⟨(have h0_:=BK601;zz9)⟩,⟨(have h0_:=GE601;zz7)⟩⟩
   ·have c5b0:=decide_eq_false c5;clear c5;obtain rfl:=Option.some.inj H
    go_wp2
    go_ret
    exact ⟨_,zz6,(have h0_:=HO_7;zz30),(have h0_:=GE601;zz7)⟩
def U16.l0:Nat→List Int→List Int→Int→Option (Int)
 | 0,_,_,_=>none
 | k+1,x0,x1,x5=>if x5≥0 then ((U20.f x0 x5).bind fun t609=>((U20.f x1 x5).bind fun t610=>(if t609 < t610 then (some (-1)) else (if t609 > t610 then (some 1) else (U16.l0 k x0 x1 (wrap64 (x5 - 1))))))) else (some 0)
def U16.f (k:Nat) (l0:List Int) (l1:List Int):Option (Int):=U16.l0 k l0 l1 (wrap64 ((mx (l0.length:Int) (l1.length:Int)) - 1))
theorem U16.mono_l:∀ k,(∀ y0 y1 y2,LeO (U16.l0 k y0 y1 y2) (U16.l0 (k+1) y0 y1 y2))
 | 0=>fun _ _ _ r h=>by simp [U16.l0] at h
 | k+1=>by
  have ih0:=U16.mono_l k
  ·intro y0 y1 y2;unfold U16.l0
   exact zm25_0
theorem U16.mono:∀ a0 a1 k,LeO (U16.f k a0 a1) (U16.f (k+1) a0 a1):=by
 intro a0 a1 k;have ih0:=U16.mono_l k;unfold U16.f
 exact zm25_0
set_option maxHeartbeats 8000000 in
set_option maxRecDepth 100000 in
theorem U16.calls (k:Nat) (A0:Option Addr) (c0:Nat) (l0:List Int) (A1:Option Addr) (c1:Nat) (l1:List Int) (r:Int) (w:World) (hr0:Kd.C (Kd.int .u32) w A0 l0.length l0) (hc0:l0.length≤c0) (hr1:Kd.C (Kd.int .u32) w A1 l1.length l1) (hc1:l1.length≤c1) (h:U16.f k l0 l1 = some r) :
  Calls Try.prog 75 #[.slice A0 l0.length c0,.slice A1 l1.length c1] w fun e w'=>e = .returned (.int .i64 r)∧Below w.heap.size w w':=by
 have HR0:=Aside0.mk hr0;have HC0:=Aside0.mk hc0;clear hr0 hc0;have HR1:=Aside0.mk hr1;have HC1:=Aside0.mk hc1;clear hr1 hc1;have HB:=Aside0.mk (Below.refl w.heap.size w);have H:(U16.l0 k l0 l1 (wrap64 ((mx (l0.length:Int) (l1.length:Int)) - 1))) = some r:=h;clear h;obtain ⟨ji3,hji3⟩:∃ j_:Int,(mx (l0.length:Int) (l1.length:Int)) = j_:=⟨_,rfl⟩;replace H:(U16.l0 k l0 l1 (wrap64 ((ji3) - 1))) = some r:=(have h0_:=hji3;zz15)
 (try (have hji3l:0≤ji3:=by (rw [← hji3];unfold mx;(repeat' split)<;>omega)))
 (try (have hji3m:0≤ji3:=zz4))
 have hji3_:(if (l0.length:Int) < (l1.length:Int) then (l1.length:Int) else (l0.length:Int)) = ji3:=hji3
 (try (have hji3N:=hji3_;simp only [Int.ofNat_lt] at hji3N))
 have H':=Aside0.mk H;clear H;go_enter Try.func75,Try.ntmps75
 go_wp2
 go_loopg [5] k (fun kq v5 w'=>∃ (x5_1:Int),v5 = .int .i64 x5_1∧Aside0 (U16.l0 kq l0 l1 x5_1 = some r)∧Aside0 (kq≤k)∧Aside0 (Below w.heap.size w w'))
 case atStart=>exact ⟨(wrap64 ((ji3) - 1)),(have h0_:=hji3;zz17),H',⟨Nat.le_refl _⟩,⟨zz5⟩⟩
 case round =>
  clear H'
  (try clear c1)
  obtain ⟨x5_1,rfl,HA,HK1,HB⟩:=hrel
  cases gk with
  | zero=>exact absurd HA.out (by simp [U16.l0])
  | succ k1 =>
   have H:=HA.out;clear HA;simp only [U16.l0] at H;replace H:=zzj H;rcases H with ⟨c4,H⟩|⟨c4,H⟩
   ·have c4b0:=decide_eq_true c4;clear c4;replace H:=zzb H;obtain ⟨t609,A5,H⟩:=H;replace H:=zzb H;obtain ⟨t610,A6,H⟩:=H;replace H:=zzj H;rcases H with ⟨c7,H⟩|⟨c7,H⟩
    ·have c7b0:=decide_eq_true c7;clear c7;obtain rfl:=Option.some.inj H
     go_wp2_with (first|((with_reducible refine gate_callee (f:=74) rfl ?_);refine goesL_ (some 20) rfl rfl Try.func74 (zz0) rfl #[.slice A0 l0.length c0,.int .i64 x5_1] rfl (zz19) ?_;(with_reducible refine (U20.calls _ _ l0 x5_1 t609 _ ?_ ?_ A5.out).mono ?_);(exact (have h0_:=HR0;zz110));exact HC0.out;rintro e w' ⟨rfl,⟨nd,rfl⟩⟩;refine ⟨_,rfl,?_⟩)|((with_reducible refine gate_callee (f:=74) rfl ?_);refine goesL_ (some 23) rfl rfl Try.func74 (zz0) rfl #[.slice A1 l1.length c1,.int .i64 x5_1] rfl (zz19) ?_;(with_reducible refine (U20.calls _ _ l1 x5_1 t610 _ ?_ ?_ A6.out).mono ?_);exact zz135;exact HC1.out;rintro e w' ⟨rfl,⟨nd,rfl⟩⟩;refine ⟨_,rfl,?_⟩))
     go_ret
     exact ⟨(have h0_:=hji3;zz16),zz5⟩
    ·have c7b0:=decide_eq_false c7;clear c7;replace H:=zzj H;rcases H with ⟨c8,H⟩|⟨c8,H⟩
     ·have c8b0:=decide_eq_true c8;clear c8;obtain rfl:=Option.some.inj H
      go_wp2_with (first|((with_reducible refine gate_callee (f:=74) rfl ?_);refine goesL_ (some 20) rfl rfl Try.func74 (zz0) rfl #[.slice A0 l0.length c0,.int .i64 x5_1] rfl (zz19) ?_;(with_reducible refine (U20.calls _ _ l0 x5_1 t609 _ ?_ ?_ A5.out).mono ?_);(exact (have h0_:=HR0;zz110));exact HC0.out;rintro e w' ⟨rfl,⟨nd,rfl⟩⟩;refine ⟨_,rfl,?_⟩)|((with_reducible refine gate_callee (f:=74) rfl ?_);refine goesL_ (some 23) rfl rfl Try.func74 (zz0) rfl #[.slice A1 l1.length c1,.int .i64 x5_1] rfl (zz19) ?_;(with_reducible refine (U20.calls _ _ l1 x5_1 t610 _ ?_ ?_ A6.out).mono ?_);exact zz135;exact HC1.out;rintro e w' ⟨rfl,⟨nd,rfl⟩⟩;refine ⟨_,rfl,?_⟩))
      go_ret
      exact ⟨(have h0_:=hji3;zz16),zz5⟩
     ·have c8b0:=decide_eq_false c8;clear c8;have H':=Aside0.mk H;clear H
      go_wp2_with (first|((with_reducible refine gate_callee (f:=74) rfl ?_);refine goesL_ (some 20) rfl rfl Try.func74 (zz0) rfl #[.slice A0 l0.length c0,.int .i64 x5_1] rfl (zz19) ?_;(with_reducible refine (U20.calls _ _ l0 x5_1 t609 _ ?_ ?_ A5.out).mono ?_);(exact (have h0_:=HR0;zz110));exact HC0.out;rintro e w' ⟨rfl,⟨nd,rfl⟩⟩;refine ⟨_,rfl,?_⟩)|((with_reducible refine gate_callee (f:=74) rfl ?_);refine goesL_ (some 23) rfl rfl Try.func74 (zz0) rfl #[.slice A1 l1.length c1,.int .i64 x5_1] rfl (zz19) ?_;(with_reducible refine (U20.calls _ _ l1 x5_1 t610 _ ?_ ?_ A6.out).mono ?_);exact zz135;exact HC1.out;rintro e w' ⟨rfl,⟨nd,rfl⟩⟩;refine ⟨_,rfl,?_⟩))
      go_roundg k1
      case measure=>have:=HK1.out;omega
      case rel=>exact ⟨(wrap64 (x5_1 - 1)),(zz2),H',⟨zz12⟩,⟨zz5⟩⟩
   ·have c4b0:=decide_eq_false c4;clear c4;obtain rfl:=Option.some.inj H
    go_wp2
    go_ret
    exact ⟨(have h0_:=hji3;zz16),zz5⟩
end Go.Proofs.Ytmcegphcjphdcaa.QA
