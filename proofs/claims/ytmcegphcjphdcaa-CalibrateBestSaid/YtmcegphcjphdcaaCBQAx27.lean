import Derived.Test.YtmcegphcjphdcaaCBQAx0
import Derived.Test.YtmcegphcjphdcaaCBQAx17
namespace Go.Proofs.Ytmcegphcjphdcaa.QA
open Go.RowKit Go.Proofs.YtmcegphcjphdcaaW.PrintWords Go.Proofs.YtmcegphcjphdcaaW.PrintLast Go.Proofs.YtmcegphcjphdcaaW.PrintMore
attribute [local go_sem] max2_int min2_int max_two min_two max_three min_three max_four min_four
set_option linter.unusedVariables false
set_option linter.unusedSimpArgs false
def U38.l0:Nat→List (S56)→Int→List (S56)→Int→List (List Int)→Option ((List (S56)))
 | 0,_,_,_,_,_=>none
 | k+1,x0,x1,x7,x8,x602000=>if x8 < (x0.length:Int) then (if x8 = x1 then (if x7.length < 5864062014805 then (U38.l0 k x0 x1 (x7++[(⟨x602000⟩:S56)]) (wrap64 (x8+1)) x602000) else (none)) else (if 0≤x8 then (if x7.length < 5864062014805 then (U38.l0 k x0 x1 (x7++[(⟨(rd_T56 x0 x8).f0⟩:S56)]) (wrap64 (x8+1)) x602000) else (none)) else (none))) else (some x7)
def U38.f (k:Nat) (l0:List (S56)) (a1:Int) (l2_0:List (List Int)):Option ((List (S56))):=U38.l0 k l0 a1 ([]:List (S56)) 0 l2_0
theorem zm25_0 {P:Prop} (h:P:=by repeat' first|(with_reducible first|exact ih0 ..|exact LeO.refl _|exact LeO.none _|refine LeO.ite ?_ ?_|refine LeO.bind ?_ (fun _=>?_))|exact ih0 ..|exact LeO.none _|refine LeO.ite ?_ ?_|refine LeO.bind ?_ (fun _=>?_)):P:=h
theorem U38.mono_l:∀ k,(∀ y0 y1 y2 y3 y4,LeO (U38.l0 k y0 y1 y2 y3 y4) (U38.l0 (k+1) y0 y1 y2 y3 y4))
 | 0=>fun _ _ _ _ _ r h=>by simp [U38.l0] at h
 | k+1=>by
  have ih0:=U38.mono_l k
  ·intro y0 y1 y2 y3 y4;unfold U38.l0
   exact zm25_0
theorem U38.mono:∀ a0 a1 a2 k,LeO (U38.f k a0 a1 a2) (U38.f (k+1) a0 a1 a2):=by
 intro a0 a1 a2 k;have ih0:=U38.mono_l k;unfold U38.f
 exact zm25_0
set_option maxHeartbeats 8000000 in
set_option maxRecDepth 100000 in
theorem U38.calls (k:Nat) (P0_:Nat→Prop) (A0:Option Addr) (c0:Nat) (l0:List (S56)) (a1:Int) (P2_0_:Nat→Prop) (A2_0:Option Addr) (c2_0:Nat) (l2_0:List (List Int)) (r:List (S56)) (w:World) (hs0:Kd.V k56 56 w w.heap.size (fun k_=>P0_ k_) (.slice A0 l0.length c0) l0) (hs2_0:Kd.V (Kd.slice 3 (Kd.int .i64)) 22 w w.heap.size (fun k_=>P2_0_ k_) (.slice A2_0 l2_0.length c2_0) l2_0) (h:U38.f k l0 a1 l2_0 = some r) :
  Calls Try.prog 68 #[.slice A0 l0.length c0,.int .i64 a1,.agg #[.slice A2_0 l2_0.length c2_0]] w fun e w'=>∃ v0_:Value,e = .returned (v0_)∧Kd.N k56 56 w' w.heap.size (fun k_=>((P0_ k_∨P2_0_ k_)∨w.heap.size≤k_)) v0_ r∧Below w.heap.size w w':=by
 have hu56:=Try.underlying56;have HO0:=Aside0.mk (show Kd.V k56 56 w w.heap.size (fun k_=>((P0_ k_∨P2_0_ k_)∨w.heap.size≤k_)) (.slice A0 l0.length c0) l0 from Kd.V_mono hs0 (fun k_ hk=>.inl (.inl hk)));have HO2_0:=Aside0.mk (show Kd.V (Kd.slice 3 (Kd.int .i64)) 22 w w.heap.size (fun k_=>((P0_ k_∨P2_0_ k_)∨w.heap.size≤k_)) (.slice A2_0 l2_0.length c2_0) l2_0 from Kd.V_mono hs2_0 (fun k_ hk=>.inl (.inr hk)));have HB:=Aside0.mk (Below.refl w.heap.size w);have H:(U38.l0 k l0 a1 ([]:List (S56)) 0 l2_0) = some r:=h;clear h;have H':=Aside0.mk H;clear H;go_enter Try.func68,Try.ntmps68
 go_wp2_with (first|((with_reducible refine gate_dst (N:=5) rfl ?_);refine box_event ?hg (N:=5) ?hd (cs:=#[.slice A2_0 l2_0.length c2_0]) (t:=56) ?hr ?_;(case hd=>rfl);(case hg=>rfl);(case hr=>exact zz146);intro gb601 hg w4 hbox hb;replace HO0:=Aside0.mk (Kd.V_below (Kd.V_elderB (zz22) gb601 (Nat.le_of_eq hg.symm)) hb);replace HO2_0:=Aside0.mk (Kd.V_below (Kd.V_elderB (by (with_reducible repeat (first|apply Kd.V_alloc|apply Kd.V_drewN|apply Kd.V_drew));exact HO2_0.out) gb601 (Nat.le_of_eq hg.symm)) hb);have BK601:=Aside0.mk (hbox);have GW601:=Aside0.mk ((by rw [hg];exact (below_size (zz5)):w.heap.size≤gb601));have GE601:=Aside0.mk ((by rw [hg];exact (below_size (zz5)):w.heap.size≤gb601));replace HB:=Aside0.mk (below_step (zz5) hb);clear hb hbox hg))
 go_loopg [7,8] k (fun kq v7 v8 w'=>∃ (x7_1:List (S56)) (x8_1:Int),v8 = .int .i64 x8_1∧Aside0 (U38.l0 kq l0 a1 x7_1 x8_1 l2_0 = some r)∧Aside0 (kq≤k)∧Aside0 (Kd.V k56 56 w' w.heap.size (fun k_=>((P0_ k_∨P2_0_ k_)∨w.heap.size≤k_)∧some k_ ≠ (v7:Value).ownBlock∧k_ ≠ gb601) (.slice A0 l0.length c0) l0)∧Aside0 (Kd.N k56 56 w' w.heap.size (fun k_=>((P0_ k_∨P2_0_ k_)∨w.heap.size≤k_)∧k_ ≠ gb601) v7 x7_1)∧Aside0 (Kd.V (Kd.slice 3 (Kd.int .i64)) 22 w' w.heap.size (fun k_=>((P0_ k_∨P2_0_ k_)∨w.heap.size≤k_)∧some k_ ≠ (v7:Value).ownBlock∧k_ ≠ gb601) (.slice A2_0 l2_0.length c2_0) l2_0)∧Aside0 (w'.heap[gb601]? = some (.cells #[(.slice A2_0 l2_0.length c2_0)] 56 (0,0)))∧Aside0 (Below w.heap.size w w'))
 case atStart=>exact ⟨(([]:List (S56))),(0),(zz2),H',⟨Nat.le_refl _⟩,⟨by (with_reducible repeat (first|apply Kd.V_alloc|apply Kd.V_drewN|apply Kd.V_drew));exact Kd.V_mono HO0.out (fun _ hk=>⟨hk.1,⟨(by simp [Value.ownBlock]),hk.2⟩⟩)⟩,⟨zz84⟩,⟨by (with_reducible repeat (first|apply Kd.V_alloc|apply Kd.V_drewN|apply Kd.V_drew));exact Kd.V_mono HO2_0.out (fun _ hk=>⟨hk.1,⟨(by simp [Value.ownBlock]),hk.2⟩⟩)⟩,⟨zz144⟩,⟨zz145⟩⟩
 case round =>
  clear H'
  (try clear c2);(try clear p2)
  obtain ⟨x7_1,x8_1,rfl,HA,HK1,HO_0,HO_7,HO_602000,BK601,HB⟩:=hrel
  cases gk with
  | zero=>exact absurd HA.out (by simp [U38.l0])
  | succ k1 =>
   have H:=HA.out;clear HA;simp only [U38.l0] at H;by_cases c5:x8_1 < (l0.length:Int)
   ·rw [if_pos c5] at H;have c5b0:=decide_eq_true c5;clear c5;by_cases c6:x8_1 = a1
    ·rw [if_pos c6] at H;have c6b0:=beq_iff_eq.mpr c6;have c6b1:=bne_eq_false_iff_eq.mpr c6;clear c6;by_cases c7:x7_1.length < 5864062014805
     ·rw [if_pos c7] at H;have LMc7:=Aside0.mk c7;clear c7;obtain ⟨y602,hy602⟩:∃ y_:List (S56),y_ = (x7_1++[(⟨l2_0⟩:S56)]):=⟨_,rfl⟩;have hy_:=hy602;replace H:(U38.l0 k1 l0 a1 y602 (wrap64 (x8_1+1)) l2_0) = some r:=zzh;clear hy_;have Ny602:=Aside0.mk hy602;clear hy602;have H':=Aside0.mk H;clear H;have hcz8_0:wr.cell? ⟨gb601,0,none⟩ = some (.slice A2_0 l2_0.length c2_0):=(blk_cell BK601.out 0).trans rfl;have hfz8_0:=blk_frozen BK601.out 0
      go_wp2_with (first|((with_reducible refine gate_builtin (b:=.append) (xs:=#[.tmp 18,.tmp 20]) rfl ?_);at_builtin;refine Kd.N_append k56 (w0:=w) w.heap.size rfl (.tmp 18) (.tmp 20) 25 56 (.agg #[(.slice none 0 0)]) 24 rfl Try.underlying25 info56 rfl (zz31) (zz4) u7 x7_1 (⟨l2_0⟩:S56) [.slice A2_0 l2_0.length c2_0] (fun k_=>((P0_ k_∨P2_0_ k_)∨w.heap.size≤k_)∧k_ ≠ gb601) (fun k_=>((fun k_=>((P0_ k_∨P2_0_ k_)∨w.heap.size≤k_)∧k_ ≠ gb601)) k_∧some k_ ≠ (u7:Value).ownBlock) rfl rfl ?aP (fun _ hk=>hk) ?aF ?aO ?aB ?aS ?aL ?_;(case aP=>exact (k56_mkF _ _ (⟨l2_0⟩:S56) (Kd.V_reads' (Kd.V_mono (ok':=(fun k_=>((fun k_=>((P0_ k_∨P2_0_ k_)∨w.heap.size≤k_)∧k_ ≠ gb601)) k_∧some k_ ≠ (u7:Value).ownBlock)) (HO_602000.out) (fun k_ hk=>⟨⟨hk.1,hk.2.2⟩,hk.2.1⟩))).2.1 (Kd.V_F (Kd.V_mono (ok':=(fun k_=>((fun k_=>((P0_ k_∨P2_0_ k_)∨w.heap.size≤k_)∧k_ ≠ gb601)) k_∧some k_ ≠ (u7:Value).ownBlock)) (HO_602000.out) (fun k_ hk=>⟨⟨hk.1,hk.2.2⟩,hk.2.1⟩)))));(case aB=>exact (zz145));(case aF=>exact (fun k_ hk=>⟨(.inr (Nat.le_trans (below_size (zz145)) hk)),Kd.freshB (g:=gb601) (o:=.cells #[.slice A2_0 l2_0.length c2_0] 56 (0,0)) (zz144) k_ hk⟩));(case aO=>exact (by (with_reducible repeat (first|apply Kd.N_alloc|apply Kd.N_drewN|apply Kd.N_drew));exact HO_7.out));(case aS=>exact (below_size (zz145)));(case aL=>have:=LMc7.out;omega);intro v603 w9 ho hb hg hat;rw [← Ny602.out] at ho;have n0_:=Aside0.mk (Kd.V_afterv (ok:=(fun k_=>((P0_ k_∨P2_0_ k_)∨w.heap.size≤k_)∧k_ ≠ gb601)) (by (with_reducible repeat (first|apply Kd.V_alloc|apply Kd.V_drewN|apply Kd.V_drew));exact Kd.V_mono HO_0.out (fun _ hk=>⟨⟨hk.1,hk.2.2⟩,hk.2.1⟩)) hg hat);have n1_:=Aside0.mk (Kd.V_afterv (ok:=(fun k_=>((P0_ k_∨P2_0_ k_)∨w.heap.size≤k_)∧k_ ≠ gb601)) (by (with_reducible repeat (first|apply Kd.V_alloc|apply Kd.V_drewN|apply Kd.V_drew));exact Kd.V_mono HO_602000.out (fun _ hk=>⟨⟨hk.1,hk.2.2⟩,hk.2.1⟩)) hg hat);have n2_:=Aside0.mk (blk_grown (g:=gb601) (o:=.cells #[.slice A2_0 l2_0.length c2_0] 56 (0,0)) (zz144) hg (Kd.N_away HO_7.out (fun _ hk=>hk.2)));have n3_:=Aside0.mk (hb);have n4_:=Aside0.mk (ho);clear HO_0;clear HO_602000;clear BK601;clear HB;clear HO_7;have HO_0:=n0_;have HO_602000:=n1_;have BK601:=n2_;have HB:=n3_;have HO604:=n4_;clear n0_ n1_ n2_ n3_ n4_;clear ho hb hg hat))
      go_roundg k1
      case measure=>have:=HK1.out;omega
      case rel=>exact ⟨(y602),(wrap64 (x8_1+1)),(zz2),H',⟨zz12⟩,⟨zz43⟩,⟨by (with_reducible repeat (first|apply Kd.N_alloc|apply Kd.N_drewN|apply Kd.N_drew));exact HO604.out⟩,⟨by (with_reducible repeat (first|apply Kd.V_alloc|apply Kd.V_drewN|apply Kd.V_drew));exact Kd.V_mono HO_602000.out (fun _ hk=>⟨hk.1.1,⟨hk.2,hk.1.2⟩⟩)⟩,⟨zz144⟩,⟨zz145⟩⟩
     ·rw [if_neg c7] at H
      exact absurd H (zz14)
    ·rw [if_neg c6] at H;have c6b0:=beq_eq_false_iff_ne.mpr c6;have c6b1:=bne_iff_ne.mpr c6;by_cases c10:0≤x8_1
     ·rw [if_pos c10] at H;have c10b0:=decide_eq_true c10;clear c10;by_cases c11:x7_1.length < 5864062014805
      ·rw [if_pos c11] at H;have LMc11:=Aside0.mk c11;clear c11;obtain ⟨y606,hy606⟩:∃ y_:List (S56),y_ = (x7_1++[(⟨(rd_T56 l0 x8_1).f0⟩:S56)]):=⟨_,rfl⟩;have hy_:=hy606;replace H:(U38.l0 k1 l0 a1 y606 (wrap64 (x8_1+1)) l2_0) = some r:=zzh;clear hy_;have Ny606:=Aside0.mk hy606;clear hy606;have H':=Aside0.mk H;clear H;have p605:0≤(x8_1:Int):=of_decide_eq_true (zz11);have q605:x8_1 < (l0.length:Int):=of_decide_eq_true (zz11);obtain ⟨ad605,A605_0,c605_0,e605,hx605_0,hl605_0,hi605_0⟩:=at_T56 (Kd.V_reads' HO_0.out).2.2 x8_1 p605 q605
       cases e605
       obtain ⟨ce605,hce605,hMe605,hcc605⟩:=Kd.V_get HO_0.out z56 x8_1 p605 (by first|exact q605|exact of_decide_eq_true (zz11)|(have e_:=(Kd.V_reads' HO_0.out).1;omega));obtain ⟨ua605_0,uc605_0,rfl,ul605_0,ge605_0⟩:=k56_openF hMe605;have hv605_0:=hcc605 0 _ rfl;rw [Nat.add_zero,show (k56).sz = 1 from rfl,Nat.mul_one] at hv605_0;replace hv605_0:=Option.some.inj (hv605_0.symm.trans hx605_0)
       injection hv605_0 with hva_ hvn_ hvc_
       rw [hva_] at ge605_0;rw [hvc_] at ul605_0;have HL605_0:=Aside0.mk (show Kd.V (Kd.slice 3 (Kd.int .i64)) 22 _ w.heap.size _ _ ((rd_T56 l0 x8_1).f0) from Kd.V_mk ul605_0 ge605_0);clear hva_ hvn_ hvc_ ge605_0 ul605_0;clear hcc605 hce605;have HR605_0:=Aside0.mk hi605_0;have HC605_0:=Aside0.mk hl605_0;clear hi605_0 hl605_0;replace p605:=eq_true p605;replace q605:=eq_true q605
       go_wp2_with (first|((with_reducible refine gate_builtin (b:=.append) (xs:=#[.tmp 22,.tmp 27]) rfl ?_);at_builtin;refine Kd.N_append k56 (w0:=w) w.heap.size rfl (.tmp 22) (.tmp 27) 25 56 (.agg #[(.slice none 0 0)]) 24 rfl Try.underlying25 info56 rfl (zz31) (zz4) u7 x7_1 (⟨(rd_T56 l0 x8_1).f0⟩:S56) [.slice A605_0 ((rd_T56 l0 x8_1).f0).length c605_0] (fun k_=>((P0_ k_∨P2_0_ k_)∨w.heap.size≤k_)∧k_ ≠ gb601) (fun k_=>((fun k_=>((P0_ k_∨P2_0_ k_)∨w.heap.size≤k_)∧k_ ≠ gb601)) k_∧some k_ ≠ (u7:Value).ownBlock) rfl rfl ?aP (fun _ hk=>hk) ?aF ?aO ?aB ?aS ?aL ?_;(case aP=>exact (k56_mkF _ _ (⟨(rd_T56 l0 x8_1).f0⟩:S56) (Kd.V_reads' (Kd.V_mono (ok':=(fun k_=>((fun k_=>((P0_ k_∨P2_0_ k_)∨w.heap.size≤k_)∧k_ ≠ gb601)) k_∧some k_ ≠ (u7:Value).ownBlock)) (HL605_0.out) (fun k_ hk=>⟨⟨hk.1,hk.2.2⟩,hk.2.1⟩))).2.1 (Kd.V_F (Kd.V_mono (ok':=(fun k_=>((fun k_=>((P0_ k_∨P2_0_ k_)∨w.heap.size≤k_)∧k_ ≠ gb601)) k_∧some k_ ≠ (u7:Value).ownBlock)) (HL605_0.out) (fun k_ hk=>⟨⟨hk.1,hk.2.2⟩,hk.2.1⟩)))));(case aB=>exact (zz145));(case aF=>exact (fun k_ hk=>⟨(.inr (Nat.le_trans (below_size (zz145)) hk)),Kd.freshB (g:=gb601) (o:=.cells #[.slice A2_0 l2_0.length c2_0] 56 (0,0)) (zz144) k_ hk⟩));(case aO=>exact (by (with_reducible repeat (first|apply Kd.N_alloc|apply Kd.N_drewN|apply Kd.N_drew));exact HO_7.out));(case aS=>exact (below_size (zz145)));(case aL=>have:=LMc11.out;omega);intro v607 w12 ho hb hg hat;rw [← Ny606.out] at ho;have n0_:=Aside0.mk (Kd.V_afterv (ok:=(fun k_=>((P0_ k_∨P2_0_ k_)∨w.heap.size≤k_)∧k_ ≠ gb601)) (by (with_reducible repeat (first|apply Kd.V_alloc|apply Kd.V_drewN|apply Kd.V_drew));exact Kd.V_mono HO_0.out (fun _ hk=>⟨⟨hk.1,hk.2.2⟩,hk.2.1⟩)) hg hat);have n1_:=Aside0.mk (Kd.V_afterv (ok:=(fun k_=>((P0_ k_∨P2_0_ k_)∨w.heap.size≤k_)∧k_ ≠ gb601)) (by (with_reducible repeat (first|apply Kd.V_alloc|apply Kd.V_drewN|apply Kd.V_drew));exact Kd.V_mono HO_602000.out (fun _ hk=>⟨⟨hk.1,hk.2.2⟩,hk.2.1⟩)) hg hat);have n2_:=Aside0.mk (blk_grown (g:=gb601) (o:=.cells #[.slice A2_0 l2_0.length c2_0] 56 (0,0)) (zz144) hg (Kd.N_away HO_7.out (fun _ hk=>hk.2)));have n3_:=Aside0.mk (Kd.V_afterv (ok:=(fun k_=>((P0_ k_∨P2_0_ k_)∨w.heap.size≤k_)∧k_ ≠ gb601)) (by (with_reducible repeat (first|apply Kd.V_alloc|apply Kd.V_drewN|apply Kd.V_drew));exact Kd.V_mono HL605_0.out (fun _ hk=>⟨⟨hk.1,hk.2.2⟩,hk.2.1⟩)) hg hat);have n4_:=Aside0.mk (hb);have n5_:=Aside0.mk (ho);clear HO_0;clear HO_602000;clear BK601;clear HL605_0;clear HB;clear HO_7;have HO_0:=n0_;have HO_602000:=n1_;have BK601:=n2_;have HL605_0:=n3_;have HB:=n4_;have HO608:=n5_;clear n0_ n1_ n2_ n3_ n4_ n5_;clear ho hb hg hat))
       go_roundg k1
       case measure=>have:=HK1.out;omega
       case rel=>exact ⟨(y606),(wrap64 (x8_1+1)),(zz2),H',⟨zz12⟩,⟨zz43⟩,⟨by (with_reducible repeat (first|apply Kd.N_alloc|apply Kd.N_drewN|apply Kd.N_drew));exact HO608.out⟩,⟨by (with_reducible repeat (first|apply Kd.V_alloc|apply Kd.V_drewN|apply Kd.V_drew));exact Kd.V_mono HO_602000.out (fun _ hk=>⟨hk.1.1,⟨hk.2,hk.1.2⟩⟩)⟩,⟨zz144⟩,⟨zz145⟩⟩
      ·rw [if_neg c11] at H
       exact absurd H (zz14)
     ·rw [if_neg c10] at H
      exact absurd H (zz14)
   ·rw [if_neg c5] at H;have c5b0:=decide_eq_false c5;clear c5;obtain rfl:=Option.some.inj H
    go_wp2
    go_ret
    exact ⟨_,zz6,by (with_reducible repeat (first|apply Kd.N_alloc|apply Kd.N_drewN|apply Kd.N_drew));exact Kd.N_mono HO_7.out (fun _ hk=>hk.1),zz145⟩
def U19.l0:Nat→List Int→List Int→Int→Option (Int)
 | 0,_,_,_=>none
 | k+1,x0,x1,x5=>if x5≥0 then ((U23.f x0 x5).bind fun t609=>((U23.f x1 x5).bind fun t610=>(if t609 < t610 then (some (-1)) else (if t609 > t610 then (some 1) else (U19.l0 k x0 x1 (wrap64 (x5 - 1))))))) else (some 0)
def U19.f (k:Nat) (l0:List Int) (l1:List Int):Option (Int):=U19.l0 k l0 l1 (wrap64 ((mx (l0.length:Int) (l1.length:Int)) - 1))
theorem U19.mono_l:∀ k,(∀ y0 y1 y2,LeO (U19.l0 k y0 y1 y2) (U19.l0 (k+1) y0 y1 y2))
 | 0=>fun _ _ _ r h=>by simp [U19.l0] at h
 | k+1=>by
  have ih0:=U19.mono_l k
  ·intro y0 y1 y2;unfold U19.l0
   exact zm25_0
theorem U19.mono:∀ a0 a1 k,LeO (U19.f k a0 a1) (U19.f (k+1) a0 a1):=by
 intro a0 a1 k;have ih0:=U19.mono_l k;unfold U19.f
 exact zm25_0
set_option maxHeartbeats 8000000 in
set_option maxRecDepth 100000 in
theorem U19.calls (k:Nat) (A0:Option Addr) (c0:Nat) (l0:List Int) (A1:Option Addr) (c1:Nat) (l1:List Int) (r:Int) (w:World) (hr0:Kd.C (Kd.int .u32) w A0 l0.length l0) (hc0:l0.length≤c0) (hr1:Kd.C (Kd.int .u32) w A1 l1.length l1) (hc1:l1.length≤c1) (h:U19.f k l0 l1 = some r) :
  Calls Try.prog 75 #[.slice A0 l0.length c0,.slice A1 l1.length c1] w fun e w'=>e = .returned (.int .i64 r)∧Below w.heap.size w w':=by
 have HR0:=Aside0.mk hr0;have HC0:=Aside0.mk hc0;clear hr0 hc0;have HR1:=Aside0.mk hr1;have HC1:=Aside0.mk hc1;clear hr1 hc1;have HB:=Aside0.mk (Below.refl w.heap.size w);have H:(U19.l0 k l0 l1 (wrap64 ((mx (l0.length:Int) (l1.length:Int)) - 1))) = some r:=h;clear h;obtain ⟨ji3,hji3⟩:∃ j_:Int,(mx (l0.length:Int) (l1.length:Int)) = j_:=⟨_,rfl⟩;replace H:(U19.l0 k l0 l1 (wrap64 ((ji3) - 1))) = some r:=zz23
 (try (have hji3l:0≤ji3:=by (rw [← hji3];unfold mx;(repeat' split)<;>omega)))
 (try (have hji3m:0≤ji3:=zz4))
 have hji3_:(if (l0.length:Int) < (l1.length:Int) then (l1.length:Int) else (l0.length:Int)) = ji3:=hji3
 (try (have hji3N:=hji3_;simp only [Int.ofNat_lt] at hji3N))
 have H':=Aside0.mk H;clear H;go_enter Try.func75,Try.ntmps75
 go_wp2
 go_loopg [5] k (fun kq v5 w'=>∃ (x5_1:Int),v5 = .int .i64 x5_1∧Aside0 (U19.l0 kq l0 l1 x5_1 = some r)∧Aside0 (kq≤k)∧Aside0 (Below w.heap.size w w'))
 case atStart=>exact ⟨(wrap64 ((ji3) - 1)),(zz24),H',⟨Nat.le_refl _⟩,⟨zz5⟩⟩
 case round =>
  clear H'
  (try clear c1);(try clear p2)
  obtain ⟨x5_1,rfl,HA,HK1,HB⟩:=hrel
  cases gk with
  | zero=>exact absurd HA.out (by simp [U19.l0])
  | succ k1 =>
   have H:=HA.out;clear HA;simp only [U19.l0] at H;by_cases c4:x5_1≥0
   ·rw [if_pos c4] at H;have c4b0:=decide_eq_true c4;clear c4;replace H:=Option.bind_eq_some_iff.mp H;obtain ⟨t609,A50,H⟩:=H;have A5:=Aside0.mk A50;clear A50;replace H:=Option.bind_eq_some_iff.mp H;obtain ⟨t610,A60,H⟩:=H;have A6:=Aside0.mk A60;clear A60;by_cases c7:t609 < t610
    ·rw [if_pos c7] at H;have c7b0:=decide_eq_true c7;clear c7;obtain rfl:=Option.some.inj H
     go_wp2_with (first|((with_reducible refine gate_callee (f:=74) rfl ?_);refine goesL_ (some 20) rfl rfl Try.func74 (zz0) rfl #[.slice A0 l0.length c0,.int .i64 x5_1] rfl (zz16) ?_;(with_reducible refine (U23.calls _ _ l0 x5_1 t609 _ ?side1 ?side2 A5.out).mono ?_);(case side1=>exact zz155);(case side2=>exact HC0.out);rintro e w' ⟨rfl,⟨nd,rfl⟩⟩;refine ⟨_,rfl,?_⟩)|((with_reducible refine gate_callee (f:=74) rfl ?_);refine goesL_ (some 23) rfl rfl Try.func74 (zz0) rfl #[.slice A1 l1.length c1,.int .i64 x5_1] rfl (zz16) ?_;(with_reducible refine (U23.calls _ _ l1 x5_1 t610 _ ?side1 ?side2 A6.out).mono ?_);(case side1=>exact zz174);(case side2=>exact HC1.out);rintro e w' ⟨rfl,⟨nd,rfl⟩⟩;refine ⟨_,rfl,?_⟩))
     go_ret
     exact ⟨zz26,zz5⟩
    ·rw [if_neg c7] at H;have c7b0:=decide_eq_false c7;clear c7;by_cases c8:t609 > t610
     ·rw [if_pos c8] at H;have c8b0:=decide_eq_true c8;clear c8;obtain rfl:=Option.some.inj H
      go_wp2_with (first|((with_reducible refine gate_callee (f:=74) rfl ?_);refine goesL_ (some 20) rfl rfl Try.func74 (zz0) rfl #[.slice A0 l0.length c0,.int .i64 x5_1] rfl (zz16) ?_;(with_reducible refine (U23.calls _ _ l0 x5_1 t609 _ ?side1 ?side2 A5.out).mono ?_);(case side1=>exact zz155);(case side2=>exact HC0.out);rintro e w' ⟨rfl,⟨nd,rfl⟩⟩;refine ⟨_,rfl,?_⟩)|((with_reducible refine gate_callee (f:=74) rfl ?_);refine goesL_ (some 23) rfl rfl Try.func74 (zz0) rfl #[.slice A1 l1.length c1,.int .i64 x5_1] rfl (zz16) ?_;(with_reducible refine (U23.calls _ _ l1 x5_1 t610 _ ?side1 ?side2 A6.out).mono ?_);(case side1=>exact zz174);(case side2=>exact HC1.out);rintro e w' ⟨rfl,⟨nd,rfl⟩⟩;refine ⟨_,rfl,?_⟩))
      go_ret
      exact ⟨zz26,zz5⟩
     ·rw [if_neg c8] at H;have c8b0:=decide_eq_false c8;clear c8;have H':=Aside0.mk H;clear H
      go_wp2_with (first|((with_reducible refine gate_callee (f:=74) rfl ?_);refine goesL_ (some 20) rfl rfl Try.func74 (zz0) rfl #[.slice A0 l0.length c0,.int .i64 x5_1] rfl (zz16) ?_;(with_reducible refine (U23.calls _ _ l0 x5_1 t609 _ ?side1 ?side2 A5.out).mono ?_);(case side1=>exact zz155);(case side2=>exact HC0.out);rintro e w' ⟨rfl,⟨nd,rfl⟩⟩;refine ⟨_,rfl,?_⟩)|((with_reducible refine gate_callee (f:=74) rfl ?_);refine goesL_ (some 23) rfl rfl Try.func74 (zz0) rfl #[.slice A1 l1.length c1,.int .i64 x5_1] rfl (zz16) ?_;(with_reducible refine (U23.calls _ _ l1 x5_1 t610 _ ?side1 ?side2 A6.out).mono ?_);(case side1=>exact zz174);(case side2=>exact HC1.out);rintro e w' ⟨rfl,⟨nd,rfl⟩⟩;refine ⟨_,rfl,?_⟩))
      go_roundg k1
      case measure=>have:=HK1.out;omega
      case rel=>exact ⟨(wrap64 (x5_1 - 1)),(zz2),H',⟨zz12⟩,⟨zz5⟩⟩
   ·rw [if_neg c4] at H;have c4b0:=decide_eq_false c4;clear c4;obtain rfl:=Option.some.inj H
    go_wp2
    go_ret
    exact ⟨zz26,zz5⟩
end Go.Proofs.Ytmcegphcjphdcaa.QA
