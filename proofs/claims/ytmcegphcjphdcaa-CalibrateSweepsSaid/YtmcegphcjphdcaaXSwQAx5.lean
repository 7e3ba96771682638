import Derived.Test.YtmcegphcjphdcaaXSwQAx0
import Derived.Test.YtmcegphcjphdcaaXSwQAx1
import Derived.Test.YtmcegphcjphdcaaXSwQAx2
import Derived.Test.YtmcegphcjphdcaaXSwQAx4
namespace Go.Proofs.Ytmcegphcjphdcaa.QA
open Go.RowKit Go.Proofs.YtmcegphcjphdcaaW.PrintWords Go.Proofs.YtmcegphcjphdcaaW.PrintLast Go.Proofs.YtmcegphcjphdcaaW.PrintMore
attribute [local go_sem] max2_int min2_int max_two min_two max_three min_three max_four min_four
set_option linter.unusedVariables false
set_option linter.unusedSimpArgs false
def U6.l0:Nat→List (S56)→Int→List (List Int)→List Int→Int→Int→Option ((List (List Int)))
 | 0,_,_,_,_,_,_=>none
 | k+1,x1,x3,x9,x18,x19,x20=>if x20 < x19 then (if 0≤x20 then (if x20 < (x18.length:Int) then (if x20 = x3 then (U6.l0 k x1 x3 x9 x18 x19 (wrap64 (x20+1))) else (if x20 < (x1.length:Int) then ((U54.f k x9 ((rd_T56 x1 x20).f0) (rd x18 x20)).bind fun bt202=>(U6.l0 k x1 x3 bt202.1 x18 x19 (wrap64 (x20+1)))) else (none))) else (none)) else (none)) else (some x9)
def U6.f (k:Nat) (l0_0:List Int) (l0_1:List Int) (l1:List (S56)) (l2:List Int) (a3:Int):Option ((List (List Int))):=(U53.f k l0_0 l0_1).bind fun bt196=>(U6.l0 k l1 a3 bt196.1 l2 (l2.length:Int) 0)
theorem zm5_0 {P:Prop} (h:P:=by repeat' first|(with_reducible first|exact ih0 ..|exact U53.mono ..|exact U54.mono ..|exact LeO.refl _|exact LeO.none _|refine LeO.ite ?_ ?_|refine LeO.bind ?_ (fun _=>?_))|exact ih0 ..|exact U53.mono ..|exact U54.mono ..|exact LeO.none _|refine LeO.ite ?_ ?_|refine LeO.bind ?_ (fun _=>?_)):P:=h
theorem U6.mono_l:∀ k,(∀ y0 y1 y2 y3 y4 y5,LeO (U6.l0 k y0 y1 y2 y3 y4 y5) (U6.l0 (k+1) y0 y1 y2 y3 y4 y5))
 | 0=>fun _ _ _ _ _ _ r h=>by simp [U6.l0] at h
 | k+1=>by
  have ih0:=U6.mono_l k
  ·intro y0 y1 y2 y3 y4 y5;unfold U6.l0
   exact zm5_0
theorem U6.mono:∀ a0 a1 a2 a3 a4 k,LeO (U6.f k a0 a1 a2 a3 a4) (U6.f (k+1) a0 a1 a2 a3 a4):=by
 intro a0 a1 a2 a3 a4 k;have ih0:=U6.mono_l k;unfold U6.f
 exact zm5_0
set_option maxHeartbeats 8000000 in
set_option maxRecDepth 100000 in
theorem U6.calls (k:Nat) (A0_0:Option Addr) (c0_0:Nat) (l0_0:List Int) (A0_1:Option Addr) (c0_1:Nat) (l0_1:List Int) (A1:Option Addr) (c1:Nat) (l1:List (S56)) (A2:Option Addr) (c2:Nat) (l2:List Int) (a3:Int) (r:List (List Int)) (w:World) (hr0_0:Kd.C (Kd.int .i64) w A0_0 l0_0.length l0_0) (hc0_0:l0_0.length≤c0_0) (hr0_1:Kd.C (Kd.int .i64) w A0_1 l0_1.length l0_1) (hc0_1:l0_1.length≤c0_1) (hr1:Kd.C k56 w A1 l1.length l1) (hc1:l1.length≤c1) (hr2:Kd.C (Kd.int .i64) w A2 l2.length l2) (hc2:l2.length≤c2) (h:U6.f k l0_0 l0_1 l1 l2 a3 = some r) :
  Calls Try.prog 31 #[.agg #[.slice A0_0 l0_0.length c0_0,.slice A0_1 l0_1.length c0_1],.slice A1 l1.length c1,.slice A2 l2.length c2,.int .i64 a3] w fun e w'=>∃ v0_:Value,e = .returned (v0_)∧Kd.N (Kd.slice 65 (Kd.int .u32)) 32 w' w.heap.size (fun k_=>(w.heap.size≤k_)) v0_ r∧Below w.heap.size w w':=by
 have hu24:=Try.underlying24;have hu56:=Try.underlying56;have HR0_0:=Aside0.mk hr0_0;have HC0_0:=Aside0.mk hc0_0;clear hr0_0 hc0_0;have HR0_1:=Aside0.mk hr0_1;have HC0_1:=Aside0.mk hc0_1;clear hr0_1 hc0_1;have HR1:=Aside0.mk hr1;have HC1:=Aside0.mk hc1;clear hr1 hc1;have HR2:=Aside0.mk hr2;have HC2:=Aside0.mk hc2;clear hr2 hc2;have HB:=Aside0.mk (Below.refl w.heap.size w);have H:((U53.f k l0_0 l0_1).bind fun bt196=>(U6.l0 k l1 a3 bt196.1 l2 (l2.length:Int) 0)) = some r:=h;clear h;replace H:=Option.bind_eq_some_iff.mp H;obtain ⟨⟨t196,t199⟩,A50,H⟩:=H;have A5:=Aside0.mk A50;clear A50;have H':=Aside0.mk H;clear H;go_enter Try.func31,Try.ntmps31
 go_wp2_with (first|((with_reducible refine gate_dst (N:=4) rfl ?_);refine box_event ?hg (N:=4) ?hd (cs:=#[.slice A0_0 l0_0.length c0_0,.slice A0_1 l0_1.length c0_1]) (t:=24) ?hr ?_;(case hd=>rfl);(case hg=>rfl);(case hr=>exact zz109);intro gb195 hg w6 hbox hb;have BK195:=Aside0.mk (hbox);have GW195:=Aside0.mk ((by rw [hg];exact (below_size (zz5)):w.heap.size≤gb195));have GE195:=Aside0.mk ((by rw [hg];exact (below_size (zz5)):w.heap.size≤gb195));replace HB:=Aside0.mk (below_step (zz5) hb);clear hb hbox hg;obtain ⟨hcz7_0,hcz7_1,hfz7_0,hfz7_1⟩:=zc2 BK195.out)|((with_reducible refine gate_callee (f:=55) rfl ?_);refine goesL_ (some 15) rfl rfl Try.func55 (zz0) rfl #[.agg #[.slice A0_0 l0_0.length c0_0,.slice A0_1 l0_1.length c0_1]] rfl (zz19) ?_;(with_reducible refine (U53.calls k _ _ l0_0 _ _ l0_1 t196 t199 _ ?_ ?_ ?_ ?_ A5.out).mono ?_);exact zz111;exact zz112;exact zz113;exact zz114;rintro e w8 ⟨v197,rfl,ho0,hb⟩;refine ⟨_,rfl,?_⟩;have HO198:=Aside0.mk (Kd.N_lower (Kd.N_mono (ok':=fun k_=>(w.heap.size≤k_)∧k_ ≠ gb195) ho0 (fun k_ hk_=>⟨(Nat.le_trans (below_size (have h0_:=GE195;zz7)) hk_),(Kd.freshB (g:=gb195) (o:=.cells #[.slice A0_0 l0_0.length c0_0,.slice A0_1 l0_1.length c0_1] 24 (0,0)) (have h0_:=BK195;zz9) k_ hk_)⟩)) (below_size (have h0_:=GE195;zz7)));replace BK195:=Aside0.mk (blk_below (have h0_:=BK195;zz9) hb);replace HB:=Aside0.mk (below_step (have h0_:=GE195;zz7) hb);(try clear hb);(try clear ho0)))
 go_loopg [9,20] k (fun kq v9 v20 w'=>∃ (x9_1:List (List Int)) (x20_1:Int),v20 = .int .i64 x20_1∧Aside0 (U6.l0 kq l1 a3 x9_1 l2 (l2.length:Int) x20_1 = some r)∧Aside0 (kq≤k)∧Aside0 (Kd.N (Kd.slice 65 (Kd.int .u32)) 32 w' w.heap.size (fun k_=>(w.heap.size≤k_)∧k_ ≠ gb195) v9 x9_1)∧Aside0 (w'.heap[gb195]? = some (.cells #[(.slice A0_0 l0_0.length c0_0),(.slice A0_1 l0_1.length c0_1)] 24 (0,0)))∧Aside0 (Below w.heap.size w w'))
 case atStart=>exact ⟨(t196),(0),(zz2),H',⟨Nat.le_refl _⟩,⟨(have h0_:=HO198;zz27)⟩,⟨(have h0_:=BK195;zz9)⟩,⟨(have h0_:=GE195;zz7)⟩⟩
 case round =>
  clear H'
  (try clear c1);(try clear c2);(try clear hcz7_0);(try clear hcz7_1);(try clear hfz7_0);(try clear hfz7_1)
  obtain ⟨x9_1,x20_1,rfl,HA,HK1,HO_9,BK195,HB⟩:=hrel
  cases gk with
  | zero=>exact absurd HA.out (by simp [U6.l0])
  | succ k1 =>
   have H:=HA.out;clear HA;simp only [U6.l0] at H;replace H:=zzj H;rcases H with ⟨c9,H⟩|⟨c9,H⟩
   ·have c9b0:=decide_eq_true c9;clear c9;replace H:=zzi H;obtain ⟨c10,H⟩:=H;have c10b0:=decide_eq_true c10;clear c10;replace H:=zzi H;obtain ⟨c11,H⟩:=H;have c11b0:=decide_eq_true c11;clear c11;replace H:=zzj H;rcases H with ⟨c12,H⟩|⟨c12,H⟩
    ·have c12b0:=beq_iff_eq.mpr c12;have c12b1:=bne_eq_false_iff_eq.mpr c12;clear c12;have H':=Aside0.mk H;clear H;have p200:0≤(x20_1:Int):=of_decide_eq_true (zz11);have q200:x20_1 < (l2.length:Int):=of_decide_eq_true (zz11);obtain ⟨ad200,e200,hx200_0⟩:=Kd.at_int HR2.out x20_1 p200 q200
     cases e200
     replace hx200_0:=(HB.out.cell (World.block_lt_of_cell? w _ hx200_0)).trans hx200_0;replace p200:=eq_true p200;replace q200:=eq_true q200
     go_wp2
     go_roundg k1
     case measure=>have:=HK1.out;omega
     case rel=>exact ⟨(x9_1),(wrap64 (x20_1+1)),(zz2),H',⟨zz12⟩,⟨(have h0_:=HO_9;zz27)⟩,⟨(have h0_:=BK195;zz9)⟩,⟨(have h0_:=GE195;zz7)⟩⟩
    ·have c12b0:=beq_eq_false_iff_ne.mpr c12;have c12b1:=bne_iff_ne.mpr c12;replace H:=zzi H;obtain ⟨c13,H⟩:=H;have c13b0:=decide_eq_true c13;clear c13;replace H:=Option.bind_eq_some_iff.mp H;obtain ⟨⟨t202,t205⟩,A140,H⟩:=H;have A14:=Aside0.mk A140;clear A140;have H':=Aside0.mk H;clear H;have p200:0≤(x20_1:Int):=of_decide_eq_true (zz11);have q200:x20_1 < (l2.length:Int):=of_decide_eq_true (zz11);obtain ⟨ad200,e200,hx200_0⟩:=Kd.at_int HR2.out x20_1 p200 q200
     cases e200
     replace hx200_0:=(HB.out.cell (World.block_lt_of_cell? w _ hx200_0)).trans hx200_0;replace p200:=eq_true p200;replace q200:=eq_true q200;have p201:0≤(x20_1:Int):=of_decide_eq_true (zz11);have q201:x20_1 < (l1.length:Int):=of_decide_eq_true (zz11);obtain ⟨ad201,A201_0,c201_0,e201,hx201_0,hl201_0,hi201_0⟩:=at_T56 HR1.out x20_1 p201 q201
     cases e201
     replace hx201_0:=(HB.out.cell (World.block_lt_of_cell? w _ hx201_0)).trans hx201_0;have HR201_0:=Aside0.mk hi201_0;have HC201_0:=Aside0.mk hl201_0;clear hi201_0 hl201_0;replace p201:=eq_true p201;replace q201:=eq_true q201;obtain ⟨Ao15,co15,eo15⟩:=Kd.N_slice HO_9.out;subst eo15
     go_wp2_with (first|((with_reducible refine gate_callee (f:=56) rfl ?_);refine goesL_ (some 35) rfl rfl Try.func56 (zz0) rfl #[.slice Ao15 x9_1.length co15,.agg #[.slice A201_0 ((rd_T56 l1 x20_1).f0).length c201_0],.int .i64 (rd l2 x20_1)] rfl (zz19) ?_;(with_reducible refine (U54.calls k1 (fun k_=>((w.heap.size≤k_)∧k_ ≠ gb195)) _ _ x9_1 _ _ ((rd_T56 l1 x20_1).f0) (rd l2 x20_1) t202 t205 _ ?_ ?_ ?_ A14.out).mono ?_);exact Kd.N_V (HO_9.out);(exact (have h0_:=HR201_0;zz110));exact HC201_0.out;rintro e w16 ⟨v203,rfl,ho0,hb⟩;refine ⟨_,rfl,?_⟩;replace HO_9:=Aside0.mk (Kd.N_elder' (have h0_:=HO_9;zz27) (Kd.N_base ho0) hb);have HO204:=Aside0.mk (Kd.N_lower (Kd.N_mono (ok':=fun k_=>(w.heap.size≤k_)∧k_ ≠ gb195) ho0 (fun k_ hk_=>⟨Or.elim hk_ (fun hs_=>hs_.1) (fun hn_=>(Nat.le_trans (below_size (have h0_:=GE195;zz7)) hn_)),Or.elim hk_ (fun hs_=>hs_.2) (fun hn_=>(Kd.freshB (g:=gb195) (o:=.cells #[.slice A0_0 l0_0.length c0_0,.slice A0_1 l0_1.length c0_1] 24 (0,0)) (have h0_:=BK195;zz9) k_ hn_))⟩)) (below_size (have h0_:=GE195;zz7)));replace BK195:=Aside0.mk (blk_below (have h0_:=BK195;zz9) hb);replace HB:=Aside0.mk (below_step (have h0_:=GE195;zz7) hb);(try clear hb);(try clear ho0)))
     go_roundg k1
     case measure=>have:=HK1.out;omega
     case rel=>exact ⟨(t202),(wrap64 (x20_1+1)),(zz2),H',⟨zz12⟩,⟨(have h0_:=HO204;zz27)⟩,⟨(have h0_:=BK195;zz9)⟩,⟨(have h0_:=GE195;zz7)⟩⟩
   ·have c9b0:=decide_eq_false c9;clear c9;obtain rfl:=Option.some.inj H
    go_wp2
    go_ret
    exact ⟨_,zz6,(have h0_:=HO_9;zz30),(have h0_:=GE195;zz7)⟩
end Go.Proofs.Ytmcegphcjphdcaa.QA
