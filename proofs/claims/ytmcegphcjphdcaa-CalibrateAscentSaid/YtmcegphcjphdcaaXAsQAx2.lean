import Derived.Test.YtmcegphcjphdcaaXAsQAx0
import Derived.Test.YtmcegphcjphdcaaXAsQAx1
namespace Go.Proofs.Ytmcegphcjphdcaa.QA
open Go.RowKit Go.Proofs.YtmcegphcjphdcaaW.PrintWords Go.Proofs.YtmcegphcjphdcaaW.PrintLast Go.Proofs.YtmcegphcjphdcaaW.PrintMore
attribute [local go_sem] max2_int min2_int max_two min_two max_three min_three max_four min_four
set_option linter.unusedVariables false
set_option linter.unusedSimpArgs false
mutual
def U22.j0:Nat→Bool→List (List Int)→Option (Int)
 | 0,_,_=>none
 | k+1,x18,x112000=>if x18 = true then (some 1) else (if 0 < (x112000.length:Int) then ((U24.f ((rd_L1 x112000 0).length:Int) 2 6).bind fun t114=>(if t114 = true then (U22.l0 k ((rd_L1 x112000 0).length:Int) x112000 (x112000.length:Int) 0) else (some 3))) else (none))
def U22.l0:Nat→Int→List (List Int)→Int→Int→Option (Int)
 | 0,_,_,_,_=>none
 | k+1,x5,x28,x29,x30=>if x30 < x29 then (if 0≤x30 then (if x30 < (x28.length:Int) then ((U23.f k (rd_L1 x28 x30) x5).bind fun t116=>(if t116 = 0 then (U22.l0 k x5 x28 x29 (wrap64 (x30+1))) else (some t116))) else (none)) else (none)) else (some 0)
end
def U22.f (k:Nat) (l0_0:List (List Int)) (a1:Int):Option (Int):=(U24.f a1 1 21).bind fun t112=>(if t112 = true then (U22.j0 k ((l0_0.length:Int) != a1) l0_0) else (U22.j0 k true l0_0))
theorem zm2_0 {P:Prop} (h:P:=by repeat' first|(with_reducible first|exact ih0 ..|exact ih1 ..|exact U23.mono ..|exact LeO.refl _|exact LeO.none _|refine LeO.ite ?_ ?_|refine LeO.bind ?_ (fun _=>?_))|exact ih0 ..|exact ih1 ..|exact U23.mono ..|exact LeO.none _|refine LeO.ite ?_ ?_|refine LeO.bind ?_ (fun _=>?_)):P:=h
theorem U22.mono_l:∀ k,(∀ y0 y1,LeO (U22.j0 k y0 y1) (U22.j0 (k+1) y0 y1))∧(∀ y0 y1 y2 y3,LeO (U22.l0 k y0 y1 y2 y3) (U22.l0 (k+1) y0 y1 y2 y3))
 | 0=>⟨fun _ _ r h=>by simp [U22.j0] at h,fun _ _ _ _ r h=>by simp [U22.l0] at h⟩
 | k+1=>by
  obtain ⟨ih0,ih1⟩:=U22.mono_l k;refine ⟨?_,?_⟩
  ·intro y0 y1;unfold U22.j0
   exact zm2_0
  ·intro y0 y1 y2 y3;unfold U22.l0
   exact zm2_0
theorem U22.mono:∀ a0 a1 k,LeO (U22.f k a0 a1) (U22.f (k+1) a0 a1):=by
 intro a0 a1 k;obtain ⟨ih0,ih1⟩:=U22.mono_l k;unfold U22.f
 exact zm2_0
set_option maxHeartbeats 8000000 in
set_option maxRecDepth 100000 in
theorem U22.calls (k:Nat) (A0_0:Option Addr) (c0_0:Nat) (l0_0:List (List Int)) (a1:Int) (r:Int) (w:World) (hr0_0:Kd.C (Kd.slice 3 (Kd.int .i64)) w A0_0 l0_0.length l0_0) (hc0_0:l0_0.length≤c0_0) (h:U22.f k l0_0 a1 = some r) :
  Calls Try.prog 54 #[.agg #[.slice A0_0 l0_0.length c0_0],.int .i64 a1] w fun e w'=>e = .returned (.int .i64 r)∧Below w.heap.size w w':=by
 have hu56:=Try.underlying56;have HR0_0:=Aside0.mk hr0_0;have HC0_0:=Aside0.mk hc0_0;clear hr0_0 hc0_0;have HB:=Aside0.mk (Below.refl w.heap.size w);have H:((U24.f a1 1 21).bind fun t112=>(if t112 = true then (U22.j0 k ((l0_0.length:Int) != a1) l0_0) else (U22.j0 k true l0_0))) = some r:=h;clear h;have HC3:=Aside0.mk H;clear H;go_enter Try.func54,Try.ntmps54
 go_upto_region 1 with (first|((with_reducible refine gate_dst (N:=2) rfl ?_);(try (refine gate_guard (zz19) ?_;dsimp only));refine box_event ?hg (N:=2) ?hd (cs:=#[.slice A0_0 l0_0.length c0_0]) (t:=56) ?hr ?_;(case hd=>rfl);(case hg=>rfl);(case hr=>exact zz77);intro gb111 hg w4 hbox hb;have BK111:=Aside0.mk (hbox);have GW111:=Aside0.mk ((by rw [hg];exact (below_size (zz5)):w.heap.size≤gb111));have GE111:=Aside0.mk ((by rw [hg];exact (below_size (zz5)):w.heap.size≤gb111));replace HB:=Aside0.mk (below_step (zz5) hb);clear hb hbox hg))
 (try simp only [Act.put,List.setIfInBounds_toArray,List.set_cons_zero,List.set_cons_succ])
 go_cut [18] (fun v18 wc=>∃ (kq:Nat) (x18_2:Bool),v18 = .bool x18_2∧Aside0 (U22.j0 kq x18_2 l0_0 = some r)∧Aside0 (kq≤k)∧Aside0 (wc.heap[gb111]? = some (.cells #[(.slice A0_0 l0_0.length c0_0)] 56 (0,0)))∧Aside0 (Below w.heap.size w wc))
 case first =>
  have H:=HC3.out;clear HC3;replace H:=zzb H;obtain ⟨t112,A5,H⟩:=H;by_cases c6:t112 = true
  ·subst c6;have H1:(U22.j0 k ((l0_0.length:Int) != a1) l0_0) = some r:=zz10;clear H;have H:=H1;clear H1;have H':=Aside0.mk H;clear H
   go_wp2_with (first|((with_reducible refine gate_callee (f:=69) rfl ?_);refine goesL_ (some 10) rfl rfl Try.func69 (zz0) rfl #[.int .i64 a1,.int .i64 1,.int .i64 21] rfl (zz18) ?_;(with_reducible refine (U24.calls a1 1 21 true _ A5.out).mono ?_);rintro e w' ⟨rfl,⟨nd,rfl⟩⟩;refine ⟨_,rfl,?_⟩;obtain ⟨hcz7_0,hfz7_0⟩:=zc1 BK111.out))
   go_meet
   case rel=>exact ⟨_,(((l0_0.length:Int) != a1)),(zz2),H',⟨zz20⟩,⟨(have h0_:=BK111;zz9)⟩,⟨(have h0_:=GE111;zz7)⟩⟩
  ·replace c6:=Bool.eq_false_iff.mpr c6;subst c6;have H1:(U22.j0 k true l0_0) = some r:=zz13;clear H;have H:=H1;clear H1;have H':=Aside0.mk H;clear H
   go_wp2_with (first|((with_reducible refine gate_callee (f:=69) rfl ?_);refine goesL_ (some 10) rfl rfl Try.func69 (zz0) rfl #[.int .i64 a1,.int .i64 1,.int .i64 21] rfl (zz18) ?_;(with_reducible refine (U24.calls a1 1 21 false _ A5.out).mono ?_);rintro e w' ⟨rfl,⟨nd,rfl⟩⟩;refine ⟨_,rfl,?_⟩))
   go_meet
   case rel=>exact ⟨_,(true),(zz2),H',⟨zz20⟩,⟨(have h0_:=BK111;zz9)⟩,⟨(have h0_:=GE111;zz7)⟩⟩
 case rest =>
  clear HC3;obtain ⟨kq,x18_2,rfl,HA,HJ2,BK111,HB⟩:=hcut
  cases kq with
  | zero=>exact absurd HA.out (by simp [U22.j0])
  | succ kj2 =>
   have H:=HA.out;clear HA;simp only [U22.j0] at H;by_cases c8:x18_2 = true
   ·subst c8;have H1:(some 1) = some r:=zz10;clear H;have H:=H1;clear H1;obtain rfl:=Option.some.inj H
    go_wp2
    go_ret
    exact ⟨zz6,(have h0_:=GE111;zz7)⟩
   ·replace c8:=Bool.eq_false_iff.mpr c8;subst c8;have H1:(if 0 < (l0_0.length:Int) then ((U24.f ((rd_L1 l0_0 0).length:Int) 2 6).bind fun t114=>(if t114 = true then (U22.l0 kj2 ((rd_L1 l0_0 0).length:Int) l0_0 (l0_0.length:Int) 0) else (some 3))) else (none)) = some r:=zz13;clear H;have H:=H1;clear H1;replace H:=zzi H;obtain ⟨c9,H⟩:=H;have c9b0:=decide_eq_true c9;have c9b1:decide (0 < l0_0.length) = true:=decide_eq_true (zz4);clear c9;replace H:=zzb H;obtain ⟨t114,A10,H⟩:=H;by_cases c11:t114 = true
    ·subst c11;have H1:(U22.l0 kj2 ((rd_L1 l0_0 0).length:Int) l0_0 (l0_0.length:Int) 0) = some r:=zz10;clear H;have H:=H1;clear H1;have H':=Aside0.mk H;clear H;obtain ⟨hcz12_0,hfz12_0⟩:=zc1 BK111.out;have p113:0≤(0:Int):=(zz4);have q113:0 < (l0_0.length:Int):=of_decide_eq_true (zz11);obtain ⟨ad113,A113_0,c113_0,e113,hx113_0,hl113_0,hi113_0⟩:=at_L1 HR0_0.out 0 p113 q113
     cases e113
     have qi113:(0 < l0_0.length) = True:=eq_true (zz4)
     (try rw [show ((0:Int)).toNat = 0 from rfl] at hx113_0)
     (try rw [Addr.add_zero'] at hx113_0)
     replace hx113_0:=(HB.out.cell (World.block_lt_of_cell? w _ hx113_0)).trans hx113_0;have HR113_0:=Aside0.mk hi113_0;have HC113_0:=Aside0.mk hl113_0;clear hi113_0 hl113_0;replace p113:=eq_true p113;replace q113:=eq_true q113
     go_wp2_with (first|((with_reducible refine gate_callee (f:=69) rfl ?_);refine goesL_ (some 25) rfl rfl Try.func69 (zz0) rfl #[.int .i64 ((rd_L1 l0_0 0).length:Int),.int .i64 2,.int .i64 6] rfl (zz18) ?_;(with_reducible refine (U24.calls ((rd_L1 l0_0 0).length:Int) 2 6 true _ A10.out).mono ?_);rintro e w' ⟨rfl,⟨nd,rfl⟩⟩;refine ⟨_,rfl,?_⟩))
     go_loopg [30] kj2 (fun kq v30 w'=>∃ (x30_2:Int),v30 = .int .i64 x30_2∧Aside0 (U22.l0 kq ((rd_L1 l0_0 0).length:Int) l0_0 (l0_0.length:Int) x30_2 = some r)∧Aside0 (kq≤kj2)∧Aside0 (w'.heap[gb111]? = some (.cells #[(.slice (some ad113) l0_0.length c0_0)] 56 (0,0)))∧Aside0 (Below w.heap.size w w'))
     case atStart=>exact ⟨(0),(zz2),H',⟨Nat.le_refl _⟩,⟨(have h0_:=BK111;zz9)⟩,⟨(have h0_:=GE111;zz7)⟩⟩
     case round =>
      clear H'
      (try clear c8);clear c9b0 c9b1 p113 q113;(try clear c11);(try clear hcz12_0);(try clear hcz7_0);(try clear hfz12_0);(try clear hfz7_0);(try clear hx113_0)
      obtain ⟨x30_2,rfl,HA,HK2,BK111,HB⟩:=hrel
      cases gk with
      | zero=>exact absurd HA.out (by simp [U22.l0])
      | succ k2 =>
       have H:=HA.out;clear HA;simp only [U22.l0] at H;replace H:=zzj H;rcases H with ⟨c13,H⟩|⟨c13,H⟩
       ·have c13b0:=decide_eq_true c13;clear c13;replace H:=zzi H;obtain ⟨c14,H⟩:=H;have c14b0:=decide_eq_true c14;clear c14;replace H:=zzi H;obtain ⟨c15,H⟩:=H;have c15b0:=decide_eq_true c15;clear c15;replace H:=zzb H;obtain ⟨t116,A16,H⟩:=H;replace H:=zzj H;rcases H with ⟨c17,H⟩|⟨c17,H⟩
        ·have c17b0:=beq_iff_eq.mpr c17;have c17b1:=bne_eq_false_iff_eq.mpr c17;clear c17;have H':=Aside0.mk H;clear H;have p115:0≤(x30_2:Int):=of_decide_eq_true (zz11);have q115:x30_2 < (l0_0.length:Int):=of_decide_eq_true (zz11);obtain ⟨ad115,A115_0,c115_0,e115,hx115_0,hl115_0,hi115_0⟩:=at_L1 HR0_0.out x30_2 p115 q115;obtain rfl:ad113 = ad115:=(by injection e115);replace hx115_0:=(HB.out.cell (World.block_lt_of_cell? w _ hx115_0)).trans hx115_0;have HR115_0:=Aside0.mk hi115_0;have HC115_0:=Aside0.mk hl115_0;clear hi115_0 hl115_0;replace p115:=eq_true p115;replace q115:=eq_true q115
         go_wp2_with (first|((with_reducible refine gate_callee (f:=70) rfl ?_);refine goesL_ (some 36) rfl rfl Try.func70 (zz0) rfl #[.slice A115_0 (rd_L1 l0_0 x30_2).length c115_0,.int .i64 ((rd_L1 l0_0 0).length:Int)] rfl (zz18) ?_;(with_reducible refine (U23.calls k2 _ _ (rd_L1 l0_0 x30_2) ((rd_L1 l0_0 0).length:Int) t116 _ ?_ ?_ A16.out).mono ?_);(exact (have h0_:=HR115_0;zz78));exact HC115_0.out;rintro e w' ⟨rfl,⟨nd,rfl⟩⟩;refine ⟨_,rfl,?_⟩))
         go_roundg k2
         case measure=>have:=HJ2.out;have:=HK2.out;omega
         case rel=>exact ⟨(wrap64 (x30_2+1)),(zz2),H',⟨by have:=HJ2.out;have:=HK2.out;omega⟩,⟨(have h0_:=BK111;zz9)⟩,⟨(have h0_:=GE111;zz7)⟩⟩
        ·have c17b0:=beq_eq_false_iff_ne.mpr c17;have c17b1:=bne_iff_ne.mpr c17;obtain rfl:=Option.some.inj H;have p115:0≤(x30_2:Int):=of_decide_eq_true (zz11);have q115:x30_2 < (l0_0.length:Int):=of_decide_eq_true (zz11);obtain ⟨ad115,A115_0,c115_0,e115,hx115_0,hl115_0,hi115_0⟩:=at_L1 HR0_0.out x30_2 p115 q115;obtain rfl:ad113 = ad115:=(by injection e115);replace hx115_0:=(HB.out.cell (World.block_lt_of_cell? w _ hx115_0)).trans hx115_0;have HR115_0:=Aside0.mk hi115_0;have HC115_0:=Aside0.mk hl115_0;clear hi115_0 hl115_0;replace p115:=eq_true p115;replace q115:=eq_true q115
         go_wp2_with (first|((with_reducible refine gate_callee (f:=70) rfl ?_);refine goesL_ (some 36) rfl rfl Try.func70 (zz0) rfl #[.slice A115_0 (rd_L1 l0_0 x30_2).length c115_0,.int .i64 ((rd_L1 l0_0 0).length:Int)] rfl (zz18) ?_;(with_reducible refine (U23.calls k2 _ _ (rd_L1 l0_0 x30_2) ((rd_L1 l0_0 0).length:Int) t116 _ ?_ ?_ A16.out).mono ?_);(exact (have h0_:=HR115_0;zz78));exact HC115_0.out;rintro e w' ⟨rfl,⟨nd,rfl⟩⟩;refine ⟨_,rfl,?_⟩))
         go_ret
         exact ⟨zz6,(have h0_:=GE111;zz7)⟩
       ·have c13b0:=decide_eq_false c13;clear c13;obtain rfl:=Option.some.inj H
        go_wp2
        go_ret
        exact ⟨zz6,(have h0_:=GE111;zz7)⟩
    ·replace c11:=Bool.eq_false_iff.mpr c11;subst c11;have H1:(some 3) = some r:=zz13;clear H;have H:=H1;clear H1;obtain rfl:=Option.some.inj H;obtain ⟨hcz18_0,hfz18_0⟩:=zc1 BK111.out;have p113:0≤(0:Int):=(zz4);have q113:0 < (l0_0.length:Int):=of_decide_eq_true (zz11);obtain ⟨ad113,A113_0,c113_0,e113,hx113_0,hl113_0,hi113_0⟩:=at_L1 HR0_0.out 0 p113 q113
     cases e113
     have qi113:(0 < l0_0.length) = True:=eq_true (zz4)
     (try rw [show ((0:Int)).toNat = 0 from rfl] at hx113_0)
     (try rw [Addr.add_zero'] at hx113_0)
     replace hx113_0:=(HB.out.cell (World.block_lt_of_cell? w _ hx113_0)).trans hx113_0;have HR113_0:=Aside0.mk hi113_0;have HC113_0:=Aside0.mk hl113_0;clear hi113_0 hl113_0;replace p113:=eq_true p113;replace q113:=eq_true q113
     go_wp2_with (first|((with_reducible refine gate_callee (f:=69) rfl ?_);refine goesL_ (some 25) rfl rfl Try.func69 (zz0) rfl #[.int .i64 ((rd_L1 l0_0 0).length:Int),.int .i64 2,.int .i64 6] rfl (zz18) ?_;(with_reducible refine (U24.calls ((rd_L1 l0_0 0).length:Int) 2 6 false _ A10.out).mono ?_);rintro e w' ⟨rfl,⟨nd,rfl⟩⟩;refine ⟨_,rfl,?_⟩))
     go_ret
     exact ⟨zz6,(have h0_:=GE111;zz7)⟩
def U10.l0:Nat→Int→Int→List (S56)→Int→Int→Option (Int)
 | 0,_,_,_,_,_=>none
 | k+1,x1,x2,x10,x11,x12=>if x12 < x11 then (if 0≤x12 then (if x12 < (x10.length:Int) then (if x12 = x2 then (U10.l0 k x1 x2 x10 x11 (wrap64 (x12+1))) else ((U22.f k ((rd_T56 x10 x12).f0) x1).bind fun t119=>(if t119 = 0 then (U10.l0 k x1 x2 x10 x11 (wrap64 (x12+1))) else (some t119)))) else (none)) else (none)) else (some 0)
def U10.f (k:Nat) (l0:List (S56)) (a1:Int) (a2:Int):Option (Int):=U10.l0 k a1 a2 l0 (l0.length:Int) 0
theorem zm2_1 {P:Prop} (h:P:=by repeat' first|(with_reducible first|exact ih0 ..|exact U22.mono ..|exact LeO.refl _|exact LeO.none _|refine LeO.ite ?_ ?_|refine LeO.bind ?_ (fun _=>?_))|exact ih0 ..|exact U22.mono ..|exact LeO.none _|refine LeO.ite ?_ ?_|refine LeO.bind ?_ (fun _=>?_)):P:=h
theorem U10.mono_l:∀ k,(∀ y0 y1 y2 y3 y4,LeO (U10.l0 k y0 y1 y2 y3 y4) (U10.l0 (k+1) y0 y1 y2 y3 y4))
 | 0=>fun _ _ _ _ _ r h=>by simp [U10.l0] at h
 | k+1=>by
  have ih0:=U10.mono_l k
  ·intro y0 y1 y2 y3 y4;unfold U10.l0
   exact zm2_1
theorem U10.mono:∀ a0 a1 a2 k,LeO (U10.f k a0 a1 a2) (U10.f (k+1) a0 a1 a2):=by
 intro a0 a1 a2 k;have ih0:=U10.mono_l k;unfold U10.f
 exact zm2_1
set_option maxHeartbeats 8000000 in
set_option maxRecDepth 100000 in
theorem U10.calls (k:Nat) (A0:Option Addr) (c0:Nat) (l0:List (S56)) (a1:Int) (a2:Int) (r:Int) (w:World) (hr0:Kd.C k56 w A0 l0.length l0) (hc0:l0.length≤c0) (h:U10.f k l0 a1 a2 = some r) :
  Calls Try.prog 29 #[.slice A0 l0.length c0,.int .i64 a1,.int .i64 a2] w fun e w'=>e = .returned (.int .i64 r)∧Below w.heap.size w w':=by
 have hu56:=Try.underlying56;have HR0:=Aside0.mk hr0;have HC0:=Aside0.mk hc0;clear hr0 hc0;have HB:=Aside0.mk (Below.refl w.heap.size w);have H:(U10.l0 k a1 a2 l0 (l0.length:Int) 0) = some r:=h;clear h;have H':=Aside0.mk H;clear H;go_enter Try.func29,Try.ntmps29
 go_wp2
 go_loopg [12] k (fun kq v12 w'=>∃ (x12_1:Int),v12 = .int .i64 x12_1∧Aside0 (U10.l0 kq a1 a2 l0 (l0.length:Int) x12_1 = some r)∧Aside0 (kq≤k)∧Aside0 (Below w.heap.size w w'))
 case atStart=>exact ⟨(0),(zz2),H',⟨Nat.le_refl _⟩,⟨zz5⟩⟩
 case round =>
  clear H';obtain ⟨x12_1,rfl,HA,HK1,HB⟩:=hrel
  cases gk with
  | zero=>exact absurd HA.out (by simp [U10.l0])
  | succ k1 =>
   have H:=HA.out;clear HA;simp only [U10.l0] at H;replace H:=zzj H;rcases H with ⟨c4,H⟩|⟨c4,H⟩
   ·have c4b0:=decide_eq_true c4;clear c4;replace H:=zzi H;obtain ⟨c5,H⟩:=H;have c5b0:=decide_eq_true c5;clear c5;replace H:=zzi H;obtain ⟨c6,H⟩:=H;have c6b0:=decide_eq_true c6;clear c6;replace H:=zzj H;rcases H with ⟨c7,H⟩|⟨c7,H⟩
    ·have c7b0:=beq_iff_eq.mpr c7;have c7b1:=bne_eq_false_iff_eq.mpr c7;clear c7;have H':=Aside0.mk H;clear H;have p117:0≤(x12_1:Int):=of_decide_eq_true (zz11);have q117:x12_1 < (l0.length:Int):=of_decide_eq_true (zz11);obtain ⟨ad117,A117_0,c117_0,e117,hx117_0,hl117_0,hi117_0⟩:=at_T56 HR0.out x12_1 p117 q117
     cases e117
     replace hx117_0:=(HB.out.cell (World.block_lt_of_cell? w _ hx117_0)).trans hx117_0;have HR117_0:=Aside0.mk hi117_0;have HC117_0:=Aside0.mk hl117_0;clear hi117_0 hl117_0;replace p117:=eq_true p117;replace q117:=eq_true q117
     go_wp2_with (first|((with_reducible refine gate_dst (N:=8) rfl ?_);refine box_event ?hg (N:=8) ?hd (cs:=#[.slice none 0 0]) (t:=56) ?hr ?_;(case hd=>rfl);(case hg=>rfl);(case hr=>exact zz77);intro gb118 hg w8 hbox hb;have BK118:=Aside0.mk (hbox);have GW118:=Aside0.mk ((by rw [hg];exact (below_size (zz5)):w.heap.size≤gb118));have GE118:=Aside0.mk ((by rw [hg];exact (below_size (zz5)):w.heap.size≤gb118));replace HB:=Aside0.mk (below_step (zz5) hb);clear hb hbox hg;obtain ⟨hcz9_0,hfz9_0⟩:=zc1 BK118.out))
     go_roundg k1
     case measure=>have:=HK1.out;omega
     case rel=>exact ⟨(wrap64 (x12_1+1)),(zz2),H',⟨zz12⟩,⟨(have h0_:=GE118;zz7)⟩⟩
    ·have c7b0:=beq_eq_false_iff_ne.mpr c7;have c7b1:=bne_iff_ne.mpr c7;replace H:=zzb H;obtain ⟨t119,A10,H⟩:=H;replace H:=zzj H;rcases H with ⟨c11,H⟩|⟨c11,H⟩
     ·have c11b0:=beq_iff_eq.mpr c11;have c11b1:=bne_eq_false_iff_eq.mpr c11;clear c11;have H':=Aside0.mk H;clear H;have p117:0≤(x12_1:Int):=of_decide_eq_true (zz11);have q117:x12_1 < (l0.length:Int):=of_decide_eq_true (zz11);obtain ⟨ad117,A117_0,c117_0,e117,hx117_0,hl117_0,hi117_0⟩:=at_T56 HR0.out x12_1 p117 q117
      cases e117
      replace hx117_0:=(HB.out.cell (World.block_lt_of_cell? w _ hx117_0)).trans hx117_0;have HR117_0:=Aside0.mk hi117_0;have HC117_0:=Aside0.mk hl117_0;clear hi117_0 hl117_0;replace p117:=eq_true p117;replace q117:=eq_true q117
      go_wp2_with (first|((with_reducible refine gate_dst (N:=8) rfl ?_);refine box_event ?hg (N:=8) ?hd (cs:=#[.slice none 0 0]) (t:=56) ?hr ?_;(case hd=>rfl);(case hg=>rfl);(case hr=>exact zz77);intro gb118 hg w12 hbox hb;have BK118:=Aside0.mk (hbox);have GW118:=Aside0.mk ((by rw [hg];exact (below_size (zz5)):w.heap.size≤gb118));have GE118:=Aside0.mk ((by rw [hg];exact (below_size (zz5)):w.heap.size≤gb118));replace HB:=Aside0.mk (below_step (zz5) hb);clear hb hbox hg;obtain ⟨hcz13_0,hfz13_0⟩:=zc1 BK118.out)|((with_reducible refine gate_callee (f:=54) rfl ?_);refine goesL_ (some 22) rfl rfl Try.func54 (zz0) rfl #[.agg #[.slice A117_0 ((rd_T56 l0 x12_1).f0).length c117_0],.int .i64 a1] rfl (zz18) ?_;(with_reducible refine (U22.calls k1 _ _ ((rd_T56 l0 x12_1).f0) a1 t119 _ ?_ ?_ A10.out).mono ?_);(exact Kd.C_below HR117_0.out (have h0_:=GE118;zz7));exact HC117_0.out;rintro e w14 ⟨rfl,hb⟩;refine ⟨_,rfl,?_⟩;replace BK118:=Aside0.mk (blk_below (g:=gb118) (o:=.cells #[.slice A117_0 ((rd_T56 l0 x12_1).f0).length c117_0] 56 (0,0)) (have h0_:=BK118;zz21) hb);replace HB:=Aside0.mk (below_step (have h0_:=GE118;zz7) hb);(try clear hb)))
      go_roundg k1
      case measure=>have:=HK1.out;omega
      case rel=>exact ⟨(wrap64 (x12_1+1)),(zz2),H',⟨zz12⟩,⟨(have h0_:=GE118;zz7)⟩⟩
     ·have c11b0:=beq_eq_false_iff_ne.mpr c11;have c11b1:=bne_iff_ne.mpr c11;obtain rfl:=Option.some.inj H;have p117:0≤(x12_1:Int):=of_decide_eq_true (zz11);have q117:x12_1 < (l0.length:Int):=of_decide_eq_true (zz11);obtain ⟨ad117,A117_0,c117_0,e117,hx117_0,hl117_0,hi117_0⟩:=at_T56 HR0.out x12_1 p117 q117
      cases e117
      replace hx117_0:=(HB.out.cell (World.block_lt_of_cell? w _ hx117_0)).trans hx117_0;have HR117_0:=Aside0.mk hi117_0;have HC117_0:=Aside0.mk hl117_0;clear hi117_0 hl117_0;replace p117:=eq_true p117;replace q117:=eq_true q117
      go_wp2_with (first|((with_reducible refine gate_dst (N:=8) rfl ?_);refine box_event ?hg (N:=8) ?hd (cs:=#[.slice none 0 0]) (t:=56) ?hr ?_;(case hd=>rfl);(case hg=>rfl);(case hr=>exact zz77);intro gb118 hg w15 hbox hb;have BK118:=Aside0.mk (hbox);have GW118:=Aside0.mk ((by rw [hg];exact (below_size (zz5)):w.heap.size≤gb118));have GE118:=Aside0.mk ((by rw [hg];exact (below_size (zz5)):w.heap.size≤gb118));replace HB:=Aside0.mk (below_step (zz5) hb);clear hb hbox hg;obtain ⟨hcz16_0,hfz16_0⟩:=zc1 BK118.out)|((with_reducible refine gate_callee (f:=54) rfl ?_);refine goesL_ (some 22) rfl rfl Try.func54 (zz0) rfl #[.agg #[.slice A117_0 ((rd_T56 l0 x12_1).f0).length c117_0],.int .i64 a1] rfl (zz18) ?_;(with_reducible refine (U22.calls k1 _ _ ((rd_T56 l0 x12_1).f0) a1 t119 _ ?_ ?_ A10.out).mono ?_);(exact Kd.C_below HR117_0.out (have h0_:=GE118;zz7));exact HC117_0.out;rintro e w17 ⟨rfl,hb⟩;refine ⟨_,rfl,?_⟩;replace BK118:=Aside0.mk (blk_below (g:=gb118) (o:=.cells #[.slice A117_0 ((rd_T56 l0 x12_1).f0).length c117_0] 56 (0,0)) (have h0_:=BK118;zz21) hb);replace HB:=Aside0.mk (below_step (have h0_:=GE118;zz7) hb);(try clear hb)))
      go_ret
      exact ⟨zz6,(have h0_:=GE118;zz7)⟩
   ·have c4b0:=decide_eq_false c4;clear c4;obtain rfl:=Option.some.inj H
    go_wp2
    go_ret
    exact ⟨zz6,zz5⟩
def U21.f (l0_0:List (List Int)):Option (Int):=if (l0_0.length:Int) = 0 then (some 0) else (if 0 < (l0_0.length:Int) then (some ((rd_L1 l0_0 0).length:Int)) else (none))
set_option maxHeartbeats 8000000 in
set_option maxRecDepth 100000 in
theorem U21.calls (A0_0:Option Addr) (c0_0:Nat) (l0_0:List (List Int)) (r:Int) (w:World) (hr0_0:Kd.C (Kd.slice 3 (Kd.int .i64)) w A0_0 l0_0.length l0_0) (hc0_0:l0_0.length≤c0_0) (h:U21.f l0_0 = some r) :
  Calls Try.prog 30 #[.agg #[.slice A0_0 l0_0.length c0_0]] w fun e w'=>e = .returned (.int .i64 r)∧Below w.heap.size w w':=by
 have hu56:=Try.underlying56;have HR0_0:=Aside0.mk hr0_0;have HC0_0:=Aside0.mk hc0_0;clear hr0_0 hc0_0;have HB:=Aside0.mk (Below.refl w.heap.size w);have H:(if (l0_0.length:Int) = 0 then (some 0) else (if 0 < (l0_0.length:Int) then (some ((rd_L1 l0_0 0).length:Int)) else (none))) = some r:=h;clear h;replace H:=zzj H;rcases H with ⟨c2,H⟩|⟨c2,H⟩
 ·have c2b0:=beq_iff_eq.mpr c2;have c2b1:=bne_eq_false_iff_eq.mpr c2;clear c2;obtain rfl:=Option.some.inj H;go_enter Try.func30,Try.ntmps30
  go_wp2_with (first|((with_reducible refine gate_dst (N:=1) rfl ?_);refine box_event ?hg (N:=1) ?hd (cs:=#[.slice A0_0 l0_0.length c0_0]) (t:=56) ?hr ?_;(case hd=>rfl);(case hg=>rfl);(case hr=>exact zz77);intro gb120 hg w3 hbox hb;have BK120:=Aside0.mk (hbox);have GW120:=Aside0.mk ((by rw [hg];exact (below_size (zz5)):w.heap.size≤gb120));have GE120:=Aside0.mk ((by rw [hg];exact (below_size (zz5)):w.heap.size≤gb120));replace HB:=Aside0.mk (below_step (zz5) hb);clear hb hbox hg;obtain ⟨hcz4_0,hfz4_0⟩:=zc1 BK120.out))
  go_ret
  exact ⟨zz6,(have h0_:=GE120;zz7)⟩
 ·have c2b0:=beq_eq_false_iff_ne.mpr c2;have c2b1:=bne_iff_ne.mpr c2;have c2b2:¬ (l0_0 = []):=fun h_=>c2 (by rw [h_];rfl);replace H:=zzi H;obtain ⟨c5,H⟩:=H;have c5b0:=decide_eq_true c5;have c5b1:decide (0 < l0_0.length) = true:=decide_eq_true (zz4);clear c5;obtain rfl:=Option.some.inj H;go_enter Try.func30,Try.ntmps30
  go_wp2_with (first|((with_reducible refine gate_dst (N:=1) rfl ?_);refine box_event ?hg (N:=1) ?hd (cs:=#[.slice A0_0 l0_0.length c0_0]) (t:=56) ?hr ?_;(case hd=>rfl);(case hg=>rfl);(case hr=>exact zz77);intro gb120 hg w6 hbox hb;have BK120:=Aside0.mk (hbox);have GW120:=Aside0.mk ((by rw [hg];exact (below_size (zz5)):w.heap.size≤gb120));have GE120:=Aside0.mk ((by rw [hg];exact (below_size (zz5)):w.heap.size≤gb120));replace HB:=Aside0.mk (below_step (zz5) hb);clear hb hbox hg;obtain ⟨hcz7_0,hfz7_0⟩:=zc1 BK120.out;have p121:0≤(0:Int):=(zz4);have q121:0 < (l0_0.length:Int):=of_decide_eq_true (zz11);obtain ⟨ad121,A121_0,c121_0,e121,hx121_0,hl121_0,hi121_0⟩:=at_L1 HR0_0.out 0 p121 q121;cases e121;have qi121:(0 < l0_0.length) = True:=eq_true (zz4);(try rw [show ((0:Int)).toNat = 0 from rfl] at hx121_0);(try rw [Addr.add_zero'] at hx121_0);replace hx121_0:=(HB.out.cell (World.block_lt_of_cell? w _ hx121_0)).trans hx121_0;have HR121_0:=Aside0.mk hi121_0;have HC121_0:=Aside0.mk hl121_0;clear hi121_0 hl121_0;replace p121:=eq_true p121;replace q121:=eq_true q121))
  go_ret
  exact ⟨zz6,(have h0_:=GE120;zz7)⟩
def U30.l0:Nat→List Int→Int→Option (List Int)
 | 0,_,_=>none
 | k+1,x0,x3=>if x3 > 0 then (if 0≤(wrap64 (x3 - 1)) then (if (wrap64 (x3 - 1)) < (x0.length:Int) then (if (rd x0 (wrap64 (x3 - 1))) = 0 then (U30.l0 k x0 (wrap64 (x3 - 1))) else (if 0≤x3 then (if x3≤(x0.length:Int) then (some (x0.take (x3:Int).toNat)) else (none)) else (none))) else (none)) else (none)) else (if 0≤x3 then (if x3≤(x0.length:Int) then (some (x0.take (x3:Int).toNat)) else (none)) else (none))
def U30.f (k:Nat) (l0:List Int):Option (List Int):=U30.l0 k l0 (l0.length:Int)
theorem zm2_2 {P:Prop} (h:P:=by repeat' first|(with_reducible first|exact ih0 ..|exact LeO.refl _|exact LeO.none _|refine LeO.ite ?_ ?_|refine LeO.bind ?_ (fun _=>?_))|exact ih0 ..|exact LeO.none _|refine LeO.ite ?_ ?_|refine LeO.bind ?_ (fun _=>?_)):P:=h
theorem U30.mono_l:∀ k,(∀ y0 y1,LeO (U30.l0 k y0 y1) (U30.l0 (k+1) y0 y1))
 | 0=>fun _ _ r h=>by simp [U30.l0] at h
 | k+1=>by
  have ih0:=U30.mono_l k
  ·intro y0 y1;unfold U30.l0
   exact zm2_2
theorem U30.mono:∀ a0 k,LeO (U30.f k a0) (U30.f (k+1) a0):=by
 intro a0 k;have ih0:=U30.mono_l k;unfold U30.f
 exact zm2_2
set_option maxHeartbeats 8000000 in
set_option maxRecDepth 100000 in
theorem U30.calls (k:Nat) (P0_:Nat→Prop) (A0:Option Addr) (c0:Nat) (l0:List Int) (r:List Int) (w:World) (hs0:Kd.V (Kd.int .u32) 65 w w.heap.size (fun k_=>P0_ k_) (.slice A0 l0.length c0) l0) (h:U30.f k l0 = some r) :
  Calls Try.prog 44 #[.slice A0 l0.length c0] w fun e w'=>∃ v0_:Value,e = .returned (v0_)∧Kd.V (Kd.int .u32) 65 w' w.heap.size (fun k_=>(P0_ k_∨w.heap.size≤k_)) v0_ r∧Below w.heap.size w w':=by
 have HO0:=Aside0.mk (show Kd.V (Kd.int .u32) 65 w w.heap.size (fun k_=>(P0_ k_∨w.heap.size≤k_)) (.slice A0 l0.length c0) l0 from Kd.V_mono hs0 (fun k_ hk=>.inl hk));have HB:=Aside0.mk (Below.refl w.heap.size w);have H:(U30.l0 k l0 (l0.length:Int)) = some r:=h;clear h;have H':=Aside0.mk H;clear H;go_enter Try.func44,Try.ntmps44
 go_wp2
 go_loopg [3] k (fun kq v3 w'=>∃ (x3_1:Int),v3 = .int .i64 x3_1∧Aside0 (U30.l0 kq l0 x3_1 = some r)∧Aside0 (kq≤k)∧Aside0 (Kd.V (Kd.int .u32) 65 w' w.heap.size (fun k_=>(P0_ k_∨w.heap.size≤k_)) (.slice A0 l0.length c0) l0)∧Aside0 (Below w.heap.size w w'))
 case atStart=>exact ⟨((l0.length:Int)),(zz2),H',⟨Nat.le_refl _⟩,⟨(have h0_:=HO0;zz22)⟩,⟨zz5⟩⟩
 case round =>
  clear H';obtain ⟨x3_1,rfl,HA,HK1,HO_0,HB⟩:=hrel
  cases gk with
  | zero=>exact absurd HA.out (by simp [U30.l0])
  | succ k1 =>
   have H:=HA.out;clear HA;simp only [U30.l0] at H;replace H:=zzj H;rcases H with ⟨c2,H⟩|⟨c2,H⟩
   ·have c2b0:=decide_eq_true c2;clear c2;obtain ⟨ji3,hji3⟩:∃ j_:Int,(wrap64 (x3_1 - 1)) = j_:=⟨_,rfl⟩;replace H:(if 0≤(ji3) then (if (ji3) < (l0.length:Int) then (if (rd l0 (ji3)) = 0 then (U30.l0 k1 l0 ji3) else (if 0≤x3_1 then (if x3_1≤(l0.length:Int) then (some (l0.take (x3_1:Int).toNat)) else (none)) else (none))) else (none)) else (none)) = some r:=(have h0_:=hji3;zz15);have hji3w:(IntKind.i64.wrap (x3_1 - 1)) = ji3:=(i64_w _).trans hji3;replace H:=zzi H;obtain ⟨c4,H⟩:=H;have c4b0:=decide_eq_true c4;clear c4;replace H:=zzi H;obtain ⟨c5,H⟩:=H;have c5b0:=decide_eq_true c5;clear c5;replace H:=zzj H;rcases H with ⟨c6,H⟩|⟨c6,H⟩
    ·have c6b0:=beq_iff_eq.mpr c6;have c6b1:=bne_eq_false_iff_eq.mpr c6;clear c6;have H':=Aside0.mk H;clear H;have p122:0≤((ji3):Int):=of_decide_eq_true (zz11);have q122:(ji3) < (l0.length:Int):=of_decide_eq_true (zz11);obtain ⟨ad122,e122,hx122_0⟩:=Kd.at_int (Kd.V_reads' HO_0.out).2.2 (ji3) p122 q122
     cases e122
     replace p122:=eq_true p122;replace q122:=eq_true q122
     go_wp2
     go_roundg k1
     case measure=>have:=HK1.out;omega
     case rel=>exact ⟨(ji3),(have h0_:=hji3;zz17),H',⟨zz12⟩,⟨(have h0_:=HO_0;zz22)⟩,⟨zz5⟩⟩
    ·have c6b0:=beq_eq_false_iff_ne.mpr c6;have c6b1:=bne_iff_ne.mpr c6;replace H:=zzi H;obtain ⟨c7,H⟩:=H;have c7b0:=eq_true c7;have c7b1:=decide_eq_true c7;clear c7;replace H:=zzi H;obtain ⟨c8,H⟩:=H;have c8b0:=eq_true c8;have c8b1:=decide_eq_true c8;clear c8;obtain ⟨y123,hy123⟩:∃ y_:List Int,y_ = (l0.take (x3_1:Int).toNat):=⟨_,rfl⟩;replace H:(some y123) = some r:=(have h0_:=hy123;zz23);have Ny123:=Aside0.mk hy123;clear hy123;obtain rfl:=Option.some.inj H;have p122:0≤((ji3):Int):=of_decide_eq_true (zz11);have q122:(ji3) < (l0.length:Int):=of_decide_eq_true (zz11);obtain ⟨ad122,e122,hx122_0⟩:=Kd.at_int (Kd.V_reads' HO_0.out).2.2 (ji3) p122 q122
     cases e122
     replace p122:=eq_true p122;replace q122:=eq_true q122;have q9:(x3_1:Int)≤((l0.length:Int):Int):=of_decide_eq_true (zz11);obtain ⟨i09,hi09,_,hsz9,_⟩:=info_parts info65;have hroom9:l0.length≤c0:=(Kd.V_reads' HO_0.out).2.1;have hC9:Kd.F (Kd.int .u32) _ _ (some ad122) l0.length l0:=(Kd.V_at (base:=w.heap.size) HO_0.out).2.2;have hcut9:=cut_to3 (P:=Try.prog) 32 65 .i64 Try.underlying32 hi09 (some ad122) l0.length c0 x3_1 (of_decide_eq_true (zz11)) q9 hroom9;have hr9:=Kd.F_take (m:=(x3_1:Int).toNat) hC9 (zz4);have hy9:y123.length = (x3_1:Int).toNat:=(by rw [Ny123.out,List.length_take];omega);rw [← Ny123.out] at hr9;rw [← hy9] at hcut9;have HO127:=Aside0.mk (show Kd.V (Kd.int .u32) 65 _ w.heap.size _ (.slice (some ad122) y123.length y123.length) y123 from Kd.V_mk (zz4) hr9);have HC127:=Aside0.mk (show y123.length≤y123.length from by omega);clear hr9 hC9 hroom9 hi09 hsz9;have KY9:=Aside0.mk hy9;clear hy9;replace q9:=eq_true q9
     go_wp2
     go_ret
     exact ⟨_,(have h0_:=hji3;zz16),(have h0_:=HO127;zz22),zz5⟩
   ·have c2b0:=decide_eq_false c2;clear c2;replace H:=zzi H;obtain ⟨c10,H⟩:=H;have c10b0:=eq_true c10;have c10b1:=decide_eq_true c10;clear c10;replace H:=zzi H;obtain ⟨c11,H⟩:=H;have c11b0:=eq_true c11;have c11b1:=decide_eq_true c11;clear c11;obtain ⟨y128,hy128⟩:∃ y_:List Int,y_ = (l0.take (x3_1:Int).toNat):=⟨_,rfl⟩;replace H:(some y128) = some r:=(have h0_:=hy128;zz23);have Ny128:=Aside0.mk hy128;clear hy128;obtain rfl:=Option.some.inj H;have q12:(x3_1:Int)≤((l0.length:Int):Int):=of_decide_eq_true (zz11);obtain ⟨i012,hi012,_,hsz12,_⟩:=info_parts info65;have hroom12:l0.length≤c0:=(Kd.V_reads' HO_0.out).2.1;have hC12:Kd.F (Kd.int .u32) _ _ A0 l0.length l0:=(Kd.V_at (base:=w.heap.size) HO_0.out).2.2;have hcut12:=cut_to3 (P:=Try.prog) 32 65 .i64 Try.underlying32 hi012 A0 l0.length c0 x3_1 (of_decide_eq_true (zz11)) q12 hroom12;have hr12:=Kd.F_take (m:=(x3_1:Int).toNat) hC12 (zz4);have hy12:y128.length = (x3_1:Int).toNat:=(by rw [Ny128.out,List.length_take];omega);rw [← Ny128.out] at hr12;rw [← hy12] at hcut12;have HO132:=Aside0.mk (show Kd.V (Kd.int .u32) 65 _ w.heap.size _ (.slice A0 y128.length y128.length) y128 from Kd.V_mk (zz4) hr12);have HC132:=Aside0.mk (show y128.length≤y128.length from by omega);clear hr12 hC12 hroom12 hi012 hsz12;have KY12:=Aside0.mk hy12;clear hy12;replace q12:=eq_true q12
    go_wp2
    go_ret
    exact ⟨_,zz6,(have h0_:=HO132;zz22),zz5⟩
def nat_Of.f (k:Nat) (a0:Int):Option (List Int):=(U30.f k (([(Go.bits .and .u64 a0 4294967295) % 4294967296,(a0 / 4294967296) % 4294967296]:List Int))).bind fun t136=>(some t136)
theorem zm2_3 {P:Prop} (h:P:=by repeat' first|(with_reducible first|exact U30.mono ..|exact LeO.refl _|exact LeO.none _|refine LeO.ite ?_ ?_|refine LeO.bind ?_ (fun _=>?_))|exact U30.mono ..|exact LeO.none _|refine LeO.ite ?_ ?_|refine LeO.bind ?_ (fun _=>?_)):P:=h
theorem nat_Of.mono:∀ a0 k,LeO (nat_Of.f k a0) (nat_Of.f (k+1) a0):=by
 intro a0 k;unfold nat_Of.f
 exact zm2_3
set_option maxHeartbeats 8000000 in
set_option maxRecDepth 100000 in
theorem nat_Of.calls (k:Nat) (a0:Int) (r:List Int) (w:World) (h:nat_Of.f k a0 = some r) :
  Calls Try.prog 38 #[.int .u64 a0] w fun e w'=>∃ v0_:Value,e = .returned (v0_)∧Kd.V (Kd.int .u32) 65 w' w.heap.size (fun k_=>(w.heap.size≤k_)) v0_ r∧Below w.heap.size w w':=by
 have HB:=Aside0.mk (Below.refl w.heap.size w);have H:((U30.f k (([(Go.bits .and .u64 a0 4294967295) % 4294967296,(a0 / 4294967296) % 4294967296]:List Int))).bind fun t136=>(some t136)) = some r:=h;clear h;obtain ⟨y133,hy133⟩:∃ y_:List Int,y_ = (([(Go.bits .and .u64 a0 4294967295) % 4294967296,(a0 / 4294967296) % 4294967296]:List Int)):=⟨_,rfl⟩;replace H:((U30.f k y133).bind fun t136=>(some t136)) = some r:=(have h0_:=hy133;zz23);have Ny133:=Aside0.mk hy133;clear hy133;replace H:=zzb H;obtain ⟨t136,A2,H⟩:=H;obtain rfl:=Option.some.inj H;go_enter Try.func38,Try.ntmps38
 go_wp2_with (first|((with_reducible refine gate_dst (N:=9) rfl ?_);refine Kd.R_lit (Kd.int .u32) _ 65 ?hg (N:=9) ?hd (xs:=([(Go.bits .and .u64 a0 4294967295) % 4294967296,(a0 / 4294967296) % 4294967296]:List Int)) (inner:=[.int .u32 ((Go.bits .and .u64 a0 4294967295) % 4294967296),.int .u32 ((a0 / 4294967296) % 4294967296)]) (ok:=fun _=>True) (okp:=fun _=>True) ?hr ?hp (fun _ hk=>hk) trivial (Below.refl _ _) (Nat.le_refl _) (zz14) ?_;(case hd=>rfl);(case hg=>rfl);(case hr=>exact zz77);(case hp=>exact (Reps.one (show Kd.M (Kd.int .u32) _ _ _ ((Go.bits .and .u64 a0 4294967295) % 4294967296) [.int .u32 ((Go.bits .and .u64 a0 4294967295) % 4294967296)] from rfl) (Reps.one (show Kd.M (Kd.int .u32) _ _ _ ((a0 / 4294967296) % 4294967296) [.int .u32 ((a0 / 4294967296) % 4294967296)] from rfl) (Reps.none _ _))));intro v134 w3 ho4 hb hg_ hnew_;clear hg_ hnew_;(first|rw [← Ny133.out] at ho4|(simp only [Int.reduceToNat] at ho4;rw [← Ny133.out] at ho4));have HO135:=Aside0.mk (Kd.R_lower (Kd.R_newM (M:=fun k_=>(w.heap.size≤k_)) ho4 (below_size (zz5)) (fun k_ h_=>h_)) (below_size (zz5)));replace HB:=Aside0.mk (below_step (zz5) hb);clear hb ho4;obtain ⟨Ao5,co5,eo5⟩:=Kd.R_slice HO135.out;subst eo5)|((with_reducible refine gate_callee (f:=44) rfl ?_);refine goesL_ (some 10) rfl rfl Try.func44 (zz0) rfl #[.slice Ao5 y133.length co5] rfl (zz18) ?_;(with_reducible refine (U30.calls k (fun k_=>some k_ = (.slice Ao5 y133.length co5:Value).ownBlock) _ _ y133 t136 _ ?_ A2.out).mono ?_);exact Kd.R_V (Kd.R_tight rfl (HO135.out));rintro e w6 ⟨v137,rfl,ho0,hb⟩;refine ⟨_,rfl,?_⟩;have HO138:=Aside0.mk (Kd.V_lower (Kd.V_mono (ok':=fun k_=>(w.heap.size≤k_)) ho0 (fun k_ hk_=>Or.elim hk_ (fun hs_=>((HO135.out).1 k_ hs_.symm).1) (fun hn_=>(Nat.le_trans (below_size (zz5)) hn_)))) (below_size (zz5)));replace HO135:=Aside0.mk (Kd.R_below (have h0_:=HO135;zz24) hb);replace HB:=Aside0.mk (below_step (zz5) hb);(try clear hb);(try clear ho0)))
 go_ret
 exact ⟨_,zz6,(have h0_:=HO138;zz22),zz5⟩
def U31.l0:Nat→List (List Int)→List Int→Int→Int→Option ((List (List Int)) × Int)
 | 0,_,_,_,_=>none
 | k+1,x5,x14,x15,x16=>if x16 < x15 then (if 0≤x16 then (if x16 < (x14.length:Int) then ((nat_Of.f k (IntKind.u64.wrap (rd x14 x16))).bind fun t142=>(if x5.length < 5864062014805 then (U31.l0 k (x5++[t142]) x14 x15 (wrap64 (x16+1))) else (none))) else (none)) else (none)) else (some (x5,0))
def U31.f (k:Nat) (l0_0:List Int) (l0_1:List Int):Option ((List (List Int)) × Int):=(U16.f k l0_0 l0_1).bind fun t140=>(if t140 = 0 then (U31.l0 k ([]:List (List Int)) l0_1 (l0_1.length:Int) 0) else (some (([]:List (List Int)),t140)))
theorem zm2_4 {P:Prop} (h:P:=by repeat' first|(with_reducible first|exact ih0 ..|exact U16.mono ..|exact nat_Of.mono ..|exact LeO.refl _|exact LeO.none _|refine LeO.ite ?_ ?_|refine LeO.bind ?_ (fun _=>?_))|exact ih0 ..|exact U16.mono ..|exact nat_Of.mono ..|exact LeO.none _|refine LeO.ite ?_ ?_|refine LeO.bind ?_ (fun _=>?_)):P:=h
theorem U31.mono_l:∀ k,(∀ y0 y1 y2 y3,LeO (U31.l0 k y0 y1 y2 y3) (U31.l0 (k+1) y0 y1 y2 y3))
 | 0=>fun _ _ _ _ r h=>by simp [U31.l0] at h
 | k+1=>by
  have ih0:=U31.mono_l k
  ·intro y0 y1 y2 y3;unfold U31.l0
   exact zm2_4
theorem U31.mono:∀ a0 a1 k,LeO (U31.f k a0 a1) (U31.f (k+1) a0 a1):=by
 intro a0 a1 k;have ih0:=U31.mono_l k;unfold U31.f
 exact zm2_4
set_option maxHeartbeats 8000000 in
set_option maxRecDepth 100000 in
theorem U31.calls (k:Nat) (A0_0:Option Addr) (c0_0:Nat) (l0_0:List Int) (A0_1:Option Addr) (c0_1:Nat) (l0_1:List Int) (r1:List (List Int)) (r2:Int) (w:World) (hr0_0:Kd.C (Kd.int .i64) w A0_0 l0_0.length l0_0) (hc0_0:l0_0.length≤c0_0) (hr0_1:Kd.C (Kd.int .i64) w A0_1 l0_1.length l0_1) (hc0_1:l0_1.length≤c0_1) (h:U31.f k l0_0 l0_1 = some (r1,r2)) :
  Calls Try.prog 55 #[.agg #[.slice A0_0 l0_0.length c0_0,.slice A0_1 l0_1.length c0_1]] w fun e w'=>∃ v0_:Value,e = .returned (.tuple #[v0_,.int .i64 r2])∧Kd.N (Kd.slice 65 (Kd.int .u32)) 32 w' w.heap.size (fun k_=>(w.heap.size≤k_)) v0_ r1∧Below w.heap.size w w':=by
 have hu24:=Try.underlying24;have HR0_0:=Aside0.mk hr0_0;have HC0_0:=Aside0.mk hc0_0;clear hr0_0 hc0_0;have HR0_1:=Aside0.mk hr0_1;have HC0_1:=Aside0.mk hc0_1;clear hr0_1 hc0_1;have HB:=Aside0.mk (Below.refl w.heap.size w);have H:((U16.f k l0_0 l0_1).bind fun t140=>(if t140 = 0 then (U31.l0 k ([]:List (List Int)) l0_1 (l0_1.length:Int) 0) else (some (([]:List (List Int)),t140)))) = some (r1,r2):=h;clear h;replace H:=zzb H;obtain ⟨t140,A2,H⟩:=H;replace H:=zzj H;rcases H with ⟨c3,H⟩|⟨c3,H⟩
 ·have c3b0:=beq_iff_eq.mpr c3;have c3b1:=bne_eq_false_iff_eq.mpr c3;clear c3;have H':=Aside0.mk H;clear H;go_enter Try.func55,Try.ntmps55
  go_wp2_with (first|((with_reducible refine gate_dst (N:=1) rfl ?_);refine box_event ?hg (N:=1) ?hd (cs:=#[.slice A0_0 l0_0.length c0_0,.slice A0_1 l0_1.length c0_1]) (t:=24) ?hr ?_;(case hd=>rfl);(case hg=>rfl);(case hr=>exact zz77);intro gb139 hg w4 hbox hb;have BK139:=Aside0.mk (hbox);have GW139:=Aside0.mk ((by rw [hg];exact (below_size (zz5)):w.heap.size≤gb139));have GE139:=Aside0.mk ((by rw [hg];exact (below_size (zz5)):w.heap.size≤gb139));replace HB:=Aside0.mk (below_step (zz5) hb);clear hb hbox hg;obtain ⟨hcz5_0,hcz5_1,hfz5_0,hfz5_1⟩:=zc2 BK139.out)|((with_reducible refine gate_callee (f:=28) rfl ?_);refine goesL_ (some 9) rfl rfl Try.func28 (zz0) rfl #[.agg #[.slice A0_0 l0_0.length c0_0,.slice A0_1 l0_1.length c0_1]] rfl (zz18) ?_;(with_reducible refine (U16.calls k _ _ l0_0 _ _ l0_1 t140 _ ?_ ?_ ?_ ?_ A2.out).mono ?_);exact zz79;exact zz80;exact zz81;exact zz82;rintro e w6 ⟨rfl,hb⟩;refine ⟨_,rfl,?_⟩;replace BK139:=Aside0.mk (blk_below (have h0_:=BK139;zz9) hb);replace HB:=Aside0.mk (below_step (have h0_:=GE139;zz7) hb);(try clear hb);obtain ⟨hcz7_0,hcz7_1,hfz7_0,hfz7_1⟩:=zc2 BK139.out))
  go_loopg [5,16] k (fun kq v5 v16 w'=>∃ (x5_1:List (List Int)) (x16_1:Int),v16 = .int .i64 x16_1∧Aside0 (U31.l0 kq x5_1 l0_1 (l0_1.length:Int) x16_1 = some (r1,r2))∧Aside0 (kq≤k)∧Aside0 (Kd.N (Kd.slice 65 (Kd.int .u32)) 32 w' w.heap.size (fun k_=>(w.heap.size≤k_)∧k_ ≠ gb139) v5 x5_1)∧Aside0 (w'.heap[gb139]? = some (.cells #[(.slice A0_0 l0_0.length c0_0),(.slice A0_1 l0_1.length c0_1)] 24 (0,0)))∧Aside0 (Below w.heap.size w w'))
  case atStart=>exact ⟨(([]:List (List Int))),(0),(zz2),H',⟨Nat.le_refl _⟩,⟨zz25⟩,⟨(have h0_:=BK139;zz9)⟩,⟨(have h0_:=GE139;zz7)⟩⟩
  case round =>
   clear H'
   clear c3b0 c3b1;(try clear hcz5_0);(try clear hcz5_1);(try clear hcz7_0);(try clear hcz7_1);(try clear hfz5_0);(try clear hfz5_1);(try clear hfz7_0);(try clear hfz7_1)
   obtain ⟨x5_1,x16_1,rfl,HA,HK1,HO_5,BK139,HB⟩:=hrel
   cases gk with
   | zero=>exact absurd HA.out (by simp [U31.l0])
   | succ k1 =>
    have H:=HA.out;clear HA;simp only [U31.l0] at H;replace H:=zzj H;rcases H with ⟨c8,H⟩|⟨c8,H⟩
    ·have c8b0:=decide_eq_true c8;clear c8;replace H:=zzi H;obtain ⟨c9,H⟩:=H;have c9b0:=decide_eq_true c9;clear c9;replace H:=zzi H;obtain ⟨c10,H⟩:=H;have c10b0:=decide_eq_true c10;clear c10;replace H:=zzb H;obtain ⟨t142,A11,H⟩:=H;replace H:=zzi H;obtain ⟨c12,H⟩:=H;have LMc12:=Aside0.mk c12;clear c12;obtain ⟨y145,hy145⟩:∃ y_:List (List Int),y_ = (x5_1++[t142]):=⟨_,rfl⟩;replace H:(U31.l0 k1 y145 l0_1 (l0_1.length:Int) (wrap64 (x16_1+1))) = some (r1,r2):=(have h0_:=hy145;zz23);have Ny145:=Aside0.mk hy145;clear hy145;have H':=Aside0.mk H;clear H;have p141:0≤(x16_1:Int):=of_decide_eq_true (zz11);have q141:x16_1 < (l0_1.length:Int):=of_decide_eq_true (zz11);obtain ⟨ad141,e141,hx141_0⟩:=Kd.at_int HR0_1.out x16_1 p141 q141
     cases e141
     replace hx141_0:=(HB.out.cell (World.block_lt_of_cell? w _ hx141_0)).trans hx141_0;replace p141:=eq_true p141;replace q141:=eq_true q141
     go_wp2_with (first|((with_reducible refine gate_callee (f:=38) rfl ?_);refine goesL_ (some 23) rfl rfl Try.func38 (zz0) rfl #[.int .u64 (IntKind.u64.wrap (rd l0_1 x16_1))] rfl (zz18) ?_;(with_reducible refine (nat_Of.calls k1 (IntKind.u64.wrap (rd l0_1 x16_1)) t142 _ A11.out).mono ?_);rintro e w13 ⟨v143,rfl,ho0,hb⟩;refine ⟨_,rfl,?_⟩;have HO144:=Aside0.mk (Kd.V_lower (Kd.V_mono (ok':=fun k_=>(w.heap.size≤k_)∧some k_ ≠ (u5:Value).ownBlock∧k_ ≠ gb139) ho0 (fun k_ hk_=>⟨(Nat.le_trans (below_size (have h0_:=GE139;zz7)) hk_),(Kd.fresh' (Kd.N_lt (have h0_:=HO_5;zz26)) k_ hk_),(Kd.freshB (g:=gb139) (o:=.cells #[.slice A0_0 l0_0.length c0_0,.slice (some ad141) l0_1.length c0_1] 24 (0,0)) (have h0_:=BK139;zz9) k_ hk_)⟩)) (below_size (have h0_:=GE139;zz7)));replace HO_5:=Aside0.mk (Kd.N_below (have h0_:=HO_5;zz26) hb);replace BK139:=Aside0.mk (blk_below (have h0_:=BK139;zz9) hb);replace HB:=Aside0.mk (below_step (have h0_:=GE139;zz7) hb);(try clear hb);(try clear ho0);obtain ⟨Ao15,co15,eo15⟩:=Kd.V_slice HO144.out;subst eo15)|((with_reducible refine gate_builtin (b:=.append) (xs:=#[.tmp 20,.tmp 24]) rfl ?_);at_builtin;refine Kd.N_append (Kd.slice 65 (Kd.int .u32)) (w0:=w) w.heap.size rfl (.tmp 20) (.tmp 24) 26 32 (.slice none 0 0) 24 rfl Try.underlying26 info32 rfl (zz27) (zz4) u5 x5_1 t142 [.slice Ao15 t142.length co15] (fun k_=>(w.heap.size≤k_)∧k_ ≠ gb139) (fun k_=>((fun k_=>(w.heap.size≤k_)∧k_ ≠ gb139)) k_∧some k_ ≠ (u5:Value).ownBlock) rfl rfl ?aP (fun _ hk=>hk) ?aF ?aO ?aB ?aS ?aL ?_;(case aP=>exact (Kd.FK_slice_mk (Kd.V_reads' (Kd.V_mono (ok':=(fun k_=>((fun k_=>(w.heap.size≤k_)∧k_ ≠ gb139)) k_∧some k_ ≠ (u5:Value).ownBlock)) (HO144.out) (fun k_ hk=>⟨⟨hk.1,hk.2.2⟩,hk.2.1⟩))).2.1 (Kd.V_F (Kd.V_mono (ok':=(fun k_=>((fun k_=>(w.heap.size≤k_)∧k_ ≠ gb139)) k_∧some k_ ≠ (u5:Value).ownBlock)) (HO144.out) (fun k_ hk=>⟨⟨hk.1,hk.2.2⟩,hk.2.1⟩)))));(case aB=>exact (have h0_:=GE139;zz7));(case aF=>exact (fun k_ hk=>⟨(Nat.le_trans (below_size (have h0_:=GE139;zz7)) hk),Kd.freshB (g:=gb139) (o:=.cells #[.slice A0_0 l0_0.length c0_0,.slice (some ad141) l0_1.length c0_1] 24 (0,0)) (have h0_:=BK139;zz9) k_ hk⟩));(case aO=>exact (have h0_:=HO_5;zz26));(case aS=>exact (below_size (have h0_:=GE139;zz7)));(case aL=>have:=LMc12.out;omega);intro v146 w14 ho hb hg hat;rw [← Ny145.out] at ho;replace BK139:=Aside0.mk (blk_grown (g:=gb139) (o:=.cells #[.slice A0_0 l0_0.length c0_0,.slice (some ad141) l0_1.length c0_1] 24 (0,0)) (have h0_:=BK139;zz9) hg (Kd.N_ne HO_5.out BK139.out (zz27)));replace HO144:=Aside0.mk (Kd.V_afterv (ok:=(fun k_=>(w.heap.size≤k_)∧k_ ≠ gb139)) (by (with_reducible repeat (first|apply Kd.V_alloc|apply Kd.V_drewN|apply Kd.V_drew));exact Kd.V_mono HO144.out (fun _ hk=>⟨⟨hk.1,hk.2.2⟩,hk.2.1⟩)) hg hat);replace HB:=Aside0.mk (hb);have HO147:=Aside0.mk (ho);clear HO_5;clear ho hb hg hat))
     go_roundg k1
     case measure=>have:=HK1.out;omega
     case rel=>exact ⟨(y145),(wrap64 (x16_1+1)),(zz2),H',⟨zz12⟩,⟨(have h0_:=HO147;zz26)⟩,⟨(have h0_:=BK139;zz9)⟩,⟨(have h0_:=GE139;zz7)⟩⟩
    ·have c8b0:=decide_eq_false c8;clear c8;simp only [Option.some.injEq,Prod.mk.injEq] at H;obtain ⟨rfl,rfl⟩:=H
     go_wp2
     go_ret2
     exact ⟨_,zz6,(have h0_:=HO_5;zz28),(have h0_:=GE139;zz7)⟩
 ·have c3b0:=beq_eq_false_iff_ne.mpr c3;have c3b1:=bne_iff_ne.mpr c3;simp only [Option.some.injEq,Prod.mk.injEq] at H;obtain ⟨rfl,rfl⟩:=H;go_enter Try.func55,Try.ntmps55
  go_wp2_with (first|((with_reducible refine gate_dst (N:=1) rfl ?_);refine box_event ?hg (N:=1) ?hd (cs:=#[.slice A0_0 l0_0.length c0_0,.slice A0_1 l0_1.length c0_1]) (t:=24) ?hr ?_;(case hd=>rfl);(case hg=>rfl);(case hr=>exact zz77);intro gb139 hg w16 hbox hb;have BK139:=Aside0.mk (hbox);have GW139:=Aside0.mk ((by rw [hg];exact (below_size (zz5)):w.heap.size≤gb139));have GE139:=Aside0.mk ((by rw [hg];exact (below_size (zz5)):w.heap.size≤gb139));replace HB:=Aside0.mk (below_step (zz5) hb);clear hb hbox hg;obtain ⟨hcz17_0,hcz17_1,hfz17_0,hfz17_1⟩:=zc2 BK139.out)|((with_reducible refine gate_callee (f:=28) rfl ?_);refine goesL_ (some 9) rfl rfl Try.func28 (zz0) rfl #[.agg #[.slice A0_0 l0_0.length c0_0,.slice A0_1 l0_1.length c0_1]] rfl (zz18) ?_;(with_reducible refine (U16.calls k _ _ l0_0 _ _ l0_1 t140 _ ?_ ?_ ?_ ?_ A2.out).mono ?_);exact zz79;exact zz80;exact zz81;exact zz82;rintro e w18 ⟨rfl,hb⟩;refine ⟨_,rfl,?_⟩;replace BK139:=Aside0.mk (blk_below (have h0_:=BK139;zz9) hb);replace HB:=Aside0.mk (below_step (have h0_:=GE139;zz7) hb);(try clear hb)))
  go_ret2
  exact ⟨_,zz6,zz25,(have h0_:=GE139;zz7)⟩
end Go.Proofs.Ytmcegphcjphdcaa.QA
