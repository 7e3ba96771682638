import Derived.Test.YtfkmbjkmlfnapaaDoorMCQAx0
namespace Go.Proofs.YtfkmbjkmlfnapaaDoor.QA
open Go.RowKit Go.Proofs.YtfkmbjkmlfnapaaDoorW.PrintWords Go.Proofs.YtfkmbjkmlfnapaaDoorW.PrintLast Go.Proofs.YtfkmbjkmlfnapaaDoorW.PrintMore
attribute [local go_sem] yG yF yP yO yA yB yH yE
set_option linter.unusedVariables false
set_option linter.unusedSimpArgs false
def U26.f (a0:Int) (a1:Int) (a2:Int):Option (Bool):=if a1≤a0 then (some (decide (a0≤a2))) else (some false)
set_option maxHeartbeats 8000000 in
set_option maxRecDepth 100000 in
theorem U26.calls (a0:Int) (a1:Int) (a2:Int) (r:Bool) (w:World) (h:U26.f a0 a1 a2 = some r) :
  Calls Tryd.prog 44 #[.int .i64 a0,.int .i64 a1,.int .i64 a2] w fun e w'=>e = .returned (.bool r)∧zH w w':=by
 have H:(if a1≤a0 then (some (decide (a0≤a2))) else (some false)) = some r:=h;clear h;replace H:=zzj H;rcases H with ⟨c4,H⟩|⟨c4,H⟩
 ·have c4b0:=decide_eq_true c4;clear c4;obtain rfl:=Option.some.inj H;go_enter Tryd.func44,Tryd.ntmps44
  go_wp2
  go_ret
  exact ⟨zz1,zz2⟩
 ·have c4b0:=decide_eq_false c4;clear c4;obtain rfl:=Option.some.inj H;go_enter Tryd.func44,Tryd.ntmps44
  go_wp2
  go_ret
  exact ⟨zz1,zz2⟩
def U23.l0:Nat→Int→List Int→Int→Int→Option (Int)
 | 0,_,_,_,_=>none
 | k+1,x5,x12,x13,x14=>if x14 < x13 then (if 0≤x14 then (if x14 < (x12.length:Int) then ((U26.f (rd x12 x14) 1 1000).bind fun t102=>(if t102 = true then (U23.l0 k (wrap64 (x5+(rd x12 x14))) x12 x13 (wrap64 (x14+1))) else (some 3))) else (none)) else (none)) else (if x5 = 1000 then (some 0) else (some 19))
def U23.f (k:Nat) (l0:List Int) (a1:Int):Option (Int):=if (l0.length:Int) = a1 then (U23.l0 k 0 l0 (l0.length:Int) 0) else (some 1)
theorem zm1_0 {P:Prop} (h:P:=by repeat' first|(with_reducible first|exact ih0 ..|exact LeO.refl _|exact LeO.none _|refine LeO.ite ?_ ?_|refine LeO.bind ?_ (fun _=>?_))|exact ih0 ..|exact LeO.none _|refine LeO.ite ?_ ?_|refine LeO.bind ?_ (fun _=>?_)):P:=h
theorem U23.mono_l:∀ k,(∀ y0 y1 y2 y3,LeO (U23.l0 k y0 y1 y2 y3) (U23.l0 (k+1) y0 y1 y2 y3))
 | 0=>fun _ _ _ _ r h=>by simp [U23.l0] at h
 | k+1=>by
  have ih0:=U23.mono_l k
  ·intro y0 y1 y2 y3;unfold U23.l0
   exact zm1_0
theorem U23.mono:∀ a0 a1 k,LeO (U23.f k a0 a1) (U23.f (k+1) a0 a1):=by
 intro a0 a1 k;have ih0:=U23.mono_l k;unfold U23.f
 exact zm1_0
set_option maxHeartbeats 8000000 in
set_option maxRecDepth 100000 in
theorem U23.calls (k:Nat) (A0:Option Addr) (c0:Nat) (l0:List Int) (a1:Int) (r:Int) (w:World) (hr0:Kd.C (Kd.int .i64) w A0 l0.length l0) (hc0:l0.length≤c0) (h:U23.f k l0 a1 = some r) :
  Calls Tryd.prog 45 #[.slice A0 l0.length c0,.int .i64 a1] w fun e w'=>e = .returned (.int .i64 r)∧zH w w':=by
 have HR0:=wA.mk hr0;have HC0:=wA.mk hc0;clear hr0 hc0;have H:(if (l0.length:Int) = a1 then (U23.l0 k 0 l0 (l0.length:Int) 0) else (some 1)) = some r:=h;clear h;replace H:=zzj H;rcases H with ⟨c3,H⟩|⟨c3,H⟩
 ·have c3b0:=beq_iff_eq.mpr c3;have c3b1:=bne_eq_false_iff_eq.mpr c3;clear c3;have H':=wA.mk H;clear H;go_enter Tryd.func45,Tryd.ntmps45
  go_wp2
  go_loopg [5,14] k (fun kq v5 v14 w'=>∃ (x5_1:Int) (x14_1:Int),v5 = .int .i64 x5_1∧v14 = .int .i64 x14_1∧wA (U23.l0 kq x5_1 l0 (l0.length:Int) x14_1 = some r)∧wA (kq≤k)∧zH w w')
  case atStart=>exact ⟨(0),(0),(zz1),(zz1),H',⟨Nat.le_refl _⟩,zz2⟩
  case round =>
   clear H';clear c3b0 c3b1;obtain ⟨x5_1,x14_1,rfl,rfl,HA,HK1,⟨m1,rfl⟩⟩:=hrel
   cases gk with
   | zero=>exact absurd HA.out (by simp [U23.l0])
   | succ k1 =>
    have H:=HA.out;clear HA;simp only [U23.l0] at H;replace H:=zzj H;rcases H with ⟨c4,H⟩|⟨c4,H⟩
    ·have c4b0:=decide_eq_true c4;clear c4;replace H:=zzi H;obtain ⟨c5,H⟩:=H;have c5b0:=decide_eq_true c5;clear c5;replace H:=zzi H;obtain ⟨c6,H⟩:=H;have c6b0:=decide_eq_true c6;clear c6;replace H:=zzb H;obtain ⟨t102,A7,H⟩:=H;by_cases c8:t102 = true
     ·subst c8;have H1:(U23.l0 k1 (wrap64 (x5_1+(rd l0 x14_1))) l0 (l0.length:Int) (wrap64 (x14_1+1))) = some r:=zz3;clear H;have H:=H1;clear H1;have H':=wA.mk H;clear H;have p101:0≤(x14_1:Int):=of_decide_eq_true (zz4);have q101:x14_1 < (l0.length:Int):=of_decide_eq_true (zz4);obtain ⟨ad101,e101,hx101_0⟩:=Kd.at_int HR0.out x14_1 p101 q101
      cases e101
      replace p101:=eq_true p101;replace q101:=eq_true q101
      go_wp2_with (first|((with_reducible refine wH (f:=44) rfl ?_);refine wO (some 19) rfl rfl Tryd.func44 (zz0) rfl #[.int .i64 (rd l0 x14_1),.int .i64 1,.int .i64 1000] rfl (zz5) ?_;(with_reducible refine (U26.calls (rd l0 x14_1) 1 1000 true _ A7.out).mono ?_);rintro e w' ⟨rfl,⟨nd,rfl⟩⟩;refine ⟨_,rfl,?_⟩))
      go_roundg k1
      case measure=>have:=HK1.out;omega
      case rel=>exact ⟨(wrap64 (x5_1+(rd l0 x14_1))),(wrap64 (x14_1+1)),(zz1),(zz1),H',⟨zz6⟩,zz2⟩
     ·replace c8:=Bool.eq_false_iff.mpr c8;subst c8;have H1:(some 3) = some r:=zz7;clear H;have H:=H1;clear H1;obtain rfl:=Option.some.inj H;have p101:0≤(x14_1:Int):=of_decide_eq_true (zz4);have q101:x14_1 < (l0.length:Int):=of_decide_eq_true (zz4);obtain ⟨ad101,e101,hx101_0⟩:=Kd.at_int HR0.out x14_1 p101 q101
      cases e101
      replace p101:=eq_true p101;replace q101:=eq_true q101
      go_wp2_with (first|((with_reducible refine wH (f:=44) rfl ?_);refine wO (some 19) rfl rfl Tryd.func44 (zz0) rfl #[.int .i64 (rd l0 x14_1),.int .i64 1,.int .i64 1000] rfl (zz5) ?_;(with_reducible refine (U26.calls (rd l0 x14_1) 1 1000 false _ A7.out).mono ?_);rintro e w' ⟨rfl,⟨nd,rfl⟩⟩;refine ⟨_,rfl,?_⟩))
      go_ret
      exact ⟨zz1,zz2⟩
    ·have c4b0:=decide_eq_false c4;clear c4;replace H:=zzj H;rcases H with ⟨c9,H⟩|⟨c9,H⟩
     ·have c9b0:=beq_iff_eq.mpr c9;have c9b1:=bne_eq_false_iff_eq.mpr c9;clear c9;obtain rfl:=Option.some.inj H
      go_wp2
      go_ret
      exact ⟨zz1,zz2⟩
     ·have c9b0:=beq_eq_false_iff_ne.mpr c9;have c9b1:=bne_iff_ne.mpr c9;obtain rfl:=Option.some.inj H
      go_wp2
      go_ret
      exact ⟨zz1,zz2⟩
 ·have c3b0:=beq_eq_false_iff_ne.mpr c3;have c3b1:=bne_iff_ne.mpr c3;obtain rfl:=Option.some.inj H;go_enter Tryd.func45,Tryd.ntmps45
  go_wp2
  go_ret
  exact ⟨zz1,zz2⟩
mutual
def U21.j0:Nat→Bool→List (List Int)→Option (Int)
 | 0,_,_=>none
 | k+1,x18,x104000=>if x18 = true then (some 1) else (if 0 < (x104000.length:Int) then ((U26.f ((rd_L1 x104000 0).length:Int) 2 6).bind fun t106=>(if t106 = true then (U21.l0 k ((rd_L1 x104000 0).length:Int) x104000 (x104000.length:Int) 0) else (some 3))) else (none))
def U21.l0:Nat→Int→List (List Int)→Int→Int→Option (Int)
 | 0,_,_,_,_=>none
 | k+1,x5,x28,x29,x30=>if x30 < x29 then (if 0≤x30 then (if x30 < (x28.length:Int) then ((U23.f k (rd_L1 x28 x30) x5).bind fun t108=>(if t108 = 0 then (U21.l0 k x5 x28 x29 (wrap64 (x30+1))) else (some t108))) else (none)) else (none)) else (some 0)
end
def U21.f (k:Nat) (l0_0:List (List Int)) (a1:Int):Option (Int):=(U26.f a1 1 21).bind fun t104=>(if t104 = true then (U21.j0 k ((l0_0.length:Int) != a1) l0_0) else (U21.j0 k true l0_0))
theorem zm1_1 {P:Prop} (h:P:=by repeat' first|(with_reducible first|exact ih0 ..|exact ih1 ..|exact U23.mono ..|exact LeO.refl _|exact LeO.none _|refine LeO.ite ?_ ?_|refine LeO.bind ?_ (fun _=>?_))|exact ih0 ..|exact ih1 ..|exact U23.mono ..|exact LeO.none _|refine LeO.ite ?_ ?_|refine LeO.bind ?_ (fun _=>?_)):P:=h
theorem U21.mono_l:∀ k,(∀ y0 y1,LeO (U21.j0 k y0 y1) (U21.j0 (k+1) y0 y1))∧(∀ y0 y1 y2 y3,LeO (U21.l0 k y0 y1 y2 y3) (U21.l0 (k+1) y0 y1 y2 y3))
 | 0=>⟨fun _ _ r h=>by simp [U21.j0] at h,fun _ _ _ _ r h=>by simp [U21.l0] at h⟩
 | k+1=>by
  obtain ⟨ih0,ih1⟩:=U21.mono_l k;refine ⟨?_,?_⟩
  ·intro y0 y1;unfold U21.j0
   exact zm1_1
  ·intro y0 y1 y2 y3;unfold U21.l0
   exact zm1_1
theorem U21.mono:∀ a0 a1 k,LeO (U21.f k a0 a1) (U21.f (k+1) a0 a1):=by
 intro a0 a1 k;obtain ⟨ih0,ih1⟩:=U21.mono_l k;unfold U21.f
 exact zm1_1
set_option maxHeartbeats 8000000 in
set_option maxRecDepth 100000 in
theorem U21.calls (k:Nat) (A0_0:Option Addr) (c0_0:Nat) (l0_0:List (List Int)) (a1:Int) (r:Int) (w:World) (hr0_0:Kd.C (Kd.slice 3 (Kd.int .i64)) w A0_0 l0_0.length l0_0) (hc0_0:l0_0.length≤c0_0) (h:U21.f k l0_0 a1 = some r) :
  Calls Tryd.prog 14 #[.agg #[.slice A0_0 l0_0.length c0_0],.int .i64 a1] w fun e w'=>e = .returned (.int .i64 r)∧Below w.heap.size w w':=by
 have hu24:=Tryd.underlying24;have HR0_0:=wA.mk hr0_0;have HC0_0:=wA.mk hc0_0;clear hr0_0 hc0_0;have HB:=wA.mk (Below.refl w.heap.size w);have H:((U26.f a1 1 21).bind fun t104=>(if t104 = true then (U21.j0 k ((l0_0.length:Int) != a1) l0_0) else (U21.j0 k true l0_0))) = some r:=h;clear h;have HC3:=wA.mk H;clear H;go_enter Tryd.func14,Tryd.ntmps14
 go_upto_region 1 with (first|((with_reducible refine wK (N:=2) rfl ?_);(try (refine wT (zz9) ?_;dsimp only));refine wM ?hg (N:=2) ?hd (cs:=#[.slice A0_0 l0_0.length c0_0]) (t:=24) ?hr ?_;(case hd=>rfl);(case hg=>rfl);(case hr=>exact zz205);intro gb103 hg w4 hbox hb;have BK103:=wA.mk (hbox);have GW103:=wA.mk ((by rw [hg];exact (wB (zz10)):w.heap.size≤gb103));have GE103:=wA.mk ((by rw [hg];exact (wB (zz10)):w.heap.size≤gb103));replace HB:=wA.mk (wG (zz10) hb);clear hb hbox hg))
 (try simp only [Act.put,List.setIfInBounds_toArray,List.set_cons_zero,List.set_cons_succ])
 go_cut [18] (fun v18 wc=>∃ (kq:Nat) (x18_2:Bool),v18 = .bool x18_2∧wA (U21.j0 kq x18_2 l0_0 = some r)∧wA (kq≤k)∧wA (wc.heap[gb103]? = some (.cells #[(.slice A0_0 l0_0.length c0_0)] 24 (0,0)))∧wA (Below w.heap.size w wc))
 case first =>
  have H:=HC3.out;clear HC3;replace H:=zzb H;obtain ⟨t104,A5,H⟩:=H;by_cases c6:t104 = true
  ·subst c6;have H1:(U21.j0 k ((l0_0.length:Int) != a1) l0_0) = some r:=zz3;clear H;have H:=H1;clear H1;have H':=wA.mk H;clear H
   go_wp2_with (first|((with_reducible refine wH (f:=44) rfl ?_);refine wO (some 10) rfl rfl Tryd.func44 (zz0) rfl #[.int .i64 a1,.int .i64 1,.int .i64 21] rfl (zz5) ?_;(with_reducible refine (U26.calls a1 1 21 true _ A5.out).mono ?_);rintro e w' ⟨rfl,⟨nd,rfl⟩⟩;refine ⟨_,rfl,?_⟩;obtain ⟨hcz7_0,hfz7_0⟩:=zc1 BK103.out))
   go_meet
   case rel=>exact ⟨_,(((l0_0.length:Int) != a1)),(zz1),H',⟨zz11⟩,⟨(have h0_:=BK103;zz12)⟩,⟨(have h0_:=GE103;zz13)⟩⟩
  ·replace c6:=Bool.eq_false_iff.mpr c6;subst c6;have H1:(U21.j0 k true l0_0) = some r:=zz7;clear H;have H:=H1;clear H1;have H':=wA.mk H;clear H
   go_wp2_with (first|((with_reducible refine wH (f:=44) rfl ?_);refine wO (some 10) rfl rfl Tryd.func44 (zz0) rfl #[.int .i64 a1,.int .i64 1,.int .i64 21] rfl (zz5) ?_;(with_reducible refine (U26.calls a1 1 21 false _ A5.out).mono ?_);rintro e w' ⟨rfl,⟨nd,rfl⟩⟩;refine ⟨_,rfl,?_⟩))
   go_meet
   case rel=>exact ⟨_,(true),(zz1),H',⟨zz11⟩,⟨(have h0_:=BK103;zz12)⟩,⟨(have h0_:=GE103;zz13)⟩⟩
 case rest =>
  clear HC3;obtain ⟨kq,x18_2,rfl,HA,HJ2,BK103,HB⟩:=hcut
  cases kq with
  | zero=>exact absurd HA.out (by simp [U21.j0])
  | succ kj2 =>
   have H:=HA.out;clear HA;simp only [U21.j0] at H;by_cases c8:x18_2 = true
   ·subst c8;have H1:(some 1) = some r:=zz3;clear H;have H:=H1;clear H1;obtain rfl:=Option.some.inj H
    go_wp2
    go_ret
    exact ⟨zz14,(have h0_:=GE103;zz13)⟩
   ·replace c8:=Bool.eq_false_iff.mpr c8;subst c8;have H1:(if 0 < (l0_0.length:Int) then ((U26.f ((rd_L1 l0_0 0).length:Int) 2 6).bind fun t106=>(if t106 = true then (U21.l0 kj2 ((rd_L1 l0_0 0).length:Int) l0_0 (l0_0.length:Int) 0) else (some 3))) else (none)) = some r:=zz7;clear H;have H:=H1;clear H1;replace H:=zzi H;obtain ⟨c9,H⟩:=H;have c9b0:=decide_eq_true c9;have c9b1:decide (0 < l0_0.length) = true:=decide_eq_true (zz15);clear c9;replace H:=zzb H;obtain ⟨t106,A10,H⟩:=H;by_cases c11:t106 = true
    ·subst c11;have H1:(U21.l0 kj2 ((rd_L1 l0_0 0).length:Int) l0_0 (l0_0.length:Int) 0) = some r:=zz3;clear H;have H:=H1;clear H1;have H':=wA.mk H;clear H;obtain ⟨hcz12_0,hfz12_0⟩:=zc1 BK103.out;have p105:0≤(0:Int):=(zz15);have q105:0 < (l0_0.length:Int):=of_decide_eq_true (zz4);obtain ⟨ad105,A105_0,c105_0,e105,hx105_0,hl105_0,hi105_0⟩:=at_L1 HR0_0.out 0 p105 q105
     cases e105
     have qi105:(0 < l0_0.length) = True:=eq_true (zz15)
     (try rw [show ((0:Int)).toNat = 0 from rfl] at hx105_0)
     (try rw [Addr.add_zero'] at hx105_0)
     replace hx105_0:=(HB.out.cell (World.block_lt_of_cell? w _ hx105_0)).trans hx105_0;have HR105_0:=wA.mk hi105_0;have HC105_0:=wA.mk hl105_0;clear hi105_0 hl105_0;replace p105:=eq_true p105;replace q105:=eq_true q105
     go_wp2_with (first|((with_reducible refine wH (f:=44) rfl ?_);refine wO (some 25) rfl rfl Tryd.func44 (zz0) rfl #[.int .i64 ((rd_L1 l0_0 0).length:Int),.int .i64 2,.int .i64 6] rfl (zz5) ?_;(with_reducible refine (U26.calls ((rd_L1 l0_0 0).length:Int) 2 6 true _ A10.out).mono ?_);rintro e w' ⟨rfl,⟨nd,rfl⟩⟩;refine ⟨_,rfl,?_⟩))
     go_loopg [30] kj2 (fun kq v30 w'=>∃ (x30_2:Int),v30 = .int .i64 x30_2∧wA (U21.l0 kq ((rd_L1 l0_0 0).length:Int) l0_0 (l0_0.length:Int) x30_2 = some r)∧wA (kq≤kj2)∧wA (w'.heap[gb103]? = some (.cells #[(.slice (some ad105) l0_0.length c0_0)] 24 (0,0)))∧wA (Below w.heap.size w w'))
     case atStart=>exact ⟨(0),(zz1),H',⟨Nat.le_refl _⟩,⟨(have h0_:=BK103;zz12)⟩,⟨(have h0_:=GE103;zz13)⟩⟩
     case round =>
      clear H'
      (try clear c8);clear c9b0 c9b1 p105 q105;(try clear c11);(try clear hcz12_0);(try clear hcz7_0);(try clear hfz12_0);(try clear hfz7_0);(try clear hx105_0)
      obtain ⟨x30_2,rfl,HA,HK2,BK103,HB⟩:=hrel
      cases gk with
      | zero=>exact absurd HA.out (by simp [U21.l0])
      | succ k2 =>
       have H:=HA.out;clear HA;simp only [U21.l0] at H;replace H:=zzj H;rcases H with ⟨c13,H⟩|⟨c13,H⟩
       ·have c13b0:=decide_eq_true c13;clear c13;replace H:=zzi H;obtain ⟨c14,H⟩:=H;have c14b0:=decide_eq_true c14;clear c14;replace H:=zzi H;obtain ⟨c15,H⟩:=H;have c15b0:=decide_eq_true c15;clear c15;replace H:=zzb H;obtain ⟨t108,A16,H⟩:=H;replace H:=zzj H;rcases H with ⟨c17,H⟩|⟨c17,H⟩
        ·have c17b0:=beq_iff_eq.mpr c17;have c17b1:=bne_eq_false_iff_eq.mpr c17;clear c17;have H':=wA.mk H;clear H;have p107:0≤(x30_2:Int):=of_decide_eq_true (zz4);have q107:x30_2 < (l0_0.length:Int):=of_decide_eq_true (zz4);obtain ⟨ad107,A107_0,c107_0,e107,hx107_0,hl107_0,hi107_0⟩:=at_L1 HR0_0.out x30_2 p107 q107;obtain rfl:ad105 = ad107:=(by injection e107);replace hx107_0:=(HB.out.cell (World.block_lt_of_cell? w _ hx107_0)).trans hx107_0;have HR107_0:=wA.mk hi107_0;have HC107_0:=wA.mk hl107_0;clear hi107_0 hl107_0;replace p107:=eq_true p107;replace q107:=eq_true q107
         go_wp2_with (first|((with_reducible refine wH (f:=45) rfl ?_);refine wO (some 36) rfl rfl Tryd.func45 (zz0) rfl #[.slice A107_0 (rd_L1 l0_0 x30_2).length c107_0,.int .i64 ((rd_L1 l0_0 0).length:Int)] rfl (zz5) ?_;(with_reducible refine (U23.calls k2 _ _ (rd_L1 l0_0 x30_2) ((rd_L1 l0_0 0).length:Int) t108 _ ?_ ?_ A16.out).mono ?_);(exact (have h0_:=HR107_0;zz206));exact HC107_0.out;rintro e w' ⟨rfl,⟨nd,rfl⟩⟩;refine ⟨_,rfl,?_⟩))
         go_roundg k2
         case measure=>have:=HJ2.out;have:=HK2.out;omega
         case rel=>exact ⟨(wrap64 (x30_2+1)),(zz1),H',⟨by have:=HJ2.out;have:=HK2.out;omega⟩,⟨(have h0_:=BK103;zz12)⟩,⟨(have h0_:=GE103;zz13)⟩⟩
        ·have c17b0:=beq_eq_false_iff_ne.mpr c17;have c17b1:=bne_iff_ne.mpr c17;obtain rfl:=Option.some.inj H;have p107:0≤(x30_2:Int):=of_decide_eq_true (zz4);have q107:x30_2 < (l0_0.length:Int):=of_decide_eq_true (zz4);obtain ⟨ad107,A107_0,c107_0,e107,hx107_0,hl107_0,hi107_0⟩:=at_L1 HR0_0.out x30_2 p107 q107;obtain rfl:ad105 = ad107:=(by injection e107);replace hx107_0:=(HB.out.cell (World.block_lt_of_cell? w _ hx107_0)).trans hx107_0;have HR107_0:=wA.mk hi107_0;have HC107_0:=wA.mk hl107_0;clear hi107_0 hl107_0;replace p107:=eq_true p107;replace q107:=eq_true q107
         go_wp2_with (first|((with_reducible refine wH (f:=45) rfl ?_);refine wO (some 36) rfl rfl Tryd.func45 (zz0) rfl #[.slice A107_0 (rd_L1 l0_0 x30_2).length c107_0,.int .i64 ((rd_L1 l0_0 0).length:Int)] rfl (zz5) ?_;(with_reducible refine (U23.calls k2 _ _ (rd_L1 l0_0 x30_2) ((rd_L1 l0_0 0).length:Int) t108 _ ?_ ?_ A16.out).mono ?_);(exact (have h0_:=HR107_0;zz206));exact HC107_0.out;rintro e w' ⟨rfl,⟨nd,rfl⟩⟩;refine ⟨_,rfl,?_⟩))
         go_ret
         exact ⟨zz14,(have h0_:=GE103;zz13)⟩
       ·have c13b0:=decide_eq_false c13;clear c13;obtain rfl:=Option.some.inj H
        go_wp2
        go_ret
        exact ⟨zz14,(have h0_:=GE103;zz13)⟩
    ·replace c11:=Bool.eq_false_iff.mpr c11;subst c11;have H1:(some 3) = some r:=zz7;clear H;have H:=H1;clear H1;obtain rfl:=Option.some.inj H;obtain ⟨hcz18_0,hfz18_0⟩:=zc1 BK103.out;have p105:0≤(0:Int):=(zz15);have q105:0 < (l0_0.length:Int):=of_decide_eq_true (zz4);obtain ⟨ad105,A105_0,c105_0,e105,hx105_0,hl105_0,hi105_0⟩:=at_L1 HR0_0.out 0 p105 q105
     cases e105
     have qi105:(0 < l0_0.length) = True:=eq_true (zz15)
     (try rw [show ((0:Int)).toNat = 0 from rfl] at hx105_0)
     (try rw [Addr.add_zero'] at hx105_0)
     replace hx105_0:=(HB.out.cell (World.block_lt_of_cell? w _ hx105_0)).trans hx105_0;have HR105_0:=wA.mk hi105_0;have HC105_0:=wA.mk hl105_0;clear hi105_0 hl105_0;replace p105:=eq_true p105;replace q105:=eq_true q105
     go_wp2_with (first|((with_reducible refine wH (f:=44) rfl ?_);refine wO (some 25) rfl rfl Tryd.func44 (zz0) rfl #[.int .i64 ((rd_L1 l0_0 0).length:Int),.int .i64 2,.int .i64 6] rfl (zz5) ?_;(with_reducible refine (U26.calls ((rd_L1 l0_0 0).length:Int) 2 6 false _ A10.out).mono ?_);rintro e w' ⟨rfl,⟨nd,rfl⟩⟩;refine ⟨_,rfl,?_⟩))
     go_ret
     exact ⟨zz14,(have h0_:=GE103;zz13)⟩
end Go.Proofs.YtfkmbjkmlfnapaaDoor.QA
