import Derived.Test.YtfkmbjkmlfnapaaDoorMCQAx0
import Derived.Test.YtfkmbjkmlfnapaaDoorMCQAx2
namespace Go.Proofs.YtfkmbjkmlfnapaaDoor.QA
open Go.RowKit Go.Proofs.YtfkmbjkmlfnapaaDoorW.PrintWords Go.Proofs.YtfkmbjkmlfnapaaDoorW.PrintLast Go.Proofs.YtfkmbjkmlfnapaaDoorW.PrintMore
attribute [local go_sem] yG yF yP yO yA yB yH yE
set_option linter.unusedVariables false
set_option linter.unusedSimpArgs false
def U6.f (a0:Int) (a1:Int) (a2:Int):Option (Bool):=if a0≥a1 then (some (decide (a0≤a2))) else (some false)
set_option maxHeartbeats 8000000 in
set_option maxRecDepth 100000 in
theorem U6.calls (a0:Int) (a1:Int) (a2:Int) (r:Bool) (w:World) (h:U6.f a0 a1 a2 = some r) :
  Calls Tryd.prog 76 #[.int .i64 a0,.int .i64 a1,.int .i64 a2] w fun e w'=>e = .returned (.bool r)∧zH w w':=by
 have H:(if a0≥a1 then (some (decide (a0≤a2))) else (some false)) = some r:=h;clear h;replace H:=zzj H;rcases H with ⟨c4,H⟩|⟨c4,H⟩
 ·have c4b0:=decide_eq_true c4;clear c4;obtain rfl:=Option.some.inj H;go_enter Tryd.func76,Tryd.ntmps76
  go_wp2
  go_ret
  exact ⟨zz1,zz2⟩
 ·have c4b0:=decide_eq_false c4;clear c4;obtain rfl:=Option.some.inj H;go_enter Tryd.func76,Tryd.ntmps76
  go_wp2
  go_ret
  exact ⟨zz1,zz2⟩
mutual
def U5.l0:Nat→List Int→Int→Int→List Int→List Int→Option (Int)
 | 0,_,_,_,_,_=>none
 | k+1,x25,x26,x27,x146000,x146001=>if x27 < x26 then (if 0≤x27 then (if x27 < (x25.length:Int) then ((U6.f (rd x25 x27) (-1000) 1000).bind fun t147=>(if t147 = true then (if x27 < (x146001.length:Int) then ((U6.f (rd x146001 x27) 1 1000).bind fun t149=>(if t149 = true then (U5.l0 k x25 x26 (wrap64 (x27+1)) x146000 x146001) else (some 3))) else (none)) else (some 3))) else (none)) else (none)) else (if 1≤(x146000.length:Int) then (U5.l1 k ((x146000.drop 1).length:Int) 0 x146000 x146001) else (none))
def U5.l1:Nat→Int→Int→List Int→List Int→Option (Int)
 | 0,_,_,_,_=>none
 | k+1,x48,x49,x146000,x146001=>if x49 < x48 then (if 0≤x49 then (if x49 < (x146000.length:Int) then (if 0≤(wrap64 (x49+1)) then (if (wrap64 (x49+1)) < (x146000.length:Int) then (if (rd x146000 x49)≥(rd x146000 (wrap64 (x49+1))) then (some 23) else (U5.l1 k x48 (wrap64 (x49+1)) x146000 x146001)) else (none)) else (none)) else (none)) else (none)) else (some 0)
end
def U5.f (k:Nat) (l0_0:List Int) (l0_1:List Int):Option (Int):=if (l0_0.length:Int) > 21 then (some 5) else (if (l0_0.length:Int) = 0 then (some 20) else (if (l0_1.length:Int) = (l0_0.length:Int) then (U5.l0 k l0_0 (l0_0.length:Int) 0 l0_0 l0_1) else (some 1)))
theorem zm8_0 {P:Prop} (h:P:=by repeat' first|(with_reducible first|exact ih0 ..|exact ih1 ..|exact LeO.refl _|exact LeO.none _|refine LeO.ite ?_ ?_|refine LeO.bind ?_ (fun _=>?_))|exact ih0 ..|exact ih1 ..|exact LeO.none _|refine LeO.ite ?_ ?_|refine LeO.bind ?_ (fun _=>?_)):P:=h
theorem U5.mono_l:∀ k,(∀ y0 y1 y2 y3 y4,LeO (U5.l0 k y0 y1 y2 y3 y4) (U5.l0 (k+1) y0 y1 y2 y3 y4))∧(∀ y0 y1 y2 y3,LeO (U5.l1 k y0 y1 y2 y3) (U5.l1 (k+1) y0 y1 y2 y3))
 | 0=>⟨fun _ _ _ _ _ r h=>by simp [U5.l0] at h,fun _ _ _ _ r h=>by simp [U5.l1] at h⟩
 | k+1=>by
  obtain ⟨ih0,ih1⟩:=U5.mono_l k;refine ⟨?_,?_⟩
  ·intro y0 y1 y2 y3 y4;unfold U5.l0
   exact zm8_0
  ·intro y0 y1 y2 y3;unfold U5.l1
   exact zm8_0
theorem U5.mono:∀ a0 a1 k,LeO (U5.f k a0 a1) (U5.f (k+1) a0 a1):=by
 intro a0 a1 k;obtain ⟨ih0,ih1⟩:=U5.mono_l k;unfold U5.f
 exact zm8_0
set_option maxHeartbeats 8000000 in
set_option maxRecDepth 100000 in
theorem U5.calls (k:Nat) (A0_0:Option Addr) (c0_0:Nat) (l0_0:List Int) (A0_1:Option Addr) (c0_1:Nat) (l0_1:List Int) (r:Int) (w:World) (hr0_0:Kd.C (Kd.int .i64) w A0_0 l0_0.length l0_0) (hc0_0:l0_0.length≤c0_0) (hr0_1:Kd.C (Kd.int .i64) w A0_1 l0_1.length l0_1) (hc0_1:l0_1.length≤c0_1) (h:U5.f k l0_0 l0_1 = some r) :
  Calls Tryd.prog 49 #[.agg #[.slice A0_0 l0_0.length c0_0,.slice A0_1 l0_1.length c0_1]] w fun e w'=>e = .returned (.int .i64 r)∧Below w.heap.size w w':=by
 have hu33:=Tryd.underlying33;have HR0_0:=wA.mk hr0_0;have HC0_0:=wA.mk hc0_0;clear hr0_0 hc0_0;have HR0_1:=wA.mk hr0_1;have HC0_1:=wA.mk hc0_1;clear hr0_1 hc0_1;have HB:=wA.mk (Below.refl w.heap.size w);have H:(if (l0_0.length:Int) > 21 then (some 5) else (if (l0_0.length:Int) = 0 then (some 20) else (if (l0_1.length:Int) = (l0_0.length:Int) then (U5.l0 k l0_0 (l0_0.length:Int) 0 l0_0 l0_1) else (some 1)))) = some r:=h;clear h;replace H:=zzj H;rcases H with ⟨c2,H⟩|⟨c2,H⟩
 ·have c2b0:=decide_eq_true c2;have c2b1:decide (21 < l0_0.length) = true:=decide_eq_true (zz15);clear c2;obtain rfl:=Option.some.inj H;go_enter Tryd.func49,Tryd.ntmps49
  go_wp2_with (first|((with_reducible refine wK (N:=1) rfl ?_);refine wM ?hg (N:=1) ?hd (cs:=#[.slice A0_0 l0_0.length c0_0,.slice A0_1 l0_1.length c0_1]) (t:=33) ?hr ?_;(case hd=>rfl);(case hg=>rfl);(case hr=>exact zz205);intro gb145 hg w3 hbox hb;have BK145:=wA.mk (hbox);have GW145:=wA.mk ((by rw [hg];exact (wB (zz10)):w.heap.size≤gb145));have GE145:=wA.mk ((by rw [hg];exact (wB (zz10)):w.heap.size≤gb145));replace HB:=wA.mk (wG (zz10) hb);clear hb hbox hg;obtain ⟨hcz4_0,hcz4_1,hfz4_0,hfz4_1⟩:=zc2 BK145.out))
  go_ret
  exact ⟨zz14,(have h0_:=GE145;zz13)⟩
 ·have c2b0:=decide_eq_false c2;have c2b1:decide (21 < l0_0.length) = false:=decide_eq_false (zz15);clear c2;replace H:=zzj H;rcases H with ⟨c5,H⟩|⟨c5,H⟩
  ·have c5b0:=beq_iff_eq.mpr c5;have c5b1:=bne_eq_false_iff_eq.mpr c5;clear c5;obtain rfl:=Option.some.inj H;go_enter Tryd.func49,Tryd.ntmps49
   go_wp2_with (first|((with_reducible refine wK (N:=1) rfl ?_);refine wM ?hg (N:=1) ?hd (cs:=#[.slice A0_0 l0_0.length c0_0,.slice A0_1 l0_1.length c0_1]) (t:=33) ?hr ?_;(case hd=>rfl);(case hg=>rfl);(case hr=>exact zz205);intro gb145 hg w6 hbox hb;have BK145:=wA.mk (hbox);have GW145:=wA.mk ((by rw [hg];exact (wB (zz10)):w.heap.size≤gb145));have GE145:=wA.mk ((by rw [hg];exact (wB (zz10)):w.heap.size≤gb145));replace HB:=wA.mk (wG (zz10) hb);clear hb hbox hg;obtain ⟨hcz7_0,hcz7_1,hfz7_0,hfz7_1⟩:=zc2 BK145.out))
   go_ret
   exact ⟨zz14,(have h0_:=GE145;zz13)⟩
  ·have c5b0:=beq_eq_false_iff_ne.mpr c5;have c5b1:=bne_iff_ne.mpr c5;have c5b2:¬ (l0_0 = []):=fun h_=>c5 (by rw [h_];rfl);replace H:=zzj H;rcases H with ⟨c8,H⟩|⟨c8,H⟩
   ·have c8b0:=beq_iff_eq.mpr c8;have c8b1:=bne_eq_false_iff_eq.mpr c8;have c8b2:(l0_1.length == l0_0.length) = true:=(have h0_:=c8;zz34);clear c8;have H':=wA.mk H;clear H;go_enter Tryd.func49,Tryd.ntmps49
    go_wp2_with (first|((with_reducible refine wK (N:=1) rfl ?_);refine wM ?hg (N:=1) ?hd (cs:=#[.slice A0_0 l0_0.length c0_0,.slice A0_1 l0_1.length c0_1]) (t:=33) ?hr ?_;(case hd=>rfl);(case hg=>rfl);(case hr=>exact zz205);intro gb145 hg w9 hbox hb;have BK145:=wA.mk (hbox);have GW145:=wA.mk ((by rw [hg];exact (wB (zz10)):w.heap.size≤gb145));have GE145:=wA.mk ((by rw [hg];exact (wB (zz10)):w.heap.size≤gb145));replace HB:=wA.mk (wG (zz10) hb);clear hb hbox hg;obtain ⟨hcz10_0,hcz10_1,hfz10_0,hfz10_1⟩:=zc2 BK145.out))
    go_loopg [27] k (fun kq v27 w'=>∃ (x27_1:Int),v27 = .int .i64 x27_1∧wA (U5.l0 kq l0_0 (l0_0.length:Int) x27_1 l0_0 l0_1 = some r)∧wA (kq≤k)∧wA (w'.heap[gb145]? = some (.cells #[(.slice A0_0 l0_0.length c0_0),(.slice A0_1 l0_1.length c0_1)] 33 (0,0)))∧wA (Below w.heap.size w w'))
    case atStart=>exact ⟨(0),(zz1),H',⟨Nat.le_refl _⟩,⟨(have h0_:=BK145;zz12)⟩,⟨(have h0_:=GE145;zz13)⟩⟩
    case round =>
     clear H'
     clear c2b0 c2b1 c5 c5b0 c5b1 c5b2 c8b0 c8b1 c8b2;(try clear hcz10_0);(try clear hcz10_1);(try clear hfz10_0);(try clear hfz10_1)
     obtain ⟨x27_1,rfl,HA,HK1,BK145,HB⟩:=hrel
     cases gk with
     | zero=>exact absurd HA.out (by simp [U5.l0])
     | succ k1 =>
      have H:=HA.out;clear HA;simp only [U5.l0] at H;replace H:=zzj H;rcases H with ⟨c11,H⟩|⟨c11,H⟩
      ·have c11b0:=decide_eq_true c11;clear c11;replace H:=zzi H;obtain ⟨c12,H⟩:=H;have c12b0:=decide_eq_true c12;clear c12;replace H:=zzi H;obtain ⟨c13,H⟩:=H;have c13b0:=decide_eq_true c13;clear c13;replace H:=zzb H;obtain ⟨t147,A14,H⟩:=H;by_cases c15:t147 = true
       ·subst c15;have H1:(if x27_1 < (l0_1.length:Int) then ((U6.f (rd l0_1 x27_1) 1 1000).bind fun t149=>(if t149 = true then (U5.l0 k1 l0_0 (l0_0.length:Int) (wrap64 (x27_1+1)) l0_0 l0_1) else (some 3))) else (none)) = some r:=zz3;clear H;have H:=H1;clear H1;replace H:=zzi H;obtain ⟨c16,H⟩:=H;have c16b0:=decide_eq_true c16;clear c16;replace H:=zzb H;obtain ⟨t149,A17,H⟩:=H;by_cases c18:t149 = true
        ·subst c18;have H1:(U5.l0 k1 l0_0 (l0_0.length:Int) (wrap64 (x27_1+1)) l0_0 l0_1) = some r:=zz3;clear H;have H:=H1;clear H1;have H':=wA.mk H;clear H;have p146:0≤(x27_1:Int):=of_decide_eq_true (zz4);have q146:x27_1 < (l0_0.length:Int):=of_decide_eq_true (zz4);obtain ⟨ad146,e146,hx146_0⟩:=Kd.at_int HR0_0.out x27_1 p146 q146
         cases e146
         replace hx146_0:=(HB.out.cell (World.block_lt_of_cell? w _ hx146_0)).trans hx146_0;replace p146:=eq_true p146;replace q146:=eq_true q146
         go_wp2_with (first|(go_at_call 76;(with_reducible refine (U6.calls (rd l0_0 x27_1) (-1000) 1000 true _ A14.out).mono ?_);rintro e w' ⟨rfl,⟨nd,rfl⟩⟩;(try first|exact ⟨rfl,_,World.drewN_drewN _ _ _⟩|exact ⟨rfl,_,Eq.trans (World.drewN_drewN _ _ _) (congrArg (World.drewN _) (Nat.add_assoc _ _ _))⟩);obtain ⟨hcz19_0,hcz19_1,hfz19_0,hfz19_1⟩:=zc2 BK145.out;have p148:0≤(x27_1:Int):=of_decide_eq_true (zz4);have q148:x27_1 < (l0_1.length:Int):=of_decide_eq_true (zz4);obtain ⟨ad148,e148,hx148_0⟩:=Kd.at_int HR0_1.out x27_1 p148 q148;cases e148;replace hx148_0:=(HB.out.cell (World.block_lt_of_cell? w _ hx148_0)).trans hx148_0;replace p148:=eq_true p148;replace q148:=eq_true q148)|(go_at_call 76;(with_reducible refine (U6.calls (rd l0_1 x27_1) 1 1000 true _ A17.out).mono ?_);rintro e w' ⟨rfl,⟨nd,rfl⟩⟩;(try first|exact ⟨rfl,_,World.drewN_drewN _ _ _⟩|exact ⟨rfl,_,Eq.trans (World.drewN_drewN _ _ _) (congrArg (World.drewN _) (Nat.add_assoc _ _ _))⟩)))
         go_roundg k1
         case measure=>have:=HK1.out;omega
         case rel=>exact ⟨(wrap64 (x27_1+1)),(zz1),H',⟨zz6⟩,⟨(have h0_:=BK145;zz12)⟩,⟨(have h0_:=GE145;zz13)⟩⟩
        ·replace c18:=Bool.eq_false_iff.mpr c18;subst c18;have H1:(some 3) = some r:=zz7;clear H;have H:=H1;clear H1;obtain rfl:=Option.some.inj H;have p146:0≤(x27_1:Int):=of_decide_eq_true (zz4);have q146:x27_1 < (l0_0.length:Int):=of_decide_eq_true (zz4);obtain ⟨ad146,e146,hx146_0⟩:=Kd.at_int HR0_0.out x27_1 p146 q146
         cases e146
         replace hx146_0:=(HB.out.cell (World.block_lt_of_cell? w _ hx146_0)).trans hx146_0;replace p146:=eq_true p146;replace q146:=eq_true q146
         go_wp2_with (first|(go_at_call 76;(with_reducible refine (U6.calls (rd l0_0 x27_1) (-1000) 1000 true _ A14.out).mono ?_);rintro e w' ⟨rfl,⟨nd,rfl⟩⟩;(try first|exact ⟨rfl,_,World.drewN_drewN _ _ _⟩|exact ⟨rfl,_,Eq.trans (World.drewN_drewN _ _ _) (congrArg (World.drewN _) (Nat.add_assoc _ _ _))⟩);obtain ⟨hcz20_0,hcz20_1,hfz20_0,hfz20_1⟩:=zc2 BK145.out;have p148:0≤(x27_1:Int):=of_decide_eq_true (zz4);have q148:x27_1 < (l0_1.length:Int):=of_decide_eq_true (zz4);obtain ⟨ad148,e148,hx148_0⟩:=Kd.at_int HR0_1.out x27_1 p148 q148;cases e148;replace hx148_0:=(HB.out.cell (World.block_lt_of_cell? w _ hx148_0)).trans hx148_0;replace p148:=eq_true p148;replace q148:=eq_true q148)|(go_at_call 76;(with_reducible refine (U6.calls (rd l0_1 x27_1) 1 1000 false _ A17.out).mono ?_);rintro e w' ⟨rfl,⟨nd,rfl⟩⟩;(try first|exact ⟨rfl,_,World.drewN_drewN _ _ _⟩|exact ⟨rfl,_,Eq.trans (World.drewN_drewN _ _ _) (congrArg (World.drewN _) (Nat.add_assoc _ _ _))⟩)))
         go_ret
         exact ⟨zz14,(have h0_:=GE145;zz13)⟩
       ·replace c15:=Bool.eq_false_iff.mpr c15;subst c15;have H1:(some 3) = some r:=zz7;clear H;have H:=H1;clear H1;obtain rfl:=Option.some.inj H;have p146:0≤(x27_1:Int):=of_decide_eq_true (zz4);have q146:x27_1 < (l0_0.length:Int):=of_decide_eq_true (zz4);obtain ⟨ad146,e146,hx146_0⟩:=Kd.at_int HR0_0.out x27_1 p146 q146
        cases e146
        replace hx146_0:=(HB.out.cell (World.block_lt_of_cell? w _ hx146_0)).trans hx146_0;replace p146:=eq_true p146;replace q146:=eq_true q146
        go_wp2_with (first|(go_at_call 76;(with_reducible refine (U6.calls (rd l0_0 x27_1) (-1000) 1000 false _ A14.out).mono ?_);rintro e w' ⟨rfl,⟨nd,rfl⟩⟩;(try first|exact ⟨rfl,_,World.drewN_drewN _ _ _⟩|exact ⟨rfl,_,Eq.trans (World.drewN_drewN _ _ _) (congrArg (World.drewN _) (Nat.add_assoc _ _ _))⟩)))
        go_ret
        exact ⟨zz14,(have h0_:=GE145;zz13)⟩
      ·have c11b0:=decide_eq_false c11;clear c11;replace H:=zzi H;obtain ⟨c21,H⟩:=H;have c21b0:=eq_true c21;have c21b1:=decide_eq_true c21;clear c21;have H':=wA.mk H;clear H;obtain ⟨hcz22_0,hcz22_1,hfz22_0,hfz22_1⟩:=zc2 BK145.out;obtain ⟨i023,hi023,_,hsz23,_⟩:=info_parts info3;obtain ⟨A23,hcut23,hA23,hC23⟩:=print_drop_of (P:=Tryd.prog) (Value.int .i64) 0 31 3 .i64 Tryd.underlying31 hi023 hsz23 A0_0 c0_0 l0_0 1 (zz15) (of_decide_eq_true (zz4)) HC0_0.out;have HR150:=wA.mk (Kd.C_of_reads (h1:=fun _=>rfl) (hA23 _ (Kd.reads_of_C HR0_0.out)));have HC150:=wA.mk hC23;clear hA23 hC23 hi023 hsz23
       go_wp2
       go_loopg [49] k1 (fun kq v49 w'=>∃ (x49_2:Int),v49 = .int .i64 x49_2∧wA (U5.l1 kq ((l0_0.drop 1).length:Int) x49_2 l0_0 l0_1 = some r)∧wA (kq≤k1)∧wA (w'.heap[gb145]? = some (.cells #[(.slice A0_0 l0_0.length c0_0),(.slice A0_1 l0_1.length c0_1)] 33 (0,0)))∧wA (Below w.heap.size w w'))
       case atStart=>exact ⟨(0),(zz1),H',⟨Nat.le_refl _⟩,⟨(have h0_:=BK145;zz12)⟩,⟨(have h0_:=GE145;zz13)⟩⟩
       case round =>
        clear H'
        clear c11b0 c21b0 c21b1;(try clear hcz10_0);(try clear hcz10_1);(try clear hcz22_0);(try clear hcz22_1);(try clear hcz4_0);(try clear hcz4_1);(try clear hcz7_0);(try clear hcz7_1);(try clear hfz10_0);(try clear hfz10_1);(try clear hfz22_0);(try clear hfz22_1);(try clear hfz4_0);(try clear hfz4_1);(try clear hfz7_0);(try clear hfz7_1)
        obtain ⟨x49_2,rfl,HA,HK2,BK145,HB⟩:=hrel
        cases gk with
        | zero=>exact absurd HA.out (by simp [U5.l1])
        | succ k2 =>
         have H:=HA.out;clear HA;simp only [U5.l1] at H;replace H:=zzj H;rcases H with ⟨c24,H⟩|⟨c24,H⟩
         ·have c24b0:=decide_eq_true c24;clear c24
          (try (have c24b0_:=c24b0;simp only [List.length_drop,List.length_take] at c24b0_))
          (try (have c24b1_:=c24b1;simp only [List.length_drop,List.length_take] at c24b1_))
          (try (have c24b2_:=c24b2;simp only [List.length_drop,List.length_take] at c24b2_))
          (try (have c24b3_:=c24b3;simp only [List.length_drop,List.length_take] at c24b3_))
          replace H:=zzi H;obtain ⟨c25,H⟩:=H;have c25b0:=decide_eq_true c25;clear c25;replace H:=zzi H;obtain ⟨c26,H⟩:=H;have c26b0:=decide_eq_true c26;clear c26;obtain ⟨ji27,hji27⟩:∃ j_:Int,(wrap64 (x49_2+1)) = j_:=⟨_,rfl⟩;replace H:(if 0≤(ji27) then (if (ji27) < (l0_0.length:Int) then (if (rd l0_0 x49_2)≥(rd l0_0 (ji27)) then (some 23) else (U5.l1 k2 ((l0_0.drop 1).length:Int) ji27 l0_0 l0_1)) else (none)) else (none)) = some r:=(have h0_:=hji27;zz19);have hji27w:(IntKind.i64.wrap (x49_2+1)) = ji27:=(yL _).trans hji27;replace H:=zzi H;obtain ⟨c28,H⟩:=H;have c28b0:=decide_eq_true c28;clear c28;replace H:=zzi H;obtain ⟨c29,H⟩:=H;have c29b0:=decide_eq_true c29;clear c29;replace H:=zzj H;rcases H with ⟨c30,H⟩|⟨c30,H⟩
          ·have c30b0:=decide_eq_true c30;clear c30;obtain rfl:=Option.some.inj H;obtain ⟨hcz31_0,hcz31_1,hfz31_0,hfz31_1⟩:=zc2 BK145.out;have p151:0≤(x49_2:Int):=of_decide_eq_true (zz4);have q151:x49_2 < (l0_0.length:Int):=of_decide_eq_true (zz4);obtain ⟨ad151,e151,hx151_0⟩:=Kd.at_int HR0_0.out x49_2 p151 q151
           cases e151
           replace hx151_0:=(HB.out.cell (World.block_lt_of_cell? w _ hx151_0)).trans hx151_0;replace p151:=eq_true p151;replace q151:=eq_true q151;have p152:0≤((ji27):Int):=of_decide_eq_true (zz4);have q152:(ji27) < (l0_0.length:Int):=of_decide_eq_true (zz4);obtain ⟨ad152,e152,hx152_0⟩:=Kd.at_int HR0_0.out (ji27) p152 q152;obtain rfl:ad151 = ad152:=(by injection e152);replace hx152_0:=(HB.out.cell (World.block_lt_of_cell? w _ hx152_0)).trans hx152_0;replace p152:=eq_true p152;replace q152:=eq_true q152
           go_wp2
           repeat (go_quiet (fail);try go_wp2)
           go_ret
           exact ⟨(have h0_:=hji27;zz32),(have h0_:=GE145;zz13)⟩
          ·have c30b0:=decide_eq_false c30;clear c30;have H':=wA.mk H;clear H;obtain ⟨hcz32_0,hcz32_1,hfz32_0,hfz32_1⟩:=zc2 BK145.out;have p151:0≤(x49_2:Int):=of_decide_eq_true (zz4);have q151:x49_2 < (l0_0.length:Int):=of_decide_eq_true (zz4);obtain ⟨ad151,e151,hx151_0⟩:=Kd.at_int HR0_0.out x49_2 p151 q151
           cases e151
           replace hx151_0:=(HB.out.cell (World.block_lt_of_cell? w _ hx151_0)).trans hx151_0;replace p151:=eq_true p151;replace q151:=eq_true q151;have p152:0≤((ji27):Int):=of_decide_eq_true (zz4);have q152:(ji27) < (l0_0.length:Int):=of_decide_eq_true (zz4);obtain ⟨ad152,e152,hx152_0⟩:=Kd.at_int HR0_0.out (ji27) p152 q152;obtain rfl:ad151 = ad152:=(by injection e152);replace hx152_0:=(HB.out.cell (World.block_lt_of_cell? w _ hx152_0)).trans hx152_0;replace p152:=eq_true p152;replace q152:=eq_true q152
           go_wp2
           repeat (go_quiet (fail);try go_wp2)
           go_roundg k2
           case measure=>have:=HK1.out;have:=HK2.out;omega
           case rel=>exact ⟨(ji27),(have h0_:=hji27;zz30),H',⟨zz64⟩,⟨(have h0_:=BK145;zz12)⟩,⟨(have h0_:=GE145;zz13)⟩⟩
         ·have c24b0:=decide_eq_false c24;clear c24
          (try (have c24b0_:=c24b0;simp only [List.length_drop,List.length_take] at c24b0_))
          (try (have c24b1_:=c24b1;simp only [List.length_drop,List.length_take] at c24b1_))
          (try (have c24b2_:=c24b2;simp only [List.length_drop,List.length_take] at c24b2_))
          (try (have c24b3_:=c24b3;simp only [List.length_drop,List.length_take] at c24b3_))
          obtain rfl:=Option.some.inj H
          go_wp2
          go_ret
          exact ⟨zz14,(have h0_:=GE145;zz13)⟩
   ·have c8b0:=beq_eq_false_iff_ne.mpr c8;have c8b1:=bne_iff_ne.mpr c8;have c8b2:(l0_1.length == l0_0.length) = false:=(have h0_:=c8;zz34);obtain rfl:=Option.some.inj H;go_enter Tryd.func49,Tryd.ntmps49
    go_wp2_with (first|((with_reducible refine wK (N:=1) rfl ?_);refine wM ?hg (N:=1) ?hd (cs:=#[.slice A0_0 l0_0.length c0_0,.slice A0_1 l0_1.length c0_1]) (t:=33) ?hr ?_;(case hd=>rfl);(case hg=>rfl);(case hr=>exact zz205);intro gb145 hg w33 hbox hb;have BK145:=wA.mk (hbox);have GW145:=wA.mk ((by rw [hg];exact (wB (zz10)):w.heap.size≤gb145));have GE145:=wA.mk ((by rw [hg];exact (wB (zz10)):w.heap.size≤gb145));replace HB:=wA.mk (wG (zz10) hb);clear hb hbox hg;obtain ⟨hcz34_0,hcz34_1,hfz34_0,hfz34_1⟩:=zc2 BK145.out))
    go_ret
    exact ⟨zz14,(have h0_:=GE145;zz13)⟩
def U22.f (a0:Int) (a1:Int) (a2:Int):Option (Int):=if (Int.tmod (wrap64 (a2 * (wrap64 (a0 - a1)))) 100) < 0 then (some (wrap64 (500+(wrap64 ((wrap64 (Int.tdiv (wrap64 (a2 * (wrap64 (a0 - a1)))) 100)) - 1))))) else (some (wrap64 (500+(wrap64 (Int.tdiv (wrap64 (a2 * (wrap64 (a0 - a1)))) 100)))))
set_option maxHeartbeats 8000000 in
set_option maxRecDepth 100000 in
theorem U22.calls (a0:Int) (a1:Int) (a2:Int) (r:Int) (w:World) (h:U22.f a0 a1 a2 = some r) :
  Calls Tryd.prog 50 #[.int .i64 a0,.int .i64 a1,.int .i64 a2] w fun e w'=>e = .returned (.int .i64 r)∧zH w w':=by
 have H:(if (Int.tmod (wrap64 (a2 * (wrap64 (a0 - a1)))) 100) < 0 then (some (wrap64 (500+(wrap64 ((wrap64 (Int.tdiv (wrap64 (a2 * (wrap64 (a0 - a1)))) 100)) - 1))))) else (some (wrap64 (500+(wrap64 (Int.tdiv (wrap64 (a2 * (wrap64 (a0 - a1)))) 100)))))) = some r:=h;clear h;replace H:=zzj H;rcases H with ⟨c4,H⟩|⟨c4,H⟩
 ·have c4b0:=decide_eq_true c4;clear c4;obtain rfl:=Option.some.inj H;go_enter Tryd.func50,Tryd.ntmps50
  go_wp2
  go_ret
  exact ⟨zz1,zz2⟩
 ·have c4b0:=decide_eq_false c4;clear c4;obtain rfl:=Option.some.inj H;go_enter Tryd.func50,Tryd.ntmps50
  go_wp2
  go_ret
  exact ⟨zz1,zz2⟩
end Go.Proofs.YtfkmbjkmlfnapaaDoor.QA
