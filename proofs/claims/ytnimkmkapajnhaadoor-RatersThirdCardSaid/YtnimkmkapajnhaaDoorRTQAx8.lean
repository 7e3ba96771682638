import Derived.Test.YtnimkmkapajnhaaDoorRTQAx0
import Derived.Test.YtnimkmkapajnhaaDoorRTQAx3
import Derived.Test.YtnimkmkapajnhaaDoorRTQAx4
namespace Go.Proofs.YtnimkmkapajnhaaDoor.QA
open Go.RowKit Go.Proofs.YtnimkmkapajnhaaDoorW.PrintWords Go.Proofs.YtnimkmkapajnhaaDoorW.PrintLast Go.Proofs.YtnimkmkapajnhaaDoorW.PrintMore
attribute [local go_sem] yG yF yN yM yB yC yH yE
set_option linter.unusedVariables false
set_option linter.unusedSimpArgs false
def U7.l0:Nat→Int→Int→Int→Int→List Int→Option (Bool)
 | 0,_,_,_,_,_=>none
 | k+1,x1,x5,x138000,x138001,x138002=>if x5 < (x138002.length:Int) then (if 0≤x5 then (if (rd x138002 x5) = x1 then (some false) else (U7.l0 k x1 (wrap64 (x5+1)) x138000 x138001 x138002)) else (none)) else (some true)
def U7.f (k:Nat) (a0_0:Int) (a0_1:Int) (l0_2:List Int) (a1:Int):Option (Bool):=U7.l0 k a1 0 a0_0 a0_1 l0_2
theorem zm23_0 {P:Prop} (h:P:=by repeat' first|(with_reducible first|exact ih0 ..|exact LeO.refl _|exact LeO.none _|refine LeO.ite ?_ ?_|refine LeO.bind ?_ (fun _=>?_))|exact ih0 ..|exact LeO.none _|refine LeO.ite ?_ ?_|refine LeO.bind ?_ (fun _=>?_)):P:=h
theorem U7.mono_l:∀ k,(∀ y0 y1 y2 y3 y4,LeO (U7.l0 k y0 y1 y2 y3 y4) (U7.l0 (k+1) y0 y1 y2 y3 y4))
 | 0=>fun _ _ _ _ _ r h=>by simp [U7.l0] at h
 | k+1=>by
  have ih0:=U7.mono_l k
  ·intro y0 y1 y2 y3 y4;unfold U7.l0
   exact zm23_0
theorem U7.mono:∀ a0 a1 a2 a3 k,LeO (U7.f k a0 a1 a2 a3) (U7.f (k+1) a0 a1 a2 a3):=by
 intro a0 a1 a2 a3 k;have ih0:=U7.mono_l k;unfold U7.f
 exact zm23_0
set_option maxHeartbeats 8000000 in
set_option maxRecDepth 100000 in
theorem U7.calls (k:Nat) (a0_0:Int) (a0_1:Int) (A0_2:Option Addr) (c0_2:Nat) (l0_2:List Int) (a1:Int) (r:Bool) (w:World) (hr0_2:Kd.C (Kd.int .i64) w A0_2 l0_2.length l0_2) (hc0_2:l0_2.length≤c0_2) (h:U7.f k a0_0 a0_1 l0_2 a1 = some r) :
  Calls Tryd.prog 14 #[.agg #[.int .i64 a0_0,.int .i64 a0_1,.slice A0_2 l0_2.length c0_2],.int .i64 a1] w fun e w'=>e = .returned (.bool r)∧Below w.heap.size w w':=by
 have hu26:=Tryd.underlying26;have HR0_2:=wA.mk hr0_2;have HC0_2:=wA.mk hc0_2;clear hr0_2 hc0_2;have HB:=wA.mk (Below.refl w.heap.size w);have H:(U7.l0 k a1 0 a0_0 a0_1 l0_2) = some r:=h;clear h;have H':=wA.mk H;clear H;go_enter Tryd.func14,Tryd.ntmps14
 go_wp2_with (first|((with_reducible refine wL (N:=2) rfl ?_);refine wM ?hg (N:=2) ?hd (cs:=#[.int .i64 a0_0,.int .i64 a0_1,.slice A0_2 l0_2.length c0_2]) (t:=26) ?hr ?_;(case hd=>rfl);(case hg=>rfl);(case hr=>exact zz161);intro gb137 hg w3 hbox hb;have BK137:=wA.mk (hbox);have GW137:=wA.mk ((by rw [hg];exact (wB (zz12)):w.heap.size≤gb137));have GE137:=wA.mk ((by rw [hg];exact (wB (zz12)):w.heap.size≤gb137));replace HB:=wA.mk (wC (zz12) hb);clear hb hbox hg))
 go_loopg [5] k (fun kq v5 w'=>∃ (x5_1:Int),v5 = .int .i64 x5_1∧wA (U7.l0 kq a1 x5_1 a0_0 a0_1 l0_2 = some r)∧wA (kq≤k)∧wA (w'.heap[gb137]? = some (.cells #[.int .i64 a0_0,.int .i64 a0_1,(.slice A0_2 l0_2.length c0_2)] 26 (0,0)))∧wA (Below w.heap.size w w'))
 case atStart=>exact ⟨(0),(zz2),H',⟨Nat.le_refl _⟩,⟨(have h0_:=BK137;zz24)⟩,⟨(have h0_:=GE137;zz13)⟩⟩
 case round =>
  clear H';obtain ⟨x5_1,rfl,HA,HK1,BK137,HB⟩:=hrel
  cases gk with
  | zero=>exact absurd HA.out (by simp [U7.l0])
  | succ k1 =>
   have H:=HA.out;clear HA;simp only [U7.l0] at H;replace H:=zzj H;rcases H with ⟨c4,H⟩|⟨c4,H⟩
   ·have c4b0:=qM c4;clear c4;replace H:=zzi H;obtain ⟨c5,H⟩:=H;have c5b0:=qM c5;clear c5;replace H:=zzj H;rcases H with ⟨c6,H⟩|⟨c6,H⟩
    ·have c6b0:=beq_iff_eq.mpr c6;have c6b1:=bne_eq_false_iff_eq.mpr c6;clear c6;obtain rfl:=Option.some.inj H;obtain ⟨hcz7_0,hcz7_1,hcz7_2,hfz7_0,hfz7_1,hfz7_2⟩:=zc3 BK137.out;have p138:0≤(x5_1:Int):=qL (zz4);have q138:x5_1 < (l0_2.length:Int):=qL (zz4);obtain ⟨ad138,e138,hx138_0⟩:=Kd.at_int HR0_2.out x5_1 p138 q138
     cases e138
     replace hx138_0:=(HB.out.cell (qK w _ hx138_0)).trans hx138_0;replace p138:=eq_true p138;replace q138:=eq_true q138
     go_wp2
     go_ret
     exact ⟨zz14,(have h0_:=GE137;zz13)⟩
    ·have c6b0:=beq_eq_false_iff_ne.mpr c6;have c6b1:=bne_iff_ne.mpr c6;have H':=wA.mk H;clear H;obtain ⟨hcz8_0,hcz8_1,hcz8_2,hfz8_0,hfz8_1,hfz8_2⟩:=zc3 BK137.out;have p138:0≤(x5_1:Int):=qL (zz4);have q138:x5_1 < (l0_2.length:Int):=qL (zz4);obtain ⟨ad138,e138,hx138_0⟩:=Kd.at_int HR0_2.out x5_1 p138 q138
     cases e138
     replace hx138_0:=(HB.out.cell (qK w _ hx138_0)).trans hx138_0;replace p138:=eq_true p138;replace q138:=eq_true q138
     go_wp2
     go_roundg k1
     case measure=>have:=HK1.out;omega
     case rel=>exact ⟨(wrap64 (x5_1+1)),(zz2),H',⟨zz7⟩,⟨(have h0_:=BK137;zz24)⟩,⟨(have h0_:=GE137;zz13)⟩⟩
   ·have c4b0:=qN c4;clear c4;obtain rfl:=Option.some.inj H;obtain ⟨hcz9_0,hcz9_1,hcz9_2,hfz9_0,hfz9_1,hfz9_2⟩:=zc3 BK137.out
    go_wp2
    go_ret
    exact ⟨zz14,(have h0_:=GE137;zz13)⟩
def U6.l0:Nat→List (S44)→Int→Int→Int→Option (Int)
 | 0,_,_,_,_=>none
 | k+1,x0,x1,x5,x6=>if x6 < (x0.length:Int) then (if 0≤x6 then (if ((rd_T44 x0 x6).f1) = x1 then (U6.l0 k x0 x1 (wrap64 (x5+1)) (wrap64 (x6+1))) else (U6.l0 k x0 x1 x5 (wrap64 (x6+1)))) else (none)) else (some x5)
def U6.f (k:Nat) (l0:List (S44)) (a1:Int):Option (Int):=U6.l0 k l0 a1 0 0
theorem U6.mono_l:∀ k,(∀ y0 y1 y2 y3,LeO (U6.l0 k y0 y1 y2 y3) (U6.l0 (k+1) y0 y1 y2 y3))
 | 0=>fun _ _ _ _ r h=>by simp [U6.l0] at h
 | k+1=>by
  have ih0:=U6.mono_l k
  ·intro y0 y1 y2 y3;unfold U6.l0
   exact zm23_0
theorem U6.mono:∀ a0 a1 k,LeO (U6.f k a0 a1) (U6.f (k+1) a0 a1):=by
 intro a0 a1 k;have ih0:=U6.mono_l k;unfold U6.f
 exact zm23_0
set_option maxHeartbeats 8000000 in
set_option maxRecDepth 100000 in
theorem U6.calls (k:Nat) (A0:Option Addr) (c0:Nat) (l0:List (S44)) (a1:Int) (r:Int) (w:World) (hr0:Kd.C k44 w A0 l0.length l0) (hc0:l0.length≤c0) (h:U6.f k l0 a1 = some r) :
  Calls Tryd.prog 16 #[.slice A0 l0.length c0,.int .i64 a1] w fun e w'=>e = .returned (.int .i64 r)∧yK w w':=by
 have HR0:=wA.mk hr0;have HC0:=wA.mk hc0;clear hr0 hc0;have H:(U6.l0 k l0 a1 0 0) = some r:=h;clear h;have H':=wA.mk H;clear H;go_enter Tryd.func16,Tryd.ntmps16
 go_wp2
 go_loopg [5,6] k (fun kq v5 v6 w'=>∃ (x5_1:Int) (x6_1:Int),v5 = .int .i64 x5_1∧v6 = .int .i64 x6_1∧wA (U6.l0 kq l0 a1 x5_1 x6_1 = some r)∧wA (kq≤k)∧yK w w')
 case atStart=>exact ⟨(0),(0),(zz2),(zz2),H',⟨Nat.le_refl _⟩,zz3⟩
 case round =>
  clear H';obtain ⟨x5_1,x6_1,rfl,rfl,HA,HK1,⟨m1,rfl⟩⟩:=hrel
  cases gk with
  | zero=>exact absurd HA.out (by simp [U6.l0])
  | succ k1 =>
   have H:=HA.out;clear HA;simp only [U6.l0] at H;replace H:=zzj H;rcases H with ⟨c3,H⟩|⟨c3,H⟩
   ·have c3b0:=qM c3;clear c3;replace H:=zzi H;obtain ⟨c4,H⟩:=H;have c4b0:=qM c4;clear c4;replace H:=zzj H;rcases H with ⟨c5,H⟩|⟨c5,H⟩
    ·have c5b0:=beq_iff_eq.mpr c5;have c5b1:=bne_eq_false_iff_eq.mpr c5;clear c5;have H':=wA.mk H;clear H;have p139:0≤(x6_1:Int):=qL (zz4);have q139:x6_1 < (l0.length:Int):=qL (zz4);obtain ⟨ad139,e139,hx139_0,hx139_1⟩:=at_T44 HR0.out x6_1 p139 q139
     cases e139
     replace p139:=eq_true p139;replace q139:=eq_true q139
     go_wp2
     go_roundg k1
     case measure=>have:=HK1.out;omega
     case rel=>exact ⟨(wrap64 (x5_1+1)),(wrap64 (x6_1+1)),(zz2),(zz2),H',⟨zz7⟩,zz3⟩
    ·have c5b0:=beq_eq_false_iff_ne.mpr c5;have c5b1:=bne_iff_ne.mpr c5;have H':=wA.mk H;clear H;have p139:0≤(x6_1:Int):=qL (zz4);have q139:x6_1 < (l0.length:Int):=qL (zz4);obtain ⟨ad139,e139,hx139_0,hx139_1⟩:=at_T44 HR0.out x6_1 p139 q139
     cases e139
     replace p139:=eq_true p139;replace q139:=eq_true q139
     go_wp2
     go_roundg k1
     case measure=>have:=HK1.out;omega
     case rel=>exact ⟨(x5_1),(wrap64 (x6_1+1)),(zz2),(zz2),H',⟨zz7⟩,zz3⟩
   ·have c3b0:=qN c3;clear c3;obtain rfl:=Option.some.inj H
    go_wp2
    go_ret
    exact ⟨zz2,zz3⟩
end Go.Proofs.YtnimkmkapajnhaaDoor.QA
