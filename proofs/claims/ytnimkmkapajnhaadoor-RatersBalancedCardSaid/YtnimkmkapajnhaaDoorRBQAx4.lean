import Derived.Test.YtnimkmkapajnhaaDoorRBQAx0
import Derived.Test.YtnimkmkapajnhaaDoorRBQAx3
namespace Go.Proofs.YtnimkmkapajnhaaDoor.QA
open Go.RowKit Go.Proofs.YtnimkmkapajnhaaDoorW.PrintWords Go.Proofs.YtnimkmkapajnhaaDoorW.PrintLast Go.Proofs.YtnimkmkapajnhaaDoorW.PrintMore
attribute [local go_sem] yE yA yI yJ wY wX yC yD
set_option linter.unusedVariables false
set_option linter.unusedSimpArgs false
def U34.l0:Nat→Int→Int→List (S44)→Int→Int→Option (Int)
 | 0,_,_,_,_,_=>none
 | k+1,x1,x5,x8,x9,x10=>if x10 < x9 then (if 0≤x10 then (if x10 < (x8.length:Int) then (if ((rd_T44 x8 x10).f1) = x1 then (U34.l0 k x1 (wrap64 (x5+1)) x8 x9 (wrap64 (x10+1))) else (U34.l0 k x1 x5 x8 x9 (wrap64 (x10+1)))) else (none)) else (none)) else (some x5)
def U34.f (k:Nat) (l0:List (S44)) (a1:Int):Option (Int):=U34.l0 k a1 0 l0 (l0.length:Int) 0
theorem zm2_0 {P:Prop} (h:P:=by repeat' first|(with_reducible first|exact ih0 ..|exact LeO.refl _|exact LeO.none _|refine LeO.ite ?_ ?_|refine LeO.bind ?_ (fun _=>?_))|exact ih0 ..|exact LeO.none _|refine LeO.ite ?_ ?_|refine LeO.bind ?_ (fun _=>?_)):P:=h
theorem U34.mono_l:∀ k,(∀ y0 y1 y2 y3 y4,LeO (U34.l0 k y0 y1 y2 y3 y4) (U34.l0 (k+1) y0 y1 y2 y3 y4))
 | 0=>fun _ _ _ _ _ r h=>by simp [U34.l0] at h
 | k+1=>by
  have ih0:=U34.mono_l k
  ·intro y0 y1 y2 y3 y4;unfold U34.l0
   exact zm2_0
theorem U34.mono:∀ a0 a1 k,LeO (U34.f k a0 a1) (U34.f (k+1) a0 a1):=by
 intro a0 a1 k;have ih0:=U34.mono_l k;unfold U34.f
 exact zm2_0
set_option maxHeartbeats 8000000 in
set_option maxRecDepth 100000 in
theorem U34.calls (k:Nat) (A0:Option Addr) (c0:Nat) (l0:List (S44)) (a1:Int) (r:Int) (w:World) (hr0:Kd.C k44 w A0 l0.length l0) (hc0:l0.length≤c0) (h:U34.f k l0 a1 = some r) :
  Calls Tryd.prog 15 #[.slice A0 l0.length c0,.int .i64 a1] w fun e w'=>e = .returned (.int .i64 r)∧Below w.heap.size w w':=by
 have hu44:=Tryd.underlying44;have HR0:=wA.mk hr0;have HC0:=wA.mk hc0;clear hr0 hc0;have HB:=wA.mk (Below.refl w.heap.size w);have H:(U34.l0 k a1 0 l0 (l0.length:Int) 0) = some r:=h;clear h;have H':=wA.mk H;clear H;go_enter Tryd.func15,Tryd.ntmps15
 go_wp2
 go_loopg [5,10] k (fun kq v5 v10 w'=>∃ (x5_1:Int) (x10_1:Int),v5 = .int .i64 x5_1∧v10 = .int .i64 x10_1∧wA (U34.l0 kq a1 x5_1 l0 (l0.length:Int) x10_1 = some r)∧wA (kq≤k)∧wA (Below w.heap.size w w'))
 case atStart=>exact ⟨(0),(0),(zz2),(zz2),H',⟨Nat.le_refl _⟩,⟨zz3⟩⟩
 case round =>
  clear H';obtain ⟨x5_1,x10_1,rfl,rfl,HA,HK1,HB⟩:=hrel
  cases gk with
  | zero=>exact absurd HA.out (by simp [U34.l0])
  | succ k1 =>
   have H:=HA.out;clear HA;simp only [U34.l0] at H;replace H:=zzj H;rcases H with ⟨c3,H⟩|⟨c3,H⟩
   ·have c3b0:=qM c3;clear c3;replace H:=zzi H;obtain ⟨c4,H⟩:=H;have c4b0:=qM c4;clear c4;replace H:=zzi H;obtain ⟨c5,H⟩:=H;have c5b0:=qM c5;clear c5;replace H:=zzj H;rcases H with ⟨c6,H⟩|⟨c6,H⟩
    ·have c6b0:=beq_iff_eq.mpr c6;have c6b1:=bne_eq_false_iff_eq.mpr c6;clear c6;have H':=wA.mk H;clear H;have p121:0≤(x10_1:Int):=qL (zz4);have q121:x10_1 < (l0.length:Int):=qL (zz4);obtain ⟨ad121,e121,hx121_0,hx121_1⟩:=at_T44 HR0.out x10_1 p121 q121
     cases e121
     replace hx121_0:=(HB.out.cell (qK w _ hx121_0)).trans hx121_0;replace hx121_1:=(HB.out.cell (qK w _ hx121_1)).trans hx121_1;replace p121:=eq_true p121;replace q121:=eq_true q121
     go_wp2_with (first|((with_reducible refine wL (N:=7) rfl ?_);refine wM ?hg (N:=7) ?hd (cs:=#[.int .i64 0,.int .i64 0]) (t:=44) ?hr ?_;(case hd=>rfl);(case hg=>rfl);(case hr=>exact zz156);intro gb122 hg w7 hbox hb;have BK122:=wA.mk (hbox);have GW122:=wA.mk ((by rw [hg];exact (wB (zz3)):w.heap.size≤gb122));have GE122:=wA.mk ((by rw [hg];exact (wB (zz3)):w.heap.size≤gb122));replace HB:=wA.mk (wC (zz3) hb);clear hb hbox hg;obtain ⟨hcz8_0,hcz8_1,hfz8_0,hfz8_1⟩:=zc2 BK122.out))
     go_roundg k1
     case measure=>have:=HK1.out;omega
     case rel=>exact ⟨(wrap64 (x5_1+1)),(wrap64 (x10_1+1)),(zz2),(zz2),H',⟨zz5⟩,⟨(have h0_:=GE122;zz6)⟩⟩
    ·have c6b0:=beq_eq_false_iff_ne.mpr c6;have c6b1:=bne_iff_ne.mpr c6;have H':=wA.mk H;clear H;have p121:0≤(x10_1:Int):=qL (zz4);have q121:x10_1 < (l0.length:Int):=qL (zz4);obtain ⟨ad121,e121,hx121_0,hx121_1⟩:=at_T44 HR0.out x10_1 p121 q121
     cases e121
     replace hx121_0:=(HB.out.cell (qK w _ hx121_0)).trans hx121_0;replace hx121_1:=(HB.out.cell (qK w _ hx121_1)).trans hx121_1;replace p121:=eq_true p121;replace q121:=eq_true q121
     go_wp2_with (first|((with_reducible refine wL (N:=7) rfl ?_);refine wM ?hg (N:=7) ?hd (cs:=#[.int .i64 0,.int .i64 0]) (t:=44) ?hr ?_;(case hd=>rfl);(case hg=>rfl);(case hr=>exact zz156);intro gb122 hg w9 hbox hb;have BK122:=wA.mk (hbox);have GW122:=wA.mk ((by rw [hg];exact (wB (zz3)):w.heap.size≤gb122));have GE122:=wA.mk ((by rw [hg];exact (wB (zz3)):w.heap.size≤gb122));replace HB:=wA.mk (wC (zz3) hb);clear hb hbox hg;obtain ⟨hcz10_0,hcz10_1,hfz10_0,hfz10_1⟩:=zc2 BK122.out))
     go_roundg k1
     case measure=>have:=HK1.out;omega
     case rel=>exact ⟨(x5_1),(wrap64 (x10_1+1)),(zz2),(zz2),H',⟨zz5⟩,⟨(have h0_:=GE122;zz6)⟩⟩
   ·have c3b0:=qN c3;clear c3;obtain rfl:=Option.some.inj H
    go_wp2
    go_ret
    exact ⟨zz8,zz3⟩
end Go.Proofs.YtnimkmkapajnhaaDoor.QA
