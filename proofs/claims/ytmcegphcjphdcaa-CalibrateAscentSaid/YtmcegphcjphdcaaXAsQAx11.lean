import Derived.Test.YtmcegphcjphdcaaXAsQAx0
import Derived.Test.YtmcegphcjphdcaaXAsQAx5
import Derived.Test.YtmcegphcjphdcaaXAsQAx10
namespace Go.Proofs.Ytmcegphcjphdcaa.QA
open Go.RowKit Go.Proofs.YtmcegphcjphdcaaW.PrintWords Go.Proofs.YtmcegphcjphdcaaW.PrintLast Go.Proofs.YtmcegphcjphdcaaW.PrintMore
attribute [local go_sem] max2_int min2_int max_two min_two max_three min_three max_four min_four
set_option linter.unusedVariables false
set_option linter.unusedSimpArgs false
def U14.f (l0_0:List Int) (l0_1:List Int) (l0_2:List (List Int)):Option (Bool):=if (l0_0.length:Int) > 4 then (if (l0_0.length:Int)≤200 then (some true) else (if (l0_1.length:Int) > 5 then (some (decide ((l0_1.length:Int)≤60))) else (some false))) else (if (l0_1.length:Int) > 5 then (some (decide ((l0_1.length:Int)≤60))) else (some false))
set_option maxHeartbeats 8000000 in
set_option maxRecDepth 100000 in
theorem U14.calls (A0_0:Option Addr) (c0_0:Nat) (l0_0:List Int) (A0_1:Option Addr) (c0_1:Nat) (l0_1:List Int) (A0_2:Option Addr) (c0_2:Nat) (l0_2:List (List Int)) (r:Bool) (w:World) (hr0_0:Kd.C (Kd.int .i64) w A0_0 l0_0.length l0_0) (hc0_0:l0_0.length≤c0_0) (hr0_1:Kd.C (Kd.int .i64) w A0_1 l0_1.length l0_1) (hc0_1:l0_1.length≤c0_1) (hr0_2:Kd.C (Kd.slice 3 (Kd.int .i64)) w A0_2 l0_2.length l0_2) (hc0_2:l0_2.length≤c0_2) (h:U14.f l0_0 l0_1 l0_2 = some r) :
  Calls Try.prog 13 #[.agg #[.slice A0_0 l0_0.length c0_0,.slice A0_1 l0_1.length c0_1,.slice A0_2 l0_2.length c0_2]] w fun e w'=>e = .returned (.bool r)∧Below w.heap.size w w':=by
 have hu36:=Try.underlying36;have HR0_0:=Aside0.mk hr0_0;have HC0_0:=Aside0.mk hc0_0;clear hr0_0 hc0_0;have HR0_1:=Aside0.mk hr0_1;have HC0_1:=Aside0.mk hc0_1;clear hr0_1 hc0_1;have HR0_2:=Aside0.mk hr0_2;have HC0_2:=Aside0.mk hc0_2;clear hr0_2 hc0_2;have HB:=Aside0.mk (Below.refl w.heap.size w);have H:(if (l0_0.length:Int) > 4 then (if (l0_0.length:Int)≤200 then (some true) else (if (l0_1.length:Int) > 5 then (some (decide ((l0_1.length:Int)≤60))) else (some false))) else (if (l0_1.length:Int) > 5 then (some (decide ((l0_1.length:Int)≤60))) else (some false))) = some r:=h;clear h;replace H:=zzj H;rcases H with ⟨c2,H⟩|⟨c2,H⟩
 ·have c2b0:=decide_eq_true c2;have c2b1:decide (4 < l0_0.length) = true:=decide_eq_true (zz4);clear c2;replace H:=zzj H;rcases H with ⟨c3,H⟩|⟨c3,H⟩
  ·have c3b0:=decide_eq_true c3;have c3b1:decide (l0_0.length≤200) = true:=decide_eq_true (zz4);clear c3;obtain rfl:=Option.some.inj H;go_enter Try.func13,Try.ntmps13
   go_wp2_with (first|((with_reducible refine gate_dst (N:=1) rfl ?_);(try (refine gate_guard (zz19) ?_;dsimp only));refine box_event ?hg (N:=1) ?hd (cs:=#[.slice A0_0 l0_0.length c0_0,.slice A0_1 l0_1.length c0_1,.slice A0_2 l0_2.length c0_2]) (t:=36) ?hr ?_;(case hd=>rfl);(case hg=>rfl);(case hr=>exact zz77);intro gb306 hg w4 hbox hb;have BK306:=Aside0.mk (hbox);have GW306:=Aside0.mk ((by rw [hg];exact (below_size (zz5)):w.heap.size≤gb306));have GE306:=Aside0.mk ((by rw [hg];exact (below_size (zz5)):w.heap.size≤gb306));replace HB:=Aside0.mk (below_step (zz5) hb);clear hb hbox hg;obtain ⟨hcz5_0,hcz5_1,hcz5_2,hfz5_0,hfz5_1,hfz5_2⟩:=zc3 BK306.out))
   go_ret
   exact ⟨zz6,(have h0_:=GE306;zz7)⟩
  ·have c3b0:=decide_eq_false c3;have c3b1:decide (l0_0.length≤200) = false:=decide_eq_false (zz4);clear c3;replace H:=zzj H;rcases H with ⟨c6,H⟩|⟨c6,H⟩
   ·have c6b0:=decide_eq_true c6;have c6b1:decide (5 < l0_1.length) = true:=decide_eq_true (zz4);clear c6;obtain rfl:=Option.some.inj H;go_enter Try.func13,Try.ntmps13
    go_wp2_with (first|((with_reducible refine gate_dst (N:=1) rfl ?_);(try (refine gate_guard (zz19) ?_;dsimp only));refine box_event ?hg (N:=1) ?hd (cs:=#[.slice A0_0 l0_0.length c0_0,.slice A0_1 l0_1.length c0_1,.slice A0_2 l0_2.length c0_2]) (t:=36) ?hr ?_;(case hd=>rfl);(case hg=>rfl);(case hr=>exact zz77);intro gb306 hg w7 hbox hb;have BK306:=Aside0.mk (hbox);have GW306:=Aside0.mk ((by rw [hg];exact (below_size (zz5)):w.heap.size≤gb306));have GE306:=Aside0.mk ((by rw [hg];exact (below_size (zz5)):w.heap.size≤gb306));replace HB:=Aside0.mk (below_step (zz5) hb);clear hb hbox hg;obtain ⟨hcz8_0,hcz8_1,hcz8_2,hfz8_0,hfz8_1,hfz8_2⟩:=zc3 BK306.out))
    go_ret
    exact ⟨zz6,(have h0_:=GE306;zz7)⟩
   ·have c6b0:=decide_eq_false c6;have c6b1:decide (5 < l0_1.length) = false:=decide_eq_false (zz4);clear c6;obtain rfl:=Option.some.inj H;go_enter Try.func13,Try.ntmps13
    go_wp2_with (first|((with_reducible refine gate_dst (N:=1) rfl ?_);(try (refine gate_guard (zz19) ?_;dsimp only));refine box_event ?hg (N:=1) ?hd (cs:=#[.slice A0_0 l0_0.length c0_0,.slice A0_1 l0_1.length c0_1,.slice A0_2 l0_2.length c0_2]) (t:=36) ?hr ?_;(case hd=>rfl);(case hg=>rfl);(case hr=>exact zz77);intro gb306 hg w9 hbox hb;have BK306:=Aside0.mk (hbox);have GW306:=Aside0.mk ((by rw [hg];exact (below_size (zz5)):w.heap.size≤gb306));have GE306:=Aside0.mk ((by rw [hg];exact (below_size (zz5)):w.heap.size≤gb306));replace HB:=Aside0.mk (below_step (zz5) hb);clear hb hbox hg;obtain ⟨hcz10_0,hcz10_1,hcz10_2,hfz10_0,hfz10_1,hfz10_2⟩:=zc3 BK306.out))
    go_ret
    exact ⟨zz6,(have h0_:=GE306;zz7)⟩
 ·have c2b0:=decide_eq_false c2;have c2b1:decide (4 < l0_0.length) = false:=decide_eq_false (zz4);clear c2;replace H:=zzj H;rcases H with ⟨c11,H⟩|⟨c11,H⟩
  ·have c11b0:=decide_eq_true c11;have c11b1:decide (5 < l0_1.length) = true:=decide_eq_true (zz4);clear c11;obtain rfl:=Option.some.inj H;go_enter Try.func13,Try.ntmps13
   go_wp2_with (first|((with_reducible refine gate_dst (N:=1) rfl ?_);(try (refine gate_guard (zz19) ?_;dsimp only));refine box_event ?hg (N:=1) ?hd (cs:=#[.slice A0_0 l0_0.length c0_0,.slice A0_1 l0_1.length c0_1,.slice A0_2 l0_2.length c0_2]) (t:=36) ?hr ?_;(case hd=>rfl);(case hg=>rfl);(case hr=>exact zz77);intro gb306 hg w12 hbox hb;have BK306:=Aside0.mk (hbox);have GW306:=Aside0.mk ((by rw [hg];exact (below_size (zz5)):w.heap.size≤gb306));have GE306:=Aside0.mk ((by rw [hg];exact (below_size (zz5)):w.heap.size≤gb306));replace HB:=Aside0.mk (below_step (zz5) hb);clear hb hbox hg;obtain ⟨hcz13_0,hcz13_1,hcz13_2,hfz13_0,hfz13_1,hfz13_2⟩:=zc3 BK306.out))
   go_ret
   exact ⟨zz6,(have h0_:=GE306;zz7)⟩
  ·have c11b0:=decide_eq_false c11;have c11b1:decide (5 < l0_1.length) = false:=decide_eq_false (zz4);clear c11;obtain rfl:=Option.some.inj H;go_enter Try.func13,Try.ntmps13
   go_wp2_with (first|((with_reducible refine gate_dst (N:=1) rfl ?_);(try (refine gate_guard (zz19) ?_;dsimp only));refine box_event ?hg (N:=1) ?hd (cs:=#[.slice A0_0 l0_0.length c0_0,.slice A0_1 l0_1.length c0_1,.slice A0_2 l0_2.length c0_2]) (t:=36) ?hr ?_;(case hd=>rfl);(case hg=>rfl);(case hr=>exact zz77);intro gb306 hg w14 hbox hb;have BK306:=Aside0.mk (hbox);have GW306:=Aside0.mk ((by rw [hg];exact (below_size (zz5)):w.heap.size≤gb306));have GE306:=Aside0.mk ((by rw [hg];exact (below_size (zz5)):w.heap.size≤gb306));replace HB:=Aside0.mk (below_step (zz5) hb);clear hb hbox hg;obtain ⟨hcz15_0,hcz15_1,hcz15_2,hfz15_0,hfz15_1,hfz15_2⟩:=zc3 BK306.out))
   go_ret
   exact ⟨zz6,(have h0_:=GE306;zz7)⟩
def U19.l0:Nat→List Int→Int→List Int→Int→Int→Option (Bool)
 | 0,_,_,_,_,_=>none
 | k+1,x0,x1,x7,x8,x9=>if x9 < x8 then (if 0≤x9 then (if x9 < (x7.length:Int) then (if (rd x7 x9) < x1 then (some false) else (if x9 > 0 then (if 0≤(wrap64 (x9 - 1)) then (if (wrap64 (x9 - 1)) < (x0.length:Int) then (if (rd x7 x9)≤(rd x0 (wrap64 (x9 - 1))) then (some false) else (U19.l0 k x0 x1 x7 x8 (wrap64 (x9+1)))) else (none)) else (none)) else (U19.l0 k x0 x1 x7 x8 (wrap64 (x9+1))))) else (none)) else (none)) else (some true)
def U19.f (k:Nat) (l0:List Int) (a1:Int):Option (Bool):=U19.l0 k l0 a1 l0 (l0.length:Int) 0
theorem zm11_0 {P:Prop} (h:P:=by repeat' first|(with_reducible first|exact ih0 ..|exact LeO.refl _|exact LeO.none _|refine LeO.ite ?_ ?_|refine LeO.bind ?_ (fun _=>?_))|exact ih0 ..|exact LeO.none _|refine LeO.ite ?_ ?_|refine LeO.bind ?_ (fun _=>?_)):P:=h
theorem U19.mono_l:∀ k,(∀ y0 y1 y2 y3 y4,LeO (U19.l0 k y0 y1 y2 y3 y4) (U19.l0 (k+1) y0 y1 y2 y3 y4))
 | 0=>fun _ _ _ _ _ r h=>by simp [U19.l0] at h
 | k+1=>by
  have ih0:=U19.mono_l k
  ·intro y0 y1 y2 y3 y4;unfold U19.l0
   exact zm11_0
theorem U19.mono:∀ a0 a1 k,LeO (U19.f k a0 a1) (U19.f (k+1) a0 a1):=by
 intro a0 a1 k;have ih0:=U19.mono_l k;unfold U19.f
 exact zm11_0
set_option maxHeartbeats 8000000 in
set_option maxRecDepth 100000 in
theorem U19.calls (k:Nat) (A0:Option Addr) (c0:Nat) (l0:List Int) (a1:Int) (r:Bool) (w:World) (hr0:Kd.C (Kd.int .i64) w A0 l0.length l0) (hc0:l0.length≤c0) (h:U19.f k l0 a1 = some r) :
  Calls Try.prog 60 #[.slice A0 l0.length c0,.int .i64 a1] w fun e w'=>e = .returned (.bool r)∧Drawn0 w w':=by
 have HR0:=Aside0.mk hr0;have HC0:=Aside0.mk hc0;clear hr0 hc0;have H:(U19.l0 k l0 a1 l0 (l0.length:Int) 0) = some r:=h;clear h;have H':=Aside0.mk H;clear H;go_enter Try.func60,Try.ntmps60
 go_wp2
 go_loopg [9] k (fun kq v9 w'=>∃ (x9_1:Int),v9 = .int .i64 x9_1∧Aside0 (U19.l0 kq l0 a1 l0 (l0.length:Int) x9_1 = some r)∧Aside0 (kq≤k)∧Drawn0 w w')
 case atStart=>exact ⟨(0),(zz2),H',⟨Nat.le_refl _⟩,zz3⟩
 case round =>
  clear H';obtain ⟨x9_1,rfl,HA,HK1,⟨m1,rfl⟩⟩:=hrel
  cases gk with
  | zero=>exact absurd HA.out (by simp [U19.l0])
  | succ k1 =>
   have H:=HA.out;clear HA;simp only [U19.l0] at H;replace H:=zzj H;rcases H with ⟨c3,H⟩|⟨c3,H⟩
   ·have c3b0:=decide_eq_true c3;clear c3;replace H:=zzi H;obtain ⟨c4,H⟩:=H;have c4b0:=decide_eq_true c4;clear c4;replace H:=zzi H;obtain ⟨c5,H⟩:=H;have c5b0:=decide_eq_true c5;clear c5;replace H:=zzj H;rcases H with ⟨c6,H⟩|⟨c6,H⟩
    ·have c6b0:=decide_eq_true c6;clear c6;obtain rfl:=Option.some.inj H;have p307:0≤(x9_1:Int):=of_decide_eq_true (zz11);have q307:x9_1 < (l0.length:Int):=of_decide_eq_true (zz11);obtain ⟨ad307,e307,hx307_0⟩:=Kd.at_int HR0.out x9_1 p307 q307
     cases e307
     replace p307:=eq_true p307;replace q307:=eq_true q307
     go_wp2
     go_ret
     exact ⟨zz2,zz3⟩
    ·have c6b0:=decide_eq_false c6;clear c6;replace H:=zzj H;rcases H with ⟨c7,H⟩|⟨c7,H⟩
     ·have c7b0:=decide_eq_true c7;clear c7;obtain ⟨ji8,hji8⟩:∃ j_:Int,(wrap64 (x9_1 - 1)) = j_:=⟨_,rfl⟩;replace H:(if 0≤(ji8) then (if (ji8) < (l0.length:Int) then (if (rd l0 x9_1)≤(rd l0 (ji8)) then (some false) else (U19.l0 k1 l0 a1 l0 (l0.length:Int) (wrap64 (x9_1+1)))) else (none)) else (none)) = some r:=(have h0_:=hji8;zz15);have hji8w:(IntKind.i64.wrap (x9_1 - 1)) = ji8:=(i64_w _).trans hji8;replace H:=zzi H;obtain ⟨c9,H⟩:=H;have c9b0:=decide_eq_true c9;clear c9;replace H:=zzi H;obtain ⟨c10,H⟩:=H;have c10b0:=decide_eq_true c10;clear c10;replace H:=zzj H;rcases H with ⟨c11,H⟩|⟨c11,H⟩
      ·have c11b0:=decide_eq_true c11;clear c11;obtain rfl:=Option.some.inj H;have p307:0≤(x9_1:Int):=of_decide_eq_true (zz11);have q307:x9_1 < (l0.length:Int):=of_decide_eq_true (zz11);obtain ⟨ad307,e307,hx307_0⟩:=Kd.at_int HR0.out x9_1 p307 q307
       cases e307
       replace p307:=eq_true p307;replace q307:=eq_true q307;have p308:0≤((ji8):Int):=of_decide_eq_true (zz11);have q308:(ji8) < (l0.length:Int):=of_decide_eq_true (zz11);obtain ⟨ad308,e308,hx308_0⟩:=Kd.at_int HR0.out (ji8) p308 q308;obtain rfl:ad307 = ad308:=(by injection e308);replace p308:=eq_true p308;replace q308:=eq_true q308
       go_wp2
       go_ret
       exact ⟨(have h0_:=hji8;zz17),zz3⟩
      ·have c11b0:=decide_eq_false c11;clear c11;have H':=Aside0.mk H;clear H;have p307:0≤(x9_1:Int):=of_decide_eq_true (zz11);have q307:x9_1 < (l0.length:Int):=of_decide_eq_true (zz11);obtain ⟨ad307,e307,hx307_0⟩:=Kd.at_int HR0.out x9_1 p307 q307
       cases e307
       replace p307:=eq_true p307;replace q307:=eq_true q307;have p308:0≤((ji8):Int):=of_decide_eq_true (zz11);have q308:(ji8) < (l0.length:Int):=of_decide_eq_true (zz11);obtain ⟨ad308,e308,hx308_0⟩:=Kd.at_int HR0.out (ji8) p308 q308;obtain rfl:ad307 = ad308:=(by injection e308);replace p308:=eq_true p308;replace q308:=eq_true q308
       go_wp2
       go_roundg k1
       case measure=>have:=HK1.out;omega
       case rel=>exact ⟨(wrap64 (x9_1+1)),(zz2),H',⟨zz12⟩,zz3⟩
     ·have c7b0:=decide_eq_false c7;clear c7;have H':=Aside0.mk H;clear H;have p307:0≤(x9_1:Int):=of_decide_eq_true (zz11);have q307:x9_1 < (l0.length:Int):=of_decide_eq_true (zz11);obtain ⟨ad307,e307,hx307_0⟩:=Kd.at_int HR0.out x9_1 p307 q307
      cases e307
      replace p307:=eq_true p307;replace q307:=eq_true q307
      go_wp2
      go_roundg k1
      case measure=>have:=HK1.out;omega
      case rel=>exact ⟨(wrap64 (x9_1+1)),(zz2),H',⟨zz12⟩,zz3⟩
   ·have c3b0:=decide_eq_false c3;clear c3;obtain rfl:=Option.some.inj H
    go_wp2
    go_ret
    exact ⟨zz2,zz3⟩
end Go.Proofs.Ytmcegphcjphdcaa.QA
