import Derived.Test.YtmcegphcjphdcaaXAsQAx0
import Derived.Test.YtmcegphcjphdcaaXAsQAx2
namespace Go.Proofs.Ytmcegphcjphdcaa.QA
open Go.RowKit Go.Proofs.YtmcegphcjphdcaaW.PrintWords Go.Proofs.YtmcegphcjphdcaaW.PrintLast Go.Proofs.YtmcegphcjphdcaaW.PrintMore
attribute [local go_sem] max2_int min2_int max_two min_two max_three min_three max_four min_four
set_option linter.unusedVariables false
set_option linter.unusedSimpArgs false
def U27.l0:Nat→List Int→List Int→Int→Option (Int)
 | 0,_,_,_=>none
 | k+1,x5,x6,x7=>if x7≥0 then (if 0≤x7 then (if x7 < (x5.length:Int) then (if x7 < (x6.length:Int) then (if (rd x5 x7) < (rd x6 x7) then (some (-1)) else (if (rd x5 x7) > (rd x6 x7) then (some 1) else (U27.l0 k x5 x6 (wrap64 (x7 - 1))))) else (none)) else (none)) else (none)) else (some 0)
def U27.f (k:Nat) (l0:List Int) (l1:List Int):Option (Int):=(U30.f k l0).bind fun t506=>((U30.f k l1).bind fun t509=>(if (t506.length:Int) = (t509.length:Int) then (U27.l0 k t506 t509 (wrap64 ((t506.length:Int) - 1))) else (if (t506.length:Int) < (t509.length:Int) then (some (-1)) else (some 1))))
theorem zm20_0 {P:Prop} (h:P:=by repeat' first|(with_reducible first|exact ih0 ..|exact U30.mono ..|exact LeO.refl _|exact LeO.none _|refine LeO.ite ?_ ?_|refine LeO.bind ?_ (fun _=>?_))|exact ih0 ..|exact U30.mono ..|exact LeO.none _|refine LeO.ite ?_ ?_|refine LeO.bind ?_ (fun _=>?_)):P:=h
theorem U27.mono_l:∀ k,(∀ y0 y1 y2,LeO (U27.l0 k y0 y1 y2) (U27.l0 (k+1) y0 y1 y2))
 | 0=>fun _ _ _ r h=>by simp [U27.l0] at h
 | k+1=>by
  have ih0:=U27.mono_l k
  ·intro y0 y1 y2;unfold U27.l0
   exact zm20_0
theorem U27.mono:∀ a0 a1 k,LeO (U27.f k a0 a1) (U27.f (k+1) a0 a1):=by
 intro a0 a1 k;have ih0:=U27.mono_l k;unfold U27.f
 exact zm20_0
set_option maxHeartbeats 8000000 in
set_option maxRecDepth 100000 in
theorem U27.calls (k:Nat) (A0:Option Addr) (c0:Nat) (l0:List Int) (A1:Option Addr) (c1:Nat) (l1:List Int) (r:Int) (w:World) (hr0:Kd.C (Kd.int .u32) w A0 l0.length l0) (hc0:l0.length≤c0) (hr1:Kd.C (Kd.int .u32) w A1 l1.length l1) (hc1:l1.length≤c1) (h:U27.f k l0 l1 = some r) :
  Calls Try.prog 26 #[.slice A0 l0.length c0,.slice A1 l1.length c1] w fun e w'=>e = .returned (.int .i64 r)∧Below w.heap.size w w':=by
 have HR0:=Aside0.mk hr0;have HC0:=Aside0.mk hc0;clear hr0 hc0;have HR1:=Aside0.mk hr1;have HC1:=Aside0.mk hc1;clear hr1 hc1;have HB:=Aside0.mk (Below.refl w.heap.size w);have H:((U30.f k l0).bind fun t506=>((U30.f k l1).bind fun t509=>(if (t506.length:Int) = (t509.length:Int) then (U27.l0 k t506 t509 (wrap64 ((t506.length:Int) - 1))) else (if (t506.length:Int) < (t509.length:Int) then (some (-1)) else (some 1))))) = some r:=h;clear h;replace H:=zzb H;obtain ⟨t506,A3,H⟩:=H;replace H:=zzb H;obtain ⟨t509,A4,H⟩:=H;replace H:=zzj H;rcases H with ⟨c5,H⟩|⟨c5,H⟩
 ·have c5b0:=beq_iff_eq.mpr c5;have c5b1:=bne_eq_false_iff_eq.mpr c5;have c5b2:(t506.length == t509.length) = true:=(have h0_:=c5;zz8);clear c5;have H':=Aside0.mk H;clear H;go_enter Try.func26,Try.ntmps26
  go_wp2_with (first|(go_at_call 44;(with_reducible refine (U30.calls k (fun k_=>k_ < w.heap.size) _ _ l0 t506 _ ?_ A3.out).mono ?_);exact zz83;rintro e w6 ⟨v507,rfl,ho0,hb⟩;have HO508:=Aside0.mk (Kd.V_lower (Kd.V_mono (ok':=fun k_=>True) ho0 (fun k_ hk_=>trivial)) (below_size (zz5)));replace HB:=Aside0.mk (below_step (zz5) hb);(try clear hb);(try clear ho0))|(go_at_call 44;(with_reducible refine (U30.calls k (fun k_=>k_ < w.heap.size) _ _ l1 t509 _ ?_ A4.out).mono ?_);exact zz88;rintro e w7 ⟨v510,rfl,ho0,hb⟩;replace HO508:=Aside0.mk (Kd.V_below (have h0_:=HO508;zz22) hb);have HO511:=Aside0.mk (Kd.V_lower (Kd.V_mono (ok':=fun k_=>True) ho0 (fun k_ hk_=>trivial)) (below_size (zz5)));replace HB:=Aside0.mk (below_step (zz5) hb);(try clear hb);(try clear ho0);obtain ⟨Ao8,co8,eo8⟩:=Kd.V_slice HO508.out;subst eo8;obtain ⟨Ao9,co9,eo9⟩:=Kd.V_slice HO511.out;subst eo9))
  repeat (go_quiet (first|(go_at_call 44;(with_reducible refine (U30.calls k (fun k_=>k_ < w.heap.size) _ _ l0 t506 _ ?_ A3.out).mono ?_);exact zz83;rintro e w6 ⟨v507,rfl,ho0,hb⟩;have HO508:=Aside0.mk (Kd.V_lower (Kd.V_mono (ok':=fun k_=>True) ho0 (fun k_ hk_=>trivial)) (below_size (zz5)));replace HB:=Aside0.mk (below_step (zz5) hb);(try clear hb);(try clear ho0))|(go_at_call 44;(with_reducible refine (U30.calls k (fun k_=>k_ < w.heap.size) _ _ l1 t509 _ ?_ A4.out).mono ?_);exact zz88;rintro e w7 ⟨v510,rfl,ho0,hb⟩;replace HO508:=Aside0.mk (Kd.V_below (have h0_:=HO508;zz22) hb);have HO511:=Aside0.mk (Kd.V_lower (Kd.V_mono (ok':=fun k_=>True) ho0 (fun k_ hk_=>trivial)) (below_size (zz5)));replace HB:=Aside0.mk (below_step (zz5) hb);(try clear hb);(try clear ho0);obtain ⟨Ao8,co8,eo8⟩:=Kd.V_slice HO508.out;subst eo8;obtain ⟨Ao9,co9,eo9⟩:=Kd.V_slice HO511.out;subst eo9));try go_wp2_with (first|(go_at_call 44;(with_reducible refine (U30.calls k (fun k_=>k_ < w.heap.size) _ _ l0 t506 _ ?_ A3.out).mono ?_);exact zz83;rintro e w6 ⟨v507,rfl,ho0,hb⟩;have HO508:=Aside0.mk (Kd.V_lower (Kd.V_mono (ok':=fun k_=>True) ho0 (fun k_ hk_=>trivial)) (below_size (zz5)));replace HB:=Aside0.mk (below_step (zz5) hb);(try clear hb);(try clear ho0))|(go_at_call 44;(with_reducible refine (U30.calls k (fun k_=>k_ < w.heap.size) _ _ l1 t509 _ ?_ A4.out).mono ?_);exact zz88;rintro e w7 ⟨v510,rfl,ho0,hb⟩;replace HO508:=Aside0.mk (Kd.V_below (have h0_:=HO508;zz22) hb);have HO511:=Aside0.mk (Kd.V_lower (Kd.V_mono (ok':=fun k_=>True) ho0 (fun k_ hk_=>trivial)) (below_size (zz5)));replace HB:=Aside0.mk (below_step (zz5) hb);(try clear hb);(try clear ho0);obtain ⟨Ao8,co8,eo8⟩:=Kd.V_slice HO508.out;subst eo8;obtain ⟨Ao9,co9,eo9⟩:=Kd.V_slice HO511.out;subst eo9)))
  go_loopg [7] k (fun kq v7 w'=>∃ (x7_1:Int),v7 = .int .i64 x7_1∧Aside0 (U27.l0 kq t506 t509 x7_1 = some r)∧Aside0 (kq≤k)∧Aside0 (Kd.V (Kd.int .u32) 65 w' w.heap.size (fun _=>True) (.slice Ao8 t506.length co8) t506)∧Aside0 (Kd.V (Kd.int .u32) 65 w' w.heap.size (fun _=>True) (.slice Ao9 t509.length co9) t509)∧Aside0 (Below w.heap.size w w'))
  case atStart=>exact ⟨(wrap64 ((t506.length:Int) - 1)),(zz2),H',⟨Nat.le_refl _⟩,⟨(have h0_:=HO508;zz22)⟩,⟨(have h0_:=HO511;zz22)⟩,⟨zz5⟩⟩
  case round =>
   clear H'
   (try clear c1);clear c5b0 c5b1 c5b2
   obtain ⟨x7_1,rfl,HA,HK1,HO_5,HO_6,HB⟩:=hrel
   cases gk with
   | zero=>exact absurd HA.out (by simp [U27.l0])
   | succ k1 =>
    have H:=HA.out;clear HA;simp only [U27.l0] at H;replace H:=zzj H;rcases H with ⟨c10,H⟩|⟨c10,H⟩
    ·have c10b0:=decide_eq_true c10;clear c10;replace H:=zzi H;obtain ⟨c11,H⟩:=H;have c11b0:=decide_eq_true c11;clear c11;replace H:=zzi H;obtain ⟨c12,H⟩:=H;have c12b0:=decide_eq_true c12;clear c12;replace H:=zzi H;obtain ⟨c13,H⟩:=H;have c13b0:=decide_eq_true c13;clear c13;replace H:=zzj H;rcases H with ⟨c14,H⟩|⟨c14,H⟩
     ·have c14b0:=decide_eq_true c14;clear c14;obtain rfl:=Option.some.inj H;have p512:0≤(x7_1:Int):=of_decide_eq_true (zz11);have q512:x7_1 < (t506.length:Int):=of_decide_eq_true (zz11);obtain ⟨ad512,e512,hx512_0⟩:=Kd.at_int (Kd.V_reads' HO_5.out).2.2 x7_1 p512 q512
      cases e512
      replace p512:=eq_true p512;replace q512:=eq_true q512;have p513:0≤(x7_1:Int):=of_decide_eq_true (zz11);have q513:x7_1 < (t509.length:Int):=of_decide_eq_true (zz11);obtain ⟨ad513,e513,hx513_0⟩:=Kd.at_int (Kd.V_reads' HO_6.out).2.2 x7_1 p513 q513
      cases e513
      replace p513:=eq_true p513;replace q513:=eq_true q513
      go_wp2
      repeat (go_quiet (fail);try go_wp2)
      go_ret
      exact ⟨zz6,zz5⟩
     ·have c14b0:=decide_eq_false c14;clear c14;replace H:=zzj H;rcases H with ⟨c15,H⟩|⟨c15,H⟩
      ·have c15b0:=decide_eq_true c15;clear c15;obtain rfl:=Option.some.inj H;have p512:0≤(x7_1:Int):=of_decide_eq_true (zz11);have q512:x7_1 < (t506.length:Int):=of_decide_eq_true (zz11);obtain ⟨ad512,e512,hx512_0⟩:=Kd.at_int (Kd.V_reads' HO_5.out).2.2 x7_1 p512 q512
       cases e512
       replace p512:=eq_true p512;replace q512:=eq_true q512;have p513:0≤(x7_1:Int):=of_decide_eq_true (zz11);have q513:x7_1 < (t509.length:Int):=of_decide_eq_true (zz11);obtain ⟨ad513,e513,hx513_0⟩:=Kd.at_int (Kd.V_reads' HO_6.out).2.2 x7_1 p513 q513
       cases e513
       replace p513:=eq_true p513;replace q513:=eq_true q513;have p514:0≤(x7_1:Int):=of_decide_eq_true (zz11);have q514:x7_1 < (t506.length:Int):=of_decide_eq_true (zz11);obtain ⟨ad514,e514,hx514_0⟩:=Kd.at_int (Kd.V_reads' HO_5.out).2.2 x7_1 p514 q514;obtain rfl:ad512 = ad514:=(by injection e514);replace p514:=eq_true p514;replace q514:=eq_true q514;have p515:0≤(x7_1:Int):=of_decide_eq_true (zz11);have q515:x7_1 < (t509.length:Int):=of_decide_eq_true (zz11);obtain ⟨ad515,e515,hx515_0⟩:=Kd.at_int (Kd.V_reads' HO_6.out).2.2 x7_1 p515 q515;obtain rfl:ad513 = ad515:=(by injection e515);replace p515:=eq_true p515;replace q515:=eq_true q515
       go_wp2
       repeat (go_quiet (fail);try go_wp2)
       go_ret
       exact ⟨zz6,zz5⟩
      ·have c15b0:=decide_eq_false c15;clear c15;have H':=Aside0.mk H;clear H;have p512:0≤(x7_1:Int):=of_decide_eq_true (zz11);have q512:x7_1 < (t506.length:Int):=of_decide_eq_true (zz11);obtain ⟨ad512,e512,hx512_0⟩:=Kd.at_int (Kd.V_reads' HO_5.out).2.2 x7_1 p512 q512
       cases e512
       replace p512:=eq_true p512;replace q512:=eq_true q512;have p513:0≤(x7_1:Int):=of_decide_eq_true (zz11);have q513:x7_1 < (t509.length:Int):=of_decide_eq_true (zz11);obtain ⟨ad513,e513,hx513_0⟩:=Kd.at_int (Kd.V_reads' HO_6.out).2.2 x7_1 p513 q513
       cases e513
       replace p513:=eq_true p513;replace q513:=eq_true q513;have p514:0≤(x7_1:Int):=of_decide_eq_true (zz11);have q514:x7_1 < (t506.length:Int):=of_decide_eq_true (zz11);obtain ⟨ad514,e514,hx514_0⟩:=Kd.at_int (Kd.V_reads' HO_5.out).2.2 x7_1 p514 q514;obtain rfl:ad512 = ad514:=(by injection e514);replace p514:=eq_true p514;replace q514:=eq_true q514;have p515:0≤(x7_1:Int):=of_decide_eq_true (zz11);have q515:x7_1 < (t509.length:Int):=of_decide_eq_true (zz11);obtain ⟨ad515,e515,hx515_0⟩:=Kd.at_int (Kd.V_reads' HO_6.out).2.2 x7_1 p515 q515;obtain rfl:ad513 = ad515:=(by injection e515);replace p515:=eq_true p515;replace q515:=eq_true q515
       go_wp2
       repeat (go_quiet (fail);try go_wp2)
       go_roundg k1
       case measure=>have:=HK1.out;omega
       case rel=>exact ⟨(wrap64 (x7_1 - 1)),(zz2),H',⟨zz12⟩,⟨(have h0_:=HO_5;zz22)⟩,⟨(have h0_:=HO_6;zz22)⟩,⟨zz5⟩⟩
    ·have c10b0:=decide_eq_false c10;clear c10;obtain rfl:=Option.some.inj H
     go_wp2
     repeat (go_quiet (fail);try go_wp2)
     go_ret
     exact ⟨zz6,zz5⟩
 ·have c5b0:=beq_eq_false_iff_ne.mpr c5;have c5b1:=bne_iff_ne.mpr c5;have c5b2:(t506.length == t509.length) = false:=(have h0_:=c5;zz8);replace H:=zzj H;rcases H with ⟨c16,H⟩|⟨c16,H⟩
  ·have c16b0:=decide_eq_true c16;have c16b1:decide (t506.length < t509.length) = true:=decide_eq_true (Int.ofNat_lt.mp c16);clear c16;obtain rfl:=Option.some.inj H;go_enter Try.func26,Try.ntmps26
   go_wp2_with (first|(go_at_call 44;(with_reducible refine (U30.calls k (fun k_=>k_ < w.heap.size) _ _ l0 t506 _ ?_ A3.out).mono ?_);exact zz83;rintro e w17 ⟨v507,rfl,ho0,hb⟩;have HO508:=Aside0.mk (Kd.V_lower (Kd.V_mono (ok':=fun k_=>True) ho0 (fun k_ hk_=>trivial)) (below_size (zz5)));replace HB:=Aside0.mk (below_step (zz5) hb);(try clear hb);(try clear ho0))|(go_at_call 44;(with_reducible refine (U30.calls k (fun k_=>k_ < w.heap.size) _ _ l1 t509 _ ?_ A4.out).mono ?_);exact zz88;rintro e w18 ⟨v510,rfl,ho0,hb⟩;replace HO508:=Aside0.mk (Kd.V_below (have h0_:=HO508;zz22) hb);have HO511:=Aside0.mk (Kd.V_lower (Kd.V_mono (ok':=fun k_=>True) ho0 (fun k_ hk_=>trivial)) (below_size (zz5)));replace HB:=Aside0.mk (below_step (zz5) hb);(try clear hb);(try clear ho0);obtain ⟨Ao19,co19,eo19⟩:=Kd.V_slice HO508.out;subst eo19;obtain ⟨Ao20,co20,eo20⟩:=Kd.V_slice HO511.out;subst eo20))
   repeat (go_quiet (first|(go_at_call 44;(with_reducible refine (U30.calls k (fun k_=>k_ < w.heap.size) _ _ l0 t506 _ ?_ A3.out).mono ?_);exact zz83;rintro e w17 ⟨v507,rfl,ho0,hb⟩;have HO508:=Aside0.mk (Kd.V_lower (Kd.V_mono (ok':=fun k_=>True) ho0 (fun k_ hk_=>trivial)) (below_size (zz5)));replace HB:=Aside0.mk (below_step (zz5) hb);(try clear hb);(try clear ho0))|(go_at_call 44;(with_reducible refine (U30.calls k (fun k_=>k_ < w.heap.size) _ _ l1 t509 _ ?_ A4.out).mono ?_);exact zz88;rintro e w18 ⟨v510,rfl,ho0,hb⟩;replace HO508:=Aside0.mk (Kd.V_below (have h0_:=HO508;zz22) hb);have HO511:=Aside0.mk (Kd.V_lower (Kd.V_mono (ok':=fun k_=>True) ho0 (fun k_ hk_=>trivial)) (below_size (zz5)));replace HB:=Aside0.mk (below_step (zz5) hb);(try clear hb);(try clear ho0);obtain ⟨Ao19,co19,eo19⟩:=Kd.V_slice HO508.out;subst eo19;obtain ⟨Ao20,co20,eo20⟩:=Kd.V_slice HO511.out;subst eo20));try go_wp2_with (first|(go_at_call 44;(with_reducible refine (U30.calls k (fun k_=>k_ < w.heap.size) _ _ l0 t506 _ ?_ A3.out).mono ?_);exact zz83;rintro e w17 ⟨v507,rfl,ho0,hb⟩;have HO508:=Aside0.mk (Kd.V_lower (Kd.V_mono (ok':=fun k_=>True) ho0 (fun k_ hk_=>trivial)) (below_size (zz5)));replace HB:=Aside0.mk (below_step (zz5) hb);(try clear hb);(try clear ho0))|(go_at_call 44;(with_reducible refine (U30.calls k (fun k_=>k_ < w.heap.size) _ _ l1 t509 _ ?_ A4.out).mono ?_);exact zz88;rintro e w18 ⟨v510,rfl,ho0,hb⟩;replace HO508:=Aside0.mk (Kd.V_below (have h0_:=HO508;zz22) hb);have HO511:=Aside0.mk (Kd.V_lower (Kd.V_mono (ok':=fun k_=>True) ho0 (fun k_ hk_=>trivial)) (below_size (zz5)));replace HB:=Aside0.mk (below_step (zz5) hb);(try clear hb);(try clear ho0);obtain ⟨Ao19,co19,eo19⟩:=Kd.V_slice HO508.out;subst eo19;obtain ⟨Ao20,co20,eo20⟩:=Kd.V_slice HO511.out;subst eo20)))
   go_ret
   exact ⟨zz6,zz5⟩
  ·have c16b0:=decide_eq_false c16;have c16b1:decide (t506.length < t509.length) = false:=decide_eq_false (fun h=>c16 (Int.ofNat_lt.mpr h));clear c16;obtain rfl:=Option.some.inj H;go_enter Try.func26,Try.ntmps26
   go_wp2_with (first|(go_at_call 44;(with_reducible refine (U30.calls k (fun k_=>k_ < w.heap.size) _ _ l0 t506 _ ?_ A3.out).mono ?_);exact zz83;rintro e w21 ⟨v507,rfl,ho0,hb⟩;have HO508:=Aside0.mk (Kd.V_lower (Kd.V_mono (ok':=fun k_=>True) ho0 (fun k_ hk_=>trivial)) (below_size (zz5)));replace HB:=Aside0.mk (below_step (zz5) hb);(try clear hb);(try clear ho0))|(go_at_call 44;(with_reducible refine (U30.calls k (fun k_=>k_ < w.heap.size) _ _ l1 t509 _ ?_ A4.out).mono ?_);exact zz88;rintro e w22 ⟨v510,rfl,ho0,hb⟩;replace HO508:=Aside0.mk (Kd.V_below (have h0_:=HO508;zz22) hb);have HO511:=Aside0.mk (Kd.V_lower (Kd.V_mono (ok':=fun k_=>True) ho0 (fun k_ hk_=>trivial)) (below_size (zz5)));replace HB:=Aside0.mk (below_step (zz5) hb);(try clear hb);(try clear ho0);obtain ⟨Ao23,co23,eo23⟩:=Kd.V_slice HO508.out;subst eo23;obtain ⟨Ao24,co24,eo24⟩:=Kd.V_slice HO511.out;subst eo24))
   repeat (go_quiet (first|(go_at_call 44;(with_reducible refine (U30.calls k (fun k_=>k_ < w.heap.size) _ _ l0 t506 _ ?_ A3.out).mono ?_);exact zz83;rintro e w21 ⟨v507,rfl,ho0,hb⟩;have HO508:=Aside0.mk (Kd.V_lower (Kd.V_mono (ok':=fun k_=>True) ho0 (fun k_ hk_=>trivial)) (below_size (zz5)));replace HB:=Aside0.mk (below_step (zz5) hb);(try clear hb);(try clear ho0))|(go_at_call 44;(with_reducible refine (U30.calls k (fun k_=>k_ < w.heap.size) _ _ l1 t509 _ ?_ A4.out).mono ?_);exact zz88;rintro e w22 ⟨v510,rfl,ho0,hb⟩;replace HO508:=Aside0.mk (Kd.V_below (have h0_:=HO508;zz22) hb);have HO511:=Aside0.mk (Kd.V_lower (Kd.V_mono (ok':=fun k_=>True) ho0 (fun k_ hk_=>trivial)) (below_size (zz5)));replace HB:=Aside0.mk (below_step (zz5) hb);(try clear hb);(try clear ho0);obtain ⟨Ao23,co23,eo23⟩:=Kd.V_slice HO508.out;subst eo23;obtain ⟨Ao24,co24,eo24⟩:=Kd.V_slice HO511.out;subst eo24));try go_wp2_with (first|(go_at_call 44;(with_reducible refine (U30.calls k (fun k_=>k_ < w.heap.size) _ _ l0 t506 _ ?_ A3.out).mono ?_);exact zz83;rintro e w21 ⟨v507,rfl,ho0,hb⟩;have HO508:=Aside0.mk (Kd.V_lower (Kd.V_mono (ok':=fun k_=>True) ho0 (fun k_ hk_=>trivial)) (below_size (zz5)));replace HB:=Aside0.mk (below_step (zz5) hb);(try clear hb);(try clear ho0))|(go_at_call 44;(with_reducible refine (U30.calls k (fun k_=>k_ < w.heap.size) _ _ l1 t509 _ ?_ A4.out).mono ?_);exact zz88;rintro e w22 ⟨v510,rfl,ho0,hb⟩;replace HO508:=Aside0.mk (Kd.V_below (have h0_:=HO508;zz22) hb);have HO511:=Aside0.mk (Kd.V_lower (Kd.V_mono (ok':=fun k_=>True) ho0 (fun k_ hk_=>trivial)) (below_size (zz5)));replace HB:=Aside0.mk (below_step (zz5) hb);(try clear hb);(try clear ho0);obtain ⟨Ao23,co23,eo23⟩:=Kd.V_slice HO508.out;subst eo23;obtain ⟨Ao24,co24,eo24⟩:=Kd.V_slice HO511.out;subst eo24)))
   go_ret
   exact ⟨zz6,zz5⟩
mutual
def U5.j0:Nat→List (List Int)→Int→Option (Int)
 | 0,_,_=>none
 | k+1,x0,x5=>U5.l0 k x0 x5 x0 (x0.length:Int) 0
def U5.l0:Nat→List (List Int)→Int→List (List Int)→Int→Int→Option (Int)
 | 0,_,_,_,_,_=>none
 | k+1,x0,x5,x12,x13,x14=>if x14 < x13 then (if 0≤x14 then (if x14 < (x12.length:Int) then (if 0≤x5 then (if x5 < (x0.length:Int) then ((U27.f k (rd_L5 x12 x14) (rd_L5 x0 x5)).bind fun t518=>(if t518 > 0 then (U5.l0 k x0 x14 x12 x13 (wrap64 (x14+1))) else (U5.l0 k x0 x5 x12 x13 (wrap64 (x14+1))))) else (none)) else (none)) else (none)) else (none)) else (some x5)
end
def U5.f (k:Nat) (l0:List (List Int)) (a1:Int):Option (Int):=if a1 < 0 then (U5.j0 k l0 0) else (U5.j0 k l0 a1)
theorem zm20_1 {P:Prop} (h:P:=by repeat' first|(with_reducible first|exact ih0 ..|exact ih1 ..|exact U27.mono ..|exact LeO.refl _|exact LeO.none _|refine LeO.ite ?_ ?_|refine LeO.bind ?_ (fun _=>?_))|exact ih0 ..|exact ih1 ..|exact U27.mono ..|exact LeO.none _|refine LeO.ite ?_ ?_|refine LeO.bind ?_ (fun _=>?_)):P:=h
theorem U5.mono_l:∀ k,(∀ y0 y1,LeO (U5.j0 k y0 y1) (U5.j0 (k+1) y0 y1))∧(∀ y0 y1 y2 y3 y4,LeO (U5.l0 k y0 y1 y2 y3 y4) (U5.l0 (k+1) y0 y1 y2 y3 y4))
 | 0=>⟨fun _ _ r h=>by simp [U5.j0] at h,fun _ _ _ _ _ r h=>by simp [U5.l0] at h⟩
 | k+1=>by
  obtain ⟨ih0,ih1⟩:=U5.mono_l k;refine ⟨?_,?_⟩
  ·intro y0 y1;unfold U5.j0
   exact zm20_1
  ·intro y0 y1 y2 y3 y4;unfold U5.l0
   exact zm20_1
theorem U5.mono:∀ a0 a1 k,LeO (U5.f k a0 a1) (U5.f (k+1) a0 a1):=by
 intro a0 a1 k;obtain ⟨ih0,ih1⟩:=U5.mono_l k;unfold U5.f
 exact zm20_1
set_option maxHeartbeats 8000000 in
set_option maxRecDepth 100000 in
theorem U5.calls (k:Nat) (A0:Option Addr) (c0:Nat) (l0:List (List Int)) (a1:Int) (r:Int) (w:World) (hr0:Kd.C (Kd.slice 65 (Kd.int .u32)) w A0 l0.length l0) (hc0:l0.length≤c0) (h:U5.f k l0 a1 = some r) :
  Calls Try.prog 51 #[.slice A0 l0.length c0,.int .i64 a1] w fun e w'=>e = .returned (.int .i64 r)∧Below w.heap.size w w':=by
 have HR0:=Aside0.mk hr0;have HC0:=Aside0.mk hc0;clear hr0 hc0;have HB:=Aside0.mk (Below.refl w.heap.size w);have H:(if a1 < 0 then (U5.j0 k l0 0) else (U5.j0 k l0 a1)) = some r:=h;clear h;have HC3:=Aside0.mk H;clear H;go_enter Try.func51,Try.ntmps51
 go_upto_if 11 with (fail)
 go_cut [5] (fun v5 wc=>∃ (kq:Nat) (x5_2:Int),v5 = .int .i64 x5_2∧Aside0 (U5.j0 kq l0 x5_2 = some r)∧Aside0 (kq≤k)∧Aside0 (Below w.heap.size w wc))
 case first =>
  have H:=HC3.out;clear HC3;replace H:=zzj H;rcases H with ⟨c4,H⟩|⟨c4,H⟩
  ·have c4b0:=decide_eq_true c4;clear c4
   (first|rw [c4b0]|rw [c4b1]|(simp only [i64_w,i32_w];rw [c4b0])|skip)
   have H':=Aside0.mk H;clear H
   go_wp2
   go_meet
   case rel=>exact ⟨_,(0),(zz2),H',⟨zz20⟩,⟨zz5⟩⟩
  ·have c4b0:=decide_eq_false c4;clear c4
   (first|rw [c4b0]|rw [c4b1]|(simp only [i64_w,i32_w];rw [c4b0])|skip)
   have H':=Aside0.mk H;clear H
   go_wp2
   go_meet
   case rel=>exact ⟨_,(a1),(zz2),H',⟨zz20⟩,⟨zz5⟩⟩
 case rest =>
  clear HC3;obtain ⟨kq,x5_2,rfl,HA,HJ2,HB⟩:=hcut
  cases kq with
  | zero=>exact absurd HA.out (by simp [U5.j0])
  | succ kj2 =>
   have H:=HA.out;clear HA;simp only [U5.j0] at H;have H':=Aside0.mk H;clear H
   go_wp2
   go_loopg [5,14] kj2 (fun kq v5 v14 w'=>∃ (x5_2:Int) (x14_2:Int),v5 = .int .i64 x5_2∧v14 = .int .i64 x14_2∧Aside0 (U5.l0 kq l0 x5_2 l0 (l0.length:Int) x14_2 = some r)∧Aside0 (kq≤kj2)∧Aside0 (Below w.heap.size w w'))
   case atStart=>exact ⟨(x5_2),(0),(zz2),(zz2),H',⟨Nat.le_refl _⟩,⟨zz5⟩⟩
   case round =>
    clear H';obtain ⟨x5_2,x14_2,rfl,rfl,HA,HK2,HB⟩:=hrel
    cases gk with
    | zero=>exact absurd HA.out (by simp [U5.l0])
    | succ k2 =>
     have H:=HA.out;clear HA;simp only [U5.l0] at H;replace H:=zzj H;rcases H with ⟨c5,H⟩|⟨c5,H⟩
     ·have c5b0:=decide_eq_true c5;clear c5;replace H:=zzi H;obtain ⟨c6,H⟩:=H;have c6b0:=decide_eq_true c6;clear c6;replace H:=zzi H;obtain ⟨c7,H⟩:=H;have c7b0:=decide_eq_true c7;clear c7;replace H:=zzi H;obtain ⟨c8,H⟩:=H;have c8b0:=decide_eq_true c8;clear c8;replace H:=zzi H;obtain ⟨c9,H⟩:=H;have c9b0:=decide_eq_true c9;clear c9;replace H:=zzb H;obtain ⟨t518,A10,H⟩:=H;replace H:=zzj H;rcases H with ⟨c11,H⟩|⟨c11,H⟩
      ·have c11b0:=decide_eq_true c11;clear c11;have H':=Aside0.mk H;clear H;have p516:0≤(x14_2:Int):=of_decide_eq_true (zz11);have q516:x14_2 < (l0.length:Int):=of_decide_eq_true (zz11);obtain ⟨ad516,A516_0,c516_0,e516,hx516_0,hl516_0,hi516_0⟩:=at_L5 HR0.out x14_2 p516 q516
       cases e516
       replace hx516_0:=(HB.out.cell (World.block_lt_of_cell? w _ hx516_0)).trans hx516_0;have HR516_0:=Aside0.mk hi516_0;have HC516_0:=Aside0.mk hl516_0;clear hi516_0 hl516_0;replace p516:=eq_true p516;replace q516:=eq_true q516;have p517:0≤(x5_2:Int):=of_decide_eq_true (zz11);have q517:x5_2 < (l0.length:Int):=of_decide_eq_true (zz11);obtain ⟨ad517,A517_0,c517_0,e517,hx517_0,hl517_0,hi517_0⟩:=at_L5 HR0.out x5_2 p517 q517;obtain rfl:ad516 = ad517:=(by injection e517);replace hx517_0:=(HB.out.cell (World.block_lt_of_cell? w _ hx517_0)).trans hx517_0;have HR517_0:=Aside0.mk hi517_0;have HC517_0:=Aside0.mk hl517_0;clear hi517_0 hl517_0;replace p517:=eq_true p517;replace q517:=eq_true q517
       go_wp2_with (first|((with_reducible refine gate_callee (f:=26) rfl ?_);refine goesL_ (some 24) rfl rfl Try.func26 (zz0) rfl #[.slice A516_0 (rd_L5 l0 x14_2).length c516_0,.slice A517_0 (rd_L5 l0 x5_2).length c517_0] rfl (zz18) ?_;(with_reducible refine (U27.calls k2 _ _ (rd_L5 l0 x14_2) _ _ (rd_L5 l0 x5_2) t518 _ ?_ ?_ ?_ ?_ A10.out).mono ?_);(exact (have h0_:=HR516_0;zz78));exact HC516_0.out;(exact (have h0_:=HR517_0;zz78));exact HC517_0.out;rintro e w12 ⟨rfl,hb⟩;refine ⟨_,rfl,?_⟩;replace HB:=Aside0.mk (below_step (zz5) hb);(try clear hb)))
       go_roundg k2
       case measure=>have:=HJ2.out;have:=HK2.out;omega
       case rel=>exact ⟨(x14_2),(wrap64 (x14_2+1)),(zz2),(zz2),H',⟨by have:=HJ2.out;have:=HK2.out;omega⟩,⟨zz5⟩⟩
      ·have c11b0:=decide_eq_false c11;clear c11;have H':=Aside0.mk H;clear H;have p516:0≤(x14_2:Int):=of_decide_eq_true (zz11);have q516:x14_2 < (l0.length:Int):=of_decide_eq_true (zz11);obtain ⟨ad516,A516_0,c516_0,e516,hx516_0,hl516_0,hi516_0⟩:=at_L5 HR0.out x14_2 p516 q516
       cases e516
       replace hx516_0:=(HB.out.cell (World.block_lt_of_cell? w _ hx516_0)).trans hx516_0;have HR516_0:=Aside0.mk hi516_0;have HC516_0:=Aside0.mk hl516_0;clear hi516_0 hl516_0;replace p516:=eq_true p516;replace q516:=eq_true q516;have p517:0≤(x5_2:Int):=of_decide_eq_true (zz11);have q517:x5_2 < (l0.length:Int):=of_decide_eq_true (zz11);obtain ⟨ad517,A517_0,c517_0,e517,hx517_0,hl517_0,hi517_0⟩:=at_L5 HR0.out x5_2 p517 q517;obtain rfl:ad516 = ad517:=(by injection e517);replace hx517_0:=(HB.out.cell (World.block_lt_of_cell? w _ hx517_0)).trans hx517_0;have HR517_0:=Aside0.mk hi517_0;have HC517_0:=Aside0.mk hl517_0;clear hi517_0 hl517_0;replace p517:=eq_true p517;replace q517:=eq_true q517
       go_wp2_with (first|((with_reducible refine gate_callee (f:=26) rfl ?_);refine goesL_ (some 24) rfl rfl Try.func26 (zz0) rfl #[.slice A516_0 (rd_L5 l0 x14_2).length c516_0,.slice A517_0 (rd_L5 l0 x5_2).length c517_0] rfl (zz18) ?_;(with_reducible refine (U27.calls k2 _ _ (rd_L5 l0 x14_2) _ _ (rd_L5 l0 x5_2) t518 _ ?_ ?_ ?_ ?_ A10.out).mono ?_);(exact (have h0_:=HR516_0;zz78));exact HC516_0.out;(exact (have h0_:=HR517_0;zz78));exact HC517_0.out;rintro e w13 ⟨rfl,hb⟩;refine ⟨_,rfl,?_⟩;replace HB:=Aside0.mk (below_step (zz5) hb);(try clear hb)))
       go_roundg k2
       case measure=>have:=HJ2.out;have:=HK2.out;omega
       case rel=>exact ⟨(x5_2),(wrap64 (x14_2+1)),(zz2),(zz2),H',⟨by have:=HJ2.out;have:=HK2.out;omega⟩,⟨zz5⟩⟩
     ·have c5b0:=decide_eq_false c5;clear c5;obtain rfl:=Option.some.inj H
      go_wp2
      go_ret
      exact ⟨zz6,zz5⟩
end Go.Proofs.Ytmcegphcjphdcaa.QA
