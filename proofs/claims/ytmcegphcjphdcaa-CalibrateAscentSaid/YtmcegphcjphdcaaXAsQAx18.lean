import Derived.Test.YtmcegphcjphdcaaXAsQAx0
import Derived.Test.YtmcegphcjphdcaaXAsQAx2
import Derived.Test.YtmcegphcjphdcaaXAsQAx6
import Derived.Test.YtmcegphcjphdcaaXAsQAx7
import Derived.Test.YtmcegphcjphdcaaXAsQAx11
import Derived.Test.YtmcegphcjphdcaaXAsQAx15
import Derived.Test.YtmcegphcjphdcaaXAsQAx16
import Derived.Test.YtmcegphcjphdcaaXAsQAx17
namespace Go.Proofs.Ytmcegphcjphdcaa.QA
open Go.RowKit Go.Proofs.YtmcegphcjphdcaaW.PrintWords Go.Proofs.YtmcegphcjphdcaaW.PrintLast Go.Proofs.YtmcegphcjphdcaaW.PrintMore
attribute [local go_sem] max2_int min2_int max_two min_two max_three min_three max_four min_four
set_option linter.unusedVariables false
set_option linter.unusedSimpArgs false
def bits_Len32.f (a0:Int):Option (Int):=if 0≤a0 then (if a0≤4294967295 then (some (Lib.bitLen a0.toNat:Int)) else (none)) else (none)
theorem bits_Len32.calls (a0:Int) (r:Int) (w:World) (h:bits_Len32.f a0 = some r) :
  Calls Try.prog 45 #[.int .u32 a0] w fun e w'=>e = .returned (.int .i64 r)∧Drawn0 w w':=by
 unfold bits_Len32.f at h
 split at h
 ·split at h
  ·rename_i h0 h1
   obtain rfl:=Option.some.inj h
   exact (Try.bits_Len32 a0 w h0 h1).mono fun e w' he=>⟨he.1,he.2 ▸ Drawn0.refl w⟩
  ·exact absurd h (zz14)
 ·exact absurd h (zz14)
def U26.f (k:Nat) (l0:List Int):Option (Int):=(U30.f k l0).bind fun t440=>(if (t440.length:Int) = 0 then (some 0) else (if 0≤(wrap64 ((t440.length:Int) - 1)) then (if (wrap64 ((t440.length:Int) - 1)) < (t440.length:Int) then ((bits_Len32.f (rd t440 (wrap64 ((t440.length:Int) - 1)))).bind fun t444=>(some (wrap64 ((wrap64 (32 * (wrap64 ((t440.length:Int) - 1))))+t444)))) else (none)) else (none)))
theorem zm18_0 {P:Prop} (h:P:=by repeat' first|(with_reducible first|exact U30.mono ..|exact LeO.refl _|exact LeO.none _|refine LeO.ite ?_ ?_|refine LeO.bind ?_ (fun _=>?_))|exact U30.mono ..|exact LeO.none _|refine LeO.ite ?_ ?_|refine LeO.bind ?_ (fun _=>?_)):P:=h
theorem U26.mono:∀ a0 k,LeO (U26.f k a0) (U26.f (k+1) a0):=by
 intro a0 k;unfold U26.f
 exact zm18_0
set_option maxHeartbeats 8000000 in
set_option maxRecDepth 100000 in
theorem U26.calls (k:Nat) (A0:Option Addr) (c0:Nat) (l0:List Int) (r:Int) (w:World) (hr0:Kd.C (Kd.int .u32) w A0 l0.length l0) (hc0:l0.length≤c0) (h:U26.f k l0 = some r) :
  Calls Try.prog 16 #[.slice A0 l0.length c0] w fun e w'=>e = .returned (.int .i64 r)∧Below w.heap.size w w':=by
 have HR0:=Aside0.mk hr0;have HC0:=Aside0.mk hc0;clear hr0 hc0;have HB:=Aside0.mk (Below.refl w.heap.size w);have H:((U30.f k l0).bind fun t440=>(if (t440.length:Int) = 0 then (some 0) else (if 0≤(wrap64 ((t440.length:Int) - 1)) then (if (wrap64 ((t440.length:Int) - 1)) < (t440.length:Int) then ((bits_Len32.f (rd t440 (wrap64 ((t440.length:Int) - 1)))).bind fun t444=>(some (wrap64 ((wrap64 (32 * (wrap64 ((t440.length:Int) - 1))))+t444)))) else (none)) else (none)))) = some r:=h;clear h;replace H:=zzb H;obtain ⟨t440,A2,H⟩:=H;replace H:=zzj H;rcases H with ⟨c3,H⟩|⟨c3,H⟩
 ·have c3b0:=beq_iff_eq.mpr c3;have c3b1:=bne_eq_false_iff_eq.mpr c3;clear c3;obtain rfl:=Option.some.inj H;go_enter Try.func16,Try.ntmps16
  go_wp2_with (first|((with_reducible refine gate_callee (f:=44) rfl ?_);refine goesL_ (some 5) rfl rfl Try.func44 (zz0) rfl #[.slice A0 l0.length c0] rfl (zz18) ?_;(with_reducible refine (U30.calls k (fun k_=>k_ < w.heap.size) _ _ l0 t440 _ ?_ A2.out).mono ?_);exact zz83;rintro e w4 ⟨v441,rfl,ho0,hb⟩;refine ⟨_,rfl,?_⟩;have HO442:=Aside0.mk (Kd.V_lower (Kd.V_mono (ok':=fun k_=>True) ho0 (fun k_ hk_=>trivial)) (below_size (zz5)));replace HB:=Aside0.mk (below_step (zz5) hb);(try clear hb);(try clear ho0);obtain ⟨Ao5,co5,eo5⟩:=Kd.V_slice HO442.out;subst eo5))
  go_ret
  exact ⟨zz6,zz5⟩
 ·have c3b0:=beq_eq_false_iff_ne.mpr c3;have c3b1:=bne_iff_ne.mpr c3;have c3b2:¬ (t440 = []):=fun h_=>c3 (by rw [h_];rfl);obtain ⟨ji6,hji6⟩:∃ j_:Int,(wrap64 ((t440.length:Int) - 1)) = j_:=⟨_,rfl⟩;replace H:(if 0≤(ji6) then (if (ji6) < (t440.length:Int) then ((bits_Len32.f (rd t440 (ji6))).bind fun t444=>(some (wrap64 ((wrap64 (32 * (ji6)))+t444)))) else (none)) else (none)) = some r:=(have h0_:=hji6;zz15)
  (try rw [hji6] at A2)
  have hji6w:(IntKind.i64.wrap ((t440.length:Int) - 1)) = ji6:=(i64_w _).trans hji6;replace H:=zzi H;obtain ⟨c7,H⟩:=H;have c7b0:=decide_eq_true c7;clear c7;replace H:=zzi H;obtain ⟨c8,H⟩:=H;have c8b0:=decide_eq_true c8;clear c8;replace H:=zzb H;obtain ⟨t444,A9,H⟩:=H;obtain rfl:=Option.some.inj H;go_enter Try.func16,Try.ntmps16
  go_wp2_with (first|((with_reducible refine gate_callee (f:=44) rfl ?_);refine goesL_ (some 5) rfl rfl Try.func44 (zz0) rfl #[.slice A0 l0.length c0] rfl (zz18) ?_;(with_reducible refine (U30.calls k (fun k_=>k_ < w.heap.size) _ _ l0 t440 _ ?_ A2.out).mono ?_);exact zz83;rintro e w10 ⟨v441,rfl,ho0,hb⟩;refine ⟨_,rfl,?_⟩;have HO442:=Aside0.mk (Kd.V_lower (Kd.V_mono (ok':=fun k_=>True) ho0 (fun k_ hk_=>trivial)) (below_size (zz5)));replace HB:=Aside0.mk (below_step (zz5) hb);(try clear hb);(try clear ho0);obtain ⟨Ao11,co11,eo11⟩:=Kd.V_slice HO442.out;subst eo11;have p443:0≤((ji6):Int):=of_decide_eq_true (zz11);have q443:(ji6) < (t440.length:Int):=of_decide_eq_true (zz11);obtain ⟨ad443,e443,hx443_0⟩:=Kd.at_int (Kd.V_reads' HO442.out).2.2 (ji6) p443 q443;cases e443;replace p443:=eq_true p443;replace q443:=eq_true q443)|((with_reducible refine gate_callee (f:=45) rfl ?_);refine goesL_ (some 19) rfl rfl Try.func45 (zz0) rfl #[.int .u32 (rd t440 (ji6))] rfl (by (try simp only [List.map_toArray,List.map_cons,List.map_nil]);first|done|(simp only [hji6];rfl)|rfl|(simp only [List.length_drop,List.length_take];rfl)) ?_;(with_reducible refine (bits_Len32.calls (rd t440 (ji6)) t444 _ A9.out).mono ?_);rintro e w' ⟨rfl,⟨nd,rfl⟩⟩;refine ⟨_,rfl,?_⟩))
  go_ret
  exact ⟨(have h0_:=hji6;zz16),zz5⟩
end Go.Proofs.Ytmcegphcjphdcaa.QA
