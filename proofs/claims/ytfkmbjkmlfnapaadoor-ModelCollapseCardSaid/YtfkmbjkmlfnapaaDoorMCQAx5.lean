import Derived.Test.YtfkmbjkmlfnapaaDoorMCQAx0
import Derived.Test.YtfkmbjkmlfnapaaDoorMCQAx1
import Derived.Test.YtfkmbjkmlfnapaaDoorMCQAx4
namespace Go.Proofs.YtfkmbjkmlfnapaaDoor.QA
open Go.RowKit Go.Proofs.YtfkmbjkmlfnapaaDoorW.PrintWords Go.Proofs.YtfkmbjkmlfnapaaDoorW.PrintLast Go.Proofs.YtfkmbjkmlfnapaaDoorW.PrintMore
attribute [local go_sem] yG yF yP yO yA yB yH yE
set_option linter.unusedVariables false
set_option linter.unusedSimpArgs false
mutual
def U19.j0:Nat→Int→Int→Int→Int→Bool→List Int→List Int→Option ((List (List Int)) × Int)
 | 0,_,_,_,_,_,_,_=>none
 | k+1,x1,x2,x3,x4,x43,x154000,x154001=>if x43 = true then (some (([]:List (List Int)),3)) else (U19.l0 k x1 x2 x3 x4 x154000 (x154000.length:Int) 0 ([]:List (List Int)))
def U19.l0:Nat→Int→Int→Int→Int→List Int→Int→Int→List (List Int)→Option ((List (List Int)) × Int)
 | 0,_,_,_,_,_,_,_,_=>none
 | k+1,x1,x2,x3,x4,x46,x47,x48,x159000=>if x48 < x47 then (if 0≤x48 then (if x48 < (x46.length:Int) then ((U22.f (rd x46 x48) x1 x2).bind fun t160=>(if x159000.length < 5864062014805 then (U19.l0 k x1 x2 x3 x4 x46 x47 (wrap64 (x48+1)) (x159000++[(([wrap64 (1000 - (mn (mx t160 x3) x4)),mn (mx t160 x3) x4]:List Int))])) else (none))) else (none)) else (none)) else (some (x159000,0))
end
def U19.f (k:Nat) (l0_0:List Int) (l0_1:List Int) (a1:Int) (a2:Int) (a3:Int) (a4:Int):Option ((List (List Int)) × Int):=(U5.f k l0_0 l0_1).bind fun t155=>(if t155 = 0 then ((U26.f a1 (-1000) 1000).bind fun t156=>(if t156 = true then ((U26.f a2 0 2000).bind fun t157=>(if t157 = true then (if a3 < 1 then (U19.j0 k a1 a2 a3 a4 true l0_0 l0_1) else (if a3 > a4 then (U19.j0 k a1 a2 a3 a4 true l0_0 l0_1) else (U19.j0 k a1 a2 a3 a4 (decide (a4 > 999)) l0_0 l0_1))) else (U19.j0 k a1 a2 a3 a4 true l0_0 l0_1))) else (U19.j0 k a1 a2 a3 a4 true l0_0 l0_1))) else (some (([]:List (List Int)),t155)))
theorem zm9_0 {P:Prop} (h:P:=by repeat' first|(with_reducible first|exact ih0 ..|exact ih1 ..|exact U5.mono ..|exact LeO.refl _|exact LeO.none _|refine LeO.ite ?_ ?_|refine LeO.bind ?_ (fun _=>?_))|exact ih0 ..|exact ih1 ..|exact U5.mono ..|exact LeO.none _|refine LeO.ite ?_ ?_|refine LeO.bind ?_ (fun _=>?_)):P:=h
theorem U19.mono_l:∀ k,(∀ y0 y1 y2 y3 y4 y5 y6,LeO (U19.j0 k y0 y1 y2 y3 y4 y5 y6) (U19.j0 (k+1) y0 y1 y2 y3 y4 y5 y6))∧(∀ y0 y1 y2 y3 y4 y5 y6 y7,LeO (U19.l0 k y0 y1 y2 y3 y4 y5 y6 y7) (U19.l0 (k+1) y0 y1 y2 y3 y4 y5 y6 y7))
 | 0=>⟨fun _ _ _ _ _ _ _ r h=>by simp [U19.j0] at h,fun _ _ _ _ _ _ _ _ r h=>by simp [U19.l0] at h⟩
 | k+1=>by
  obtain ⟨ih0,ih1⟩:=U19.mono_l k;refine ⟨?_,?_⟩
  ·intro y0 y1 y2 y3 y4 y5 y6;unfold U19.j0
   exact zm9_0
  ·intro y0 y1 y2 y3 y4 y5 y6 y7;unfold U19.l0
   exact zm9_0
theorem U19.mono:∀ a0 a1 a2 a3 a4 a5 k,LeO (U19.f k a0 a1 a2 a3 a4 a5) (U19.f (k+1) a0 a1 a2 a3 a4 a5):=by
 intro a0 a1 a2 a3 a4 a5 k;obtain ⟨ih0,ih1⟩:=U19.mono_l k;unfold U19.f
 exact zm9_0
set_option maxHeartbeats 8000000 in
set_option maxRecDepth 100000 in
theorem U19.calls (k:Nat) (A0_0:Option Addr) (c0_0:Nat) (l0_0:List Int) (A0_1:Option Addr) (c0_1:Nat) (l0_1:List Int) (a1:Int) (a2:Int) (a3:Int) (a4:Int) (r1:List (List Int)) (r2:Int) (w:World) (hr0_0:Kd.C (Kd.int .i64) w A0_0 l0_0.length l0_0) (hc0_0:l0_0.length≤c0_0) (hr0_1:Kd.C (Kd.int .i64) w A0_1 l0_1.length l0_1) (hc0_1:l0_1.length≤c0_1) (h:U19.f k l0_0 l0_1 a1 a2 a3 a4 = some (r1,r2)) :
  Calls Tryd.prog 21 #[.agg #[.slice A0_0 l0_0.length c0_0,.slice A0_1 l0_1.length c0_1],.int .i64 a1,.int .i64 a2,.int .i64 a3,.int .i64 a4] w fun e w'=>∃ v0_:Value,e = .returned (.tuple #[.agg #[v0_],.int .i64 r2])∧Kd.S (Kd.slice 3 (Kd.int .i64)) 31 w' w.heap.size (fun _=>True) v0_ r1∧Below w.heap.size w w':=by
 have hu33:=Tryd.underlying33;have hu24:=Tryd.underlying24;have HR0_0:=wA.mk hr0_0;have HC0_0:=wA.mk hc0_0;clear hr0_0 hc0_0;have HR0_1:=wA.mk hr0_1;have HC0_1:=wA.mk hc0_1;clear hr0_1 hc0_1;have HB:=wA.mk (Below.refl w.heap.size w);have H:((U5.f k l0_0 l0_1).bind fun t155=>(if t155 = 0 then ((U26.f a1 (-1000) 1000).bind fun t156=>(if t156 = true then ((U26.f a2 0 2000).bind fun t157=>(if t157 = true then (if a3 < 1 then (U19.j0 k a1 a2 a3 a4 true l0_0 l0_1) else (if a3 > a4 then (U19.j0 k a1 a2 a3 a4 true l0_0 l0_1) else (U19.j0 k a1 a2 a3 a4 (decide (a4 > 999)) l0_0 l0_1))) else (U19.j0 k a1 a2 a3 a4 true l0_0 l0_1))) else (U19.j0 k a1 a2 a3 a4 true l0_0 l0_1))) else (some (([]:List (List Int)),t155)))) = some (r1,r2):=h;clear h;replace H:=zzb H;obtain ⟨t155,A6,H⟩:=H;replace H:=zzj H;rcases H with ⟨c7,H⟩|⟨c7,H⟩
 ·have c7b0:=beq_iff_eq.mpr c7;have c7b1:=bne_eq_false_iff_eq.mpr c7;clear c7;have HC8:=wA.mk H;clear H;go_enter Tryd.func21,Tryd.ntmps21
  go_upto_region 4 with (first|((with_reducible refine wK (N:=5) rfl ?_);refine wM ?hg (N:=5) ?hd (cs:=#[.slice A0_0 l0_0.length c0_0,.slice A0_1 l0_1.length c0_1]) (t:=33) ?hr ?_;(case hd=>rfl);(case hg=>rfl);(case hr=>exact zz205);intro gb153 hg w9 hbox hb;have BK153:=wA.mk (hbox);have GW153:=wA.mk ((by rw [hg];exact (wB (zz10)):w.heap.size≤gb153));have GE153:=wA.mk ((by rw [hg];exact (wB (zz10)):w.heap.size≤gb153));replace HB:=wA.mk (wG (zz10) hb);clear hb hbox hg)|((with_reducible refine wK (N:=10) rfl ?_);refine wM ?hg (N:=10) ?hd (cs:=#[.slice none 0 0]) (t:=24) ?hr ?_;(case hd=>rfl);(case hg=>rfl);(case hr=>exact zz205);intro gb154 hg w10 hbox hb;have BK154:=wA.mk (hbox);have GW154:=wA.mk ((by rw [hg];exact (wB (have h0_:=GE153;zz13)):w.heap.size≤gb154));have GE154:=wA.mk ((by rw [hg];exact (wB (have h0_:=GE153;zz13)):w.heap.size≤gb154));replace HB:=wA.mk (wG (have h0_:=GE153;zz13) hb);have NB153_154:=wA.mk ((by rw [hg];exact Nat.ne_of_lt (wJ (g:=gb153) (o:=.cells #[.slice A0_0 l0_0.length c0_0,.slice A0_1 l0_1.length c0_1] 33 (0,0)) (zz66)):gb153 ≠ gb154));have NB154_153:=wA.mk ((by rw [hg];exact Nat.ne_of_gt (wJ (g:=gb153) (o:=.cells #[.slice A0_0 l0_0.length c0_0,.slice A0_1 l0_1.length c0_1] 33 (0,0)) (zz66)):gb154 ≠ gb153));replace BK153:=wA.mk (wC (zz66) hb);clear hb hbox hg;have hnb11:=NB153_154.out;have hnc11:=NB154_153.out;obtain ⟨hcz12_0,hcz12_1,hfz12_0,hfz12_1⟩:=zc2 BK153.out)|((with_reducible refine wH (f:=49) rfl ?_);refine wO (some 18) rfl rfl Tryd.func49 (zz0) rfl #[.agg #[.slice A0_0 l0_0.length c0_0,.slice A0_1 l0_1.length c0_1]] rfl (zz5) ?_;(with_reducible refine (U5.calls k _ _ l0_0 _ _ l0_1 t155 _ ?_ ?_ ?_ ?_ A6.out).mono ?_);exact zz210;exact zz211;exact zz216;exact zz217;rintro e w13 ⟨rfl,hb⟩;refine ⟨_,rfl,?_⟩;replace BK153:=wA.mk (wC (zz66) hb);replace BK154:=wA.mk (wC (zz67) hb);replace HB:=wA.mk (wG (zz68) hb);(try clear hb)))
  (try simp only [Act.put,List.setIfInBounds_toArray,List.set_cons_zero,List.set_cons_succ])
  go_cut [43] (fun v43 wc=>∃ (kq:Nat) (x43_7:Bool),v43 = .bool x43_7∧wA (U19.j0 kq a1 a2 a3 a4 x43_7 l0_0 l0_1 = some (r1,r2))∧wA (kq≤k)∧wA (wc.heap[gb153]? = some (.cells #[(.slice A0_0 l0_0.length c0_0),(.slice A0_1 l0_1.length c0_1)] 33 (0,0)))∧wA (wc.heap[gb154]? = some (.cells #[(.slice none 0 0)] 24 (0,0)))∧wA (Below w.heap.size w wc))
  case first =>
   have H:=HC8.out;clear HC8;replace H:=zzb H;obtain ⟨t156,A14,H⟩:=H;by_cases c15:t156 = true
   ·subst c15;have H1:((U26.f a2 0 2000).bind fun t157=>(if t157 = true then (if a3 < 1 then (U19.j0 k a1 a2 a3 a4 true l0_0 l0_1) else (if a3 > a4 then (U19.j0 k a1 a2 a3 a4 true l0_0 l0_1) else (U19.j0 k a1 a2 a3 a4 (decide (a4 > 999)) l0_0 l0_1))) else (U19.j0 k a1 a2 a3 a4 true l0_0 l0_1))) = some (r1,r2):=zz3;clear H;have H:=H1;clear H1;replace H:=zzb H;obtain ⟨t157,A16,H⟩:=H;by_cases c17:t157 = true
    ·subst c17;have H1:(if a3 < 1 then (U19.j0 k a1 a2 a3 a4 true l0_0 l0_1) else (if a3 > a4 then (U19.j0 k a1 a2 a3 a4 true l0_0 l0_1) else (U19.j0 k a1 a2 a3 a4 (decide (a4 > 999)) l0_0 l0_1))) = some (r1,r2):=zz3;clear H;have H:=H1;clear H1;replace H:=zzj H;rcases H with ⟨c18,H⟩|⟨c18,H⟩
     ·have c18b0:=decide_eq_true c18;clear c18
      (first|rw [c18b0]|rw [c18b1]|(simp only [yL,zM];rw [c18b0])|skip)
      have H':=wA.mk H;clear H
      go_wp2_with (first|((with_reducible refine wH (f:=44) rfl ?_);refine wO (some 24) rfl rfl Tryd.func44 (zz0) rfl #[.int .i64 a1,.int .i64 (-1000),.int .i64 1000] rfl (zz5) ?_;(with_reducible refine (U26.calls a1 (-1000) 1000 true _ A14.out).mono ?_);rintro e w' ⟨rfl,⟨nd,rfl⟩⟩;refine ⟨_,rfl,?_⟩)|(go_at_call 44;(with_reducible refine (U26.calls a2 0 2000 true _ A16.out).mono ?_);rintro e w' ⟨rfl,⟨nd,rfl⟩⟩))
      go_meet
      case rel=>exact ⟨_,(true),(zz1),H',⟨zz11⟩,⟨zz66⟩,⟨zz67⟩,⟨zz68⟩⟩
     ·have c18b0:=decide_eq_false c18;clear c18
      (first|rw [c18b0]|rw [c18b1]|(simp only [yL,zM];rw [c18b0])|skip)
      replace H:=zzj H;rcases H with ⟨c19,H⟩|⟨c19,H⟩
      ·have c19b0:=decide_eq_true c19;clear c19;have H':=wA.mk H;clear H
       go_wp2_with (first|((with_reducible refine wH (f:=44) rfl ?_);refine wO (some 24) rfl rfl Tryd.func44 (zz0) rfl #[.int .i64 a1,.int .i64 (-1000),.int .i64 1000] rfl (zz5) ?_;(with_reducible refine (U26.calls a1 (-1000) 1000 true _ A14.out).mono ?_);rintro e w' ⟨rfl,⟨nd,rfl⟩⟩;refine ⟨_,rfl,?_⟩)|(go_at_call 44;(with_reducible refine (U26.calls a2 0 2000 true _ A16.out).mono ?_);rintro e w' ⟨rfl,⟨nd,rfl⟩⟩))
       go_meet
       case rel=>exact ⟨_,(true),(zz1),H',⟨zz11⟩,⟨zz66⟩,⟨zz67⟩,⟨zz68⟩⟩
      ·have c19b0:=decide_eq_false c19;clear c19;have H':=wA.mk H;clear H
       go_wp2_with (first|((with_reducible refine wH (f:=44) rfl ?_);refine wO (some 24) rfl rfl Tryd.func44 (zz0) rfl #[.int .i64 a1,.int .i64 (-1000),.int .i64 1000] rfl (zz5) ?_;(with_reducible refine (U26.calls a1 (-1000) 1000 true _ A14.out).mono ?_);rintro e w' ⟨rfl,⟨nd,rfl⟩⟩;refine ⟨_,rfl,?_⟩)|(go_at_call 44;(with_reducible refine (U26.calls a2 0 2000 true _ A16.out).mono ?_);rintro e w' ⟨rfl,⟨nd,rfl⟩⟩))
       go_meet
       case rel=>exact ⟨_,(decide (a4 > 999)),(zz1),H',⟨zz11⟩,⟨zz66⟩,⟨zz67⟩,⟨zz68⟩⟩
    ·replace c17:=Bool.eq_false_iff.mpr c17;subst c17;have H1:(U19.j0 k a1 a2 a3 a4 true l0_0 l0_1) = some (r1,r2):=zz7;clear H;have H:=H1;clear H1;have H':=wA.mk H;clear H
     go_wp2_with (first|((with_reducible refine wH (f:=44) rfl ?_);refine wO (some 24) rfl rfl Tryd.func44 (zz0) rfl #[.int .i64 a1,.int .i64 (-1000),.int .i64 1000] rfl (zz5) ?_;(with_reducible refine (U26.calls a1 (-1000) 1000 true _ A14.out).mono ?_);rintro e w' ⟨rfl,⟨nd,rfl⟩⟩;refine ⟨_,rfl,?_⟩)|(go_at_call 44;(with_reducible refine (U26.calls a2 0 2000 false _ A16.out).mono ?_);rintro e w' ⟨rfl,⟨nd,rfl⟩⟩))
     go_meet
     case rel=>exact ⟨_,(true),(zz1),H',⟨zz11⟩,⟨zz66⟩,⟨zz67⟩,⟨zz68⟩⟩
   ·replace c15:=Bool.eq_false_iff.mpr c15;subst c15;have H1:(U19.j0 k a1 a2 a3 a4 true l0_0 l0_1) = some (r1,r2):=zz7;clear H;have H:=H1;clear H1;have H':=wA.mk H;clear H
    go_wp2_with (first|((with_reducible refine wH (f:=44) rfl ?_);refine wO (some 24) rfl rfl Tryd.func44 (zz0) rfl #[.int .i64 a1,.int .i64 (-1000),.int .i64 1000] rfl (zz5) ?_;(with_reducible refine (U26.calls a1 (-1000) 1000 false _ A14.out).mono ?_);rintro e w' ⟨rfl,⟨nd,rfl⟩⟩;refine ⟨_,rfl,?_⟩))
    go_meet
    case rel=>exact ⟨_,(true),(zz1),H',⟨zz11⟩,⟨zz66⟩,⟨zz67⟩,⟨zz68⟩⟩
  case rest =>
   clear HC8;clear c7b0 c7b1;(try clear hcz12_0);(try clear hcz12_1);(try clear hfz12_0);(try clear hfz12_1);obtain ⟨kq,x43_7,rfl,HA,HJ7,BK153,BK154,HB⟩:=hcut
   cases kq with
   | zero=>exact absurd HA.out (by simp [U19.j0])
   | succ kj7 =>
    have H:=HA.out;clear HA;simp only [U19.j0] at H;by_cases c20:x43_7 = true
    ·subst c20;have H1:(some (([]:List (List Int)),3)) = some (r1,r2):=zz3;clear H;have H:=H1;clear H1;simp only [Option.some.injEq,Prod.mk.injEq] at H;obtain ⟨rfl,rfl⟩:=H;have hnb21:=NB154_153.out;have hnc21:=NB153_154.out;obtain ⟨hcz22_0,hfz22_0⟩:=zc1 BK154.out
     go_wp2
     refine bodyPost_ret (wZ rfl _ _ gb154 24 #[.slice none 0 0] (0,0) _ rfl (have h0_:=BK154;zz23) Tryd.underlying24 rfl (zz0)) rfl ?_
     exact ⟨_,zz14,zz24,zz68⟩
    ·replace c20:=Bool.eq_false_iff.mpr c20;subst c20;have H1:(U19.l0 kj7 a1 a2 a3 a4 l0_0 (l0_0.length:Int) 0 ([]:List (List Int))) = some (r1,r2):=zz7;clear H;have H:=H1;clear H1;have H':=wA.mk H;clear H
     go_wp2_with (first|((with_reducible refine wK (N:=13) rfl ?_);refine wM ?hg (N:=13) ?hd (cs:=#[.slice none 0 0]) (t:=24) ?hr ?_;(case hd=>rfl);(case hg=>rfl);(case hr=>exact zz205);intro gb158 hg w23 hbox hb;have BK158:=wA.mk (hbox);have GW158:=wA.mk ((by rw [hg];exact (wB (zz68)):w.heap.size≤gb158));have GE158:=wA.mk ((by rw [hg];exact (wB (zz68)):w.heap.size≤gb158));replace HB:=wA.mk (wG (zz68) hb);have NB153_158:=wA.mk ((by rw [hg];exact Nat.ne_of_lt (wJ (g:=gb153) (o:=.cells #[.slice A0_0 l0_0.length c0_0,.slice A0_1 l0_1.length c0_1] 33 (0,0)) (zz66)):gb153 ≠ gb158));have NB158_153:=wA.mk ((by rw [hg];exact Nat.ne_of_gt (wJ (g:=gb153) (o:=.cells #[.slice A0_0 l0_0.length c0_0,.slice A0_1 l0_1.length c0_1] 33 (0,0)) (zz66)):gb158 ≠ gb153));replace BK153:=wA.mk (wC (zz66) hb);have NB154_158:=wA.mk ((by rw [hg];exact Nat.ne_of_lt (wJ (g:=gb154) (o:=.cells #[.slice none 0 0] 24 (0,0)) (zz67)):gb154 ≠ gb158));have NB158_154:=wA.mk ((by rw [hg];exact Nat.ne_of_gt (wJ (g:=gb154) (o:=.cells #[.slice none 0 0] 24 (0,0)) (zz67)):gb158 ≠ gb154));replace BK154:=wA.mk (wC (zz67) hb);clear hb hbox hg;have hnb24:=NB153_154.out;have hnc24:=NB154_153.out;have hnb25:=NB153_158.out;have hnc25:=NB158_153.out;obtain ⟨hcz26_0,hcz26_1,hfz26_0,hfz26_1⟩:=zc2 BK153.out))
     go_loopg [48] kj7 (fun kq v48 w'=>∃ (x48_2:Int) (x159000_2:List (List Int)) (u159000:Value),v48 = .int .i64 x48_2∧wA (U19.l0 kq a1 a2 a3 a4 l0_0 (l0_0.length:Int) x48_2 x159000_2 = some (r1,r2))∧wA (kq≤kj7)∧wA (Kd.S (Kd.slice 3 (Kd.int .i64)) 31 w' w.heap.size (fun _=>True) u159000 x159000_2)∧wA (w'.heap[gb153]? = some (.cells #[(.slice A0_0 l0_0.length c0_0),(.slice A0_1 l0_1.length c0_1)] 33 (0,0)))∧wA (w'.heap[gb154]? = some (.cells #[(.slice none 0 0)] 24 (0,0)))∧wA (w'.heap[gb158]? = some (.cells #[u159000] 24 (0,0)))∧wA (Below w.heap.size w w'))
     case atStart=>exact ⟨(0),(([]:List (List Int))),(.slice none 0 0),(zz1),H',⟨Nat.le_refl _⟩,⟨zz24⟩,⟨zz66⟩,⟨zz67⟩,⟨(have h0_:=BK158;zz12)⟩,⟨zz69⟩⟩
     case round =>
      clear H'
      (try clear c20);(try clear hcz12_0);(try clear hcz12_1);(try clear hcz26_0);(try clear hcz26_1);(try clear hfz12_0);(try clear hfz12_1);(try clear hfz26_0);(try clear hfz26_1)
      obtain ⟨x48_2,x159000_2,u159000,rfl,HA,HK2,HO_159000,BK153,BK154,BK158,HB⟩:=hrel
      cases gk with
      | zero=>exact absurd HA.out (by simp [U19.l0])
      | succ k2 =>
       have H:=HA.out;clear HA;simp only [U19.l0] at H;replace H:=zzj H;rcases H with ⟨c27,H⟩|⟨c27,H⟩
       ·have c27b0:=decide_eq_true c27;clear c27;replace H:=zzi H;obtain ⟨c28,H⟩:=H;have c28b0:=decide_eq_true c28;clear c28;replace H:=zzi H;obtain ⟨c29,H⟩:=H;have c29b0:=decide_eq_true c29;clear c29;replace H:=zzb H;obtain ⟨t160,A30,H⟩:=H;obtain ⟨ji31,hji31⟩:∃ j_:Int,(mx t160 a3) = j_:=⟨_,rfl⟩;replace H:(if x159000_2.length < 5864062014805 then (U19.l0 k2 a1 a2 a3 a4 l0_0 (l0_0.length:Int) (wrap64 (x48_2+1)) (x159000_2++[(([wrap64 (1000 - (mn (ji31) a4)),mn (ji31) a4]:List Int))])) else (none)) = some (r1,r2):=(have h0_:=hji31;zz19)
        (try rw [hji31] at A30)
        have hji31_:(if t160 < a3 then a3 else t160) = ji31:=hji31
        (try (have hji31N:=hji31_;simp only [Int.ofNat_lt] at hji31N))
        obtain ⟨ji32,hji32⟩:∃ j_:Int,(mn (ji31) a4) = j_:=⟨_,rfl⟩;replace H:(if x159000_2.length < 5864062014805 then (U19.l0 k2 a1 a2 a3 a4 l0_0 (l0_0.length:Int) (wrap64 (x48_2+1)) (x159000_2++[(([wrap64 (1000 - (ji32)),ji32]:List Int))])) else (none)) = some (r1,r2):=(have h0_:=hji32;zz19)
        (try rw [hji32] at A30)
        have hji32_:(if a4 < (ji31) then a4 else (ji31)) = ji32:=hji32
        (try (have hji32N:=hji32_;simp only [Int.ofNat_lt] at hji32N))
        obtain ⟨y161,hy161⟩:∃ y_:List Int,y_ = (([wrap64 (1000 - (ji32)),ji32]:List Int)):=⟨_,rfl⟩;replace H:(if x159000_2.length < 5864062014805 then (U19.l0 k2 a1 a2 a3 a4 l0_0 (l0_0.length:Int) (wrap64 (x48_2+1)) (x159000_2++[y161])) else (none)) = some (r1,r2):=(have h0_:=hy161;zz16);have Ny161:=wA.mk hy161;clear hy161;replace H:=zzi H;obtain ⟨c33,H⟩:=H;have LMc33:=wA.mk c33;clear c33;obtain ⟨y164,hy164⟩:∃ y_:List (List Int),y_ = (x159000_2++[y161]):=⟨_,rfl⟩;replace H:(U19.l0 k2 a1 a2 a3 a4 l0_0 (l0_0.length:Int) (wrap64 (x48_2+1)) y164) = some (r1,r2):=(have h0_:=hy164;zz16);have Ny164:=wA.mk hy164;clear hy164;have H':=wA.mk H;clear H;have p159:0≤(x48_2:Int):=of_decide_eq_true (zz4);have q159:x48_2 < (l0_0.length:Int):=of_decide_eq_true (zz4);obtain ⟨ad159,e159,hx159_0⟩:=Kd.at_int HR0_0.out x48_2 p159 q159
        cases e159
        replace hx159_0:=(HB.out.cell (World.block_lt_of_cell? w _ hx159_0)).trans hx159_0;replace p159:=eq_true p159;replace q159:=eq_true q159
        go_wp2_with (first|((with_reducible refine wH (f:=50) rfl ?_);refine wO (some 55) rfl rfl Tryd.func50 (zz0) rfl #[.int .i64 (rd l0_0 x48_2),.int .i64 a1,.int .i64 a2] rfl (zz5) ?_;(with_reducible refine (U22.calls (rd l0_0 x48_2) a1 a2 t160 _ A30.out).mono ?_);rintro e w' ⟨rfl,⟨nd,rfl⟩⟩;refine ⟨_,rfl,?_⟩;(try (rw [zA wr];generalize hq_:World.drewN wr _ = wr;have n0_:wA (Kd.S (Kd.slice 3 (Kd.int .i64)) 31 wr w.heap.size (fun _=>True) u159000 x159000_2):=⟨by rw [← hq_];exact (have h0_:=HO_159000;zz26)⟩;have n1_:wA (wr.heap[gb153]? = some (.cells #[.slice (some ad159) l0_0.length c0_0,.slice A0_1 l0_1.length c0_1] 33 (0,0))):=⟨(have h0_:=BK153;zz56)⟩;have n2_:wA (wr.heap[gb154]? = some (.cells #[.slice none 0 0] 24 (0,0))):=⟨(have h0_:=BK154;zz56)⟩;have n3_:wA (wr.heap[gb158]? = some (.cells #[u159000] 24 (0,0))):=⟨(have h0_:=BK158;zz56)⟩;have n4_:wA (Below w.heap.size w wr):=⟨by rw [← hq_];exact (zz69)⟩;clear HO_159000 BK153 BK154 BK158 HB hq_;have HO_159000:=n0_;have BK153:=n1_;have BK154:=n2_;have BK158:=n3_;have HB:=n4_;clear n0_ n1_ n2_ n3_ n4_;obtain ⟨hczugb153_0,hczugb153_1,hfzugb153_0,hfzugb153_1⟩:=zc2 BK153.out;obtain ⟨hczugb154_0,hfzugb154_0⟩:=zc1 BK154.out;obtain ⟨hczugb158_0,hfzugb158_0⟩:=zc1 BK158.out));have hnb34:=NB158_153.out;have hnc34:=NB153_158.out;have hnb35:=NB158_154.out;have hnc35:=NB154_158.out;obtain ⟨hcz36_0,hfz36_0⟩:=zc1 BK158.out)|((with_reducible refine wK (N:=65) rfl ?_);refine Kd.R_lit (Kd.int .i64) _ 3 ?hg (N:=65) ?hd (xs:=([wrap64 (1000 - (ji32)),ji32]:List Int)) (inner:=[.int .i64 (wrap64 (1000 - (ji32))),.int .i64 ji32]) (ok:=fun _=>True) (okp:=fun _=>True) ?hr ?hp (fun _ hk=>hk) trivial (Below.refl _ _) (Nat.le_refl _) (zz8) ?_;(case hd=>rfl);(case hg=>rfl);(case hr=>exact zz205);(case hp=>exact (wV.one (show Kd.M (Kd.int .i64) _ _ _ (wrap64 (1000 - (ji32))) [.int .i64 (wrap64 (1000 - (ji32)))] from rfl) (wV.one (show Kd.M (Kd.int .i64) _ _ _ ji32 [.int .i64 ji32] from rfl) (wV.none _ _))));intro v162 w37 ho38 hb hg_ hnew_;clear hg_ hnew_;(first|rw [← Ny161.out] at ho38|(simp only [Int.reduceToNat] at ho38;rw [← Ny161.out] at ho38));replace HO_159000:=wA.mk (Kd.S_elder' (have h0_:=HO_159000;zz26) (Kd.R_base ho38) hb);have HO163:=wA.mk (Kd.R_lower ho38 (wB (zz69)));replace BK153:=wA.mk (wC (zz66) hb);replace BK154:=wA.mk (wC (zz67) hb);replace BK158:=wA.mk (wC (have h0_:=BK158;zz12) hb);replace HB:=wA.mk (wG (zz69) hb);clear hb ho38;obtain ⟨Ao40,co40,eo40⟩:=Kd.R_slice HO163.out;subst eo40)|((with_reducible refine yT (b:=.append) (xs:=#[.tmp 61,.tmp 66]) rfl ?_);at_builtin;refine Kd.S_append (Kd.slice 3 (Kd.int .i64)) (w0:=w) w.heap.size rfl (.tmp 61) (.tmp 66) 22 31 (.slice none 0 0) 24 rfl Tryd.underlying22 info31 rfl (zz17) (zz15) u159000 x159000_2 y161 [.slice Ao40 y161.length co40] (fun _=>True) (fun k_=>some k_ = (.slice Ao40 y161.length co40:Value).ownBlock) rfl rfl ?aP (fun k_ hk_=>((Kd.R_mono (ok':=fun k_=>((fun _=>True)) k_∧some k_ ≠ (u159000:Value).ownBlock) (Kd.R_apart' (HO163.out) (Kd.S_typed HO_159000.out) (zz17)) (fun k_ hk=>⟨trivial,hk.2⟩))).1 k_ hk_.symm) ?aF ?aO ?aB ?aS ?aL ?_;(case aP=>exact Kd.M_row (Kd.R_mono (Kd.R_tight rfl (Kd.R_mono (ok':=fun k_=>((fun _=>True)) k_∧some k_ ≠ (u159000:Value).ownBlock) (Kd.R_apart' (HO163.out) (Kd.S_typed HO_159000.out) (zz17)) (fun k_ hk=>⟨trivial,hk.2⟩))) (fun _ h_=>h_)));(case aB=>exact (zz69));(case aF=>exact zz207);(case aO=>exact (have h0_:=HO_159000;zz70));(case aS=>exact (wB (zz69)));(case aL=>have:=LMc33.out;omega);intro v165 w39 ho hb hg hat;rw [← Ny164.out] at ho;replace BK153:=wA.mk (yR (g:=gb153) (o:=.cells #[.slice (some ad159) l0_0.length c0_0,.slice A0_1 l0_1.length c0_1] 33 (0,0)) (zz66) hg (Kd.S_ne HO_159000.out BK153.out (zz17)));replace BK154:=wA.mk (yR (g:=gb154) (o:=.cells #[.slice none 0 0] 24 (0,0)) (zz67) hg (Kd.S_ne HO_159000.out BK154.out (zz17)));replace BK158:=wA.mk (yR (g:=gb158) (o:=.cells #[u159000] 24 (0,0)) (have h0_:=BK158;zz12) hg (Kd.S_ne HO_159000.out BK158.out (zz17)));replace HB:=wA.mk (hb);have HO166:=wA.mk (ho);clear HO_159000 HO163;clear ho hb hg hat;obtain ⟨Ao41,co41,eo41⟩:=Kd.S_slice HO166.out;subst eo41;obtain ⟨hcz42_0,hfz42_0⟩:=zc1 BK158.out))
        go_roundg k2
        case measure=>have:=HJ7.out;have:=HK2.out;omega
        case rel=>exact ⟨(wrap64 (x48_2+1)),(y164),(.slice Ao41 y164.length co41),(zz1),H',⟨by have:=HJ7.out;have:=HK2.out;omega⟩,⟨by (with_reducible repeat (first|apply Kd.S_alloc|apply Kd.S_drewN|apply Kd.S_drew));exact Kd.S_mono (Kd.S_far (p:=⟨gb158,0,none⟩) (Kd.S_types HO166.out BK158.out (zz17)) (fun _ hk=>hk.2) (.slice Ao41 y164.length co41)) (fun _ hk=>trivial)⟩,⟨by (with_reducible repeat (first|refine wE ?_ _|refine wF ?_|refine wD ?_ _));refine wN ?_ NB153_158.out _;(with_reducible repeat (first|refine wE ?_ _|refine wF ?_|refine wD ?_ _));exact BK153.out⟩,⟨by (with_reducible repeat (first|refine wE ?_ _|refine wF ?_|refine wD ?_ _));refine wN ?_ NB154_158.out _;(with_reducible repeat (first|refine wE ?_ _|refine wF ?_|refine wD ?_ _));exact BK154.out⟩,⟨by (with_reducible repeat (first|refine wE ?_ _|refine wF ?_|refine wD ?_ _));refine wP (cs:=#[u159000]) ?_ 0 _ rfl;(with_reducible repeat (first|refine wE ?_ _|refine wF ?_|refine wD ?_ _));exact BK158.out⟩,⟨zz69⟩⟩
       ·have c27b0:=decide_eq_false c27;clear c27;simp only [Option.some.injEq,Prod.mk.injEq] at H;obtain ⟨rfl,rfl⟩:=H;have hnb43:=NB158_153.out;have hnc43:=NB153_158.out;have hnb44:=NB158_154.out;have hnc44:=NB154_158.out;obtain ⟨hcz45_0,hfz45_0⟩:=zc1 BK158.out;obtain ⟨Ao46,co46,eo46⟩:=Kd.S_slice HO_159000.out;subst eo46;have hnb47:=NB154_153.out;have hnc47:=NB153_154.out;obtain ⟨hcz48_0,hfz48_0⟩:=zc1 BK154.out
        go_wp2
        refine bodyPost_ret (wZ rfl _ _ gb154 24 #[.slice Ao46 x159000_2.length co46] (0,0) _ rfl (have h0_:=BK154;zz23) Tryd.underlying24 rfl (zz0)) rfl ?_
        exact ⟨_,zz14,by (with_reducible repeat (first|apply Kd.S_alloc|apply Kd.S_drewN|apply Kd.S_drew));exact Kd.S_mono (Kd.S_far (p:=⟨gb154,0,none⟩) (Kd.S_types HO_159000.out BK154.out (zz17)) (fun _ hk=>hk.2) (.slice Ao46 x159000_2.length co46)) (fun _ hk=>trivial),zz69⟩
 ·have c7b0:=beq_eq_false_iff_ne.mpr c7;have c7b1:=bne_iff_ne.mpr c7;simp only [Option.some.injEq,Prod.mk.injEq] at H;obtain ⟨rfl,rfl⟩:=H;go_enter Tryd.func21,Tryd.ntmps21
  go_wp2_with (first|((with_reducible refine wK (N:=5) rfl ?_);refine wM ?hg (N:=5) ?hd (cs:=#[.slice A0_0 l0_0.length c0_0,.slice A0_1 l0_1.length c0_1]) (t:=33) ?hr ?_;(case hd=>rfl);(case hg=>rfl);(case hr=>exact zz205);intro gb153 hg w49 hbox hb;have BK153:=wA.mk (hbox);have GW153:=wA.mk ((by rw [hg];exact (wB (zz10)):w.heap.size≤gb153));have GE153:=wA.mk ((by rw [hg];exact (wB (zz10)):w.heap.size≤gb153));replace HB:=wA.mk (wG (zz10) hb);clear hb hbox hg)|((with_reducible refine wK (N:=10) rfl ?_);refine wM ?hg (N:=10) ?hd (cs:=#[.slice none 0 0]) (t:=24) ?hr ?_;(case hd=>rfl);(case hg=>rfl);(case hr=>exact zz205);intro gb154 hg w50 hbox hb;have BK154:=wA.mk (hbox);have GW154:=wA.mk ((by rw [hg];exact (wB (have h0_:=GE153;zz13)):w.heap.size≤gb154));have GE154:=wA.mk ((by rw [hg];exact (wB (have h0_:=GE153;zz13)):w.heap.size≤gb154));replace HB:=wA.mk (wG (have h0_:=GE153;zz13) hb);have NB153_154:=wA.mk ((by rw [hg];exact Nat.ne_of_lt (wJ (g:=gb153) (o:=.cells #[.slice A0_0 l0_0.length c0_0,.slice A0_1 l0_1.length c0_1] 33 (0,0)) (zz66)):gb153 ≠ gb154));have NB154_153:=wA.mk ((by rw [hg];exact Nat.ne_of_gt (wJ (g:=gb153) (o:=.cells #[.slice A0_0 l0_0.length c0_0,.slice A0_1 l0_1.length c0_1] 33 (0,0)) (zz66)):gb154 ≠ gb153));replace BK153:=wA.mk (wC (zz66) hb);clear hb hbox hg;have hnb51:=NB153_154.out;have hnc51:=NB154_153.out;obtain ⟨hcz52_0,hcz52_1,hfz52_0,hfz52_1⟩:=zc2 BK153.out)|((with_reducible refine wH (f:=49) rfl ?_);refine wO (some 18) rfl rfl Tryd.func49 (zz0) rfl #[.agg #[.slice A0_0 l0_0.length c0_0,.slice A0_1 l0_1.length c0_1]] rfl (zz5) ?_;(with_reducible refine (U5.calls k _ _ l0_0 _ _ l0_1 t155 _ ?_ ?_ ?_ ?_ A6.out).mono ?_);exact zz210;exact zz211;exact zz216;exact zz217;rintro e w53 ⟨rfl,hb⟩;refine ⟨_,rfl,?_⟩;replace BK153:=wA.mk (wC (zz66) hb);replace BK154:=wA.mk (wC (zz67) hb);replace HB:=wA.mk (wG (zz68) hb);(try clear hb);obtain ⟨hcz54_0,hfz54_0⟩:=zc1 BK154.out))
  refine bodyPost_ret (wZ rfl _ _ gb154 24 #[.slice none 0 0] (0,0) _ rfl (have h0_:=BK154;zz23) Tryd.underlying24 rfl (zz0)) rfl ?_
  exact ⟨_,zz14,zz24,zz68⟩
mutual
def U4.l0:Nat→Int→List (List Int)→List (List Int)→Option (Bool)
 | 0,_,_,_=>none
 | k+1,x5,x168000,x169000=>if x5 < (x168000.length:Int) then (if 0≤x5 then (if x5 < (x169000.length:Int) then (if ((rd_L1 x168000 x5).length:Int) = ((rd_L1 x169000 x5).length:Int) then (U4.l1 k x5 0 x168000 x169000) else (some false)) else (none)) else (none)) else (some true)
def U4.l1:Nat→Int→Int→List (List Int)→List (List Int)→Option (Bool)
 | 0,_,_,_,_=>none
 | k+1,x5,x6,x168000,x169000=>if 0≤x5 then (if x5 < (x168000.length:Int) then (if x6 < ((rd_L1 x168000 x5).length:Int) then (if 0≤x6 then (if x5 < (x169000.length:Int) then (if x6 < ((rd_L1 x169000 x5).length:Int) then (if (rd (rd_L1 x168000 x5) x6) = (rd (rd_L1 x169000 x5) x6) then (U4.l1 k x5 (wrap64 (x6+1)) x168000 x169000) else (some false)) else (none)) else (none)) else (none)) else (U4.l0 k (wrap64 (x5+1)) x168000 x169000)) else (none)) else (none)
end
def U4.f (k:Nat) (l0_0:List (List Int)) (l1_0:List (List Int)):Option (Bool):=if (l0_0.length:Int) = (l1_0.length:Int) then (U4.l0 k 0 l0_0 l1_0) else (some false)
theorem zm9_1 {P:Prop} (h:P:=by repeat' first|(with_reducible first|exact ih0 ..|exact ih1 ..|exact LeO.refl _|exact LeO.none _|refine LeO.ite ?_ ?_|refine LeO.bind ?_ (fun _=>?_))|exact ih0 ..|exact ih1 ..|exact LeO.none _|refine LeO.ite ?_ ?_|refine LeO.bind ?_ (fun _=>?_)):P:=h
theorem U4.mono_l:∀ k,(∀ y0 y1 y2,LeO (U4.l0 k y0 y1 y2) (U4.l0 (k+1) y0 y1 y2))∧(∀ y0 y1 y2 y3,LeO (U4.l1 k y0 y1 y2 y3) (U4.l1 (k+1) y0 y1 y2 y3))
 | 0=>⟨fun _ _ _ r h=>by simp [U4.l0] at h,fun _ _ _ _ r h=>by simp [U4.l1] at h⟩
 | k+1=>by
  obtain ⟨ih0,ih1⟩:=U4.mono_l k;refine ⟨?_,?_⟩
  ·intro y0 y1 y2;unfold U4.l0
   exact zm9_1
  ·intro y0 y1 y2 y3;unfold U4.l1
   exact zm9_1
theorem U4.mono:∀ a0 a1 k,LeO (U4.f k a0 a1) (U4.f (k+1) a0 a1):=by
 intro a0 a1 k;obtain ⟨ih0,ih1⟩:=U4.mono_l k;unfold U4.f
 exact zm9_1
set_option maxHeartbeats 8000000 in
set_option maxRecDepth 100000 in
theorem U4.calls (k:Nat) (A0_0:Option Addr) (c0_0:Nat) (l0_0:List (List Int)) (A1_0:Option Addr) (c1_0:Nat) (l1_0:List (List Int)) (r:Bool) (w:World) (hr0_0:Kd.C (Kd.slice 3 (Kd.int .i64)) w A0_0 l0_0.length l0_0) (hc0_0:l0_0.length≤c0_0) (hr1_0:Kd.C (Kd.slice 3 (Kd.int .i64)) w A1_0 l1_0.length l1_0) (hc1_0:l1_0.length≤c1_0) (h:U4.f k l0_0 l1_0 = some r) :
  Calls Tryd.prog 23 #[.agg #[.slice A0_0 l0_0.length c0_0],.agg #[.slice A1_0 l1_0.length c1_0]] w fun e w'=>e = .returned (.bool r)∧Below w.heap.size w w':=by
 have hu24:=Tryd.underlying24;have HR0_0:=wA.mk hr0_0;have HC0_0:=wA.mk hc0_0;clear hr0_0 hc0_0;have HR1_0:=wA.mk hr1_0;have HC1_0:=wA.mk hc1_0;clear hr1_0 hc1_0;have HB:=wA.mk (Below.refl w.heap.size w);have H:(if (l0_0.length:Int) = (l1_0.length:Int) then (U4.l0 k 0 l0_0 l1_0) else (some false)) = some r:=h;clear h;replace H:=zzj H;rcases H with ⟨c3,H⟩|⟨c3,H⟩
 ·have c3b0:=beq_iff_eq.mpr c3;have c3b1:=bne_eq_false_iff_eq.mpr c3;have c3b2:(l0_0.length == l1_0.length) = true:=(have h0_:=c3;zz34);clear c3;have H':=wA.mk H;clear H;go_enter Tryd.func23,Tryd.ntmps23
  go_wp2_with (first|((with_reducible refine wK (N:=2) rfl ?_);refine wM ?hg (N:=2) ?hd (cs:=#[.slice A0_0 l0_0.length c0_0]) (t:=24) ?hr ?_;(case hd=>rfl);(case hg=>rfl);(case hr=>exact zz205);intro gb167 hg w4 hbox hb;have BK167:=wA.mk (hbox);have GW167:=wA.mk ((by rw [hg];exact (wB (zz10)):w.heap.size≤gb167));have GE167:=wA.mk ((by rw [hg];exact (wB (zz10)):w.heap.size≤gb167));replace HB:=wA.mk (wG (zz10) hb);clear hb hbox hg)|((with_reducible refine wK (N:=3) rfl ?_);refine wM ?hg (N:=3) ?hd (cs:=#[.slice A1_0 l1_0.length c1_0]) (t:=24) ?hr ?_;(case hd=>rfl);(case hg=>rfl);(case hr=>exact zz205);intro gb168 hg w5 hbox hb;have BK168:=wA.mk (hbox);have GW168:=wA.mk ((by rw [hg];exact (wB (have h0_:=GE167;zz13)):w.heap.size≤gb168));have GE168:=wA.mk ((by rw [hg];exact (wB (have h0_:=GE167;zz13)):w.heap.size≤gb168));replace HB:=wA.mk (wG (have h0_:=GE167;zz13) hb);have NB167_168:=wA.mk ((by rw [hg];exact Nat.ne_of_lt (wJ (g:=gb167) (o:=.cells #[.slice A0_0 l0_0.length c0_0] 24 (0,0)) (have h0_:=BK167;zz12)):gb167 ≠ gb168));have NB168_167:=wA.mk ((by rw [hg];exact Nat.ne_of_gt (wJ (g:=gb167) (o:=.cells #[.slice A0_0 l0_0.length c0_0] 24 (0,0)) (have h0_:=BK167;zz12)):gb168 ≠ gb167));replace BK167:=wA.mk (wC (have h0_:=BK167;zz12) hb);clear hb hbox hg;have hnb6:=NB167_168.out;have hnc6:=NB168_167.out;obtain ⟨hcz7_0,hfz7_0⟩:=zc1 BK167.out;obtain ⟨hcz8_0,hfz8_0⟩:=zc1 BK168.out))
  go_loopg [5] k (fun kq v5 w'=>∃ (x5_1:Int),v5 = .int .i64 x5_1∧wA (U4.l0 kq x5_1 l0_0 l1_0 = some r)∧wA (kq≤k)∧wA (w'.heap[gb167]? = some (.cells #[(.slice A0_0 l0_0.length c0_0)] 24 (0,0)))∧wA (w'.heap[gb168]? = some (.cells #[(.slice A1_0 l1_0.length c1_0)] 24 (0,0)))∧wA (Below w.heap.size w w'))
  case atStart=>exact ⟨(0),(zz1),H',⟨Nat.le_refl _⟩,⟨(have h0_:=BK167;zz12)⟩,⟨(have h0_:=BK168;zz12)⟩,⟨(have h0_:=GE167;have h1_:=GE168;zz51)⟩⟩
  case round =>
   clear H'
   clear c3b0 c3b1 c3b2;(try clear hcz7_0);(try clear hcz8_0);(try clear hfz7_0);(try clear hfz8_0)
   obtain ⟨x5_1,rfl,HA,HK1,BK167,BK168,HB⟩:=hrel
   cases gk with
   | zero=>exact absurd HA.out (by simp [U4.l0])
   | succ k1 =>
    have H:=HA.out;clear HA;simp only [U4.l0] at H;replace H:=zzj H;rcases H with ⟨c9,H⟩|⟨c9,H⟩
    ·have c9b0:=decide_eq_true c9;clear c9;replace H:=zzi H;obtain ⟨c10,H⟩:=H;have c10b0:=decide_eq_true c10;clear c10;replace H:=zzi H;obtain ⟨c11,H⟩:=H;have c11b0:=decide_eq_true c11;clear c11;replace H:=zzj H;rcases H with ⟨c12,H⟩|⟨c12,H⟩
     ·have c12b0:=beq_iff_eq.mpr c12;have c12b1:=bne_eq_false_iff_eq.mpr c12;have c12b2:((rd_L1 l0_0 x5_1).length == (rd_L1 l1_0 x5_1).length) = true:=(have h0_:=c12;zz34);clear c12;have H':=wA.mk H;clear H;have hnb13:=NB167_168.out;have hnc13:=NB168_167.out;obtain ⟨hcz14_0,hfz14_0⟩:=zc1 BK167.out;have p169:0≤(x5_1:Int):=of_decide_eq_true (zz4);have q169:x5_1 < (l0_0.length:Int):=of_decide_eq_true (zz4);obtain ⟨ad169,A169_0,c169_0,e169,hx169_0,hl169_0,hi169_0⟩:=at_L1 HR0_0.out x5_1 p169 q169
      cases e169
      replace hx169_0:=(HB.out.cell (World.block_lt_of_cell? w _ hx169_0)).trans hx169_0;have HR169_0:=wA.mk hi169_0;have HC169_0:=wA.mk hl169_0;clear hi169_0 hl169_0;replace p169:=eq_true p169;replace q169:=eq_true q169;obtain ⟨hcz15_0,hfz15_0⟩:=zc1 BK168.out;have p170:0≤(x5_1:Int):=of_decide_eq_true (zz4);have q170:x5_1 < (l1_0.length:Int):=of_decide_eq_true (zz4);obtain ⟨ad170,A170_0,c170_0,e170,hx170_0,hl170_0,hi170_0⟩:=at_L1 HR1_0.out x5_1 p170 q170
      cases e170
      replace hx170_0:=(HB.out.cell (World.block_lt_of_cell? w _ hx170_0)).trans hx170_0;have HR170_0:=wA.mk hi170_0;have HC170_0:=wA.mk hl170_0;clear hi170_0 hl170_0;replace p170:=eq_true p170;replace q170:=eq_true q170
      go_wp2
      repeat (go_quiet (fail);try go_wp2)
      go_loopg [6] k1 (fun kq v6 w'=>∃ (x6_2:Int),v6 = .int .i64 x6_2∧wA (U4.l1 kq x5_1 x6_2 l0_0 l1_0 = some r)∧wA (kq≤k1)∧wA (w'.heap[gb167]? = some (.cells #[(.slice (some ad169) l0_0.length c0_0)] 24 (0,0)))∧wA (w'.heap[gb168]? = some (.cells #[(.slice (some ad170) l1_0.length c1_0)] 24 (0,0)))∧wA (Below w.heap.size w w'))
      case atStart=>exact ⟨(0),(zz1),H',⟨Nat.le_refl _⟩,⟨(have h0_:=BK167;zz12)⟩,⟨(have h0_:=BK168;zz12)⟩,⟨(have h0_:=GE167;have h1_:=GE168;zz51)⟩⟩
      case round =>
       clear H'
       clear c9b0 c10b0 c11b0 c12b0 c12b1 c12b2 p169 p170 q169 q170;(try clear hcz14_0);(try clear hcz15_0);(try clear hcz7_0);(try clear hcz8_0);(try clear hfz14_0);(try clear hfz15_0);(try clear hfz7_0);(try clear hfz8_0);(try clear hx169_0);(try clear hx170_0)
       obtain ⟨x6_2,rfl,HA,HK2,BK167,BK168,HB⟩:=hrel
       cases gk with
       | zero=>exact absurd HA.out (by simp [U4.l1])
       | succ k2 =>
        have H:=HA.out;clear HA;simp only [U4.l1] at H;replace H:=zzi H;obtain ⟨c16,H⟩:=H;have c16b0:=decide_eq_true c16;clear c16;replace H:=zzi H;obtain ⟨c17,H⟩:=H;have c17b0:=decide_eq_true c17;clear c17;replace H:=zzj H;rcases H with ⟨c18,H⟩|⟨c18,H⟩
        ·have c18b0:=decide_eq_true c18;clear c18;replace H:=zzi H;obtain ⟨c19,H⟩:=H;have c19b0:=decide_eq_true c19;clear c19;replace H:=zzi H;obtain ⟨c20,H⟩:=H;have c20b0:=decide_eq_true c20;clear c20;replace H:=zzi H;obtain ⟨c21,H⟩:=H;have c21b0:=decide_eq_true c21;clear c21;replace H:=zzj H;rcases H with ⟨c22,H⟩|⟨c22,H⟩
         ·have c22b0:=beq_iff_eq.mpr c22;have c22b1:=bne_eq_false_iff_eq.mpr c22;clear c22;have H':=wA.mk H;clear H;have hnb23:=NB167_168.out;have hnc23:=NB168_167.out;obtain ⟨hcz24_0,hfz24_0⟩:=zc1 BK167.out;have p171:0≤(x5_1:Int):=of_decide_eq_true (zz4);have q171:x5_1 < (l0_0.length:Int):=of_decide_eq_true (zz4);obtain ⟨ad171,A171_0,c171_0,e171,hx171_0,hl171_0,hi171_0⟩:=at_L1 HR0_0.out x5_1 p171 q171;obtain rfl:ad169 = ad171:=(by injection e171);replace hx171_0:=(HB.out.cell (World.block_lt_of_cell? w _ hx171_0)).trans hx171_0;have HR171_0:=wA.mk hi171_0;have HC171_0:=wA.mk hl171_0;clear hi171_0 hl171_0;replace p171:=eq_true p171;replace q171:=eq_true q171;have p172:0≤(x5_1:Int):=of_decide_eq_true (zz4);have q172:x5_1 < (l0_0.length:Int):=of_decide_eq_true (zz4);obtain ⟨ad172,A172_0,c172_0,e172,hx172_0,hl172_0,hi172_0⟩:=at_L1 HR0_0.out x5_1 p172 q172;obtain rfl:ad169 = ad172:=(by injection e172);replace hx172_0:=(HB.out.cell (World.block_lt_of_cell? w _ hx172_0)).trans hx172_0;have HR172_0:=wA.mk hi172_0;have HC172_0:=wA.mk hl172_0;clear hi172_0 hl172_0;replace p172:=eq_true p172;replace q172:=eq_true q172;have ea_:=Option.some.inj (hx171_0.symm.trans hx172_0)
          injection ea_ with ea_ en_ ec_
          subst ea_;subst ec_;clear en_;have p173:0≤(x6_2:Int):=of_decide_eq_true (zz4);have q173:x6_2 < ((rd_L1 l0_0 x5_1).length:Int):=of_decide_eq_true (zz4);obtain ⟨ad173,e173,hx173_0⟩:=Kd.at_int HR172_0.out x6_2 p173 q173
          cases e173
          replace hx173_0:=(HB.out.cell (World.block_lt_of_cell? w _ hx173_0)).trans hx173_0;replace p173:=eq_true p173;replace q173:=eq_true q173;obtain ⟨hcz25_0,hfz25_0⟩:=zc1 BK168.out;have p174:0≤(x5_1:Int):=of_decide_eq_true (zz4);have q174:x5_1 < (l1_0.length:Int):=of_decide_eq_true (zz4);obtain ⟨ad174,A174_0,c174_0,e174,hx174_0,hl174_0,hi174_0⟩:=at_L1 HR1_0.out x5_1 p174 q174;obtain rfl:ad170 = ad174:=(by injection e174);replace hx174_0:=(HB.out.cell (World.block_lt_of_cell? w _ hx174_0)).trans hx174_0;have HR174_0:=wA.mk hi174_0;have HC174_0:=wA.mk hl174_0;clear hi174_0 hl174_0;replace p174:=eq_true p174;replace q174:=eq_true q174;have p175:0≤(x6_2:Int):=of_decide_eq_true (zz4);have q175:x6_2 < ((rd_L1 l1_0 x5_1).length:Int):=of_decide_eq_true (zz4);obtain ⟨ad175,e175,hx175_0⟩:=Kd.at_int HR174_0.out x6_2 p175 q175
          cases e175
          replace hx175_0:=(HB.out.cell (World.block_lt_of_cell? w _ hx175_0)).trans hx175_0;replace p175:=eq_true p175;replace q175:=eq_true q175
          go_wp2
          repeat (go_quiet (fail);try go_wp2)
          go_roundg k2
          case measure=>have:=HK1.out;have:=HK2.out;omega
          case rel=>exact ⟨(wrap64 (x6_2+1)),(zz1),H',⟨zz64⟩,⟨(have h0_:=BK167;zz12)⟩,⟨(have h0_:=BK168;zz12)⟩,⟨(have h0_:=GE167;have h1_:=GE168;zz51)⟩⟩
         ·have c22b0:=beq_eq_false_iff_ne.mpr c22;have c22b1:=bne_iff_ne.mpr c22;obtain rfl:=Option.some.inj H;have hnb26:=NB167_168.out;have hnc26:=NB168_167.out;obtain ⟨hcz27_0,hfz27_0⟩:=zc1 BK167.out;have p171:0≤(x5_1:Int):=of_decide_eq_true (zz4);have q171:x5_1 < (l0_0.length:Int):=of_decide_eq_true (zz4);obtain ⟨ad171,A171_0,c171_0,e171,hx171_0,hl171_0,hi171_0⟩:=at_L1 HR0_0.out x5_1 p171 q171;obtain rfl:ad169 = ad171:=(by injection e171);replace hx171_0:=(HB.out.cell (World.block_lt_of_cell? w _ hx171_0)).trans hx171_0;have HR171_0:=wA.mk hi171_0;have HC171_0:=wA.mk hl171_0;clear hi171_0 hl171_0;replace p171:=eq_true p171;replace q171:=eq_true q171;have p172:0≤(x5_1:Int):=of_decide_eq_true (zz4);have q172:x5_1 < (l0_0.length:Int):=of_decide_eq_true (zz4);obtain ⟨ad172,A172_0,c172_0,e172,hx172_0,hl172_0,hi172_0⟩:=at_L1 HR0_0.out x5_1 p172 q172;obtain rfl:ad169 = ad172:=(by injection e172);replace hx172_0:=(HB.out.cell (World.block_lt_of_cell? w _ hx172_0)).trans hx172_0;have HR172_0:=wA.mk hi172_0;have HC172_0:=wA.mk hl172_0;clear hi172_0 hl172_0;replace p172:=eq_true p172;replace q172:=eq_true q172;have ea_:=Option.some.inj (hx171_0.symm.trans hx172_0)
          injection ea_ with ea_ en_ ec_
          subst ea_;subst ec_;clear en_;have p173:0≤(x6_2:Int):=of_decide_eq_true (zz4);have q173:x6_2 < ((rd_L1 l0_0 x5_1).length:Int):=of_decide_eq_true (zz4);obtain ⟨ad173,e173,hx173_0⟩:=Kd.at_int HR172_0.out x6_2 p173 q173
          cases e173
          replace hx173_0:=(HB.out.cell (World.block_lt_of_cell? w _ hx173_0)).trans hx173_0;replace p173:=eq_true p173;replace q173:=eq_true q173;obtain ⟨hcz28_0,hfz28_0⟩:=zc1 BK168.out;have p174:0≤(x5_1:Int):=of_decide_eq_true (zz4);have q174:x5_1 < (l1_0.length:Int):=of_decide_eq_true (zz4);obtain ⟨ad174,A174_0,c174_0,e174,hx174_0,hl174_0,hi174_0⟩:=at_L1 HR1_0.out x5_1 p174 q174;obtain rfl:ad170 = ad174:=(by injection e174);replace hx174_0:=(HB.out.cell (World.block_lt_of_cell? w _ hx174_0)).trans hx174_0;have HR174_0:=wA.mk hi174_0;have HC174_0:=wA.mk hl174_0;clear hi174_0 hl174_0;replace p174:=eq_true p174;replace q174:=eq_true q174;have p175:0≤(x6_2:Int):=of_decide_eq_true (zz4);have q175:x6_2 < ((rd_L1 l1_0 x5_1).length:Int):=of_decide_eq_true (zz4);obtain ⟨ad175,e175,hx175_0⟩:=Kd.at_int HR174_0.out x6_2 p175 q175
          cases e175
          replace hx175_0:=(HB.out.cell (World.block_lt_of_cell? w _ hx175_0)).trans hx175_0;replace p175:=eq_true p175;replace q175:=eq_true q175
          go_wp2
          repeat (go_quiet (fail);try go_wp2)
          go_ret
          exact ⟨zz14,(have h0_:=GE167;have h1_:=GE168;zz51)⟩
        ·have c18b0:=decide_eq_false c18;clear c18;have H':=wA.mk H;clear H;have hnb29:=NB167_168.out;have hnc29:=NB168_167.out;obtain ⟨hcz30_0,hfz30_0⟩:=zc1 BK167.out;have p171:0≤(x5_1:Int):=of_decide_eq_true (zz4);have q171:x5_1 < (l0_0.length:Int):=of_decide_eq_true (zz4);obtain ⟨ad171,A171_0,c171_0,e171,hx171_0,hl171_0,hi171_0⟩:=at_L1 HR0_0.out x5_1 p171 q171;obtain rfl:ad169 = ad171:=(by injection e171);replace hx171_0:=(HB.out.cell (World.block_lt_of_cell? w _ hx171_0)).trans hx171_0;have HR171_0:=wA.mk hi171_0;have HC171_0:=wA.mk hl171_0;clear hi171_0 hl171_0;replace p171:=eq_true p171;replace q171:=eq_true q171
         go_wp2
         go_roundg k2
         case measure=>have:=HK1.out;have:=HK2.out;omega
         case rel=>exact ⟨(wrap64 (x5_1+1)),(zz1),H',⟨zz64⟩,⟨(have h0_:=BK167;zz12)⟩,⟨(have h0_:=BK168;zz12)⟩,⟨(have h0_:=GE167;have h1_:=GE168;zz51)⟩⟩
     ·have c12b0:=beq_eq_false_iff_ne.mpr c12;have c12b1:=bne_iff_ne.mpr c12;have c12b2:((rd_L1 l0_0 x5_1).length == (rd_L1 l1_0 x5_1).length) = false:=(have h0_:=c12;zz34);obtain rfl:=Option.some.inj H;have hnb31:=NB167_168.out;have hnc31:=NB168_167.out;obtain ⟨hcz32_0,hfz32_0⟩:=zc1 BK167.out;have p169:0≤(x5_1:Int):=of_decide_eq_true (zz4);have q169:x5_1 < (l0_0.length:Int):=of_decide_eq_true (zz4);obtain ⟨ad169,A169_0,c169_0,e169,hx169_0,hl169_0,hi169_0⟩:=at_L1 HR0_0.out x5_1 p169 q169
      cases e169
      replace hx169_0:=(HB.out.cell (World.block_lt_of_cell? w _ hx169_0)).trans hx169_0;have HR169_0:=wA.mk hi169_0;have HC169_0:=wA.mk hl169_0;clear hi169_0 hl169_0;replace p169:=eq_true p169;replace q169:=eq_true q169;obtain ⟨hcz33_0,hfz33_0⟩:=zc1 BK168.out;have p170:0≤(x5_1:Int):=of_decide_eq_true (zz4);have q170:x5_1 < (l1_0.length:Int):=of_decide_eq_true (zz4);obtain ⟨ad170,A170_0,c170_0,e170,hx170_0,hl170_0,hi170_0⟩:=at_L1 HR1_0.out x5_1 p170 q170
      cases e170
      replace hx170_0:=(HB.out.cell (World.block_lt_of_cell? w _ hx170_0)).trans hx170_0;have HR170_0:=wA.mk hi170_0;have HC170_0:=wA.mk hl170_0;clear hi170_0 hl170_0;replace p170:=eq_true p170;replace q170:=eq_true q170
      go_wp2
      repeat (go_quiet (fail);try go_wp2)
      go_ret
      exact ⟨zz14,(have h0_:=GE167;have h1_:=GE168;zz51)⟩
    ·have c9b0:=decide_eq_false c9;clear c9;obtain rfl:=Option.some.inj H;have hnb34:=NB167_168.out;have hnc34:=NB168_167.out;obtain ⟨hcz35_0,hfz35_0⟩:=zc1 BK167.out
     go_wp2
     go_ret
     exact ⟨zz14,(have h0_:=GE167;have h1_:=GE168;zz51)⟩
 ·have c3b0:=beq_eq_false_iff_ne.mpr c3;have c3b1:=bne_iff_ne.mpr c3;have c3b2:(l0_0.length == l1_0.length) = false:=(have h0_:=c3;zz34);obtain rfl:=Option.some.inj H;go_enter Tryd.func23,Tryd.ntmps23
  go_wp2_with (first|((with_reducible refine wK (N:=2) rfl ?_);refine wM ?hg (N:=2) ?hd (cs:=#[.slice A0_0 l0_0.length c0_0]) (t:=24) ?hr ?_;(case hd=>rfl);(case hg=>rfl);(case hr=>exact zz205);intro gb167 hg w36 hbox hb;have BK167:=wA.mk (hbox);have GW167:=wA.mk ((by rw [hg];exact (wB (zz10)):w.heap.size≤gb167));have GE167:=wA.mk ((by rw [hg];exact (wB (zz10)):w.heap.size≤gb167));replace HB:=wA.mk (wG (zz10) hb);clear hb hbox hg)|((with_reducible refine wK (N:=3) rfl ?_);refine wM ?hg (N:=3) ?hd (cs:=#[.slice A1_0 l1_0.length c1_0]) (t:=24) ?hr ?_;(case hd=>rfl);(case hg=>rfl);(case hr=>exact zz205);intro gb168 hg w37 hbox hb;have BK168:=wA.mk (hbox);have GW168:=wA.mk ((by rw [hg];exact (wB (have h0_:=GE167;zz13)):w.heap.size≤gb168));have GE168:=wA.mk ((by rw [hg];exact (wB (have h0_:=GE167;zz13)):w.heap.size≤gb168));replace HB:=wA.mk (wG (have h0_:=GE167;zz13) hb);have NB167_168:=wA.mk ((by rw [hg];exact Nat.ne_of_lt (wJ (g:=gb167) (o:=.cells #[.slice A0_0 l0_0.length c0_0] 24 (0,0)) (have h0_:=BK167;zz12)):gb167 ≠ gb168));have NB168_167:=wA.mk ((by rw [hg];exact Nat.ne_of_gt (wJ (g:=gb167) (o:=.cells #[.slice A0_0 l0_0.length c0_0] 24 (0,0)) (have h0_:=BK167;zz12)):gb168 ≠ gb167));replace BK167:=wA.mk (wC (have h0_:=BK167;zz12) hb);clear hb hbox hg;have hnb38:=NB167_168.out;have hnc38:=NB168_167.out;obtain ⟨hcz39_0,hfz39_0⟩:=zc1 BK167.out;obtain ⟨hcz40_0,hfz40_0⟩:=zc1 BK168.out))
  go_ret
  exact ⟨zz14,(have h0_:=GE167;have h1_:=GE168;zz51)⟩
end Go.Proofs.YtfkmbjkmlfnapaaDoor.QA
