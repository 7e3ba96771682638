import Derived.Test.YtnimkmkapajnhaaDoorRBQAx0
import Derived.Test.YtnimkmkapajnhaaDoorRBQAx4
import Derived.Test.YtnimkmkapajnhaaDoorRBQAx7
import Derived.Test.YtnimkmkapajnhaaDoorRBQAx12
import Derived.Test.YtnimkmkapajnhaaDoorRBQAx13
import Derived.Test.YtnimkmkapajnhaaDoorRBQAx24
import Derived.Test.YtnimkmkapajnhaaDoorRBQAx29
namespace Go.Proofs.YtnimkmkapajnhaaDoor.QA
open Go.RowKit Go.Proofs.YtnimkmkapajnhaaDoorW.PrintWords Go.Proofs.YtnimkmkapajnhaaDoorW.PrintLast Go.Proofs.YtnimkmkapajnhaaDoorW.PrintMore
attribute [local go_sem] yE yA yI yJ wY wX yC yD
set_option linter.unusedVariables false
set_option linter.unusedSimpArgs false
def U6.l0:Nat→List (S26)→Int→Int→Option (Bool)
 | 0,_,_,_=>none
 | k+1,x0,x1,x5=>if x5 < (x0.length:Int) then (if 0≤x5 then (if (((rd_T26 x0 x5).f2).length:Int) > 0 then (some false) else (if ((rd_T26 x0 x5).f1) < x1 then (some false) else (U6.l0 k x0 x1 (wrap64 (x5+1))))) else (none)) else (some true)
def U6.f (k:Nat) (l0:List (S26)) (a1:Int):Option (Bool):=U6.l0 k l0 a1 0
theorem zm26_0 {P:Prop} (h:P:=by repeat' first|(with_reducible first|exact ih0 ..|exact LeO.refl _|exact LeO.none _|refine LeO.ite ?_ ?_|refine LeO.bind ?_ (fun _=>?_))|exact ih0 ..|exact LeO.none _|refine LeO.ite ?_ ?_|refine LeO.bind ?_ (fun _=>?_)):P:=h
theorem U6.mono_l:∀ k,(∀ y0 y1 y2,LeO (U6.l0 k y0 y1 y2) (U6.l0 (k+1) y0 y1 y2))
 | 0=>fun _ _ _ r h=>by simp [U6.l0] at h
 | k+1=>by
  have ih0:=U6.mono_l k
  ·intro y0 y1 y2;unfold U6.l0
   exact zm26_0
theorem U6.mono:∀ a0 a1 k,LeO (U6.f k a0 a1) (U6.f (k+1) a0 a1):=by
 intro a0 a1 k;have ih0:=U6.mono_l k;unfold U6.f
 exact zm26_0
set_option maxHeartbeats 8000000 in
set_option maxRecDepth 100000 in
theorem U6.calls (k:Nat) (A0:Option Addr) (c0:Nat) (l0:List (S26)) (a1:Int) (r:Bool) (w:World) (hr0:Kd.C k26 w A0 l0.length l0) (hc0:l0.length≤c0) (h:U6.f k l0 a1 = some r) :
  Calls Tryd.prog 23 #[.slice A0 l0.length c0,.int .i64 a1] w fun e w'=>e = .returned (.bool r)∧yM w w':=by
 have HR0:=wA.mk hr0;have HC0:=wA.mk hc0;clear hr0 hc0;have H:(U6.l0 k l0 a1 0) = some r:=h;clear h;have H':=wA.mk H;clear H;go_enter Tryd.func23,Tryd.ntmps23
 go_wp2
 go_loopg [5] k (fun kq v5 w'=>∃ (x5_1:Int),v5 = .int .i64 x5_1∧wA (U6.l0 kq l0 a1 x5_1 = some r)∧wA (kq≤k)∧yM w w')
 case atStart=>exact ⟨(0),(zz2),H',⟨Nat.le_refl _⟩,zz9⟩
 case round =>
  clear H';obtain ⟨x5_1,rfl,HA,HK1,⟨m1,rfl⟩⟩:=hrel
  cases gk with
  | zero=>exact absurd HA.out (by simp [U6.l0])
  | succ k1 =>
   have H:=HA.out;clear HA;simp only [U6.l0] at H;replace H:=zzj H;rcases H with ⟨c3,H⟩|⟨c3,H⟩
   ·have c3b0:=qM c3;clear c3;replace H:=zzi H;obtain ⟨c4,H⟩:=H;have c4b0:=qM c4;clear c4;replace H:=zzj H;rcases H with ⟨c5,H⟩|⟨c5,H⟩
    ·have c5b0:=qM c5;have c5b1:decide (0 < ((rd_T26 l0 x5_1).f2).length) = true:=qM (zz1);clear c5;obtain rfl:=Option.some.inj H;have p950:0≤(x5_1:Int):=qL (zz4);have q950:x5_1 < (l0.length:Int):=qL (zz4);obtain ⟨ad950,A950_2,c950_2,e950,hx950_0,hx950_1,hx950_2,hl950_2,hi950_2⟩:=at_T26 HR0.out x5_1 p950 q950
     cases e950
     have HR950_2:=wA.mk hi950_2;have HC950_2:=wA.mk hl950_2;clear hi950_2 hl950_2;replace p950:=eq_true p950;replace q950:=eq_true q950
     go_wp2
     go_ret
     exact ⟨zz2,zz9⟩
    ·have c5b0:=qN c5;have c5b1:decide (0 < ((rd_T26 l0 x5_1).f2).length) = false:=qN (zz1);clear c5;replace H:=zzj H;rcases H with ⟨c6,H⟩|⟨c6,H⟩
     ·have c6b0:=qM c6;clear c6;obtain rfl:=Option.some.inj H;have p950:0≤(x5_1:Int):=qL (zz4);have q950:x5_1 < (l0.length:Int):=qL (zz4);obtain ⟨ad950,A950_2,c950_2,e950,hx950_0,hx950_1,hx950_2,hl950_2,hi950_2⟩:=at_T26 HR0.out x5_1 p950 q950
      cases e950
      have HR950_2:=wA.mk hi950_2;have HC950_2:=wA.mk hl950_2;clear hi950_2 hl950_2;replace p950:=eq_true p950;replace q950:=eq_true q950;have p951:0≤(x5_1:Int):=qL (zz4);have q951:x5_1 < (l0.length:Int):=qL (zz4);obtain ⟨ad951,A951_2,c951_2,e951,hx951_0,hx951_1,hx951_2,hl951_2,hi951_2⟩:=at_T26 HR0.out x5_1 p951 q951;obtain rfl:ad950 = ad951:=(by injection e951);have HR951_2:=wA.mk hi951_2;have HC951_2:=wA.mk hl951_2;clear hi951_2 hl951_2;replace p951:=eq_true p951;replace q951:=eq_true q951;have ea_:=Option.some.inj (hx950_2.symm.trans hx951_2)
      injection ea_ with ea_ en_ ec_
      subst ea_;subst ec_;clear en_
      go_wp2
      go_ret
      exact ⟨zz2,zz9⟩
     ·have c6b0:=qN c6;clear c6;have H':=wA.mk H;clear H;have p950:0≤(x5_1:Int):=qL (zz4);have q950:x5_1 < (l0.length:Int):=qL (zz4);obtain ⟨ad950,A950_2,c950_2,e950,hx950_0,hx950_1,hx950_2,hl950_2,hi950_2⟩:=at_T26 HR0.out x5_1 p950 q950
      cases e950
      have HR950_2:=wA.mk hi950_2;have HC950_2:=wA.mk hl950_2;clear hi950_2 hl950_2;replace p950:=eq_true p950;replace q950:=eq_true q950;have p951:0≤(x5_1:Int):=qL (zz4);have q951:x5_1 < (l0.length:Int):=qL (zz4);obtain ⟨ad951,A951_2,c951_2,e951,hx951_0,hx951_1,hx951_2,hl951_2,hi951_2⟩:=at_T26 HR0.out x5_1 p951 q951;obtain rfl:ad950 = ad951:=(by injection e951);have HR951_2:=wA.mk hi951_2;have HC951_2:=wA.mk hl951_2;clear hi951_2 hl951_2;replace p951:=eq_true p951;replace q951:=eq_true q951;have ea_:=Option.some.inj (hx950_2.symm.trans hx951_2)
      injection ea_ with ea_ en_ ec_
      subst ea_;subst ec_;clear en_
      go_wp2
      go_roundg k1
      case measure=>have:=HK1.out;omega
      case rel=>exact ⟨(wrap64 (x5_1+1)),(zz2),H',⟨zz5⟩,zz9⟩
   ·have c3b0:=qN c3;clear c3;obtain rfl:=Option.some.inj H
    go_wp2
    go_ret
    exact ⟨zz2,zz9⟩
mutual
def U4.j0:Nat→List (S26)→List Int→List (S44)→Bool→Option (Bool)
 | 0,_,_,_,_=>none
 | k+1,x0,x1,x7,x43=>if x43 = true then (none) else (U4.l0 k x0 x1 x7 0)
def U4.l0:Nat→List (S26)→List Int→List (S44)→Int→Option (Bool)
 | 0,_,_,_,_=>none
 | k+1,x0,x1,x7,x10=>if x10 < (x7.length:Int) then (if 0≤x10 then (if 0≤(wrap64 (Int.tdiv x10 2)) then (if (wrap64 (Int.tdiv x10 2)) < (x1.length:Int) then (if ((rd_T44 x7 x10).f0) = (rd x1 (wrap64 (Int.tdiv x10 2))) then (if (Int.tmod x10 2) = 1 then (if 0≤(wrap64 (x10 - 1)) then (if (wrap64 (x10 - 1)) < (x7.length:Int) then (if ((rd_T44 x7 x10).f1) = ((rd_T44 x7 (wrap64 (x10 - 1))).f1) then (none) else (U4.l0 k x0 x1 x7 (wrap64 (x10+1)))) else (none)) else (none)) else (U4.l0 k x0 x1 x7 (wrap64 (x10+1)))) else (none)) else (none)) else (none)) else (none)) else (U4.l1 k x0 x1 x7 (x7.length:Int) 0 0)
def U4.l1:Nat→List (S26)→List Int→List (S44)→Int→Int→Int→Option (Bool)
 | 0,_,_,_,_,_,_=>none
 | k+1,x0,x1,x7,x11,x12,x13=>if x13 < (x0.length:Int) then (if 0≤x13 then ((U34.f k x7 ((rd_T26 x0 x13).f0)).bind fun t964=>(if t964 > ((rd_T26 x0 x13).f1) then (none) else (U4.l1 k x0 x1 x7 (mn x11 t964) (mx x12 t964) (wrap64 (x13+1))))) else (none)) else (if (wrap64 (x12 - x11))≤1 then ((U5.f k).bind fun t966=>(some t966)) else ((U6.f k x0 (x1.length:Int)).bind fun t967=>(if t967 = true then (none) else ((U5.f k).bind fun t968=>(some t968)))))
end
def U4.f (k:Nat) (l0:List (S26)) (l1:List Int) (a2:Int):Option (Bool):=(U30.f k l0 l1 a2).bind fun bt952=>(if bt952.2.2 = 0 then ((U31.f k l0 l1 bt952.1).bind fun t958=>(if t958 = 0 then (U4.j0 k l0 l1 bt952.1 ((bt952.1.length:Int) != (wrap64 (2 * (l1.length:Int))))) else (none))) else (if (bt952.1.length:Int) = 0 then ((U5.f k).bind fun t957=>(some t957)) else (none)))
theorem zm26_1 {P:Prop} (h:P:=by repeat' first|(with_reducible first|exact ih0 ..|exact ih1 ..|exact ih2 ..|exact U5.mono ..|exact U6.mono ..|exact U30.mono ..|exact U31.mono ..|exact U34.mono ..|exact LeO.refl _|exact LeO.none _|refine LeO.ite ?_ ?_|refine LeO.bind ?_ (fun _=>?_))|exact ih0 ..|exact ih1 ..|exact ih2 ..|exact U5.mono ..|exact U6.mono ..|exact U30.mono ..|exact U31.mono ..|exact U34.mono ..|exact LeO.none _|refine LeO.ite ?_ ?_|refine LeO.bind ?_ (fun _=>?_)):P:=h
theorem U4.mono_l:∀ k,(∀ y0 y1 y2 y3,LeO (U4.j0 k y0 y1 y2 y3) (U4.j0 (k+1) y0 y1 y2 y3))∧(∀ y0 y1 y2 y3,LeO (U4.l0 k y0 y1 y2 y3) (U4.l0 (k+1) y0 y1 y2 y3))∧(∀ y0 y1 y2 y3 y4 y5,LeO (U4.l1 k y0 y1 y2 y3 y4 y5) (U4.l1 (k+1) y0 y1 y2 y3 y4 y5))
 | 0=>⟨fun _ _ _ _ r h=>by simp [U4.j0] at h,fun _ _ _ _ r h=>by simp [U4.l0] at h,fun _ _ _ _ _ _ r h=>by simp [U4.l1] at h⟩
 | k+1=>by
  obtain ⟨ih0,ih1,ih2⟩:=U4.mono_l k;refine ⟨?_,?_,?_⟩
  ·intro y0 y1 y2 y3;unfold U4.j0
   exact zm26_1
  ·intro y0 y1 y2 y3;unfold U4.l0
   exact zm26_1
  ·intro y0 y1 y2 y3 y4 y5;unfold U4.l1
   exact zm26_1
theorem U4.mono:∀ a0 a1 a2 k,LeO (U4.f k a0 a1 a2) (U4.f (k+1) a0 a1 a2):=by
 intro a0 a1 a2 k;obtain ⟨ih0,ih1,ih2⟩:=U4.mono_l k;unfold U4.f
 exact zm26_1
set_option maxHeartbeats 8000000 in
set_option maxRecDepth 100000 in
theorem U4.calls (k:Nat) (A0:Option Addr) (c0:Nat) (l0:List (S26)) (A1:Option Addr) (c1:Nat) (l1:List Int) (a2:Int) (r:Bool) (w:World) (hr0:Kd.C k26 w A0 l0.length l0) (hc0:l0.length≤c0) (hr1:Kd.C (Kd.int .i64) w A1 l1.length l1) (hc1:l1.length≤c1) (h:U4.f k l0 l1 a2 = some r) :
  Calls Tryd.prog 6 #[.slice A0 l0.length c0,.slice A1 l1.length c1,.int .u64 a2] w fun e w'=>e = .returned (.bool r)∧Below w.heap.size w w':=by
 have HR0:=wA.mk hr0;have HC0:=wA.mk hc0;clear hr0 hc0;have HR1:=wA.mk hr1;have HC1:=wA.mk hc1;clear hr1 hc1;have HB:=wA.mk (Below.refl w.heap.size w);have H:((U30.f k l0 l1 a2).bind fun bt952=>(if bt952.2.2 = 0 then ((U31.f k l0 l1 bt952.1).bind fun t958=>(if t958 = 0 then (U4.j0 k l0 l1 bt952.1 ((bt952.1.length:Int) != (wrap64 (2 * (l1.length:Int))))) else (none))) else (if (bt952.1.length:Int) = 0 then ((U5.f k).bind fun t957=>(some t957)) else (none)))) = some r:=h;clear h;replace H:=Option.bind_eq_some_iff.mp H;obtain ⟨⟨t952,t953,t954⟩,A40,H⟩:=H;have A4:=wA.mk A40;clear A40;replace H:=zzj H;rcases H with ⟨c5,H⟩|⟨c5,H⟩
 ·have c5b0:=beq_iff_eq.mpr c5;have c5b1:=bne_eq_false_iff_eq.mpr c5;clear c5;have HC6:=wA.mk H;clear H;go_enter Tryd.func6,Tryd.ntmps6
  go_upto_region 4 with (first|(go_at_call 18;(with_reducible refine (U30.calls k _ _ l0 _ _ l1 a2 t952 t953 t954 _ ?_ ?_ ?_ ?_ A4.out).mono ?_);exact zz158;exact HC0.out;exact zz161;exact HC1.out;rintro e w7 ⟨v955,rfl,ho0,hb⟩;have HO956:=wA.mk (Kd.R_lower ho0 (wB (zz3)));replace HB:=wA.mk (wC (zz3) hb);(try clear hb);(try clear ho0)))
  (try simp only [Act.put,List.setIfInBounds_toArray,List.set_cons_zero,List.set_cons_succ]);go_cut [43] (fun v43 wc=>∃ (kq:Nat) (x43_5:Bool),v43 = .bool x43_5∧wA (U4.j0 kq l0 l1 t952 x43_5 = some r)∧wA (kq≤k)∧wA (Kd.R k44 44 wc w.heap.size (fun _=>True) v955 t952)∧wA (Below w.heap.size w wc))
  case first =>
   have H:=HC6.out;clear HC6;replace H:=zzb H;obtain ⟨t958,A8,H⟩:=H;replace H:=zzi H;obtain ⟨c9,H⟩:=H;have c9b0:=beq_iff_eq.mpr c9;have c9b1:=bne_eq_false_iff_eq.mpr c9;clear c9
   (first|rw [c9b0]|rw [c9b1]|(simp only [yS,zF];rw [c9b0])|skip);have H':=wA.mk H;clear H;obtain ⟨Ao10,co10,eo10⟩:=Kd.R_slice HO956.out;subst eo10
   go_wp2_with (first|(go_at_call 11;(with_reducible refine (U31.calls k _ _ l0 _ _ l1 _ _ t952 t958 _ ?_ ?_ ?_ ?_ ?_ ?_ A8.out).mono ?_);exact zz160;exact HC0.out;exact zz159;exact HC1.out;(exact (have h0_:=HO956;zz162));(exact (have h0_:=HO956;zz164));rintro e w11 ⟨rfl,hb⟩;replace HO956:=wA.mk (Kd.R_below (have h0_:=HO956;zz31) hb);replace HB:=wA.mk (wC (zz3) hb);(try clear hb)))
   go_meet
   case rel=>exact ⟨_,(((t952.length:Int) != (wrap64 (2 * (l1.length:Int))))),(zz2),H',⟨zz28⟩,⟨(have h0_:=HO956;zz31)⟩,⟨zz3⟩⟩
  case rest =>
   clear HC6;(try clear c1);clear c5b0 c5b1;obtain ⟨kq,x43_5,rfl,HA,HJ5,HO_7,HB⟩:=hcut
   cases kq with
   | zero=>exact absurd HA.out (by simp [U4.j0])
   | succ kj5 =>
    have H:=HA.out;clear HA;simp only [U4.j0] at H;by_cases c12:x43_5 = true
    ·subst c12;have H1:(none) = some r:=zz18;clear H;have H:=H1;clear H1
     exact absurd H (zz7)
    ·replace c12:=Bool.eq_false_iff.mpr c12;subst c12;have H1:(U4.l0 kj5 l0 l1 t952 0) = some r:=zz19;clear H;have H:=H1;clear H1;have H':=wA.mk H;clear H
     go_wp2
     go_loopg [10] kj5 (fun kq v10 w'=>∃ (x10_2:Int),v10 = .int .i64 x10_2∧wA (U4.l0 kq l0 l1 t952 x10_2 = some r)∧wA (kq≤kj5)∧wA (Kd.R k44 44 w' w.heap.size (fun _=>True) v955 t952)∧wA (Below w.heap.size w w'))
     case atStart=>exact ⟨(0),(zz2),H',⟨Nat.le_refl _⟩,⟨zz62⟩,⟨zz3⟩⟩
     case round =>
      clear H'
      (try clear c12);obtain ⟨x10_2,rfl,HA,HK2,HO_7,HB⟩:=hrel
      cases gk with
      | zero=>exact absurd HA.out (by simp [U4.l0])
      | succ k2 =>
       have H:=HA.out;clear HA;simp only [U4.l0] at H;replace H:=zzj H;rcases H with ⟨c13,H⟩|⟨c13,H⟩
       ·have c13b0:=qM c13;clear c13;replace H:=zzi H;obtain ⟨c14,H⟩:=H;have c14b0:=qM c14;clear c14;obtain ⟨ji15,hji15⟩:∃ j_:Int,(wrap64 (Int.tdiv x10_2 2)) = j_:=⟨_,rfl⟩;replace H:(if 0≤(ji15) then (if (ji15) < (l1.length:Int) then (if ((rd_T44 t952 x10_2).f0) = (rd l1 (ji15)) then (if (Int.tmod x10_2 2) = 1 then (if 0≤(wrap64 (x10_2 - 1)) then (if (wrap64 (x10_2 - 1)) < (t952.length:Int) then (if ((rd_T44 t952 x10_2).f1) = ((rd_T44 t952 (wrap64 (x10_2 - 1))).f1) then (none) else (U4.l0 k2 l0 l1 t952 (wrap64 (x10_2+1)))) else (none)) else (none)) else (U4.l0 k2 l0 l1 t952 (wrap64 (x10_2+1)))) else (none)) else (none)) else (none)) = some r:=(have h0_:=hji15;zz10);have hji15w:(IntKind.i64.wrap (Int.tdiv x10_2 2)) = ji15:=(yS _).trans hji15;replace H:=zzi H;obtain ⟨c16,H⟩:=H;have c16b0:=qM c16;clear c16;replace H:=zzi H;obtain ⟨c17,H⟩:=H;have c17b0:=qM c17;clear c17;replace H:=zzi H;obtain ⟨c18,H⟩:=H;have c18b0:=beq_iff_eq.mpr c18;have c18b1:=bne_eq_false_iff_eq.mpr c18;clear c18;replace H:=zzj H;rcases H with ⟨c19,H⟩|⟨c19,H⟩
        ·have c19b0:=beq_iff_eq.mpr c19;have c19b1:=bne_eq_false_iff_eq.mpr c19;clear c19;obtain ⟨ji20,hji20⟩:∃ j_:Int,(wrap64 (x10_2 - 1)) = j_:=⟨_,rfl⟩;replace H:(if 0≤(ji20) then (if (ji20) < (t952.length:Int) then (if ((rd_T44 t952 x10_2).f1) = ((rd_T44 t952 (ji20)).f1) then (none) else (U4.l0 k2 l0 l1 t952 (wrap64 (x10_2+1)))) else (none)) else (none)) = some r:=(have h0_:=hji20;zz10);have hji20w:(IntKind.i64.wrap (x10_2 - 1)) = ji20:=(yS _).trans hji20;replace H:=zzi H;obtain ⟨c21,H⟩:=H;have c21b0:=qM c21;clear c21;replace H:=zzi H;obtain ⟨c22,H⟩:=H;have c22b0:=qM c22;clear c22;replace H:=zzj H;rcases H with ⟨c23,H⟩|⟨c23,H⟩
         ·exact absurd H (zz7)
         ·have c23b0:=beq_eq_false_iff_ne.mpr c23;have c23b1:=bne_iff_ne.mpr c23;have H':=wA.mk H;clear H;obtain ⟨Ao24,co24,eo24⟩:=Kd.R_slice HO_7.out;subst eo24;have p959:0≤(x10_2:Int):=qL (zz4);have q959:x10_2 < (t952.length:Int):=qL (zz4);obtain ⟨ad959,e959,hx959_0,hx959_1⟩:=at_T44 (Kd.R_reads' HO_7.out).2.2 x10_2 p959 q959
          cases e959
          replace p959:=eq_true p959;replace q959:=eq_true q959;have p960:0≤((ji15):Int):=qL (zz4);have q960:(ji15) < (l1.length:Int):=qL (zz4);obtain ⟨ad960,e960,hx960_0⟩:=Kd.at_int HR1.out (ji15) p960 q960
          cases e960
          replace hx960_0:=(HB.out.cell (qK w _ hx960_0)).trans hx960_0;replace p960:=eq_true p960;replace q960:=eq_true q960;have p961:0≤(x10_2:Int):=qL (zz4);have q961:x10_2 < (t952.length:Int):=qL (zz4);obtain ⟨ad961,e961,hx961_0,hx961_1⟩:=at_T44 (Kd.R_reads' HO_7.out).2.2 x10_2 p961 q961;obtain rfl:ad959 = ad961:=(by injection e961);replace p961:=eq_true p961;replace q961:=eq_true q961;have p962:0≤((ji20):Int):=qL (zz4);have q962:(ji20) < (t952.length:Int):=qL (zz4);obtain ⟨ad962,e962,hx962_0,hx962_1⟩:=at_T44 (Kd.R_reads' HO_7.out).2.2 (ji20) p962 q962;obtain rfl:ad959 = ad962:=(by injection e962);replace p962:=eq_true p962;replace q962:=eq_true q962
          go_wp2
          repeat (go_quiet (fail);try go_wp2)
          go_roundg k2
          case measure=>have:=HJ5.out;have:=HK2.out;omega
          case rel=>exact ⟨(wrap64 (x10_2+1)),(zz2),H',⟨by have:=HJ5.out;have:=HK2.out;omega⟩,⟨zz62⟩,⟨zz3⟩⟩
        ·have c19b0:=beq_eq_false_iff_ne.mpr c19;have c19b1:=bne_iff_ne.mpr c19;have H':=wA.mk H;clear H;obtain ⟨Ao25,co25,eo25⟩:=Kd.R_slice HO_7.out;subst eo25;have p959:0≤(x10_2:Int):=qL (zz4);have q959:x10_2 < (t952.length:Int):=qL (zz4);obtain ⟨ad959,e959,hx959_0,hx959_1⟩:=at_T44 (Kd.R_reads' HO_7.out).2.2 x10_2 p959 q959
         cases e959
         replace p959:=eq_true p959;replace q959:=eq_true q959;have p960:0≤((ji15):Int):=qL (zz4);have q960:(ji15) < (l1.length:Int):=qL (zz4);obtain ⟨ad960,e960,hx960_0⟩:=Kd.at_int HR1.out (ji15) p960 q960
         cases e960
         replace hx960_0:=(HB.out.cell (qK w _ hx960_0)).trans hx960_0;replace p960:=eq_true p960;replace q960:=eq_true q960
         go_wp2
         repeat (go_quiet (fail);try go_wp2)
         go_roundg k2
         case measure=>have:=HJ5.out;have:=HK2.out;omega
         case rel=>exact ⟨(wrap64 (x10_2+1)),(zz2),H',⟨by have:=HJ5.out;have:=HK2.out;omega⟩,⟨zz62⟩,⟨zz3⟩⟩
       ·have c13b0:=qN c13;clear c13;have H':=wA.mk H;clear H;obtain ⟨Ao26,co26,eo26⟩:=Kd.R_slice HO_7.out;subst eo26
        go_wp2
        go_loopg [11,12,13] k2 (fun kq v11 v12 v13 w'=>∃ (x11_3:Int) (x12_3:Int) (x13_3:Int),v11 = .int .i64 x11_3∧v12 = .int .i64 x12_3∧v13 = .int .i64 x13_3∧wA (U4.l1 kq l0 l1 t952 x11_3 x12_3 x13_3 = some r)∧wA (kq≤k2)∧wA (Kd.R k44 44 w' w.heap.size (fun _=>True) (.slice Ao26 t952.length co26) t952)∧wA (Below w.heap.size w w'))
        case atStart=>exact ⟨((t952.length:Int)),(0),(0),(zz2),(zz2),(zz2),H',⟨Nat.le_refl _⟩,⟨zz62⟩,⟨zz3⟩⟩
        case round =>
         clear H';clear c13b0;obtain ⟨x11_3,x12_3,x13_3,rfl,rfl,rfl,HA,HK3,HO_7,HB⟩:=hrel
         cases gk with
         | zero=>exact absurd HA.out (by simp [U4.l1])
         | succ k3 =>
          have H:=HA.out;clear HA;simp only [U4.l1] at H;replace H:=zzj H;rcases H with ⟨c27,H⟩|⟨c27,H⟩
          ·have c27b0:=qM c27;clear c27;replace H:=zzi H;obtain ⟨c28,H⟩:=H;have c28b0:=qM c28;clear c28;replace H:=zzb H;obtain ⟨t964,A29,H⟩:=H;replace H:=zzj H;rcases H with ⟨c30,H⟩|⟨c30,H⟩
           ·exact absurd H (zz7)
           ·have c30b0:=qN c30;clear c30;obtain ⟨ji31,hji31⟩:∃ j_:Int,(mn x11_3 t964) = j_:=⟨_,rfl⟩;replace H:(U4.l1 k3 l0 l1 t952 ji31 (mx x12_3 t964) (wrap64 (x13_3+1))) = some r:=(have h0_:=hji31;zz10)
            (try rw [hji31] at A29);have hji31_:(if t964 < x11_3 then t964 else x11_3) = ji31:=hji31
            (try (have hji31N:=hji31_;simp only [Int.ofNat_lt] at hji31N));obtain ⟨ji32,hji32⟩:∃ j_:Int,(mx x12_3 t964) = j_:=⟨_,rfl⟩;replace H:(U4.l1 k3 l0 l1 t952 ji31 ji32 (wrap64 (x13_3+1))) = some r:=(have h0_:=hji32;zz10)
            (try rw [hji32] at A29);have hji32_:(if x12_3 < t964 then t964 else x12_3) = ji32:=hji32
            (try (have hji32N:=hji32_;simp only [Int.ofNat_lt] at hji32N));have H':=wA.mk H;clear H;have p963:0≤(x13_3:Int):=qL (zz4);have q963:x13_3 < (l0.length:Int):=qL (zz4);obtain ⟨ad963,A963_2,c963_2,e963,hx963_0,hx963_1,hx963_2,hl963_2,hi963_2⟩:=at_T26 HR0.out x13_3 p963 q963
            cases e963
            replace hx963_0:=(HB.out.cell (qK w _ hx963_0)).trans hx963_0;replace hx963_1:=(HB.out.cell (qK w _ hx963_1)).trans hx963_1;replace hx963_2:=(HB.out.cell (qK w _ hx963_2)).trans hx963_2;have HR963_2:=wA.mk hi963_2;have HC963_2:=wA.mk hl963_2;clear hi963_2 hl963_2;replace p963:=eq_true p963;replace q963:=eq_true q963
            go_wp2_with (first|(go_at_call 15;(with_reducible refine (U34.calls k3 _ _ t952 ((rd_T26 l0 x13_3).f0) t964 _ ?_ ?_ A29.out).mono ?_);(exact (have h0_:=HO_7;zz162));(exact (have h0_:=HO_7;zz164));rintro e w33 ⟨rfl,hb⟩;replace HO_7:=wA.mk (Kd.R_below (zz62) hb);replace HB:=wA.mk (wC (zz3) hb);(try clear hb);have p965:0≤(x13_3:Int):=qL (zz4);have q965:x13_3 < (l0.length:Int):=qL (zz4);obtain ⟨ad965,A965_2,c965_2,e965,hx965_0,hx965_1,hx965_2,hl965_2,hi965_2⟩:=at_T26 HR0.out x13_3 p965 q965;obtain rfl:ad963 = ad965:=(by injection e965);replace hx965_0:=(HB.out.cell (qK w _ hx965_0)).trans hx965_0;replace hx965_1:=(HB.out.cell (qK w _ hx965_1)).trans hx965_1;replace hx965_2:=(HB.out.cell (qK w _ hx965_2)).trans hx965_2;have HR965_2:=wA.mk hi965_2;have HC965_2:=wA.mk hl965_2;clear hi965_2 hl965_2;replace p965:=eq_true p965;replace q965:=eq_true q965;(try (have ea_:=Option.some.inj (hx965_2.symm.trans (by first|exact HS0_|exact HS1_|exact HS2_|exact HS3_|exact HS4_|exact HS5_));injection ea_ with ea_ en_ ec_;subst ea_;subst ec_;clear en_))))
            go_roundg k3
            case measure=>have:=HJ5.out;have:=HK2.out;have:=HK3.out;omega
            case rel=>exact ⟨(ji31),(ji32),(wrap64 (x13_3+1)),(have h0_:=hji31;zz11),(have h0_:=hji32;zz11),(zz2),H',⟨by have:=HJ5.out;have:=HK2.out;have:=HK3.out;omega⟩,⟨zz62⟩,⟨zz3⟩⟩
          ·have c27b0:=qN c27;clear c27;replace H:=zzj H;rcases H with ⟨c34,H⟩|⟨c34,H⟩
           ·have c34b0:=qM c34;clear c34;replace H:=zzb H;obtain ⟨t966,A35,H⟩:=H;obtain rfl:=Option.some.inj H
            go_wp2_with (first|(go_at_call 17;(with_reducible refine (U5.calls k3  t966 _ A35.out).mono ?_);rintro e w36 ⟨rfl,hb⟩;replace HO_7:=wA.mk (Kd.R_below (zz62) hb);replace HB:=wA.mk (wC (zz3) hb);(try clear hb)))
            go_ret
            exact ⟨zz8,zz3⟩
           ·have c34b0:=qN c34;clear c34;replace H:=zzb H;obtain ⟨t967,A37,H⟩:=H;by_cases c38:t967 = true
            ·subst c38;have H1:(none) = some r:=zz18;clear H;have H:=H1;clear H1
             exact absurd H (zz7)
            ·replace c38:=Bool.eq_false_iff.mpr c38;subst c38;have H1:((U5.f k3).bind fun t968=>(some t968)) = some r:=zz19;clear H;have H:=H1;clear H1;replace H:=zzb H;obtain ⟨t968,A39,H⟩:=H;obtain rfl:=Option.some.inj H
             go_wp2_with (first|(go_at_call 23;(with_reducible refine (U6.calls k3 _ _ l0 (l1.length:Int) false _ ?_ ?_ A37.out).mono ?_);exact zz160;exact HC0.out;rintro e w' ⟨rfl,⟨nd,rfl⟩⟩;(try first|exact ⟨rfl,_,World.drewN_drewN _ _ _⟩|exact ⟨rfl,_,Eq.trans (World.drewN_drewN _ _ _) (congrArg (World.drewN _) (Nat.add_assoc _ _ _))⟩))|(go_at_call 17;(with_reducible refine (U5.calls k3  t968 _ A39.out).mono ?_);rintro e w40 ⟨rfl,hb⟩;replace HO_7:=wA.mk (Kd.R_below (zz62) hb);replace HB:=wA.mk (wC (zz3) hb);(try clear hb)))
             go_ret
             exact ⟨zz8,zz3⟩
 ·have c5b0:=beq_eq_false_iff_ne.mpr c5;have c5b1:=bne_iff_ne.mpr c5;replace H:=zzi H;obtain ⟨c41,H⟩:=H;have c41b0:=beq_iff_eq.mpr c41;have c41b1:=bne_eq_false_iff_eq.mpr c41;clear c41;replace H:=zzb H;obtain ⟨t957,A42,H⟩:=H;obtain rfl:=Option.some.inj H;go_enter Tryd.func6,Tryd.ntmps6
  go_wp2_with (first|(go_at_call 18;(with_reducible refine (U30.calls k _ _ l0 _ _ l1 a2 t952 t953 t954 _ ?_ ?_ ?_ ?_ A4.out).mono ?_);exact zz158;exact HC0.out;exact zz161;exact HC1.out;rintro e w43 ⟨v955,rfl,ho0,hb⟩;have HO956:=wA.mk (Kd.R_lower ho0 (wB (zz3)));replace HB:=wA.mk (wC (zz3) hb);(try clear hb);(try clear ho0);obtain ⟨Ao44,co44,eo44⟩:=Kd.R_slice HO956.out;subst eo44)|(go_at_call 17;(with_reducible refine (U5.calls k  t957 _ A42.out).mono ?_);rintro e w45 ⟨rfl,hb⟩;replace HO956:=wA.mk (Kd.R_below (have h0_:=HO956;zz31) hb);replace HB:=wA.mk (wC (zz3) hb);(try clear hb)))
  go_ret
  exact ⟨zz8,zz3⟩
end Go.Proofs.YtnimkmkapajnhaaDoor.QA
