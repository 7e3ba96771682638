import Derived.Test.YtnimkmkapajnhaaDoorRDQAx0
import Derived.Test.YtnimkmkapajnhaaDoorRDQAx5
import Derived.Test.YtnimkmkapajnhaaDoorRDQAx10
import Derived.Test.YtnimkmkapajnhaaDoorRDQAx11
namespace Go.Proofs.YtnimkmkapajnhaaDoor.QA
open Go.RowKit Go.Proofs.YtnimkmkapajnhaaDoorW.PrintWords Go.Proofs.YtnimkmkapajnhaaDoorW.PrintLast Go.Proofs.YtnimkmkapajnhaaDoorW.PrintMore
attribute [local go_sem] yF yD yK yL wZ yA yG yE
set_option linter.unusedVariables false
set_option linter.unusedSimpArgs false
def U25.l0:Nat→List (S26)→Int→List Int→Int→List Int→List (S44)→List Int→Int→Int→Option ((List (S44)) × Int × Int)
 | 0,_,_,_,_,_,_,_,_,_=>none
 | k+1,x0,x2,x10,x11,x12,x13,x35,x36,x37=>if x37 < x36 then (if 0≤x37 then (if x37 < (x35.length:Int) then ((U37.f k x0 x10 x12 (rd x35 x37) (-1)).bind fun t185=>(if t185 < 0 then (some (([]:List (S44)),x2,14)) else ((U37.f k x0 x10 x12 (rd x35 x37) t185).bind fun t186=>(if t186 < 0 then (some (([]:List (S44)),x2,14)) else (if 0≤t185 then (if t185 < (x12.length:Int) then ((some (x12.set (t185:Int).toNat (wrap64 ((rd x12 t185)+1)):List Int)).bind fun y188=>(if 0≤t186 then (if t186 < (x12.length:Int) then (if t185 < (x0.length:Int) then (if t186 < (x0.length:Int) then ((some (([(⟨rd x35 x37,(rd_T26 x0 t185).f0⟩:S44),(⟨rd x35 x37,(rd_T26 x0 t186).f0⟩:S44)]:List (S44)):List (S44))).bind fun y193=>(if x13.length+y193.length < 8796093022208 then (U25.l0 k x0 x2 x10 x11 (y188.set (t186:Int).toNat (wrap64 ((rd y188 t186)+1))) (x13++y193) x35 x36 (wrap64 (x37+1))) else (none))) else (none)) else (none)) else (none)) else (none))) else (none)) else (none)))))) else (none)) else (none)) else (some (x13,x11,0))
def U25.f (k:Nat) (l0:List (S26)) (l1:List Int) (a2:Int):Option ((List (S44)) × Int × Int):=(U36.f k l0 l1).bind fun t176=>(if t176 = 0 then ((U2.f k a2 (l0.length:Int)).bind fun bt177=>(if 0≤(l0.length:Int) then (if ((l0.length:Int):Int).toNat≤35184372088832 then (U25.l0 k l0 a2 bt177.1 bt177.2 (List.replicate ((l0.length:Int):Int).toNat 0) ([]:List (S44)) l1 (l1.length:Int) 0) else (none)) else (none))) else (some (([]:List (S44)),a2,t176)))
theorem zm10_0 {P:Prop} (h:P:=by repeat' first|(with_reducible first|exact ih0 ..|exact U2.mono ..|exact U36.mono ..|exact U37.mono ..|exact LeO.refl _|exact LeO.none _|refine LeO.ite ?_ ?_|refine LeO.bind ?_ (fun _=>?_))|exact ih0 ..|exact U2.mono ..|exact U36.mono ..|exact U37.mono ..|exact LeO.none _|refine LeO.ite ?_ ?_|refine LeO.bind ?_ (fun _=>?_)):P:=h
theorem U25.mono_l:∀ k,(∀ y0 y1 y2 y3 y4 y5 y6 y7 y8,LeO (U25.l0 k y0 y1 y2 y3 y4 y5 y6 y7 y8) (U25.l0 (k+1) y0 y1 y2 y3 y4 y5 y6 y7 y8))
 | 0=>fun _ _ _ _ _ _ _ _ _ r h=>by simp [U25.l0] at h
 | k+1=>by
  have ih0:=U25.mono_l k
  ·intro y0 y1 y2 y3 y4 y5 y6 y7 y8;unfold U25.l0
   exact zm10_0
theorem U25.mono:∀ a0 a1 a2 k,LeO (U25.f k a0 a1 a2) (U25.f (k+1) a0 a1 a2):=by
 intro a0 a1 a2 k;have ih0:=U25.mono_l k;unfold U25.f
 exact zm10_0
def U25.T18:Bool × List (List Nat × List Nat):=(true,[([],[]),([],[]),([],[]),([],[]),([2,3],[2,3]),([4],[4]),([5],[5]),([1,6],[1,6]),([],[]),([],[]),([],[]),([9,10],[9,10]),([11],[11]),([12],[12]),([8,13],[8,13]),([7,14],[7,14]),([0,15],[0,15]),([16,16,0,1,2,3,4,5,6,7,8,9,10,11,12,13,14,15,16],[0,16])])
def U25.B18:List Nat:=[0,0,0,0,12,28,60,126,0,0,0,1536,3584,7680,16128,32766,65535,131071]
theorem U25.tab18:zF .any (zQ Tryd.f18 18) = U25.T18:=zz0
theorem U25.bits18:yX U25.T18.2 U25.B18 = true:=zz0
set_option maxHeartbeats 8000000 in
set_option maxRecDepth 100000 in
theorem U25.calls (k:Nat) (A0:Option Addr) (c0:Nat) (l0:List (S26)) (A1:Option Addr) (c1:Nat) (l1:List Int) (a2:Int) (r1:List (S44)) (r2:Int) (r3:Int) (w:World) (hr0:Kd.C k26 w A0 l0.length l0) (hc0:l0.length≤c0) (hr1:Kd.C (Kd.int .i64) w A1 l1.length l1) (hc1:l1.length≤c1) (h:U25.f k l0 l1 a2 = some (r1,r2,r3)) :
  Calls Tryd.prog 18 #[.slice A0 l0.length c0,.slice A1 l1.length c1,.int .u64 a2] w fun e w'=>∃ v0_:Value,e = .returned (.tuple #[v0_,.int .u64 r2,.int .i64 r3])∧Kd.R k44 44 w' w.heap.size (fun _=>True) v0_ r1∧Below w.heap.size w w':=by
 have hu44:=Tryd.underlying44;have HR0:=wA.mk hr0;have HC0:=wA.mk hc0;clear hr0 hc0;have HR1:=wA.mk hr1;have HC1:=wA.mk hc1;clear hr1 hc1;have HB:=wA.mk (Below.refl w.heap.size w);have H:((U36.f k l0 l1).bind fun t176=>(if t176 = 0 then ((U2.f k a2 (l0.length:Int)).bind fun bt177=>(if 0≤(l0.length:Int) then (if ((l0.length:Int):Int).toNat≤35184372088832 then (U25.l0 k l0 a2 bt177.1 bt177.2 (List.replicate ((l0.length:Int):Int).toNat 0) ([]:List (S44)) l1 (l1.length:Int) 0) else (none)) else (none))) else (some (([]:List (S44)),a2,t176)))) = some (r1,r2,r3):=h;clear h;replace H:=zzb H;obtain ⟨t176,A4,H⟩:=H;replace H:=zzj H;rcases H with ⟨c5,H⟩|⟨c5,H⟩
 ·have c5b0:=beq_iff_eq.mpr c5;have c5b1:=bne_eq_false_iff_eq.mpr c5;clear c5;replace H:=Option.bind_eq_some_iff.mp H;obtain ⟨⟨t177,t178⟩,A60,H⟩:=H;have A6:=wA.mk A60;clear A60;replace H:=zzi H;obtain ⟨c7,H⟩:=H;have c7b0:=eq_true c7;have c7b1:=decide_eq_true c7;clear c7;replace H:=zzi H;obtain ⟨c8,H⟩:=H;have c8b0:=eq_true c8;have c8b1:=decide_eq_true c8;clear c8;obtain ⟨y181,hy181⟩:∃ y_:List Int,y_ = (List.replicate ((l0.length:Int):Int).toNat 0):=⟨_,rfl⟩;replace H:(U25.l0 k l0 a2 t177 t178 y181 ([]:List (S44)) l1 (l1.length:Int) 0) = some (r1,r2,r3):=(have h0_:=hy181;zz22);have Ny181:=wA.mk hy181;clear hy181;have H':=wA.mk H;clear H;go_enter Tryd.func18,Tryd.ntmps18
  go_wp2_with (first|((with_reducible refine wI (f:=32) rfl ?_);refine wR (some 20) rfl rfl Tryd.func32 (zz0) rfl #[.slice A0 l0.length c0,.slice A1 l1.length c1] rfl (zz20) ?_;(with_reducible refine (U36.calls k _ _ l0 _ _ l1 t176 _ ?_ ?_ ?_ ?_ A4.out).mono ?_);exact zz159;exact HC0.out;exact zz167;exact HC1.out;rintro e w9 ⟨rfl,hb⟩;refine ⟨_,rfl,?_⟩;replace HB:=wA.mk (wC (zz3) hb);(try clear hb))|((with_reducible refine wI (f:=38) rfl ?_);refine wR (some 29) rfl rfl Tryd.func38 (zz0) rfl #[.int .u64 a2,.int .i64 (l0.length:Int)] rfl (zz20) ?_;(with_reducible refine (U2.calls k a2 (l0.length:Int) t177 t178 _ A6.out).mono ?_);rintro e w10 ⟨v179,rfl,ho0,hb⟩;refine ⟨_,rfl,?_⟩;have HO180:=wA.mk (Kd.R_lower ho0 (wB (zz3)));replace HB:=wA.mk (wC (zz3) hb);(try clear hb);(try clear ho0))|((with_reducible refine wL (N:=34) rfl ?_);refine Kd.R_make (Kd.int .i64) _ 3 rfl (N:=34) rfl 23 _ _ rfl (l0.length:Int) rfl rfl Tryd.underlying23 (.int .i64 0) 8 info3 rfl (zz24) (zz1) 0 (ok:=fun _=>True) (okp:=fun _=>True) rfl (fun _ hk=>hk) trivial (of_decide_eq_true (zz4)) (Nat.le_trans (Nat.mul_le_mul_right _ (of_decide_eq_true (zz4):(l0.length:Int).toNat≤35184372088832)) (zz1)) (Below.refl _ _) (Nat.le_refl _) ?_;intro v182 w11 ho12 hb hg_ hnew_;clear hg_ hnew_;(first|rw [← Ny181.out] at ho12|(simp only [Int.reduceToNat] at ho12;rw [← Ny181.out] at ho12));have HO183:=wA.mk (Kd.R_lower (Kd.R_new' ho12 (Kd.R_lt (have h0_:=HO180;zz25))) (wB (zz3)));replace HO180:=wA.mk (Kd.R_elder' (have h0_:=HO180;zz25) (Kd.R_base ho12) hb);replace HB:=wA.mk (wC (zz3) hb);clear hb ho12))
  go_loopg [13,37] k (fun kq v13 v37 w'=>∃ (x12_1:List Int) (x13_1:List (S44)) (x37_1:Int),v37 = .int .i64 x37_1∧wA (U25.l0 kq l0 a2 t177 t178 x12_1 x13_1 l1 (l1.length:Int) x37_1 = some (r1,r2,r3))∧wA (kq≤k)∧wA (Kd.R (Kd.int .i64) 3 w' w.heap.size (fun k_=>some k_ ≠ (v182:Value).ownBlock) v179 t177)∧wA (Kd.R (Kd.int .i64) 3 w' w.heap.size (fun k_=>some k_ ≠ (v179:Value).ownBlock) v182 x12_1)∧wA (Kd.R k44 44 w' w.heap.size (fun _=>True) v13 x13_1)∧wA (Below w.heap.size w w'))
  case atStart=>exact ⟨(y181),(([]:List (S44))),(0),(zz2),H',⟨Nat.le_refl _⟩,⟨(have h0_:=HO180;zz39)⟩,⟨(have h0_:=HO183;zz39)⟩,⟨zz21⟩,⟨zz3⟩⟩
  case round =>
   clear H'
   (try clear c1);clear c5b0 c5b1 c7b0 c7b1 c8b0 c8b1
   obtain ⟨x12_1,x13_1,x37_1,rfl,HA,HK1,HO_10,HO_12,HO_13,HB⟩:=hrel
   cases gk with
   | zero=>exact absurd HA.out (by simp [U25.l0])
   | succ k1 =>
    have H:=HA.out;clear HA;simp only [U25.l0] at H;replace H:=zzj H;rcases H with ⟨c13,H⟩|⟨c13,H⟩
    ·have c13b0:=decide_eq_true c13;clear c13;replace H:=zzi H;obtain ⟨c14,H⟩:=H;have c14b0:=decide_eq_true c14;clear c14;replace H:=zzi H;obtain ⟨c15,H⟩:=H;have c15b0:=decide_eq_true c15;clear c15;replace H:=zzb H;obtain ⟨t185,A16,H⟩:=H;replace H:=zzj H;rcases H with ⟨c17,H⟩|⟨c17,H⟩
     ·have c17b0:=decide_eq_true c17;clear c17;simp only [Option.some.injEq,Prod.mk.injEq] at H;obtain ⟨rfl,rfl,rfl⟩:=H;have p184:0≤(x37_1:Int):=of_decide_eq_true (zz4);have q184:x37_1 < (l1.length:Int):=of_decide_eq_true (zz4);obtain ⟨ad184,e184,hx184_0⟩:=Kd.at_int HR1.out x37_1 p184 q184
      cases e184
      replace hx184_0:=(HB.out.cell (World.block_lt_of_cell? w _ hx184_0)).trans hx184_0;replace p184:=eq_true p184;replace q184:=eq_true q184;obtain ⟨Ao18,co18,eo18⟩:=Kd.R_slice HO_10.out;subst eo18;obtain ⟨Ao19,co19,eo19⟩:=Kd.R_slice HO_12.out;subst eo19
      go_wp2_with (first|((with_reducible refine wI (f:=39) rfl ?_);refine wR (some 45) rfl rfl Tryd.func39 (zz0) rfl #[.slice A0 l0.length c0,.slice Ao18 t177.length co18,.slice Ao19 x12_1.length co19,.int .i64 (rd l1 x37_1),.int .i64 (-1)] rfl (zz20) ?_;(with_reducible refine (U37.calls k1 _ _ l0 _ _ t177 _ _ x12_1 (rd l1 x37_1) (-1) t185 _ ?_ ?_ ?_ ?_ ?_ ?_ A16.out).mono ?_);exact zz166;exact HC0.out;(exact (have h0_:=HO_10;zz163));exact zz168;(exact (have h0_:=HO_12;zz163));(exact (have h0_:=HO_12;zz169));rintro e w20 ⟨rfl,hb⟩;refine ⟨_,rfl,?_⟩;replace HO_10:=wA.mk (Kd.R_below (zz40) hb);replace HO_12:=wA.mk (Kd.R_below (have h0_:=HO_12;zz25) hb);replace HO_13:=wA.mk (Kd.R_below (zz41) hb);replace HB:=wA.mk (wC (zz3) hb);(try clear hb)))
      go_ret3
      exact ⟨_,zz8,zz21,zz3⟩
     ·have c17b0:=decide_eq_false c17;clear c17;replace H:=zzb H;obtain ⟨t186,A21,H⟩:=H;replace H:=zzj H;rcases H with ⟨c22,H⟩|⟨c22,H⟩
      ·have c22b0:=decide_eq_true c22;clear c22;simp only [Option.some.injEq,Prod.mk.injEq] at H;obtain ⟨rfl,rfl,rfl⟩:=H;have p184:0≤(x37_1:Int):=of_decide_eq_true (zz4);have q184:x37_1 < (l1.length:Int):=of_decide_eq_true (zz4);obtain ⟨ad184,e184,hx184_0⟩:=Kd.at_int HR1.out x37_1 p184 q184
       cases e184
       replace hx184_0:=(HB.out.cell (World.block_lt_of_cell? w _ hx184_0)).trans hx184_0;replace p184:=eq_true p184;replace q184:=eq_true q184;obtain ⟨Ao23,co23,eo23⟩:=Kd.R_slice HO_10.out;subst eo23;obtain ⟨Ao24,co24,eo24⟩:=Kd.R_slice HO_12.out;subst eo24
       go_wp2_with (first|((with_reducible refine wI (f:=39) rfl ?_);refine wR (some 45) rfl rfl Tryd.func39 (zz0) rfl #[.slice A0 l0.length c0,.slice Ao23 t177.length co23,.slice Ao24 x12_1.length co24,.int .i64 (rd l1 x37_1),.int .i64 (-1)] rfl (zz20) ?_;(with_reducible refine (U37.calls k1 _ _ l0 _ _ t177 _ _ x12_1 (rd l1 x37_1) (-1) t185 _ ?_ ?_ ?_ ?_ ?_ ?_ A16.out).mono ?_);exact zz166;exact HC0.out;(exact (have h0_:=HO_10;zz163));exact zz168;(exact (have h0_:=HO_12;zz163));(exact (have h0_:=HO_12;zz169));rintro e w25 ⟨rfl,hb⟩;refine ⟨_,rfl,?_⟩;replace HO_10:=wA.mk (Kd.R_below (zz40) hb);replace HO_12:=wA.mk (Kd.R_below (have h0_:=HO_12;zz25) hb);replace HO_13:=wA.mk (Kd.R_below (zz41) hb);replace HB:=wA.mk (wC (zz3) hb);(try clear hb))|((with_reducible refine wI (f:=39) rfl ?_);refine wR (some 54) rfl rfl Tryd.func39 (zz0) rfl #[.slice A0 l0.length c0,.slice Ao23 t177.length co23,.slice Ao24 x12_1.length co24,.int .i64 (rd l1 x37_1),.int .i64 t185] rfl (zz20) ?_;(with_reducible refine (U37.calls k1 _ _ l0 _ _ t177 _ _ x12_1 (rd l1 x37_1) t185 t186 _ ?_ ?_ ?_ ?_ ?_ ?_ A21.out).mono ?_);exact zz166;exact HC0.out;(exact (have h0_:=HO_10;zz163));exact zz168;(exact (have h0_:=HO_12;zz163));(exact (have h0_:=HO_12;zz169));rintro e w26 ⟨rfl,hb⟩;refine ⟨_,rfl,?_⟩;replace HO_10:=wA.mk (Kd.R_below (zz40) hb);replace HO_12:=wA.mk (Kd.R_below (have h0_:=HO_12;zz25) hb);replace HO_13:=wA.mk (Kd.R_below (zz41) hb);replace HB:=wA.mk (wC (zz3) hb);(try clear hb)))
       go_ret3
       exact ⟨_,zz8,zz21,zz3⟩
      ·have c22b0:=decide_eq_false c22;clear c22;replace H:=zzi H;obtain ⟨c27,H⟩:=H;have c27b0:=decide_eq_true c27;clear c27;replace H:=zzi H;obtain ⟨c28,H⟩:=H;have c28b0:=decide_eq_true c28;clear c28;obtain ⟨y188,hy188⟩:∃ y_:List Int,y_ = (x12_1.set (t185:Int).toNat (wrap64 ((rd x12_1 t185)+1))):=⟨_,rfl⟩;replace H:(if 0≤t186 then (if t186 < (x12_1.length:Int) then (if t185 < (l0.length:Int) then (if t186 < (l0.length:Int) then ((some (([(⟨rd l1 x37_1,(rd_T26 l0 t185).f0⟩:S44),(⟨rd l1 x37_1,(rd_T26 l0 t186).f0⟩:S44)]:List (S44)):List (S44))).bind fun y193=>(if x13_1.length+y193.length < 8796093022208 then (U25.l0 k1 l0 a2 t177 t178 (y188.set (t186:Int).toNat (wrap64 ((rd y188 t186)+1))) (x13_1++y193) l1 (l1.length:Int) (wrap64 (x37_1+1))) else (none))) else (none)) else (none)) else (none)) else (none)) = some (r1,r2,r3):=(have h0_:=hy188;zz22);have Ny188:=wA.mk hy188;clear hy188;replace H:=zzi H;obtain ⟨c30,H⟩:=H;have c30b0:=decide_eq_true c30;clear c30;replace H:=zzi H;obtain ⟨c31,H⟩:=H;have c31b0:=decide_eq_true c31;clear c31;obtain ⟨y190,hy190⟩:∃ y_:List Int,y_ = (y188.set (t186:Int).toNat (wrap64 ((rd y188 t186)+1))):=⟨_,rfl⟩;replace H:(if t185 < (l0.length:Int) then (if t186 < (l0.length:Int) then ((some (([(⟨rd l1 x37_1,(rd_T26 l0 t185).f0⟩:S44),(⟨rd l1 x37_1,(rd_T26 l0 t186).f0⟩:S44)]:List (S44)):List (S44))).bind fun y193=>(if x13_1.length+y193.length < 8796093022208 then (U25.l0 k1 l0 a2 t177 t178 y190 (x13_1++y193) l1 (l1.length:Int) (wrap64 (x37_1+1))) else (none))) else (none)) else (none)) = some (r1,r2,r3):=(have h0_:=hy190;zz22);have Ny190:=wA.mk hy190;clear hy190;replace H:=zzi H;obtain ⟨c33,H⟩:=H;have c33b0:=decide_eq_true c33;clear c33;replace H:=zzi H;obtain ⟨c34,H⟩:=H;have c34b0:=decide_eq_true c34;clear c34;obtain ⟨y193,hy193⟩:∃ y_:List (S44),y_ = (([(⟨rd l1 x37_1,(rd_T26 l0 t185).f0⟩:S44),(⟨rd l1 x37_1,(rd_T26 l0 t186).f0⟩:S44)]:List (S44))):=⟨_,rfl⟩;replace H:(if x13_1.length+y193.length < 8796093022208 then (U25.l0 k1 l0 a2 t177 t178 y190 (x13_1++y193) l1 (l1.length:Int) (wrap64 (x37_1+1))) else (none)) = some (r1,r2,r3):=(have h0_:=hy193;zz22);have Ny193:=wA.mk hy193;clear hy193;replace H:=zzi H;obtain ⟨c35,H⟩:=H;have LMc35:=wA.mk c35;clear c35;obtain ⟨y196,hy196⟩:∃ y_:List (S44),y_ = (x13_1++y193):=⟨_,rfl⟩;replace H:(U25.l0 k1 l0 a2 t177 t178 y190 y196 l1 (l1.length:Int) (wrap64 (x37_1+1))) = some (r1,r2,r3):=(have h0_:=hy196;zz22);have Ny196:=wA.mk hy196;clear hy196;have H':=wA.mk H;clear H;have p184:0≤(x37_1:Int):=of_decide_eq_true (zz4);have q184:x37_1 < (l1.length:Int):=of_decide_eq_true (zz4);obtain ⟨ad184,e184,hx184_0⟩:=Kd.at_int HR1.out x37_1 p184 q184
       cases e184
       replace hx184_0:=(HB.out.cell (World.block_lt_of_cell? w _ hx184_0)).trans hx184_0;replace p184:=eq_true p184;replace q184:=eq_true q184;obtain ⟨Ao36,co36,eo36⟩:=Kd.R_slice HO_10.out;subst eo36;obtain ⟨Ao37,co37,eo37⟩:=Kd.R_slice HO_12.out;subst eo37
       try go_wp2_with (first|((with_reducible refine wI (f:=39) rfl ?_);refine wR (some 45) rfl rfl Tryd.func39 (zz0) rfl #[.slice A0 l0.length c0,.slice Ao36 t177.length co36,.slice Ao37 x12_1.length co37,.int .i64 (rd l1 x37_1),.int .i64 (-1)] rfl (zz20) ?_;(with_reducible refine (U37.calls k1 _ _ l0 _ _ t177 _ _ x12_1 (rd l1 x37_1) (-1) t185 _ ?_ ?_ ?_ ?_ ?_ ?_ A16.out).mono ?_);exact zz166;exact HC0.out;(exact (have h0_:=HO_10;zz163));exact zz168;(exact (have h0_:=HO_12;zz163));(exact (have h0_:=HO_12;zz169));rintro e w38 ⟨rfl,hb⟩;refine ⟨_,rfl,?_⟩;replace HO_10:=wA.mk (Kd.R_below (zz40) hb);replace HO_12:=wA.mk (Kd.R_below (have h0_:=HO_12;zz25) hb);replace HO_13:=wA.mk (Kd.R_below (zz41) hb);replace HB:=wA.mk (wC (zz3) hb);(try clear hb))|((with_reducible refine wI (f:=39) rfl ?_);refine wR (some 54) rfl rfl Tryd.func39 (zz0) rfl #[.slice A0 l0.length c0,.slice Ao36 t177.length co36,.slice Ao37 x12_1.length co37,.int .i64 (rd l1 x37_1),.int .i64 t185] rfl (zz20) ?_;(with_reducible refine (U37.calls k1 _ _ l0 _ _ t177 _ _ x12_1 (rd l1 x37_1) t185 t186 _ ?_ ?_ ?_ ?_ ?_ ?_ A21.out).mono ?_);exact zz166;exact HC0.out;(exact (have h0_:=HO_10;zz163));exact zz168;(exact (have h0_:=HO_12;zz163));(exact (have h0_:=HO_12;zz169));rintro e w39 ⟨rfl,hb⟩;refine ⟨_,rfl,?_⟩;replace HO_10:=wA.mk (Kd.R_below (zz40) hb);replace HO_12:=wA.mk (Kd.R_below (have h0_:=HO_12;zz25) hb);replace HO_13:=wA.mk (Kd.R_below (zz41) hb);replace HB:=wA.mk (wC (zz3) hb);(try clear hb);have p187:0≤(t185:Int):=of_decide_eq_true (zz4);have q187:t185 < (x12_1.length:Int):=of_decide_eq_true (zz4);obtain ⟨ad187,e187,hx187_0⟩:=Kd.at_int (Kd.R_reads' HO_12.out).2.2 t185 p187 q187;cases e187;replace p187:=eq_true p187;replace q187:=eq_true q187;have p29:0≤(t185:Int):=of_decide_eq_true (zz4);have q29:(t185:Int) < ((x12_1.length:Int):Int):=of_decide_eq_true (zz4);obtain ⟨go29,co29,eo29,gb29,gl29,cl29,HG29⟩:=Kd.R_form HO_12.out (zz1);(first|cases eo29|(injection eo29 with ea_ en_ ec_;(first|subst ea_|(injection ea_ with ea_;subst ea_));subst ec_;clear en_));have GB29:=wA.mk gb29;have GG29:=wA.mk HG29;clear gb29 gl29 HG29;(first|simp only [zL] at hx187_0|skip);obtain ⟨hx29_0,hf29_0⟩:=Kd.R_celln 0 HO_12.out (t185:Int) p29 q29;replace p29:=eq_true p29;replace q29:=eq_true q29;obtain ⟨hy40_,hz40_⟩:=Kd.R_celln 0 HO_12.out (t185:Int) (of_decide_eq_true (zz4)) (of_decide_eq_true (zz4));have HP40:=Kd.R_putg HO_12.out (t185:Int) (wrap64 ((rd x12_1 t185)+1)))|((with_reducible refine yQ (t:=3) (p:=63) rfl ?_);refine yM (t:=3) (p:=63) (v:=?vo_w41) (w1:=(w39.setCell ⟨go29,(t185:Int).toNat,none⟩ (.int .i64 (wrap64 ((rd x12_1 t185)+1))))) ?hg ?ho ?hn ?hr ?_;(case ho=>rfl);(case hg=>rfl);(case hn=>rfl);(case hr=>exact zz157);intro w41 hw;have hg:w39.grownBy w41 (some go29):=(by rw [hw];exact HP40.2);have hp_:Kd.R (Kd.int .i64) 3 w41 w.heap.size (fun k_=>some k_ ≠ (.slice Ao36 t177.length co36:Value).ownBlock) (.slice (some ⟨go29,0,none⟩) x12_1.length co37) y188:=(by rw [hw,Ny188.out];exact HP40.1);clear HP40;replace HO_10:=wA.mk (Kd.R_after (v:=(.slice (some ⟨go29,0,none⟩) x12_1.length co37)) (v1:=(.slice (some ⟨go29,0,none⟩) x12_1.length co37)) (ok:=(fun _=>True)) (by (with_reducible repeat (first|apply Kd.R_alloc|apply Kd.R_drewN|apply Kd.R_drew));exact Kd.R_mono HO_10.out (fun _ hk=>⟨trivial,hk⟩)) hg (.inl rfl));replace HO_13:=wA.mk (Kd.R_over' (v:=(.slice (some ⟨go29,0,none⟩) x12_1.length co37)) (zz41) (Kd.R_typed HO_12.out) (zz24) hg);replace HO_12:=wA.mk (hp_);replace HB:=wA.mk ((by rw [hw];exact wO (HB.out) GB29.out:Below w.heap.size w w41));clear hg hw hp_;have p189:0≤(t186:Int):=of_decide_eq_true (zz4);have q189:t186 < (y188.length:Int):=(by have h_:(t186:Int) < ((x12_1.length:Int):Int):=of_decide_eq_true (zz4);first|(have e_:=(Kd.R_reads' HO_12.out).1;omega)|simpa only [Ny188.out,List.length_set] using h_);have ql189:((t186:Int) < ((x12_1.length:Int):Int)) = True:=eq_true (of_decide_eq_true (zz4));obtain ⟨ad189,e189,hx189_0⟩:=Kd.at_int (Kd.R_reads' HO_12.out).2.2 t186 p189 q189;obtain rfl:(⟨go29,0,none⟩:Addr) = ad189:=(by injection e189);(first|simp only [zL] at hx189_0|simp only [add_at] at hx189_0|simp only [Addr.add,Nat.zero_add] at hx189_0|skip);replace p189:=eq_true p189;replace q189:=eq_true q189;have p32:0≤(t186:Int):=of_decide_eq_true (zz4);have q32:(t186:Int) < ((x12_1.length:Int):Int):=of_decide_eq_true (zz4);obtain ⟨hx32_0,hf32_0⟩:=Kd.R_celln 0 HO_12.out (t186:Int) p32 q32;replace p32:=eq_true p32;replace q32:=eq_true q32;obtain ⟨hy42_,hz42_⟩:=Kd.R_celln 0 HO_12.out (t186:Int) (of_decide_eq_true (zz4)) (of_decide_eq_true (zz4));have HP42:=Kd.R_putg HO_12.out (t186:Int) (wrap64 ((rd y188 t186)+1)))|((with_reducible refine yQ (t:=3) (p:=69) rfl ?_);refine yM (t:=3) (p:=69) (v:=?vo_w43) (w1:=(w41.setCell ⟨go29,(t186:Int).toNat,none⟩ (.int .i64 (wrap64 ((rd y188 t186)+1))))) ?hg ?ho ?hn ?hr ?_;(case ho=>rfl);(case hg=>rfl);(case hn=>rfl);(case hr=>exact zz157);intro w43 hw;have hg:w41.grownBy w43 (some go29):=(by rw [hw];exact HP42.2);have hp_:Kd.R (Kd.int .i64) 3 w43 w.heap.size (fun k_=>some k_ ≠ (.slice Ao36 t177.length co36:Value).ownBlock) (.slice (some ⟨go29,0,none⟩) x12_1.length co37) y190:=(by rw [hw,Ny190.out];exact HP42.1);clear HP42;replace HO_10:=wA.mk (Kd.R_after (v:=(.slice (some ⟨go29,0,none⟩) x12_1.length co37)) (v1:=(.slice (some ⟨go29,0,none⟩) x12_1.length co37)) (ok:=(fun _=>True)) (zz40) hg (.inl rfl));replace HO_13:=wA.mk (Kd.R_over' (v:=(.slice (some ⟨go29,0,none⟩) x12_1.length co37)) (zz41) (Kd.R_typed HO_12.out) (zz24) hg);replace HO_12:=wA.mk (hp_);replace HB:=wA.mk ((by rw [hw];exact wO (HB.out) GB29.out:Below w.heap.size w w43));clear hg hw hp_))
       replace HO_10:=wA.mk (Kd.R_drew HO_10.out);replace HO_12:=wA.mk (Kd.R_drew HO_12.out);replace HO_13:=wA.mk (Kd.R_drew HO_13.out);replace HB:=wA.mk (wS HB.out);have p191:0≤(t185:Int):=of_decide_eq_true (zz4);have q191:t185 < (l0.length:Int):=of_decide_eq_true (zz4);obtain ⟨ad191,A191_2,c191_2,e191,hx191_0,hx191_1,hx191_2,hl191_2,hi191_2⟩:=at_T26 HR0.out t185 p191 q191;have hw191_2:=hx191_2;have hw191_1:=hx191_1;have hw191_0:=hx191_0
       cases e191
       replace hx191_0:=(HB.out.cell (World.block_lt_of_cell? w _ hx191_0)).trans hx191_0;replace hx191_1:=(HB.out.cell (World.block_lt_of_cell? w _ hx191_1)).trans hx191_1;replace hx191_2:=(HB.out.cell (World.block_lt_of_cell? w _ hx191_2)).trans hx191_2;have HR191_2:=wA.mk hi191_2;have HC191_2:=wA.mk hl191_2;clear hi191_2 hl191_2;replace p191:=eq_true p191;replace q191:=eq_true q191;have p192:0≤(t186:Int):=of_decide_eq_true (zz4);have q192:t186 < (l0.length:Int):=of_decide_eq_true (zz4);obtain ⟨ad192,A192_2,c192_2,e192,hx192_0,hx192_1,hx192_2,hl192_2,hi192_2⟩:=at_T26 HR0.out t186 p192 q192;have hw192_2:=hx192_2;have hw192_1:=hx192_1;have hw192_0:=hx192_0;obtain rfl:ad191 = ad192:=(by injection e192);replace hx192_0:=(HB.out.cell (World.block_lt_of_cell? w _ hx192_0)).trans hx192_0;replace hx192_1:=(HB.out.cell (World.block_lt_of_cell? w _ hx192_1)).trans hx192_1;replace hx192_2:=(HB.out.cell (World.block_lt_of_cell? w _ hx192_2)).trans hx192_2;have HR192_2:=wA.mk hi192_2;have HC192_2:=wA.mk hl192_2;clear hi192_2 hl192_2;replace p192:=eq_true p192;replace q192:=eq_true q192;refine yO (n:=18) (S:=fun w'=>w'.cell? (ad191.add ((t185).toNat * 3)) = some (.int .i64 ((rd_T26 l0 t185).f0))∧w'.cell? ⟨(ad191.add ((t185).toNat * 3)).block,(ad191.add ((t185).toNat * 3)).off+1,none⟩ = some (.int .i64 ((rd_T26 l0 t185).f1))∧w'.cell? ⟨(ad191.add ((t185).toNat * 3)).block,(ad191.add ((t185).toNat * 3)).off+2,none⟩ = some (.slice A191_2 ((rd_T26 l0 t185).f2).length c191_2)∧w'.cell? (ad191.add ((t186).toNat * 3)) = some (.int .i64 ((rd_T26 l0 t186).f0))∧w'.cell? ⟨(ad191.add ((t186).toNat * 3)).block,(ad191.add ((t186).toNat * 3)).off+1,none⟩ = some (.int .i64 ((rd_T26 l0 t186).f1))∧w'.cell? ⟨(ad191.add ((t186).toNat * 3)).block,(ad191.add ((t186).toNat * 3)).off+2,none⟩ = some (.slice A192_2 ((rd_T26 l0 t186).f2).length c192_2)) (ds:=[]) #[false,false,false,false,false,false,false,false,false,false,false,false,false,false,false,false,false,false] (zz0) rfl rfl ⟨((HB.out.cell (World.block_lt_of_cell? w _ hw191_0)).trans hw191_0),((HB.out.cell (World.block_lt_of_cell? w _ hw191_1)).trans hw191_1),((HB.out.cell (World.block_lt_of_cell? w _ hw191_2)).trans hw191_2),((HB.out.cell (World.block_lt_of_cell? w _ hw192_0)).trans hw192_0),((HB.out.cell (World.block_lt_of_cell? w _ hw192_1)).trans hw192_1),((HB.out.cell (World.block_lt_of_cell? w _ hw192_2)).trans hw192_2)⟩ (fun hHeld=>?_);refine yC U25.tab18 U25.bits18 (fun HT_ HW_=>?_)
       generalize w43.drew = w44 at HO_10 HO_12 HO_13 HB HR191_2 HR192_2 hx191_0 hx191_1 hx191_2 hx192_0 hx192_1 hx192_2 hHeld ⊢
       refine zzp 0 70 ?_ #[true,false,false,false,false,false,false,false,false,false,false,false,false,false,false,false,false,false] rfl rfl (wJ HT_.out (zz0)) (fun _ _ _ h=>h) (Or.inl ⟨zz37,?_⟩) ?_ ?_ ?_;rotate_left
       ·intro w'
        go_simp
        with_reducible rfl
       rotate_left
       ·simp only [zzs]
        rfl
       refine zzp 1 71 ?_ #[true,true,false,false,false,false,false,false,false,false,false,false,false,false,false,false,false,false] rfl rfl (wJ HT_.out (zz0)) (fun _ _ _ h=>h) (Or.inl ⟨zz37,?_⟩) ?_ ?_ ?_;rotate_left
       ·intro w'
        go_simp
        with_reducible rfl
       rotate_left
       ·simp only [zzs]
        rfl
       refine zzp 2 72 ?_ #[true,true,true,false,false,false,false,false,false,false,false,false,false,false,false,false,false,false] rfl rfl (wJ HT_.out (zz0)) (fun _ _ _ h=>h) (Or.inl ⟨zz37,?_⟩) ?_ ?_ ?_;rotate_left
       ·intro w'
        go_simp
        with_reducible rfl
       rotate_left
       ·simp only [zzs]
        rfl
       refine zzp 3 73 ?_ #[true,true,true,true,false,false,false,false,false,false,false,false,false,false,false,false,false,false] rfl rfl (wJ HT_.out (zz0)) (fun _ _ _ h=>h) (Or.inl ⟨zz37,?_⟩) ?_ ?_ ?_;rotate_left
       ·intro w'
        go_simp
        with_reducible rfl
       rotate_left
       ·simp only [zzs]
        rfl
       refine zzp 4 74 ?_ #[true,true,true,true,true,false,false,false,false,false,false,false,false,false,false,false,false,false] rfl rfl (wJ HT_.out (zz0)) (fun _ _ _ h=>h) (Or.inl ⟨zz37,?_⟩) ?_ ?_ ?_;rotate_left
       ·intro w'
        go_simp
        with_reducible rfl
       rotate_left
       ·simp only [zzs]
        rfl
       refine zzp 5 75 ?_ #[true,true,true,true,true,true,false,false,false,false,false,false,false,false,false,false,false,false] rfl rfl (wJ HT_.out (zz0)) (fun _ _ _ h=>h) (Or.inl ⟨zz37,?_⟩) ?_ ?_ ?_;rotate_left
       ·intro w'
        go_simp
        with_reducible rfl
       rotate_left
       ·simp only [zzs]
        rfl
       refine zzp 8 78 ?_ #[true,true,true,true,true,true,false,false,true,false,false,false,false,false,false,false,false,false] rfl rfl (wJ HT_.out (zz0)) (fun _ _ _ h=>h) (Or.inl ⟨zz37,?_⟩) ?_ ?_ ?_;rotate_left
       ·intro w'
        go_simp
        with_reducible rfl
       rotate_left
       ·simp only [zzs]
        rfl
       refine zzp 9 79 ?_ #[true,true,true,true,true,true,false,false,true,true,false,false,false,false,false,false,false,false] rfl rfl (wJ HT_.out (zz0)) (fun _ _ _ h=>h) (Or.inl ⟨zz37,?_⟩) ?_ ?_ ?_;rotate_left
       ·intro w'
        go_simp
        with_reducible rfl
       rotate_left
       ·simp only [zzs]
        rfl
       refine zzp 10 80 ?_ #[true,true,true,true,true,true,false,false,true,true,true,false,false,false,false,false,false,false] rfl rfl (wJ HT_.out (zz0)) (fun _ _ _ h=>h) (Or.inl ⟨zz37,?_⟩) ?_ ?_ ?_;rotate_left
       ·intro w'
        go_simp
        with_reducible rfl
       rotate_left
       ·simp only [zzs]
        rfl
       refine zzp 11 81 ?_ #[true,true,true,true,true,true,false,false,true,true,true,true,false,false,false,false,false,false] rfl rfl (wJ HT_.out (zz0)) (fun _ _ _ h=>h) (Or.inl ⟨zz37,?_⟩) ?_ ?_ ?_;rotate_left
       ·intro w'
        go_simp
        with_reducible rfl
       rotate_left
       ·simp only [zzs]
        rfl
       refine zzp 12 82 ?_ #[true,true,true,true,true,true,false,false,true,true,true,true,true,false,false,false,false,false] rfl rfl (wJ HT_.out (zz0)) (fun _ _ _ h=>h) (Or.inl ⟨zz37,?_⟩) ?_ ?_ ?_;rotate_left
       ·intro w'
        go_simp
        with_reducible rfl
       rotate_left
       ·simp only [zzs]
        rfl
       refine take_ (i:=6) (N:=some 76) (v:=?_) (a':=?_) #[true,true,true,true,true,true,true,false,true,true,true,true,true,false,false,false,false,false] rfl rfl (wT HT_.out HW_.out (zz0)) (fun _ _ _ h=>h) (Or.inl ⟨zz37,?_⟩) hHeld ?_ ?_;rotate_left
       ·rintro w' ⟨s0,s1,s2,s3,s4,s5⟩
        go_simp
        with_reducible rfl
       rotate_left
       ·simp only [zzs]
        rfl
       refine zzp 7 77 ?_ #[true,true,true,true,true,true,true,true,true,true,true,true,true,false,false,false,false,false] rfl rfl (wJ HT_.out (zz0)) (fun _ _ _ h=>h) (Or.inl ⟨zz37,?_⟩) ?_ ?_ ?_;rotate_left
       ·intro w'
        go_simp
        with_reducible rfl
       rotate_left
       ·simp only [zzs]
        rfl
       refine take_ (i:=13) (N:=some 83) (v:=?_) (a':=?_) #[true,true,true,true,true,true,true,true,true,true,true,true,true,true,false,false,false,false] rfl rfl (wT HT_.out HW_.out (zz0)) (fun _ _ _ h=>h) (Or.inl ⟨zz37,?_⟩) hHeld ?_ ?_;rotate_left
       ·rintro w' ⟨s0,s1,s2,s3,s4,s5⟩
        go_simp
        with_reducible rfl
       rotate_left
       ·simp only [zzs]
        rfl
       refine zzp 14 84 ?_ #[true,true,true,true,true,true,true,true,true,true,true,true,true,true,true,false,false,false] rfl rfl (wJ HT_.out (zz0)) (fun _ _ _ h=>h) (Or.inl ⟨zz37,?_⟩) ?_ ?_ ?_;rotate_left
       ·intro w'
        go_simp
        with_reducible rfl
       rotate_left
       ·simp only [zzs]
        rfl
       refine yY (i:=15) (N:=some 85) #[true,true,true,true,true,true,true,true,true,true,true,true,true,true,true,true,false,false] rfl rfl (yJ HT_.out (zz0)) (zz24) (fun K hK=>?_);refine Kd.R_lit_step k44 _ 44 ?hg (N:=85) ?hd (xs:=([(⟨rd l1 x37_1,(rd_T26 l0 t185).f0⟩:S44),(⟨rd l1 x37_1,(rd_T26 l0 t186).f0⟩:S44)]:List (S44))) (inner:=[.int .i64 (rd l1 x37_1),.int .i64 ((rd_T26 l0 t185).f0),.int .i64 (rd l1 x37_1),.int .i64 ((rd_T26 l0 t186).f0)]) (ok:=fun _=>True) (okp:=fun _=>True) ?hr ?hp (fun _ hk=>hk) trivial (Below.refl _ _) (Nat.le_refl _) (zz7) ?_;(case hd=>rfl);(case hg=>rfl);(case hr=>exact zz157);(case hp=>exact (wX.c2 (show Kd.M k44 _ _ _ (⟨rd l1 x37_1,(rd_T26 l0 t185).f0⟩:S44) [.int .i64 (rd l1 x37_1),.int .i64 ((rd_T26 l0 t185).f0)] from (k44_mkM _ _ _ (⟨rd l1 x37_1,(rd_T26 l0 t185).f0⟩:S44) )) (wX.c2 (show Kd.M k44 _ _ _ (⟨rd l1 x37_1,(rd_T26 l0 t186).f0⟩:S44) [.int .i64 (rd l1 x37_1),.int .i64 ((rd_T26 l0 t186).f0)] from (k44_mkM _ _ _ (⟨rd l1 x37_1,(rd_T26 l0 t186).f0⟩:S44) )) (wX.none _ _))));intro v194 w45 ho46 hb hg_ hnew_;clear hg_ hnew_
       (first|rw [← Ny193.out] at ho46|(simp only [Int.reduceToNat] at ho46;rw [← Ny193.out] at ho46))
       replace HO_10:=wA.mk (Kd.R_below (zz40) hb);replace HO_12:=wA.mk (Kd.R_below (have h0_:=HO_12;zz25) hb);have HO195:=wA.mk (Kd.R_lower (Kd.R_new' ho46 (Kd.R_lt (zz41))) (wB (zz3)));replace HO_13:=wA.mk (Kd.R_elder' (zz41) (Kd.R_base ho46) hb);replace HB:=wA.mk (wC (zz3) hb);clear hb ho46;obtain ⟨Ao48,co48,eo48⟩:=Kd.R_slice HO195.out
       (first|subst eo48|(injection eo48 with f1_ f2_ f3_;have f4_:=f1_.symm;have f5_:=f3_.symm;clear f1_ f2_ f3_;subst f4_;subst f5_))
       refine hK.out _ _ ⟨((HB.out.cell (World.block_lt_of_cell? w _ hw191_0)).trans hw191_0),((HB.out.cell (World.block_lt_of_cell? w _ hw191_1)).trans hw191_1),((HB.out.cell (World.block_lt_of_cell? w _ hw191_2)).trans hw191_2),((HB.out.cell (World.block_lt_of_cell? w _ hw192_0)).trans hw192_0),((HB.out.cell (World.block_lt_of_cell? w _ hw192_1)).trans hw192_1),((HB.out.cell (World.block_lt_of_cell? w _ hw192_2)).trans hw192_2)⟩ (fun hHeld=>?_);clear hK K;refine wY (a':=?_) ?_ ?_;rotate_left
       ·show Act.put _ (some 85) _ = _
        simp only [zzs]
        rfl
       refine yY (i:=16) (N:=some 86) #[true,true,true,true,true,true,true,true,true,true,true,true,true,true,true,true,true,false] rfl rfl (yJ HT_.out (zz0)) (zz24) (fun K hK=>?_);refine Kd.R_append_rows_step k44 (w0:=w) w.heap.size (zz37) (.tmp 70) (.tmp 85) 24 44 (.agg #[(.int .i64 0),(.int .i64 0)]) 16 rfl Tryd.underlying24 info44 rfl (zz24) (zz1) u13 x13_1 y193 _ _ _ (fun k_=>some k_ ≠ (.slice Ao48 y193.length co48:Value).ownBlock) (fun _=>False) rfl rfl ?aO ?aR (fun _ _ h=>h) (fun _ h=>h.elim) ?aF ?aB ?aS ?aL ?_
       (case aR=>exact (have h0_:=HO195;zz163))
       (case aB=>exact (zz3))
       (case aF=>exact (fun k_ hk=>Kd.fresh' (Kd.R_lt (have h0_:=HO195;zz25)) k_ hk))
       (case aO=>exact (have h0_:=HO_13;zz39))
       (case aS=>exact zz170)
       (case aL=>have:=LMc35.out;omega)
       intro v197 w47 ho hb hg hat;rw [← Ny196.out] at ho;replace HO_10:=wA.mk (Kd.R_over' (zz40) (Kd.R_typed (zz41)) (zz24) hg);replace HO_12:=wA.mk (Kd.R_over' (have h0_:=HO_12;zz25) (Kd.R_typed (zz41)) (zz24) hg);replace HO195:=wA.mk (Kd.R_after (ok:=(fun _=>True)) (have h0_:=HO195;zz25) hg hat);replace HB:=wA.mk (hb);have HO198:=wA.mk (ho);clear HO_13;clear ho hb hg hat;refine hK.out _ _ ⟨((HB.out.cell (World.block_lt_of_cell? w _ hw191_0)).trans hw191_0),((HB.out.cell (World.block_lt_of_cell? w _ hw191_1)).trans hw191_1),((HB.out.cell (World.block_lt_of_cell? w _ hw191_2)).trans hw191_2),((HB.out.cell (World.block_lt_of_cell? w _ hw192_0)).trans hw192_0),((HB.out.cell (World.block_lt_of_cell? w _ hw192_1)).trans hw192_1),((HB.out.cell (World.block_lt_of_cell? w _ hw192_2)).trans hw192_2)⟩ (fun hHeld=>?_);clear hK K;refine wY (a':=?_) ?_ ?_;rotate_left
       ·show Act.put _ (some 86) _ = _
        simp only [zzs]
        rfl
       refine zzp 17 13 ?_ #[true,true,true,true,true,true,true,true,true,true,true,true,true,true,true,true,true,true] rfl rfl (wJ HT_.out (zz0)) (fun _ _ _ h=>h) (Or.inl ⟨zz37,?_⟩) ?_ ?_ ?_;rotate_left
       ·intro w'
        go_simp
        with_reducible rfl
       rotate_left
       ·simp only [zzs]
        rfl
       refine yZ (yN HT_.out (zz0)) ?_
       try go_wp2
       go_roundg k1
       case measure=>have:=HK1.out;omega
       case rel=>exact ⟨(y190),(y196),(wrap64 (x37_1+1)),(zz2),H',⟨zz5⟩,⟨(have h0_:=HO_10;zz39)⟩,⟨(have h0_:=HO_12;zz25)⟩,⟨(have h0_:=HO198;zz42)⟩,⟨zz3⟩⟩
    ·have c13b0:=decide_eq_false c13;clear c13;simp only [Option.some.injEq,Prod.mk.injEq] at H;obtain ⟨rfl,rfl,rfl⟩:=H
     go_wp2
     go_ret3
     exact ⟨_,zz8,zz41,zz3⟩
 ·have c5b0:=beq_eq_false_iff_ne.mpr c5;have c5b1:=bne_iff_ne.mpr c5;simp only [Option.some.injEq,Prod.mk.injEq] at H;obtain ⟨rfl,rfl,rfl⟩:=H;go_enter Tryd.func18,Tryd.ntmps18
  go_wp2_with (first|((with_reducible refine wI (f:=32) rfl ?_);refine wR (some 20) rfl rfl Tryd.func32 (zz0) rfl #[.slice A0 l0.length c0,.slice A1 l1.length c1] rfl (zz20) ?_;(with_reducible refine (U36.calls k _ _ l0 _ _ l1 t176 _ ?_ ?_ ?_ ?_ A4.out).mono ?_);exact zz159;exact HC0.out;exact zz167;exact HC1.out;rintro e w49 ⟨rfl,hb⟩;refine ⟨_,rfl,?_⟩;replace HB:=wA.mk (wC (zz3) hb);(try clear hb)))
  go_ret3
  exact ⟨_,zz8,zz21,zz3⟩
end Go.Proofs.YtnimkmkapajnhaaDoor.QA
