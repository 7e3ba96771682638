import Derived.Test.YtnimkmkapajnhaaDoorRBQAx0
import Derived.Test.YtnimkmkapajnhaaDoorRBQAx5
namespace Go.Proofs.YtnimkmkapajnhaaDoor.QA
open Go.RowKit Go.Proofs.YtnimkmkapajnhaaDoorW.PrintWords Go.Proofs.YtnimkmkapajnhaaDoorW.PrintLast Go.Proofs.YtnimkmkapajnhaaDoorW.PrintMore
attribute [local go_sem] yE yA yI yJ wY wX yC yD
set_option linter.unusedVariables false
set_option linter.unusedSimpArgs false
set_option maxHeartbeats 8000000 in
set_option maxRecDepth 100000 in
theorem clo_calls (x:S26) (A2:Option Addr) (c2:Nat) (g4 g5:Nat) (A1:Option Addr) (c1:Nat) (l1:List S44) (a2:Int) (w:World)
  (hr1:Kd.C k44 w A1 l1.length l1) (hb4:w.heap[g4]? = some (.cells #[.slice A1 l1.length c1] 24 (0,0))) (hb5:w.heap[g5]? = some (.cells #[.int .i64 a2] 3 (0,0))) (h0:0≤a2) (h1:a2 < (l1.length:Int)) :
  Calls Tryd.prog 52 #[.agg #[.int .i64 x.f0,.int .i64 x.f1,.slice A2 x.f2.length c2],.pointer (some ⟨g4,0,none⟩),.pointer (some ⟨g5,0,none⟩)] w fun e w'=>e = .returned (.bool (x.f0 == (rd_T44 l1 a2).f1))∧Below w.heap.size w w':=by
 have hu26:=Tryd.underlying26;have HB:=wA.mk (Below.refl w.heap.size w);have BK4:=wA.mk hb4;have BK5:=wA.mk hb5;clear hb4 hb5;obtain ⟨ad,e,hx0,hx1⟩:=at_T44 hr1 a2 h0 h1
 cases e
 go_enter Tryd.func52,Tryd.ntmps52
 go_wp2_with (first|((with_reducible refine wL (N:=3) rfl ?_);refine wM ?hg (N:=3) ?hd (cs:=#[.int .i64 x.f0,.int .i64 x.f1,.slice A2 x.f2.length c2]) (t:=26) ?hr ?_;(case hd=>rfl);(case hg=>rfl);(case hr=>exact zz156);intro gb127 hg w4 hbox hb;replace HB:=wA.mk (wC (zz3) hb);have BK127:=wA.mk (hbox);replace BK4:=wA.mk (wF (g:=g4) (o:=.cells #[.slice (some ad) l1.length c1] 24 (0,0)) BK4.out hb);replace BK5:=wA.mk (wF (g:=g5) (o:=.cells #[.int .i64 a2] 3 (0,0)) BK5.out hb);clear hb hbox hg;have hcz5_0:w4.cell? ⟨gb127,0,none⟩ = some (.int .i64 x.f0):=(wH BK127.out 0).trans rfl;have hcz4:w4.cell? ⟨g4,0,none⟩ = some (.slice (some ad) l1.length c1):=(wH BK4.out 0).trans rfl;have hcz6:w4.cell? ⟨g5,0,none⟩ = some (.int .i64 a2):=(wH BK5.out 0).trans rfl;replace hx0:=(HB.out.cell (qK w _ hx0)).trans hx0;replace hx1:=(HB.out.cell (qK w _ hx1)).trans hx1))
 replace h0:=eq_true h0;replace h1:=eq_true h1;have hu44:=Tryd.underlying44;have hu24:=Tryd.underlying24
 repeat (go_quiet (fail);try go_wp2)
 go_ret
 exact ⟨rfl,zz3⟩
def fidx (id:Int):List S26→Int→Int
 | [],_=>-1
 | x :: xs,i=>if x.f0 = id then i else fidx id xs (i+1)
theorem fidx_drop (id:Int) {xs:List S26} {i:Nat} (h:i < xs.length) (d:Int):fidx id (xs.drop i) d = if (rd_T26 xs (i:Int)).f0 = id then d else fidx id (xs.drop (i+1)) (d+1):=by
 have e:rd_T26 xs (i:Int) = xs[i]:=by unfold rd_T26;rw [Int.toNat_natCast];simp [List.getD,h]
 rw [List.drop_eq_getElem_cons h,fidx,e]
set_option maxHeartbeats 8000000 in
set_option maxRecDepth 100000 in
theorem idxf_calls (A0:Option Addr) (c0:Nat) (l0:List S26) (g4 g5:Nat) (A1:Option Addr) (c1:Nat) (l1:List S44) (a2:Int) (w:World)
  (hr0:Kd.C k26 w A0 l0.length l0) (hr1:Kd.C k44 w A1 l1.length l1) (hb4:w.heap[g4]? = some (.cells #[.slice A1 l1.length c1] 24 (0,0))) (hb5:w.heap[g5]? = some (.cells #[.int .i64 a2] 3 (0,0))) (h0:0≤a2) (h1:a2 < (l1.length:Int)) (hbig:l0.length≤9223372036854775807) :
  Calls Tryd.prog 51 #[.slice A0 l0.length c0,.func (.func 52) #[] #[.pointer (some ⟨g4,0,none⟩),.pointer (some ⟨g5,0,none⟩)]] w fun e w'=>e = .returned (.int .i64 (fidx (rd_T44 l1 a2).f1 l0 0))∧Below w.heap.size w w':=by
 have hu26:=Tryd.underlying26;have hu22:=Tryd.underlying22;have HR0:=wA.mk hr0;have HR1:=wA.mk hr1;have BK4:=wA.mk hb4;have BK5:=wA.mk hb5;have BG:=wA.mk hbig;have H0:=wA.mk h0;have H1:=wA.mk h1;clear hr0 hr1 hb4 hb5 hbig h0 h1
 generalize hid:(rd_T44 l1 a2).f1 = id
 have HID:=wA.mk hid;clear hid;go_enter Tryd.func51,Tryd.ntmps51
 go_wp2
 go_loopg [5,8] l0.length (fun gg _ s8 wr=>∃ kk:Nat,kk≤l0.length∧l0.length - kk≤gg∧s8 = .int .i64 kk∧wA (Below w.heap.size w wr)∧wA (fidx id l0 0 = fidx id (l0.drop kk) kk))
 case atStart=>exact ⟨0,Nat.zero_le _,zz1,rfl,⟨Below.refl _ w⟩,⟨by rw [List.drop_zero];rfl⟩⟩
 case round =>
  obtain ⟨kk,hkk,hg,rfl,BW,A⟩:=hrel;by_cases hlt:kk < l0.length
  ·have hltz:(kk:Int) < (l0.length:Int):=by omega
   have hge:(0:Int)≤(kk:Int):=zz1;obtain ⟨ad,A2,c2,e,hx0,hx1,hx2,hl2,hk2⟩:=at_T26 HR0.out (kk:Int) hge hltz
   cases e
   have hF:=fidx_drop id hlt (kk:Int);have hc:=clo_calls (rd_T26 l0 (kk:Int)) A2 c2 g4 g5 A1 c1 l1 a2 wr (Kd.C_below HR1.out BW.out) (wF BK4.out BW.out) (wF BK5.out BW.out) H0.out H1.out;rw [HID.out] at hc;replace hx0:=(BW.out.cell (qK w _ hx0)).trans hx0;replace hx1:=(BW.out.cell (qK w _ hx1)).trans hx1;replace hx2:=(BW.out.cell (qK w _ hx2)).trans hx2;rw [Int.toNat_natCast] at hx0 hx1 hx2;have hgez:=eq_true hge;have hltzz:=eq_true hltz;by_cases hq:(rd_T26 l0 (kk:Int)).f0 = id
   ·rw [beq_iff_eq.2 hq] at hc;have HQ:=wA.mk hq;have HF:=wA.mk hF;clear hq hF
    go_wp2_with (go_at_call 52;refine hc.mono ?_;rintro e w' ⟨rfl,hb'⟩)
    go_ret
    exact ⟨by rw [A.out,HF.out,if_pos HQ.out];rfl,wC BW.out hb'⟩
   ·rw [beq_eq_false_iff_ne.2 hq] at hc;have HQ:=wA.mk hq;have HF:=wA.mk hF;clear hq hF
    go_wp2_with (go_at_call 52;refine hc.mono ?_;rintro e w' ⟨rfl,hb'⟩)
    go_roundg (l0.length - (kk+1))
    case measure=>omega
    case rel=>exact ⟨kk+1,zz1,zz1,by rw [show wrap64 ((kk:Int)+1) = ((kk+1:Nat):Int) by unfold wrap64;have:=BG.out;omega],⟨wC BW.out hb'⟩,⟨by rw [A.out,HF.out,if_neg HQ.out];rfl⟩⟩
  ·have hltz:¬ (kk:Int) < (l0.length:Int):=by omega
   go_wp2
   go_ret
   exact ⟨by rw [A.out,List.drop_eq_nil_of_le (zz1)];rfl,BW.out⟩
theorem idxf_at (A0:Option Addr) (c0:Nat) (l0:List S26) (g4 g5:Nat) (A1:Option Addr) (c1:Nat) (l1:List S44) (a2 t:Int) (w:World)
  (hr0:Kd.C k26 w A0 l0.length l0) (hr1:Kd.C k44 w A1 l1.length l1) (hb4:w.heap[g4]? = some (.cells #[.slice A1 l1.length c1] 24 (0,0))) (hb5:w.heap[g5]? = some (.cells #[.int .i64 a2] 3 (0,0))) (h0:0≤a2) (h1:a2 < (l1.length:Int)) (hbig:l0.length≤9223372036854775807) (ht:some (fidx (rd_T44 l1 a2).f1 l0 0) = some t) :
  Calls Tryd.prog 51 #[.slice A0 l0.length c0,.func (.func 52) #[] #[.pointer (some ⟨g4,0,none⟩),.pointer (some ⟨g5,0,none⟩)]] w fun e w'=>e = .returned (.int .i64 t)∧Below w.heap.size w w' :=
 Option.some.inj ht ▸ idxf_calls A0 c0 l0 g4 g5 A1 c1 l1 a2 w hr0 hr1 hb4 hb5 h0 h1 hbig
def U39.g (k:Nat) (l0:List (S26)) (l1:List (S44)) (a2:Int):Option (Int):=(some (fidx (rd_T44 l1 a2).f1 l0 0)).bind fun t107=>(if t107 < 0 then (some 6) else (if 0≤t107 then (if t107 < (l0.length:Int) then (if 0≤a2 then (if a2 < (l1.length:Int) then ((U35.f k ((rd_T26 l0 t107).f0) ((rd_T26 l0 t107).f1) ((rd_T26 l0 t107).f2) ((rd_T44 l1 a2).f0)).bind fun t110=>(if t110 = true then (if (Int.tmod a2 2) = 1 then (if 0≤(wrap64 (a2 - 1)) then (if (wrap64 (a2 - 1)) < (l1.length:Int) then (if ((rd_T44 l1 (wrap64 (a2 - 1))).f1) = ((rd_T44 l1 a2).f1) then (some 7) else (some 0)) else (none)) else (none)) else (some 0)) else (some 10))) else (none)) else (none)) else (none)) else (none)))
theorem zm5_0 {P:Prop} (h:P:=by repeat' first|(with_reducible first|exact U35.mono ..|exact LeO.refl _|exact LeO.none _|refine LeO.ite ?_ ?_|refine LeO.bind ?_ (fun _=>?_))|exact U35.mono ..|exact LeO.none _|refine LeO.ite ?_ ?_|refine LeO.bind ?_ (fun _=>?_)):P:=h
theorem U39.mono0:∀ a0 a1 a2 k,LeO (U39.g k a0 a1 a2) (U39.g (k+1) a0 a1 a2):=by
 intro a0 a1 a2 k;unfold U39.g
 exact zm5_0
def U39.T4:Bool × List (List Nat × List Nat):=(true,[([],[]),([],[]),([0,1],[0,1]),([2],[2]),([],[]),([],[]),([4,5],[4,5]),([6],[6]),([7],[7]),([3,8],[3,8]),([9],[9]),([10,9],[10])])
def U39.B4:List Nat:=[0,0,3,7,0,0,48,112,240,511,1023,2047]
theorem U39.tab4:zH .any (zU Tryd.f33 4) = U39.T4:=zz0
theorem U39.bits4:yY U39.T4.2 U39.B4 = true:=zz0
def U39.T6:Bool × List (List Nat × List Nat):=(true,[([],[]),([0],[0]),([1],[1]),([2],[2]),([3],[3]),([3],[3]),([5,3],[3,5]),([4,6,3],[3,4,6]),([7,3],[3,7]),([8,3],[3,8]),([3],[3]),([3],[3]),([10,11,3],[3,10,11]),([12,3],[3,12]),([13,3],[3,13]),([9,14,3],[3,9,14]),([3,15],[3,15]),([16,3],[16])])
def U39.B6:List Nat:=[0,1,3,7,15,15,47,127,255,511,15,15,3087,7183,15375,32767,65535,131071]
theorem U39.tab6:zH .any (zU Tryd.f33 6) = U39.T6:=zz0
theorem U39.bits6:yY U39.T6.2 U39.B6 = true:=zz0
set_option maxHeartbeats 8000000 in
set_option maxRecDepth 100000 in
theorem U39.calls0 (k:Nat) (A0:Option Addr) (c0:Nat) (l0:List (S26)) (A1:Option Addr) (c1:Nat) (l1:List (S44)) (a2:Int) (r:Int) (w:World) (hr0:Kd.C k26 w A0 l0.length l0) (hc0:l0.length≤c0) (hr1:Kd.C k44 w A1 l1.length l1) (hc1:l1.length≤c1) (h0:0≤a2) (h1:a2 < (l1.length:Int)) (hbig:l0.length≤9223372036854775807) (h:U39.g k l0 l1 a2 = some r) :
  Calls Tryd.prog 33 #[.slice A0 l0.length c0,.slice A1 l1.length c1,.int .i64 a2] w fun e w'=>e = .returned (.int .i64 r)∧Below w.heap.size w w':=by
 have hu26:=Tryd.underlying26;have HA0:=wA.mk h0;have HA1:=wA.mk h1;have HA2:=wA.mk hbig;clear h0 h1 hbig;have HR0:=wA.mk hr0;have HC0:=wA.mk hc0;clear hr0 hc0;have HR1:=wA.mk hr1;have HC1:=wA.mk hc1;clear hr1 hc1;have HB:=wA.mk (Below.refl w.heap.size w);have H:((some (fidx (rd_T44 l1 a2).f1 l0 0)).bind fun t107=>(if t107 < 0 then (some 6) else (if 0≤t107 then (if t107 < (l0.length:Int) then (if 0≤a2 then (if a2 < (l1.length:Int) then ((U35.f k ((rd_T26 l0 t107).f0) ((rd_T26 l0 t107).f1) ((rd_T26 l0 t107).f2) ((rd_T44 l1 a2).f0)).bind fun t110=>(if t110 = true then (if (Int.tmod a2 2) = 1 then (if 0≤(wrap64 (a2 - 1)) then (if (wrap64 (a2 - 1)) < (l1.length:Int) then (if ((rd_T44 l1 (wrap64 (a2 - 1))).f1) = ((rd_T44 l1 a2).f1) then (some 7) else (some 0)) else (none)) else (none)) else (some 0)) else (some 10))) else (none)) else (none)) else (none)) else (none)))) = some r:=h;clear h;replace H:=zzb H;obtain ⟨t107,A4,H⟩:=H;replace H:=zzj H;rcases H with ⟨c5,H⟩|⟨c5,H⟩
 ·have c5b0:=qM c5;clear c5;obtain rfl:=Option.some.inj H;have hmf:∀ (fn:Fn) (first cap:Array Value) (w:World),(Instr.makeFunc fn first cap).run Tryd.prog w = .ok (.func fn first cap) w:=fun _ _ _ _=>rfl;go_enter Tryd.func33,Tryd.ntmps33
  go_wp2_with (first|((with_reducible refine wL (N:=4) rfl ?_);refine wM ?hg (N:=4) ?hd (cs:=#[.slice A1 l1.length c1]) (t:=24) ?hr ?_;(case hd=>rfl);(case hg=>rfl);(case hr=>exact zz156);intro gb105 hg w6 hbox hb;have BK105:=wA.mk (hbox);have GW105:=wA.mk ((by rw [hg];exact (wB (zz3)):w.heap.size≤gb105));have GE105:=wA.mk ((by rw [hg];exact (wB (zz3)):w.heap.size≤gb105));replace HB:=wA.mk (wC (zz3) hb);clear hb hbox hg)|((with_reducible refine wL (N:=5) rfl ?_);refine wM ?hg (N:=5) ?hd (cs:=#[.int .i64 a2]) (t:=3) ?hr ?_;(case hd=>rfl);(case hg=>rfl);(case hr=>exact zz156);intro gb106 hg w7 hbox hb;have BK106:=wA.mk (hbox);have GW106:=wA.mk ((by rw [hg];exact (wB (zz22)):w.heap.size≤gb106));have GE106:=wA.mk ((by rw [hg];exact (wB (zz22)):w.heap.size≤gb106));replace HB:=wA.mk (wC (zz22) hb);have NB105_106:=wA.mk ((by rw [hg];exact Nat.ne_of_lt (wN (g:=gb105) (o:=.cells #[.slice A1 l1.length c1] 24 (0,0)) (zz21)):gb105 ≠ gb106));have NB106_105:=wA.mk ((by rw [hg];exact Nat.ne_of_gt (wN (g:=gb105) (o:=.cells #[.slice A1 l1.length c1] 24 (0,0)) (zz21)):gb106 ≠ gb105));replace BK105:=wA.mk (wF (zz21) hb);clear hb hbox hg)|(go_at_call 51;(with_reducible refine (idxf_at _ _ l0 gb105 gb106 _ _ l1 a2 t107 _ ?_ ?_ BK105.out BK106.out HA0.out HA1.out HA2.out A4.out).mono ?_);exact zz160;exact zz159;rintro e w8 ⟨rfl,hb⟩;replace BK105:=wA.mk (wF (zz21) hb);replace BK106:=wA.mk (wF (have h0_:=BK106;zz23) hb);replace HB:=wA.mk (wC (zz24) hb);(try clear hb)))
  go_ret
  exact ⟨zz8,zz24⟩
 ·have c5b0:=qN c5;clear c5;replace H:=zzi H;obtain ⟨c9,H⟩:=H;have c9b0:=qM c9;clear c9;replace H:=zzi H;obtain ⟨c10,H⟩:=H;have c10b0:=qM c10;clear c10;replace H:=zzi H;obtain ⟨c11,H⟩:=H;have c11b0:=qM c11;clear c11;replace H:=zzi H;obtain ⟨c12,H⟩:=H;have c12b0:=qM c12;clear c12;replace H:=zzb H;obtain ⟨t110,A13,H⟩:=H;by_cases c14:t110 = true
  ·subst c14;have H1:(if (Int.tmod a2 2) = 1 then (if 0≤(wrap64 (a2 - 1)) then (if (wrap64 (a2 - 1)) < (l1.length:Int) then (if ((rd_T44 l1 (wrap64 (a2 - 1))).f1) = ((rd_T44 l1 a2).f1) then (some 7) else (some 0)) else (none)) else (none)) else (some 0)) = some r:=zz18;clear H;have H:=H1;clear H1;replace H:=zzj H;rcases H with ⟨c15,H⟩|⟨c15,H⟩
   ·have c15b0:=beq_iff_eq.mpr c15;have c15b1:=bne_eq_false_iff_eq.mpr c15;clear c15;obtain ⟨ji16,hji16⟩:∃ j_:Int,(wrap64 (a2 - 1)) = j_:=⟨_,rfl⟩;replace H:(if 0≤(ji16) then (if (ji16) < (l1.length:Int) then (if ((rd_T44 l1 (ji16)).f1) = ((rd_T44 l1 a2).f1) then (some 7) else (some 0)) else (none)) else (none)) = some r:=(have h0_:=hji16;zz10)
    (try rw [hji16] at A4);(try rw [hji16] at A13);have hji16w:(IntKind.i64.wrap (a2 - 1)) = ji16:=(yS _).trans hji16;replace H:=zzi H;obtain ⟨c17,H⟩:=H;have c17b0:=qM c17;clear c17;replace H:=zzi H;obtain ⟨c18,H⟩:=H;have c18b0:=qM c18;clear c18;replace H:=zzj H;rcases H with ⟨c19,H⟩|⟨c19,H⟩
    ·have c19b0:=beq_iff_eq.mpr c19;have c19b1:=bne_eq_false_iff_eq.mpr c19;clear c19;obtain rfl:=Option.some.inj H;have hmf:∀ (fn:Fn) (first cap:Array Value) (w:World),(Instr.makeFunc fn first cap).run Tryd.prog w = .ok (.func fn first cap) w:=fun _ _ _ _=>rfl;go_enter Tryd.func33,Tryd.ntmps33
     try go_wp2_with (first|((with_reducible refine wL (N:=4) rfl ?_);refine wM ?hg (N:=4) ?hd (cs:=#[.slice A1 l1.length c1]) (t:=24) ?hr ?_;(case hd=>rfl);(case hg=>rfl);(case hr=>exact zz156);intro gb105 hg w20 hbox hb;have BK105:=wA.mk (hbox);have GW105:=wA.mk ((by rw [hg];exact (wB (zz3)):w.heap.size≤gb105));have GE105:=wA.mk ((by rw [hg];exact (wB (zz3)):w.heap.size≤gb105));replace HB:=wA.mk (wC (zz3) hb);clear hb hbox hg)|((with_reducible refine wL (N:=5) rfl ?_);refine wM ?hg (N:=5) ?hd (cs:=#[.int .i64 a2]) (t:=3) ?hr ?_;(case hd=>rfl);(case hg=>rfl);(case hr=>exact zz156);intro gb106 hg w21 hbox hb;have BK106:=wA.mk (hbox);have GW106:=wA.mk ((by rw [hg];exact (wB (zz22)):w.heap.size≤gb106));have GE106:=wA.mk ((by rw [hg];exact (wB (zz22)):w.heap.size≤gb106));replace HB:=wA.mk (wC (zz22) hb);have NB105_106:=wA.mk ((by rw [hg];exact Nat.ne_of_lt (wN (g:=gb105) (o:=.cells #[.slice A1 l1.length c1] 24 (0,0)) (zz21)):gb105 ≠ gb106));have NB106_105:=wA.mk ((by rw [hg];exact Nat.ne_of_gt (wN (g:=gb105) (o:=.cells #[.slice A1 l1.length c1] 24 (0,0)) (zz21)):gb106 ≠ gb105));replace BK105:=wA.mk (wF (zz21) hb);clear hb hbox hg)|(go_at_call 51;(with_reducible refine (idxf_at _ _ l0 gb105 gb106 _ _ l1 a2 t107 _ ?_ ?_ BK105.out BK106.out HA0.out HA1.out HA2.out A4.out).mono ?_);exact zz160;exact zz159;rintro e w22 ⟨rfl,hb⟩;replace BK105:=wA.mk (wF (zz21) hb);replace BK106:=wA.mk (wF (have h0_:=BK106;zz23) hb);replace HB:=wA.mk (wC (zz24) hb);(try clear hb)))
     replace BK105:=wA.mk (wG BK105.out);replace BK106:=wA.mk (wG BK106.out);replace HB:=wA.mk (wS HB.out);have p108:0≤(t107:Int):=qL (zz4);have q108:t107 < (l0.length:Int):=qL (zz4);obtain ⟨ad108,A108_2,c108_2,e108,hx108_0,hx108_1,hx108_2,hl108_2,hi108_2⟩:=at_T26 HR0.out t107 p108 q108;have hw108_2:=hx108_2;have hw108_1:=hx108_1;have hw108_0:=hx108_0
     cases e108
     replace hx108_0:=(HB.out.cell (qK w _ hx108_0)).trans hx108_0;replace hx108_1:=(HB.out.cell (qK w _ hx108_1)).trans hx108_1;replace hx108_2:=(HB.out.cell (qK w _ hx108_2)).trans hx108_2;have HR108_2:=wA.mk hi108_2;have HC108_2:=wA.mk hl108_2;clear hi108_2 hl108_2;replace p108:=eq_true p108;replace q108:=eq_true q108;have p109:0≤(a2:Int):=qL (zz4);have q109:a2 < (l1.length:Int):=qL (zz4);obtain ⟨ad109,e109,hx109_0,hx109_1⟩:=at_T44 HR1.out a2 p109 q109;have hw109_1:=hx109_1;have hw109_0:=hx109_0
     cases e109
     replace hx109_0:=(HB.out.cell (qK w _ hx109_0)).trans hx109_0;replace hx109_1:=(HB.out.cell (qK w _ hx109_1)).trans hx109_1;replace p109:=eq_true p109;replace q109:=eq_true q109;refine yP (n:=12) (S:=fun w'=>w'.cell? ⟨gb105,0,none⟩ = some (.slice (some ad109) l1.length c1)∧w'.cell? ⟨gb106,0,none⟩ = some (.int .i64 a2)∧w'.cell? (ad108.add ((t107).toNat * 3)) = some (.int .i64 ((rd_T26 l0 t107).f0))∧w'.cell? ⟨(ad108.add ((t107).toNat * 3)).block,(ad108.add ((t107).toNat * 3)).off+1,none⟩ = some (.int .i64 ((rd_T26 l0 t107).f1))∧w'.cell? ⟨(ad108.add ((t107).toNat * 3)).block,(ad108.add ((t107).toNat * 3)).off+2,none⟩ = some (.slice A108_2 ((rd_T26 l0 t107).f2).length c108_2)∧w'.cell? (ad109.add ((a2).toNat * 2)) = some (.int .i64 ((rd_T44 l1 a2).f0))∧w'.cell? ⟨(ad109.add ((a2).toNat * 2)).block,(ad109.add ((a2).toNat * 2)).off+1,none⟩ = some (.int .i64 ((rd_T44 l1 a2).f1))) (ds:=[]) #[fF,fF,fF,fF,fF,fF,fF,fF,fF,fF,fF,fF] (zz0) rfl rfl ⟨(wH BK105.out 0).trans rfl,(wH BK106.out 0).trans rfl,((HB.out.cell (qK w _ hw108_0)).trans hw108_0),((HB.out.cell (qK w _ hw108_1)).trans hw108_1),((HB.out.cell (qK w _ hw108_2)).trans hw108_2),((HB.out.cell (qK w _ hw109_0)).trans hw109_0),((HB.out.cell (qK w _ hw109_1)).trans hw109_1)⟩ (fun hHeld=>?_);refine yG U39.tab4 U39.bits4 (fun HT_ HW_=>?_)
     generalize w22.drew = w23 at BK105 BK106 HB HR108_2 hx108_0 hx108_1 hx108_2 hx109_0 hx109_1 hHeld ⊢
     refine zzp 0 15 ?_ #[tT,fF,fF,fF,fF,fF,fF,fF,fF,fF,fF,fF] rfl rfl (wJ HT_.out (zz0)) (fun _ _ _ h=>h) (Or.inl ⟨zz25,?_⟩) ?_ ?_ ?_;rotate_left
     ·intro w';go_simp;with_reducible rfl
     rotate_left;·simp only [zzs];rfl
     refine zzp 1 16 ?_ #[tT,tT,fF,fF,fF,fF,fF,fF,fF,fF,fF,fF] rfl rfl (wJ HT_.out (zz0)) (fun _ _ _ h=>h) (Or.inl ⟨zz25,?_⟩) ?_ ?_ ?_;rotate_left
     ·intro w';go_simp;with_reducible rfl
     rotate_left;·simp only [zzs];rfl
     refine zzp 2 17 ?_ #[tT,tT,tT,fF,fF,fF,fF,fF,fF,fF,fF,fF] rfl rfl (wJ HT_.out (zz0)) (fun _ _ _ h=>h) (Or.inl ⟨zz25,?_⟩) ?_ ?_ ?_;rotate_left
     ·intro w';go_simp;with_reducible rfl
     rotate_left;·simp only [zzs];rfl
     refine take_ (i:=3) (N:=some 18) (v:=?_) (a':=?_) #[tT,tT,tT,tT,fF,fF,fF,fF,fF,fF,fF,fF] rfl rfl (wU HT_.out HW_.out (zz0)) (fun _ _ _ h=>h) (Or.inl ⟨zz25,?_⟩) hHeld ?_ ?_;rotate_left
     ·rintro w' ⟨s0,s1,s2,s3,s4,s5,s6⟩
      go_simp
      with_reducible rfl
     rotate_left;·simp only [zzs];rfl
     refine take_ (i:=4) (N:=some 19) (v:=?_) (a':=?_) #[tT,tT,tT,tT,tT,fF,fF,fF,fF,fF,fF,fF] rfl rfl (wU HT_.out HW_.out (zz0)) (fun _ _ _ h=>h) (Or.inl ⟨zz25,?_⟩) hHeld ?_ ?_;rotate_left
     ·rintro w' ⟨s0,s1,s2,s3,s4,s5,s6⟩
      go_simp
      with_reducible rfl
     rotate_left;·simp only [zzs];rfl
     refine take_ (i:=5) (N:=some 20) (v:=?_) (a':=?_) #[tT,tT,tT,tT,tT,tT,fF,fF,fF,fF,fF,fF] rfl rfl (wU HT_.out HW_.out (zz0)) (fun _ _ _ h=>h) (Or.inl ⟨zz25,?_⟩) hHeld ?_ ?_;rotate_left
     ·rintro w' ⟨s0,s1,s2,s3,s4,s5,s6⟩
      go_simp
      with_reducible rfl
     rotate_left;·simp only [zzs];rfl
     refine zzp 6 21 ?_ #[tT,tT,tT,tT,tT,tT,tT,fF,fF,fF,fF,fF] rfl rfl (wJ HT_.out (zz0)) (fun _ _ _ h=>h) (Or.inl ⟨zz25,?_⟩) ?_ ?_ ?_;rotate_left
     ·intro w';go_simp;with_reducible rfl
     rotate_left;·simp only [zzs];rfl
     refine zzp 7 22 ?_ #[tT,tT,tT,tT,tT,tT,tT,tT,fF,fF,fF,fF] rfl rfl (wJ HT_.out (zz0)) (fun _ _ _ h=>h) (Or.inl ⟨zz25,?_⟩) ?_ ?_ ?_;rotate_left
     ·intro w';go_simp;with_reducible rfl
     rotate_left;·simp only [zzs];rfl
     refine take_ (i:=8) (N:=some 23) (v:=?_) (a':=?_) #[tT,tT,tT,tT,tT,tT,tT,tT,tT,fF,fF,fF] rfl rfl (wU HT_.out HW_.out (zz0)) (fun _ _ _ h=>h) (Or.inl ⟨zz25,?_⟩) hHeld ?_ ?_;rotate_left
     ·rintro w' ⟨s0,s1,s2,s3,s4,s5,s6⟩
      go_simp
      with_reducible rfl
     rotate_left;·simp only [zzs];rfl
     refine zA (i:=9) (N:=some 24) #[tT,tT,tT,tT,tT,tT,tT,tT,tT,tT,fF,fF] rfl rfl (yO HT_.out (zz0)) (zz26) (fun K hK=>?_);refine yT Tryd.func13 (zz0) rfl #[.agg #[.int .i64 ((rd_T26 l0 t107).f0),.int .i64 ((rd_T26 l0 t107).f1),.slice A108_2 ((rd_T26 l0 t107).f2).length c108_2],.int .i64 ((rd_T44 l1 a2).f0)] (zz25) rfl rfl (zz20) ?_
     with_reducible refine (U35.calls k ((rd_T26 l0 t107).f0) ((rd_T26 l0 t107).f1) _ _ ((rd_T26 l0 t107).f2) ((rd_T44 l1 a2).f0) true _ ?side1 ?side2 A13.out).mono ?_
     (case side1=>exact (have h0_:=HR108_2;zz157));(case side2=>exact HC108_2.out);rintro e w24 ⟨rfl,hb⟩;refine ⟨_,rfl,?_⟩;replace BK105:=wA.mk (wF (zz21) hb);replace BK106:=wA.mk (wF (have h0_:=BK106;zz23) hb);replace HB:=wA.mk (wC (zz24) hb)
     (try clear hb);refine hK.out _ _ ⟨(wH BK105.out 0).trans rfl,(wH BK106.out 0).trans rfl,((HB.out.cell (qK w _ hw108_0)).trans hw108_0),((HB.out.cell (qK w _ hw108_1)).trans hw108_1),((HB.out.cell (qK w _ hw108_2)).trans hw108_2),((HB.out.cell (qK w _ hw109_0)).trans hw109_0),((HB.out.cell (qK w _ hw109_1)).trans hw109_1)⟩ (fun hHeld=>?_);clear hK K;refine yB (a':=?_) ?_ ?_;rotate_left
     ·show Act.put _ (some 24) _ = _;simp only [zzs];rfl
     refine zzp 10 25 ?_ #[tT,tT,tT,tT,tT,tT,tT,tT,tT,tT,tT,fF] rfl rfl (wJ HT_.out (zz0)) (fun _ _ _ h=>h) (Or.inl ⟨zz25,?_⟩) ?_ ?_ ?_;rotate_left
     ·intro w';go_simp;with_reducible rfl
     rotate_left;·simp only [zzs];rfl
     refine zzp 11 14 ?_ #[tT,tT,tT,tT,tT,tT,tT,tT,tT,tT,tT,tT] rfl rfl (wJ HT_.out (zz0)) (fun _ _ _ h=>h) (Or.inl ⟨zz25,?_⟩) ?_ ?_ ?_;rotate_left
     ·intro w';go_simp;with_reducible rfl
     rotate_left;·simp only [zzs];rfl
     refine yX (yQ HT_.out (zz0)) ?_
     try go_wp2
     replace BK105:=wA.mk (wG BK105.out);replace BK106:=wA.mk (wG BK106.out);replace HB:=wA.mk (wS HB.out);have p111:0≤((ji16):Int):=qL (zz4);have q111:(ji16) < (l1.length:Int):=qL (zz4);obtain ⟨ad111,e111,hx111_0,hx111_1⟩:=at_T44 HR1.out (ji16) p111 q111;have hw111_1:=hx111_1;have hw111_0:=hx111_0;obtain rfl:ad109 = ad111:=(by injection e111);replace hx111_0:=(HB.out.cell (qK w _ hx111_0)).trans hx111_0;replace hx111_1:=(HB.out.cell (qK w _ hx111_1)).trans hx111_1;replace p111:=eq_true p111;replace q111:=eq_true q111;have p112:0≤(a2:Int):=qL (zz4);have q112:a2 < (l1.length:Int):=qL (zz4);obtain ⟨ad112,e112,hx112_0,hx112_1⟩:=at_T44 HR1.out a2 p112 q112;have hw112_1:=hx112_1;have hw112_0:=hx112_0;obtain rfl:ad109 = ad112:=(by injection e112);replace hx112_0:=(HB.out.cell (qK w _ hx112_0)).trans hx112_0;replace hx112_1:=(HB.out.cell (qK w _ hx112_1)).trans hx112_1;replace p112:=eq_true p112;replace q112:=eq_true q112;refine yP (n:=18) (S:=fun w'=>w'.cell? ⟨gb106,0,none⟩ = some (.int .i64 a2)∧w'.cell? ⟨gb105,0,none⟩ = some (.slice (some ad109) l1.length c1)∧w'.cell? (ad109.add (((ji16)).toNat * 2)) = some (.int .i64 ((rd_T44 l1 (ji16)).f0))∧w'.cell? ⟨(ad109.add (((ji16)).toNat * 2)).block,(ad109.add (((ji16)).toNat * 2)).off+1,none⟩ = some (.int .i64 ((rd_T44 l1 (ji16)).f1))∧w'.cell? (ad109.add ((a2).toNat * 2)) = some (.int .i64 ((rd_T44 l1 a2).f0))∧w'.cell? ⟨(ad109.add ((a2).toNat * 2)).block,(ad109.add ((a2).toNat * 2)).off+1,none⟩ = some (.int .i64 ((rd_T44 l1 a2).f1))) (ds:=[]) #[fF,fF,fF,fF,fF,fF,fF,fF,fF,fF,fF,fF,fF,fF,fF,fF,fF,fF] (zz0) rfl rfl ⟨(wH BK106.out 0).trans rfl,(wH BK105.out 0).trans rfl,((HB.out.cell (qK w _ hw111_0)).trans hw111_0),((HB.out.cell (qK w _ hw111_1)).trans hw111_1),((HB.out.cell (qK w _ hw112_0)).trans hw112_0),((HB.out.cell (qK w _ hw112_1)).trans hw112_1)⟩ (fun hHeld=>?_);refine yG U39.tab6 U39.bits6 (fun HT_ HW_=>?_)
     generalize w24.drew = w25 at BK105 BK106 HB hx111_0 hx111_1 hx112_0 hx112_1 hHeld ⊢
     refine take_ (i:=0) (N:=some 27) (v:=?_) (a':=?_) #[tT,fF,fF,fF,fF,fF,fF,fF,fF,fF,fF,fF,fF,fF,fF,fF,fF,fF] rfl rfl (wU HT_.out HW_.out (zz0)) (fun _ _ _ h=>h) (Or.inl ⟨zz25,?_⟩) hHeld ?_ ?_;rotate_left
     ·rintro w' ⟨s0,s1,s2,s3,s4,s5⟩
      go_simp
      with_reducible rfl
     rotate_left;·simp only [zzs];rfl
     refine zzp 1 28 ?_ #[tT,tT,fF,fF,fF,fF,fF,fF,fF,fF,fF,fF,fF,fF,fF,fF,fF,fF] rfl rfl (wJ HT_.out (zz0)) (fun _ _ _ h=>h) (Or.inl ⟨zz25,?_⟩) ?_ ?_ ?_;rotate_left
     ·intro w';go_simp;with_reducible rfl
     rotate_left;·simp only [zzs];rfl
     refine zzp 2 29 ?_ #[tT,tT,tT,fF,fF,fF,fF,fF,fF,fF,fF,fF,fF,fF,fF,fF,fF,fF] rfl rfl (wJ HT_.out (zz0)) (fun _ _ _ h=>h) (Or.inl ⟨zz25,?_⟩) ?_ ?_ ?_;rotate_left
     ·intro w';go_simp;with_reducible rfl
     rotate_left;·simp only [zzs];rfl
     refine zzp 3 30 ?_ #[tT,tT,tT,tT,fF,fF,fF,fF,fF,fF,fF,fF,fF,fF,fF,fF,fF,fF] rfl rfl (wJ HT_.out (zz0)) (fun _ _ _ h=>h) (Or.inl ⟨zz25,?_⟩) ?_ ?_ ?_;rotate_left
     ·intro w';go_simp;with_reducible rfl
     rotate_left;·simp only [zzs];rfl
     refine take_ (i:=4) (N:=some 31) (v:=?_) (a':=?_) #[tT,tT,tT,tT,tT,fF,fF,fF,fF,fF,fF,fF,fF,fF,fF,fF,fF,fF] rfl rfl (wU HT_.out HW_.out (zz0)) (fun _ _ _ h=>h) (Or.inl ⟨zz25,?_⟩) hHeld ?_ ?_;rotate_left
     ·rintro w' ⟨s0,s1,s2,s3,s4,s5⟩
      go_simp
      with_reducible rfl
     rotate_left;·simp only [zzs];rfl
     refine take_ (i:=5) (N:=some 32) (v:=?_) (a':=?_) #[tT,tT,tT,tT,tT,tT,fF,fF,fF,fF,fF,fF,fF,fF,fF,fF,fF,fF] rfl rfl (wU HT_.out HW_.out (zz0)) (fun _ _ _ h=>h) (Or.inl ⟨zz25,?_⟩) hHeld ?_ ?_;rotate_left
     ·rintro w' ⟨s0,s1,s2,s3,s4,s5⟩
      go_simp
      with_reducible rfl
     rotate_left;·simp only [zzs];rfl
     refine zzp 6 33 ?_ #[tT,tT,tT,tT,tT,tT,tT,fF,fF,fF,fF,fF,fF,fF,fF,fF,fF,fF] rfl rfl (wJ HT_.out (zz0)) (fun _ _ _ h=>h) (Or.inl ⟨zz25,?_⟩) ?_ ?_ ?_;rotate_left
     ·intro w';go_simp;with_reducible rfl
     rotate_left;·simp only [zzs];rfl
     refine zzp 7 34 ?_ #[tT,tT,tT,tT,tT,tT,tT,tT,fF,fF,fF,fF,fF,fF,fF,fF,fF,fF] rfl rfl (wJ HT_.out (zz0)) (fun _ _ _ h=>h) (Or.inl ⟨zz25,?_⟩) ?_ ?_ ?_;rotate_left
     ·intro w';go_simp;with_reducible rfl
     rotate_left;·simp only [zzs];rfl
     refine zzp 8 35 ?_ #[tT,tT,tT,tT,tT,tT,tT,tT,tT,fF,fF,fF,fF,fF,fF,fF,fF,fF] rfl rfl (wJ HT_.out (zz0)) (fun _ _ _ h=>h) (Or.inl ⟨zz25,?_⟩) ?_ ?_ ?_;rotate_left
     ·intro w';go_simp;with_reducible rfl
     rotate_left;·simp only [zzs];rfl
     refine take_ (i:=9) (N:=some 36) (v:=?_) (a':=?_) #[tT,tT,tT,tT,tT,tT,tT,tT,tT,tT,fF,fF,fF,fF,fF,fF,fF,fF] rfl rfl (wU HT_.out HW_.out (zz0)) (fun _ _ _ h=>h) (Or.inl ⟨zz25,?_⟩) hHeld ?_ ?_;rotate_left
     ·rintro w' ⟨s0,s1,s2,s3,s4,s5⟩
      go_simp
      with_reducible rfl
     rotate_left;·simp only [zzs];rfl
     refine take_ (i:=10) (N:=some 37) (v:=?_) (a':=?_) #[tT,tT,tT,tT,tT,tT,tT,tT,tT,tT,tT,fF,fF,fF,fF,fF,fF,fF] rfl rfl (wU HT_.out HW_.out (zz0)) (fun _ _ _ h=>h) (Or.inl ⟨zz25,?_⟩) hHeld ?_ ?_;rotate_left
     ·rintro w' ⟨s0,s1,s2,s3,s4,s5⟩
      go_simp
      with_reducible rfl
     rotate_left;·simp only [zzs];rfl
     refine take_ (i:=11) (N:=some 38) (v:=?_) (a':=?_) #[tT,tT,tT,tT,tT,tT,tT,tT,tT,tT,tT,tT,fF,fF,fF,fF,fF,fF] rfl rfl (wU HT_.out HW_.out (zz0)) (fun _ _ _ h=>h) (Or.inl ⟨zz25,?_⟩) hHeld ?_ ?_;rotate_left
     ·rintro w' ⟨s0,s1,s2,s3,s4,s5⟩
      go_simp
      with_reducible rfl
     rotate_left;·simp only [zzs];rfl
     refine zzp 12 39 ?_ #[tT,tT,tT,tT,tT,tT,tT,tT,tT,tT,tT,tT,tT,fF,fF,fF,fF,fF] rfl rfl (wJ HT_.out (zz0)) (fun _ _ _ h=>h) (Or.inl ⟨zz25,?_⟩) ?_ ?_ ?_;rotate_left
     ·intro w';go_simp;with_reducible rfl
     rotate_left;·simp only [zzs];rfl
     refine zzp 13 40 ?_ #[tT,tT,tT,tT,tT,tT,tT,tT,tT,tT,tT,tT,tT,tT,fF,fF,fF,fF] rfl rfl (wJ HT_.out (zz0)) (fun _ _ _ h=>h) (Or.inl ⟨zz25,?_⟩) ?_ ?_ ?_;rotate_left
     ·intro w';go_simp;with_reducible rfl
     rotate_left;·simp only [zzs];rfl
     refine take_ (i:=14) (N:=some 41) (v:=?_) (a':=?_) #[tT,tT,tT,tT,tT,tT,tT,tT,tT,tT,tT,tT,tT,tT,tT,fF,fF,fF] rfl rfl (wU HT_.out HW_.out (zz0)) (fun _ _ _ h=>h) (Or.inl ⟨zz25,?_⟩) hHeld ?_ ?_;rotate_left
     ·rintro w' ⟨s0,s1,s2,s3,s4,s5⟩
      go_simp
      with_reducible rfl
     rotate_left;·simp only [zzs];rfl
     refine zzp 15 42 ?_ #[tT,tT,tT,tT,tT,tT,tT,tT,tT,tT,tT,tT,tT,tT,tT,tT,fF,fF] rfl rfl (wJ HT_.out (zz0)) (fun _ _ _ h=>h) (Or.inl ⟨zz25,?_⟩) ?_ ?_ ?_;rotate_left
     ·intro w';go_simp;with_reducible rfl
     rotate_left;·simp only [zzs];rfl
     refine zzp 16 43 ?_ #[tT,tT,tT,tT,tT,tT,tT,tT,tT,tT,tT,tT,tT,tT,tT,tT,tT,fF] rfl rfl (wJ HT_.out (zz0)) (fun _ _ _ h=>h) (Or.inl ⟨zz25,?_⟩) ?_ ?_ ?_;rotate_left
     ·intro w';go_simp;with_reducible rfl
     rotate_left;·simp only [zzs];rfl
     refine zzp 17 26 ?_ #[tT,tT,tT,tT,tT,tT,tT,tT,tT,tT,tT,tT,tT,tT,tT,tT,tT,tT] rfl rfl (wJ HT_.out (zz0)) (fun _ _ _ h=>h) (Or.inl ⟨zz25,?_⟩) ?_ ?_ ?_;rotate_left
     ·intro w';go_simp;with_reducible rfl
     rotate_left;·simp only [zzs];rfl
     refine yX (yQ HT_.out (zz0)) ?_
     try go_wp2
     go_ret
     exact ⟨(have h0_:=hji16;zz16),zz24⟩
    ·have c19b0:=beq_eq_false_iff_ne.mpr c19;have c19b1:=bne_iff_ne.mpr c19;obtain rfl:=Option.some.inj H;have hmf:∀ (fn:Fn) (first cap:Array Value) (w:World),(Instr.makeFunc fn first cap).run Tryd.prog w = .ok (.func fn first cap) w:=fun _ _ _ _=>rfl;go_enter Tryd.func33,Tryd.ntmps33
     try go_wp2_with (first|((with_reducible refine wL (N:=4) rfl ?_);refine wM ?hg (N:=4) ?hd (cs:=#[.slice A1 l1.length c1]) (t:=24) ?hr ?_;(case hd=>rfl);(case hg=>rfl);(case hr=>exact zz156);intro gb105 hg w26 hbox hb;have BK105:=wA.mk (hbox);have GW105:=wA.mk ((by rw [hg];exact (wB (zz3)):w.heap.size≤gb105));have GE105:=wA.mk ((by rw [hg];exact (wB (zz3)):w.heap.size≤gb105));replace HB:=wA.mk (wC (zz3) hb);clear hb hbox hg)|((with_reducible refine wL (N:=5) rfl ?_);refine wM ?hg (N:=5) ?hd (cs:=#[.int .i64 a2]) (t:=3) ?hr ?_;(case hd=>rfl);(case hg=>rfl);(case hr=>exact zz156);intro gb106 hg w27 hbox hb;have BK106:=wA.mk (hbox);have GW106:=wA.mk ((by rw [hg];exact (wB (zz22)):w.heap.size≤gb106));have GE106:=wA.mk ((by rw [hg];exact (wB (zz22)):w.heap.size≤gb106));replace HB:=wA.mk (wC (zz22) hb);have NB105_106:=wA.mk ((by rw [hg];exact Nat.ne_of_lt (wN (g:=gb105) (o:=.cells #[.slice A1 l1.length c1] 24 (0,0)) (zz21)):gb105 ≠ gb106));have NB106_105:=wA.mk ((by rw [hg];exact Nat.ne_of_gt (wN (g:=gb105) (o:=.cells #[.slice A1 l1.length c1] 24 (0,0)) (zz21)):gb106 ≠ gb105));replace BK105:=wA.mk (wF (zz21) hb);clear hb hbox hg)|(go_at_call 51;(with_reducible refine (idxf_at _ _ l0 gb105 gb106 _ _ l1 a2 t107 _ ?_ ?_ BK105.out BK106.out HA0.out HA1.out HA2.out A4.out).mono ?_);exact zz160;exact zz159;rintro e w28 ⟨rfl,hb⟩;replace BK105:=wA.mk (wF (zz21) hb);replace BK106:=wA.mk (wF (have h0_:=BK106;zz23) hb);replace HB:=wA.mk (wC (zz24) hb);(try clear hb)))
     replace BK105:=wA.mk (wG BK105.out);replace BK106:=wA.mk (wG BK106.out);replace HB:=wA.mk (wS HB.out);have p108:0≤(t107:Int):=qL (zz4);have q108:t107 < (l0.length:Int):=qL (zz4);obtain ⟨ad108,A108_2,c108_2,e108,hx108_0,hx108_1,hx108_2,hl108_2,hi108_2⟩:=at_T26 HR0.out t107 p108 q108;have hw108_2:=hx108_2;have hw108_1:=hx108_1;have hw108_0:=hx108_0
     cases e108
     replace hx108_0:=(HB.out.cell (qK w _ hx108_0)).trans hx108_0;replace hx108_1:=(HB.out.cell (qK w _ hx108_1)).trans hx108_1;replace hx108_2:=(HB.out.cell (qK w _ hx108_2)).trans hx108_2;have HR108_2:=wA.mk hi108_2;have HC108_2:=wA.mk hl108_2;clear hi108_2 hl108_2;replace p108:=eq_true p108;replace q108:=eq_true q108;have p109:0≤(a2:Int):=qL (zz4);have q109:a2 < (l1.length:Int):=qL (zz4);obtain ⟨ad109,e109,hx109_0,hx109_1⟩:=at_T44 HR1.out a2 p109 q109;have hw109_1:=hx109_1;have hw109_0:=hx109_0
     cases e109
     replace hx109_0:=(HB.out.cell (qK w _ hx109_0)).trans hx109_0;replace hx109_1:=(HB.out.cell (qK w _ hx109_1)).trans hx109_1;replace p109:=eq_true p109;replace q109:=eq_true q109;refine yP (n:=12) (S:=fun w'=>w'.cell? ⟨gb105,0,none⟩ = some (.slice (some ad109) l1.length c1)∧w'.cell? ⟨gb106,0,none⟩ = some (.int .i64 a2)∧w'.cell? (ad108.add ((t107).toNat * 3)) = some (.int .i64 ((rd_T26 l0 t107).f0))∧w'.cell? ⟨(ad108.add ((t107).toNat * 3)).block,(ad108.add ((t107).toNat * 3)).off+1,none⟩ = some (.int .i64 ((rd_T26 l0 t107).f1))∧w'.cell? ⟨(ad108.add ((t107).toNat * 3)).block,(ad108.add ((t107).toNat * 3)).off+2,none⟩ = some (.slice A108_2 ((rd_T26 l0 t107).f2).length c108_2)∧w'.cell? (ad109.add ((a2).toNat * 2)) = some (.int .i64 ((rd_T44 l1 a2).f0))∧w'.cell? ⟨(ad109.add ((a2).toNat * 2)).block,(ad109.add ((a2).toNat * 2)).off+1,none⟩ = some (.int .i64 ((rd_T44 l1 a2).f1))) (ds:=[]) #[fF,fF,fF,fF,fF,fF,fF,fF,fF,fF,fF,fF] (zz0) rfl rfl ⟨(wH BK105.out 0).trans rfl,(wH BK106.out 0).trans rfl,((HB.out.cell (qK w _ hw108_0)).trans hw108_0),((HB.out.cell (qK w _ hw108_1)).trans hw108_1),((HB.out.cell (qK w _ hw108_2)).trans hw108_2),((HB.out.cell (qK w _ hw109_0)).trans hw109_0),((HB.out.cell (qK w _ hw109_1)).trans hw109_1)⟩ (fun hHeld=>?_);refine yG U39.tab4 U39.bits4 (fun HT_ HW_=>?_)
     generalize w28.drew = w29 at BK105 BK106 HB HR108_2 hx108_0 hx108_1 hx108_2 hx109_0 hx109_1 hHeld ⊢
     refine zzp 0 15 ?_ #[tT,fF,fF,fF,fF,fF,fF,fF,fF,fF,fF,fF] rfl rfl (wJ HT_.out (zz0)) (fun _ _ _ h=>h) (Or.inl ⟨zz25,?_⟩) ?_ ?_ ?_;rotate_left
     ·intro w';go_simp;with_reducible rfl
     rotate_left;·simp only [zzs];rfl
     refine zzp 1 16 ?_ #[tT,tT,fF,fF,fF,fF,fF,fF,fF,fF,fF,fF] rfl rfl (wJ HT_.out (zz0)) (fun _ _ _ h=>h) (Or.inl ⟨zz25,?_⟩) ?_ ?_ ?_;rotate_left
     ·intro w';go_simp;with_reducible rfl
     rotate_left;·simp only [zzs];rfl
     refine zzp 2 17 ?_ #[tT,tT,tT,fF,fF,fF,fF,fF,fF,fF,fF,fF] rfl rfl (wJ HT_.out (zz0)) (fun _ _ _ h=>h) (Or.inl ⟨zz25,?_⟩) ?_ ?_ ?_;rotate_left
     ·intro w';go_simp;with_reducible rfl
     rotate_left;·simp only [zzs];rfl
     refine take_ (i:=3) (N:=some 18) (v:=?_) (a':=?_) #[tT,tT,tT,tT,fF,fF,fF,fF,fF,fF,fF,fF] rfl rfl (wU HT_.out HW_.out (zz0)) (fun _ _ _ h=>h) (Or.inl ⟨zz25,?_⟩) hHeld ?_ ?_;rotate_left
     ·rintro w' ⟨s0,s1,s2,s3,s4,s5,s6⟩
      go_simp
      with_reducible rfl
     rotate_left;·simp only [zzs];rfl
     refine take_ (i:=4) (N:=some 19) (v:=?_) (a':=?_) #[tT,tT,tT,tT,tT,fF,fF,fF,fF,fF,fF,fF] rfl rfl (wU HT_.out HW_.out (zz0)) (fun _ _ _ h=>h) (Or.inl ⟨zz25,?_⟩) hHeld ?_ ?_;rotate_left
     ·rintro w' ⟨s0,s1,s2,s3,s4,s5,s6⟩
      go_simp
      with_reducible rfl
     rotate_left;·simp only [zzs];rfl
     refine take_ (i:=5) (N:=some 20) (v:=?_) (a':=?_) #[tT,tT,tT,tT,tT,tT,fF,fF,fF,fF,fF,fF] rfl rfl (wU HT_.out HW_.out (zz0)) (fun _ _ _ h=>h) (Or.inl ⟨zz25,?_⟩) hHeld ?_ ?_;rotate_left
     ·rintro w' ⟨s0,s1,s2,s3,s4,s5,s6⟩
      go_simp
      with_reducible rfl
     rotate_left;·simp only [zzs];rfl
     refine zzp 6 21 ?_ #[tT,tT,tT,tT,tT,tT,tT,fF,fF,fF,fF,fF] rfl rfl (wJ HT_.out (zz0)) (fun _ _ _ h=>h) (Or.inl ⟨zz25,?_⟩) ?_ ?_ ?_;rotate_left
     ·intro w';go_simp;with_reducible rfl
     rotate_left;·simp only [zzs];rfl
     refine zzp 7 22 ?_ #[tT,tT,tT,tT,tT,tT,tT,tT,fF,fF,fF,fF] rfl rfl (wJ HT_.out (zz0)) (fun _ _ _ h=>h) (Or.inl ⟨zz25,?_⟩) ?_ ?_ ?_;rotate_left
     ·intro w';go_simp;with_reducible rfl
     rotate_left;·simp only [zzs];rfl
     refine take_ (i:=8) (N:=some 23) (v:=?_) (a':=?_) #[tT,tT,tT,tT,tT,tT,tT,tT,tT,fF,fF,fF] rfl rfl (wU HT_.out HW_.out (zz0)) (fun _ _ _ h=>h) (Or.inl ⟨zz25,?_⟩) hHeld ?_ ?_;rotate_left
     ·rintro w' ⟨s0,s1,s2,s3,s4,s5,s6⟩
      go_simp
      with_reducible rfl
     rotate_left;·simp only [zzs];rfl
     refine zA (i:=9) (N:=some 24) #[tT,tT,tT,tT,tT,tT,tT,tT,tT,tT,fF,fF] rfl rfl (yO HT_.out (zz0)) (zz26) (fun K hK=>?_);refine yT Tryd.func13 (zz0) rfl #[.agg #[.int .i64 ((rd_T26 l0 t107).f0),.int .i64 ((rd_T26 l0 t107).f1),.slice A108_2 ((rd_T26 l0 t107).f2).length c108_2],.int .i64 ((rd_T44 l1 a2).f0)] (zz25) rfl rfl (zz20) ?_
     with_reducible refine (U35.calls k ((rd_T26 l0 t107).f0) ((rd_T26 l0 t107).f1) _ _ ((rd_T26 l0 t107).f2) ((rd_T44 l1 a2).f0) true _ ?side1 ?side2 A13.out).mono ?_
     (case side1=>exact (have h0_:=HR108_2;zz157));(case side2=>exact HC108_2.out);rintro e w30 ⟨rfl,hb⟩;refine ⟨_,rfl,?_⟩;replace BK105:=wA.mk (wF (zz21) hb);replace BK106:=wA.mk (wF (have h0_:=BK106;zz23) hb);replace HB:=wA.mk (wC (zz24) hb)
     (try clear hb);refine hK.out _ _ ⟨(wH BK105.out 0).trans rfl,(wH BK106.out 0).trans rfl,((HB.out.cell (qK w _ hw108_0)).trans hw108_0),((HB.out.cell (qK w _ hw108_1)).trans hw108_1),((HB.out.cell (qK w _ hw108_2)).trans hw108_2),((HB.out.cell (qK w _ hw109_0)).trans hw109_0),((HB.out.cell (qK w _ hw109_1)).trans hw109_1)⟩ (fun hHeld=>?_);clear hK K;refine yB (a':=?_) ?_ ?_;rotate_left
     ·show Act.put _ (some 24) _ = _;simp only [zzs];rfl
     refine zzp 10 25 ?_ #[tT,tT,tT,tT,tT,tT,tT,tT,tT,tT,tT,fF] rfl rfl (wJ HT_.out (zz0)) (fun _ _ _ h=>h) (Or.inl ⟨zz25,?_⟩) ?_ ?_ ?_;rotate_left
     ·intro w';go_simp;with_reducible rfl
     rotate_left;·simp only [zzs];rfl
     refine zzp 11 14 ?_ #[tT,tT,tT,tT,tT,tT,tT,tT,tT,tT,tT,tT] rfl rfl (wJ HT_.out (zz0)) (fun _ _ _ h=>h) (Or.inl ⟨zz25,?_⟩) ?_ ?_ ?_;rotate_left
     ·intro w';go_simp;with_reducible rfl
     rotate_left;·simp only [zzs];rfl
     refine yX (yQ HT_.out (zz0)) ?_
     try go_wp2
     replace BK105:=wA.mk (wG BK105.out);replace BK106:=wA.mk (wG BK106.out);replace HB:=wA.mk (wS HB.out);have p111:0≤((ji16):Int):=qL (zz4);have q111:(ji16) < (l1.length:Int):=qL (zz4);obtain ⟨ad111,e111,hx111_0,hx111_1⟩:=at_T44 HR1.out (ji16) p111 q111;have hw111_1:=hx111_1;have hw111_0:=hx111_0;obtain rfl:ad109 = ad111:=(by injection e111);replace hx111_0:=(HB.out.cell (qK w _ hx111_0)).trans hx111_0;replace hx111_1:=(HB.out.cell (qK w _ hx111_1)).trans hx111_1;replace p111:=eq_true p111;replace q111:=eq_true q111;have p112:0≤(a2:Int):=qL (zz4);have q112:a2 < (l1.length:Int):=qL (zz4);obtain ⟨ad112,e112,hx112_0,hx112_1⟩:=at_T44 HR1.out a2 p112 q112;have hw112_1:=hx112_1;have hw112_0:=hx112_0;obtain rfl:ad109 = ad112:=(by injection e112);replace hx112_0:=(HB.out.cell (qK w _ hx112_0)).trans hx112_0;replace hx112_1:=(HB.out.cell (qK w _ hx112_1)).trans hx112_1;replace p112:=eq_true p112;replace q112:=eq_true q112;refine yP (n:=18) (S:=fun w'=>w'.cell? ⟨gb106,0,none⟩ = some (.int .i64 a2)∧w'.cell? ⟨gb105,0,none⟩ = some (.slice (some ad109) l1.length c1)∧w'.cell? (ad109.add (((ji16)).toNat * 2)) = some (.int .i64 ((rd_T44 l1 (ji16)).f0))∧w'.cell? ⟨(ad109.add (((ji16)).toNat * 2)).block,(ad109.add (((ji16)).toNat * 2)).off+1,none⟩ = some (.int .i64 ((rd_T44 l1 (ji16)).f1))∧w'.cell? (ad109.add ((a2).toNat * 2)) = some (.int .i64 ((rd_T44 l1 a2).f0))∧w'.cell? ⟨(ad109.add ((a2).toNat * 2)).block,(ad109.add ((a2).toNat * 2)).off+1,none⟩ = some (.int .i64 ((rd_T44 l1 a2).f1))) (ds:=[]) #[fF,fF,fF,fF,fF,fF,fF,fF,fF,fF,fF,fF,fF,fF,fF,fF,fF,fF] (zz0) rfl rfl ⟨(wH BK106.out 0).trans rfl,(wH BK105.out 0).trans rfl,((HB.out.cell (qK w _ hw111_0)).trans hw111_0),((HB.out.cell (qK w _ hw111_1)).trans hw111_1),((HB.out.cell (qK w _ hw112_0)).trans hw112_0),((HB.out.cell (qK w _ hw112_1)).trans hw112_1)⟩ (fun hHeld=>?_);refine yG U39.tab6 U39.bits6 (fun HT_ HW_=>?_)
     generalize w30.drew = w31 at BK105 BK106 HB hx111_0 hx111_1 hx112_0 hx112_1 hHeld ⊢
     refine take_ (i:=0) (N:=some 27) (v:=?_) (a':=?_) #[tT,fF,fF,fF,fF,fF,fF,fF,fF,fF,fF,fF,fF,fF,fF,fF,fF,fF] rfl rfl (wU HT_.out HW_.out (zz0)) (fun _ _ _ h=>h) (Or.inl ⟨zz25,?_⟩) hHeld ?_ ?_;rotate_left
     ·rintro w' ⟨s0,s1,s2,s3,s4,s5⟩
      go_simp
      with_reducible rfl
     rotate_left;·simp only [zzs];rfl
     refine zzp 1 28 ?_ #[tT,tT,fF,fF,fF,fF,fF,fF,fF,fF,fF,fF,fF,fF,fF,fF,fF,fF] rfl rfl (wJ HT_.out (zz0)) (fun _ _ _ h=>h) (Or.inl ⟨zz25,?_⟩) ?_ ?_ ?_;rotate_left
     ·intro w';go_simp;with_reducible rfl
     rotate_left;·simp only [zzs];rfl
     refine zzp 2 29 ?_ #[tT,tT,tT,fF,fF,fF,fF,fF,fF,fF,fF,fF,fF,fF,fF,fF,fF,fF] rfl rfl (wJ HT_.out (zz0)) (fun _ _ _ h=>h) (Or.inl ⟨zz25,?_⟩) ?_ ?_ ?_;rotate_left
     ·intro w';go_simp;with_reducible rfl
     rotate_left;·simp only [zzs];rfl
     refine zzp 3 30 ?_ #[tT,tT,tT,tT,fF,fF,fF,fF,fF,fF,fF,fF,fF,fF,fF,fF,fF,fF] rfl rfl (wJ HT_.out (zz0)) (fun _ _ _ h=>h) (Or.inl ⟨zz25,?_⟩) ?_ ?_ ?_;rotate_left
     ·intro w';go_simp;with_reducible rfl
     rotate_left;·simp only [zzs];rfl
     refine take_ (i:=4) (N:=some 31) (v:=?_) (a':=?_) #[tT,tT,tT,tT,tT,fF,fF,fF,fF,fF,fF,fF,fF,fF,fF,fF,fF,fF] rfl rfl (wU HT_.out HW_.out (zz0)) (fun _ _ _ h=>h) (Or.inl ⟨zz25,?_⟩) hHeld ?_ ?_;rotate_left
     ·rintro w' ⟨s0,s1,s2,s3,s4,s5⟩
      go_simp
      with_reducible rfl
     rotate_left;·simp only [zzs];rfl
     refine take_ (i:=5) (N:=some 32) (v:=?_) (a':=?_) #[tT,tT,tT,tT,tT,tT,fF,fF,fF,fF,fF,fF,fF,fF,fF,fF,fF,fF] rfl rfl (wU HT_.out HW_.out (zz0)) (fun _ _ _ h=>h) (Or.inl ⟨zz25,?_⟩) hHeld ?_ ?_;rotate_left
     ·rintro w' ⟨s0,s1,s2,s3,s4,s5⟩
      go_simp
      with_reducible rfl
     rotate_left;·simp only [zzs];rfl
     refine zzp 6 33 ?_ #[tT,tT,tT,tT,tT,tT,tT,fF,fF,fF,fF,fF,fF,fF,fF,fF,fF,fF] rfl rfl (wJ HT_.out (zz0)) (fun _ _ _ h=>h) (Or.inl ⟨zz25,?_⟩) ?_ ?_ ?_;rotate_left
     ·intro w';go_simp;with_reducible rfl
     rotate_left;·simp only [zzs];rfl
     refine zzp 7 34 ?_ #[tT,tT,tT,tT,tT,tT,tT,tT,fF,fF,fF,fF,fF,fF,fF,fF,fF,fF] rfl rfl (wJ HT_.out (zz0)) (fun _ _ _ h=>h) (Or.inl ⟨zz25,?_⟩) ?_ ?_ ?_;rotate_left
     ·intro w';go_simp;with_reducible rfl
     rotate_left;·simp only [zzs];rfl
     refine zzp 8 35 ?_ #[tT,tT,tT,tT,tT,tT,tT,tT,tT,fF,fF,fF,fF,fF,fF,fF,fF,fF] rfl rfl (wJ HT_.out (zz0)) (fun _ _ _ h=>h) (Or.inl ⟨zz25,?_⟩) ?_ ?_ ?_;rotate_left
     ·intro w';go_simp;with_reducible rfl
     rotate_left;·simp only [zzs];rfl
     refine take_ (i:=9) (N:=some 36) (v:=?_) (a':=?_) #[tT,tT,tT,tT,tT,tT,tT,tT,tT,tT,fF,fF,fF,fF,fF,fF,fF,fF] rfl rfl (wU HT_.out HW_.out (zz0)) (fun _ _ _ h=>h) (Or.inl ⟨zz25,?_⟩) hHeld ?_ ?_;rotate_left
     ·rintro w' ⟨s0,s1,s2,s3,s4,s5⟩
      go_simp
      with_reducible rfl
     rotate_left;·simp only [zzs];rfl
     refine take_ (i:=10) (N:=some 37) (v:=?_) (a':=?_) #[tT,tT,tT,tT,tT,tT,tT,tT,tT,tT,tT,fF,fF,fF,fF,fF,fF,fF] rfl rfl (wU HT_.out HW_.out (zz0)) (fun _ _ _ h=>h) (Or.inl ⟨zz25,?_⟩) hHeld ?_ ?_;rotate_left
     ·rintro w' ⟨s0,s1,s2,s3,s4,s5⟩
      go_simp
      with_reducible rfl
     rotate_left;·simp only [zzs];rfl
     refine take_ (i:=11) (N:=some 38) (v:=?_) (a':=?_) #[tT,tT,tT,tT,tT,tT,tT,tT,tT,tT,tT,tT,fF,fF,fF,fF,fF,fF] rfl rfl (wU HT_.out HW_.out (zz0)) (fun _ _ _ h=>h) (Or.inl ⟨zz25,?_⟩) hHeld ?_ ?_;rotate_left
     ·rintro w' ⟨s0,s1,s2,s3,s4,s5⟩
      go_simp
      with_reducible rfl
     rotate_left;·simp only [zzs];rfl
     refine zzp 12 39 ?_ #[tT,tT,tT,tT,tT,tT,tT,tT,tT,tT,tT,tT,tT,fF,fF,fF,fF,fF] rfl rfl (wJ HT_.out (zz0)) (fun _ _ _ h=>h) (Or.inl ⟨zz25,?_⟩) ?_ ?_ ?_;rotate_left
     ·intro w';go_simp;with_reducible rfl
     rotate_left;·simp only [zzs];rfl
     refine zzp 13 40 ?_ #[tT,tT,tT,tT,tT,tT,tT,tT,tT,tT,tT,tT,tT,tT,fF,fF,fF,fF] rfl rfl (wJ HT_.out (zz0)) (fun _ _ _ h=>h) (Or.inl ⟨zz25,?_⟩) ?_ ?_ ?_;rotate_left
     ·intro w';go_simp;with_reducible rfl
     rotate_left;·simp only [zzs];rfl
     refine take_ (i:=14) (N:=some 41) (v:=?_) (a':=?_) #[tT,tT,tT,tT,tT,tT,tT,tT,tT,tT,tT,tT,tT,tT,tT,fF,fF,fF] rfl rfl (wU HT_.out HW_.out (zz0)) (fun _ _ _ h=>h) (Or.inl ⟨zz25,?_⟩) hHeld ?_ ?_;rotate_left
     ·rintro w' ⟨s0,s1,s2,s3,s4,s5⟩
      go_simp
      with_reducible rfl
     rotate_left;·simp only [zzs];rfl
     refine zzp 15 42 ?_ #[tT,tT,tT,tT,tT,tT,tT,tT,tT,tT,tT,tT,tT,tT,tT,tT,fF,fF] rfl rfl (wJ HT_.out (zz0)) (fun _ _ _ h=>h) (Or.inl ⟨zz25,?_⟩) ?_ ?_ ?_;rotate_left
     ·intro w';go_simp;with_reducible rfl
     rotate_left;·simp only [zzs];rfl
     refine zzp 16 43 ?_ #[tT,tT,tT,tT,tT,tT,tT,tT,tT,tT,tT,tT,tT,tT,tT,tT,tT,fF] rfl rfl (wJ HT_.out (zz0)) (fun _ _ _ h=>h) (Or.inl ⟨zz25,?_⟩) ?_ ?_ ?_;rotate_left
     ·intro w';go_simp;with_reducible rfl
     rotate_left;·simp only [zzs];rfl
     refine zzp 17 26 ?_ #[tT,tT,tT,tT,tT,tT,tT,tT,tT,tT,tT,tT,tT,tT,tT,tT,tT,tT] rfl rfl (wJ HT_.out (zz0)) (fun _ _ _ h=>h) (Or.inl ⟨zz25,?_⟩) ?_ ?_ ?_;rotate_left
     ·intro w';go_simp;with_reducible rfl
     rotate_left;·simp only [zzs];rfl
     refine yX (yQ HT_.out (zz0)) ?_
     try go_wp2
     go_ret
     exact ⟨(have h0_:=hji16;zz16),zz24⟩
   ·have c15b0:=beq_eq_false_iff_ne.mpr c15;have c15b1:=bne_iff_ne.mpr c15;obtain rfl:=Option.some.inj H;have hmf:∀ (fn:Fn) (first cap:Array Value) (w:World),(Instr.makeFunc fn first cap).run Tryd.prog w = .ok (.func fn first cap) w:=fun _ _ _ _=>rfl;go_enter Tryd.func33,Tryd.ntmps33
    try go_wp2_with (first|((with_reducible refine wL (N:=4) rfl ?_);refine wM ?hg (N:=4) ?hd (cs:=#[.slice A1 l1.length c1]) (t:=24) ?hr ?_;(case hd=>rfl);(case hg=>rfl);(case hr=>exact zz156);intro gb105 hg w32 hbox hb;have BK105:=wA.mk (hbox);have GW105:=wA.mk ((by rw [hg];exact (wB (zz3)):w.heap.size≤gb105));have GE105:=wA.mk ((by rw [hg];exact (wB (zz3)):w.heap.size≤gb105));replace HB:=wA.mk (wC (zz3) hb);clear hb hbox hg)|((with_reducible refine wL (N:=5) rfl ?_);refine wM ?hg (N:=5) ?hd (cs:=#[.int .i64 a2]) (t:=3) ?hr ?_;(case hd=>rfl);(case hg=>rfl);(case hr=>exact zz156);intro gb106 hg w33 hbox hb;have BK106:=wA.mk (hbox);have GW106:=wA.mk ((by rw [hg];exact (wB (zz22)):w.heap.size≤gb106));have GE106:=wA.mk ((by rw [hg];exact (wB (zz22)):w.heap.size≤gb106));replace HB:=wA.mk (wC (zz22) hb);have NB105_106:=wA.mk ((by rw [hg];exact Nat.ne_of_lt (wN (g:=gb105) (o:=.cells #[.slice A1 l1.length c1] 24 (0,0)) (zz21)):gb105 ≠ gb106));have NB106_105:=wA.mk ((by rw [hg];exact Nat.ne_of_gt (wN (g:=gb105) (o:=.cells #[.slice A1 l1.length c1] 24 (0,0)) (zz21)):gb106 ≠ gb105));replace BK105:=wA.mk (wF (zz21) hb);clear hb hbox hg)|(go_at_call 51;(with_reducible refine (idxf_at _ _ l0 gb105 gb106 _ _ l1 a2 t107 _ ?_ ?_ BK105.out BK106.out HA0.out HA1.out HA2.out A4.out).mono ?_);exact zz160;exact zz159;rintro e w34 ⟨rfl,hb⟩;replace BK105:=wA.mk (wF (zz21) hb);replace BK106:=wA.mk (wF (have h0_:=BK106;zz23) hb);replace HB:=wA.mk (wC (zz24) hb);(try clear hb)))
    replace BK105:=wA.mk (wG BK105.out);replace BK106:=wA.mk (wG BK106.out);replace HB:=wA.mk (wS HB.out);have p108:0≤(t107:Int):=qL (zz4);have q108:t107 < (l0.length:Int):=qL (zz4);obtain ⟨ad108,A108_2,c108_2,e108,hx108_0,hx108_1,hx108_2,hl108_2,hi108_2⟩:=at_T26 HR0.out t107 p108 q108;have hw108_2:=hx108_2;have hw108_1:=hx108_1;have hw108_0:=hx108_0
    cases e108
    replace hx108_0:=(HB.out.cell (qK w _ hx108_0)).trans hx108_0;replace hx108_1:=(HB.out.cell (qK w _ hx108_1)).trans hx108_1;replace hx108_2:=(HB.out.cell (qK w _ hx108_2)).trans hx108_2;have HR108_2:=wA.mk hi108_2;have HC108_2:=wA.mk hl108_2;clear hi108_2 hl108_2;replace p108:=eq_true p108;replace q108:=eq_true q108;have p109:0≤(a2:Int):=qL (zz4);have q109:a2 < (l1.length:Int):=qL (zz4);obtain ⟨ad109,e109,hx109_0,hx109_1⟩:=at_T44 HR1.out a2 p109 q109;have hw109_1:=hx109_1;have hw109_0:=hx109_0
    cases e109
    replace hx109_0:=(HB.out.cell (qK w _ hx109_0)).trans hx109_0;replace hx109_1:=(HB.out.cell (qK w _ hx109_1)).trans hx109_1;replace p109:=eq_true p109;replace q109:=eq_true q109;refine yP (n:=12) (S:=fun w'=>w'.cell? ⟨gb105,0,none⟩ = some (.slice (some ad109) l1.length c1)∧w'.cell? ⟨gb106,0,none⟩ = some (.int .i64 a2)∧w'.cell? (ad108.add ((t107).toNat * 3)) = some (.int .i64 ((rd_T26 l0 t107).f0))∧w'.cell? ⟨(ad108.add ((t107).toNat * 3)).block,(ad108.add ((t107).toNat * 3)).off+1,none⟩ = some (.int .i64 ((rd_T26 l0 t107).f1))∧w'.cell? ⟨(ad108.add ((t107).toNat * 3)).block,(ad108.add ((t107).toNat * 3)).off+2,none⟩ = some (.slice A108_2 ((rd_T26 l0 t107).f2).length c108_2)∧w'.cell? (ad109.add ((a2).toNat * 2)) = some (.int .i64 ((rd_T44 l1 a2).f0))∧w'.cell? ⟨(ad109.add ((a2).toNat * 2)).block,(ad109.add ((a2).toNat * 2)).off+1,none⟩ = some (.int .i64 ((rd_T44 l1 a2).f1))) (ds:=[]) #[fF,fF,fF,fF,fF,fF,fF,fF,fF,fF,fF,fF] (zz0) rfl rfl ⟨(wH BK105.out 0).trans rfl,(wH BK106.out 0).trans rfl,((HB.out.cell (qK w _ hw108_0)).trans hw108_0),((HB.out.cell (qK w _ hw108_1)).trans hw108_1),((HB.out.cell (qK w _ hw108_2)).trans hw108_2),((HB.out.cell (qK w _ hw109_0)).trans hw109_0),((HB.out.cell (qK w _ hw109_1)).trans hw109_1)⟩ (fun hHeld=>?_);refine yG U39.tab4 U39.bits4 (fun HT_ HW_=>?_)
    generalize w34.drew = w35 at BK105 BK106 HB HR108_2 hx108_0 hx108_1 hx108_2 hx109_0 hx109_1 hHeld ⊢
    refine zzp 0 15 ?_ #[tT,fF,fF,fF,fF,fF,fF,fF,fF,fF,fF,fF] rfl rfl (wJ HT_.out (zz0)) (fun _ _ _ h=>h) (Or.inl ⟨zz25,?_⟩) ?_ ?_ ?_;rotate_left
    ·intro w';go_simp;with_reducible rfl
    rotate_left;·simp only [zzs];rfl
    refine zzp 1 16 ?_ #[tT,tT,fF,fF,fF,fF,fF,fF,fF,fF,fF,fF] rfl rfl (wJ HT_.out (zz0)) (fun _ _ _ h=>h) (Or.inl ⟨zz25,?_⟩) ?_ ?_ ?_;rotate_left
    ·intro w';go_simp;with_reducible rfl
    rotate_left;·simp only [zzs];rfl
    refine zzp 2 17 ?_ #[tT,tT,tT,fF,fF,fF,fF,fF,fF,fF,fF,fF] rfl rfl (wJ HT_.out (zz0)) (fun _ _ _ h=>h) (Or.inl ⟨zz25,?_⟩) ?_ ?_ ?_;rotate_left
    ·intro w';go_simp;with_reducible rfl
    rotate_left;·simp only [zzs];rfl
    refine take_ (i:=3) (N:=some 18) (v:=?_) (a':=?_) #[tT,tT,tT,tT,fF,fF,fF,fF,fF,fF,fF,fF] rfl rfl (wU HT_.out HW_.out (zz0)) (fun _ _ _ h=>h) (Or.inl ⟨zz25,?_⟩) hHeld ?_ ?_;rotate_left
    ·rintro w' ⟨s0,s1,s2,s3,s4,s5,s6⟩
     go_simp
     with_reducible rfl
    rotate_left;·simp only [zzs];rfl
    refine take_ (i:=4) (N:=some 19) (v:=?_) (a':=?_) #[tT,tT,tT,tT,tT,fF,fF,fF,fF,fF,fF,fF] rfl rfl (wU HT_.out HW_.out (zz0)) (fun _ _ _ h=>h) (Or.inl ⟨zz25,?_⟩) hHeld ?_ ?_;rotate_left
    ·rintro w' ⟨s0,s1,s2,s3,s4,s5,s6⟩
     go_simp
     with_reducible rfl
    rotate_left;·simp only [zzs];rfl
    refine take_ (i:=5) (N:=some 20) (v:=?_) (a':=?_) #[tT,tT,tT,tT,tT,tT,fF,fF,fF,fF,fF,fF] rfl rfl (wU HT_.out HW_.out (zz0)) (fun _ _ _ h=>h) (Or.inl ⟨zz25,?_⟩) hHeld ?_ ?_;rotate_left
    ·rintro w' ⟨s0,s1,s2,s3,s4,s5,s6⟩
     go_simp
     with_reducible rfl
    rotate_left;·simp only [zzs];rfl
    refine zzp 6 21 ?_ #[tT,tT,tT,tT,tT,tT,tT,fF,fF,fF,fF,fF] rfl rfl (wJ HT_.out (zz0)) (fun _ _ _ h=>h) (Or.inl ⟨zz25,?_⟩) ?_ ?_ ?_;rotate_left
    ·intro w';go_simp;with_reducible rfl
    rotate_left;·simp only [zzs];rfl
    refine zzp 7 22 ?_ #[tT,tT,tT,tT,tT,tT,tT,tT,fF,fF,fF,fF] rfl rfl (wJ HT_.out (zz0)) (fun _ _ _ h=>h) (Or.inl ⟨zz25,?_⟩) ?_ ?_ ?_;rotate_left
    ·intro w';go_simp;with_reducible rfl
    rotate_left;·simp only [zzs];rfl
    refine take_ (i:=8) (N:=some 23) (v:=?_) (a':=?_) #[tT,tT,tT,tT,tT,tT,tT,tT,tT,fF,fF,fF] rfl rfl (wU HT_.out HW_.out (zz0)) (fun _ _ _ h=>h) (Or.inl ⟨zz25,?_⟩) hHeld ?_ ?_;rotate_left
    ·rintro w' ⟨s0,s1,s2,s3,s4,s5,s6⟩
     go_simp
     with_reducible rfl
    rotate_left;·simp only [zzs];rfl
    refine zA (i:=9) (N:=some 24) #[tT,tT,tT,tT,tT,tT,tT,tT,tT,tT,fF,fF] rfl rfl (yO HT_.out (zz0)) (zz26) (fun K hK=>?_);refine yT Tryd.func13 (zz0) rfl #[.agg #[.int .i64 ((rd_T26 l0 t107).f0),.int .i64 ((rd_T26 l0 t107).f1),.slice A108_2 ((rd_T26 l0 t107).f2).length c108_2],.int .i64 ((rd_T44 l1 a2).f0)] (zz25) rfl rfl (zz20) ?_
    with_reducible refine (U35.calls k ((rd_T26 l0 t107).f0) ((rd_T26 l0 t107).f1) _ _ ((rd_T26 l0 t107).f2) ((rd_T44 l1 a2).f0) true _ ?side1 ?side2 A13.out).mono ?_
    (case side1=>exact (have h0_:=HR108_2;zz157));(case side2=>exact HC108_2.out);rintro e w36 ⟨rfl,hb⟩;refine ⟨_,rfl,?_⟩;replace BK105:=wA.mk (wF (zz21) hb);replace BK106:=wA.mk (wF (have h0_:=BK106;zz23) hb);replace HB:=wA.mk (wC (zz24) hb)
    (try clear hb);refine hK.out _ _ ⟨(wH BK105.out 0).trans rfl,(wH BK106.out 0).trans rfl,((HB.out.cell (qK w _ hw108_0)).trans hw108_0),((HB.out.cell (qK w _ hw108_1)).trans hw108_1),((HB.out.cell (qK w _ hw108_2)).trans hw108_2),((HB.out.cell (qK w _ hw109_0)).trans hw109_0),((HB.out.cell (qK w _ hw109_1)).trans hw109_1)⟩ (fun hHeld=>?_);clear hK K;refine yB (a':=?_) ?_ ?_;rotate_left
    ·show Act.put _ (some 24) _ = _;simp only [zzs];rfl
    refine zzp 10 25 ?_ #[tT,tT,tT,tT,tT,tT,tT,tT,tT,tT,tT,fF] rfl rfl (wJ HT_.out (zz0)) (fun _ _ _ h=>h) (Or.inl ⟨zz25,?_⟩) ?_ ?_ ?_;rotate_left
    ·intro w';go_simp;with_reducible rfl
    rotate_left;·simp only [zzs];rfl
    refine zzp 11 14 ?_ #[tT,tT,tT,tT,tT,tT,tT,tT,tT,tT,tT,tT] rfl rfl (wJ HT_.out (zz0)) (fun _ _ _ h=>h) (Or.inl ⟨zz25,?_⟩) ?_ ?_ ?_;rotate_left
    ·intro w';go_simp;with_reducible rfl
    rotate_left;·simp only [zzs];rfl
    refine yX (yQ HT_.out (zz0)) ?_
    try go_wp2
    replace BK105:=wA.mk (wG BK105.out);replace BK106:=wA.mk (wG BK106.out);replace HB:=wA.mk (wS HB.out);refine yP (n:=18) (S:=fun w'=>w'.cell? ⟨gb106,0,none⟩ = some (.int .i64 a2)) (ds:=[]) #[fF,fF,fF,fF,fF,fF,fF,fF,fF,fF,fF,fF,fF,fF,fF,fF,fF,fF] (zz0) rfl rfl ((wH BK106.out 0).trans rfl) (fun hHeld=>?_);refine yG U39.tab6 U39.bits6 (fun HT_ HW_=>?_)
    generalize w36.drew = w37 at BK105 BK106 HB hHeld ⊢
    refine take_ (i:=0) (N:=some 27) (v:=?_) (a':=?_) #[tT,fF,fF,fF,fF,fF,fF,fF,fF,fF,fF,fF,fF,fF,fF,fF,fF,fF] rfl rfl (wU HT_.out HW_.out (zz0)) (fun _ _ _ h=>h) (Or.inl ⟨zz25,?_⟩) hHeld ?_ ?_;rotate_left
    ·intro w' s0
     go_simp
     with_reducible rfl
    rotate_left;·simp only [zzs];rfl
    refine zzp 1 28 ?_ #[tT,tT,fF,fF,fF,fF,fF,fF,fF,fF,fF,fF,fF,fF,fF,fF,fF,fF] rfl rfl (wJ HT_.out (zz0)) (fun _ _ _ h=>h) (Or.inl ⟨zz25,?_⟩) ?_ ?_ ?_;rotate_left
    ·intro w';go_simp;with_reducible rfl
    rotate_left;·simp only [zzs];rfl
    refine zzp 2 29 ?_ #[tT,tT,tT,fF,fF,fF,fF,fF,fF,fF,fF,fF,fF,fF,fF,fF,fF,fF] rfl rfl (wJ HT_.out (zz0)) (fun _ _ _ h=>h) (Or.inl ⟨zz25,?_⟩) ?_ ?_ ?_;rotate_left
    ·intro w';go_simp;with_reducible rfl
    rotate_left;·simp only [zzs];rfl
    refine zzp 3 30 ?_ #[tT,tT,tT,tT,fF,fF,fF,fF,fF,fF,fF,fF,fF,fF,fF,fF,fF,fF] rfl rfl (wJ HT_.out (zz0)) (fun _ _ _ h=>h) (Or.inl ⟨zz25,?_⟩) ?_ ?_ ?_;rotate_left
    ·intro w';go_simp;with_reducible rfl
    rotate_left;·simp only [zzs];rfl
    refine yF (i:=4) (N:=some 31) (v:=undef) (a':=?_) #[tT,tT,tT,tT,tT,fF,fF,fF,fF,fF,fF,fF,fF,fF,fF,fF,fF,fF] rfl rfl (wJ HT_.out (zz0)) (fun _ _ _ h=>h) (Or.inr ⟨zz25,rfl⟩) ?_ ?_;rotate_left
    ·simp only [zzs];rfl
    refine yF (i:=5) (N:=some 32) (v:=undef) (a':=?_) #[tT,tT,tT,tT,tT,tT,fF,fF,fF,fF,fF,fF,fF,fF,fF,fF,fF,fF] rfl rfl (wJ HT_.out (zz0)) (fun _ _ _ h=>h) (Or.inr ⟨zz25,rfl⟩) ?_ ?_;rotate_left
    ·simp only [zzs];rfl
    refine yF (i:=6) (N:=some 33) (v:=undef) (a':=?_) #[tT,tT,tT,tT,tT,tT,tT,fF,fF,fF,fF,fF,fF,fF,fF,fF,fF,fF] rfl rfl (wJ HT_.out (zz0)) (fun _ _ _ h=>h) (Or.inr ⟨zz25,rfl⟩) ?_ ?_;rotate_left
    ·simp only [zzs];rfl
    refine yF (i:=7) (N:=some 34) (v:=undef) (a':=?_) #[tT,tT,tT,tT,tT,tT,tT,tT,fF,fF,fF,fF,fF,fF,fF,fF,fF,fF] rfl rfl (wJ HT_.out (zz0)) (fun _ _ _ h=>h) (Or.inr ⟨zz25,rfl⟩) ?_ ?_;rotate_left
    ·simp only [zzs];rfl
    refine yF (i:=8) (N:=some 35) (v:=undef) (a':=?_) #[tT,tT,tT,tT,tT,tT,tT,tT,tT,fF,fF,fF,fF,fF,fF,fF,fF,fF] rfl rfl (wJ HT_.out (zz0)) (fun _ _ _ h=>h) (Or.inr ⟨zz25,rfl⟩) ?_ ?_;rotate_left
    ·simp only [zzs];rfl
    refine yF (i:=9) (N:=some 36) (v:=undef) (a':=?_) #[tT,tT,tT,tT,tT,tT,tT,tT,tT,tT,fF,fF,fF,fF,fF,fF,fF,fF] rfl rfl (wJ HT_.out (zz0)) (fun _ _ _ h=>h) (Or.inr ⟨zz25,rfl⟩) ?_ ?_;rotate_left
    ·simp only [zzs];rfl
    refine yF (i:=10) (N:=some 37) (v:=undef) (a':=?_) #[tT,tT,tT,tT,tT,tT,tT,tT,tT,tT,tT,fF,fF,fF,fF,fF,fF,fF] rfl rfl (wJ HT_.out (zz0)) (fun _ _ _ h=>h) (Or.inr ⟨zz25,rfl⟩) ?_ ?_;rotate_left
    ·simp only [zzs];rfl
    refine yF (i:=11) (N:=some 38) (v:=undef) (a':=?_) #[tT,tT,tT,tT,tT,tT,tT,tT,tT,tT,tT,tT,fF,fF,fF,fF,fF,fF] rfl rfl (wJ HT_.out (zz0)) (fun _ _ _ h=>h) (Or.inr ⟨zz25,rfl⟩) ?_ ?_;rotate_left
    ·simp only [zzs];rfl
    refine yF (i:=12) (N:=some 39) (v:=undef) (a':=?_) #[tT,tT,tT,tT,tT,tT,tT,tT,tT,tT,tT,tT,tT,fF,fF,fF,fF,fF] rfl rfl (wJ HT_.out (zz0)) (fun _ _ _ h=>h) (Or.inr ⟨zz25,rfl⟩) ?_ ?_;rotate_left
    ·simp only [zzs];rfl
    refine yF (i:=13) (N:=some 40) (v:=undef) (a':=?_) #[tT,tT,tT,tT,tT,tT,tT,tT,tT,tT,tT,tT,tT,tT,fF,fF,fF,fF] rfl rfl (wJ HT_.out (zz0)) (fun _ _ _ h=>h) (Or.inr ⟨zz25,rfl⟩) ?_ ?_;rotate_left
    ·simp only [zzs];rfl
    refine yF (i:=14) (N:=some 41) (v:=undef) (a':=?_) #[tT,tT,tT,tT,tT,tT,tT,tT,tT,tT,tT,tT,tT,tT,tT,fF,fF,fF] rfl rfl (wJ HT_.out (zz0)) (fun _ _ _ h=>h) (Or.inr ⟨zz25,rfl⟩) ?_ ?_;rotate_left
    ·simp only [zzs];rfl
    refine yF (i:=15) (N:=some 42) (v:=undef) (a':=?_) #[tT,tT,tT,tT,tT,tT,tT,tT,tT,tT,tT,tT,tT,tT,tT,tT,fF,fF] rfl rfl (wJ HT_.out (zz0)) (fun _ _ _ h=>h) (Or.inr ⟨zz25,rfl⟩) ?_ ?_;rotate_left
    ·simp only [zzs];rfl
    refine zzp 16 43 ?_ #[tT,tT,tT,tT,tT,tT,tT,tT,tT,tT,tT,tT,tT,tT,tT,tT,tT,fF] rfl rfl (wJ HT_.out (zz0)) (fun _ _ _ h=>h) (Or.inl ⟨zz25,?_⟩) ?_ ?_ ?_;rotate_left
    ·intro w';go_simp;with_reducible rfl
    rotate_left;·simp only [zzs];rfl
    refine zzp 17 26 ?_ #[tT,tT,tT,tT,tT,tT,tT,tT,tT,tT,tT,tT,tT,tT,tT,tT,tT,tT] rfl rfl (wJ HT_.out (zz0)) (fun _ _ _ h=>h) (Or.inl ⟨zz25,?_⟩) ?_ ?_ ?_;rotate_left
    ·intro w';go_simp;with_reducible rfl
    rotate_left;·simp only [zzs];rfl
    refine yX (yQ HT_.out (zz0)) ?_
    try go_wp2
    go_ret
    exact ⟨zz8,zz24⟩
  ·replace c14:=Bool.eq_false_iff.mpr c14;subst c14;have H1:(some 10) = some r:=zz19;clear H;have H:=H1;clear H1;obtain rfl:=Option.some.inj H;have hmf:∀ (fn:Fn) (first cap:Array Value) (w:World),(Instr.makeFunc fn first cap).run Tryd.prog w = .ok (.func fn first cap) w:=fun _ _ _ _=>rfl;go_enter Tryd.func33,Tryd.ntmps33
   try go_wp2_with (first|((with_reducible refine wL (N:=4) rfl ?_);refine wM ?hg (N:=4) ?hd (cs:=#[.slice A1 l1.length c1]) (t:=24) ?hr ?_;(case hd=>rfl);(case hg=>rfl);(case hr=>exact zz156);intro gb105 hg w38 hbox hb;have BK105:=wA.mk (hbox);have GW105:=wA.mk ((by rw [hg];exact (wB (zz3)):w.heap.size≤gb105));have GE105:=wA.mk ((by rw [hg];exact (wB (zz3)):w.heap.size≤gb105));replace HB:=wA.mk (wC (zz3) hb);clear hb hbox hg)|((with_reducible refine wL (N:=5) rfl ?_);refine wM ?hg (N:=5) ?hd (cs:=#[.int .i64 a2]) (t:=3) ?hr ?_;(case hd=>rfl);(case hg=>rfl);(case hr=>exact zz156);intro gb106 hg w39 hbox hb;have BK106:=wA.mk (hbox);have GW106:=wA.mk ((by rw [hg];exact (wB (zz22)):w.heap.size≤gb106));have GE106:=wA.mk ((by rw [hg];exact (wB (zz22)):w.heap.size≤gb106));replace HB:=wA.mk (wC (zz22) hb);have NB105_106:=wA.mk ((by rw [hg];exact Nat.ne_of_lt (wN (g:=gb105) (o:=.cells #[.slice A1 l1.length c1] 24 (0,0)) (zz21)):gb105 ≠ gb106));have NB106_105:=wA.mk ((by rw [hg];exact Nat.ne_of_gt (wN (g:=gb105) (o:=.cells #[.slice A1 l1.length c1] 24 (0,0)) (zz21)):gb106 ≠ gb105));replace BK105:=wA.mk (wF (zz21) hb);clear hb hbox hg)|(go_at_call 51;(with_reducible refine (idxf_at _ _ l0 gb105 gb106 _ _ l1 a2 t107 _ ?_ ?_ BK105.out BK106.out HA0.out HA1.out HA2.out A4.out).mono ?_);exact zz160;exact zz159;rintro e w40 ⟨rfl,hb⟩;replace BK105:=wA.mk (wF (zz21) hb);replace BK106:=wA.mk (wF (have h0_:=BK106;zz23) hb);replace HB:=wA.mk (wC (zz24) hb);(try clear hb)))
   replace BK105:=wA.mk (wG BK105.out);replace BK106:=wA.mk (wG BK106.out);replace HB:=wA.mk (wS HB.out);have p108:0≤(t107:Int):=qL (zz4);have q108:t107 < (l0.length:Int):=qL (zz4);obtain ⟨ad108,A108_2,c108_2,e108,hx108_0,hx108_1,hx108_2,hl108_2,hi108_2⟩:=at_T26 HR0.out t107 p108 q108;have hw108_2:=hx108_2;have hw108_1:=hx108_1;have hw108_0:=hx108_0
   cases e108
   replace hx108_0:=(HB.out.cell (qK w _ hx108_0)).trans hx108_0;replace hx108_1:=(HB.out.cell (qK w _ hx108_1)).trans hx108_1;replace hx108_2:=(HB.out.cell (qK w _ hx108_2)).trans hx108_2;have HR108_2:=wA.mk hi108_2;have HC108_2:=wA.mk hl108_2;clear hi108_2 hl108_2;replace p108:=eq_true p108;replace q108:=eq_true q108;have p109:0≤(a2:Int):=qL (zz4);have q109:a2 < (l1.length:Int):=qL (zz4);obtain ⟨ad109,e109,hx109_0,hx109_1⟩:=at_T44 HR1.out a2 p109 q109;have hw109_1:=hx109_1;have hw109_0:=hx109_0
   cases e109
   replace hx109_0:=(HB.out.cell (qK w _ hx109_0)).trans hx109_0;replace hx109_1:=(HB.out.cell (qK w _ hx109_1)).trans hx109_1;replace p109:=eq_true p109;replace q109:=eq_true q109;refine yP (n:=12) (S:=fun w'=>w'.cell? ⟨gb105,0,none⟩ = some (.slice (some ad109) l1.length c1)∧w'.cell? ⟨gb106,0,none⟩ = some (.int .i64 a2)∧w'.cell? (ad108.add ((t107).toNat * 3)) = some (.int .i64 ((rd_T26 l0 t107).f0))∧w'.cell? ⟨(ad108.add ((t107).toNat * 3)).block,(ad108.add ((t107).toNat * 3)).off+1,none⟩ = some (.int .i64 ((rd_T26 l0 t107).f1))∧w'.cell? ⟨(ad108.add ((t107).toNat * 3)).block,(ad108.add ((t107).toNat * 3)).off+2,none⟩ = some (.slice A108_2 ((rd_T26 l0 t107).f2).length c108_2)∧w'.cell? (ad109.add ((a2).toNat * 2)) = some (.int .i64 ((rd_T44 l1 a2).f0))∧w'.cell? ⟨(ad109.add ((a2).toNat * 2)).block,(ad109.add ((a2).toNat * 2)).off+1,none⟩ = some (.int .i64 ((rd_T44 l1 a2).f1))) (ds:=[]) #[fF,fF,fF,fF,fF,fF,fF,fF,fF,fF,fF,fF] (zz0) rfl rfl ⟨(wH BK105.out 0).trans rfl,(wH BK106.out 0).trans rfl,((HB.out.cell (qK w _ hw108_0)).trans hw108_0),((HB.out.cell (qK w _ hw108_1)).trans hw108_1),((HB.out.cell (qK w _ hw108_2)).trans hw108_2),((HB.out.cell (qK w _ hw109_0)).trans hw109_0),((HB.out.cell (qK w _ hw109_1)).trans hw109_1)⟩ (fun hHeld=>?_);refine yG U39.tab4 U39.bits4 (fun HT_ HW_=>?_)
   generalize w40.drew = w41 at BK105 BK106 HB HR108_2 hx108_0 hx108_1 hx108_2 hx109_0 hx109_1 hHeld ⊢
   refine zzp 0 15 ?_ #[tT,fF,fF,fF,fF,fF,fF,fF,fF,fF,fF,fF] rfl rfl (wJ HT_.out (zz0)) (fun _ _ _ h=>h) (Or.inl ⟨zz25,?_⟩) ?_ ?_ ?_;rotate_left
   ·intro w';go_simp;with_reducible rfl
   rotate_left;·simp only [zzs];rfl
   refine zzp 1 16 ?_ #[tT,tT,fF,fF,fF,fF,fF,fF,fF,fF,fF,fF] rfl rfl (wJ HT_.out (zz0)) (fun _ _ _ h=>h) (Or.inl ⟨zz25,?_⟩) ?_ ?_ ?_;rotate_left
   ·intro w';go_simp;with_reducible rfl
   rotate_left;·simp only [zzs];rfl
   refine zzp 2 17 ?_ #[tT,tT,tT,fF,fF,fF,fF,fF,fF,fF,fF,fF] rfl rfl (wJ HT_.out (zz0)) (fun _ _ _ h=>h) (Or.inl ⟨zz25,?_⟩) ?_ ?_ ?_;rotate_left
   ·intro w';go_simp;with_reducible rfl
   rotate_left;·simp only [zzs];rfl
   refine take_ (i:=3) (N:=some 18) (v:=?_) (a':=?_) #[tT,tT,tT,tT,fF,fF,fF,fF,fF,fF,fF,fF] rfl rfl (wU HT_.out HW_.out (zz0)) (fun _ _ _ h=>h) (Or.inl ⟨zz25,?_⟩) hHeld ?_ ?_;rotate_left
   ·rintro w' ⟨s0,s1,s2,s3,s4,s5,s6⟩
    go_simp
    with_reducible rfl
   rotate_left;·simp only [zzs];rfl
   refine take_ (i:=4) (N:=some 19) (v:=?_) (a':=?_) #[tT,tT,tT,tT,tT,fF,fF,fF,fF,fF,fF,fF] rfl rfl (wU HT_.out HW_.out (zz0)) (fun _ _ _ h=>h) (Or.inl ⟨zz25,?_⟩) hHeld ?_ ?_;rotate_left
   ·rintro w' ⟨s0,s1,s2,s3,s4,s5,s6⟩
    go_simp
    with_reducible rfl
   rotate_left;·simp only [zzs];rfl
   refine take_ (i:=5) (N:=some 20) (v:=?_) (a':=?_) #[tT,tT,tT,tT,tT,tT,fF,fF,fF,fF,fF,fF] rfl rfl (wU HT_.out HW_.out (zz0)) (fun _ _ _ h=>h) (Or.inl ⟨zz25,?_⟩) hHeld ?_ ?_;rotate_left
   ·rintro w' ⟨s0,s1,s2,s3,s4,s5,s6⟩
    go_simp
    with_reducible rfl
   rotate_left;·simp only [zzs];rfl
   refine zzp 6 21 ?_ #[tT,tT,tT,tT,tT,tT,tT,fF,fF,fF,fF,fF] rfl rfl (wJ HT_.out (zz0)) (fun _ _ _ h=>h) (Or.inl ⟨zz25,?_⟩) ?_ ?_ ?_;rotate_left
   ·intro w';go_simp;with_reducible rfl
   rotate_left;·simp only [zzs];rfl
   refine zzp 7 22 ?_ #[tT,tT,tT,tT,tT,tT,tT,tT,fF,fF,fF,fF] rfl rfl (wJ HT_.out (zz0)) (fun _ _ _ h=>h) (Or.inl ⟨zz25,?_⟩) ?_ ?_ ?_;rotate_left
   ·intro w';go_simp;with_reducible rfl
   rotate_left;·simp only [zzs];rfl
   refine take_ (i:=8) (N:=some 23) (v:=?_) (a':=?_) #[tT,tT,tT,tT,tT,tT,tT,tT,tT,fF,fF,fF] rfl rfl (wU HT_.out HW_.out (zz0)) (fun _ _ _ h=>h) (Or.inl ⟨zz25,?_⟩) hHeld ?_ ?_;rotate_left
   ·rintro w' ⟨s0,s1,s2,s3,s4,s5,s6⟩
    go_simp
    with_reducible rfl
   rotate_left;·simp only [zzs];rfl
   refine zA (i:=9) (N:=some 24) #[tT,tT,tT,tT,tT,tT,tT,tT,tT,tT,fF,fF] rfl rfl (yO HT_.out (zz0)) (zz26) (fun K hK=>?_);refine yT Tryd.func13 (zz0) rfl #[.agg #[.int .i64 ((rd_T26 l0 t107).f0),.int .i64 ((rd_T26 l0 t107).f1),.slice A108_2 ((rd_T26 l0 t107).f2).length c108_2],.int .i64 ((rd_T44 l1 a2).f0)] (zz25) rfl rfl (zz20) ?_
   with_reducible refine (U35.calls k ((rd_T26 l0 t107).f0) ((rd_T26 l0 t107).f1) _ _ ((rd_T26 l0 t107).f2) ((rd_T44 l1 a2).f0) false _ ?side1 ?side2 A13.out).mono ?_
   (case side1=>exact (have h0_:=HR108_2;zz157));(case side2=>exact HC108_2.out);rintro e w42 ⟨rfl,hb⟩;refine ⟨_,rfl,?_⟩;replace BK105:=wA.mk (wF (zz21) hb);replace BK106:=wA.mk (wF (have h0_:=BK106;zz23) hb);replace HB:=wA.mk (wC (zz24) hb)
   (try clear hb);refine hK.out _ _ ⟨(wH BK105.out 0).trans rfl,(wH BK106.out 0).trans rfl,((HB.out.cell (qK w _ hw108_0)).trans hw108_0),((HB.out.cell (qK w _ hw108_1)).trans hw108_1),((HB.out.cell (qK w _ hw108_2)).trans hw108_2),((HB.out.cell (qK w _ hw109_0)).trans hw109_0),((HB.out.cell (qK w _ hw109_1)).trans hw109_1)⟩ (fun hHeld=>?_);clear hK K;refine yB (a':=?_) ?_ ?_;rotate_left
   ·show Act.put _ (some 24) _ = _;simp only [zzs];rfl
   refine zzp 10 25 ?_ #[tT,tT,tT,tT,tT,tT,tT,tT,tT,tT,tT,fF] rfl rfl (wJ HT_.out (zz0)) (fun _ _ _ h=>h) (Or.inl ⟨zz25,?_⟩) ?_ ?_ ?_;rotate_left
   ·intro w';go_simp;with_reducible rfl
   rotate_left;·simp only [zzs];rfl
   refine zzp 11 14 ?_ #[tT,tT,tT,tT,tT,tT,tT,tT,tT,tT,tT,tT] rfl rfl (wJ HT_.out (zz0)) (fun _ _ _ h=>h) (Or.inl ⟨zz25,?_⟩) ?_ ?_ ?_;rotate_left
   ·intro w';go_simp;with_reducible rfl
   rotate_left;·simp only [zzs];rfl
   refine yX (yQ HT_.out (zz0)) ?_
   try go_wp2
   go_ret
   exact ⟨zz8,zz24⟩
def U39.f (k:Nat) (l0:List (S26)) (l1:List (S44)) (a2:Int):Option (Int):=if 0≤a2 then (if a2 < (l1.length:Int) then (if l0.length≤9223372036854775807 then (U39.g k l0 l1 a2) else (none)) else (none)) else (none)
theorem U39.mono:∀ a0 a1 a2 k,LeO (U39.f k a0 a1 a2) (U39.f (k+1) a0 a1 a2):=by
 intro a0 a1 a2 k;unfold U39.f
 split
 ·split
  ·split
   ·exact U39.mono0 a0 a1 a2 k
   ·exact fun r h=>h
  ·exact fun r h=>h
 ·exact fun r h=>h
theorem U39.calls (k:Nat) (A0:Option Addr) (c0:Nat) (l0:List (S26)) (A1:Option Addr) (c1:Nat) (l1:List (S44)) (a2:Int) (r:Int) (w:World) (hr0:Kd.C k26 w A0 l0.length l0) (hc0:l0.length≤c0) (hr1:Kd.C k44 w A1 l1.length l1) (hc1:l1.length≤c1) (h:U39.f k l0 l1 a2 = some r) :
  Calls Tryd.prog 33 #[.slice A0 l0.length c0,.slice A1 l1.length c1,.int .i64 a2] w fun e w'=>e = .returned (.int .i64 r)∧Below w.heap.size w w':=by
 unfold U39.f at h;by_cases h0:0≤a2
 ·rw [if_pos h0] at h;by_cases h1:a2 < (l1.length:Int)
  ·rw [if_pos h1] at h;by_cases h2:l0.length≤9223372036854775807
   ·rw [if_pos h2] at h
    exact U39.calls0 k A0 c0 l0 A1 c1 l1 a2 r w hr0 hc0 hr1 hc1 h0 h1 h2 h
   ·rw [if_neg h2] at h;exact absurd h (zz7)
  ·rw [if_neg h1] at h;exact absurd h (zz7)
 ·rw [if_neg h0] at h;exact absurd h (zz7)
end Go.Proofs.YtnimkmkapajnhaaDoor.QA
