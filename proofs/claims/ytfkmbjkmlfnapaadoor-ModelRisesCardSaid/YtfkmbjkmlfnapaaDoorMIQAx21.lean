import Derived.Test.YtfkmbjkmlfnapaaDoorMIQAx0
import Derived.Test.YtfkmbjkmlfnapaaDoorMIQAx1
import Derived.Test.YtfkmbjkmlfnapaaDoorMIQAx2
import Derived.Test.YtfkmbjkmlfnapaaDoorMIQAx3
import Derived.Test.YtfkmbjkmlfnapaaDoorMIQAx5
import Derived.Test.YtfkmbjkmlfnapaaDoorMIQAx7
import Derived.Test.YtfkmbjkmlfnapaaDoorMIQAx13
namespace Go.Proofs.YtfkmbjkmlfnapaaDoor.QA
open Go.RowKit Go.Proofs.YtfkmbjkmlfnapaaDoorW.PrintWords Go.Proofs.YtfkmbjkmlfnapaaDoorW.PrintLast Go.Proofs.YtfkmbjkmlfnapaaDoorW.PrintMore
attribute [local go_sem] max2_int min2_int max_two min_two max_three min_three max_four min_four
set_option linter.unusedVariables false
set_option linter.unusedSimpArgs false
mutual
def U0.j0:Nat→List Int→Int→Int→Int→Int→Bool→List Int→List Int→Option (Bool)
 | 0,_,_,_,_,_,_,_,_=>none
 | k+1,x1,x2,x3,x4,x12,x46,x952000,x952001=>if x46 = true then (none) else (if (x1.length:Int) = 0 then (if x12 = 0 then (none) else ((U1.f k).bind fun t960=>(some t960))) else (if 0 < (x1.length:Int) then ((U15.f k x952000 x952001 (rd x1 0) x2 x3 x4).bind fun bt962=>(if bt962.2 = 0 then ((U17.f k bt962.1 (x952000.length:Int)).bind fun t967=>(if t967 = 0 then ((U13.f k bt962.1).bind fun t968=>(U0.j1 k x1 x2 (!t968) x952000 x952001)) else (none))) else (U0.j1 k x1 x2 false x952000 x952001))) else (none)))
def U0.j1:Nat→List Int→Int→Bool→List Int→List Int→Option (Bool)
 | 0,_,_,_,_,_=>none
 | k+1,x1,x2,x80,x952000,x952001=>if x80 = true then (none) else (if 0 < (x1.length:Int) then ((U15.f k x952000 x952001 (rd x1 0) x2 1 999).bind fun bt970=>(if 1≤(x1.length:Int) then ((U16.f k x952000 x952001 (x1.take 1) x2).bind fun bt976=>(if bt976.2 = bt970.2 then ((U3.f k bt970.1 bt976.1).bind fun t981=>(if t981 = true then ((U1.f k).bind fun t982=>(some t982)) else (none))) else (none))) else (none))) else (none))
end
def U0.f (k:Nat) (l0_0:List Int) (l0_1:List Int) (l1:List Int) (a2:Int) (a3:Int) (a4:Int):Option (Bool):=(U16.f k l0_0 l0_1 l1 a2).bind fun bt952=>(if bt952.2 = 0 then ((U17.f k bt952.1 (l0_0.length:Int)).bind fun t957=>(if t957 = 0 then ((U13.f k bt952.1).bind fun t958=>(if t958 = true then ((U10.f bt952.1).bind fun t959=>(U0.j0 k l1 a2 a3 a4 bt952.2 (t959 != (wrap64 ((l1.length:Int)+1))) l0_0 l0_1)) else (none))) else (none))) else (U0.j0 k l1 a2 a3 a4 bt952.2 false l0_0 l0_1))
theorem zm14_0 {P:Prop} (h:P:=by repeat' first|(with_reducible first|exact ih0 ..|exact ih1 ..|exact U1.mono ..|exact U3.mono ..|exact U13.mono ..|exact U15.mono ..|exact U16.mono ..|exact U17.mono ..|exact LeO.refl _|exact LeO.none _|refine LeO.ite ?_ ?_|refine LeO.bind ?_ (fun _=>?_))|exact ih0 ..|exact ih1 ..|exact U1.mono ..|exact U3.mono ..|exact U13.mono ..|exact U15.mono ..|exact U16.mono ..|exact U17.mono ..|exact LeO.none _|refine LeO.ite ?_ ?_|refine LeO.bind ?_ (fun _=>?_)):P:=h
theorem U0.mono_l:∀ k,(∀ y0 y1 y2 y3 y4 y5 y6 y7,LeO (U0.j0 k y0 y1 y2 y3 y4 y5 y6 y7) (U0.j0 (k+1) y0 y1 y2 y3 y4 y5 y6 y7))∧(∀ y0 y1 y2 y3 y4,LeO (U0.j1 k y0 y1 y2 y3 y4) (U0.j1 (k+1) y0 y1 y2 y3 y4))
 | 0=>⟨fun _ _ _ _ _ _ _ _ r h=>by simp [U0.j0] at h,fun _ _ _ _ _ r h=>by simp [U0.j1] at h⟩
 | k+1=>by
  obtain ⟨ih0,ih1⟩:=U0.mono_l k;refine ⟨?_,?_⟩
  ·intro y0 y1 y2 y3 y4 y5 y6 y7;unfold U0.j0
   exact zm14_0
  ·intro y0 y1 y2 y3 y4;unfold U0.j1
   exact zm14_0
theorem U0.mono:∀ a0 a1 a2 a3 a4 a5 k,LeO (U0.f k a0 a1 a2 a3 a4 a5) (U0.f (k+1) a0 a1 a2 a3 a4 a5):=by
 intro a0 a1 a2 a3 a4 a5 k;obtain ⟨ih0,ih1⟩:=U0.mono_l k;unfold U0.f
 exact zm14_0
def U0.T6:Bool × List (List Nat × List Nat):=(true,[([],[]),([],[]),([1],[1]),([2],[2]),([],[]),([],[]),([],[]),([0,3,4,5,6],[0,3,4,5,6]),([7],[7]),([8],[8]),([8],[8]),([],[]),([11,9,7,0,1,2,3,4,5,6,7,8,9,11],[9,11]),([10,12,0,1,2,3,4,5,6,7,8,9,10,11,12],[10])])
def U0.B6:List Nat:=[0,0,2,6,0,0,0,127,255,511,511,0,3071,8191]
theorem U0.tab6:rtab .any (opsOf Tryd.f7 6) = U0.T6:=zz0
theorem U0.bits6:waitsOk U0.T6.2 U0.B6 = true:=zz0
def U0.T9:Bool × List (List Nat × List Nat):=(true,[([],[]),([],[]),([1],[1]),([2],[2]),([],[]),([0,3,4],[0,3,4]),([5],[5]),([6],[6]),([6],[6]),([],[]),([9,7,5,0,1,2,3,4,5,6,7,9],[7,9]),([8,10,0,1,2,3,4,5,6,7,8,9,10],[8])])
def U0.B9:List Nat:=[0,0,2,6,0,31,63,127,127,0,767,2047]
theorem U0.tab9:rtab .any (opsOf Tryd.f7 9) = U0.T9:=zz0
theorem U0.bits9:waitsOk U0.T9.2 U0.B9 = true:=zz0
def U0.T10:Bool × List (List Nat × List Nat):=(true,[([],[]),([],[]),([1],[1]),([],[]),([0,2,3],[0,2,3]),([4],[4]),([5],[5]),([5],[5]),([],[]),([8,6,4,0,1,2,3,4,5,6,8],[6,8]),([7,9,0,1,2,3,4,5,6,7,8,9],[7])])
def U0.B10:List Nat:=[0,0,2,0,15,31,63,63,0,383,1023]
theorem U0.tab10:rtab .any (opsOf Tryd.f7 10) = U0.T10:=zz0
theorem U0.bits10:waitsOk U0.T10.2 U0.B10 = true:=zz0
set_option maxHeartbeats 8000000 in
set_option maxRecDepth 100000 in
theorem U0.calls (k:Nat) (A0_0:Option Addr) (c0_0:Nat) (l0_0:List Int) (A0_1:Option Addr) (c0_1:Nat) (l0_1:List Int) (A1:Option Addr) (c1:Nat) (l1:List Int) (a2:Int) (a3:Int) (a4:Int) (r:Bool) (w:World) (hr0_0:Kd.C (Kd.int .i64) w A0_0 l0_0.length l0_0) (hc0_0:l0_0.length≤c0_0) (hr0_1:Kd.C (Kd.int .i64) w A0_1 l0_1.length l0_1) (hc0_1:l0_1.length≤c0_1) (hr1:Kd.C (Kd.int .i64) w A1 l1.length l1) (hc1:l1.length≤c1) (h:U0.f k l0_0 l0_1 l1 a2 a3 a4 = some r) :
  Calls Tryd.prog 7 #[.agg #[.slice A0_0 l0_0.length c0_0,.slice A0_1 l0_1.length c0_1],.slice A1 l1.length c1,.int .i64 a2,.int .i64 a3,.int .i64 a4] w fun e w'=>e = .returned (.bool r)∧Below w.heap.size w w':=by
 have hu33:=Tryd.underlying33;have hu24:=Tryd.underlying24;have HR0_0:=Aside0.mk hr0_0;have HC0_0:=Aside0.mk hc0_0;clear hr0_0 hc0_0;have HR0_1:=Aside0.mk hr0_1;have HC0_1:=Aside0.mk hc0_1;clear hr0_1 hc0_1;have HR1:=Aside0.mk hr1;have HC1:=Aside0.mk hc1;clear hr1 hc1;have HB:=Aside0.mk (Below.refl w.heap.size w);have H:((U16.f k l0_0 l0_1 l1 a2).bind fun bt952=>(if bt952.2 = 0 then ((U17.f k bt952.1 (l0_0.length:Int)).bind fun t957=>(if t957 = 0 then ((U13.f k bt952.1).bind fun t958=>(if t958 = true then ((U10.f bt952.1).bind fun t959=>(U0.j0 k l1 a2 a3 a4 bt952.2 (t959 != (wrap64 ((l1.length:Int)+1))) l0_0 l0_1)) else (none))) else (none))) else (U0.j0 k l1 a2 a3 a4 bt952.2 false l0_0 l0_1))) = some r:=h;clear h;replace H:=Option.bind_eq_some_iff.mp H;obtain ⟨⟨t952,t955⟩,A60,H⟩:=H;have A6:=Aside0.mk A60;clear A60;have HC7:=Aside0.mk H;clear H;go_enter Tryd.func7,Tryd.ntmps7
 go_upto_region 2 with (first|((with_reducible refine gate_dst (N:=5) rfl ?_);(try (refine gate_guard (zz9) ?_;dsimp only));refine box_event ?hg (N:=5) ?hd (cs:=#[.slice A0_0 l0_0.length c0_0,.slice A0_1 l0_1.length c0_1]) (t:=33) ?hr ?_;(case hd=>rfl);(case hg=>rfl);(case hr=>exact zz156);intro gb951 hg w8 hbox hb;have BK951:=Aside0.mk (hbox);have GW951:=Aside0.mk ((by rw [hg];exact (below_size (zz10)):w.heap.size≤gb951));have GE951:=Aside0.mk ((by rw [hg];exact (below_size (zz10)):w.heap.size≤gb951));replace HB:=Aside0.mk (below_step (zz10) hb);clear hb hbox hg;obtain ⟨hcz9_0,hcz9_1,hfz9_0,hfz9_1⟩:=zc2 BK951.out)|((with_reducible refine gate_callee (f:=24) rfl ?_);refine goesL_ (some 21) rfl rfl Tryd.func24 (zz0) rfl #[.agg #[.slice A0_0 l0_0.length c0_0,.slice A0_1 l0_1.length c0_1],.slice A1 l1.length c1,.int .i64 a2] rfl (zz5) ?_;(with_reducible refine (U16.calls k _ _ l0_0 _ _ l0_1 _ _ l1 a2 t952 t955 _ ?_ ?_ ?_ ?_ ?_ ?_ A6.out).mono ?_);exact zz161;exact zz162;exact zz163;exact zz164;(exact (have h0_:=HR1;zz157));exact HC1.out;rintro e w10 ⟨v953,rfl,ho0,hb⟩;refine ⟨_,rfl,?_⟩;have HO954:=Aside0.mk (Kd.S_lower ho0 (below_size (have h0_:=GE951;zz13)));replace BK951:=Aside0.mk (blk_below (zz137) hb);replace HB:=Aside0.mk (below_step (have h0_:=GE951;zz13) hb);(try clear hb);(try clear ho0))|((with_reducible refine gate_dst (N:=11) rfl ?_);(try (refine gate_guard (zz9) ?_;dsimp only));refine box_event ?hg (N:=11) ?hd (cs:=#[.slice none 0 0]) (t:=24) ?hr ?_;(case hd=>rfl);(case hg=>rfl);(case hr=>exact zz156);intro gb956 hg w11 hbox hb;replace HO954:=Aside0.mk (Kd.S_below (have h0_:=HO954;zz33) hb);have BK956:=Aside0.mk (hbox);have GW956:=Aside0.mk ((by rw [hg];exact (below_size (have h0_:=GE951;zz13)):w.heap.size≤gb956));have GE956:=Aside0.mk ((by rw [hg];exact (below_size (have h0_:=GE951;zz13)):w.heap.size≤gb956));replace HB:=Aside0.mk (below_step (have h0_:=GE951;zz13) hb);have NB951_956:=Aside0.mk ((by rw [hg];exact Nat.ne_of_lt (blk_lt (g:=gb951) (o:=.cells #[.slice A0_0 l0_0.length c0_0,.slice A0_1 l0_1.length c0_1] 33 (0,0)) (zz137)):gb951 ≠ gb956));have NB956_951:=Aside0.mk ((by rw [hg];exact Nat.ne_of_gt (blk_lt (g:=gb951) (o:=.cells #[.slice A0_0 l0_0.length c0_0,.slice A0_1 l0_1.length c0_1] 33 (0,0)) (zz137)):gb956 ≠ gb951));replace BK951:=Aside0.mk (blk_below (zz137) hb);clear hb hbox hg;obtain ⟨Ao12,co12,eo12⟩:=Kd.S_slice HO954.out;subst eo12;have hnb13:=NB956_951.out;have hnc13:=NB951_956.out;obtain ⟨hcz14_0,hfz14_0⟩:=zc1 BK956.out))
 (try simp only [Act.put,List.setIfInBounds_toArray,List.set_cons_zero,List.set_cons_succ])
 go_cut [46] (fun v46 wc=>∃ (kq:Nat) (x46_6:Bool),v46 = .bool x46_6∧Aside0 (U0.j0 kq l1 a2 a3 a4 t955 x46_6 l0_0 l0_1 = some r)∧Aside0 (kq≤k)∧Aside0 (Kd.S (Kd.slice 3 (Kd.int .i64)) 31 wc w.heap.size (fun _=>True) (.slice Ao12 t952.length co12) t952)∧Aside0 (wc.heap[gb951]? = some (.cells #[(.slice A0_0 l0_0.length c0_0),(.slice A0_1 l0_1.length c0_1)] 33 (0,0)))∧Aside0 (wc.heap[gb956]? = some (.cells #[(.slice Ao12 t952.length co12)] 24 (0,0)))∧Aside0 (Below w.heap.size w wc))
 case first =>
  have H:=HC7.out;clear HC7;replace H:=zzj H;rcases H with ⟨c15,H⟩|⟨c15,H⟩
  ·have c15b0:=beq_iff_eq.mpr c15;have c15b1:=bne_eq_false_iff_eq.mpr c15;clear c15
   (first|rw [c15b0]|rw [c15b1]|(simp only [i64_w,i32_w];rw [c15b0])|skip)
   replace H:=zzb H;obtain ⟨t957,A16,H⟩:=H;replace H:=zzi H;obtain ⟨c17,H⟩:=H;have c17b0:=beq_iff_eq.mpr c17;have c17b1:=bne_eq_false_iff_eq.mpr c17;clear c17;replace H:=zzb H;obtain ⟨t958,A18,H⟩:=H;by_cases c19:t958 = true
   ·subst c19;have H1:((U10.f t952).bind fun t959=>(U0.j0 k l1 a2 a3 a4 t955 (t959 != (wrap64 ((l1.length:Int)+1))) l0_0 l0_1)) = some r:=zz3;clear H;have H:=H1;clear H1;replace H:=zzb H;obtain ⟨t959,A20,H⟩:=H;have H':=Aside0.mk H;clear H;have hnb21:=NB956_951.out;have hnc21:=NB951_956.out;obtain ⟨hcz22_0,hfz22_0⟩:=zc1 BK956.out;obtain ⟨hcz23_0,hcz23_1,hfz23_0,hfz23_1⟩:=zc2 BK951.out
    go_wp2_with (first|(go_at_call 14;(with_reducible refine (U17.calls k _ _ t952 (l0_0.length:Int) t957 _ ?_ ?_ A16.out).mono ?_);(refine (Kd.S_reads' (e:=31) (base:=w.heap.size) (ok:=fun k_=>True) (n:=t952.length) (c:=co12) ?_).2.2;exact (by (with_reducible repeat (first|apply Kd.S_alloc|apply Kd.S_drewN|apply Kd.S_drew));exact (Kd.S_mono (Kd.S_far (p:=⟨gb956,0,none⟩) (Kd.S_types HO954.out BK956.out (zz17)) (fun _ hk=>hk.2) (.slice Ao12 t952.length co12)) (fun _ h_=>h_.1))));exact (Kd.S_reads' HO954.out).2.1;rintro e w24 ⟨rfl,hb⟩;replace HO954:=Aside0.mk (Kd.S_below (by (with_reducible repeat (first|apply Kd.S_alloc|apply Kd.S_drewN|apply Kd.S_drew));exact (Kd.S_mono (Kd.S_far (p:=⟨gb956,0,none⟩) (Kd.S_types HO954.out BK956.out (zz17)) (fun _ hk=>hk.2) (.slice Ao12 t952.length co12)) (fun _ h_=>h_.1))) hb);replace BK951:=Aside0.mk (blk_below (g:=gb951) (o:=.cells #[.slice A0_0 l0_0.length c0_0,.slice A0_1 l0_1.length c0_1] 33 (0,0)) (by (with_reducible repeat (first|refine blk_drewN ?_ _|refine blk_drew ?_|refine blk_alloc ?_ _));refine blk_far ?_ NB951_956.out _;(with_reducible repeat (first|refine blk_drewN ?_ _|refine blk_drew ?_|refine blk_alloc ?_ _));exact BK951.out) hb);replace BK956:=Aside0.mk (blk_below (g:=gb956) (o:=.cells #[.slice Ao12 t952.length co12] 24 (0,0)) (have h0_:=BK956;zz30) hb);replace HB:=Aside0.mk (below_step (zz138) hb);(try clear hb);(try clear hk);obtain ⟨hcz25_0,hfz25_0⟩:=zc1 BK956.out)|(go_at_call 18;(with_reducible refine (U13.calls k _ _ t952 true _ ?_ ?_ A18.out).mono ?_);(exact (have h0_:=HO954;zz174));exact (Kd.S_reads' HO954.out).2.1;rintro e w26 ⟨rfl,hb⟩;replace HO954:=Aside0.mk (Kd.S_below (have h0_:=HO954;zz33) hb);replace BK951:=Aside0.mk (blk_below (zz137) hb);replace BK956:=Aside0.mk (blk_below (zz139) hb);replace HB:=Aside0.mk (below_step (zz138) hb);(try clear hb);(try clear hk);obtain ⟨hcz27_0,hfz27_0⟩:=zc1 BK956.out)|(go_at_call 16;(with_reducible refine (U10.calls _ _ t952 t959 _ ?_ ?_ A20.out).mono ?_);(exact (have h0_:=HO954;zz174));exact (Kd.S_reads' HO954.out).2.1;rintro e w28 ⟨rfl,hb⟩;replace HO954:=Aside0.mk (Kd.S_below (have h0_:=HO954;zz33) hb);replace BK951:=Aside0.mk (blk_below (zz137) hb);replace BK956:=Aside0.mk (blk_below (zz139) hb);replace HB:=Aside0.mk (below_step (zz138) hb);(try clear hb);(try clear hk)))
    go_meet
    case rel=>exact ⟨_,((t959 != (wrap64 ((l1.length:Int)+1)))),(zz1),H',⟨zz11⟩,⟨(have h0_:=HO954;zz33)⟩,⟨zz137⟩,⟨zz139⟩,⟨zz138⟩⟩
   ·replace c19:=Bool.eq_false_iff.mpr c19;subst c19;have H1:(none) = some r:=zz7;clear H;have H:=H1;clear H1
    exact absurd H (zz8)
  ·have c15b0:=beq_eq_false_iff_ne.mpr c15;have c15b1:=bne_iff_ne.mpr c15
   (first|rw [c15b0]|rw [c15b1]|(simp only [i64_w,i32_w];rw [c15b0])|skip)
   have H':=Aside0.mk H;clear H
   go_wp2
   go_meet
   case rel=>exact ⟨_,(false),(zz1),H',⟨zz11⟩,⟨by (with_reducible repeat (first|apply Kd.S_alloc|apply Kd.S_drewN|apply Kd.S_drew));exact Kd.S_mono (Kd.S_far (p:=⟨gb956,0,none⟩) (Kd.S_types HO954.out BK956.out (zz17)) (fun _ hk=>hk.2) (.slice Ao12 t952.length co12)) (fun _ hk=>trivial)⟩,⟨by (with_reducible repeat (first|refine blk_drewN ?_ _|refine blk_drew ?_|refine blk_alloc ?_ _));refine blk_far ?_ NB951_956.out _;(with_reducible repeat (first|refine blk_drewN ?_ _|refine blk_drew ?_|refine blk_alloc ?_ _));exact BK951.out⟩,⟨(have h0_:=BK956;zz30)⟩,⟨zz138⟩⟩
 case rest =>
  clear HC7;(try clear c1);(try clear hcz14_0);(try clear hcz9_0);(try clear hcz9_1);(try clear hfz14_0);(try clear hfz9_0);(try clear hfz9_1);obtain ⟨kq,x46_6,rfl,HA,HJ6,HO_957000,BK951,BK956,HB⟩:=hcut
  cases kq with
  | zero=>exact absurd HA.out (by simp [U0.j0])
  | succ kj6 =>
   have H:=HA.out;clear HA;simp only [U0.j0] at H;by_cases c29:x46_6 = true
   ·subst c29;have H1:(none) = some r:=zz3;clear H;have H:=H1;clear H1
    exact absurd H (zz8)
   ·replace c29:=Bool.eq_false_iff.mpr c29;subst c29;have H1:(if (l1.length:Int) = 0 then (if t955 = 0 then (none) else ((U1.f kj6).bind fun t960=>(some t960))) else (if 0 < (l1.length:Int) then ((U15.f kj6 l0_0 l0_1 (rd l1 0) a2 a3 a4).bind fun bt962=>(if bt962.2 = 0 then ((U17.f kj6 bt962.1 (l0_0.length:Int)).bind fun t967=>(if t967 = 0 then ((U13.f kj6 bt962.1).bind fun t968=>(U0.j1 kj6 l1 a2 (!t968) l0_0 l0_1)) else (none))) else (U0.j1 kj6 l1 a2 false l0_0 l0_1))) else (none))) = some r:=zz7;clear H;have H:=H1;clear H1;replace H:=zzj H;rcases H with ⟨c30,H⟩|⟨c30,H⟩
    ·have c30b0:=beq_iff_eq.mpr c30;have c30b1:=bne_eq_false_iff_eq.mpr c30;clear c30;replace H:=zzj H;rcases H with ⟨c31,H⟩|⟨c31,H⟩
     ·exact absurd H (zz8)
     ·have c31b0:=beq_eq_false_iff_ne.mpr c31;have c31b1:=bne_iff_ne.mpr c31;replace H:=zzb H;obtain ⟨t960,A32,H⟩:=H;obtain rfl:=Option.some.inj H
      go_wp2_with (first|(go_at_call 20;(with_reducible refine (U1.calls kj6  t960 _ A32.out).mono ?_);rintro e w33 ⟨rfl,hb⟩;replace HO_957000:=Aside0.mk (Kd.S_below (zz140) hb);replace BK951:=Aside0.mk (blk_below (zz137) hb);replace BK956:=Aside0.mk (blk_below (zz139) hb);replace HB:=Aside0.mk (below_step (zz138) hb);(try clear hb)))
      go_ret
      exact ⟨zz14,zz138⟩
    ·have c30b0:=beq_eq_false_iff_ne.mpr c30;have c30b1:=bne_iff_ne.mpr c30;have c30b2:¬ (l1 = []):=fun h_=>c30 (by rw [h_];rfl);replace H:=zzi H;obtain ⟨c34,H⟩:=H;have c34b0:=decide_eq_true c34;have c34b1:decide (0 < l1.length) = true:=decide_eq_true (zz15);clear c34;replace H:=Option.bind_eq_some_iff.mp H;obtain ⟨⟨t962,t965⟩,A350,H⟩:=H;have A35:=Aside0.mk A350;clear A350;have HC36:=Aside0.mk H;clear H
     try go_wp2
     replace HO_957000:=Aside0.mk (Kd.S_drew HO_957000.out);replace BK951:=Aside0.mk (blk_drew BK951.out);replace BK956:=Aside0.mk (blk_drew BK956.out);replace HB:=Aside0.mk (below_drew1 HB.out);have p961:0≤(0:Int):=(zz15);have q961:0 < (l1.length:Int):=of_decide_eq_true (zz4);obtain ⟨ad961,e961,hx961_0⟩:=Kd.at_int HR1.out 0 p961 q961;have hw961_0:=hx961_0
     (try rw [show ((0:Int)).toNat = 0 from rfl] at hw961_0)
     (try rw [show 0 * 1 = 0 from rfl] at hw961_0)
     (try rw [Addr.add_zero'] at hw961_0)
     cases e961
     have qi961:(0 < l1.length) = True:=eq_true (zz15)
     (try rw [show ((0:Int)).toNat = 0 from rfl] at hx961_0)
     (try rw [Addr.add_zero'] at hx961_0)
     replace hx961_0:=(HB.out.cell (World.block_lt_of_cell? w _ hx961_0)).trans hx961_0;replace p961:=eq_true p961;replace q961:=eq_true q961;refine start_ (n:=14) (S:=fun w'=>w'.cell? ⟨gb951,0,none⟩ = some (.slice A0_0 l0_0.length c0_0)∧w'.cell? ⟨gb951,1,none⟩ = some (.slice A0_1 l0_1.length c0_1)∧w'.cell? ad961 = some (.int .i64 (rd l1 0))) (ds:=[]) #[false,false,false,false,false,false,false,false,false,false,false,false,false,false] (zz0) rfl rfl ⟨(blk_cell BK951.out 0).trans rfl,(blk_cell BK951.out 1).trans rfl,((HB.out.cell (World.block_lt_of_cell? w _ hw961_0)).trans hw961_0)⟩ (fun hHeld=>?_);refine with_tabW U0.tab6 U0.bits6 (fun HT_ HW_=>?_)
     generalize wc.drew = w37 at HO_957000 BK951 BK956 HB hx961_0 hHeld ⊢
     refine zzp 1 57 ?_ #[false,true,false,false,false,false,false,false,false,false,false,false,false,false] rfl rfl (any_of HT_.out (zz0)) (fun _ _ _ h=>h) (Or.inl ⟨zz9,?_⟩) ?_ ?_ ?_;rotate_left
     ·intro w'
      go_simp
      with_reducible rfl
     rotate_left
     ·simp only [zzs]
      rfl
     refine zzp 2 58 ?_ #[false,true,true,false,false,false,false,false,false,false,false,false,false,false] rfl rfl (any_of HT_.out (zz0)) (fun _ _ _ h=>h) (Or.inl ⟨zz9,?_⟩) ?_ ?_ ?_;rotate_left
     ·intro w'
      go_simp
      with_reducible rfl
     rotate_left
     ·simp only [zzs]
      rfl
     refine zzp 4 60 ?_ #[false,true,true,false,true,false,false,false,false,false,false,false,false,false] rfl rfl (any_of HT_.out (zz0)) (fun _ _ _ h=>h) (Or.inl ⟨zz9,?_⟩) ?_ ?_ ?_;rotate_left
     ·intro w'
      go_simp
      with_reducible rfl
     rotate_left
     ·simp only [zzs]
      rfl
     refine zzp 5 61 ?_ #[false,true,true,false,true,true,false,false,false,false,false,false,false,false] rfl rfl (any_of HT_.out (zz0)) (fun _ _ _ h=>h) (Or.inl ⟨zz9,?_⟩) ?_ ?_ ?_;rotate_left
     ·intro w'
      go_simp
      with_reducible rfl
     rotate_left
     ·simp only [zzs]
      rfl
     refine zzp 6 62 ?_ #[false,true,true,false,true,true,true,false,false,false,false,false,false,false] rfl rfl (any_of HT_.out (zz0)) (fun _ _ _ h=>h) (Or.inl ⟨zz9,?_⟩) ?_ ?_ ?_;rotate_left
     ·intro w'
      go_simp
      with_reducible rfl
     rotate_left
     ·simp only [zzs]
      rfl
     refine take_ (i:=0) (N:=some 56) (v:=?_) (a':=?_) #[true,true,true,false,true,true,true,false,false,false,false,false,false,false] rfl rfl (take_ofW HT_.out HW_.out (zz0)) (fun _ _ _ h=>h) (Or.inl ⟨zz9,?_⟩) hHeld ?_ ?_;rotate_left
     ·rintro w' ⟨s0,s1,s2⟩
      go_simp
      with_reducible rfl
     rotate_left
     ·simp only [zzs]
      rfl
     refine take_ (i:=3) (N:=some 59) (v:=?_) (a':=?_) #[true,true,true,true,true,true,true,false,false,false,false,false,false,false] rfl rfl (take_ofW HT_.out HW_.out (zz0)) (fun _ _ _ h=>h) (Or.inl ⟨zz9,?_⟩) hHeld ?_ ?_;rotate_left
     ·rintro w' ⟨s0,s1,s2⟩
      go_simp
      with_reducible rfl
     rotate_left
     ·simp only [zzs]
      rfl
     refine join_ (σ:=Value × Nat) 2 #[true,true,true,true,true,true,true,true,true,true,true,true,false,false] (fun s_=>[(63,.tuple #[.agg #[s_.1],.int .i64 t965]),(13,.pointer (some ⟨s_.2,0,none⟩)),(55,.tuple #[.agg #[s_.1],.int .i64 t965]),(64,.agg #[s_.1]),(65,.int .i64 t965)]) (fun s_ w'=>(w'.cell? ⟨gb951,0,none⟩ = some (.slice A0_0 l0_0.length c0_0)∧w'.cell? ⟨gb951,1,none⟩ = some (.slice A0_1 l0_1.length c0_1)∧w'.cell? ad961 = some (.int .i64 (rd l1 0)))∧(Kd.S (Kd.slice 3 (Kd.int .i64)) 31 w' w.heap.size (fun k_=>some k_ ≠ (.slice Ao12 t952.length co12:Value).ownBlock) s_.1 t962)∧(Kd.S (Kd.slice 3 (Kd.int .i64)) 31 w' w.heap.size (fun k_=>some k_ ≠ (s_.1:Value).ownBlock) (.slice Ao12 t952.length co12) t952)∧(w'.heap[gb951]? = some (.cells #[.slice A0_0 l0_0.length c0_0,.slice A0_1 l0_1.length c0_1] 33 (0,0)))∧(w'.heap[gb956]? = some (.cells #[.slice Ao12 t952.length co12] 24 (0,0)))∧(w'.heap[s_.2]? = some (.cells #[.slice none 0 0] 24 (0,0)))∧(w.heap.size≤s_.2)∧(w.heap.size≤s_.2)∧(gb951 ≠ s_.2)∧(s_.2 ≠ gb951)∧(gb956 ≠ s_.2)∧(s_.2 ≠ gb956)∧(Below w.heap.size w w')) ?_ ?_;rotate_left
     ·intro hCont;refine two_ (i:=7) (j:=11) (Ni:=some 63) (Nj:=some 13) #[true,true,true,true,true,true,true,true,false,false,false,false,false,false] #[true,true,true,true,true,true,true,false,false,false,false,true,false,false] rfl rfl rfl rfl (two_of HT_.out (zz0)) (zz17) (zz17) (fun K hK=>?_) (fun K hK=>?_)
      ·skip
       refine goes_ Tryd.func21 (zz0) rfl #[.agg #[.slice A0_0 l0_0.length c0_0,.slice A0_1 l0_1.length c0_1],.int .i64 (rd l1 0),.int .i64 a2,.int .i64 a3,.int .i64 a4] (zz9) rfl rfl (zz5) ?_
       with_reducible refine (U15.calls kj6 _ _ l0_0 _ _ l0_1 (rd l1 0) a2 a3 a4 t962 t965 _ ?side1 ?side2 ?side3 ?side4 A35.out).mono ?_
       (case side1=>exact zz161)
       (case side2=>exact zz162)
       (case side3=>exact zz163)
       (case side4=>exact zz164)
       rintro e w38 ⟨v963,rfl,ho0,hb⟩;refine ⟨_,rfl,?_⟩;have HO964:=Aside0.mk (Kd.S_lower (Kd.S_new' ho0 (Kd.S_lt (zz140))) (below_size (zz138)));replace HO_957000:=Aside0.mk (Kd.S_elder' (zz140) (Kd.S_base ho0) hb);replace BK951:=Aside0.mk (blk_below (zz137) hb);replace BK956:=Aside0.mk (blk_below (zz139) hb);replace HB:=Aside0.mk (below_step (zz138) hb)
       (try clear hb)
       (try clear ho0)
       refine hK.out _ _ ⟨(blk_cell BK951.out 0).trans rfl,(blk_cell BK951.out 1).trans rfl,((HB.out.cell (World.block_lt_of_cell? w _ hw961_0)).trans hw961_0)⟩ (fun hHeld=>?_);clear hK K;refine norm_ (a':=?_) ?_ ?_;rotate_left
       ·show Act.put _ (some 63) _ = _
        simp only [zzs]
        rfl
       refine zzp 8 55 ?_ #[true,true,true,true,true,true,true,true,true,false,false,false,false,false] rfl rfl (any_of HT_.out (zz0)) (fun _ _ _ h=>h) (Or.inl ⟨zz9,?_⟩) ?_ ?_ ?_;rotate_left
       ·intro w'
        go_simp
        with_reducible rfl
       rotate_left
       ·simp only [zzs]
        rfl
       refine zzp 9 64 ?_ #[true,true,true,true,true,true,true,true,true,true,false,false,false,false] rfl rfl (any_of HT_.out (zz0)) (fun _ _ _ h=>h) (Or.inl ⟨zz9,?_⟩) ?_ ?_ ?_;rotate_left
       ·intro w'
        go_simp
        with_reducible rfl
       rotate_left
       ·simp only [zzs]
        rfl
       refine zzp 10 65 ?_ #[true,true,true,true,true,true,true,true,true,true,true,false,false,false] rfl rfl (any_of HT_.out (zz0)) (fun _ _ _ h=>h) (Or.inl ⟨zz9,?_⟩) ?_ ?_ ?_;rotate_left
       ·intro w'
        go_simp
        with_reducible rfl
       rotate_left
       ·simp only [zzs]
        rfl
       refine one_ (i:=11) (N:=some 13) #[true,true,true,true,true,true,true,true,true,true,true,true,false,false] rfl rfl (one_of HT_.out (zz0)) (zz17) (fun K hK=>?_);refine box_step ?hg (N:=13) ?hd (cs:=#[.slice none 0 0]) (t:=24) ?hr ?_;(case hd=>rfl);(case hg=>rfl);(case hr=>exact zz156);intro gb966 hg w39 hbox hb;replace HO_957000:=Aside0.mk (Kd.S_below (zz140) hb);replace HO964:=Aside0.mk (Kd.S_below (have h0_:=HO964;zz33) hb);have BK966:=Aside0.mk (hbox);have GW966:=Aside0.mk ((by rw [hg];exact (below_size (zz138)):w.heap.size≤gb966));have GE966:=Aside0.mk ((by rw [hg];exact (below_size (zz138)):w.heap.size≤gb966));replace HB:=Aside0.mk (below_step (zz138) hb);have NB951_966:=Aside0.mk ((by rw [hg];exact Nat.ne_of_lt (blk_lt (g:=gb951) (o:=.cells #[.slice A0_0 l0_0.length c0_0,.slice A0_1 l0_1.length c0_1] 33 (0,0)) (zz137)):gb951 ≠ gb966));have NB966_951:=Aside0.mk ((by rw [hg];exact Nat.ne_of_gt (blk_lt (g:=gb951) (o:=.cells #[.slice A0_0 l0_0.length c0_0,.slice A0_1 l0_1.length c0_1] 33 (0,0)) (zz137)):gb966 ≠ gb951));replace BK951:=Aside0.mk (blk_below (zz137) hb);have NB956_966:=Aside0.mk ((by rw [hg];exact Nat.ne_of_lt (blk_lt (g:=gb956) (o:=.cells #[.slice Ao12 t952.length co12] 24 (0,0)) (zz139)):gb956 ≠ gb966));have NB966_956:=Aside0.mk ((by rw [hg];exact Nat.ne_of_gt (blk_lt (g:=gb956) (o:=.cells #[.slice Ao12 t952.length co12] 24 (0,0)) (zz139)):gb966 ≠ gb956));replace BK956:=Aside0.mk (blk_below (zz139) hb);clear hb hbox hg;refine hK.out _ _ ⟨(blk_cell BK951.out 0).trans rfl,(blk_cell BK951.out 1).trans rfl,((HB.out.cell (World.block_lt_of_cell? w _ hw961_0)).trans hw961_0)⟩ (fun hHeld=>?_);clear hK K;refine norm_ (a':=?_) ?_ ?_;rotate_left
       ·show Act.put _ (some 13) _ = _
        simp only [zzs]
        rfl
       exact norm_ (zz141) (hCont (v963,gb966) _ ⟨hHeld,(have h0_:=HO964;zz48),(have h0_:=HO_957000;zz48),(zz137),(zz139),(zz142),GW966.out,GE966.out,NB951_966.out,NB966_951.out,NB956_966.out,NB966_956.out,(zz143)⟩)
      ·skip
       refine box_step ?hg (N:=13) ?hd (cs:=#[.slice none 0 0]) (t:=24) ?hr ?_;(case hd=>rfl);(case hg=>rfl);(case hr=>exact zz156);intro gb966 hg w38 hbox hb;replace HO_957000:=Aside0.mk (Kd.S_below (zz140) hb);have BK966:=Aside0.mk (hbox);have GW966:=Aside0.mk ((by rw [hg];exact (below_size (zz138)):w.heap.size≤gb966));have GE966:=Aside0.mk ((by rw [hg];exact (below_size (zz138)):w.heap.size≤gb966));replace HB:=Aside0.mk (below_step (zz138) hb);have NB951_966:=Aside0.mk ((by rw [hg];exact Nat.ne_of_lt (blk_lt (g:=gb951) (o:=.cells #[.slice A0_0 l0_0.length c0_0,.slice A0_1 l0_1.length c0_1] 33 (0,0)) (zz137)):gb951 ≠ gb966));have NB966_951:=Aside0.mk ((by rw [hg];exact Nat.ne_of_gt (blk_lt (g:=gb951) (o:=.cells #[.slice A0_0 l0_0.length c0_0,.slice A0_1 l0_1.length c0_1] 33 (0,0)) (zz137)):gb966 ≠ gb951));replace BK951:=Aside0.mk (blk_below (zz137) hb);have NB956_966:=Aside0.mk ((by rw [hg];exact Nat.ne_of_lt (blk_lt (g:=gb956) (o:=.cells #[.slice Ao12 t952.length co12] 24 (0,0)) (zz139)):gb956 ≠ gb966));have NB966_956:=Aside0.mk ((by rw [hg];exact Nat.ne_of_gt (blk_lt (g:=gb956) (o:=.cells #[.slice Ao12 t952.length co12] 24 (0,0)) (zz139)):gb966 ≠ gb956));replace BK956:=Aside0.mk (blk_below (zz139) hb);clear hb hbox hg;refine hK.out _ _ ⟨(blk_cell BK951.out 0).trans rfl,(blk_cell BK951.out 1).trans rfl,((HB.out.cell (World.block_lt_of_cell? w _ hw961_0)).trans hw961_0)⟩ (fun hHeld=>?_);clear hK K;refine norm_ (a':=?_) ?_ ?_;rotate_left
       ·show Act.put _ (some 13) _ = _
        simp only [zzs]
        rfl
       refine one_ (i:=7) (N:=some 63) #[true,true,true,true,true,true,true,true,false,false,false,true,false,false] rfl rfl (one_of HT_.out (zz0)) (zz17) (fun K hK=>?_);refine goes_ Tryd.func21 (zz0) rfl #[.agg #[.slice A0_0 l0_0.length c0_0,.slice A0_1 l0_1.length c0_1],.int .i64 (rd l1 0),.int .i64 a2,.int .i64 a3,.int .i64 a4] (zz9) rfl rfl (zz5) ?_
       with_reducible refine (U15.calls kj6 _ _ l0_0 _ _ l0_1 (rd l1 0) a2 a3 a4 t962 t965 _ ?side1 ?side2 ?side3 ?side4 A35.out).mono ?_
       (case side1=>exact zz161)
       (case side2=>exact zz162)
       (case side3=>exact zz163)
       (case side4=>exact zz164)
       rintro e w39 ⟨v963,rfl,ho0,hb⟩;refine ⟨_,rfl,?_⟩;have HO964:=Aside0.mk (Kd.S_lower (Kd.S_new' ho0 (Kd.S_lt (zz140))) (below_size (zz143)));replace HO_957000:=Aside0.mk (Kd.S_elder' (zz140) (Kd.S_base ho0) hb);replace BK951:=Aside0.mk (blk_below (zz137) hb);replace BK956:=Aside0.mk (blk_below (zz139) hb);replace BK966:=Aside0.mk (blk_below (zz142) hb);replace HB:=Aside0.mk (below_step (zz143) hb)
       (try clear hb)
       (try clear ho0)
       refine hK.out _ _ ⟨(blk_cell BK951.out 0).trans rfl,(blk_cell BK951.out 1).trans rfl,((HB.out.cell (World.block_lt_of_cell? w _ hw961_0)).trans hw961_0)⟩ (fun hHeld=>?_);clear hK K;refine norm_ (a':=?_) ?_ ?_;rotate_left
       ·show Act.put _ (some 63) _ = _
        simp only [zzs]
        rfl
       refine zzp 8 55 ?_ #[true,true,true,true,true,true,true,true,true,false,false,true,false,false] rfl rfl (any_of HT_.out (zz0)) (fun _ _ _ h=>h) (Or.inl ⟨zz9,?_⟩) ?_ ?_ ?_;rotate_left
       ·intro w'
        go_simp
        with_reducible rfl
       rotate_left
       ·simp only [zzs]
        rfl
       refine zzp 9 64 ?_ #[true,true,true,true,true,true,true,true,true,true,false,true,false,false] rfl rfl (any_of HT_.out (zz0)) (fun _ _ _ h=>h) (Or.inl ⟨zz9,?_⟩) ?_ ?_ ?_;rotate_left
       ·intro w'
        go_simp
        with_reducible rfl
       rotate_left
       ·simp only [zzs]
        rfl
       refine zzp 10 65 ?_ #[true,true,true,true,true,true,true,true,true,true,true,true,false,false] rfl rfl (any_of HT_.out (zz0)) (fun _ _ _ h=>h) (Or.inl ⟨zz9,?_⟩) ?_ ?_ ?_;rotate_left
       ·intro w'
        go_simp
        with_reducible rfl
       rotate_left
       ·simp only [zzs]
        rfl
       exact norm_ (zz141) (hCont (v963,gb966) _ ⟨hHeld,(have h0_:=HO964;zz48),(have h0_:=HO_957000;zz48),(zz137),(zz139),(zz142),GW966.out,GE966.out,NB951_966.out,NB966_951.out,NB956_966.out,NB966_956.out,(zz143)⟩)
     rintro ⟨v963,gb966⟩ w40 ⟨hS_,h0_,h1_,h2_,h3_,h4_,h5_,h6_,h7_,h8_,h9_,h10_,h11_⟩;have n0_:Aside0 (Kd.S (Kd.slice 3 (Kd.int .i64)) 31 w40 w.heap.size (fun k_=>some k_ ≠ (.slice Ao12 t952.length co12:Value).ownBlock) v963 t962):=⟨h0_⟩;have n1_:Aside0 (Kd.S (Kd.slice 3 (Kd.int .i64)) 31 w40 w.heap.size (fun k_=>some k_ ≠ (v963:Value).ownBlock) (.slice Ao12 t952.length co12) t952):=⟨h1_⟩;have n2_:Aside0 (w40.heap[gb951]? = some (.cells #[.slice A0_0 l0_0.length c0_0,.slice A0_1 l0_1.length c0_1] 33 (0,0))):=⟨h2_⟩;have n3_:Aside0 (w40.heap[gb956]? = some (.cells #[.slice Ao12 t952.length co12] 24 (0,0))):=⟨h3_⟩;have n4_:Aside0 (w40.heap[gb966]? = some (.cells #[.slice none 0 0] 24 (0,0))):=⟨h4_⟩;have n5_:Aside0 (w.heap.size≤gb966):=⟨h5_⟩;have n6_:Aside0 (w.heap.size≤gb966):=⟨h6_⟩;have n7_:Aside0 (gb951 ≠ gb966):=⟨h7_⟩;have n8_:Aside0 (gb966 ≠ gb951):=⟨h8_⟩;have n9_:Aside0 (gb956 ≠ gb966):=⟨h9_⟩;have n10_:Aside0 (gb966 ≠ gb956):=⟨h10_⟩;have n11_:Aside0 (Below w.heap.size w w40):=⟨h11_⟩;clear HO_957000;clear BK951;clear BK956;clear HB;clear h0_ h1_ h2_ h3_ h4_ h5_ h6_ h7_ h8_ h9_ h10_ h11_;have HO964:=n0_;have HO_957000:=n1_;have BK951:=n2_;have BK956:=n3_;have BK966:=n4_;have GW966:=n5_;have GE966:=n6_;have NB951_966:=n7_;have NB966_951:=n8_;have NB956_966:=n9_;have NB966_956:=n10_;have HB:=n11_;clear n0_ n1_ n2_ n3_ n4_ n5_ n6_ n7_ n8_ n9_ n10_ n11_;have hHeld:w40.cell? ⟨gb951,0,none⟩ = some (.slice A0_0 l0_0.length c0_0)∧w40.cell? ⟨gb951,1,none⟩ = some (.slice A0_1 l0_1.length c0_1)∧w40.cell? ad961 = some (.int .i64 (rd l1 0)):=hS_;obtain ⟨Ao41,co41,eo41⟩:=Kd.S_slice HO964.out
     (first|subst eo41|(injection eo41 with f1_ f2_ f3_;have f4_:=f1_.symm;have f5_:=f3_.symm;clear f1_ f2_ f3_;subst f4_;subst f5_))
     refine norm_ (a':=?_) ?_ ?_;rotate_left
     ·simp only [putAll,Act.put,List.setIfInBounds_toArray,List.set_cons_zero,List.set_cons_succ]
      rfl
     refine one_ (i:=12) (N:=none) #[true,true,true,true,true,true,true,true,true,true,true,true,true,false] rfl rfl (one_of HT_.out (zz0)) (zz17) (fun K hK=>?_);have hs42:w40.cell? ⟨gb966,0,none⟩ = some (.slice none 0 0):=(blk_cell BK966.out 0).trans rfl;have hfs42:=blk_frozen BK966.out 0;have hns42_0:=NB951_966.out;have hns42_1:=NB956_966.out;have hms42_0:=NB966_951.out;have hms42_1:=NB966_956.out;refine skip_ (w1:=?_) (zz9) rfl ?_ ?_;rotate_left
     ·go_simp
      rfl
     refine hK.out _ _ ⟨((cell_far (p:=⟨gb966,_,none⟩) NB951_966.out _).trans (hHeld.1)),((cell_far (p:=⟨gb966,_,none⟩) NB951_966.out _).trans (hHeld.2.1)),((cell_far (p:=⟨gb966,_,none⟩) (by first|exact Nat.ne_of_lt (Nat.lt_of_lt_of_le (zz144) GW966.out)|(rw [add_block];exact Nat.ne_of_lt (Nat.lt_of_lt_of_le (zz144) GW966.out))|(show (Addr.add _ _).block ≠ _;rw [add_block];exact Nat.ne_of_lt (Nat.lt_of_lt_of_le (zz144) GW966.out))|(dsimp only;exact Nat.ne_of_lt (Nat.lt_of_lt_of_le (zz144) GW966.out))) _).trans (hHeld.2.2))⟩ (fun hHeld=>?_);clear hK K;refine zzp 13 14 ?_ #[true,true,true,true,true,true,true,true,true,true,true,true,true,true] rfl rfl (any_of HT_.out (zz0)) (fun _ _ _ h=>h) (Or.inl ⟨zz9,?_⟩) ?_ ?_ ?_;rotate_left
     ·intro w'
      go_simp
      with_reducible rfl
     rotate_left
     ·simp only [zzs]
      rfl
     refine done_ (done_of HT_.out (zz0)) ?_
     go_upto_region 7 with (fail)
     go_cut [80] (fun v80 wc=>∃ (kq:Nat) (x80_35:Bool),v80 = .bool x80_35∧Aside0 (U0.j1 kq l1 a2 x80_35 l0_0 l0_1 = some r)∧Aside0 (kq≤kj6)∧Aside0 (Kd.S (Kd.slice 3 (Kd.int .i64)) 31 wc w.heap.size (fun k_=>some k_ ≠ ((.slice Ao41 t962.length co41):Value).ownBlock) (.slice Ao12 t952.length co12) t952)∧Aside0 (Kd.S (Kd.slice 3 (Kd.int .i64)) 31 wc w.heap.size (fun k_=>some k_ ≠ ((.slice Ao12 t952.length co12):Value).ownBlock) (.slice Ao41 t962.length co41) t962)∧Aside0 (wc.heap[gb951]? = some (.cells #[(.slice A0_0 l0_0.length c0_0),(.slice A0_1 l0_1.length c0_1)] 33 (0,0)))∧Aside0 (wc.heap[gb956]? = some (.cells #[(.slice Ao12 t952.length co12)] 24 (0,0)))∧Aside0 (wc.heap[gb966]? = some (.cells #[(.slice Ao41 t962.length co41)] 24 (0,0)))∧Aside0 (Below w.heap.size w wc))
     case first =>
      have H:=HC36.out;clear HC36;replace H:=zzj H;rcases H with ⟨c43,H⟩|⟨c43,H⟩
      ·have c43b0:=beq_iff_eq.mpr c43;have c43b1:=bne_eq_false_iff_eq.mpr c43;clear c43
       (first|rw [c43b0]|rw [c43b1]|(simp only [i64_w,i32_w];rw [c43b0])|skip)
       replace H:=zzb H;obtain ⟨t967,A44,H⟩:=H;replace H:=zzi H;obtain ⟨c45,H⟩:=H;have c45b0:=beq_iff_eq.mpr c45;have c45b1:=bne_eq_false_iff_eq.mpr c45;clear c45;replace H:=zzb H;obtain ⟨t968,A46,H⟩:=H;have H':=Aside0.mk H;clear H;have hnb47:=NB966_951.out;have hnc47:=NB951_966.out;have hnb48:=NB966_956.out;have hnc48:=NB956_966.out;obtain ⟨hcz49_0,hfz49_0⟩:=zc1 BK966.out;have hnb50:=NB951_956.out;have hnc50:=NB956_951.out;obtain ⟨hcz51_0,hcz51_1,hfz51_0,hfz51_1⟩:=zc2 BK951.out
       go_wp2_with (first|(go_at_call 14;(with_reducible refine (U17.calls kj6 _ _ t962 (l0_0.length:Int) t967 _ ?_ ?_ A44.out).mono ?_);(refine (Kd.S_reads' (e:=31) (base:=w.heap.size) (ok:=fun k_=>some k_ ≠ (.slice Ao12 t952.length co12:Value).ownBlock) (n:=t962.length) (c:=co41) ?_).2.2;exact (have h0_:=HO964;have h1_:=BK966;zz145));exact (Kd.S_reads' HO964.out).2.1;rintro e w52 ⟨rfl,hb⟩;replace HO_957000:=Aside0.mk (Kd.S_below (have h0_:=HO_957000;have h1_:=BK966;zz145) hb);replace HO964:=Aside0.mk (Kd.S_below (have h0_:=HO964;have h1_:=BK966;zz145) hb);replace BK951:=Aside0.mk (blk_below (g:=gb951) (o:=.cells #[.slice A0_0 l0_0.length c0_0,.slice A0_1 l0_1.length c0_1] 33 (0,0)) (by (with_reducible repeat (first|refine blk_drewN ?_ _|refine blk_drew ?_|refine blk_alloc ?_ _));refine blk_far ?_ NB951_966.out _;(with_reducible repeat (first|refine blk_drewN ?_ _|refine blk_drew ?_|refine blk_alloc ?_ _));exact BK951.out) hb);replace BK956:=Aside0.mk (blk_below (g:=gb956) (o:=.cells #[.slice Ao12 t952.length co12] 24 (0,0)) (by (with_reducible repeat (first|refine blk_drewN ?_ _|refine blk_drew ?_|refine blk_alloc ?_ _));refine blk_far ?_ NB956_966.out _;(with_reducible repeat (first|refine blk_drewN ?_ _|refine blk_drew ?_|refine blk_alloc ?_ _));exact BK956.out) hb);replace BK966:=Aside0.mk (blk_below (g:=gb966) (o:=.cells #[.slice Ao41 t962.length co41] 24 (0,0)) (have h0_:=BK966;zz30) hb);replace HB:=Aside0.mk (below_step (zz143) hb);(try clear hb);obtain ⟨hcz53_0,hfz53_0⟩:=zc1 BK966.out)|(go_at_call 18;(with_reducible refine (U13.calls kj6 _ _ t962 t968 _ ?_ ?_ A46.out).mono ?_);(exact (have h0_:=HO964;zz174));exact (Kd.S_reads' HO964.out).2.1;rintro e w54 ⟨rfl,hb⟩;replace HO_957000:=Aside0.mk (Kd.S_below (zz140) hb);replace HO964:=Aside0.mk (Kd.S_below (have h0_:=HO964;zz33) hb);replace BK951:=Aside0.mk (blk_below (zz137) hb);replace BK956:=Aside0.mk (blk_below (zz139) hb);replace BK966:=Aside0.mk (blk_below (zz142) hb);replace HB:=Aside0.mk (below_step (zz143) hb);(try clear hb)))
       go_meet
       case rel=>exact ⟨_,(!t968),(zz1),H',⟨by have:=HJ6.out;first|omega|exact Nat.le_refl _⟩,⟨zz140⟩,⟨(have h0_:=HO964;zz33)⟩,⟨zz137⟩,⟨zz139⟩,⟨zz142⟩,⟨zz143⟩⟩
      ·have c43b0:=beq_eq_false_iff_ne.mpr c43;have c43b1:=bne_iff_ne.mpr c43
       (first|rw [c43b0]|rw [c43b1]|(simp only [i64_w,i32_w];rw [c43b0])|skip)
       have H':=Aside0.mk H;clear H
       go_wp2
       go_meet
       case rel=>exact ⟨_,(false),(zz1),H',⟨by have:=HJ6.out;first|omega|exact Nat.le_refl _⟩,⟨(have h0_:=HO_957000;have h1_:=BK966;zz146)⟩,⟨(have h0_:=HO964;have h1_:=BK966;zz146)⟩,⟨by (with_reducible repeat (first|refine blk_drewN ?_ _|refine blk_drew ?_|refine blk_alloc ?_ _));refine blk_far ?_ NB951_966.out _;(with_reducible repeat (first|refine blk_drewN ?_ _|refine blk_drew ?_|refine blk_alloc ?_ _));exact BK951.out⟩,⟨by (with_reducible repeat (first|refine blk_drewN ?_ _|refine blk_drew ?_|refine blk_alloc ?_ _));refine blk_far ?_ NB956_966.out _;(with_reducible repeat (first|refine blk_drewN ?_ _|refine blk_drew ?_|refine blk_alloc ?_ _));exact BK956.out⟩,⟨(have h0_:=BK966;zz30)⟩,⟨zz143⟩⟩
     case rest =>
      clear HC36;(try clear c29);clear c30 c30b0 c30b1 c30b2 c34b0 c34b1 p961 q961;(try clear hcz14_0);(try clear hcz22_0);(try clear hcz23_0);(try clear hcz23_1);(try clear hcz25_0);(try clear hcz27_0);(try clear hcz9_0);(try clear hcz9_1);(try clear hfz14_0);(try clear hfz22_0);(try clear hfz23_0);(try clear hfz23_1);(try clear hfz25_0);(try clear hfz27_0);(try clear hfz9_0);(try clear hfz9_1);(try clear hx961_0);obtain ⟨kq,x80_35,rfl,HA,HJ35,HO_957000,HO_967000,BK951,BK956,BK966,HB⟩:=hcut
      cases kq with
      | zero=>exact absurd HA.out (by simp [U0.j1])
      | succ kj35 =>
       have H:=HA.out;clear HA;simp only [U0.j1] at H;by_cases c55:x80_35 = true
       ·subst c55;have H1:(none) = some r:=zz3;clear H;have H:=H1;clear H1
        exact absurd H (zz8)
       ·replace c55:=Bool.eq_false_iff.mpr c55;subst c55;have H1:(if 0 < (l1.length:Int) then ((U15.f kj35 l0_0 l0_1 (rd l1 0) a2 1 999).bind fun bt970=>(if 1≤(l1.length:Int) then ((U16.f kj35 l0_0 l0_1 (l1.take 1) a2).bind fun bt976=>(if bt976.2 = bt970.2 then ((U3.f kj35 bt970.1 bt976.1).bind fun t981=>(if t981 = true then ((U1.f kj35).bind fun t982=>(some t982)) else (none))) else (none))) else (none))) else (none)) = some r:=zz7;clear H;have H:=H1;clear H1;replace H:=zzi H;obtain ⟨c56,H⟩:=H;have c56b0:=decide_eq_true c56;have c56b1:decide (0 < l1.length) = true:=decide_eq_true (zz15);clear c56;replace H:=Option.bind_eq_some_iff.mp H;obtain ⟨⟨t970,t973⟩,A570,H⟩:=H;have A57:=Aside0.mk A570;clear A570;replace H:=zzi H;obtain ⟨c58,H⟩:=H;have c58b0:=eq_true c58;have c58b1:=decide_eq_true c58;clear c58;replace H:=Option.bind_eq_some_iff.mp H;obtain ⟨⟨t976,t979⟩,A590,H⟩:=H;have A59:=Aside0.mk A590;clear A590;replace H:=zzi H;obtain ⟨c60,H⟩:=H;have c60b0:=beq_iff_eq.mpr c60;have c60b1:=bne_eq_false_iff_eq.mpr c60;clear c60;replace H:=zzb H;obtain ⟨t981,A61,H⟩:=H;by_cases c62:t981 = true
        ·subst c62;have H1:((U1.f kj35).bind fun t982=>(some t982)) = some r:=zz3;clear H;have H:=H1;clear H1;replace H:=zzb H;obtain ⟨t982,A63,H⟩:=H;obtain rfl:=Option.some.inj H
         try go_wp2
         replace HO_957000:=Aside0.mk (Kd.S_drew HO_957000.out);replace HO_967000:=Aside0.mk (Kd.S_drew HO_967000.out);replace BK951:=Aside0.mk (blk_drew BK951.out);replace BK956:=Aside0.mk (blk_drew BK956.out);replace BK966:=Aside0.mk (blk_drew BK966.out);replace HB:=Aside0.mk (below_drew1 HB.out);have p969:0≤(0:Int):=(zz15);have q969:0 < (l1.length:Int):=of_decide_eq_true (zz4);obtain ⟨ad969,e969,hx969_0⟩:=Kd.at_int HR1.out 0 p969 q969;have hw969_0:=hx969_0
         (try rw [show ((0:Int)).toNat = 0 from rfl] at hw969_0)
         (try rw [show 0 * 1 = 0 from rfl] at hw969_0)
         (try rw [Addr.add_zero'] at hw969_0)
         obtain rfl:ad961 = ad969:=(by injection e969);have qi969:(0 < l1.length) = True:=eq_true (zz15)
         (try rw [show ((0:Int)).toNat = 0 from rfl] at hx969_0)
         (try rw [Addr.add_zero'] at hx969_0)
         replace hx969_0:=(HB.out.cell (World.block_lt_of_cell? w _ hx969_0)).trans hx969_0;replace p969:=eq_true p969;replace q969:=eq_true q969;refine start_ (n:=12) (S:=fun w'=>w'.cell? ⟨gb951,0,none⟩ = some (.slice A0_0 l0_0.length c0_0)∧w'.cell? ⟨gb951,1,none⟩ = some (.slice A0_1 l0_1.length c0_1)∧w'.cell? ad961 = some (.int .i64 (rd l1 0))) (ds:=[]) #[false,false,false,false,false,false,false,false,false,false,false,false] (zz0) rfl rfl ⟨(blk_cell BK951.out 0).trans rfl,(blk_cell BK951.out 1).trans rfl,((HB.out.cell (World.block_lt_of_cell? w _ hw969_0)).trans hw969_0)⟩ (fun hHeld=>?_);refine with_tabW U0.tab9 U0.bits9 (fun HT_ HW_=>?_)
         generalize wc.drew = w64 at HO_957000 HO_967000 BK951 BK956 BK966 HB hx969_0 hHeld ⊢
         refine zzp 1 83 ?_ #[false,true,false,false,false,false,false,false,false,false,false,false] rfl rfl (any_of HT_.out (zz0)) (fun _ _ _ h=>h) (Or.inl ⟨zz9,?_⟩) ?_ ?_ ?_;rotate_left
         ·intro w'
          go_simp
          with_reducible rfl
         rotate_left
         ·simp only [zzs]
          rfl
         refine zzp 2 84 ?_ #[false,true,true,false,false,false,false,false,false,false,false,false] rfl rfl (any_of HT_.out (zz0)) (fun _ _ _ h=>h) (Or.inl ⟨zz9,?_⟩) ?_ ?_ ?_;rotate_left
         ·intro w'
          go_simp
          with_reducible rfl
         rotate_left
         ·simp only [zzs]
          rfl
         refine zzp 4 86 ?_ #[false,true,true,false,true,false,false,false,false,false,false,false] rfl rfl (any_of HT_.out (zz0)) (fun _ _ _ h=>h) (Or.inl ⟨zz9,?_⟩) ?_ ?_ ?_;rotate_left
         ·intro w'
          go_simp
          with_reducible rfl
         rotate_left
         ·simp only [zzs]
          rfl
         refine take_ (i:=0) (N:=some 82) (v:=?_) (a':=?_) #[true,true,true,false,true,false,false,false,false,false,false,false] rfl rfl (take_ofW HT_.out HW_.out (zz0)) (fun _ _ _ h=>h) (Or.inl ⟨zz9,?_⟩) hHeld ?_ ?_;rotate_left
         ·rintro w' ⟨s0,s1,s2⟩
          go_simp
          with_reducible rfl
         rotate_left
         ·simp only [zzs]
          rfl
         refine take_ (i:=3) (N:=some 85) (v:=?_) (a':=?_) #[true,true,true,true,true,false,false,false,false,false,false,false] rfl rfl (take_ofW HT_.out HW_.out (zz0)) (fun _ _ _ h=>h) (Or.inl ⟨zz9,?_⟩) hHeld ?_ ?_;rotate_left
         ·rintro w' ⟨s0,s1,s2⟩
          go_simp
          with_reducible rfl
         rotate_left
         ·simp only [zzs]
          rfl
         refine join_ (σ:=Value × Nat) 2 #[true,true,true,true,true,true,true,true,true,true,false,false] (fun s_=>[(87,.tuple #[.agg #[s_.1],.int .i64 t973]),(15,.pointer (some ⟨s_.2,0,none⟩)),(81,.tuple #[.agg #[s_.1],.int .i64 t973]),(88,.agg #[s_.1]),(89,.int .i64 t973)]) (fun s_ w'=>(w'.cell? ⟨gb951,0,none⟩ = some (.slice A0_0 l0_0.length c0_0)∧w'.cell? ⟨gb951,1,none⟩ = some (.slice A0_1 l0_1.length c0_1)∧w'.cell? ad961 = some (.int .i64 (rd l1 0)))∧(Kd.S (Kd.slice 3 (Kd.int .i64)) 31 w' w.heap.size (fun k_=>some k_ ≠ (.slice Ao12 t952.length co12:Value).ownBlock∧some k_ ≠ (.slice Ao41 t962.length co41:Value).ownBlock) s_.1 t970)∧(Kd.S (Kd.slice 3 (Kd.int .i64)) 31 w' w.heap.size (fun k_=>some k_ ≠ (s_.1:Value).ownBlock∧some k_ ≠ (.slice Ao41 t962.length co41:Value).ownBlock) (.slice Ao12 t952.length co12) t952)∧(Kd.S (Kd.slice 3 (Kd.int .i64)) 31 w' w.heap.size (fun k_=>some k_ ≠ (s_.1:Value).ownBlock∧some k_ ≠ (.slice Ao12 t952.length co12:Value).ownBlock) (.slice Ao41 t962.length co41) t962)∧(w'.heap[gb951]? = some (.cells #[.slice A0_0 l0_0.length c0_0,.slice A0_1 l0_1.length c0_1] 33 (0,0)))∧(w'.heap[gb956]? = some (.cells #[.slice Ao12 t952.length co12] 24 (0,0)))∧(w'.heap[gb966]? = some (.cells #[.slice Ao41 t962.length co41] 24 (0,0)))∧(w'.heap[s_.2]? = some (.cells #[.slice none 0 0] 24 (0,0)))∧(w.heap.size≤s_.2)∧(w.heap.size≤s_.2)∧(gb951 ≠ s_.2)∧(s_.2 ≠ gb951)∧(gb956 ≠ s_.2)∧(s_.2 ≠ gb956)∧(gb966 ≠ s_.2)∧(s_.2 ≠ gb966)∧(Below w.heap.size w w')) ?_ ?_;rotate_left
         ·intro hCont;refine two_ (i:=5) (j:=9) (Ni:=some 87) (Nj:=some 15) #[true,true,true,true,true,true,false,false,false,false,false,false] #[true,true,true,true,true,false,false,false,false,true,false,false] rfl rfl rfl rfl (two_of HT_.out (zz0)) (zz17) (zz17) (fun K hK=>?_) (fun K hK=>?_)
          ·skip
           refine goes_ Tryd.func21 (zz0) rfl #[.agg #[.slice A0_0 l0_0.length c0_0,.slice A0_1 l0_1.length c0_1],.int .i64 (rd l1 0),.int .i64 a2,.int .i64 1,.int .i64 999] (zz9) rfl rfl (zz5) ?_
           with_reducible refine (U15.calls kj35 _ _ l0_0 _ _ l0_1 (rd l1 0) a2 1 999 t970 t973 _ ?side1 ?side2 ?side3 ?side4 A57.out).mono ?_
           (case side1=>exact zz161)
           (case side2=>exact zz162)
           (case side3=>exact zz163)
           (case side4=>exact zz164)
           rintro e w65 ⟨v971,rfl,ho0,hb⟩;refine ⟨_,rfl,?_⟩;have HO972:=Aside0.mk (Kd.S_lower (Kd.S_new' (Kd.S_new' ho0 (Kd.S_lt (zz140))) (Kd.S_lt (zz147))) (below_size (zz143)));replace HO_957000:=Aside0.mk (Kd.S_elder' (zz140) (Kd.S_base ho0) hb);replace HO_967000:=Aside0.mk (Kd.S_elder' (zz147) (Kd.S_base ho0) hb);replace BK951:=Aside0.mk (blk_below (zz137) hb);replace BK956:=Aside0.mk (blk_below (zz139) hb);replace BK966:=Aside0.mk (blk_below (zz142) hb);replace HB:=Aside0.mk (below_step (zz143) hb)
           (try clear hb)
           (try clear ho0)
           refine hK.out _ _ ⟨(blk_cell BK951.out 0).trans rfl,(blk_cell BK951.out 1).trans rfl,((HB.out.cell (World.block_lt_of_cell? w _ hw969_0)).trans hw969_0)⟩ (fun hHeld=>?_);clear hK K;refine norm_ (a':=?_) ?_ ?_;rotate_left
           ·show Act.put _ (some 87) _ = _
            simp only [zzs]
            rfl
           refine zzp 6 81 ?_ #[true,true,true,true,true,true,true,false,false,false,false,false] rfl rfl (any_of HT_.out (zz0)) (fun _ _ _ h=>h) (Or.inl ⟨zz9,?_⟩) ?_ ?_ ?_;rotate_left
           ·intro w'
            go_simp
            with_reducible rfl
           rotate_left
           ·simp only [zzs]
            rfl
           refine zzp 7 88 ?_ #[true,true,true,true,true,true,true,true,false,false,false,false] rfl rfl (any_of HT_.out (zz0)) (fun _ _ _ h=>h) (Or.inl ⟨zz9,?_⟩) ?_ ?_ ?_;rotate_left
           ·intro w'
            go_simp
            with_reducible rfl
           rotate_left
           ·simp only [zzs]
            rfl
           refine zzp 8 89 ?_ #[true,true,true,true,true,true,true,true,true,false,false,false] rfl rfl (any_of HT_.out (zz0)) (fun _ _ _ h=>h) (Or.inl ⟨zz9,?_⟩) ?_ ?_ ?_;rotate_left
           ·intro w'
            go_simp
            with_reducible rfl
           rotate_left
           ·simp only [zzs]
            rfl
           refine one_ (i:=9) (N:=some 15) #[true,true,true,true,true,true,true,true,true,true,false,false] rfl rfl (one_of HT_.out (zz0)) (zz17) (fun K hK=>?_);refine box_step ?hg (N:=15) ?hd (cs:=#[.slice none 0 0]) (t:=24) ?hr ?_;(case hd=>rfl);(case hg=>rfl);(case hr=>exact zz156);intro gb974 hg w66 hbox hb;replace HO_957000:=Aside0.mk (Kd.S_below (zz140) hb);replace HO_967000:=Aside0.mk (Kd.S_below (zz147) hb);replace HO972:=Aside0.mk (Kd.S_below (have h0_:=HO972;zz33) hb);have BK974:=Aside0.mk (hbox);have GW974:=Aside0.mk ((by rw [hg];exact (below_size (zz143)):w.heap.size≤gb974));have GE974:=Aside0.mk ((by rw [hg];exact (below_size (zz143)):w.heap.size≤gb974));replace HB:=Aside0.mk (below_step (zz143) hb);have NB951_974:=Aside0.mk ((by rw [hg];exact Nat.ne_of_lt (blk_lt (g:=gb951) (o:=.cells #[.slice A0_0 l0_0.length c0_0,.slice A0_1 l0_1.length c0_1] 33 (0,0)) (zz137)):gb951 ≠ gb974));have NB974_951:=Aside0.mk ((by rw [hg];exact Nat.ne_of_gt (blk_lt (g:=gb951) (o:=.cells #[.slice A0_0 l0_0.length c0_0,.slice A0_1 l0_1.length c0_1] 33 (0,0)) (zz137)):gb974 ≠ gb951));replace BK951:=Aside0.mk (blk_below (zz137) hb);have NB956_974:=Aside0.mk ((by rw [hg];exact Nat.ne_of_lt (blk_lt (g:=gb956) (o:=.cells #[.slice Ao12 t952.length co12] 24 (0,0)) (zz139)):gb956 ≠ gb974));have NB974_956:=Aside0.mk ((by rw [hg];exact Nat.ne_of_gt (blk_lt (g:=gb956) (o:=.cells #[.slice Ao12 t952.length co12] 24 (0,0)) (zz139)):gb974 ≠ gb956));replace BK956:=Aside0.mk (blk_below (zz139) hb);have NB966_974:=Aside0.mk ((by rw [hg];exact Nat.ne_of_lt (blk_lt (g:=gb966) (o:=.cells #[.slice Ao41 t962.length co41] 24 (0,0)) (zz142)):gb966 ≠ gb974));have NB974_966:=Aside0.mk ((by rw [hg];exact Nat.ne_of_gt (blk_lt (g:=gb966) (o:=.cells #[.slice Ao41 t962.length co41] 24 (0,0)) (zz142)):gb974 ≠ gb966));replace BK966:=Aside0.mk (blk_below (zz142) hb);clear hb hbox hg;refine hK.out _ _ ⟨(blk_cell BK951.out 0).trans rfl,(blk_cell BK951.out 1).trans rfl,((HB.out.cell (World.block_lt_of_cell? w _ hw969_0)).trans hw969_0)⟩ (fun hHeld=>?_);clear hK K;refine norm_ (a':=?_) ?_ ?_;rotate_left
           ·show Act.put _ (some 15) _ = _
            simp only [zzs]
            rfl
           exact norm_ (zz141) (hCont (v971,gb974) _ ⟨hHeld,(by (with_reducible repeat (first|apply Kd.S_alloc|apply Kd.S_drewN|apply Kd.S_drew));exact Kd.S_mono HO972.out (fun _ hk=>⟨hk.1.2,hk.2⟩)),(have h0_:=HO_957000;zz148),(have h0_:=HO_967000;zz148),(zz137),(zz139),(zz142),(zz149),GW974.out,GE974.out,NB951_974.out,NB974_951.out,NB956_974.out,NB974_956.out,NB966_974.out,NB974_966.out,(zz150)⟩)
          ·skip
           refine box_step ?hg (N:=15) ?hd (cs:=#[.slice none 0 0]) (t:=24) ?hr ?_;(case hd=>rfl);(case hg=>rfl);(case hr=>exact zz156);intro gb974 hg w65 hbox hb;replace HO_957000:=Aside0.mk (Kd.S_below (zz140) hb);replace HO_967000:=Aside0.mk (Kd.S_below (zz147) hb);have BK974:=Aside0.mk (hbox);have GW974:=Aside0.mk ((by rw [hg];exact (below_size (zz143)):w.heap.size≤gb974));have GE974:=Aside0.mk ((by rw [hg];exact (below_size (zz143)):w.heap.size≤gb974));replace HB:=Aside0.mk (below_step (zz143) hb);have NB951_974:=Aside0.mk ((by rw [hg];exact Nat.ne_of_lt (blk_lt (g:=gb951) (o:=.cells #[.slice A0_0 l0_0.length c0_0,.slice A0_1 l0_1.length c0_1] 33 (0,0)) (zz137)):gb951 ≠ gb974));have NB974_951:=Aside0.mk ((by rw [hg];exact Nat.ne_of_gt (blk_lt (g:=gb951) (o:=.cells #[.slice A0_0 l0_0.length c0_0,.slice A0_1 l0_1.length c0_1] 33 (0,0)) (zz137)):gb974 ≠ gb951));replace BK951:=Aside0.mk (blk_below (zz137) hb);have NB956_974:=Aside0.mk ((by rw [hg];exact Nat.ne_of_lt (blk_lt (g:=gb956) (o:=.cells #[.slice Ao12 t952.length co12] 24 (0,0)) (zz139)):gb956 ≠ gb974));have NB974_956:=Aside0.mk ((by rw [hg];exact Nat.ne_of_gt (blk_lt (g:=gb956) (o:=.cells #[.slice Ao12 t952.length co12] 24 (0,0)) (zz139)):gb974 ≠ gb956));replace BK956:=Aside0.mk (blk_below (zz139) hb);have NB966_974:=Aside0.mk ((by rw [hg];exact Nat.ne_of_lt (blk_lt (g:=gb966) (o:=.cells #[.slice Ao41 t962.length co41] 24 (0,0)) (zz142)):gb966 ≠ gb974));have NB974_966:=Aside0.mk ((by rw [hg];exact Nat.ne_of_gt (blk_lt (g:=gb966) (o:=.cells #[.slice Ao41 t962.length co41] 24 (0,0)) (zz142)):gb974 ≠ gb966));replace BK966:=Aside0.mk (blk_below (zz142) hb);clear hb hbox hg;refine hK.out _ _ ⟨(blk_cell BK951.out 0).trans rfl,(blk_cell BK951.out 1).trans rfl,((HB.out.cell (World.block_lt_of_cell? w _ hw969_0)).trans hw969_0)⟩ (fun hHeld=>?_);clear hK K;refine norm_ (a':=?_) ?_ ?_;rotate_left
           ·show Act.put _ (some 15) _ = _
            simp only [zzs]
            rfl
           refine one_ (i:=5) (N:=some 87) #[true,true,true,true,true,true,false,false,false,true,false,false] rfl rfl (one_of HT_.out (zz0)) (zz17) (fun K hK=>?_);refine goes_ Tryd.func21 (zz0) rfl #[.agg #[.slice A0_0 l0_0.length c0_0,.slice A0_1 l0_1.length c0_1],.int .i64 (rd l1 0),.int .i64 a2,.int .i64 1,.int .i64 999] (zz9) rfl rfl (zz5) ?_
           with_reducible refine (U15.calls kj35 _ _ l0_0 _ _ l0_1 (rd l1 0) a2 1 999 t970 t973 _ ?side1 ?side2 ?side3 ?side4 A57.out).mono ?_
           (case side1=>exact zz161)
           (case side2=>exact zz162)
           (case side3=>exact zz163)
           (case side4=>exact zz164)
           rintro e w66 ⟨v971,rfl,ho0,hb⟩;refine ⟨_,rfl,?_⟩;have HO972:=Aside0.mk (Kd.S_lower (Kd.S_new' (Kd.S_new' ho0 (Kd.S_lt (zz140))) (Kd.S_lt (zz147))) (below_size (zz150)));replace HO_957000:=Aside0.mk (Kd.S_elder' (zz140) (Kd.S_base ho0) hb);replace HO_967000:=Aside0.mk (Kd.S_elder' (zz147) (Kd.S_base ho0) hb);replace BK951:=Aside0.mk (blk_below (zz137) hb);replace BK956:=Aside0.mk (blk_below (zz139) hb);replace BK966:=Aside0.mk (blk_below (zz142) hb);replace BK974:=Aside0.mk (blk_below (zz149) hb);replace HB:=Aside0.mk (below_step (zz150) hb)
           (try clear hb)
           (try clear ho0)
           refine hK.out _ _ ⟨(blk_cell BK951.out 0).trans rfl,(blk_cell BK951.out 1).trans rfl,((HB.out.cell (World.block_lt_of_cell? w _ hw969_0)).trans hw969_0)⟩ (fun hHeld=>?_);clear hK K;refine norm_ (a':=?_) ?_ ?_;rotate_left
           ·show Act.put _ (some 87) _ = _
            simp only [zzs]
            rfl
           refine zzp 6 81 ?_ #[true,true,true,true,true,true,true,false,false,true,false,false] rfl rfl (any_of HT_.out (zz0)) (fun _ _ _ h=>h) (Or.inl ⟨zz9,?_⟩) ?_ ?_ ?_;rotate_left
           ·intro w'
            go_simp
            with_reducible rfl
           rotate_left
           ·simp only [zzs]
            rfl
           refine zzp 7 88 ?_ #[true,true,true,true,true,true,true,true,false,true,false,false] rfl rfl (any_of HT_.out (zz0)) (fun _ _ _ h=>h) (Or.inl ⟨zz9,?_⟩) ?_ ?_ ?_;rotate_left
           ·intro w'
            go_simp
            with_reducible rfl
           rotate_left
           ·simp only [zzs]
            rfl
           refine zzp 8 89 ?_ #[true,true,true,true,true,true,true,true,true,true,false,false] rfl rfl (any_of HT_.out (zz0)) (fun _ _ _ h=>h) (Or.inl ⟨zz9,?_⟩) ?_ ?_ ?_;rotate_left
           ·intro w'
            go_simp
            with_reducible rfl
           rotate_left
           ·simp only [zzs]
            rfl
           exact norm_ (zz141) (hCont (v971,gb974) _ ⟨hHeld,(by (with_reducible repeat (first|apply Kd.S_alloc|apply Kd.S_drewN|apply Kd.S_drew));exact Kd.S_mono HO972.out (fun _ hk=>⟨hk.1.2,hk.2⟩)),(have h0_:=HO_957000;zz148),(have h0_:=HO_967000;zz148),(zz137),(zz139),(zz142),(zz149),GW974.out,GE974.out,NB951_974.out,NB974_951.out,NB956_974.out,NB974_956.out,NB966_974.out,NB974_966.out,(zz150)⟩)
         rintro ⟨v971,gb974⟩ w67 ⟨hS_,h0_,h1_,h2_,h3_,h4_,h5_,h6_,h7_,h8_,h9_,h10_,h11_,h12_,h13_,h14_,h15_⟩;have n0_:Aside0 (Kd.S (Kd.slice 3 (Kd.int .i64)) 31 w67 w.heap.size (fun k_=>some k_ ≠ (.slice Ao12 t952.length co12:Value).ownBlock∧some k_ ≠ (.slice Ao41 t962.length co41:Value).ownBlock) v971 t970):=⟨h0_⟩;have n1_:Aside0 (Kd.S (Kd.slice 3 (Kd.int .i64)) 31 w67 w.heap.size (fun k_=>some k_ ≠ (v971:Value).ownBlock∧some k_ ≠ (.slice Ao41 t962.length co41:Value).ownBlock) (.slice Ao12 t952.length co12) t952):=⟨h1_⟩;have n2_:Aside0 (Kd.S (Kd.slice 3 (Kd.int .i64)) 31 w67 w.heap.size (fun k_=>some k_ ≠ (v971:Value).ownBlock∧some k_ ≠ (.slice Ao12 t952.length co12:Value).ownBlock) (.slice Ao41 t962.length co41) t962):=⟨h2_⟩;have n3_:Aside0 (w67.heap[gb951]? = some (.cells #[.slice A0_0 l0_0.length c0_0,.slice A0_1 l0_1.length c0_1] 33 (0,0))):=⟨h3_⟩;have n4_:Aside0 (w67.heap[gb956]? = some (.cells #[.slice Ao12 t952.length co12] 24 (0,0))):=⟨h4_⟩;have n5_:Aside0 (w67.heap[gb966]? = some (.cells #[.slice Ao41 t962.length co41] 24 (0,0))):=⟨h5_⟩;have n6_:Aside0 (w67.heap[gb974]? = some (.cells #[.slice none 0 0] 24 (0,0))):=⟨h6_⟩;have n7_:Aside0 (w.heap.size≤gb974):=⟨h7_⟩;have n8_:Aside0 (w.heap.size≤gb974):=⟨h8_⟩;have n9_:Aside0 (gb951 ≠ gb974):=⟨h9_⟩;have n10_:Aside0 (gb974 ≠ gb951):=⟨h10_⟩;have n11_:Aside0 (gb956 ≠ gb974):=⟨h11_⟩;have n12_:Aside0 (gb974 ≠ gb956):=⟨h12_⟩;have n13_:Aside0 (gb966 ≠ gb974):=⟨h13_⟩;have n14_:Aside0 (gb974 ≠ gb966):=⟨h14_⟩;have n15_:Aside0 (Below w.heap.size w w67):=⟨h15_⟩;clear HO_957000;clear HO_967000;clear BK951;clear BK956;clear BK966;clear HB;clear h0_ h1_ h2_ h3_ h4_ h5_ h6_ h7_ h8_ h9_ h10_ h11_ h12_ h13_ h14_ h15_;have HO972:=n0_;have HO_957000:=n1_;have HO_967000:=n2_;have BK951:=n3_;have BK956:=n4_;have BK966:=n5_;have BK974:=n6_;have GW974:=n7_;have GE974:=n8_;have NB951_974:=n9_;have NB974_951:=n10_;have NB956_974:=n11_;have NB974_956:=n12_;have NB966_974:=n13_;have NB974_966:=n14_;have HB:=n15_;clear n0_ n1_ n2_ n3_ n4_ n5_ n6_ n7_ n8_ n9_ n10_ n11_ n12_ n13_ n14_ n15_;have hHeld:w67.cell? ⟨gb951,0,none⟩ = some (.slice A0_0 l0_0.length c0_0)∧w67.cell? ⟨gb951,1,none⟩ = some (.slice A0_1 l0_1.length c0_1)∧w67.cell? ad961 = some (.int .i64 (rd l1 0)):=hS_;obtain ⟨Ao68,co68,eo68⟩:=Kd.S_slice HO972.out
         (first|subst eo68|(injection eo68 with f1_ f2_ f3_;have f4_:=f1_.symm;have f5_:=f3_.symm;clear f1_ f2_ f3_;subst f4_;subst f5_))
         refine norm_ (a':=?_) ?_ ?_;rotate_left
         ·simp only [putAll,Act.put,List.setIfInBounds_toArray,List.set_cons_zero,List.set_cons_succ]
          rfl
         refine one_ (i:=10) (N:=none) #[true,true,true,true,true,true,true,true,true,true,true,false] rfl rfl (one_of HT_.out (zz0)) (zz17) (fun K hK=>?_);have hs69:w67.cell? ⟨gb974,0,none⟩ = some (.slice none 0 0):=(blk_cell BK974.out 0).trans rfl;have hfs69:=blk_frozen BK974.out 0;have hns69_0:=NB951_974.out;have hns69_1:=NB956_974.out;have hns69_2:=NB966_974.out;have hms69_0:=NB974_951.out;have hms69_1:=NB974_956.out;have hms69_2:=NB974_966.out;refine skip_ (w1:=?_) (zz9) rfl ?_ ?_;rotate_left
         ·go_simp
          rfl
         refine hK.out _ _ ⟨((cell_far (p:=⟨gb974,_,none⟩) NB951_974.out _).trans (hHeld.1)),((cell_far (p:=⟨gb974,_,none⟩) NB951_974.out _).trans (hHeld.2.1)),((cell_far (p:=⟨gb974,_,none⟩) (by first|exact Nat.ne_of_lt (Nat.lt_of_lt_of_le (zz151) GW974.out)|(rw [add_block];exact Nat.ne_of_lt (Nat.lt_of_lt_of_le (zz151) GW974.out))|(show (Addr.add _ _).block ≠ _;rw [add_block];exact Nat.ne_of_lt (Nat.lt_of_lt_of_le (zz151) GW974.out))|(dsimp only;exact Nat.ne_of_lt (Nat.lt_of_lt_of_le (zz151) GW974.out))) _).trans (hHeld.2.2))⟩ (fun hHeld=>?_);clear hK K;refine zzp 11 14 ?_ #[true,true,true,true,true,true,true,true,true,true,true,true] rfl rfl (any_of HT_.out (zz0)) (fun _ _ _ h=>h) (Or.inl ⟨zz9,?_⟩) ?_ ?_ ?_;rotate_left
         ·intro w'
          go_simp
          with_reducible rfl
         rotate_left
         ·simp only [zzs]
          rfl
         refine done_ (done_of HT_.out (zz0)) ?_
         try go_wp2
         have n0_:Aside0 (Kd.S (Kd.slice 3 (Kd.int .i64)) 31 (w67.setCell ⟨gb974,0,none⟩ (.slice Ao68 t970.length co68)) w.heap.size (fun k_=>some k_ ≠ (.slice Ao41 t962.length co41:Value).ownBlock∧some k_ ≠ (.slice Ao68 t970.length co68:Value).ownBlock) (.slice Ao12 t952.length co12) t952):=⟨(have h0_:=HO_957000;have h1_:=BK974;zz152)⟩;have n1_:Aside0 (Kd.S (Kd.slice 3 (Kd.int .i64)) 31 (w67.setCell ⟨gb974,0,none⟩ (.slice Ao68 t970.length co68)) w.heap.size (fun k_=>some k_ ≠ (.slice Ao12 t952.length co12:Value).ownBlock∧some k_ ≠ (.slice Ao68 t970.length co68:Value).ownBlock) (.slice Ao41 t962.length co41) t962):=⟨(have h0_:=HO_967000;have h1_:=BK974;zz152)⟩;have n2_:Aside0 (Kd.S (Kd.slice 3 (Kd.int .i64)) 31 (w67.setCell ⟨gb974,0,none⟩ (.slice Ao68 t970.length co68)) w.heap.size (fun k_=>some k_ ≠ (.slice Ao12 t952.length co12:Value).ownBlock∧some k_ ≠ (.slice Ao41 t962.length co41:Value).ownBlock) (.slice Ao68 t970.length co68) t970):=⟨by (with_reducible repeat (first|apply Kd.S_alloc|apply Kd.S_drewN|apply Kd.S_drew));exact Kd.S_mono (Kd.S_far (p:=⟨gb974,0,none⟩) (Kd.S_types HO972.out BK974.out (zz17)) (fun _ hk=>hk.2) (.slice Ao68 t970.length co68)) (fun _ hk=>⟨hk.1.1,hk.1.2⟩)⟩;have n3_:Aside0 ((w67.setCell ⟨gb974,0,none⟩ (.slice Ao68 t970.length co68)).heap[gb951]? = some (.cells #[.slice A0_0 l0_0.length c0_0,.slice A0_1 l0_1.length c0_1] 33 (0,0))):=⟨by (with_reducible repeat (first|refine blk_drewN ?_ _|refine blk_drew ?_|refine blk_alloc ?_ _));refine blk_far ?_ NB951_974.out _;(with_reducible repeat (first|refine blk_drewN ?_ _|refine blk_drew ?_|refine blk_alloc ?_ _));exact BK951.out⟩;have n4_:Aside0 ((w67.setCell ⟨gb974,0,none⟩ (.slice Ao68 t970.length co68)).heap[gb956]? = some (.cells #[.slice Ao12 t952.length co12] 24 (0,0))):=⟨by (with_reducible repeat (first|refine blk_drewN ?_ _|refine blk_drew ?_|refine blk_alloc ?_ _));refine blk_far ?_ NB956_974.out _;(with_reducible repeat (first|refine blk_drewN ?_ _|refine blk_drew ?_|refine blk_alloc ?_ _));exact BK956.out⟩;have n5_:Aside0 ((w67.setCell ⟨gb974,0,none⟩ (.slice Ao68 t970.length co68)).heap[gb966]? = some (.cells #[.slice Ao41 t962.length co41] 24 (0,0))):=⟨by (with_reducible repeat (first|refine blk_drewN ?_ _|refine blk_drew ?_|refine blk_alloc ?_ _));refine blk_far ?_ NB966_974.out _;(with_reducible repeat (first|refine blk_drewN ?_ _|refine blk_drew ?_|refine blk_alloc ?_ _));exact BK966.out⟩;have n6_:Aside0 ((w67.setCell ⟨gb974,0,none⟩ (.slice Ao68 t970.length co68)).heap[gb974]? = some (.cells #[.slice Ao68 t970.length co68] 24 (0,0))):=⟨(have h0_:=BK974;zz30)⟩;have n7_:Aside0 (Below w.heap.size w (w67.setCell ⟨gb974,0,none⟩ (.slice Ao68 t970.length co68))):=⟨zz150⟩
         (try (have hcs_:((w67.setCell ⟨gb974,0,none⟩ (.slice Ao68 t970.length co68))).cell? ⟨gb974,0,none⟩ = some (.slice Ao68 t970.length co68):=World.cell?_setCell_same _ _ _ (by assumption)))
         (try clear HO_957000)
         (try clear HO_967000)
         (try clear HO972)
         (try clear BK951)
         (try clear BK956)
         (try clear BK966)
         (try clear BK974)
         (try clear HB)
         first|generalize (w67.setCell ⟨gb974,0,none⟩ (.slice Ao68 t970.length co68)) = w70 at n0_ n1_ n2_ n3_ n4_ n5_ n6_ n7_ hcs_ ⊢|generalize (w67.setCell ⟨gb974,0,none⟩ (.slice Ao68 t970.length co68)) = w70 at n0_ n1_ n2_ n3_ n4_ n5_ n6_ n7_ ⊢
         have HO_957000:=n0_;have HO_967000:=n1_;have HO972:=n2_;have BK951:=n3_;have BK956:=n4_;have BK966:=n5_;have BK974:=n6_;have HB:=n7_;clear n0_ n1_ n2_ n3_ n4_ n5_ n6_ n7_;replace HO_957000:=Aside0.mk (Kd.S_drew HO_957000.out);replace HO_967000:=Aside0.mk (Kd.S_drew HO_967000.out);replace HO972:=Aside0.mk (Kd.S_drew HO972.out);replace BK951:=Aside0.mk (blk_drew BK951.out);replace BK956:=Aside0.mk (blk_drew BK956.out);replace BK966:=Aside0.mk (blk_drew BK966.out);replace BK974:=Aside0.mk (blk_drew BK974.out);replace HB:=Aside0.mk (below_drew1 HB.out);obtain ⟨i072,hi072,_,hsz72,_⟩:=info_parts info3;obtain ⟨hcut72,hA72,hC72⟩:=print_take_of (P:=Tryd.prog) (Value.int .i64) 0 31 3 .i64 Tryd.underlying31 hi072 hsz72 (some ad961) c1 l1 1 (zz15) (of_decide_eq_true (zz4)) HC1.out;have HR975:=Aside0.mk (Kd.C_of_reads (h1:=fun _=>rfl) (hA72 _ (Kd.reads_of_C HR1.out)));have HC975:=Aside0.mk hC72;clear hA72 hC72 hi072 hsz72;refine start_ (n:=11) (S:=fun w'=>w'.cell? ⟨gb951,0,none⟩ = some (.slice A0_0 l0_0.length c0_0)∧w'.cell? ⟨gb951,1,none⟩ = some (.slice A0_1 l0_1.length c0_1)) (ds:=[]) #[false,false,false,false,false,false,false,false,false,false,false] (zz0) rfl rfl ⟨(blk_cell BK951.out 0).trans rfl,(blk_cell BK951.out 1).trans rfl⟩ (fun hHeld=>?_);refine with_tabW U0.tab10 U0.bits10 (fun HT_ HW_=>?_)
         generalize w70.drew = w71 at HO_957000 HO_967000 HO972 BK951 BK956 BK966 BK974 HB HR975 hHeld ⊢
         refine zzp 1 92 ?_ #[false,true,false,false,false,false,false,false,false,false,false] rfl rfl (any_of HT_.out (zz0)) (fun _ _ _ h=>h) (Or.inl ⟨zz9,?_⟩) ?_ ?_ ?_;rotate_left
         ·intro w'
          go_simp
          with_reducible rfl
         rotate_left
         ·simp only [zzs]
          rfl
         refine zzp 2 93 ?_ #[false,true,true,false,false,false,false,false,false,false,false] rfl rfl (any_of HT_.out (zz0)) (fun _ _ _ h=>h) (Or.inl ⟨zz9,?_⟩) ?_ ?_ ?_;rotate_left
         ·intro w'
          go_simp
          with_reducible rfl
         rotate_left
         ·simp only [zzs]
          rfl
         refine zzp 3 94 ?_ #[false,true,true,true,false,false,false,false,false,false,false] rfl rfl (any_of HT_.out (zz0)) (fun _ _ _ h=>h) (Or.inl ⟨zz9,?_⟩) ?_ ?_ ?_;rotate_left
         ·intro w'
          go_simp
          with_reducible rfl
         rotate_left
         ·simp only [zzs]
          rfl
         refine take_ (i:=0) (N:=some 91) (v:=?_) (a':=?_) #[true,true,true,true,false,false,false,false,false,false,false] rfl rfl (take_ofW HT_.out HW_.out (zz0)) (fun _ _ _ h=>h) (Or.inl ⟨zz9,?_⟩) hHeld ?_ ?_;rotate_left
         ·rintro w' ⟨s0,s1⟩
          go_simp
          with_reducible rfl
         rotate_left
         ·simp only [zzs]
          rfl
         refine join_ (σ:=Value × Nat) 2 #[true,true,true,true,true,true,true,true,true,false,false] (fun s_=>[(95,.tuple #[.agg #[s_.1],.int .i64 t979]),(16,.pointer (some ⟨s_.2,0,none⟩)),(90,.tuple #[.agg #[s_.1],.int .i64 t979]),(96,.agg #[s_.1]),(97,.int .i64 t979)]) (fun s_ w'=>(w'.cell? ⟨gb951,0,none⟩ = some (.slice A0_0 l0_0.length c0_0)∧w'.cell? ⟨gb951,1,none⟩ = some (.slice A0_1 l0_1.length c0_1))∧(Kd.S (Kd.slice 3 (Kd.int .i64)) 31 w' w.heap.size (fun k_=>some k_ ≠ (s_.1:Value).ownBlock∧some k_ ≠ (.slice Ao12 t952.length co12:Value).ownBlock∧some k_ ≠ (.slice Ao41 t962.length co41:Value).ownBlock) (.slice Ao68 t970.length co68) t970)∧(Kd.S (Kd.slice 3 (Kd.int .i64)) 31 w' w.heap.size (fun k_=>some k_ ≠ (.slice Ao68 t970.length co68:Value).ownBlock∧some k_ ≠ (.slice Ao12 t952.length co12:Value).ownBlock∧some k_ ≠ (.slice Ao41 t962.length co41:Value).ownBlock) s_.1 t976)∧(Kd.S (Kd.slice 3 (Kd.int .i64)) 31 w' w.heap.size (fun k_=>some k_ ≠ (.slice Ao68 t970.length co68:Value).ownBlock∧some k_ ≠ (s_.1:Value).ownBlock∧some k_ ≠ (.slice Ao41 t962.length co41:Value).ownBlock) (.slice Ao12 t952.length co12) t952)∧(Kd.S (Kd.slice 3 (Kd.int .i64)) 31 w' w.heap.size (fun k_=>some k_ ≠ (.slice Ao68 t970.length co68:Value).ownBlock∧some k_ ≠ (s_.1:Value).ownBlock∧some k_ ≠ (.slice Ao12 t952.length co12:Value).ownBlock) (.slice Ao41 t962.length co41) t962)∧(w'.heap[gb951]? = some (.cells #[.slice A0_0 l0_0.length c0_0,.slice A0_1 l0_1.length c0_1] 33 (0,0)))∧(w'.heap[gb956]? = some (.cells #[.slice Ao12 t952.length co12] 24 (0,0)))∧(w'.heap[gb966]? = some (.cells #[.slice Ao41 t962.length co41] 24 (0,0)))∧(w'.heap[gb974]? = some (.cells #[.slice Ao68 t970.length co68] 24 (0,0)))∧(w'.heap[s_.2]? = some (.cells #[.slice none 0 0] 24 (0,0)))∧(w.heap.size≤s_.2)∧(w.heap.size≤s_.2)∧(gb951 ≠ s_.2)∧(s_.2 ≠ gb951)∧(gb956 ≠ s_.2)∧(s_.2 ≠ gb956)∧(gb966 ≠ s_.2)∧(s_.2 ≠ gb966)∧(gb974 ≠ s_.2)∧(s_.2 ≠ gb974)∧(Below w.heap.size w w')) ?_ ?_;rotate_left
         ·intro hCont;refine two_ (i:=4) (j:=8) (Ni:=some 95) (Nj:=some 16) #[true,true,true,true,true,false,false,false,false,false,false] #[true,true,true,true,false,false,false,false,true,false,false] rfl rfl rfl rfl (two_of HT_.out (zz0)) (zz17) (zz17) (fun K hK=>?_) (fun K hK=>?_)
          ·skip
           refine goes_ Tryd.func24 (zz0) rfl #[.agg #[.slice A0_0 l0_0.length c0_0,.slice A0_1 l0_1.length c0_1],.slice (some ad961) (l1.take 1).length c1,.int .i64 a2] (zz9) rfl rfl (by (try simp only [List.map_toArray,List.map_cons,List.map_nil]);first|done|(rw [show (l1.take 1).length = 1 from (by rw [List.length_take];have h_:(1:Int)≤(l1.length:Int):=of_decide_eq_true (zz4);omega)]<;>rfl)|rfl|(simp only [List.length_drop,List.length_take];rfl)) ?_
           with_reducible refine (U16.calls kj35 _ _ l0_0 _ _ l0_1 _ _ (l1.take 1) a2 t976 t979 _ ?side1 ?side2 ?side3 ?side4 ?side5 ?side6 A59.out).mono ?_
           (case side1=>exact zz161)
           (case side2=>exact zz162)
           (case side3=>exact zz163)
           (case side4=>exact zz164)
           (case side5=>exact (have h0_:=HR975;zz157))
           (case side6=>exact HC975.out)
           rintro e w73 ⟨v977,rfl,ho0,hb⟩;refine ⟨_,rfl,?_⟩;have HO978:=Aside0.mk (Kd.S_lower (Kd.S_new' (Kd.S_new' (Kd.S_new' ho0 (Kd.S_lt (zz140))) (Kd.S_lt (zz147))) (Kd.S_lt (have h0_:=HO972;zz33))) (below_size (zz150)));replace HO_957000:=Aside0.mk (Kd.S_elder' (zz140) (Kd.S_base ho0) hb);replace HO_967000:=Aside0.mk (Kd.S_elder' (zz147) (Kd.S_base ho0) hb);replace HO972:=Aside0.mk (Kd.S_elder' (have h0_:=HO972;zz33) (Kd.S_base ho0) hb);replace BK951:=Aside0.mk (blk_below (zz137) hb);replace BK956:=Aside0.mk (blk_below (zz139) hb);replace BK966:=Aside0.mk (blk_below (zz142) hb);replace BK974:=Aside0.mk (blk_below (zz149) hb);replace HB:=Aside0.mk (below_step (zz150) hb)
           (try clear hb)
           (try clear hk)
           (try clear ho0)
           refine hK.out _ _ ⟨(blk_cell BK951.out 0).trans rfl,(blk_cell BK951.out 1).trans rfl⟩ (fun hHeld=>?_);clear hK K;refine norm_ (a':=?_) ?_ ?_;rotate_left
           ·show Act.put _ (some 95) _ = _
            simp only [zzs]
            rfl
           refine zzp 5 90 ?_ #[true,true,true,true,true,true,false,false,false,false,false] rfl rfl (any_of HT_.out (zz0)) (fun _ _ _ h=>h) (Or.inl ⟨zz9,?_⟩) ?_ ?_ ?_;rotate_left
           ·intro w'
            go_simp
            with_reducible rfl
           rotate_left
           ·simp only [zzs]
            rfl
           refine zzp 6 96 ?_ #[true,true,true,true,true,true,true,false,false,false,false] rfl rfl (any_of HT_.out (zz0)) (fun _ _ _ h=>h) (Or.inl ⟨zz9,?_⟩) ?_ ?_ ?_;rotate_left
           ·intro w'
            go_simp
            with_reducible rfl
           rotate_left
           ·simp only [zzs]
            rfl
           refine zzp 7 97 ?_ #[true,true,true,true,true,true,true,true,false,false,false] rfl rfl (any_of HT_.out (zz0)) (fun _ _ _ h=>h) (Or.inl ⟨zz9,?_⟩) ?_ ?_ ?_;rotate_left
           ·intro w'
            go_simp
            with_reducible rfl
           rotate_left
           ·simp only [zzs]
            rfl
           refine one_ (i:=8) (N:=some 16) #[true,true,true,true,true,true,true,true,true,false,false] rfl rfl (one_of HT_.out (zz0)) (zz17) (fun K hK=>?_);refine box_step ?hg (N:=16) ?hd (cs:=#[.slice none 0 0]) (t:=24) ?hr ?_;(case hd=>rfl);(case hg=>rfl);(case hr=>exact zz156);intro gb980 hg w74 hbox hb;replace HO_957000:=Aside0.mk (Kd.S_below (zz140) hb);replace HO_967000:=Aside0.mk (Kd.S_below (zz147) hb);replace HO972:=Aside0.mk (Kd.S_below (have h0_:=HO972;zz33) hb);replace HO978:=Aside0.mk (Kd.S_below (have h0_:=HO978;zz33) hb);have BK980:=Aside0.mk (hbox);have GW980:=Aside0.mk ((by rw [hg];exact (below_size (zz150)):w.heap.size≤gb980));have GE980:=Aside0.mk ((by rw [hg];exact (below_size (zz150)):w.heap.size≤gb980));replace HB:=Aside0.mk (below_step (zz150) hb);have NB951_980:=Aside0.mk ((by rw [hg];exact Nat.ne_of_lt (blk_lt (g:=gb951) (o:=.cells #[.slice A0_0 l0_0.length c0_0,.slice A0_1 l0_1.length c0_1] 33 (0,0)) (zz137)):gb951 ≠ gb980));have NB980_951:=Aside0.mk ((by rw [hg];exact Nat.ne_of_gt (blk_lt (g:=gb951) (o:=.cells #[.slice A0_0 l0_0.length c0_0,.slice A0_1 l0_1.length c0_1] 33 (0,0)) (zz137)):gb980 ≠ gb951));replace BK951:=Aside0.mk (blk_below (zz137) hb);have NB956_980:=Aside0.mk ((by rw [hg];exact Nat.ne_of_lt (blk_lt (g:=gb956) (o:=.cells #[.slice Ao12 t952.length co12] 24 (0,0)) (zz139)):gb956 ≠ gb980));have NB980_956:=Aside0.mk ((by rw [hg];exact Nat.ne_of_gt (blk_lt (g:=gb956) (o:=.cells #[.slice Ao12 t952.length co12] 24 (0,0)) (zz139)):gb980 ≠ gb956));replace BK956:=Aside0.mk (blk_below (zz139) hb);have NB966_980:=Aside0.mk ((by rw [hg];exact Nat.ne_of_lt (blk_lt (g:=gb966) (o:=.cells #[.slice Ao41 t962.length co41] 24 (0,0)) (zz142)):gb966 ≠ gb980));have NB980_966:=Aside0.mk ((by rw [hg];exact Nat.ne_of_gt (blk_lt (g:=gb966) (o:=.cells #[.slice Ao41 t962.length co41] 24 (0,0)) (zz142)):gb980 ≠ gb966));replace BK966:=Aside0.mk (blk_below (zz142) hb);have NB974_980:=Aside0.mk ((by rw [hg];exact Nat.ne_of_lt (blk_lt (g:=gb974) (o:=.cells #[.slice Ao68 t970.length co68] 24 (0,0)) (zz149)):gb974 ≠ gb980));have NB980_974:=Aside0.mk ((by rw [hg];exact Nat.ne_of_gt (blk_lt (g:=gb974) (o:=.cells #[.slice Ao68 t970.length co68] 24 (0,0)) (zz149)):gb980 ≠ gb974));replace BK974:=Aside0.mk (blk_below (zz149) hb);clear hb hbox hg;refine hK.out _ _ ⟨(blk_cell BK951.out 0).trans rfl,(blk_cell BK951.out 1).trans rfl⟩ (fun hHeld=>?_);clear hK K;refine norm_ (a':=?_) ?_ ?_;rotate_left
           ·show Act.put _ (some 16) _ = _
            simp only [zzs]
            rfl
           exact norm_ (zz141) (hCont (v977,gb980) _ ⟨hHeld,(by (with_reducible repeat (first|apply Kd.S_alloc|apply Kd.S_drewN|apply Kd.S_drew));exact Kd.S_mono HO972.out (fun _ hk=>⟨hk.2,⟨hk.1.1,hk.1.2⟩⟩)),(by (with_reducible repeat (first|apply Kd.S_alloc|apply Kd.S_drewN|apply Kd.S_drew));exact Kd.S_mono HO978.out (fun _ hk=>⟨hk.2,⟨hk.1.1.2,hk.1.2⟩⟩)),(have h0_:=HO_957000;zz153),(have h0_:=HO_967000;zz153),(zz137),(zz139),(zz142),(zz149),(have h0_:=BK980;zz12),GW980.out,GE980.out,NB951_980.out,NB980_951.out,NB956_980.out,NB980_956.out,NB966_980.out,NB980_966.out,NB974_980.out,NB980_974.out,(zz154)⟩)
          ·skip
           refine box_step ?hg (N:=16) ?hd (cs:=#[.slice none 0 0]) (t:=24) ?hr ?_;(case hd=>rfl);(case hg=>rfl);(case hr=>exact zz156);intro gb980 hg w73 hbox hb;replace HO_957000:=Aside0.mk (Kd.S_below (zz140) hb);replace HO_967000:=Aside0.mk (Kd.S_below (zz147) hb);replace HO972:=Aside0.mk (Kd.S_below (have h0_:=HO972;zz33) hb);have BK980:=Aside0.mk (hbox);have GW980:=Aside0.mk ((by rw [hg];exact (below_size (zz150)):w.heap.size≤gb980));have GE980:=Aside0.mk ((by rw [hg];exact (below_size (zz150)):w.heap.size≤gb980));replace HB:=Aside0.mk (below_step (zz150) hb);have NB951_980:=Aside0.mk ((by rw [hg];exact Nat.ne_of_lt (blk_lt (g:=gb951) (o:=.cells #[.slice A0_0 l0_0.length c0_0,.slice A0_1 l0_1.length c0_1] 33 (0,0)) (zz137)):gb951 ≠ gb980));have NB980_951:=Aside0.mk ((by rw [hg];exact Nat.ne_of_gt (blk_lt (g:=gb951) (o:=.cells #[.slice A0_0 l0_0.length c0_0,.slice A0_1 l0_1.length c0_1] 33 (0,0)) (zz137)):gb980 ≠ gb951));replace BK951:=Aside0.mk (blk_below (zz137) hb);have NB956_980:=Aside0.mk ((by rw [hg];exact Nat.ne_of_lt (blk_lt (g:=gb956) (o:=.cells #[.slice Ao12 t952.length co12] 24 (0,0)) (zz139)):gb956 ≠ gb980));have NB980_956:=Aside0.mk ((by rw [hg];exact Nat.ne_of_gt (blk_lt (g:=gb956) (o:=.cells #[.slice Ao12 t952.length co12] 24 (0,0)) (zz139)):gb980 ≠ gb956));replace BK956:=Aside0.mk (blk_below (zz139) hb);have NB966_980:=Aside0.mk ((by rw [hg];exact Nat.ne_of_lt (blk_lt (g:=gb966) (o:=.cells #[.slice Ao41 t962.length co41] 24 (0,0)) (zz142)):gb966 ≠ gb980));have NB980_966:=Aside0.mk ((by rw [hg];exact Nat.ne_of_gt (blk_lt (g:=gb966) (o:=.cells #[.slice Ao41 t962.length co41] 24 (0,0)) (zz142)):gb980 ≠ gb966));replace BK966:=Aside0.mk (blk_below (zz142) hb);have NB974_980:=Aside0.mk ((by rw [hg];exact Nat.ne_of_lt (blk_lt (g:=gb974) (o:=.cells #[.slice Ao68 t970.length co68] 24 (0,0)) (zz149)):gb974 ≠ gb980));have NB980_974:=Aside0.mk ((by rw [hg];exact Nat.ne_of_gt (blk_lt (g:=gb974) (o:=.cells #[.slice Ao68 t970.length co68] 24 (0,0)) (zz149)):gb980 ≠ gb974));replace BK974:=Aside0.mk (blk_below (zz149) hb);clear hb hbox hg;refine hK.out _ _ ⟨(blk_cell BK951.out 0).trans rfl,(blk_cell BK951.out 1).trans rfl⟩ (fun hHeld=>?_);clear hK K;refine norm_ (a':=?_) ?_ ?_;rotate_left
           ·show Act.put _ (some 16) _ = _
            simp only [zzs]
            rfl
           refine one_ (i:=4) (N:=some 95) #[true,true,true,true,true,false,false,false,true,false,false] rfl rfl (one_of HT_.out (zz0)) (zz17) (fun K hK=>?_);refine goes_ Tryd.func24 (zz0) rfl #[.agg #[.slice A0_0 l0_0.length c0_0,.slice A0_1 l0_1.length c0_1],.slice (some ad961) (l1.take 1).length c1,.int .i64 a2] (zz9) rfl rfl (by (try simp only [List.map_toArray,List.map_cons,List.map_nil]);first|done|(rw [show (l1.take 1).length = 1 from (by rw [List.length_take];have h_:(1:Int)≤(l1.length:Int):=of_decide_eq_true (zz4);omega)]<;>rfl)|rfl|(simp only [List.length_drop,List.length_take];rfl)) ?_
           with_reducible refine (U16.calls kj35 _ _ l0_0 _ _ l0_1 _ _ (l1.take 1) a2 t976 t979 _ ?side1 ?side2 ?side3 ?side4 ?side5 ?side6 A59.out).mono ?_
           (case side1=>exact zz161)
           (case side2=>exact zz162)
           (case side3=>exact zz163)
           (case side4=>exact zz164)
           (case side5=>exact (have h0_:=HR975;zz157))
           (case side6=>exact HC975.out)
           rintro e w74 ⟨v977,rfl,ho0,hb⟩;refine ⟨_,rfl,?_⟩;have HO978:=Aside0.mk (Kd.S_lower (Kd.S_new' (Kd.S_new' (Kd.S_new' ho0 (Kd.S_lt (zz140))) (Kd.S_lt (zz147))) (Kd.S_lt (have h0_:=HO972;zz33))) (below_size (zz154)));replace HO_957000:=Aside0.mk (Kd.S_elder' (zz140) (Kd.S_base ho0) hb);replace HO_967000:=Aside0.mk (Kd.S_elder' (zz147) (Kd.S_base ho0) hb);replace HO972:=Aside0.mk (Kd.S_elder' (have h0_:=HO972;zz33) (Kd.S_base ho0) hb);replace BK951:=Aside0.mk (blk_below (zz137) hb);replace BK956:=Aside0.mk (blk_below (zz139) hb);replace BK966:=Aside0.mk (blk_below (zz142) hb);replace BK974:=Aside0.mk (blk_below (zz149) hb);replace BK980:=Aside0.mk (blk_below (have h0_:=BK980;zz12) hb);replace HB:=Aside0.mk (below_step (zz154) hb)
           (try clear hb)
           (try clear hk)
           (try clear ho0)
           refine hK.out _ _ ⟨(blk_cell BK951.out 0).trans rfl,(blk_cell BK951.out 1).trans rfl⟩ (fun hHeld=>?_);clear hK K;refine norm_ (a':=?_) ?_ ?_;rotate_left
           ·show Act.put _ (some 95) _ = _
            simp only [zzs]
            rfl
           refine zzp 5 90 ?_ #[true,true,true,true,true,true,false,false,true,false,false] rfl rfl (any_of HT_.out (zz0)) (fun _ _ _ h=>h) (Or.inl ⟨zz9,?_⟩) ?_ ?_ ?_;rotate_left
           ·intro w'
            go_simp
            with_reducible rfl
           rotate_left
           ·simp only [zzs]
            rfl
           refine zzp 6 96 ?_ #[true,true,true,true,true,true,true,false,true,false,false] rfl rfl (any_of HT_.out (zz0)) (fun _ _ _ h=>h) (Or.inl ⟨zz9,?_⟩) ?_ ?_ ?_;rotate_left
           ·intro w'
            go_simp
            with_reducible rfl
           rotate_left
           ·simp only [zzs]
            rfl
           refine zzp 7 97 ?_ #[true,true,true,true,true,true,true,true,true,false,false] rfl rfl (any_of HT_.out (zz0)) (fun _ _ _ h=>h) (Or.inl ⟨zz9,?_⟩) ?_ ?_ ?_;rotate_left
           ·intro w'
            go_simp
            with_reducible rfl
           rotate_left
           ·simp only [zzs]
            rfl
           exact norm_ (zz141) (hCont (v977,gb980) _ ⟨hHeld,(by (with_reducible repeat (first|apply Kd.S_alloc|apply Kd.S_drewN|apply Kd.S_drew));exact Kd.S_mono HO972.out (fun _ hk=>⟨hk.2,⟨hk.1.1,hk.1.2⟩⟩)),(by (with_reducible repeat (first|apply Kd.S_alloc|apply Kd.S_drewN|apply Kd.S_drew));exact Kd.S_mono HO978.out (fun _ hk=>⟨hk.2,⟨hk.1.1.2,hk.1.2⟩⟩)),(have h0_:=HO_957000;zz153),(have h0_:=HO_967000;zz153),(zz137),(zz139),(zz142),(zz149),(have h0_:=BK980;zz12),GW980.out,GE980.out,NB951_980.out,NB980_951.out,NB956_980.out,NB980_956.out,NB966_980.out,NB980_966.out,NB974_980.out,NB980_974.out,(zz154)⟩)
         rintro ⟨v977,gb980⟩ w75 ⟨hS_,h0_,h1_,h2_,h3_,h4_,h5_,h6_,h7_,h8_,h9_,h10_,h11_,h12_,h13_,h14_,h15_,h16_,h17_,h18_,h19_⟩;have n0_:Aside0 (Kd.S (Kd.slice 3 (Kd.int .i64)) 31 w75 w.heap.size (fun k_=>some k_ ≠ (v977:Value).ownBlock∧some k_ ≠ (.slice Ao12 t952.length co12:Value).ownBlock∧some k_ ≠ (.slice Ao41 t962.length co41:Value).ownBlock) (.slice Ao68 t970.length co68) t970):=⟨h0_⟩;have n1_:Aside0 (Kd.S (Kd.slice 3 (Kd.int .i64)) 31 w75 w.heap.size (fun k_=>some k_ ≠ (.slice Ao68 t970.length co68:Value).ownBlock∧some k_ ≠ (.slice Ao12 t952.length co12:Value).ownBlock∧some k_ ≠ (.slice Ao41 t962.length co41:Value).ownBlock) v977 t976):=⟨h1_⟩;have n2_:Aside0 (Kd.S (Kd.slice 3 (Kd.int .i64)) 31 w75 w.heap.size (fun k_=>some k_ ≠ (.slice Ao68 t970.length co68:Value).ownBlock∧some k_ ≠ (v977:Value).ownBlock∧some k_ ≠ (.slice Ao41 t962.length co41:Value).ownBlock) (.slice Ao12 t952.length co12) t952):=⟨h2_⟩;have n3_:Aside0 (Kd.S (Kd.slice 3 (Kd.int .i64)) 31 w75 w.heap.size (fun k_=>some k_ ≠ (.slice Ao68 t970.length co68:Value).ownBlock∧some k_ ≠ (v977:Value).ownBlock∧some k_ ≠ (.slice Ao12 t952.length co12:Value).ownBlock) (.slice Ao41 t962.length co41) t962):=⟨h3_⟩;have n4_:Aside0 (w75.heap[gb951]? = some (.cells #[.slice A0_0 l0_0.length c0_0,.slice A0_1 l0_1.length c0_1] 33 (0,0))):=⟨h4_⟩;have n5_:Aside0 (w75.heap[gb956]? = some (.cells #[.slice Ao12 t952.length co12] 24 (0,0))):=⟨h5_⟩;have n6_:Aside0 (w75.heap[gb966]? = some (.cells #[.slice Ao41 t962.length co41] 24 (0,0))):=⟨h6_⟩;have n7_:Aside0 (w75.heap[gb974]? = some (.cells #[.slice Ao68 t970.length co68] 24 (0,0))):=⟨h7_⟩;have n8_:Aside0 (w75.heap[gb980]? = some (.cells #[.slice none 0 0] 24 (0,0))):=⟨h8_⟩;have n9_:Aside0 (w.heap.size≤gb980):=⟨h9_⟩;have n10_:Aside0 (w.heap.size≤gb980):=⟨h10_⟩;have n11_:Aside0 (gb951 ≠ gb980):=⟨h11_⟩;have n12_:Aside0 (gb980 ≠ gb951):=⟨h12_⟩;have n13_:Aside0 (gb956 ≠ gb980):=⟨h13_⟩;have n14_:Aside0 (gb980 ≠ gb956):=⟨h14_⟩;have n15_:Aside0 (gb966 ≠ gb980):=⟨h15_⟩;have n16_:Aside0 (gb980 ≠ gb966):=⟨h16_⟩;have n17_:Aside0 (gb974 ≠ gb980):=⟨h17_⟩;have n18_:Aside0 (gb980 ≠ gb974):=⟨h18_⟩;have n19_:Aside0 (Below w.heap.size w w75):=⟨h19_⟩;clear HO_957000;clear HO_967000;clear HO972;clear BK951;clear BK956;clear BK966;clear BK974;clear HB;clear h0_ h1_ h2_ h3_ h4_ h5_ h6_ h7_ h8_ h9_ h10_ h11_ h12_ h13_ h14_ h15_ h16_ h17_ h18_ h19_;have HO972:=n0_;have HO978:=n1_;have HO_957000:=n2_;have HO_967000:=n3_;have BK951:=n4_;have BK956:=n5_;have BK966:=n6_;have BK974:=n7_;have BK980:=n8_;have GW980:=n9_;have GE980:=n10_;have NB951_980:=n11_;have NB980_951:=n12_;have NB956_980:=n13_;have NB980_956:=n14_;have NB966_980:=n15_;have NB980_966:=n16_;have NB974_980:=n17_;have NB980_974:=n18_;have HB:=n19_;clear n0_ n1_ n2_ n3_ n4_ n5_ n6_ n7_ n8_ n9_ n10_ n11_ n12_ n13_ n14_ n15_ n16_ n17_ n18_ n19_;have hHeld:w75.cell? ⟨gb951,0,none⟩ = some (.slice A0_0 l0_0.length c0_0)∧w75.cell? ⟨gb951,1,none⟩ = some (.slice A0_1 l0_1.length c0_1):=hS_;obtain ⟨Ao76,co76,eo76⟩:=Kd.S_slice HO978.out
         (first|subst eo76|(injection eo76 with f1_ f2_ f3_;have f4_:=f1_.symm;have f5_:=f3_.symm;clear f1_ f2_ f3_;subst f4_;subst f5_))
         refine norm_ (a':=?_) ?_ ?_;rotate_left
         ·simp only [putAll,Act.put,List.setIfInBounds_toArray,List.set_cons_zero,List.set_cons_succ]
          rfl
         refine one_ (i:=9) (N:=none) #[true,true,true,true,true,true,true,true,true,true,false] rfl rfl (one_of HT_.out (zz0)) (zz17) (fun K hK=>?_);have hs77:w75.cell? ⟨gb980,0,none⟩ = some (.slice none 0 0):=(blk_cell BK980.out 0).trans rfl;have hfs77:=blk_frozen BK980.out 0;have hns77_0:=NB951_980.out;have hns77_1:=NB956_980.out;have hns77_2:=NB966_980.out;have hns77_3:=NB974_980.out;have hms77_0:=NB980_951.out;have hms77_1:=NB980_956.out;have hms77_2:=NB980_966.out;have hms77_3:=NB980_974.out;refine skip_ (w1:=?_) (zz9) rfl ?_ ?_;rotate_left
         ·go_simp
          rfl
         refine hK.out _ _ ⟨((cell_far (p:=⟨gb980,_,none⟩) NB951_980.out _).trans (hHeld.1)),((cell_far (p:=⟨gb980,_,none⟩) NB951_980.out _).trans (hHeld.2))⟩ (fun hHeld=>?_);clear hK K;refine zzp 10 12 ?_ #[true,true,true,true,true,true,true,true,true,true,true] rfl rfl (any_of HT_.out (zz0)) (fun _ _ _ h=>h) (Or.inl ⟨zz9,?_⟩) ?_ ?_ ?_;rotate_left
         ·intro w'
          go_simp
          with_reducible rfl
         rotate_left
         ·simp only [zzs]
          rfl
         refine done_ (done_of HT_.out (zz0)) ?_;have hnb78:=NB974_951.out;have hnc78:=NB951_974.out;have hnb79:=NB974_956.out;have hnc79:=NB956_974.out;have hnb80:=NB974_966.out;have hnc80:=NB966_974.out;have hnb81:=NB974_980.out;have hnc81:=NB980_974.out;obtain ⟨hcz82_0,hfz82_0⟩:=zc1 BK974.out;have hnb83:=NB980_951.out;have hnc83:=NB951_980.out;have hnb84:=NB980_956.out;have hnc84:=NB956_980.out;have hnb85:=NB980_966.out;have hnc85:=NB966_980.out;obtain ⟨hcz86_0,hfz86_0⟩:=zc1 BK980.out
         try go_wp2_with (first|(go_at_call 23;(with_reducible refine (U3.calls kj35 _ _ t970 _ _ t976 true _ ?_ ?_ ?_ ?_ A61.out).mono ?_);(refine (Kd.S_reads' (e:=31) (base:=w.heap.size) (ok:=fun k_=>(some k_ ≠ (.slice Ao76 t976.length co76:Value).ownBlock∧(some k_ ≠ (.slice Ao12 t952.length co12:Value).ownBlock∧some k_ ≠ (.slice Ao41 t962.length co41:Value).ownBlock))) (n:=t970.length) (c:=co68) ?_).2.2;exact (have h0_:=HO972;have h1_:=BK980;zz155));exact (Kd.S_reads' HO972.out).2.1;(refine (Kd.S_reads' (e:=31) (base:=w.heap.size) (ok:=fun k_=>(some k_ ≠ (.slice Ao68 t970.length co68:Value).ownBlock∧(some k_ ≠ (.slice Ao12 t952.length co12:Value).ownBlock∧some k_ ≠ (.slice Ao41 t962.length co41:Value).ownBlock))) (n:=t976.length) (c:=co76) ?_).2.2;exact (have h0_:=HO978;have h1_:=BK980;zz155));exact (Kd.S_reads' HO978.out).2.1;rintro e w87 ⟨rfl,hb⟩;replace HO_957000:=Aside0.mk (Kd.S_below (have h0_:=HO_957000;have h1_:=BK980;zz155) hb);replace HO_967000:=Aside0.mk (Kd.S_below (have h0_:=HO_967000;have h1_:=BK980;zz155) hb);replace HO972:=Aside0.mk (Kd.S_below (have h0_:=HO972;have h1_:=BK980;zz155) hb);replace HO978:=Aside0.mk (Kd.S_below (have h0_:=HO978;have h1_:=BK980;zz155) hb);replace BK951:=Aside0.mk (blk_below (g:=gb951) (o:=.cells #[.slice A0_0 l0_0.length c0_0,.slice A0_1 l0_1.length c0_1] 33 (0,0)) (by (with_reducible repeat (first|refine blk_drewN ?_ _|refine blk_drew ?_|refine blk_alloc ?_ _));refine blk_far ?_ NB951_980.out _;(with_reducible repeat (first|refine blk_drewN ?_ _|refine blk_drew ?_|refine blk_alloc ?_ _));exact BK951.out) hb);replace BK956:=Aside0.mk (blk_below (g:=gb956) (o:=.cells #[.slice Ao12 t952.length co12] 24 (0,0)) (by (with_reducible repeat (first|refine blk_drewN ?_ _|refine blk_drew ?_|refine blk_alloc ?_ _));refine blk_far ?_ NB956_980.out _;(with_reducible repeat (first|refine blk_drewN ?_ _|refine blk_drew ?_|refine blk_alloc ?_ _));exact BK956.out) hb);replace BK966:=Aside0.mk (blk_below (g:=gb966) (o:=.cells #[.slice Ao41 t962.length co41] 24 (0,0)) (by (with_reducible repeat (first|refine blk_drewN ?_ _|refine blk_drew ?_|refine blk_alloc ?_ _));refine blk_far ?_ NB966_980.out _;(with_reducible repeat (first|refine blk_drewN ?_ _|refine blk_drew ?_|refine blk_alloc ?_ _));exact BK966.out) hb);replace BK974:=Aside0.mk (blk_below (g:=gb974) (o:=.cells #[.slice Ao68 t970.length co68] 24 (0,0)) (by (with_reducible repeat (first|refine blk_drewN ?_ _|refine blk_drew ?_|refine blk_alloc ?_ _));refine blk_far ?_ NB974_980.out _;(with_reducible repeat (first|refine blk_drewN ?_ _|refine blk_drew ?_|refine blk_alloc ?_ _));exact BK974.out) hb);replace BK980:=Aside0.mk (blk_below (g:=gb980) (o:=.cells #[.slice Ao76 t976.length co76] 24 (0,0)) (have h0_:=BK980;zz30) hb);replace HB:=Aside0.mk (below_step (zz154) hb);(try clear hb))|(go_at_call 20;(with_reducible refine (U1.calls kj35  t982 _ A63.out).mono ?_);rintro e w88 ⟨rfl,hb⟩;replace HO_957000:=Aside0.mk (Kd.S_below (zz140) hb);replace HO_967000:=Aside0.mk (Kd.S_below (zz147) hb);replace HO972:=Aside0.mk (Kd.S_below (have h0_:=HO972;zz33) hb);replace HO978:=Aside0.mk (Kd.S_below (have h0_:=HO978;zz33) hb);replace BK951:=Aside0.mk (blk_below (zz137) hb);replace BK956:=Aside0.mk (blk_below (zz139) hb);replace BK966:=Aside0.mk (blk_below (zz142) hb);replace BK974:=Aside0.mk (blk_below (zz149) hb);replace BK980:=Aside0.mk (blk_below (have h0_:=BK980;zz12) hb);replace HB:=Aside0.mk (below_step (zz154) hb);(try clear hb)))
         go_ret
         exact ⟨zz14,zz154⟩
        ·replace c62:=Bool.eq_false_iff.mpr c62;subst c62;have H1:(none) = some r:=zz7;clear H;have H:=H1;clear H1
         exact absurd H (zz8)
end Go.Proofs.YtfkmbjkmlfnapaaDoor.QA
