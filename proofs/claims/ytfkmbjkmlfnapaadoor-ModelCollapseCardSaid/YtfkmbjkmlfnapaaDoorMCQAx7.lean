import Derived.Test.YtfkmbjkmlfnapaaDoorMCQAx0
import Derived.Test.YtfkmbjkmlfnapaaDoorMCQAx1
import Derived.Test.YtfkmbjkmlfnapaaDoorMCQAx4
import Derived.Test.YtfkmbjkmlfnapaaDoorMCQAx6
namespace Go.Proofs.YtfkmbjkmlfnapaaDoor.QA
open Go.RowKit Go.Proofs.YtfkmbjkmlfnapaaDoorW.PrintWords Go.Proofs.YtfkmbjkmlfnapaaDoorW.PrintLast Go.Proofs.YtfkmbjkmlfnapaaDoorW.PrintMore
attribute [local go_sem] yG yF yP yO yA yB yH yE
set_option linter.unusedVariables false
set_option linter.unusedSimpArgs false
mutual
def U20.j0:Nat→List Int→Int→Bool→List Int→List Int→Option ((List (List Int)) × Int)
 | 0,_,_,_,_,_=>none
 | k+1,x1,x2,x29,x184000,x184001=>if x29 = true then (some (([]:List (List Int)),3)) else (U20.l0 k x1 x2 x1 (x1.length:Int) 0 x184000 x184001)
def U20.l0:Nat→List Int→Int→List Int→Int→Int→List Int→List Int→Option ((List (List Int)) × Int)
 | 0,_,_,_,_,_,_,_=>none
 | k+1,x1,x2,x31,x32,x33,x184000,x184001=>if x33 < x32 then (if 0≤x33 then (if x33 < (x31.length:Int) then ((U26.f (rd x31 x33) (-1000) 1000).bind fun t189=>(if t189 = true then (U20.l0 k x1 x2 x31 x32 (wrap64 (x33+1)) x184000 x184001) else (some (([]:List (List Int)),3)))) else (none)) else (none)) else (U20.l1 k x1 x2 1 x184000 x184001)
def U20.l1:Nat→List Int→Int→Int→List Int→List Int→Option ((List (List Int)) × Int)
 | 0,_,_,_,_,_=>none
 | k+1,x1,x2,x11,x184000,x184001=>if x11 < (x1.length:Int) then (if 0≤x11 then (if 0≤(wrap64 (x11 - 1)) then (if (wrap64 (x11 - 1)) < (x1.length:Int) then (if (rd x1 x11)≤(rd x1 (wrap64 (x11 - 1))) then (some (([]:List (List Int)),23)) else (U20.l1 k x1 x2 (wrap64 (x11+1)) x184000 x184001)) else (none)) else (none)) else (none)) else (U20.l2 k x1 x2 x184000 (x184000.length:Int) 0 ([]:List (List Int)))
def U20.l2:Nat→List Int→Int→List Int→Int→Int→List (List Int)→Option ((List (List Int)) × Int)
 | 0,_,_,_,_,_,_=>none
 | k+1,x1,x2,x60,x61,x62,x193000=>if x62 < x61 then (if 0≤x62 then (if x62 < (x60.length:Int) then ((U24.f k (rd x60 x62) x1 x2).bind fun t194=>(if x193000.length < 5864062014805 then (U20.l2 k x1 x2 x60 x61 (wrap64 (x62+1)) (x193000++[t194])) else (none))) else (none)) else (none)) else (some (x193000,0))
end
def U20.f (k:Nat) (l0_0:List Int) (l0_1:List Int) (l1:List Int) (a2:Int):Option ((List (List Int)) × Int):=(U5.f k l0_0 l0_1).bind fun t185=>(if t185 = 0 then ((U26.f (l1.length:Int) 1 5).bind fun t186=>(if t186 = true then ((U26.f a2 0 2000).bind fun t187=>(U20.j0 k l1 a2 (!t187) l0_0 l0_1)) else (U20.j0 k l1 a2 true l0_0 l0_1))) else (some (([]:List (List Int)),t185)))
theorem zm11_0 {P:Prop} (h:P:=by repeat' first|(with_reducible first|exact ih0 ..|exact ih1 ..|exact ih2 ..|exact ih3 ..|exact U5.mono ..|exact U24.mono ..|exact LeO.refl _|exact LeO.none _|refine LeO.ite ?_ ?_|refine LeO.bind ?_ (fun _=>?_))|exact ih0 ..|exact ih1 ..|exact ih2 ..|exact ih3 ..|exact U5.mono ..|exact U24.mono ..|exact LeO.none _|refine LeO.ite ?_ ?_|refine LeO.bind ?_ (fun _=>?_)):P:=h
theorem U20.mono_l:∀ k,(∀ y0 y1 y2 y3 y4,LeO (U20.j0 k y0 y1 y2 y3 y4) (U20.j0 (k+1) y0 y1 y2 y3 y4))∧(∀ y0 y1 y2 y3 y4 y5 y6,LeO (U20.l0 k y0 y1 y2 y3 y4 y5 y6) (U20.l0 (k+1) y0 y1 y2 y3 y4 y5 y6))∧(∀ y0 y1 y2 y3 y4,LeO (U20.l1 k y0 y1 y2 y3 y4) (U20.l1 (k+1) y0 y1 y2 y3 y4))∧(∀ y0 y1 y2 y3 y4 y5,LeO (U20.l2 k y0 y1 y2 y3 y4 y5) (U20.l2 (k+1) y0 y1 y2 y3 y4 y5))
 | 0=>⟨fun _ _ _ _ _ r h=>by simp [U20.j0] at h,fun _ _ _ _ _ _ _ r h=>by simp [U20.l0] at h,fun _ _ _ _ _ r h=>by simp [U20.l1] at h,fun _ _ _ _ _ _ r h=>by simp [U20.l2] at h⟩
 | k+1=>by
  obtain ⟨ih0,ih1,ih2,ih3⟩:=U20.mono_l k;refine ⟨?_,?_,?_,?_⟩
  ·intro y0 y1 y2 y3 y4;unfold U20.j0
   exact zm11_0
  ·intro y0 y1 y2 y3 y4 y5 y6;unfold U20.l0
   exact zm11_0
  ·intro y0 y1 y2 y3 y4;unfold U20.l1
   exact zm11_0
  ·intro y0 y1 y2 y3 y4 y5;unfold U20.l2
   exact zm11_0
theorem U20.mono:∀ a0 a1 a2 a3 k,LeO (U20.f k a0 a1 a2 a3) (U20.f (k+1) a0 a1 a2 a3):=by
 intro a0 a1 a2 a3 k;obtain ⟨ih0,ih1,ih2,ih3⟩:=U20.mono_l k;unfold U20.f
 exact zm11_0
def U20.T15:Bool × List (List Nat × List Nat):=(true,[([],[]),([],[]),([0,1],[0,1]),([2],[2]),([],[]),([],[]),([5],[5]),([4,6],[4,6]),([7],[7]),([3,8],[3,8])])
def U20.B15:List Nat:=[0,0,3,7,0,0,32,112,240,511]
theorem U20.tab15:yX .any (vD Tryd.f24 15) = U20.T15:=zz0
theorem U20.bits15:yQ U20.T15.2 U20.B15 = true:=zz0
def U20.T21:Bool × List (List Nat × List Nat):=(true,[([],[]),([0],[0]),([],[]),([],[]),([],[]),([2,3,4],[2,3,4]),([5],[5]),([1,6,5],[1,6]),([0,1,2,3,4,5,6,7],[]),([8,7,7,0,1,2,3,4,5,6,7],[7,8])])
def U20.B21:List Nat:=[0,1,0,0,0,28,60,127,255,511]
theorem U20.tab21:yX .any (vD Tryd.f24 21) = U20.T21:=zz0
theorem U20.bits21:yQ U20.T21.2 U20.B21 = true:=zz0
set_option maxHeartbeats 8000000 in
set_option maxRecDepth 100000 in
theorem U20.calls (k:Nat) (A0_0:Option Addr) (c0_0:Nat) (l0_0:List Int) (A0_1:Option Addr) (c0_1:Nat) (l0_1:List Int) (A1:Option Addr) (c1:Nat) (l1:List Int) (a2:Int) (r1:List (List Int)) (r2:Int) (w:World) (hr0_0:Kd.C (Kd.int .i64) w A0_0 l0_0.length l0_0) (hc0_0:l0_0.length≤c0_0) (hr0_1:Kd.C (Kd.int .i64) w A0_1 l0_1.length l0_1) (hc0_1:l0_1.length≤c0_1) (hr1:Kd.C (Kd.int .i64) w A1 l1.length l1) (hc1:l1.length≤c1) (h:U20.f k l0_0 l0_1 l1 a2 = some (r1,r2)) :
  Calls Tryd.prog 24 #[.agg #[.slice A0_0 l0_0.length c0_0,.slice A0_1 l0_1.length c0_1],.slice A1 l1.length c1,.int .i64 a2] w fun e w'=>∃ v0_:Value,e = .returned (.tuple #[.agg #[v0_],.int .i64 r2])∧Kd.S (Kd.slice 3 (Kd.int .i64)) 31 w' w.heap.size (fun _=>True) v0_ r1∧Below w.heap.size w w':=by
 have hu33:=Tryd.underlying33;have hu24:=Tryd.underlying24;have HR0_0:=wA.mk hr0_0;have HC0_0:=wA.mk hc0_0;clear hr0_0 hc0_0;have HR0_1:=wA.mk hr0_1;have HC0_1:=wA.mk hc0_1;clear hr0_1 hc0_1;have HR1:=wA.mk hr1;have HC1:=wA.mk hc1;clear hr1 hc1;have HB:=wA.mk (Below.refl w.heap.size w);have H:((U5.f k l0_0 l0_1).bind fun t185=>(if t185 = 0 then ((U26.f (l1.length:Int) 1 5).bind fun t186=>(if t186 = true then ((U26.f a2 0 2000).bind fun t187=>(U20.j0 k l1 a2 (!t187) l0_0 l0_1)) else (U20.j0 k l1 a2 true l0_0 l0_1))) else (some (([]:List (List Int)),t185)))) = some (r1,r2):=h;clear h;replace H:=zzb H;obtain ⟨t185,A4,H⟩:=H;replace H:=zzj H;rcases H with ⟨c5,H⟩|⟨c5,H⟩
 ·have c5b0:=beq_iff_eq.mpr c5;have c5b1:=bne_eq_false_iff_eq.mpr c5;clear c5;have HC6:=wA.mk H;clear H;go_enter Tryd.func24,Tryd.ntmps24
  go_upto_region 4 with (first|((with_reducible refine wK (N:=3) rfl ?_);refine wM ?hg (N:=3) ?hd (cs:=#[.slice A0_0 l0_0.length c0_0,.slice A0_1 l0_1.length c0_1]) (t:=33) ?hr ?_;(case hd=>rfl);(case hg=>rfl);(case hr=>exact zz205);intro gb183 hg w7 hbox hb;have BK183:=wA.mk (hbox);have GW183:=wA.mk ((by rw [hg];exact (wB (zz10)):w.heap.size≤gb183));have GE183:=wA.mk ((by rw [hg];exact (wB (zz10)):w.heap.size≤gb183));replace HB:=wA.mk (wG (zz10) hb);clear hb hbox hg)|((with_reducible refine wK (N:=6) rfl ?_);refine wM ?hg (N:=6) ?hd (cs:=#[.slice none 0 0]) (t:=24) ?hr ?_;(case hd=>rfl);(case hg=>rfl);(case hr=>exact zz205);intro gb184 hg w8 hbox hb;have BK184:=wA.mk (hbox);have GW184:=wA.mk ((by rw [hg];exact (wB (have h0_:=GE183;zz13)):w.heap.size≤gb184));have GE184:=wA.mk ((by rw [hg];exact (wB (have h0_:=GE183;zz13)):w.heap.size≤gb184));replace HB:=wA.mk (wG (have h0_:=GE183;zz13) hb);have NB183_184:=wA.mk ((by rw [hg];exact Nat.ne_of_lt (wJ (g:=gb183) (o:=.cells #[.slice A0_0 l0_0.length c0_0,.slice A0_1 l0_1.length c0_1] 33 (0,0)) (zz71)):gb183 ≠ gb184));have NB184_183:=wA.mk ((by rw [hg];exact Nat.ne_of_gt (wJ (g:=gb183) (o:=.cells #[.slice A0_0 l0_0.length c0_0,.slice A0_1 l0_1.length c0_1] 33 (0,0)) (zz71)):gb184 ≠ gb183));replace BK183:=wA.mk (wC (zz71) hb);clear hb hbox hg;have hnb9:=NB183_184.out;have hnc9:=NB184_183.out;obtain ⟨hcz10_0,hcz10_1,hfz10_0,hfz10_1⟩:=zc2 BK183.out)|((with_reducible refine wH (f:=49) rfl ?_);refine wO (some 16) rfl rfl Tryd.func49 (zz0) rfl #[.agg #[.slice A0_0 l0_0.length c0_0,.slice A0_1 l0_1.length c0_1]] rfl (zz5) ?_;(with_reducible refine (U5.calls k _ _ l0_0 _ _ l0_1 t185 _ ?_ ?_ ?_ ?_ A4.out).mono ?_);exact zz210;exact zz211;exact zz216;exact zz217;rintro e w11 ⟨rfl,hb⟩;refine ⟨_,rfl,?_⟩;replace BK183:=wA.mk (wC (zz71) hb);replace BK184:=wA.mk (wC (zz72) hb);replace HB:=wA.mk (wG (zz73) hb);(try clear hb)))
  (try simp only [Act.put,List.setIfInBounds_toArray,List.set_cons_zero,List.set_cons_succ])
  go_cut [29] (fun v29 wc=>∃ (kq:Nat) (x29_5:Bool),v29 = .bool x29_5∧wA (U20.j0 kq l1 a2 x29_5 l0_0 l0_1 = some (r1,r2))∧wA (kq≤k)∧wA (wc.heap[gb183]? = some (.cells #[(.slice A0_0 l0_0.length c0_0),(.slice A0_1 l0_1.length c0_1)] 33 (0,0)))∧wA (wc.heap[gb184]? = some (.cells #[(.slice none 0 0)] 24 (0,0)))∧wA (Below w.heap.size w wc))
  case first =>
   have H:=HC6.out;clear HC6;replace H:=zzb H;obtain ⟨t186,A12,H⟩:=H;by_cases c13:t186 = true
   ·subst c13;have H1:((U26.f a2 0 2000).bind fun t187=>(U20.j0 k l1 a2 (!t187) l0_0 l0_1)) = some (r1,r2):=zz3;clear H;have H:=H1;clear H1;replace H:=zzb H;obtain ⟨t187,A14,H⟩:=H;have H':=wA.mk H;clear H
    go_wp2_with (first|((with_reducible refine wH (f:=44) rfl ?_);refine wO (some 23) rfl rfl Tryd.func44 (zz0) rfl #[.int .i64 (l1.length:Int),.int .i64 1,.int .i64 5] rfl (zz5) ?_;(with_reducible refine (U26.calls (l1.length:Int) 1 5 true _ A12.out).mono ?_);rintro e w' ⟨rfl,⟨nd,rfl⟩⟩;refine ⟨_,rfl,?_⟩)|(go_at_call 44;(with_reducible refine (U26.calls a2 0 2000 t187 _ A14.out).mono ?_);rintro e w' ⟨rfl,⟨nd,rfl⟩⟩))
    go_meet
    case rel=>exact ⟨_,(!t187),(zz1),H',⟨zz11⟩,⟨zz71⟩,⟨zz72⟩,⟨zz73⟩⟩
   ·replace c13:=Bool.eq_false_iff.mpr c13;subst c13;have H1:(U20.j0 k l1 a2 true l0_0 l0_1) = some (r1,r2):=zz7;clear H;have H:=H1;clear H1;have H':=wA.mk H;clear H
    go_wp2_with (first|((with_reducible refine wH (f:=44) rfl ?_);refine wO (some 23) rfl rfl Tryd.func44 (zz0) rfl #[.int .i64 (l1.length:Int),.int .i64 1,.int .i64 5] rfl (zz5) ?_;(with_reducible refine (U26.calls (l1.length:Int) 1 5 false _ A12.out).mono ?_);rintro e w' ⟨rfl,⟨nd,rfl⟩⟩;refine ⟨_,rfl,?_⟩))
    go_meet
    case rel=>exact ⟨_,(true),(zz1),H',⟨zz11⟩,⟨zz71⟩,⟨zz72⟩,⟨zz73⟩⟩
  case rest =>
   clear HC6;(try clear c1);clear c5b0 c5b1;(try clear hcz10_0);(try clear hcz10_1);(try clear hfz10_0);(try clear hfz10_1);obtain ⟨kq,x29_5,rfl,HA,HJ5,BK183,BK184,HB⟩:=hcut
   cases kq with
   | zero=>exact absurd HA.out (by simp [U20.j0])
   | succ kj5 =>
    have H:=HA.out;clear HA;simp only [U20.j0] at H;by_cases c15:x29_5 = true
    ·subst c15;have H1:(some (([]:List (List Int)),3)) = some (r1,r2):=zz3;clear H;have H:=H1;clear H1;simp only [Option.some.injEq,Prod.mk.injEq] at H;obtain ⟨rfl,rfl⟩:=H;have hnb16:=NB184_183.out;have hnc16:=NB183_184.out;obtain ⟨hcz17_0,hfz17_0⟩:=zc1 BK184.out
     go_wp2
     refine bodyPost_ret (wZ rfl _ _ gb184 24 #[.slice none 0 0] (0,0) _ rfl (have h0_:=BK184;zz23) Tryd.underlying24 rfl (zz0)) rfl ?_
     exact ⟨_,zz14,zz24,zz73⟩
    ·replace c15:=Bool.eq_false_iff.mpr c15;subst c15;have H1:(U20.l0 kj5 l1 a2 l1 (l1.length:Int) 0 l0_0 l0_1) = some (r1,r2):=zz7;clear H;have H:=H1;clear H1;have H':=wA.mk H;clear H
     go_wp2
     go_loopg [33] kj5 (fun kq v33 w'=>∃ (x33_2:Int),v33 = .int .i64 x33_2∧wA (U20.l0 kq l1 a2 l1 (l1.length:Int) x33_2 l0_0 l0_1 = some (r1,r2))∧wA (kq≤kj5)∧wA (w'.heap[gb183]? = some (.cells #[(.slice A0_0 l0_0.length c0_0),(.slice A0_1 l0_1.length c0_1)] 33 (0,0)))∧wA (w'.heap[gb184]? = some (.cells #[(.slice none 0 0)] 24 (0,0)))∧wA (Below w.heap.size w w'))
     case atStart=>exact ⟨(0),(zz1),H',⟨Nat.le_refl _⟩,⟨zz71⟩,⟨zz72⟩,⟨zz73⟩⟩
     case round =>
      clear H'
      (try clear c15);(try clear hcz10_0);(try clear hcz10_1);(try clear hfz10_0);(try clear hfz10_1)
      obtain ⟨x33_2,rfl,HA,HK2,BK183,BK184,HB⟩:=hrel
      cases gk with
      | zero=>exact absurd HA.out (by simp [U20.l0])
      | succ k2 =>
       have H:=HA.out;clear HA;simp only [U20.l0] at H;replace H:=zzj H;rcases H with ⟨c18,H⟩|⟨c18,H⟩
       ·have c18b0:=decide_eq_true c18;clear c18;replace H:=zzi H;obtain ⟨c19,H⟩:=H;have c19b0:=decide_eq_true c19;clear c19;replace H:=zzi H;obtain ⟨c20,H⟩:=H;have c20b0:=decide_eq_true c20;clear c20;replace H:=zzb H;obtain ⟨t189,A21,H⟩:=H;by_cases c22:t189 = true
        ·subst c22;have H1:(U20.l0 k2 l1 a2 l1 (l1.length:Int) (wrap64 (x33_2+1)) l0_0 l0_1) = some (r1,r2):=zz3;clear H;have H:=H1;clear H1;have H':=wA.mk H;clear H;have p188:0≤(x33_2:Int):=of_decide_eq_true (zz4);have q188:x33_2 < (l1.length:Int):=of_decide_eq_true (zz4);obtain ⟨ad188,e188,hx188_0⟩:=Kd.at_int HR1.out x33_2 p188 q188
         cases e188
         replace hx188_0:=(HB.out.cell (World.block_lt_of_cell? w _ hx188_0)).trans hx188_0;replace p188:=eq_true p188;replace q188:=eq_true q188
         go_wp2_with (first|((with_reducible refine wH (f:=44) rfl ?_);refine wO (some 38) rfl rfl Tryd.func44 (zz0) rfl #[.int .i64 (rd l1 x33_2),.int .i64 (-1000),.int .i64 1000] rfl (zz5) ?_;(with_reducible refine (U26.calls (rd l1 x33_2) (-1000) 1000 true _ A21.out).mono ?_);rintro e w' ⟨rfl,⟨nd,rfl⟩⟩;refine ⟨_,rfl,?_⟩))
         go_roundg k2
         case measure=>have:=HJ5.out;have:=HK2.out;omega
         case rel=>exact ⟨(wrap64 (x33_2+1)),(zz1),H',⟨by have:=HJ5.out;have:=HK2.out;omega⟩,⟨zz71⟩,⟨zz72⟩,⟨zz73⟩⟩
        ·replace c22:=Bool.eq_false_iff.mpr c22;subst c22;have H1:(some (([]:List (List Int)),3)) = some (r1,r2):=zz7;clear H;have H:=H1;clear H1;simp only [Option.some.injEq,Prod.mk.injEq] at H;obtain ⟨rfl,rfl⟩:=H;have p188:0≤(x33_2:Int):=of_decide_eq_true (zz4);have q188:x33_2 < (l1.length:Int):=of_decide_eq_true (zz4);obtain ⟨ad188,e188,hx188_0⟩:=Kd.at_int HR1.out x33_2 p188 q188
         cases e188
         replace hx188_0:=(HB.out.cell (World.block_lt_of_cell? w _ hx188_0)).trans hx188_0;replace p188:=eq_true p188;replace q188:=eq_true q188
         go_wp2_with (first|((with_reducible refine wH (f:=44) rfl ?_);refine wO (some 38) rfl rfl Tryd.func44 (zz0) rfl #[.int .i64 (rd l1 x33_2),.int .i64 (-1000),.int .i64 1000] rfl (zz5) ?_;(with_reducible refine (U26.calls (rd l1 x33_2) (-1000) 1000 false _ A21.out).mono ?_);rintro e w' ⟨rfl,⟨nd,rfl⟩⟩;refine ⟨_,rfl,?_⟩;(try (rw [zA wr];generalize hq_:World.drewN wr _ = wr;have n0_:wA (wr.heap[gb183]? = some (.cells #[.slice A0_0 l0_0.length c0_0,.slice A0_1 l0_1.length c0_1] 33 (0,0))):=⟨(have h0_:=BK183;zz56)⟩;have n1_:wA (wr.heap[gb184]? = some (.cells #[.slice none 0 0] 24 (0,0))):=⟨(have h0_:=BK184;zz56)⟩;have n2_:wA (Below w.heap.size w wr):=⟨(have h0_:=GE183;have h1_:=GE184;zz57)⟩;clear BK183 BK184 HB hq_;have BK183:=n0_;have BK184:=n1_;have HB:=n2_;clear n0_ n1_ n2_;obtain ⟨hczugb183_0,hczugb183_1,hfzugb183_0,hfzugb183_1⟩:=zc2 BK183.out;obtain ⟨hczugb184_0,hfzugb184_0⟩:=zc1 BK184.out));have hnb23:=NB184_183.out;have hnc23:=NB183_184.out;obtain ⟨hcz24_0,hfz24_0⟩:=zc1 BK184.out))
         refine bodyPost_ret (wZ rfl _ _ gb184 24 #[.slice none 0 0] (0,0) _ rfl (have h0_:=BK184;zz23) Tryd.underlying24 rfl (zz0)) rfl ?_
         exact ⟨_,zz14,zz24,zz73⟩
       ·have c18b0:=decide_eq_false c18;clear c18;have H':=wA.mk H;clear H
        go_wp2
        go_loopg [11] k2 (fun kq v11 w'=>∃ (x11_3:Int),v11 = .int .i64 x11_3∧wA (U20.l1 kq l1 a2 x11_3 l0_0 l0_1 = some (r1,r2))∧wA (kq≤k2)∧wA (w'.heap[gb183]? = some (.cells #[(.slice A0_0 l0_0.length c0_0),(.slice A0_1 l0_1.length c0_1)] 33 (0,0)))∧wA (w'.heap[gb184]? = some (.cells #[(.slice none 0 0)] 24 (0,0)))∧wA (Below w.heap.size w w'))
        case atStart=>exact ⟨(1),(zz1),H',⟨Nat.le_refl _⟩,⟨zz71⟩,⟨zz72⟩,⟨zz73⟩⟩
        case round =>
         clear H'
         clear c18b0;(try clear hcz10_0);(try clear hcz10_1);(try clear hcz17_0);(try clear hfz10_0);(try clear hfz10_1);(try clear hfz17_0)
         obtain ⟨x11_3,rfl,HA,HK3,BK183,BK184,HB⟩:=hrel
         cases gk with
         | zero=>exact absurd HA.out (by simp [U20.l1])
         | succ k3 =>
          have H:=HA.out;clear HA;simp only [U20.l1] at H;replace H:=zzj H;rcases H with ⟨c25,H⟩|⟨c25,H⟩
          ·have c25b0:=decide_eq_true c25;clear c25;replace H:=zzi H;obtain ⟨c26,H⟩:=H;have c26b0:=decide_eq_true c26;clear c26;obtain ⟨ji27,hji27⟩:∃ j_:Int,(wrap64 (x11_3 - 1)) = j_:=⟨_,rfl⟩;replace H:(if 0≤(ji27) then (if (ji27) < (l1.length:Int) then (if (rd l1 x11_3)≤(rd l1 (ji27)) then (some (([]:List (List Int)),23)) else (U20.l1 k3 l1 a2 (wrap64 (x11_3+1)) l0_0 l0_1)) else (none)) else (none)) = some (r1,r2):=(have h0_:=hji27;zz19);have hji27w:(IntKind.i64.wrap (x11_3 - 1)) = ji27:=(yL _).trans hji27;replace H:=zzi H;obtain ⟨c28,H⟩:=H;have c28b0:=decide_eq_true c28;clear c28;replace H:=zzi H;obtain ⟨c29,H⟩:=H;have c29b0:=decide_eq_true c29;clear c29;replace H:=zzj H;rcases H with ⟨c30,H⟩|⟨c30,H⟩
           ·have c30b0:=decide_eq_true c30;clear c30;simp only [Option.some.injEq,Prod.mk.injEq] at H;obtain ⟨rfl,rfl⟩:=H
            try go_wp2
            replace BK183:=wA.mk (wF BK183.out);replace BK184:=wA.mk (wF BK184.out);replace HB:=wA.mk (wR HB.out);have p190:0≤(x11_3:Int):=of_decide_eq_true (zz4);have q190:x11_3 < (l1.length:Int):=of_decide_eq_true (zz4);obtain ⟨ad190,e190,hx190_0⟩:=Kd.at_int HR1.out x11_3 p190 q190;have hw190_0:=hx190_0
            cases e190
            replace hx190_0:=(HB.out.cell (World.block_lt_of_cell? w _ hx190_0)).trans hx190_0;replace p190:=eq_true p190;replace q190:=eq_true q190;have p191:0≤((ji27):Int):=of_decide_eq_true (zz4);have q191:(ji27) < (l1.length:Int):=of_decide_eq_true (zz4);obtain ⟨ad191,e191,hx191_0⟩:=Kd.at_int HR1.out (ji27) p191 q191;have hw191_0:=hx191_0;obtain rfl:ad190 = ad191:=(by injection e191);replace hx191_0:=(HB.out.cell (World.block_lt_of_cell? w _ hx191_0)).trans hx191_0;replace p191:=eq_true p191;replace q191:=eq_true q191;refine zC (n:=10) (S:=fun w'=>w'.cell? (ad190.add (x11_3).toNat) = some (.int .i64 (rd l1 x11_3))∧w'.cell? (ad190.add ((ji27)).toNat) = some (.int .i64 (rd l1 (ji27)))) (ds:=[]) #[false,false,false,false,false,false,false,false,false,false] (zz0) rfl rfl ⟨((HB.out.cell (World.block_lt_of_cell? w _ hw190_0)).trans hw190_0),((HB.out.cell (World.block_lt_of_cell? w _ hw191_0)).trans hw191_0)⟩ (fun hHeld=>?_);refine yS U20.tab15 U20.bits15 (fun HT_ HW_=>?_)
            generalize wr.drew = w31 at BK183 BK184 HB hx190_0 hx191_0 hHeld ⊢
            refine zzp 0 48 ?_ #[true,false,false,false,false,false,false,false,false,false] rfl rfl (wU HT_.out (zz0)) (fun _ _ _ h=>h) (Or.inl ⟨zz9,?_⟩) ?_ ?_ ?_;rotate_left
            ·intro w'
             go_simp
             with_reducible rfl
            rotate_left
            ·simp only [zzs]
             rfl
            refine zzp 1 49 ?_ #[true,true,false,false,false,false,false,false,false,false] rfl rfl (wU HT_.out (zz0)) (fun _ _ _ h=>h) (Or.inl ⟨zz9,?_⟩) ?_ ?_ ?_;rotate_left
            ·intro w'
             go_simp
             with_reducible rfl
            rotate_left
            ·simp only [zzs]
             rfl
            refine zzp 2 50 ?_ #[true,true,true,false,false,false,false,false,false,false] rfl rfl (wU HT_.out (zz0)) (fun _ _ _ h=>h) (Or.inl ⟨zz9,?_⟩) ?_ ?_ ?_;rotate_left
            ·intro w'
             go_simp
             with_reducible rfl
            rotate_left
            ·simp only [zzs]
             rfl
            refine zzp 4 52 ?_ #[true,true,true,false,true,false,false,false,false,false] rfl rfl (wU HT_.out (zz0)) (fun _ _ _ h=>h) (Or.inl ⟨zz9,?_⟩) ?_ ?_ ?_;rotate_left
            ·intro w'
             go_simp
             with_reducible rfl
            rotate_left
            ·simp only [zzs]
             rfl
            refine zzp 5 53 ?_ #[true,true,true,false,true,true,false,false,false,false] rfl rfl (wU HT_.out (zz0)) (fun _ _ _ h=>h) (Or.inl ⟨zz9,?_⟩) ?_ ?_ ?_;rotate_left
            ·intro w'
             go_simp
             with_reducible rfl
            rotate_left
            ·simp only [zzs]
             rfl
            refine zzp 6 54 ?_ #[true,true,true,false,true,true,true,false,false,false] rfl rfl (wU HT_.out (zz0)) (fun _ _ _ h=>h) (Or.inl ⟨zz9,?_⟩) ?_ ?_ ?_;rotate_left
            ·intro w'
             go_simp
             with_reducible rfl
            rotate_left
            ·simp only [zzs]
             rfl
            refine zzp 7 55 ?_ #[true,true,true,false,true,true,true,true,false,false] rfl rfl (wU HT_.out (zz0)) (fun _ _ _ h=>h) (Or.inl ⟨zz9,?_⟩) ?_ ?_ ?_;rotate_left
            ·intro w'
             go_simp
             with_reducible rfl
            rotate_left
            ·simp only [zzs]
             rfl
            refine take_ (i:=3) (N:=some 51) (v:=?_) (a':=?_) #[true,true,true,true,true,true,true,true,false,false] rfl rfl (wY HT_.out HW_.out (zz0)) (fun _ _ _ h=>h) (Or.inl ⟨zz9,?_⟩) hHeld ?_ ?_;rotate_left
            ·rintro w' ⟨s0,s1⟩
             go_simp
             with_reducible rfl
            rotate_left
            ·simp only [zzs]
             rfl
            refine take_ (i:=8) (N:=some 56) (v:=?_) (a':=?_) #[true,true,true,true,true,true,true,true,true,false] rfl rfl (wY HT_.out HW_.out (zz0)) (fun _ _ _ h=>h) (Or.inl ⟨zz9,?_⟩) hHeld ?_ ?_;rotate_left
            ·rintro w' ⟨s0,s1⟩
             go_simp
             with_reducible rfl
            rotate_left
            ·simp only [zzs]
             rfl
            refine zzp 9 57 ?_ #[true,true,true,true,true,true,true,true,true,true] rfl rfl (wU HT_.out (zz0)) (fun _ _ _ h=>h) (Or.inl ⟨zz9,?_⟩) ?_ ?_ ?_;rotate_left
            ·intro w'
             go_simp
             with_reducible rfl
            rotate_left
            ·simp only [zzs]
             rfl
            refine zN (zL HT_.out (zz0)) ?_;have hnb32:=NB184_183.out;have hnc32:=NB183_184.out;obtain ⟨hcz33_0,hfz33_0⟩:=zc1 BK184.out
            try go_wp2
            refine bodyPost_ret (wZ rfl _ _ gb184 24 #[.slice none 0 0] (0,0) _ rfl (have h0_:=BK184;zz23) Tryd.underlying24 rfl (zz0)) rfl ?_
            exact ⟨_,(have h0_:=hji27;zz32),zz24,zz73⟩
           ·have c30b0:=decide_eq_false c30;clear c30;have H':=wA.mk H;clear H
            try go_wp2
            replace BK183:=wA.mk (wF BK183.out);replace BK184:=wA.mk (wF BK184.out);replace HB:=wA.mk (wR HB.out);have p190:0≤(x11_3:Int):=of_decide_eq_true (zz4);have q190:x11_3 < (l1.length:Int):=of_decide_eq_true (zz4);obtain ⟨ad190,e190,hx190_0⟩:=Kd.at_int HR1.out x11_3 p190 q190;have hw190_0:=hx190_0
            cases e190
            replace hx190_0:=(HB.out.cell (World.block_lt_of_cell? w _ hx190_0)).trans hx190_0;replace p190:=eq_true p190;replace q190:=eq_true q190;have p191:0≤((ji27):Int):=of_decide_eq_true (zz4);have q191:(ji27) < (l1.length:Int):=of_decide_eq_true (zz4);obtain ⟨ad191,e191,hx191_0⟩:=Kd.at_int HR1.out (ji27) p191 q191;have hw191_0:=hx191_0;obtain rfl:ad190 = ad191:=(by injection e191);replace hx191_0:=(HB.out.cell (World.block_lt_of_cell? w _ hx191_0)).trans hx191_0;replace p191:=eq_true p191;replace q191:=eq_true q191;refine zC (n:=10) (S:=fun w'=>w'.cell? (ad190.add (x11_3).toNat) = some (.int .i64 (rd l1 x11_3))∧w'.cell? (ad190.add ((ji27)).toNat) = some (.int .i64 (rd l1 (ji27)))) (ds:=[]) #[false,false,false,false,false,false,false,false,false,false] (zz0) rfl rfl ⟨((HB.out.cell (World.block_lt_of_cell? w _ hw190_0)).trans hw190_0),((HB.out.cell (World.block_lt_of_cell? w _ hw191_0)).trans hw191_0)⟩ (fun hHeld=>?_);refine yS U20.tab15 U20.bits15 (fun HT_ HW_=>?_)
            generalize wr.drew = w34 at BK183 BK184 HB hx190_0 hx191_0 hHeld ⊢
            refine zzp 0 48 ?_ #[true,false,false,false,false,false,false,false,false,false] rfl rfl (wU HT_.out (zz0)) (fun _ _ _ h=>h) (Or.inl ⟨zz9,?_⟩) ?_ ?_ ?_;rotate_left
            ·intro w'
             go_simp
             with_reducible rfl
            rotate_left
            ·simp only [zzs]
             rfl
            refine zzp 1 49 ?_ #[true,true,false,false,false,false,false,false,false,false] rfl rfl (wU HT_.out (zz0)) (fun _ _ _ h=>h) (Or.inl ⟨zz9,?_⟩) ?_ ?_ ?_;rotate_left
            ·intro w'
             go_simp
             with_reducible rfl
            rotate_left
            ·simp only [zzs]
             rfl
            refine zzp 2 50 ?_ #[true,true,true,false,false,false,false,false,false,false] rfl rfl (wU HT_.out (zz0)) (fun _ _ _ h=>h) (Or.inl ⟨zz9,?_⟩) ?_ ?_ ?_;rotate_left
            ·intro w'
             go_simp
             with_reducible rfl
            rotate_left
            ·simp only [zzs]
             rfl
            refine zzp 4 52 ?_ #[true,true,true,false,true,false,false,false,false,false] rfl rfl (wU HT_.out (zz0)) (fun _ _ _ h=>h) (Or.inl ⟨zz9,?_⟩) ?_ ?_ ?_;rotate_left
            ·intro w'
             go_simp
             with_reducible rfl
            rotate_left
            ·simp only [zzs]
             rfl
            refine zzp 5 53 ?_ #[true,true,true,false,true,true,false,false,false,false] rfl rfl (wU HT_.out (zz0)) (fun _ _ _ h=>h) (Or.inl ⟨zz9,?_⟩) ?_ ?_ ?_;rotate_left
            ·intro w'
             go_simp
             with_reducible rfl
            rotate_left
            ·simp only [zzs]
             rfl
            refine zzp 6 54 ?_ #[true,true,true,false,true,true,true,false,false,false] rfl rfl (wU HT_.out (zz0)) (fun _ _ _ h=>h) (Or.inl ⟨zz9,?_⟩) ?_ ?_ ?_;rotate_left
            ·intro w'
             go_simp
             with_reducible rfl
            rotate_left
            ·simp only [zzs]
             rfl
            refine zzp 7 55 ?_ #[true,true,true,false,true,true,true,true,false,false] rfl rfl (wU HT_.out (zz0)) (fun _ _ _ h=>h) (Or.inl ⟨zz9,?_⟩) ?_ ?_ ?_;rotate_left
            ·intro w'
             go_simp
             with_reducible rfl
            rotate_left
            ·simp only [zzs]
             rfl
            refine take_ (i:=3) (N:=some 51) (v:=?_) (a':=?_) #[true,true,true,true,true,true,true,true,false,false] rfl rfl (wY HT_.out HW_.out (zz0)) (fun _ _ _ h=>h) (Or.inl ⟨zz9,?_⟩) hHeld ?_ ?_;rotate_left
            ·rintro w' ⟨s0,s1⟩
             go_simp
             with_reducible rfl
            rotate_left
            ·simp only [zzs]
             rfl
            refine take_ (i:=8) (N:=some 56) (v:=?_) (a':=?_) #[true,true,true,true,true,true,true,true,true,false] rfl rfl (wY HT_.out HW_.out (zz0)) (fun _ _ _ h=>h) (Or.inl ⟨zz9,?_⟩) hHeld ?_ ?_;rotate_left
            ·rintro w' ⟨s0,s1⟩
             go_simp
             with_reducible rfl
            rotate_left
            ·simp only [zzs]
             rfl
            refine zzp 9 57 ?_ #[true,true,true,true,true,true,true,true,true,true] rfl rfl (wU HT_.out (zz0)) (fun _ _ _ h=>h) (Or.inl ⟨zz9,?_⟩) ?_ ?_ ?_;rotate_left
            ·intro w'
             go_simp
             with_reducible rfl
            rotate_left
            ·simp only [zzs]
             rfl
            refine zN (zL HT_.out (zz0)) ?_
            try go_wp2
            go_roundg k3
            case measure=>have:=HJ5.out;have:=HK2.out;have:=HK3.out;omega
            case rel=>exact ⟨(wrap64 (x11_3+1)),(zz1),H',⟨by have:=HJ5.out;have:=HK2.out;have:=HK3.out;omega⟩,⟨zz71⟩,⟨zz72⟩,⟨zz73⟩⟩
          ·have c25b0:=decide_eq_false c25;clear c25;have H':=wA.mk H;clear H
           go_wp2_with (first|((with_reducible refine wK (N:=12) rfl ?_);refine wM ?hg (N:=12) ?hd (cs:=#[.slice none 0 0]) (t:=24) ?hr ?_;(case hd=>rfl);(case hg=>rfl);(case hr=>exact zz205);intro gb192 hg w35 hbox hb;have BK192:=wA.mk (hbox);have GW192:=wA.mk ((by rw [hg];exact (wB (zz73)):w.heap.size≤gb192));have GE192:=wA.mk ((by rw [hg];exact (wB (zz73)):w.heap.size≤gb192));replace HB:=wA.mk (wG (zz73) hb);have NB183_192:=wA.mk ((by rw [hg];exact Nat.ne_of_lt (wJ (g:=gb183) (o:=.cells #[.slice A0_0 l0_0.length c0_0,.slice A0_1 l0_1.length c0_1] 33 (0,0)) (zz71)):gb183 ≠ gb192));have NB192_183:=wA.mk ((by rw [hg];exact Nat.ne_of_gt (wJ (g:=gb183) (o:=.cells #[.slice A0_0 l0_0.length c0_0,.slice A0_1 l0_1.length c0_1] 33 (0,0)) (zz71)):gb192 ≠ gb183));replace BK183:=wA.mk (wC (zz71) hb);have NB184_192:=wA.mk ((by rw [hg];exact Nat.ne_of_lt (wJ (g:=gb184) (o:=.cells #[.slice none 0 0] 24 (0,0)) (zz72)):gb184 ≠ gb192));have NB192_184:=wA.mk ((by rw [hg];exact Nat.ne_of_gt (wJ (g:=gb184) (o:=.cells #[.slice none 0 0] 24 (0,0)) (zz72)):gb192 ≠ gb184));replace BK184:=wA.mk (wC (zz72) hb);clear hb hbox hg;have hnb36:=NB183_184.out;have hnc36:=NB184_183.out;have hnb37:=NB183_192.out;have hnc37:=NB192_183.out;obtain ⟨hcz38_0,hcz38_1,hfz38_0,hfz38_1⟩:=zc2 BK183.out))
           go_loopg [62] k3 (fun kq v62 w'=>∃ (x62_4:Int) (x193000_4:List (List Int)) (u193000:Value),v62 = .int .i64 x62_4∧wA (U20.l2 kq l1 a2 l0_0 (l0_0.length:Int) x62_4 x193000_4 = some (r1,r2))∧wA (kq≤k3)∧wA (Kd.S (Kd.slice 3 (Kd.int .i64)) 31 w' w.heap.size (fun _=>True) u193000 x193000_4)∧wA (w'.heap[gb183]? = some (.cells #[(.slice A0_0 l0_0.length c0_0),(.slice A0_1 l0_1.length c0_1)] 33 (0,0)))∧wA (w'.heap[gb184]? = some (.cells #[(.slice none 0 0)] 24 (0,0)))∧wA (w'.heap[gb192]? = some (.cells #[u193000] 24 (0,0)))∧wA (Below w.heap.size w w'))
           case atStart=>exact ⟨(0),(([]:List (List Int))),(.slice none 0 0),(zz1),H',⟨Nat.le_refl _⟩,⟨zz24⟩,⟨zz71⟩,⟨zz72⟩,⟨(have h0_:=BK192;zz12)⟩,⟨zz74⟩⟩
           case round =>
            clear H'
            (try clear hx1);(try clear hx18);clear c25b0;(try clear hcz10_0);(try clear hcz10_1);(try clear hcz17_0);(try clear hcz24_0);(try clear hcz38_0);(try clear hcz38_1);(try clear hfz10_0);(try clear hfz10_1);(try clear hfz17_0);(try clear hfz24_0);(try clear hfz38_0);(try clear hfz38_1);(try clear hx188_0)
            obtain ⟨x62_4,x193000_4,u193000,rfl,HA,HK4,HO_193000,BK183,BK184,BK192,HB⟩:=hrel
            cases gk with
            | zero=>exact absurd HA.out (by simp [U20.l2])
            | succ k4 =>
             have H:=HA.out;clear HA;simp only [U20.l2] at H;replace H:=zzj H;rcases H with ⟨c39,H⟩|⟨c39,H⟩
             ·have c39b0:=decide_eq_true c39;clear c39;replace H:=zzi H;obtain ⟨c40,H⟩:=H;have c40b0:=decide_eq_true c40;clear c40;replace H:=zzi H;obtain ⟨c41,H⟩:=H;have c41b0:=decide_eq_true c41;clear c41;replace H:=zzb H;obtain ⟨t194,A42,H⟩:=H;replace H:=zzi H;obtain ⟨c43,H⟩:=H;have LMc43:=wA.mk c43;clear c43;obtain ⟨y197,hy197⟩:∃ y_:List (List Int),y_ = (x193000_4++[t194]):=⟨_,rfl⟩;replace H:(U20.l2 k4 l1 a2 l0_0 (l0_0.length:Int) (wrap64 (x62_4+1)) y197) = some (r1,r2):=(have h0_:=hy197;zz16);have Ny197:=wA.mk hy197;clear hy197;have H':=wA.mk H;clear H;have p193:0≤(x62_4:Int):=of_decide_eq_true (zz4);have q193:x62_4 < (l0_0.length:Int):=of_decide_eq_true (zz4);obtain ⟨ad193,e193,hx193_0⟩:=Kd.at_int HR0_0.out x62_4 p193 q193
              cases e193
              replace hx193_0:=(HB.out.cell (World.block_lt_of_cell? w _ hx193_0)).trans hx193_0;replace p193:=eq_true p193;replace q193:=eq_true q193
              try go_wp2
              replace HO_193000:=wA.mk (Kd.S_drew HO_193000.out);replace BK183:=wA.mk (wF BK183.out);replace BK184:=wA.mk (wF BK184.out);replace BK192:=wA.mk (wF BK192.out);replace HB:=wA.mk (wR HB.out);refine zC (n:=10) (S:=fun w'=>w'.cell? ⟨gb192,0,none⟩ = some (u193000)) (ds:=[9]) #[false,false,false,false,false,false,false,false,false,false] (zz0) rfl rfl ((wI BK192.out 0).trans rfl) (fun hHeld=>?_);refine yS U20.tab21 U20.bits21 (fun HT_ HW_=>?_)
              generalize wr.drew = w44 at HO_193000 BK183 BK184 BK192 HB hHeld ⊢
              refine zzp 0 66 ?_ #[true,false,false,false,false,false,false,false,false,false] rfl rfl (wU HT_.out (zz0)) (fun _ _ _ h=>h) (Or.inl ⟨zz9,?_⟩) ?_ ?_ ?_;rotate_left
              ·intro w'
               go_simp
               with_reducible rfl
              rotate_left
              ·simp only [zzs]
               rfl
              refine zzp 2 68 ?_ #[true,false,true,false,false,false,false,false,false,false] rfl rfl (wU HT_.out (zz0)) (fun _ _ _ h=>h) (Or.inl ⟨zz9,?_⟩) ?_ ?_ ?_;rotate_left
              ·intro w'
               go_simp
               with_reducible rfl
              rotate_left
              ·simp only [zzs]
               rfl
              refine zzp 3 69 ?_ #[true,false,true,true,false,false,false,false,false,false] rfl rfl (wU HT_.out (zz0)) (fun _ _ _ h=>h) (Or.inl ⟨zz9,?_⟩) ?_ ?_ ?_;rotate_left
              ·intro w'
               go_simp
               with_reducible rfl
              rotate_left
              ·simp only [zzs]
               rfl
              refine zzp 4 70 ?_ #[true,false,true,true,true,false,false,false,false,false] rfl rfl (wU HT_.out (zz0)) (fun _ _ _ h=>h) (Or.inl ⟨zz9,?_⟩) ?_ ?_ ?_;rotate_left
              ·intro w'
               go_simp
               with_reducible rfl
              rotate_left
              ·simp only [zzs]
               rfl
              refine take_ (i:=1) (N:=some 67) (v:=?_) (a':=?_) #[true,true,true,true,true,false,false,false,false,false] rfl rfl (wY HT_.out HW_.out (zz0)) (fun _ _ _ h=>h) (Or.inl ⟨zz9,?_⟩) hHeld ?_ ?_;rotate_left
              ·intro w' s0
               go_simp
               with_reducible rfl
              rotate_left
              ·simp only [zzs]
               rfl
              refine yW (i:=5) (N:=some 71) #[true,true,true,true,true,true,false,false,false,false] rfl rfl (yD HT_.out (zz0)) (zz17) (fun K hK=>?_);refine yN Tryd.func54 (zz0) rfl #[.int .i64 (rd l0_0 x62_4),.slice A1 l1.length c1,.int .i64 a2] (zz9) rfl rfl (zz5) ?_
              with_reducible refine (U24.calls k4 (rd l0_0 x62_4) _ _ l1 a2 t194 _ ?side1 ?side2 A42.out).mono ?_
              (case side1=>exact (have h0_:=HR1;zz206))
              (case side2=>exact HC1.out)
              rintro e w45 ⟨v195,rfl,ho0,hb⟩;refine ⟨_,rfl,?_⟩;replace HO_193000:=wA.mk (Kd.S_elder' (have h0_:=HO_193000;zz26) (Kd.R_base ho0) hb);have HO196:=wA.mk (Kd.R_lower ho0 (wB (zz74)));replace BK183:=wA.mk (wC (zz71) hb);replace BK184:=wA.mk (wC (zz72) hb);replace BK192:=wA.mk (wC (have h0_:=BK192;zz12) hb);replace HB:=wA.mk (wG (zz74) hb)
              (try clear hb)
              (try clear ho0)
              obtain ⟨Ao47,co47,eo47⟩:=Kd.R_slice HO196.out
              (first|subst eo47|(injection eo47 with f1_ f2_ f3_;have f4_:=f1_.symm;have f5_:=f3_.symm;clear f1_ f2_ f3_;subst f4_;subst f5_))
              refine hK.out _ _ ((wI BK192.out 0).trans rfl) (fun hHeld=>?_);clear hK K;refine yJ (a':=?_) ?_ ?_;rotate_left
              ·show Act.put _ (some 71) _ = _
               simp only [zzs]
               rfl
              refine yW (i:=6) (N:=some 72) #[true,true,true,true,true,true,true,false,false,false] rfl rfl (yD HT_.out (zz0)) (zz17) (fun K hK=>?_);refine vZ (w1:=?_) (v:=?_) (zz9) rfl ?_ ?_;rotate_left 2
              ·go_simp
               constructor
               ·rfl
               ·rfl
              refine hK.out _ _ ((wI (wD BK192.out _) 0).trans rfl) (fun hHeld=>?_);clear hK K;refine yJ (a':=?_) ?_ ?_;rotate_left
              ·show Act.put _ (some 72) _ = _
               simp only [zzs]
               rfl
              refine yW (i:=7) (N:=some 73) #[true,true,true,true,true,true,true,true,false,false] rfl rfl (yD HT_.out (zz0)) (zz17) (fun K hK=>?_);refine Kd.S_append_step (Kd.slice 3 (Kd.int .i64)) (w0:=w) w.heap.size (zz9) (.tmp 67) (.tmp 72) 22 31 (.slice none 0 0) 24 rfl Tryd.underlying22 info31 rfl (zz17) (zz15) u193000 x193000_4 t194 [.slice Ao47 t194.length co47] (fun _=>True) (fun k_=>some k_ = (.slice Ao47 t194.length co47:Value).ownBlock) rfl rfl ?aP (fun k_ hk_=>((Kd.R_mono (ok':=fun k_=>((fun _=>True)) k_∧some k_ ≠ (u193000:Value).ownBlock) (Kd.R_apart' (HO196.out) (Kd.S_typed HO_193000.out) (zz17)) (fun k_ hk=>⟨trivial,hk.2⟩))).1 k_ hk_.symm) ?aF ?aO ?aB ?aS ?aL ?_
              (case aP=>exact Kd.M_row (Kd.R_mono (Kd.R_tight rfl (Kd.R_mono (ok':=fun k_=>((fun _=>True)) k_∧some k_ ≠ (u193000:Value).ownBlock) (Kd.R_apart' (HO196.out) (Kd.S_typed HO_193000.out) (zz17)) (fun k_ hk=>⟨trivial,hk.2⟩))) (fun _ h_=>h_)))
              (case aB=>exact (zz74))
              (case aF=>exact zz207)
              (case aO=>exact (have h0_:=HO_193000;zz70))
              (case aS=>exact (wB (zz74)))
              (case aL=>have:=LMc43.out;omega)
              intro v198 w46 ho hb hg hat;rw [← Ny197.out] at ho;replace BK183:=wA.mk (yR (g:=gb183) (o:=.cells #[.slice (some ad193) l0_0.length c0_0,.slice A0_1 l0_1.length c0_1] 33 (0,0)) (zz71) hg (Kd.S_ne HO_193000.out BK183.out (zz17)));replace BK184:=wA.mk (yR (g:=gb184) (o:=.cells #[.slice none 0 0] 24 (0,0)) (zz72) hg (Kd.S_ne HO_193000.out BK184.out (zz17)));replace BK192:=wA.mk (yR (g:=gb192) (o:=.cells #[u193000] 24 (0,0)) (have h0_:=BK192;zz12) hg (Kd.S_ne HO_193000.out BK192.out (zz17)));replace HB:=wA.mk (hb);have HO199:=wA.mk (ho);clear HO_193000 HO196;clear ho hb hg hat;obtain ⟨Ao48,co48,eo48⟩:=Kd.S_slice HO199.out
              (first|subst eo48|(injection eo48 with f1_ f2_ f3_;have f4_:=f1_.symm;have f5_:=f3_.symm;clear f1_ f2_ f3_;subst f4_;subst f5_))
              refine hK.out _ _ ((wI BK192.out 0).trans rfl) (fun hHeld=>?_);clear hK K;refine yJ (a':=?_) ?_ ?_;rotate_left
              ·show Act.put _ (some 73) _ = _
               simp only [zzs]
               rfl
              refine zzp 8 74 ?_ #[true,true,true,true,true,true,true,true,true,false] rfl rfl (wU HT_.out (zz0)) (fun _ _ _ h=>h) (Or.inl ⟨zz9,?_⟩) ?_ ?_ ?_;rotate_left
              ·intro w'
               go_simp
               with_reducible rfl
              rotate_left
              ·simp only [zzs]
               rfl
              refine last_ (i:=9) (N:=none) #[true,true,true,true,true,true,true,true,true,true] rfl rfl (yD HT_.out (zz0)) (zz17) (fun K hK=>?_);have hs49:w46.cell? ⟨gb192,0,none⟩ = some (u193000):=(wI BK192.out 0).trans rfl;have hfs49:=yU BK192.out 0;have hns49_0:=NB183_192.out;have hns49_1:=NB184_192.out;have hms49_0:=NB192_183.out;have hms49_1:=NB192_184.out;refine qO (w1:=?_) (zz9) rfl ?_ ?_;rotate_left
              ·go_simp
               rfl
              refine hK.out _ _ ?_;clear hK K;refine zN (zL HT_.out (zz0)) ?_
              try go_wp2
              go_roundg k4
              case measure=>have:=HJ5.out;have:=HK2.out;have:=HK3.out;have:=HK4.out;omega
              case rel=>exact ⟨(wrap64 (x62_4+1)),(y197),(.slice Ao48 y197.length co48),(zz1),H',⟨by have:=HJ5.out;have:=HK2.out;have:=HK3.out;have:=HK4.out;omega⟩,⟨by (with_reducible repeat (first|apply Kd.S_alloc|apply Kd.S_drewN|apply Kd.S_drew));exact Kd.S_mono (Kd.S_far (p:=⟨gb192,0,none⟩) (Kd.S_types HO199.out BK192.out (zz17)) (fun _ hk=>hk.2) (.slice Ao48 y197.length co48)) (fun _ hk=>trivial)⟩,⟨by (with_reducible repeat (first|refine wE ?_ _|refine wF ?_|refine wD ?_ _));refine wN ?_ NB183_192.out _;(with_reducible repeat (first|refine wE ?_ _|refine wF ?_|refine wD ?_ _));exact BK183.out⟩,⟨by (with_reducible repeat (first|refine wE ?_ _|refine wF ?_|refine wD ?_ _));refine wN ?_ NB184_192.out _;(with_reducible repeat (first|refine wE ?_ _|refine wF ?_|refine wD ?_ _));exact BK184.out⟩,⟨by (with_reducible repeat (first|refine wE ?_ _|refine wF ?_|refine wD ?_ _));refine wP (cs:=#[u193000]) ?_ 0 _ rfl;(with_reducible repeat (first|refine wE ?_ _|refine wF ?_|refine wD ?_ _));exact BK192.out⟩,⟨zz74⟩⟩
             ·have c39b0:=decide_eq_false c39;clear c39;simp only [Option.some.injEq,Prod.mk.injEq] at H;obtain ⟨rfl,rfl⟩:=H;have hnb50:=NB192_183.out;have hnc50:=NB183_192.out;have hnb51:=NB192_184.out;have hnc51:=NB184_192.out;obtain ⟨hcz52_0,hfz52_0⟩:=zc1 BK192.out;obtain ⟨Ao53,co53,eo53⟩:=Kd.S_slice HO_193000.out;subst eo53;have hnb54:=NB184_183.out;have hnc54:=NB183_184.out;obtain ⟨hcz55_0,hfz55_0⟩:=zc1 BK184.out
              go_wp2
              refine bodyPost_ret (wZ rfl _ _ gb184 24 #[.slice Ao53 x193000_4.length co53] (0,0) _ rfl (have h0_:=BK184;zz23) Tryd.underlying24 rfl (zz0)) rfl ?_
              exact ⟨_,zz14,by (with_reducible repeat (first|apply Kd.S_alloc|apply Kd.S_drewN|apply Kd.S_drew));exact Kd.S_mono (Kd.S_far (p:=⟨gb184,0,none⟩) (Kd.S_types HO_193000.out BK184.out (zz17)) (fun _ hk=>hk.2) (.slice Ao53 x193000_4.length co53)) (fun _ hk=>trivial),zz74⟩
 ·have c5b0:=beq_eq_false_iff_ne.mpr c5;have c5b1:=bne_iff_ne.mpr c5;simp only [Option.some.injEq,Prod.mk.injEq] at H;obtain ⟨rfl,rfl⟩:=H;go_enter Tryd.func24,Tryd.ntmps24
  go_wp2_with (first|((with_reducible refine wK (N:=3) rfl ?_);refine wM ?hg (N:=3) ?hd (cs:=#[.slice A0_0 l0_0.length c0_0,.slice A0_1 l0_1.length c0_1]) (t:=33) ?hr ?_;(case hd=>rfl);(case hg=>rfl);(case hr=>exact zz205);intro gb183 hg w56 hbox hb;have BK183:=wA.mk (hbox);have GW183:=wA.mk ((by rw [hg];exact (wB (zz10)):w.heap.size≤gb183));have GE183:=wA.mk ((by rw [hg];exact (wB (zz10)):w.heap.size≤gb183));replace HB:=wA.mk (wG (zz10) hb);clear hb hbox hg)|((with_reducible refine wK (N:=6) rfl ?_);refine wM ?hg (N:=6) ?hd (cs:=#[.slice none 0 0]) (t:=24) ?hr ?_;(case hd=>rfl);(case hg=>rfl);(case hr=>exact zz205);intro gb184 hg w57 hbox hb;have BK184:=wA.mk (hbox);have GW184:=wA.mk ((by rw [hg];exact (wB (have h0_:=GE183;zz13)):w.heap.size≤gb184));have GE184:=wA.mk ((by rw [hg];exact (wB (have h0_:=GE183;zz13)):w.heap.size≤gb184));replace HB:=wA.mk (wG (have h0_:=GE183;zz13) hb);have NB183_184:=wA.mk ((by rw [hg];exact Nat.ne_of_lt (wJ (g:=gb183) (o:=.cells #[.slice A0_0 l0_0.length c0_0,.slice A0_1 l0_1.length c0_1] 33 (0,0)) (zz71)):gb183 ≠ gb184));have NB184_183:=wA.mk ((by rw [hg];exact Nat.ne_of_gt (wJ (g:=gb183) (o:=.cells #[.slice A0_0 l0_0.length c0_0,.slice A0_1 l0_1.length c0_1] 33 (0,0)) (zz71)):gb184 ≠ gb183));replace BK183:=wA.mk (wC (zz71) hb);clear hb hbox hg;have hnb58:=NB183_184.out;have hnc58:=NB184_183.out;obtain ⟨hcz59_0,hcz59_1,hfz59_0,hfz59_1⟩:=zc2 BK183.out)|((with_reducible refine wH (f:=49) rfl ?_);refine wO (some 16) rfl rfl Tryd.func49 (zz0) rfl #[.agg #[.slice A0_0 l0_0.length c0_0,.slice A0_1 l0_1.length c0_1]] rfl (zz5) ?_;(with_reducible refine (U5.calls k _ _ l0_0 _ _ l0_1 t185 _ ?_ ?_ ?_ ?_ A4.out).mono ?_);exact zz210;exact zz211;exact zz216;exact zz217;rintro e w60 ⟨rfl,hb⟩;refine ⟨_,rfl,?_⟩;replace BK183:=wA.mk (wC (zz71) hb);replace BK184:=wA.mk (wC (zz72) hb);replace HB:=wA.mk (wG (zz73) hb);(try clear hb);obtain ⟨hcz61_0,hfz61_0⟩:=zc1 BK184.out))
  refine bodyPost_ret (wZ rfl _ _ gb184 24 #[.slice none 0 0] (0,0) _ rfl (have h0_:=BK184;zz23) Tryd.underlying24 rfl (zz0)) rfl ?_
  exact ⟨_,zz14,zz24,zz73⟩
end Go.Proofs.YtfkmbjkmlfnapaaDoor.QA
