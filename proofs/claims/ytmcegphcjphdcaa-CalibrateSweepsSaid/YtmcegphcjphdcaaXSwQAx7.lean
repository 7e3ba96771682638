import Derived.Test.YtmcegphcjphdcaaXSwQAx0
import Derived.Test.YtmcegphcjphdcaaXSwQAx6
namespace Go.Proofs.Ytmcegphcjphdcaa.QA
open Go.RowKit Go.Proofs.YtmcegphcjphdcaaW.PrintWords Go.Proofs.YtmcegphcjphdcaaW.PrintLast Go.Proofs.YtmcegphcjphdcaaW.PrintMore
attribute [local go_sem] max2_int min2_int max_two min_two max_three min_three max_four min_four
set_option linter.unusedVariables false
set_option linter.unusedSimpArgs false
mutual
def U23.j0:Nat→Int→Bool→List (List Int)→Option (Int)
 | 0,_,_,_=>none
 | k+1,x1,x20,x226000=>if x20 = true then (some 1) else (if 0 < (x226000.length:Int) then (if ((rd_L1 x226000 0).length:Int) < 2 then (U23.j1 k x1 ((rd_L1 x226000 0).length:Int) true x226000) else (U23.j1 k x1 ((rd_L1 x226000 0).length:Int) (decide (((rd_L1 x226000 0).length:Int) > 6)) x226000)) else (none))
def U23.j1:Nat→Int→Int→Bool→List (List Int)→Option (Int)
 | 0,_,_,_,_=>none
 | k+1,x1,x5,x31,x226000=>if x31 = true then (some 3) else (U23.l0 k x1 x5 0 x226000)
def U23.l0:Nat→Int→Int→Int→List (List Int)→Option (Int)
 | 0,_,_,_,_=>none
 | k+1,x1,x5,x6,x226000=>if x6 < x1 then (if 0≤x6 then (if x6 < (x226000.length:Int) then ((U24.f k (rd_L1 x226000 x6) x5).bind fun t228=>(if t228 = 0 then (U23.l0 k x1 x5 (wrap64 (x6+1)) x226000) else (some t228))) else (none)) else (none)) else (some 0)
end
def U23.f (k:Nat) (l0_0:List (List Int)) (a1:Int):Option (Int):=if a1 < 1 then (U23.j0 k a1 true l0_0) else (if a1 > 21 then (U23.j0 k a1 true l0_0) else (U23.j0 k a1 ((l0_0.length:Int) != a1) l0_0))
theorem zm7_0 {P:Prop} (h:P:=by repeat' first|(with_reducible first|exact ih0 ..|exact ih1 ..|exact ih2 ..|exact U24.mono ..|exact LeO.refl _|exact LeO.none _|refine LeO.ite ?_ ?_|refine LeO.bind ?_ (fun _=>?_))|exact ih0 ..|exact ih1 ..|exact ih2 ..|exact U24.mono ..|exact LeO.none _|refine LeO.ite ?_ ?_|refine LeO.bind ?_ (fun _=>?_)):P:=h
theorem U23.mono_l:∀ k,(∀ y0 y1 y2,LeO (U23.j0 k y0 y1 y2) (U23.j0 (k+1) y0 y1 y2))∧(∀ y0 y1 y2 y3,LeO (U23.j1 k y0 y1 y2 y3) (U23.j1 (k+1) y0 y1 y2 y3))∧(∀ y0 y1 y2 y3,LeO (U23.l0 k y0 y1 y2 y3) (U23.l0 (k+1) y0 y1 y2 y3))
 | 0=>⟨fun _ _ _ r h=>by simp [U23.j0] at h,fun _ _ _ _ r h=>by simp [U23.j1] at h,fun _ _ _ _ r h=>by simp [U23.l0] at h⟩
 | k+1=>by
  obtain ⟨ih0,ih1,ih2⟩:=U23.mono_l k;refine ⟨?_,?_,?_⟩
  ·intro y0 y1 y2;unfold U23.j0
   exact zm7_0
  ·intro y0 y1 y2 y3;unfold U23.j1
   exact zm7_0
  ·intro y0 y1 y2 y3;unfold U23.l0
   exact zm7_0
theorem U23.mono:∀ a0 a1 k,LeO (U23.f k a0 a1) (U23.f (k+1) a0 a1):=by
 intro a0 a1 k;obtain ⟨ih0,ih1,ih2⟩:=U23.mono_l k;unfold U23.f
 exact zm7_0
set_option maxHeartbeats 8000000 in
set_option maxRecDepth 100000 in
theorem U23.calls (k:Nat) (A0_0:Option Addr) (c0_0:Nat) (l0_0:List (List Int)) (a1:Int) (r:Int) (w:World) (hr0_0:Kd.C (Kd.slice 3 (Kd.int .i64)) w A0_0 l0_0.length l0_0) (hc0_0:l0_0.length≤c0_0) (h:U23.f k l0_0 a1 = some r) :
  Calls Try.prog 57 #[.agg #[.slice A0_0 l0_0.length c0_0],.int .i64 a1] w fun e w'=>e = .returned (.int .i64 r)∧Below w.heap.size w w':=by
 have hu56:=Try.underlying56;have HR0_0:=Aside0.mk hr0_0;have HC0_0:=Aside0.mk hc0_0;clear hr0_0 hc0_0;have HB:=Aside0.mk (Below.refl w.heap.size w);have H:(if a1 < 1 then (U23.j0 k a1 true l0_0) else (if a1 > 21 then (U23.j0 k a1 true l0_0) else (U23.j0 k a1 ((l0_0.length:Int) != a1) l0_0))) = some r:=h;clear h;have HC3:=Aside0.mk H;clear H;go_enter Try.func57,Try.ntmps57
 go_upto_region 1 with (first|((with_reducible refine gate_dst (N:=2) rfl ?_);(try (refine gate_guard (zz20) ?_;dsimp only));refine box_event ?hg (N:=2) ?hd (cs:=#[.slice A0_0 l0_0.length c0_0]) (t:=56) ?hr ?_;(case hd=>rfl);(case hg=>rfl);(case hr=>exact zz109);intro gb225 hg w4 hbox hb;have BK225:=Aside0.mk (hbox);have GW225:=Aside0.mk ((by rw [hg];exact (below_size (zz5)):w.heap.size≤gb225));have GE225:=Aside0.mk ((by rw [hg];exact (below_size (zz5)):w.heap.size≤gb225));replace HB:=Aside0.mk (below_step (zz5) hb);clear hb hbox hg))
 (try simp only [Act.put,List.setIfInBounds_toArray,List.set_cons_zero,List.set_cons_succ])
 go_cut [20] (fun v20 wc=>∃ (kq:Nat) (x20_2:Bool),v20 = .bool x20_2∧Aside0 (U23.j0 kq a1 x20_2 l0_0 = some r)∧Aside0 (kq≤k)∧Aside0 (wc.heap[gb225]? = some (.cells #[(.slice A0_0 l0_0.length c0_0)] 56 (0,0)))∧Aside0 (Below w.heap.size w wc))
 case first =>
  have H:=HC3.out;clear HC3;replace H:=zzj H;rcases H with ⟨c5,H⟩|⟨c5,H⟩
  ·have c5b0:=decide_eq_true c5;clear c5
   (first|rw [c5b0]|rw [c5b1]|(simp only [i64_w,i32_w];rw [c5b0])|skip)
   have H':=Aside0.mk H;clear H
   go_wp2
   go_meet
   case rel=>exact ⟨_,(true),(zz2),H',⟨zz21⟩,⟨(have h0_:=BK225;zz9)⟩,⟨(have h0_:=GE225;zz7)⟩⟩
  ·have c5b0:=decide_eq_false c5;clear c5
   (first|rw [c5b0]|rw [c5b1]|(simp only [i64_w,i32_w];rw [c5b0])|skip)
   replace H:=zzj H;rcases H with ⟨c6,H⟩|⟨c6,H⟩
   ·have c6b0:=decide_eq_true c6;clear c6;have H':=Aside0.mk H;clear H
    go_wp2
    go_meet
    case rel=>exact ⟨_,(true),(zz2),H',⟨zz21⟩,⟨(have h0_:=BK225;zz9)⟩,⟨(have h0_:=GE225;zz7)⟩⟩
   ·have c6b0:=decide_eq_false c6;clear c6;have H':=Aside0.mk H;clear H;obtain ⟨hcz7_0,hfz7_0⟩:=zc1 BK225.out
    go_wp2
    go_meet
    case rel=>exact ⟨_,(((l0_0.length:Int) != a1)),(zz2),H',⟨zz21⟩,⟨(have h0_:=BK225;zz9)⟩,⟨(have h0_:=GE225;zz7)⟩⟩
 case rest =>
  clear HC3;obtain ⟨kq,x20_2,rfl,HA,HJ2,BK225,HB⟩:=hcut
  cases kq with
  | zero=>exact absurd HA.out (by simp [U23.j0])
  | succ kj2 =>
   have H:=HA.out;clear HA;simp only [U23.j0] at H;by_cases c8:x20_2 = true
   ·subst c8;have H1:(some 1) = some r:=zz10;clear H;have H:=H1;clear H1;obtain rfl:=Option.some.inj H
    go_wp2
    go_ret
    exact ⟨zz6,(have h0_:=GE225;zz7)⟩
   ·replace c8:=Bool.eq_false_iff.mpr c8;subst c8;have H1:(if 0 < (l0_0.length:Int) then (if ((rd_L1 l0_0 0).length:Int) < 2 then (U23.j1 kj2 a1 ((rd_L1 l0_0 0).length:Int) true l0_0) else (U23.j1 kj2 a1 ((rd_L1 l0_0 0).length:Int) (decide (((rd_L1 l0_0 0).length:Int) > 6)) l0_0)) else (none)) = some r:=zz13;clear H;have H:=H1;clear H1;replace H:=zzi H;obtain ⟨c9,H⟩:=H;have c9b0:=decide_eq_true c9;have c9b1:decide (0 < l0_0.length) = true:=decide_eq_true (zz4);clear c9;have HC10:=Aside0.mk H;clear H;obtain ⟨hcz11_0,hfz11_0⟩:=zc1 BK225.out;have p226:0≤(0:Int):=(zz4);have q226:0 < (l0_0.length:Int):=of_decide_eq_true (zz11);obtain ⟨ad226,A226_0,c226_0,e226,hx226_0,hl226_0,hi226_0⟩:=at_L1 HR0_0.out 0 p226 q226
    cases e226
    have qi226:(0 < l0_0.length) = True:=eq_true (zz4)
    (try rw [show ((0:Int)).toNat = 0 from rfl] at hx226_0)
    (try rw [Addr.add_zero'] at hx226_0)
    replace hx226_0:=(HB.out.cell (World.block_lt_of_cell? w _ hx226_0)).trans hx226_0;have HR226_0:=Aside0.mk hi226_0;have HC226_0:=Aside0.mk hl226_0;clear hi226_0 hl226_0;replace p226:=eq_true p226;replace q226:=eq_true q226
    go_upto_region 4 with (fail)
    go_cut [31] (fun v31 wc=>∃ (kq:Nat) (x31_9:Bool),v31 = .bool x31_9∧Aside0 (U23.j1 kq a1 ((rd_L1 l0_0 0).length:Int) x31_9 l0_0 = some r)∧Aside0 (kq≤kj2)∧Aside0 (wc.heap[gb225]? = some (.cells #[(.slice (some ad226) l0_0.length c0_0)] 56 (0,0)))∧Aside0 (Below w.heap.size w wc))
    case first =>
     have H:=HC10.out;clear HC10;replace H:=zzj H;rcases H with ⟨c12,H⟩|⟨c12,H⟩
     ·have c12b0:=decide_eq_true c12;have c12b1:decide ((rd_L1 l0_0 0).length < 2) = true:=decide_eq_true (zz4);clear c12
      (first|rw [c12b0]|rw [c12b1]|(simp only [i64_w,i32_w];rw [c12b0])|skip)
      have H':=Aside0.mk H;clear H
      go_wp2
      go_meet
      case rel=>exact ⟨_,(true),(zz2),H',⟨(have h0_:=HJ2;zz36)⟩,⟨(have h0_:=BK225;zz9)⟩,⟨(have h0_:=GE225;zz7)⟩⟩
     ·have c12b0:=decide_eq_false c12;have c12b1:decide ((rd_L1 l0_0 0).length < 2) = false:=decide_eq_false (zz4);clear c12
      (first|rw [c12b0]|rw [c12b1]|(simp only [i64_w,i32_w];rw [c12b0])|skip)
      have H':=Aside0.mk H;clear H
      go_wp2
      go_meet
      case rel=>exact ⟨_,(decide (((rd_L1 l0_0 0).length:Int) > 6)),(zz2),H',⟨(have h0_:=HJ2;zz36)⟩,⟨(have h0_:=BK225;zz9)⟩,⟨(have h0_:=GE225;zz7)⟩⟩
    case rest =>
     clear HC10;(try clear c8);clear c9b0 c9b1 p226 q226;(try clear hcz11_0);(try clear hcz7_0);(try clear hfz11_0);(try clear hfz7_0);(try clear hx226_0);obtain ⟨kq,x31_9,rfl,HA,HJ9,BK225,HB⟩:=hcut
     cases kq with
     | zero=>exact absurd HA.out (by simp [U23.j1])
     | succ kj9 =>
      have H:=HA.out;clear HA;simp only [U23.j1] at H;by_cases c13:x31_9 = true
      ·subst c13;have H1:(some 3) = some r:=zz10;clear H;have H:=H1;clear H1;obtain rfl:=Option.some.inj H
       go_wp2
       go_ret
       exact ⟨zz6,(have h0_:=GE225;zz7)⟩
      ·replace c13:=Bool.eq_false_iff.mpr c13;subst c13;have H1:(U23.l0 kj9 a1 ((rd_L1 l0_0 0).length:Int) 0 l0_0) = some r:=zz13;clear H;have H:=H1;clear H1;have H':=Aside0.mk H;clear H
       go_wp2
       go_loopg [6] kj9 (fun kq v6 w'=>∃ (x6_3:Int),v6 = .int .i64 x6_3∧Aside0 (U23.l0 kq a1 ((rd_L1 l0_0 0).length:Int) x6_3 l0_0 = some r)∧Aside0 (kq≤kj9)∧Aside0 (w'.heap[gb225]? = some (.cells #[(.slice (some ad226) l0_0.length c0_0)] 56 (0,0)))∧Aside0 (Below w.heap.size w w'))
       case atStart=>exact ⟨(0),(zz2),H',⟨Nat.le_refl _⟩,⟨(have h0_:=BK225;zz9)⟩,⟨(have h0_:=GE225;zz7)⟩⟩
       case round =>
        clear H'
        (try clear hx2);(try clear qi2);(try clear c13);(try clear hcz11_0);(try clear hcz7_0);(try clear hfz11_0);(try clear hfz7_0);(try clear hx226_0)
        obtain ⟨x6_3,rfl,HA,HK3,BK225,HB⟩:=hrel
        cases gk with
        | zero=>exact absurd HA.out (by simp [U23.l0])
        | succ k3 =>
         have H:=HA.out;clear HA;simp only [U23.l0] at H;replace H:=zzj H;rcases H with ⟨c14,H⟩|⟨c14,H⟩
         ·have c14b0:=decide_eq_true c14;clear c14;replace H:=zzi H;obtain ⟨c15,H⟩:=H;have c15b0:=decide_eq_true c15;clear c15;replace H:=zzi H;obtain ⟨c16,H⟩:=H;have c16b0:=decide_eq_true c16;clear c16;replace H:=zzb H;obtain ⟨t228,A17,H⟩:=H;replace H:=zzj H;rcases H with ⟨c18,H⟩|⟨c18,H⟩
          ·have c18b0:=beq_iff_eq.mpr c18;have c18b1:=bne_eq_false_iff_eq.mpr c18;clear c18;have H':=Aside0.mk H;clear H;obtain ⟨hcz19_0,hfz19_0⟩:=zc1 BK225.out;have p227:0≤(x6_3:Int):=of_decide_eq_true (zz11);have q227:x6_3 < (l0_0.length:Int):=of_decide_eq_true (zz11);obtain ⟨ad227,A227_0,c227_0,e227,hx227_0,hl227_0,hi227_0⟩:=at_L1 HR0_0.out x6_3 p227 q227;obtain rfl:ad226 = ad227:=(by injection e227);replace hx227_0:=(HB.out.cell (World.block_lt_of_cell? w _ hx227_0)).trans hx227_0;have HR227_0:=Aside0.mk hi227_0;have HC227_0:=Aside0.mk hl227_0;clear hi227_0 hl227_0;replace p227:=eq_true p227;replace q227:=eq_true q227
           go_wp2_with (first|((with_reducible refine gate_callee (f:=72) rfl ?_);refine goesL_ (some 43) rfl rfl Try.func72 (zz0) rfl #[.slice A227_0 (rd_L1 l0_0 x6_3).length c227_0,.int .i64 ((rd_L1 l0_0 0).length:Int)] rfl (zz19) ?_;(with_reducible refine (U24.calls k3 _ _ (rd_L1 l0_0 x6_3) ((rd_L1 l0_0 0).length:Int) t228 _ ?_ ?_ A17.out).mono ?_);(exact (have h0_:=HR227_0;zz110));exact HC227_0.out;rintro e w' ⟨rfl,⟨nd,rfl⟩⟩;refine ⟨_,rfl,?_⟩))
           go_roundg k3
           case measure=>have:=HJ2.out;have:=HJ9.out;have:=HK3.out;omega
           case rel=>exact ⟨(wrap64 (x6_3+1)),(zz2),H',⟨by have:=HJ2.out;have:=HJ9.out;have:=HK3.out;omega⟩,⟨(have h0_:=BK225;zz9)⟩,⟨(have h0_:=GE225;zz7)⟩⟩
          ·have c18b0:=beq_eq_false_iff_ne.mpr c18;have c18b1:=bne_iff_ne.mpr c18;obtain rfl:=Option.some.inj H;obtain ⟨hcz20_0,hfz20_0⟩:=zc1 BK225.out;have p227:0≤(x6_3:Int):=of_decide_eq_true (zz11);have q227:x6_3 < (l0_0.length:Int):=of_decide_eq_true (zz11);obtain ⟨ad227,A227_0,c227_0,e227,hx227_0,hl227_0,hi227_0⟩:=at_L1 HR0_0.out x6_3 p227 q227;obtain rfl:ad226 = ad227:=(by injection e227);replace hx227_0:=(HB.out.cell (World.block_lt_of_cell? w _ hx227_0)).trans hx227_0;have HR227_0:=Aside0.mk hi227_0;have HC227_0:=Aside0.mk hl227_0;clear hi227_0 hl227_0;replace p227:=eq_true p227;replace q227:=eq_true q227
           go_wp2_with (first|((with_reducible refine gate_callee (f:=72) rfl ?_);refine goesL_ (some 43) rfl rfl Try.func72 (zz0) rfl #[.slice A227_0 (rd_L1 l0_0 x6_3).length c227_0,.int .i64 ((rd_L1 l0_0 0).length:Int)] rfl (zz19) ?_;(with_reducible refine (U24.calls k3 _ _ (rd_L1 l0_0 x6_3) ((rd_L1 l0_0 0).length:Int) t228 _ ?_ ?_ A17.out).mono ?_);(exact (have h0_:=HR227_0;zz110));exact HC227_0.out;rintro e w' ⟨rfl,⟨nd,rfl⟩⟩;refine ⟨_,rfl,?_⟩))
           go_ret
           exact ⟨zz6,(have h0_:=GE225;zz7)⟩
         ·have c14b0:=decide_eq_false c14;clear c14;obtain rfl:=Option.some.inj H
          go_wp2
          go_ret
          exact ⟨zz6,(have h0_:=GE225;zz7)⟩
def U36.l0:Nat→List (S56)→Int→Int→Int→Option (Int)
 | 0,_,_,_,_=>none
 | k+1,x0,x1,x2,x7=>if x7 < (x0.length:Int) then (if x7 = x2 then (U36.l0 k x0 x1 x2 (wrap64 (x7+1))) else (if 0≤x7 then ((U23.f k ((rd_T56 x0 x7).f0) x1).bind fun t230=>(if t230 = 0 then (U36.l0 k x0 x1 x2 (wrap64 (x7+1))) else (some t230))) else (none))) else (some 0)
def U36.f (k:Nat) (l0:List (S56)) (a1:Int) (a2:Int):Option (Int):=U36.l0 k l0 a1 a2 0
theorem zm7_1 {P:Prop} (h:P:=by repeat' first|(with_reducible first|exact ih0 ..|exact U23.mono ..|exact LeO.refl _|exact LeO.none _|refine LeO.ite ?_ ?_|refine LeO.bind ?_ (fun _=>?_))|exact ih0 ..|exact U23.mono ..|exact LeO.none _|refine LeO.ite ?_ ?_|refine LeO.bind ?_ (fun _=>?_)):P:=h
theorem U36.mono_l:∀ k,(∀ y0 y1 y2 y3,LeO (U36.l0 k y0 y1 y2 y3) (U36.l0 (k+1) y0 y1 y2 y3))
 | 0=>fun _ _ _ _ r h=>by simp [U36.l0] at h
 | k+1=>by
  have ih0:=U36.mono_l k
  ·intro y0 y1 y2 y3;unfold U36.l0
   exact zm7_1
theorem U36.mono:∀ a0 a1 a2 k,LeO (U36.f k a0 a1 a2) (U36.f (k+1) a0 a1 a2):=by
 intro a0 a1 a2 k;have ih0:=U36.mono_l k;unfold U36.f
 exact zm7_1
set_option maxHeartbeats 8000000 in
set_option maxRecDepth 100000 in
theorem U36.calls (k:Nat) (A0:Option Addr) (c0:Nat) (l0:List (S56)) (a1:Int) (a2:Int) (r:Int) (w:World) (hr0:Kd.C k56 w A0 l0.length l0) (hc0:l0.length≤c0) (h:U36.f k l0 a1 a2 = some r) :
  Calls Try.prog 33 #[.slice A0 l0.length c0,.int .i64 a1,.int .i64 a2] w fun e w'=>e = .returned (.int .i64 r)∧Below w.heap.size w w':=by
 have hu56:=Try.underlying56;have HR0:=Aside0.mk hr0;have HC0:=Aside0.mk hc0;clear hr0 hc0;have HB:=Aside0.mk (Below.refl w.heap.size w);have H:(U36.l0 k l0 a1 a2 0) = some r:=h;clear h;have H':=Aside0.mk H;clear H;go_enter Try.func33,Try.ntmps33
 go_wp2
 go_loopg [7] k (fun kq v7 w'=>∃ (x7_1:Int),v7 = .int .i64 x7_1∧Aside0 (U36.l0 kq l0 a1 a2 x7_1 = some r)∧Aside0 (kq≤k)∧Aside0 (Below w.heap.size w w'))
 case atStart=>exact ⟨(0),(zz2),H',⟨Nat.le_refl _⟩,⟨zz5⟩⟩
 case round =>
  clear H';obtain ⟨x7_1,rfl,HA,HK1,HB⟩:=hrel
  cases gk with
  | zero=>exact absurd HA.out (by simp [U36.l0])
  | succ k1 =>
   have H:=HA.out;clear HA;simp only [U36.l0] at H;replace H:=zzj H;rcases H with ⟨c4,H⟩|⟨c4,H⟩
   ·have c4b0:=decide_eq_true c4;clear c4;replace H:=zzj H;rcases H with ⟨c5,H⟩|⟨c5,H⟩
    ·have c5b0:=beq_iff_eq.mpr c5;have c5b1:=bne_eq_false_iff_eq.mpr c5;clear c5;have H':=Aside0.mk H;clear H
     go_wp2
     go_roundg k1
     case measure=>have:=HK1.out;omega
     case rel=>exact ⟨(wrap64 (x7_1+1)),(zz2),H',⟨zz12⟩,⟨zz5⟩⟩
    ·have c5b0:=beq_eq_false_iff_ne.mpr c5;have c5b1:=bne_iff_ne.mpr c5;replace H:=zzi H;obtain ⟨c6,H⟩:=H;have c6b0:=decide_eq_true c6;clear c6;replace H:=zzb H;obtain ⟨t230,A7,H⟩:=H;replace H:=zzj H;rcases H with ⟨c8,H⟩|⟨c8,H⟩
     ·have c8b0:=beq_iff_eq.mpr c8;have c8b1:=bne_eq_false_iff_eq.mpr c8;clear c8;have H':=Aside0.mk H;clear H;have p229:0≤(x7_1:Int):=of_decide_eq_true (zz11);have q229:x7_1 < (l0.length:Int):=of_decide_eq_true (zz11);obtain ⟨ad229,A229_0,c229_0,e229,hx229_0,hl229_0,hi229_0⟩:=at_T56 HR0.out x7_1 p229 q229
      cases e229
      replace hx229_0:=(HB.out.cell (World.block_lt_of_cell? w _ hx229_0)).trans hx229_0;have HR229_0:=Aside0.mk hi229_0;have HC229_0:=Aside0.mk hl229_0;clear hi229_0 hl229_0;replace p229:=eq_true p229;replace q229:=eq_true q229
      go_wp2_with (first|((with_reducible refine gate_callee (f:=57) rfl ?_);refine goesL_ (some 23) rfl rfl Try.func57 (zz0) rfl #[.agg #[.slice A229_0 ((rd_T56 l0 x7_1).f0).length c229_0],.int .i64 a1] rfl (zz19) ?_;(with_reducible refine (U23.calls k1 _ _ ((rd_T56 l0 x7_1).f0) a1 t230 _ ?_ ?_ A7.out).mono ?_);(exact (have h0_:=HR229_0;zz110));exact HC229_0.out;rintro e w9 ⟨rfl,hb⟩;refine ⟨_,rfl,?_⟩;replace HB:=Aside0.mk (below_step (zz5) hb);(try clear hb)))
      go_roundg k1
      case measure=>have:=HK1.out;omega
      case rel=>exact ⟨(wrap64 (x7_1+1)),(zz2),H',⟨zz12⟩,⟨zz5⟩⟩
     ·have c8b0:=beq_eq_false_iff_ne.mpr c8;have c8b1:=bne_iff_ne.mpr c8;obtain rfl:=Option.some.inj H;have p229:0≤(x7_1:Int):=of_decide_eq_true (zz11);have q229:x7_1 < (l0.length:Int):=of_decide_eq_true (zz11);obtain ⟨ad229,A229_0,c229_0,e229,hx229_0,hl229_0,hi229_0⟩:=at_T56 HR0.out x7_1 p229 q229
      cases e229
      replace hx229_0:=(HB.out.cell (World.block_lt_of_cell? w _ hx229_0)).trans hx229_0;have HR229_0:=Aside0.mk hi229_0;have HC229_0:=Aside0.mk hl229_0;clear hi229_0 hl229_0;replace p229:=eq_true p229;replace q229:=eq_true q229
      go_wp2_with (first|((with_reducible refine gate_callee (f:=57) rfl ?_);refine goesL_ (some 23) rfl rfl Try.func57 (zz0) rfl #[.agg #[.slice A229_0 ((rd_T56 l0 x7_1).f0).length c229_0],.int .i64 a1] rfl (zz19) ?_;(with_reducible refine (U23.calls k1 _ _ ((rd_T56 l0 x7_1).f0) a1 t230 _ ?_ ?_ A7.out).mono ?_);(exact (have h0_:=HR229_0;zz110));exact HC229_0.out;rintro e w10 ⟨rfl,hb⟩;refine ⟨_,rfl,?_⟩;replace HB:=Aside0.mk (below_step (zz5) hb);(try clear hb)))
      go_ret
      exact ⟨zz6,zz5⟩
   ·have c4b0:=decide_eq_false c4;clear c4;obtain rfl:=Option.some.inj H
    go_wp2
    go_ret
    exact ⟨zz6,zz5⟩
def U22.f (l0_0:List (List Int)):Option (Int):=if (l0_0.length:Int) = 0 then (some 0) else (if 0 < (l0_0.length:Int) then (some ((rd_L1 l0_0 0).length:Int)) else (none))
set_option maxHeartbeats 8000000 in
set_option maxRecDepth 100000 in
theorem U22.calls (A0_0:Option Addr) (c0_0:Nat) (l0_0:List (List Int)) (r:Int) (w:World) (hr0_0:Kd.C (Kd.slice 3 (Kd.int .i64)) w A0_0 l0_0.length l0_0) (hc0_0:l0_0.length≤c0_0) (h:U22.f l0_0 = some r) :
  Calls Try.prog 34 #[.agg #[.slice A0_0 l0_0.length c0_0]] w fun e w'=>e = .returned (.int .i64 r)∧Below w.heap.size w w':=by
 have hu56:=Try.underlying56;have HR0_0:=Aside0.mk hr0_0;have HC0_0:=Aside0.mk hc0_0;clear hr0_0 hc0_0;have HB:=Aside0.mk (Below.refl w.heap.size w);have H:(if (l0_0.length:Int) = 0 then (some 0) else (if 0 < (l0_0.length:Int) then (some ((rd_L1 l0_0 0).length:Int)) else (none))) = some r:=h;clear h;replace H:=zzj H;rcases H with ⟨c2,H⟩|⟨c2,H⟩
 ·have c2b0:=beq_iff_eq.mpr c2;have c2b1:=bne_eq_false_iff_eq.mpr c2;clear c2;obtain rfl:=Option.some.inj H;go_enter Try.func34,Try.ntmps34
  go_wp2_with (first|((with_reducible refine gate_dst (N:=1) rfl ?_);refine box_event ?hg (N:=1) ?hd (cs:=#[.slice A0_0 l0_0.length c0_0]) (t:=56) ?hr ?_;(case hd=>rfl);(case hg=>rfl);(case hr=>exact zz109);intro gb231 hg w3 hbox hb;have BK231:=Aside0.mk (hbox);have GW231:=Aside0.mk ((by rw [hg];exact (below_size (zz5)):w.heap.size≤gb231));have GE231:=Aside0.mk ((by rw [hg];exact (below_size (zz5)):w.heap.size≤gb231));replace HB:=Aside0.mk (below_step (zz5) hb);clear hb hbox hg;obtain ⟨hcz4_0,hfz4_0⟩:=zc1 BK231.out))
  go_ret
  exact ⟨zz6,(have h0_:=GE231;zz7)⟩
 ·have c2b0:=beq_eq_false_iff_ne.mpr c2;have c2b1:=bne_iff_ne.mpr c2;have c2b2:¬ (l0_0 = []):=fun h_=>c2 (by rw [h_];rfl);replace H:=zzi H;obtain ⟨c5,H⟩:=H;have c5b0:=decide_eq_true c5;have c5b1:decide (0 < l0_0.length) = true:=decide_eq_true (zz4);clear c5;obtain rfl:=Option.some.inj H;go_enter Try.func34,Try.ntmps34
  go_wp2_with (first|((with_reducible refine gate_dst (N:=1) rfl ?_);refine box_event ?hg (N:=1) ?hd (cs:=#[.slice A0_0 l0_0.length c0_0]) (t:=56) ?hr ?_;(case hd=>rfl);(case hg=>rfl);(case hr=>exact zz109);intro gb231 hg w6 hbox hb;have BK231:=Aside0.mk (hbox);have GW231:=Aside0.mk ((by rw [hg];exact (below_size (zz5)):w.heap.size≤gb231));have GE231:=Aside0.mk ((by rw [hg];exact (below_size (zz5)):w.heap.size≤gb231));replace HB:=Aside0.mk (below_step (zz5) hb);clear hb hbox hg;obtain ⟨hcz7_0,hfz7_0⟩:=zc1 BK231.out;have p232:0≤(0:Int):=(zz4);have q232:0 < (l0_0.length:Int):=of_decide_eq_true (zz11);obtain ⟨ad232,A232_0,c232_0,e232,hx232_0,hl232_0,hi232_0⟩:=at_L1 HR0_0.out 0 p232 q232;cases e232;have qi232:(0 < l0_0.length) = True:=eq_true (zz4);(try rw [show ((0:Int)).toNat = 0 from rfl] at hx232_0);(try rw [Addr.add_zero'] at hx232_0);replace hx232_0:=(HB.out.cell (World.block_lt_of_cell? w _ hx232_0)).trans hx232_0;have HR232_0:=Aside0.mk hi232_0;have HC232_0:=Aside0.mk hl232_0;clear hi232_0 hl232_0;replace p232:=eq_true p232;replace q232:=eq_true q232))
  go_ret
  exact ⟨zz6,(have h0_:=GE231;zz7)⟩
def U18.l0:Nat→List Int→Int→Option (List Int)
 | 0,_,_=>none
 | k+1,x0,x3=>if x3 > 0 then (if 0≤(wrap64 (x3 - 1)) then (if (wrap64 (x3 - 1)) < (x0.length:Int) then (if (rd x0 (wrap64 (x3 - 1))) = 0 then (U18.l0 k x0 (wrap64 (x3 - 1))) else (if 0≤x3 then (if (x3:Int).toNat≤70368744177664 then (some (copyR (List.replicate (x3:Int).toNat 0) x0)) else (none)) else (none))) else (none)) else (none)) else (if 0≤x3 then (if (x3:Int).toNat≤70368744177664 then (some (copyR (List.replicate (x3:Int).toNat 0) x0)) else (none)) else (none))
def U18.f (k:Nat) (l0:List Int):Option (List Int):=U18.l0 k l0 (l0.length:Int)
theorem zm7_2 {P:Prop} (h:P:=by repeat' first|(with_reducible first|exact ih0 ..|exact LeO.refl _|exact LeO.none _|refine LeO.ite ?_ ?_|refine LeO.bind ?_ (fun _=>?_))|exact ih0 ..|exact LeO.none _|refine LeO.ite ?_ ?_|refine LeO.bind ?_ (fun _=>?_)):P:=h
theorem U18.mono_l:∀ k,(∀ y0 y1,LeO (U18.l0 k y0 y1) (U18.l0 (k+1) y0 y1))
 | 0=>fun _ _ r h=>by simp [U18.l0] at h
 | k+1=>by
  have ih0:=U18.mono_l k
  ·intro y0 y1;unfold U18.l0
   exact zm7_2
theorem U18.mono:∀ a0 k,LeO (U18.f k a0) (U18.f (k+1) a0):=by
 intro a0 k;have ih0:=U18.mono_l k;unfold U18.f
 exact zm7_2
set_option maxHeartbeats 8000000 in
set_option maxRecDepth 100000 in
theorem U18.calls (k:Nat) (A0:Option Addr) (c0:Nat) (l0:List Int) (r:List Int) (w:World) (hr0:Kd.C (Kd.int .u32) w A0 l0.length l0) (hc0:l0.length≤c0) (h:U18.f k l0 = some r) :
  Calls Try.prog 73 #[.slice A0 l0.length c0] w fun e w'=>∃ v0_:Value,e = .returned (v0_)∧Kd.R (Kd.int .u32) 65 w' w.heap.size (fun _=>True) v0_ r∧Below w.heap.size w w':=by
 have HR0:=Aside0.mk hr0;have HC0:=Aside0.mk hc0;clear hr0 hc0;have HB:=Aside0.mk (Below.refl w.heap.size w);have H:(U18.l0 k l0 (l0.length:Int)) = some r:=h;clear h;have H':=Aside0.mk H;clear H;go_enter Try.func73,Try.ntmps73
 go_wp2
 go_loopg [3] k (fun kq v3 w'=>∃ (x3_1:Int),v3 = .int .i64 x3_1∧Aside0 (U18.l0 kq l0 x3_1 = some r)∧Aside0 (kq≤k)∧Aside0 (Below w.heap.size w w'))
 case atStart=>exact ⟨((l0.length:Int)),(zz2),H',⟨Nat.le_refl _⟩,⟨zz5⟩⟩
 case round =>
  clear H';obtain ⟨x3_1,rfl,HA,HK1,HB⟩:=hrel
  cases gk with
  | zero=>exact absurd HA.out (by simp [U18.l0])
  | succ k1 =>
   have H:=HA.out;clear HA;simp only [U18.l0] at H;replace H:=zzj H;rcases H with ⟨c2,H⟩|⟨c2,H⟩
   ·have c2b0:=decide_eq_true c2;clear c2;obtain ⟨ji3,hji3⟩:∃ j_:Int,(wrap64 (x3_1 - 1)) = j_:=⟨_,rfl⟩;replace H:(if 0≤(ji3) then (if (ji3) < (l0.length:Int) then (if (rd l0 (ji3)) = 0 then (U18.l0 k1 l0 ji3) else (if 0≤x3_1 then (if (x3_1:Int).toNat≤70368744177664 then (some (copyR (List.replicate (x3_1:Int).toNat 0) l0)) else (none)) else (none))) else (none)) else (none)) = some r:=(have h0_:=hji3;zz15);have hji3w:(IntKind.i64.wrap (x3_1 - 1)) = ji3:=(i64_w _).trans hji3;replace H:=zzi H;obtain ⟨c4,H⟩:=H;have c4b0:=decide_eq_true c4;clear c4;replace H:=zzi H;obtain ⟨c5,H⟩:=H;have c5b0:=decide_eq_true c5;clear c5;replace H:=zzj H;rcases H with ⟨c6,H⟩|⟨c6,H⟩
    ·have c6b0:=beq_iff_eq.mpr c6;have c6b1:=bne_eq_false_iff_eq.mpr c6;clear c6;have H':=Aside0.mk H;clear H;have p233:0≤((ji3):Int):=of_decide_eq_true (zz11);have q233:(ji3) < (l0.length:Int):=of_decide_eq_true (zz11);obtain ⟨ad233,e233,hx233_0⟩:=Kd.at_int HR0.out (ji3) p233 q233
     cases e233
     replace hx233_0:=(HB.out.cell (World.block_lt_of_cell? w _ hx233_0)).trans hx233_0;replace p233:=eq_true p233;replace q233:=eq_true q233
     go_wp2
     go_roundg k1
     case measure=>have:=HK1.out;omega
     case rel=>exact ⟨(ji3),(have h0_:=hji3;zz17),H',⟨zz12⟩,⟨zz5⟩⟩
    ·have c6b0:=beq_eq_false_iff_ne.mpr c6;have c6b1:=bne_iff_ne.mpr c6;replace H:=zzi H;obtain ⟨c7,H⟩:=H;have c7b0:=eq_true c7;have c7b1:=decide_eq_true c7;clear c7;replace H:=zzi H;obtain ⟨c8,H⟩:=H;have c8b0:=eq_true c8;have c8b1:=decide_eq_true c8;clear c8;obtain ⟨y234,hy234⟩:∃ y_:List Int,y_ = (List.replicate (x3_1:Int).toNat 0):=⟨_,rfl⟩;replace H:(some (copyR y234 l0)) = some r:=(have h0_:=hy234;zz24);have Ny234:=Aside0.mk hy234;clear hy234;obtain ⟨y237,hy237⟩:∃ y_:List Int,y_ = (copyR y234 l0):=⟨_,rfl⟩;replace H:(some y237) = some r:=(have h0_:=hy237;zz24);have Ny237:=Aside0.mk hy237;clear hy237;obtain rfl:=Option.some.inj H;have p233:0≤((ji3):Int):=of_decide_eq_true (zz11);have q233:(ji3) < (l0.length:Int):=of_decide_eq_true (zz11);obtain ⟨ad233,e233,hx233_0⟩:=Kd.at_int HR0.out (ji3) p233 q233
     cases e233
     replace hx233_0:=(HB.out.cell (World.block_lt_of_cell? w _ hx233_0)).trans hx233_0;replace p233:=eq_true p233;replace q233:=eq_true q233
     go_wp2_with (first|((with_reducible refine gate_dst (N:=20) rfl ?_);refine Kd.R_make (Kd.int .u32) _ 65 rfl (N:=20) rfl 32 _ _ rfl x3_1 rfl rfl Try.underlying32 (.int .u32 0) 4 info65 rfl (zz28) (zz4) 0 (ok:=fun _=>True) (okp:=fun _=>True) rfl (fun _ hk=>hk) trivial (of_decide_eq_true (zz11)) (Nat.le_trans (Nat.mul_le_mul_right _ (of_decide_eq_true (zz11):x3_1.toNat≤70368744177664)) (zz4)) (Below.refl _ _) (Nat.le_refl _) ?_;intro v235 w9 ho10 hb hg_ hnew_;clear hg_ hnew_;(first|rw [← Ny234.out] at ho10|(simp only [Int.reduceToNat] at ho10;rw [← Ny234.out] at ho10));have HO236:=Aside0.mk (Kd.R_lower ho10 (below_size (zz5)));replace HB:=Aside0.mk (below_step (zz5) hb);clear hb ho10)|((with_reducible refine gate_builtin (b:=.copy) (xs:=#[.tmp 21,.tmp 22]) rfl ?_);refine Kd.R_copy .u32 (w0:=w) w.heap.size rfl (.tmp 21) (.tmp 22) 32 32 65 (.int .u32 0) 4 rfl Try.underlying32 info65 v235 y234 l0 _ _ (fun _=>True) rfl rfl ?aO ?aR ?aB ?_;(case aR=>exact (have h0_:=HR0;zz110));(case aB=>exact (zz5));(case aO=>exact (have h0_:=HO236;zz25));intro v238 w11 hv ho hb hg hat;subst hv;rw [← Ny237.out] at ho;replace HB:=Aside0.mk (hb);have HO239:=Aside0.mk (ho);clear HO236;clear ho hb hg hat))
     go_ret
     exact ⟨_,(have h0_:=hji3;zz16),(have h0_:=HO239;zz25),zz5⟩
   ·have c2b0:=decide_eq_false c2;clear c2;replace H:=zzi H;obtain ⟨c12,H⟩:=H;have c12b0:=eq_true c12;have c12b1:=decide_eq_true c12;clear c12;replace H:=zzi H;obtain ⟨c13,H⟩:=H;have c13b0:=eq_true c13;have c13b1:=decide_eq_true c13;clear c13;obtain ⟨y240,hy240⟩:∃ y_:List Int,y_ = (List.replicate (x3_1:Int).toNat 0):=⟨_,rfl⟩;replace H:(some (copyR y240 l0)) = some r:=(have h0_:=hy240;zz24);have Ny240:=Aside0.mk hy240;clear hy240;obtain ⟨y243,hy243⟩:∃ y_:List Int,y_ = (copyR y240 l0):=⟨_,rfl⟩;replace H:(some y243) = some r:=(have h0_:=hy243;zz24);have Ny243:=Aside0.mk hy243;clear hy243;obtain rfl:=Option.some.inj H
    go_wp2_with (first|((with_reducible refine gate_dst (N:=20) rfl ?_);refine Kd.R_make (Kd.int .u32) _ 65 rfl (N:=20) rfl 32 _ _ rfl x3_1 rfl rfl Try.underlying32 (.int .u32 0) 4 info65 rfl (zz28) (zz4) 0 (ok:=fun _=>True) (okp:=fun _=>True) rfl (fun _ hk=>hk) trivial (of_decide_eq_true (zz11)) (Nat.le_trans (Nat.mul_le_mul_right _ (of_decide_eq_true (zz11):x3_1.toNat≤70368744177664)) (zz4)) (Below.refl _ _) (Nat.le_refl _) ?_;intro v241 w14 ho15 hb hg_ hnew_;clear hg_ hnew_;(first|rw [← Ny240.out] at ho15|(simp only [Int.reduceToNat] at ho15;rw [← Ny240.out] at ho15));have HO242:=Aside0.mk (Kd.R_lower ho15 (below_size (zz5)));replace HB:=Aside0.mk (below_step (zz5) hb);clear hb ho15)|((with_reducible refine gate_builtin (b:=.copy) (xs:=#[.tmp 21,.tmp 22]) rfl ?_);refine Kd.R_copy .u32 (w0:=w) w.heap.size rfl (.tmp 21) (.tmp 22) 32 32 65 (.int .u32 0) 4 rfl Try.underlying32 info65 v241 y240 l0 _ _ (fun _=>True) rfl rfl ?aO ?aR ?aB ?_;(case aR=>exact (have h0_:=HR0;zz110));(case aB=>exact (zz5));(case aO=>exact (have h0_:=HO242;zz25));intro v244 w16 hv ho hb hg hat;subst hv;rw [← Ny243.out] at ho;replace HB:=Aside0.mk (hb);have HO245:=Aside0.mk (ho);clear HO242;clear ho hb hg hat))
    go_ret
    exact ⟨_,zz6,(have h0_:=HO245;zz25),zz5⟩
def U19.f (k:Nat) (a0:Int):Option (List Int):=(U18.f k (([(a0) % 4294967296,(a0 / 4294967296) % 4294967296]:List Int))).bind fun t249=>(some t249)
theorem zm7_3 {P:Prop} (h:P:=by repeat' first|(with_reducible first|exact U18.mono ..|exact LeO.refl _|exact LeO.none _|refine LeO.ite ?_ ?_|refine LeO.bind ?_ (fun _=>?_))|exact U18.mono ..|exact LeO.none _|refine LeO.ite ?_ ?_|refine LeO.bind ?_ (fun _=>?_)):P:=h
theorem U19.mono:∀ a0 k,LeO (U19.f k a0) (U19.f (k+1) a0):=by
 intro a0 k;unfold U19.f
 exact zm7_3
set_option maxHeartbeats 8000000 in
set_option maxRecDepth 100000 in
theorem U19.calls (k:Nat) (a0:Int) (r:List Int) (w:World) (h:U19.f k a0 = some r) :
  Calls Try.prog 58 #[.int .u64 a0] w fun e w'=>∃ v0_:Value,e = .returned (v0_)∧Kd.R (Kd.int .u32) 65 w' w.heap.size (fun _=>True) v0_ r∧Below w.heap.size w w':=by
 have HB:=Aside0.mk (Below.refl w.heap.size w);have H:((U18.f k (([(a0) % 4294967296,(a0 / 4294967296) % 4294967296]:List Int))).bind fun t249=>(some t249)) = some r:=h;clear h;obtain ⟨y246,hy246⟩:∃ y_:List Int,y_ = (([(a0) % 4294967296,(a0 / 4294967296) % 4294967296]:List Int)):=⟨_,rfl⟩;replace H:((U18.f k y246).bind fun t249=>(some t249)) = some r:=(have h0_:=hy246;zz24);have Ny246:=Aside0.mk hy246;clear hy246;replace H:=zzb H;obtain ⟨t249,A2,H⟩:=H;obtain rfl:=Option.some.inj H;go_enter Try.func58,Try.ntmps58
 go_wp2_with (first|((with_reducible refine gate_dst (N:=8) rfl ?_);refine Kd.R_lit (Kd.int .u32) _ 65 ?hg (N:=8) ?hd (xs:=([(a0) % 4294967296,(a0 / 4294967296) % 4294967296]:List Int)) (inner:=[.int .u32 ((a0) % 4294967296),.int .u32 ((a0 / 4294967296) % 4294967296)]) (ok:=fun _=>True) (okp:=fun _=>True) ?hr ?hp (fun _ hk=>hk) trivial (Below.refl _ _) (Nat.le_refl _) (zz14) ?_;(case hd=>rfl);(case hg=>rfl);(case hr=>exact zz109);(case hp=>exact (Reps.one (show Kd.M (Kd.int .u32) _ _ _ ((a0) % 4294967296) [.int .u32 ((a0) % 4294967296)] from rfl) (Reps.one (show Kd.M (Kd.int .u32) _ _ _ ((a0 / 4294967296) % 4294967296) [.int .u32 ((a0 / 4294967296) % 4294967296)] from rfl) (Reps.none _ _))));intro v247 w3 ho4 hb hg_ hnew_;clear hg_ hnew_;(first|rw [← Ny246.out] at ho4|(simp only [Int.reduceToNat] at ho4;rw [← Ny246.out] at ho4));have HO248:=Aside0.mk (Kd.R_lower ho4 (below_size (zz5)));replace HB:=Aside0.mk (below_step (zz5) hb);clear hb ho4;obtain ⟨Ao5,co5,eo5⟩:=Kd.R_slice HO248.out;subst eo5)|((with_reducible refine gate_callee (f:=73) rfl ?_);refine goesL_ (some 9) rfl rfl Try.func73 (zz0) rfl #[.slice Ao5 y246.length co5] rfl (zz19) ?_;(with_reducible refine (U18.calls k _ _ y246 t249 _ ?_ ?_ A2.out).mono ?_);(exact (have h0_:=HO248;zz121));(exact (have h0_:=HO248;zz122));rintro e w6 ⟨v250,rfl,ho0,hb⟩;refine ⟨_,rfl,?_⟩;have HO251:=Aside0.mk (Kd.R_lower (Kd.R_new' ho0 (Kd.R_lt (have h0_:=HO248;zz25))) (below_size (zz5)));replace HO248:=Aside0.mk (Kd.R_elder' (have h0_:=HO248;zz25) (Kd.R_base ho0) hb);replace HB:=Aside0.mk (below_step (zz5) hb);(try clear hb);(try clear ho0)))
 go_ret
 exact ⟨_,zz6,(have h0_:=HO251;zz43),zz5⟩
end Go.Proofs.Ytmcegphcjphdcaa.QA
