import Derived.Test.YtfkmbjkmlfnapaaDoorMCQAx0
import Derived.Test.YtfkmbjkmlfnapaaDoorMCQAx1
import Derived.Test.YtfkmbjkmlfnapaaDoorMCQAx2
import Derived.Test.YtfkmbjkmlfnapaaDoorMCQAx3
import Derived.Test.YtfkmbjkmlfnapaaDoorMCQAx4
import Derived.Test.YtfkmbjkmlfnapaaDoorMCQAx13
namespace Go.Proofs.YtfkmbjkmlfnapaaDoor.QA
open Go.RowKit Go.Proofs.YtfkmbjkmlfnapaaDoorW.PrintWords Go.Proofs.YtfkmbjkmlfnapaaDoorW.PrintLast Go.Proofs.YtfkmbjkmlfnapaaDoorW.PrintMore
attribute [local go_sem] max2_int min2_int max_two min_two max_three min_three max_four min_four
set_option linter.unusedVariables false
set_option linter.unusedSimpArgs false
def U0.f (k:Nat) (l0_0:List (List Int)) (a1:Int):Option (Bool):=(U21.f k l0_0 a1).bind fun t839=>((U6.f k l0_0 a1).bind fun t840=>(if t839 = t840 then ((U14.f l0_0).bind fun t841=>((U3.f l0_0).bind fun t842=>(if t841 = t842 then ((U17.f k l0_0).bind fun t843=>((U4.f k l0_0).bind fun t844=>(if (t843 == t844) = true then ((U1.f k).bind fun t845=>(some t845)) else (none)))) else (none)))) else (none)))
theorem zm14_0 {P:Prop} (h:P:=by repeat' first|(with_reducible first|exact U1.mono ..|exact U4.mono ..|exact U6.mono ..|exact U17.mono ..|exact U21.mono ..|exact LeO.refl _|exact LeO.none _|refine LeO.ite ?_ ?_|refine LeO.bind ?_ (fun _=>?_))|exact U1.mono ..|exact U4.mono ..|exact U6.mono ..|exact U17.mono ..|exact U21.mono ..|exact LeO.none _|refine LeO.ite ?_ ?_|refine LeO.bind ?_ (fun _=>?_)):P:=h
theorem U0.mono:∀ a0 a1 k,LeO (U0.f k a0 a1) (U0.f (k+1) a0 a1):=by
 intro a0 a1 k;unfold U0.f
 exact zm14_0
def U0.T1:Bool × List (List Nat × List Nat):=(true,[([],[]),([],[]),([0,1],[0,1]),([],[]),([],[]),([3,4,2],[3,4]),([2,5],[2,5]),([6,5],[6]),([7],[7]),([8,7,7],[7,8]),([7],[7]),([10,9,7],[7,10]),([9,11,7],[7,9,11]),([7,12],[7,12]),([13,11],[13]),([14],[14]),([15,14,14],[14,15]),([14],[14]),([17,16,14],[14,17]),([16,18,14],[14,16,18]),([14,19],[14,19]),([20,18],[20]),([21,21],[21]),([21,22],[21,22]),([23,22,0,1,2,3,4,5,6,7,8,9,10,11,12,13,14,15,16,17,18,19,20,21,22,23],[23])])
def U0.B1:List Nat:=[0,0,3,0,0,31,63,127,255,511,255,2047,4095,8191,16383,32767,65535,32767,262143,524287,1048575,2097151,4194303,8388607,16777215]
theorem U0.tab1:rtab .any (opsOf Tryd.f3 1) = U0.T1:=zz0
theorem U0.bits1:waitsOk U0.T1.2 U0.B1 = true:=zz0
set_option maxHeartbeats 8000000 in
set_option maxRecDepth 100000 in
theorem U0.calls (k:Nat) (A0_0:Option Addr) (c0_0:Nat) (l0_0:List (List Int)) (a1:Int) (r:Bool) (w:World) (hr0_0:Kd.C (Kd.slice 3 (Kd.int .i64)) w A0_0 l0_0.length l0_0) (hc0_0:l0_0.length≤c0_0) (h:U0.f k l0_0 a1 = some r) :
  Calls Tryd.prog 3 #[.agg #[.slice A0_0 l0_0.length c0_0],.int .i64 a1] w fun e w'=>e = .returned (.bool r)∧Below w.heap.size w w':=by
 have hu24:=Tryd.underlying24;have HR0_0:=Aside0.mk hr0_0;have HC0_0:=Aside0.mk hc0_0;clear hr0_0 hc0_0;have HB:=Aside0.mk (Below.refl w.heap.size w);have H:((U21.f k l0_0 a1).bind fun t839=>((U6.f k l0_0 a1).bind fun t840=>(if t839 = t840 then ((U14.f l0_0).bind fun t841=>((U3.f l0_0).bind fun t842=>(if t841 = t842 then ((U17.f k l0_0).bind fun t843=>((U4.f k l0_0).bind fun t844=>(if (t843 == t844) = true then ((U1.f k).bind fun t845=>(some t845)) else (none)))) else (none)))) else (none)))) = some r:=h;clear h;replace H:=zzb H;obtain ⟨t839,A3,H⟩:=H;replace H:=zzb H;obtain ⟨t840,A4,H⟩:=H;replace H:=zzj H;rcases H with ⟨c5,H⟩|⟨c5,H⟩
 ·have c5b0:=beq_iff_eq.mpr c5;have c5b1:=bne_eq_false_iff_eq.mpr c5;clear c5;replace H:=zzb H;obtain ⟨t841,A6,H⟩:=H;replace H:=zzb H;obtain ⟨t842,A7,H⟩:=H;replace H:=zzj H;rcases H with ⟨c8,H⟩|⟨c8,H⟩
  ·have c8b0:=beq_iff_eq.mpr c8;have c8b1:=bne_eq_false_iff_eq.mpr c8;clear c8;replace H:=zzb H;obtain ⟨t843,A9,H⟩:=H;replace H:=zzb H;obtain ⟨t844,A10,H⟩:=H;replace H:=zzj H;rcases H with ⟨c11,H⟩|⟨c11,H⟩
   ·have c11b0:(t843 == t844) = true:=c11
    (try (have c11b1:decide (t843 = t844) = true:=by simpa using c11))
    (try (have c11b2:(t843 == t844) = true:=by simpa using c11))
    clear c11;replace H:=zzb H;obtain ⟨t845,A12,H⟩:=H;obtain rfl:=Option.some.inj H;go_enter Tryd.func3,Tryd.ntmps3
    try go_wp2_with (first|((with_reducible refine gate_dst (N:=2) rfl ?_);refine box_event ?hg (N:=2) ?hd (cs:=#[.slice A0_0 l0_0.length c0_0]) (t:=24) ?hr ?_;(case hd=>rfl);(case hg=>rfl);(case hr=>exact zz136);intro gb838 hg w13 hbox hb;have BK838:=Aside0.mk (hbox);have GW838:=Aside0.mk ((by rw [hg];exact (below_size (zz10)):w.heap.size≤gb838));have GE838:=Aside0.mk ((by rw [hg];exact (below_size (zz10)):w.heap.size≤gb838));replace HB:=Aside0.mk (below_step (zz10) hb);clear hb hbox hg))
    replace BK838:=Aside0.mk (blk_drew BK838.out);replace HB:=Aside0.mk (below_drew1 HB.out);refine start_ (n:=25) (S:=fun w'=>w'.cell? ⟨gb838,0,none⟩ = some (.slice A0_0 l0_0.length c0_0)) (ds:=[]) #[false,false,false,false,false,false,false,false,false,false,false,false,false,false,false,false,false,false,false,false,false,false,false,false,false] (zz0) rfl rfl ((blk_cell BK838.out 0).trans rfl) (fun hHeld=>?_);refine with_tabW U0.tab1 U0.bits1 (fun HT_ HW_=>?_)
    generalize w13.drew = w14 at BK838 HB hHeld ⊢
    refine zzp 1 6 ?_ #[false,true,false,false,false,false,false,false,false,false,false,false,false,false,false,false,false,false,false,false,false,false,false,false,false] rfl rfl (any_of HT_.out (zz0)) (fun _ _ _ h=>h) (Or.inl ⟨zz9,?_⟩) ?_ ?_ ?_;rotate_left
    ·intro w'
     go_simp
     with_reducible rfl
    rotate_left
    ·simp only [zzs]
     rfl
    refine zzp 4 9 ?_ #[false,true,false,false,true,false,false,false,false,false,false,false,false,false,false,false,false,false,false,false,false,false,false,false,false] rfl rfl (any_of HT_.out (zz0)) (fun _ _ _ h=>h) (Or.inl ⟨zz9,?_⟩) ?_ ?_ ?_;rotate_left
    ·intro w'
     go_simp
     with_reducible rfl
    rotate_left
    ·simp only [zzs]
     rfl
    refine take_ (i:=0) (N:=some 5) (v:=?_) (a':=?_) #[true,true,false,false,true,false,false,false,false,false,false,false,false,false,false,false,false,false,false,false,false,false,false,false,false] rfl rfl (take_ofW HT_.out HW_.out (zz0)) (fun _ _ _ h=>h) (Or.inl ⟨zz9,?_⟩) hHeld ?_ ?_;rotate_left
    ·intro w' s0
     go_simp
     with_reducible rfl
    rotate_left
    ·simp only [zzs]
     rfl
    refine take_ (i:=3) (N:=some 8) (v:=?_) (a':=?_) #[true,true,false,true,true,false,false,false,false,false,false,false,false,false,false,false,false,false,false,false,false,false,false,false,false] rfl rfl (take_ofW HT_.out HW_.out (zz0)) (fun _ _ _ h=>h) (Or.inl ⟨zz9,?_⟩) hHeld ?_ ?_;rotate_left
    ·intro w' s0
     go_simp
     with_reducible rfl
    rotate_left
    ·simp only [zzs]
     rfl
    refine one_ (i:=2) (N:=some 7) #[true,true,true,true,true,false,false,false,false,false,false,false,false,false,false,false,false,false,false,false,false,false,false,false,false] rfl rfl (one_of HT_.out (zz0)) (zz17) (fun K hK=>?_);refine goes_ Tryd.func14 (zz0) rfl #[.agg #[.slice A0_0 l0_0.length c0_0],.int .i64 a1] (zz9) rfl rfl (zz5) ?_
    with_reducible refine (U21.calls k _ _ l0_0 a1 t839 _ ?side1 ?side2 A3.out).mono ?_
    (case side1=>exact zz141)
    (case side2=>exact zz142)
    rintro e w15 ⟨rfl,hb⟩;refine ⟨_,rfl,?_⟩;replace BK838:=Aside0.mk (blk_below (have h0_:=BK838;zz12) hb);replace HB:=Aside0.mk (below_step (have h0_:=GE838;zz13) hb)
    (try clear hb)
    refine hK.out _ _ ((blk_cell BK838.out 0).trans rfl) (fun hHeld=>?_);clear hK K;refine norm_ (a':=?_) ?_ ?_;rotate_left
    ·show Act.put _ (some 7) _ = _
     simp only [zzs]
     rfl
    refine one_ (i:=5) (N:=some 10) #[true,true,true,true,true,true,false,false,false,false,false,false,false,false,false,false,false,false,false,false,false,false,false,false,false] rfl rfl (one_of HT_.out (zz0)) (zz17) (fun K hK=>?_);refine goes_ Tryd.func15 (zz0) rfl #[.agg #[.slice A0_0 l0_0.length c0_0],.int .i64 a1] (zz9) rfl rfl (zz5) ?_
    with_reducible refine (U6.calls k _ _ l0_0 a1 t840 _ ?side1 ?side2 A4.out).mono ?_
    (case side1=>exact zz141)
    (case side2=>exact zz142)
    rintro e w16 ⟨rfl,hb⟩;refine ⟨_,rfl,?_⟩;replace BK838:=Aside0.mk (blk_below (have h0_:=BK838;zz12) hb);replace HB:=Aside0.mk (below_step (have h0_:=GE838;zz13) hb)
    (try clear hb)
    (try clear hb2)
    (try clear hk)
    (try clear hi)
    refine hK.out _ _ ((blk_cell BK838.out 0).trans rfl) (fun hHeld=>?_);clear hK K;refine norm_ (a':=?_) ?_ ?_;rotate_left
    ·show Act.put _ (some 10) _ = _
     simp only [zzs]
     rfl
    refine zzp 6 11 ?_ #[true,true,true,true,true,true,true,false,false,false,false,false,false,false,false,false,false,false,false,false,false,false,false,false,false] rfl rfl (any_of HT_.out (zz0)) (fun _ _ _ h=>h) (Or.inl ⟨zz9,?_⟩) ?_ ?_ ?_;rotate_left
    ·intro w'
     go_simp
     with_reducible rfl
    rotate_left
    ·simp only [zzs]
     rfl
    refine zzp 7 12 ?_ #[true,true,true,true,true,true,true,true,false,false,false,false,false,false,false,false,false,false,false,false,false,false,false,false,false] rfl rfl (any_of HT_.out (zz0)) (fun _ _ _ h=>h) (Or.inl ⟨zz9,?_⟩) ?_ ?_ ?_;rotate_left
    ·intro w'
     go_simp
     with_reducible rfl
    rotate_left
    ·simp only [zzs]
     rfl
    refine take_ (i:=8) (N:=some 13) (v:=?_) (a':=?_) #[true,true,true,true,true,true,true,true,true,false,false,false,false,false,false,false,false,false,false,false,false,false,false,false,false] rfl rfl (take_ofW HT_.out HW_.out (zz0)) (fun _ _ _ h=>h) (Or.inl ⟨zz9,?_⟩) hHeld ?_ ?_;rotate_left
    ·intro w' s0
     go_simp
     with_reducible rfl
    rotate_left
    ·simp only [zzs]
     rfl
    refine take_ (i:=10) (N:=some 15) (v:=?_) (a':=?_) #[true,true,true,true,true,true,true,true,true,false,true,false,false,false,false,false,false,false,false,false,false,false,false,false,false] rfl rfl (take_ofW HT_.out HW_.out (zz0)) (fun _ _ _ h=>h) (Or.inl ⟨zz9,?_⟩) hHeld ?_ ?_;rotate_left
    ·intro w' s0
     go_simp
     with_reducible rfl
    rotate_left
    ·simp only [zzs]
     rfl
    refine one_ (i:=9) (N:=some 14) #[true,true,true,true,true,true,true,true,true,true,true,false,false,false,false,false,false,false,false,false,false,false,false,false,false] rfl rfl (one_of HT_.out (zz0)) (zz17) (fun K hK=>?_);refine goes_ Tryd.func16 (zz0) rfl #[.agg #[.slice A0_0 l0_0.length c0_0]] (zz9) rfl rfl (zz5) ?_
    with_reducible refine (U14.calls _ _ l0_0 t841 _ ?side1 ?side2 A6.out).mono ?_
    (case side1=>exact zz141)
    (case side2=>exact zz142)
    rintro e w17 ⟨rfl,hb⟩;refine ⟨_,rfl,?_⟩;replace BK838:=Aside0.mk (blk_below (have h0_:=BK838;zz12) hb);replace HB:=Aside0.mk (below_step (have h0_:=GE838;zz13) hb)
    (try clear hb)
    (try clear hb2)
    (try clear hk)
    (try clear hi)
    refine hK.out _ _ ((blk_cell BK838.out 0).trans rfl) (fun hHeld=>?_);clear hK K;refine norm_ (a':=?_) ?_ ?_;rotate_left
    ·show Act.put _ (some 14) _ = _
     simp only [zzs]
     rfl
    refine one_ (i:=11) (N:=some 16) #[true,true,true,true,true,true,true,true,true,true,true,true,false,false,false,false,false,false,false,false,false,false,false,false,false] rfl rfl (one_of HT_.out (zz0)) (zz17) (fun K hK=>?_);refine goes_ Tryd.func17 (zz0) rfl #[.agg #[.slice A0_0 l0_0.length c0_0]] (zz9) rfl rfl (zz5) ?_
    with_reducible refine (U3.calls _ _ l0_0 t842 _ ?side1 ?side2 A7.out).mono ?_
    (case side1=>exact zz141)
    (case side2=>exact zz142)
    rintro e w18 ⟨rfl,hb⟩;refine ⟨_,rfl,?_⟩;replace BK838:=Aside0.mk (blk_below (have h0_:=BK838;zz12) hb);replace HB:=Aside0.mk (below_step (have h0_:=GE838;zz13) hb)
    (try clear hb)
    (try clear hb2)
    (try clear hk)
    (try clear hi)
    refine hK.out _ _ ((blk_cell BK838.out 0).trans rfl) (fun hHeld=>?_);clear hK K;refine norm_ (a':=?_) ?_ ?_;rotate_left
    ·show Act.put _ (some 16) _ = _
     simp only [zzs]
     rfl
    refine zzp 12 17 ?_ #[true,true,true,true,true,true,true,true,true,true,true,true,true,false,false,false,false,false,false,false,false,false,false,false,false] rfl rfl (any_of HT_.out (zz0)) (fun _ _ _ h=>h) (Or.inl ⟨zz9,?_⟩) ?_ ?_ ?_;rotate_left
    ·intro w'
     go_simp
     with_reducible rfl
    rotate_left
    ·simp only [zzs]
     rfl
    refine zzp 13 18 ?_ #[true,true,true,true,true,true,true,true,true,true,true,true,true,true,false,false,false,false,false,false,false,false,false,false,false] rfl rfl (any_of HT_.out (zz0)) (fun _ _ _ h=>h) (Or.inl ⟨zz9,?_⟩) ?_ ?_ ?_;rotate_left
    ·intro w'
     go_simp
     with_reducible rfl
    rotate_left
    ·simp only [zzs]
     rfl
    refine zzp 14 19 ?_ #[true,true,true,true,true,true,true,true,true,true,true,true,true,true,true,false,false,false,false,false,false,false,false,false,false] rfl rfl (any_of HT_.out (zz0)) (fun _ _ _ h=>h) (Or.inl ⟨zz9,?_⟩) ?_ ?_ ?_;rotate_left
    ·intro w'
     go_simp
     with_reducible rfl
    rotate_left
    ·simp only [zzs]
     rfl
    refine take_ (i:=15) (N:=some 20) (v:=?_) (a':=?_) #[true,true,true,true,true,true,true,true,true,true,true,true,true,true,true,true,false,false,false,false,false,false,false,false,false] rfl rfl (take_ofW HT_.out HW_.out (zz0)) (fun _ _ _ h=>h) (Or.inl ⟨zz9,?_⟩) hHeld ?_ ?_;rotate_left
    ·intro w' s0
     go_simp
     with_reducible rfl
    rotate_left
    ·simp only [zzs]
     rfl
    refine take_ (i:=17) (N:=some 22) (v:=?_) (a':=?_) #[true,true,true,true,true,true,true,true,true,true,true,true,true,true,true,true,false,true,false,false,false,false,false,false,false] rfl rfl (take_ofW HT_.out HW_.out (zz0)) (fun _ _ _ h=>h) (Or.inl ⟨zz9,?_⟩) hHeld ?_ ?_;rotate_left
    ·intro w' s0
     go_simp
     with_reducible rfl
    rotate_left
    ·simp only [zzs]
     rfl
    refine one_ (i:=16) (N:=some 21) #[true,true,true,true,true,true,true,true,true,true,true,true,true,true,true,true,true,true,false,false,false,false,false,false,false] rfl rfl (one_of HT_.out (zz0)) (zz17) (fun K hK=>?_);refine goes_ Tryd.func18 (zz0) rfl #[.agg #[.slice A0_0 l0_0.length c0_0]] (zz9) rfl rfl (zz5) ?_
    with_reducible refine (U17.calls k _ _ l0_0 t843 _ ?side1 ?side2 A9.out).mono ?_
    (case side1=>exact zz141)
    (case side2=>exact zz142)
    rintro e w19 ⟨rfl,hb⟩;refine ⟨_,rfl,?_⟩;replace BK838:=Aside0.mk (blk_below (have h0_:=BK838;zz12) hb);replace HB:=Aside0.mk (below_step (have h0_:=GE838;zz13) hb)
    (try clear hb)
    (try clear hb2)
    (try clear hk)
    (try clear hi)
    refine hK.out _ _ ((blk_cell BK838.out 0).trans rfl) (fun hHeld=>?_);clear hK K;refine norm_ (a':=?_) ?_ ?_;rotate_left
    ·show Act.put _ (some 21) _ = _
     simp only [zzs]
     rfl
    refine one_ (i:=18) (N:=some 23) #[true,true,true,true,true,true,true,true,true,true,true,true,true,true,true,true,true,true,true,false,false,false,false,false,false] rfl rfl (one_of HT_.out (zz0)) (zz17) (fun K hK=>?_);refine goes_ Tryd.func19 (zz0) rfl #[.agg #[.slice A0_0 l0_0.length c0_0]] (zz9) rfl rfl (zz5) ?_
    with_reducible refine (U4.calls k _ _ l0_0 t844 _ ?side1 ?side2 A10.out).mono ?_
    (case side1=>exact zz141)
    (case side2=>exact zz142)
    rintro e w20 ⟨rfl,hb⟩;refine ⟨_,rfl,?_⟩;replace BK838:=Aside0.mk (blk_below (have h0_:=BK838;zz12) hb);replace HB:=Aside0.mk (below_step (have h0_:=GE838;zz13) hb)
    (try clear hb)
    (try clear hb2)
    (try clear hk)
    (try clear hi)
    refine hK.out _ _ ((blk_cell BK838.out 0).trans rfl) (fun hHeld=>?_);clear hK K;refine norm_ (a':=?_) ?_ ?_;rotate_left
    ·show Act.put _ (some 23) _ = _
     simp only [zzs]
     rfl
    refine zzp 19 24 ?_ #[true,true,true,true,true,true,true,true,true,true,true,true,true,true,true,true,true,true,true,true,false,false,false,false,false] rfl rfl (any_of HT_.out (zz0)) (fun _ _ _ h=>h) (Or.inl ⟨zz9,?_⟩) ?_ ?_ ?_;rotate_left
    ·intro w'
     go_simp
     with_reducible rfl
    rotate_left
    ·simp only [zzs]
     rfl
    refine zzp 20 25 ?_ #[true,true,true,true,true,true,true,true,true,true,true,true,true,true,true,true,true,true,true,true,true,false,false,false,false] rfl rfl (any_of HT_.out (zz0)) (fun _ _ _ h=>h) (Or.inl ⟨zz9,?_⟩) ?_ ?_ ?_;rotate_left
    ·intro w'
     go_simp
     with_reducible rfl
    rotate_left
    ·simp only [zzs]
     rfl
    refine zzp 21 26 ?_ #[true,true,true,true,true,true,true,true,true,true,true,true,true,true,true,true,true,true,true,true,true,true,false,false,false] rfl rfl (any_of HT_.out (zz0)) (fun _ _ _ h=>h) (Or.inl ⟨zz9,?_⟩) ?_ ?_ ?_;rotate_left
    ·intro w'
     go_simp
     with_reducible rfl
    rotate_left
    ·simp only [zzs]
     rfl
    refine one_ (i:=22) (N:=some 27) #[true,true,true,true,true,true,true,true,true,true,true,true,true,true,true,true,true,true,true,true,true,true,true,false,false] rfl rfl (one_of HT_.out (zz0)) (zz17) (fun K hK=>?_);refine goes_ Tryd.func20 (zz0) rfl #[] (zz9) rfl rfl (zz5) ?_
    with_reducible refine (U1.calls k  t845 _ A12.out).mono ?_
    rintro e w21 ⟨rfl,hb⟩;refine ⟨_,rfl,?_⟩;replace BK838:=Aside0.mk (blk_below (have h0_:=BK838;zz12) hb);replace HB:=Aside0.mk (below_step (have h0_:=GE838;zz13) hb)
    (try clear hb)
    (try clear hb2)
    (try clear hk)
    (try clear hi)
    refine hK.out _ _ ((blk_cell BK838.out 0).trans rfl) (fun hHeld=>?_);clear hK K;refine norm_ (a':=?_) ?_ ?_;rotate_left
    ·show Act.put _ (some 27) _ = _
     simp only [zzs]
     rfl
    refine zzp 23 28 ?_ #[true,true,true,true,true,true,true,true,true,true,true,true,true,true,true,true,true,true,true,true,true,true,true,true,false] rfl rfl (any_of HT_.out (zz0)) (fun _ _ _ h=>h) (Or.inl ⟨zz9,?_⟩) ?_ ?_ ?_;rotate_left
    ·intro w'
     go_simp
     with_reducible rfl
    rotate_left
    ·simp only [zzs]
     rfl
    refine zzp 24 4 ?_ #[true,true,true,true,true,true,true,true,true,true,true,true,true,true,true,true,true,true,true,true,true,true,true,true,true] rfl rfl (any_of HT_.out (zz0)) (fun _ _ _ h=>h) (Or.inl ⟨zz9,?_⟩) ?_ ?_ ?_;rotate_left
    ·intro w'
     go_simp
     with_reducible rfl
    rotate_left
    ·simp only [zzs]
     rfl
    refine done_ (done_of HT_.out (zz0)) ?_
    try go_wp2
    go_ret
    exact ⟨zz14,(have h0_:=GE838;zz13)⟩
   ·have c11b0:(t843 == t844) = false:=by simpa using c11
    (try (have c11b1:decide (t843 = t844) = false:=by simpa using c11))
    (try (have c11b2:(t843 == t844) = false:=by simpa using c11))
    (try (have c11b3:¬ (t843 = t844):=by simpa using c11))
    clear c11
    exact absurd H (zz8)
  ·have c8b0:=beq_eq_false_iff_ne.mpr c8;have c8b1:=bne_iff_ne.mpr c8
   exact absurd H (zz8)
 ·have c5b0:=beq_eq_false_iff_ne.mpr c5;have c5b1:=bne_iff_ne.mpr c5
  exact absurd H (zz8)
end Go.Proofs.YtfkmbjkmlfnapaaDoor.QA
