import Derived.Test.YtfkmbjkmlfnapaaDoorMCQAx0
import Derived.Test.YtfkmbjkmlfnapaaDoorMCQAx9
import Derived.Test.YtfkmbjkmlfnapaaDoorMCQAx11
import Derived.Test.YtfkmbjkmlfnapaaDoorMCQAx22
namespace Go.Proofs.YtfkmbjkmlfnapaaDoor.QA
open Go.RowKit Go.Proofs.YtfkmbjkmlfnapaaDoorW.PrintWords Go.Proofs.YtfkmbjkmlfnapaaDoorW.PrintLast Go.Proofs.YtfkmbjkmlfnapaaDoorW.PrintMore
attribute [local go_sem] yG yF yP yO yA yB yH yE
set_option linter.unusedVariables false
set_option linter.unusedSimpArgs false
def U8.f (k:Nat) (a0_0:Bool) (l0_1:List Int) (a1_0:Bool) (l1_1:List Int):Option (Int):=(U13.f k a0_0 l0_1).bind fun t1032=>((U13.f k a1_0 l1_1).bind fun t1033=>(if t1032 < t1033 then (some (-1)) else (if t1032 > t1033 then (some 1) else (if t1032 < 0 then ((U29.f k l1_1 l0_1).bind fun t1034=>(some t1034)) else ((U29.f k l0_1 l1_1).bind fun t1035=>(some t1035))))))
theorem zm15_0 {P:Prop} (h:P:=by repeat' first|(with_reducible first|exact U13.mono ..|exact U29.mono ..|exact LeO.refl _|exact LeO.none _|refine LeO.ite ?_ ?_|refine LeO.bind ?_ (fun _=>?_))|exact U13.mono ..|exact U29.mono ..|exact LeO.none _|refine LeO.ite ?_ ?_|refine LeO.bind ?_ (fun _=>?_)):P:=h
theorem U8.mono:∀ a0 a1 a2 a3 k,LeO (U8.f k a0 a1 a2 a3) (U8.f (k+1) a0 a1 a2 a3):=by
 intro a0 a1 a2 a3 k;unfold U8.f
 exact zm15_0
set_option maxHeartbeats 8000000 in
set_option maxRecDepth 100000 in
theorem U8.calls (k:Nat) (a0_0:Bool) (A0_1:Option Addr) (c0_1:Nat) (l0_1:List Int) (a1_0:Bool) (A1_1:Option Addr) (c1_1:Nat) (l1_1:List Int) (r:Int) (w:World) (hr0_1:Kd.C (Kd.int .u32) w A0_1 l0_1.length l0_1) (hc0_1:l0_1.length≤c0_1) (hr1_1:Kd.C (Kd.int .u32) w A1_1 l1_1.length l1_1) (hc1_1:l1_1.length≤c1_1) (h:U8.f k a0_0 l0_1 a1_0 l1_1 = some r) :
  Calls Tryd.prog 66 #[.agg #[.bool a0_0,.slice A0_1 l0_1.length c0_1],.agg #[.bool a1_0,.slice A1_1 l1_1.length c1_1]] w fun e w'=>e = .returned (.int .i64 r)∧Below w.heap.size w w':=by
 have hu47:=Tryd.underlying47;have HR0_1:=wA.mk hr0_1;have HC0_1:=wA.mk hc0_1;clear hr0_1 hc0_1;have HR1_1:=wA.mk hr1_1;have HC1_1:=wA.mk hc1_1;clear hr1_1 hc1_1;have HB:=wA.mk (Below.refl w.heap.size w);have H:((U13.f k a0_0 l0_1).bind fun t1032=>((U13.f k a1_0 l1_1).bind fun t1033=>(if t1032 < t1033 then (some (-1)) else (if t1032 > t1033 then (some 1) else (if t1032 < 0 then ((U29.f k l1_1 l0_1).bind fun t1034=>(some t1034)) else ((U29.f k l0_1 l1_1).bind fun t1035=>(some t1035))))))) = some r:=h;clear h;replace H:=zzb H;obtain ⟨t1032,A3,H⟩:=H;replace H:=zzb H;obtain ⟨t1033,A4,H⟩:=H;replace H:=zzj H;rcases H with ⟨c5,H⟩|⟨c5,H⟩
 ·have c5b0:=decide_eq_true c5;clear c5;obtain rfl:=Option.some.inj H;go_enter Tryd.func66,Tryd.ntmps66
  try go_wp2_with (first|((with_reducible refine wK (N:=2) rfl ?_);refine wM ?hg (N:=2) ?hd (cs:=#[.bool a0_0,.slice A0_1 l0_1.length c0_1]) (t:=47) ?hr ?_;(case hd=>rfl);(case hg=>rfl);(case hr=>exact zz205);intro gb1030 hg w6 hbox hb;have BK1030:=wA.mk (hbox);have GW1030:=wA.mk ((by rw [hg];exact (wB (zz10)):w.heap.size≤gb1030));have GE1030:=wA.mk ((by rw [hg];exact (wB (zz10)):w.heap.size≤gb1030));replace HB:=wA.mk (wG (zz10) hb);clear hb hbox hg)|((with_reducible refine wK (N:=3) rfl ?_);refine wM ?hg (N:=3) ?hd (cs:=#[.bool a1_0,.slice A1_1 l1_1.length c1_1]) (t:=47) ?hr ?_;(case hd=>rfl);(case hg=>rfl);(case hr=>exact zz205);intro gb1031 hg w7 hbox hb;have BK1031:=wA.mk (hbox);have GW1031:=wA.mk ((by rw [hg];exact (wB (have h0_:=GE1030;zz13)):w.heap.size≤gb1031));have GE1031:=wA.mk ((by rw [hg];exact (wB (have h0_:=GE1030;zz13)):w.heap.size≤gb1031));replace HB:=wA.mk (wG (have h0_:=GE1030;zz13) hb);have NB1030_1031:=wA.mk ((by rw [hg];exact Nat.ne_of_lt (wJ (g:=gb1030) (o:=.cells #[.bool a0_0,.slice A0_1 l0_1.length c0_1] 47 (0,0)) (zz145)):gb1030 ≠ gb1031));have NB1031_1030:=wA.mk ((by rw [hg];exact Nat.ne_of_gt (wJ (g:=gb1030) (o:=.cells #[.bool a0_0,.slice A0_1 l0_1.length c0_1] 47 (0,0)) (zz145)):gb1031 ≠ gb1030));replace BK1030:=wA.mk (wC (zz145) hb);clear hb hbox hg))
  replace BK1030:=wA.mk (wF BK1030.out);replace BK1031:=wA.mk (wF BK1031.out);replace HB:=wA.mk (wR HB.out);refine zC (n:=6) (S:=fun w'=>w'.cell? ⟨gb1030,0,none⟩ = some (.bool a0_0)∧w'.cell? ⟨gb1030,1,none⟩ = some (.slice A0_1 l0_1.length c0_1)∧w'.cell? ⟨gb1031,0,none⟩ = some (.bool a1_0)∧w'.cell? ⟨gb1031,1,none⟩ = some (.slice A1_1 l1_1.length c1_1)) (ds:=[]) #[false,false,false,false,false,false] (zz0) rfl rfl ⟨(wI BK1030.out 0).trans rfl,(wI BK1030.out 1).trans rfl,(wI BK1031.out 0).trans rfl,(wI BK1031.out 1).trans rfl⟩ (fun hHeld=>?_)
  generalize w7.drew = w8 at BK1030 BK1031 HB hHeld ⊢
  refine take_ (i:=0) (N:=some 7) (v:=?_) (a':=?_) #[true,false,false,false,false,false] rfl rfl (zz0) (fun _ _ _ h=>h) (Or.inl ⟨zz9,?_⟩) hHeld ?_ ?_;rotate_left
  ·rintro w' ⟨s0,s1,s2,s3⟩
   go_simp
   with_reducible rfl
  rotate_left
  ·simp only [zzs]
   rfl
  refine take_ (i:=2) (N:=some 9) (v:=?_) (a':=?_) #[true,false,true,false,false,false] rfl rfl (zz0) (fun _ _ _ h=>h) (Or.inl ⟨zz9,?_⟩) hHeld ?_ ?_;rotate_left
  ·rintro w' ⟨s0,s1,s2,s3⟩
   go_simp
   with_reducible rfl
  rotate_left
  ·simp only [zzs]
   rfl
  refine yW (i:=1) (N:=some 8) #[true,true,true,false,false,false] rfl rfl (zz0) (zz17) (fun K hK=>?_);refine yN Tryd.func69 (zz0) rfl #[.agg #[.bool a0_0,.slice A0_1 l0_1.length c0_1]] (zz9) rfl rfl (zz5) ?_
  with_reducible refine (U13.calls k a0_0 _ _ l0_1 t1032 _ ?side1 ?side2 A3.out).mono ?_
  (case side1=>exact zz216)
  (case side2=>exact zz217)
  rintro e w9 ⟨rfl,hb⟩;refine ⟨_,rfl,?_⟩;replace BK1030:=wA.mk (wC (zz145) hb);replace BK1031:=wA.mk (wC (have h0_:=BK1031;zz12) hb);replace HB:=wA.mk (wG (zz146) hb)
  (try clear hb)
  refine hK.out _ _ ⟨(wI BK1030.out 0).trans rfl,(wI BK1030.out 1).trans rfl,(wI BK1031.out 0).trans rfl,(wI BK1031.out 1).trans rfl⟩ (fun hHeld=>?_);clear hK K;refine yJ (a':=?_) ?_ ?_;rotate_left
  ·show Act.put _ (some 8) _ = _
   simp only [zzs]
   rfl
  refine yW (i:=3) (N:=some 10) #[true,true,true,true,false,false] rfl rfl (zz0) (zz17) (fun K hK=>?_);refine yN Tryd.func69 (zz0) rfl #[.agg #[.bool a1_0,.slice A1_1 l1_1.length c1_1]] (zz9) rfl rfl (zz5) ?_
  with_reducible refine (U13.calls k a1_0 _ _ l1_1 t1033 _ ?side1 ?side2 A4.out).mono ?_
  (case side1=>exact (have h0_:=HR1_1;zz206))
  (case side2=>exact HC1_1.out)
  rintro e w10 ⟨rfl,hb⟩;refine ⟨_,rfl,?_⟩;replace BK1030:=wA.mk (wC (zz145) hb);replace BK1031:=wA.mk (wC (have h0_:=BK1031;zz12) hb);replace HB:=wA.mk (wG (zz146) hb)
  (try clear hb)
  (try clear hb2)
  (try clear hk)
  (try clear hi)
  refine hK.out _ _ ⟨(wI BK1030.out 0).trans rfl,(wI BK1030.out 1).trans rfl,(wI BK1031.out 0).trans rfl,(wI BK1031.out 1).trans rfl⟩ (fun hHeld=>?_);clear hK K;refine yJ (a':=?_) ?_ ?_;rotate_left
  ·show Act.put _ (some 10) _ = _
   simp only [zzs]
   rfl
  refine zW (i:=4) (N:=some 5) (v:=?_) (a':=?_) #[true,true,true,true,true,false] rfl rfl (zz0) (fun _ _ _ h=>h) (Or.inl ⟨zz9,?_⟩) ?_ ?_;rotate_left
  ·intro w'
   go_simp
   with_reducible rfl
  rotate_left
  ·simp only [zzs]
   rfl
  refine zW (i:=5) (N:=some 6) (v:=?_) (a':=?_) #[true,true,true,true,true,true] rfl rfl (zz0) (fun _ _ _ h=>h) (Or.inl ⟨zz9,?_⟩) ?_ ?_;rotate_left
  ·intro w'
   go_simp
   with_reducible rfl
  rotate_left
  ·simp only [zzs]
   rfl
  refine zN (zz0) ?_
  try go_wp2
  go_ret
  exact ⟨zz14,zz146⟩
 ·have c5b0:=decide_eq_false c5;clear c5;replace H:=zzj H;rcases H with ⟨c11,H⟩|⟨c11,H⟩
  ·have c11b0:=decide_eq_true c11;clear c11;obtain rfl:=Option.some.inj H;go_enter Tryd.func66,Tryd.ntmps66
   try go_wp2_with (first|((with_reducible refine wK (N:=2) rfl ?_);refine wM ?hg (N:=2) ?hd (cs:=#[.bool a0_0,.slice A0_1 l0_1.length c0_1]) (t:=47) ?hr ?_;(case hd=>rfl);(case hg=>rfl);(case hr=>exact zz205);intro gb1030 hg w12 hbox hb;have BK1030:=wA.mk (hbox);have GW1030:=wA.mk ((by rw [hg];exact (wB (zz10)):w.heap.size≤gb1030));have GE1030:=wA.mk ((by rw [hg];exact (wB (zz10)):w.heap.size≤gb1030));replace HB:=wA.mk (wG (zz10) hb);clear hb hbox hg)|((with_reducible refine wK (N:=3) rfl ?_);refine wM ?hg (N:=3) ?hd (cs:=#[.bool a1_0,.slice A1_1 l1_1.length c1_1]) (t:=47) ?hr ?_;(case hd=>rfl);(case hg=>rfl);(case hr=>exact zz205);intro gb1031 hg w13 hbox hb;have BK1031:=wA.mk (hbox);have GW1031:=wA.mk ((by rw [hg];exact (wB (have h0_:=GE1030;zz13)):w.heap.size≤gb1031));have GE1031:=wA.mk ((by rw [hg];exact (wB (have h0_:=GE1030;zz13)):w.heap.size≤gb1031));replace HB:=wA.mk (wG (have h0_:=GE1030;zz13) hb);have NB1030_1031:=wA.mk ((by rw [hg];exact Nat.ne_of_lt (wJ (g:=gb1030) (o:=.cells #[.bool a0_0,.slice A0_1 l0_1.length c0_1] 47 (0,0)) (zz145)):gb1030 ≠ gb1031));have NB1031_1030:=wA.mk ((by rw [hg];exact Nat.ne_of_gt (wJ (g:=gb1030) (o:=.cells #[.bool a0_0,.slice A0_1 l0_1.length c0_1] 47 (0,0)) (zz145)):gb1031 ≠ gb1030));replace BK1030:=wA.mk (wC (zz145) hb);clear hb hbox hg))
   replace BK1030:=wA.mk (wF BK1030.out);replace BK1031:=wA.mk (wF BK1031.out);replace HB:=wA.mk (wR HB.out);refine zC (n:=6) (S:=fun w'=>w'.cell? ⟨gb1030,0,none⟩ = some (.bool a0_0)∧w'.cell? ⟨gb1030,1,none⟩ = some (.slice A0_1 l0_1.length c0_1)∧w'.cell? ⟨gb1031,0,none⟩ = some (.bool a1_0)∧w'.cell? ⟨gb1031,1,none⟩ = some (.slice A1_1 l1_1.length c1_1)) (ds:=[]) #[false,false,false,false,false,false] (zz0) rfl rfl ⟨(wI BK1030.out 0).trans rfl,(wI BK1030.out 1).trans rfl,(wI BK1031.out 0).trans rfl,(wI BK1031.out 1).trans rfl⟩ (fun hHeld=>?_)
   generalize w13.drew = w14 at BK1030 BK1031 HB hHeld ⊢
   refine take_ (i:=0) (N:=some 7) (v:=?_) (a':=?_) #[true,false,false,false,false,false] rfl rfl (zz0) (fun _ _ _ h=>h) (Or.inl ⟨zz9,?_⟩) hHeld ?_ ?_;rotate_left
   ·rintro w' ⟨s0,s1,s2,s3⟩
    go_simp
    with_reducible rfl
   rotate_left
   ·simp only [zzs]
    rfl
   refine take_ (i:=2) (N:=some 9) (v:=?_) (a':=?_) #[true,false,true,false,false,false] rfl rfl (zz0) (fun _ _ _ h=>h) (Or.inl ⟨zz9,?_⟩) hHeld ?_ ?_;rotate_left
   ·rintro w' ⟨s0,s1,s2,s3⟩
    go_simp
    with_reducible rfl
   rotate_left
   ·simp only [zzs]
    rfl
   refine yW (i:=1) (N:=some 8) #[true,true,true,false,false,false] rfl rfl (zz0) (zz17) (fun K hK=>?_);refine yN Tryd.func69 (zz0) rfl #[.agg #[.bool a0_0,.slice A0_1 l0_1.length c0_1]] (zz9) rfl rfl (zz5) ?_
   with_reducible refine (U13.calls k a0_0 _ _ l0_1 t1032 _ ?side1 ?side2 A3.out).mono ?_
   (case side1=>exact zz216)
   (case side2=>exact zz217)
   rintro e w15 ⟨rfl,hb⟩;refine ⟨_,rfl,?_⟩;replace BK1030:=wA.mk (wC (zz145) hb);replace BK1031:=wA.mk (wC (have h0_:=BK1031;zz12) hb);replace HB:=wA.mk (wG (zz146) hb)
   (try clear hb)
   refine hK.out _ _ ⟨(wI BK1030.out 0).trans rfl,(wI BK1030.out 1).trans rfl,(wI BK1031.out 0).trans rfl,(wI BK1031.out 1).trans rfl⟩ (fun hHeld=>?_);clear hK K;refine yJ (a':=?_) ?_ ?_;rotate_left
   ·show Act.put _ (some 8) _ = _
    simp only [zzs]
    rfl
   refine yW (i:=3) (N:=some 10) #[true,true,true,true,false,false] rfl rfl (zz0) (zz17) (fun K hK=>?_);refine yN Tryd.func69 (zz0) rfl #[.agg #[.bool a1_0,.slice A1_1 l1_1.length c1_1]] (zz9) rfl rfl (zz5) ?_
   with_reducible refine (U13.calls k a1_0 _ _ l1_1 t1033 _ ?side1 ?side2 A4.out).mono ?_
   (case side1=>exact (have h0_:=HR1_1;zz206))
   (case side2=>exact HC1_1.out)
   rintro e w16 ⟨rfl,hb⟩;refine ⟨_,rfl,?_⟩;replace BK1030:=wA.mk (wC (zz145) hb);replace BK1031:=wA.mk (wC (have h0_:=BK1031;zz12) hb);replace HB:=wA.mk (wG (zz146) hb)
   (try clear hb)
   (try clear hb2)
   (try clear hk)
   (try clear hi)
   refine hK.out _ _ ⟨(wI BK1030.out 0).trans rfl,(wI BK1030.out 1).trans rfl,(wI BK1031.out 0).trans rfl,(wI BK1031.out 1).trans rfl⟩ (fun hHeld=>?_);clear hK K;refine yJ (a':=?_) ?_ ?_;rotate_left
   ·show Act.put _ (some 10) _ = _
    simp only [zzs]
    rfl
   refine zW (i:=4) (N:=some 5) (v:=?_) (a':=?_) #[true,true,true,true,true,false] rfl rfl (zz0) (fun _ _ _ h=>h) (Or.inl ⟨zz9,?_⟩) ?_ ?_;rotate_left
   ·intro w'
    go_simp
    with_reducible rfl
   rotate_left
   ·simp only [zzs]
    rfl
   refine zW (i:=5) (N:=some 6) (v:=?_) (a':=?_) #[true,true,true,true,true,true] rfl rfl (zz0) (fun _ _ _ h=>h) (Or.inl ⟨zz9,?_⟩) ?_ ?_;rotate_left
   ·intro w'
    go_simp
    with_reducible rfl
   rotate_left
   ·simp only [zzs]
    rfl
   refine zN (zz0) ?_
   try go_wp2
   go_ret
   exact ⟨zz14,zz146⟩
  ·have c11b0:=decide_eq_false c11;clear c11;replace H:=zzj H;rcases H with ⟨c17,H⟩|⟨c17,H⟩
   ·have c17b0:=decide_eq_true c17;clear c17;replace H:=zzb H;obtain ⟨t1034,A18,H⟩:=H;obtain rfl:=Option.some.inj H;go_enter Tryd.func66,Tryd.ntmps66
    try go_wp2_with (first|((with_reducible refine wK (N:=2) rfl ?_);refine wM ?hg (N:=2) ?hd (cs:=#[.bool a0_0,.slice A0_1 l0_1.length c0_1]) (t:=47) ?hr ?_;(case hd=>rfl);(case hg=>rfl);(case hr=>exact zz205);intro gb1030 hg w19 hbox hb;have BK1030:=wA.mk (hbox);have GW1030:=wA.mk ((by rw [hg];exact (wB (zz10)):w.heap.size≤gb1030));have GE1030:=wA.mk ((by rw [hg];exact (wB (zz10)):w.heap.size≤gb1030));replace HB:=wA.mk (wG (zz10) hb);clear hb hbox hg)|((with_reducible refine wK (N:=3) rfl ?_);refine wM ?hg (N:=3) ?hd (cs:=#[.bool a1_0,.slice A1_1 l1_1.length c1_1]) (t:=47) ?hr ?_;(case hd=>rfl);(case hg=>rfl);(case hr=>exact zz205);intro gb1031 hg w20 hbox hb;have BK1031:=wA.mk (hbox);have GW1031:=wA.mk ((by rw [hg];exact (wB (have h0_:=GE1030;zz13)):w.heap.size≤gb1031));have GE1031:=wA.mk ((by rw [hg];exact (wB (have h0_:=GE1030;zz13)):w.heap.size≤gb1031));replace HB:=wA.mk (wG (have h0_:=GE1030;zz13) hb);have NB1030_1031:=wA.mk ((by rw [hg];exact Nat.ne_of_lt (wJ (g:=gb1030) (o:=.cells #[.bool a0_0,.slice A0_1 l0_1.length c0_1] 47 (0,0)) (zz145)):gb1030 ≠ gb1031));have NB1031_1030:=wA.mk ((by rw [hg];exact Nat.ne_of_gt (wJ (g:=gb1030) (o:=.cells #[.bool a0_0,.slice A0_1 l0_1.length c0_1] 47 (0,0)) (zz145)):gb1031 ≠ gb1030));replace BK1030:=wA.mk (wC (zz145) hb);clear hb hbox hg))
    replace BK1030:=wA.mk (wF BK1030.out);replace BK1031:=wA.mk (wF BK1031.out);replace HB:=wA.mk (wR HB.out);refine zC (n:=6) (S:=fun w'=>w'.cell? ⟨gb1030,0,none⟩ = some (.bool a0_0)∧w'.cell? ⟨gb1030,1,none⟩ = some (.slice A0_1 l0_1.length c0_1)∧w'.cell? ⟨gb1031,0,none⟩ = some (.bool a1_0)∧w'.cell? ⟨gb1031,1,none⟩ = some (.slice A1_1 l1_1.length c1_1)) (ds:=[]) #[false,false,false,false,false,false] (zz0) rfl rfl ⟨(wI BK1030.out 0).trans rfl,(wI BK1030.out 1).trans rfl,(wI BK1031.out 0).trans rfl,(wI BK1031.out 1).trans rfl⟩ (fun hHeld=>?_)
    generalize w20.drew = w21 at BK1030 BK1031 HB hHeld ⊢
    refine take_ (i:=0) (N:=some 7) (v:=?_) (a':=?_) #[true,false,false,false,false,false] rfl rfl (zz0) (fun _ _ _ h=>h) (Or.inl ⟨zz9,?_⟩) hHeld ?_ ?_;rotate_left
    ·rintro w' ⟨s0,s1,s2,s3⟩
     go_simp
     with_reducible rfl
    rotate_left
    ·simp only [zzs]
     rfl
    refine take_ (i:=2) (N:=some 9) (v:=?_) (a':=?_) #[true,false,true,false,false,false] rfl rfl (zz0) (fun _ _ _ h=>h) (Or.inl ⟨zz9,?_⟩) hHeld ?_ ?_;rotate_left
    ·rintro w' ⟨s0,s1,s2,s3⟩
     go_simp
     with_reducible rfl
    rotate_left
    ·simp only [zzs]
     rfl
    refine yW (i:=1) (N:=some 8) #[true,true,true,false,false,false] rfl rfl (zz0) (zz17) (fun K hK=>?_);refine yN Tryd.func69 (zz0) rfl #[.agg #[.bool a0_0,.slice A0_1 l0_1.length c0_1]] (zz9) rfl rfl (zz5) ?_
    with_reducible refine (U13.calls k a0_0 _ _ l0_1 t1032 _ ?side1 ?side2 A3.out).mono ?_
    (case side1=>exact zz216)
    (case side2=>exact zz217)
    rintro e w22 ⟨rfl,hb⟩;refine ⟨_,rfl,?_⟩;replace BK1030:=wA.mk (wC (zz145) hb);replace BK1031:=wA.mk (wC (have h0_:=BK1031;zz12) hb);replace HB:=wA.mk (wG (zz146) hb)
    (try clear hb)
    refine hK.out _ _ ⟨(wI BK1030.out 0).trans rfl,(wI BK1030.out 1).trans rfl,(wI BK1031.out 0).trans rfl,(wI BK1031.out 1).trans rfl⟩ (fun hHeld=>?_);clear hK K;refine yJ (a':=?_) ?_ ?_;rotate_left
    ·show Act.put _ (some 8) _ = _
     simp only [zzs]
     rfl
    refine yW (i:=3) (N:=some 10) #[true,true,true,true,false,false] rfl rfl (zz0) (zz17) (fun K hK=>?_);refine yN Tryd.func69 (zz0) rfl #[.agg #[.bool a1_0,.slice A1_1 l1_1.length c1_1]] (zz9) rfl rfl (zz5) ?_
    with_reducible refine (U13.calls k a1_0 _ _ l1_1 t1033 _ ?side1 ?side2 A4.out).mono ?_
    (case side1=>exact (have h0_:=HR1_1;zz206))
    (case side2=>exact HC1_1.out)
    rintro e w23 ⟨rfl,hb⟩;refine ⟨_,rfl,?_⟩;replace BK1030:=wA.mk (wC (zz145) hb);replace BK1031:=wA.mk (wC (have h0_:=BK1031;zz12) hb);replace HB:=wA.mk (wG (zz146) hb)
    (try clear hb)
    (try clear hb2)
    (try clear hk)
    (try clear hi)
    refine hK.out _ _ ⟨(wI BK1030.out 0).trans rfl,(wI BK1030.out 1).trans rfl,(wI BK1031.out 0).trans rfl,(wI BK1031.out 1).trans rfl⟩ (fun hHeld=>?_);clear hK K;refine yJ (a':=?_) ?_ ?_;rotate_left
    ·show Act.put _ (some 10) _ = _
     simp only [zzs]
     rfl
    refine zW (i:=4) (N:=some 5) (v:=?_) (a':=?_) #[true,true,true,true,true,false] rfl rfl (zz0) (fun _ _ _ h=>h) (Or.inl ⟨zz9,?_⟩) ?_ ?_;rotate_left
    ·intro w'
     go_simp
     with_reducible rfl
    rotate_left
    ·simp only [zzs]
     rfl
    refine zW (i:=5) (N:=some 6) (v:=?_) (a':=?_) #[true,true,true,true,true,true] rfl rfl (zz0) (fun _ _ _ h=>h) (Or.inl ⟨zz9,?_⟩) ?_ ?_;rotate_left
    ·intro w'
     go_simp
     with_reducible rfl
    rotate_left
    ·simp only [zzs]
     rfl
    refine zN (zz0) ?_;have hnb24:=NB1031_1030.out;have hnc24:=NB1030_1031.out;obtain ⟨hcz25_0,hcz25_1,hfz25_0,hfz25_1⟩:=zc2 BK1031.out;obtain ⟨hcz26_0,hcz26_1,hfz26_0,hfz26_1⟩:=zc2 BK1030.out
    try go_wp2_with (first|((with_reducible refine wH (f:=72) rfl ?_);refine wO (some 26) rfl rfl Tryd.func72 (zz0) rfl #[.slice A1_1 l1_1.length c1_1,.slice A0_1 l0_1.length c0_1] rfl (zz5) ?_;(with_reducible refine (U29.calls k _ _ l1_1 _ _ l0_1 t1034 _ ?_ ?_ ?_ ?_ A18.out).mono ?_);(exact (have h0_:=HR1_1;zz206));exact HC1_1.out;exact zz216;exact zz217;rintro e w27 ⟨rfl,hb⟩;refine ⟨_,rfl,?_⟩;replace BK1030:=wA.mk (wC (zz145) hb);replace BK1031:=wA.mk (wC (have h0_:=BK1031;zz12) hb);replace HB:=wA.mk (wG (zz146) hb);(try clear hb)))
    go_ret
    exact ⟨zz14,zz146⟩
   ·have c17b0:=decide_eq_false c17;clear c17;replace H:=zzb H;obtain ⟨t1035,A28,H⟩:=H;obtain rfl:=Option.some.inj H;go_enter Tryd.func66,Tryd.ntmps66
    try go_wp2_with (first|((with_reducible refine wK (N:=2) rfl ?_);refine wM ?hg (N:=2) ?hd (cs:=#[.bool a0_0,.slice A0_1 l0_1.length c0_1]) (t:=47) ?hr ?_;(case hd=>rfl);(case hg=>rfl);(case hr=>exact zz205);intro gb1030 hg w29 hbox hb;have BK1030:=wA.mk (hbox);have GW1030:=wA.mk ((by rw [hg];exact (wB (zz10)):w.heap.size≤gb1030));have GE1030:=wA.mk ((by rw [hg];exact (wB (zz10)):w.heap.size≤gb1030));replace HB:=wA.mk (wG (zz10) hb);clear hb hbox hg)|((with_reducible refine wK (N:=3) rfl ?_);refine wM ?hg (N:=3) ?hd (cs:=#[.bool a1_0,.slice A1_1 l1_1.length c1_1]) (t:=47) ?hr ?_;(case hd=>rfl);(case hg=>rfl);(case hr=>exact zz205);intro gb1031 hg w30 hbox hb;have BK1031:=wA.mk (hbox);have GW1031:=wA.mk ((by rw [hg];exact (wB (have h0_:=GE1030;zz13)):w.heap.size≤gb1031));have GE1031:=wA.mk ((by rw [hg];exact (wB (have h0_:=GE1030;zz13)):w.heap.size≤gb1031));replace HB:=wA.mk (wG (have h0_:=GE1030;zz13) hb);have NB1030_1031:=wA.mk ((by rw [hg];exact Nat.ne_of_lt (wJ (g:=gb1030) (o:=.cells #[.bool a0_0,.slice A0_1 l0_1.length c0_1] 47 (0,0)) (zz145)):gb1030 ≠ gb1031));have NB1031_1030:=wA.mk ((by rw [hg];exact Nat.ne_of_gt (wJ (g:=gb1030) (o:=.cells #[.bool a0_0,.slice A0_1 l0_1.length c0_1] 47 (0,0)) (zz145)):gb1031 ≠ gb1030));replace BK1030:=wA.mk (wC (zz145) hb);clear hb hbox hg))
    replace BK1030:=wA.mk (wF BK1030.out);replace BK1031:=wA.mk (wF BK1031.out);replace HB:=wA.mk (wR HB.out);refine zC (n:=6) (S:=fun w'=>w'.cell? ⟨gb1030,0,none⟩ = some (.bool a0_0)∧w'.cell? ⟨gb1030,1,none⟩ = some (.slice A0_1 l0_1.length c0_1)∧w'.cell? ⟨gb1031,0,none⟩ = some (.bool a1_0)∧w'.cell? ⟨gb1031,1,none⟩ = some (.slice A1_1 l1_1.length c1_1)) (ds:=[]) #[false,false,false,false,false,false] (zz0) rfl rfl ⟨(wI BK1030.out 0).trans rfl,(wI BK1030.out 1).trans rfl,(wI BK1031.out 0).trans rfl,(wI BK1031.out 1).trans rfl⟩ (fun hHeld=>?_)
    generalize w30.drew = w31 at BK1030 BK1031 HB hHeld ⊢
    refine take_ (i:=0) (N:=some 7) (v:=?_) (a':=?_) #[true,false,false,false,false,false] rfl rfl (zz0) (fun _ _ _ h=>h) (Or.inl ⟨zz9,?_⟩) hHeld ?_ ?_;rotate_left
    ·rintro w' ⟨s0,s1,s2,s3⟩
     go_simp
     with_reducible rfl
    rotate_left
    ·simp only [zzs]
     rfl
    refine take_ (i:=2) (N:=some 9) (v:=?_) (a':=?_) #[true,false,true,false,false,false] rfl rfl (zz0) (fun _ _ _ h=>h) (Or.inl ⟨zz9,?_⟩) hHeld ?_ ?_;rotate_left
    ·rintro w' ⟨s0,s1,s2,s3⟩
     go_simp
     with_reducible rfl
    rotate_left
    ·simp only [zzs]
     rfl
    refine yW (i:=1) (N:=some 8) #[true,true,true,false,false,false] rfl rfl (zz0) (zz17) (fun K hK=>?_);refine yN Tryd.func69 (zz0) rfl #[.agg #[.bool a0_0,.slice A0_1 l0_1.length c0_1]] (zz9) rfl rfl (zz5) ?_
    with_reducible refine (U13.calls k a0_0 _ _ l0_1 t1032 _ ?side1 ?side2 A3.out).mono ?_
    (case side1=>exact zz216)
    (case side2=>exact zz217)
    rintro e w32 ⟨rfl,hb⟩;refine ⟨_,rfl,?_⟩;replace BK1030:=wA.mk (wC (zz145) hb);replace BK1031:=wA.mk (wC (have h0_:=BK1031;zz12) hb);replace HB:=wA.mk (wG (zz146) hb)
    (try clear hb)
    refine hK.out _ _ ⟨(wI BK1030.out 0).trans rfl,(wI BK1030.out 1).trans rfl,(wI BK1031.out 0).trans rfl,(wI BK1031.out 1).trans rfl⟩ (fun hHeld=>?_);clear hK K;refine yJ (a':=?_) ?_ ?_;rotate_left
    ·show Act.put _ (some 8) _ = _
     simp only [zzs]
     rfl
    refine yW (i:=3) (N:=some 10) #[true,true,true,true,false,false] rfl rfl (zz0) (zz17) (fun K hK=>?_);refine yN Tryd.func69 (zz0) rfl #[.agg #[.bool a1_0,.slice A1_1 l1_1.length c1_1]] (zz9) rfl rfl (zz5) ?_
    with_reducible refine (U13.calls k a1_0 _ _ l1_1 t1033 _ ?side1 ?side2 A4.out).mono ?_
    (case side1=>exact (have h0_:=HR1_1;zz206))
    (case side2=>exact HC1_1.out)
    rintro e w33 ⟨rfl,hb⟩;refine ⟨_,rfl,?_⟩;replace BK1030:=wA.mk (wC (zz145) hb);replace BK1031:=wA.mk (wC (have h0_:=BK1031;zz12) hb);replace HB:=wA.mk (wG (zz146) hb)
    (try clear hb)
    (try clear hb2)
    (try clear hk)
    (try clear hi)
    refine hK.out _ _ ⟨(wI BK1030.out 0).trans rfl,(wI BK1030.out 1).trans rfl,(wI BK1031.out 0).trans rfl,(wI BK1031.out 1).trans rfl⟩ (fun hHeld=>?_);clear hK K;refine yJ (a':=?_) ?_ ?_;rotate_left
    ·show Act.put _ (some 10) _ = _
     simp only [zzs]
     rfl
    refine zW (i:=4) (N:=some 5) (v:=?_) (a':=?_) #[true,true,true,true,true,false] rfl rfl (zz0) (fun _ _ _ h=>h) (Or.inl ⟨zz9,?_⟩) ?_ ?_;rotate_left
    ·intro w'
     go_simp
     with_reducible rfl
    rotate_left
    ·simp only [zzs]
     rfl
    refine zW (i:=5) (N:=some 6) (v:=?_) (a':=?_) #[true,true,true,true,true,true] rfl rfl (zz0) (fun _ _ _ h=>h) (Or.inl ⟨zz9,?_⟩) ?_ ?_;rotate_left
    ·intro w'
     go_simp
     with_reducible rfl
    rotate_left
    ·simp only [zzs]
     rfl
    refine zN (zz0) ?_;have hnb34:=NB1030_1031.out;have hnc34:=NB1031_1030.out;obtain ⟨hcz35_0,hcz35_1,hfz35_0,hfz35_1⟩:=zc2 BK1030.out;obtain ⟨hcz36_0,hcz36_1,hfz36_0,hfz36_1⟩:=zc2 BK1031.out
    try go_wp2_with (first|((with_reducible refine wH (f:=72) rfl ?_);refine wO (some 31) rfl rfl Tryd.func72 (zz0) rfl #[.slice A0_1 l0_1.length c0_1,.slice A1_1 l1_1.length c1_1] rfl (zz5) ?_;(with_reducible refine (U29.calls k _ _ l0_1 _ _ l1_1 t1035 _ ?_ ?_ ?_ ?_ A28.out).mono ?_);exact zz216;exact zz217;(exact (have h0_:=HR1_1;zz206));exact HC1_1.out;rintro e w37 ⟨rfl,hb⟩;refine ⟨_,rfl,?_⟩;replace BK1030:=wA.mk (wC (zz145) hb);replace BK1031:=wA.mk (wC (have h0_:=BK1031;zz12) hb);replace HB:=wA.mk (wG (zz146) hb);(try clear hb)))
    go_ret
    exact ⟨zz14,zz146⟩
def U39.f (k:Nat) (a0_0:Bool) (l0_1:List Int) (l0_2:List Int) (a1_0:Bool) (l1_1:List Int) (l1_2:List Int):Option (Int):=(U45.f k a0_0 l0_1 l0_2).bind fun bt1038=>((U45.f k a1_0 l1_1 l1_2).bind fun bt1048=>((U10.f k bt1038.1 bt1038.2.1 bt1048.2.2.1 bt1048.2.2.2).bind fun bt1058=>((U10.f k bt1048.1 bt1048.2.1 bt1038.2.2.1 bt1038.2.2.2).bind fun bt1062=>((U8.f k bt1058.1 bt1058.2 bt1062.1 bt1062.2).bind fun t1066=>(some t1066)))))
theorem zm15_1 {P:Prop} (h:P:=by repeat' first|(with_reducible first|exact U8.mono ..|exact U10.mono ..|exact U45.mono ..|exact LeO.refl _|exact LeO.none _|refine LeO.ite ?_ ?_|refine LeO.bind ?_ (fun _=>?_))|exact U8.mono ..|exact U10.mono ..|exact U45.mono ..|exact LeO.none _|refine LeO.ite ?_ ?_|refine LeO.bind ?_ (fun _=>?_)):P:=h
theorem U39.mono:∀ a0 a1 a2 a3 a4 a5 k,LeO (U39.f k a0 a1 a2 a3 a4 a5) (U39.f (k+1) a0 a1 a2 a3 a4 a5):=by
 intro a0 a1 a2 a3 a4 a5 k;unfold U39.f
 exact zm15_1
def U39.T3:Bool × List (List Nat × List Nat):=(true,[([],[]),([],[]),([0,1],[0,1]),([],[]),([],[]),([3,4,2],[3,4]),([2,5,5],[2,5]),([6,6,0,1,2,3,4,5,6],[6])])
def U39.B3:List Nat:=[0,0,3,0,0,31,63,127]
theorem U39.tab3:yX .any (vD Tryd.f34 3) = U39.T3:=zz0
theorem U39.bits3:yQ U39.T3.2 U39.B3 = true:=zz0
set_option maxHeartbeats 8000000 in
set_option maxRecDepth 100000 in
theorem U39.calls (k:Nat) (a0_0:Bool) (A0_1:Option Addr) (c0_1:Nat) (l0_1:List Int) (A0_2:Option Addr) (c0_2:Nat) (l0_2:List Int) (a1_0:Bool) (A1_1:Option Addr) (c1_1:Nat) (l1_1:List Int) (A1_2:Option Addr) (c1_2:Nat) (l1_2:List Int) (r:Int) (w:World) (hr0_1:Kd.C (Kd.int .u32) w A0_1 l0_1.length l0_1) (hc0_1:l0_1.length≤c0_1) (hr0_2:Kd.C (Kd.int .u32) w A0_2 l0_2.length l0_2) (hc0_2:l0_2.length≤c0_2) (hr1_1:Kd.C (Kd.int .u32) w A1_1 l1_1.length l1_1) (hc1_1:l1_1.length≤c1_1) (hr1_2:Kd.C (Kd.int .u32) w A1_2 l1_2.length l1_2) (hc1_2:l1_2.length≤c1_2) (h:U39.f k a0_0 l0_1 l0_2 a1_0 l1_1 l1_2 = some r) :
  Calls Tryd.prog 34 #[.agg #[.bool a0_0,.slice A0_1 l0_1.length c0_1,.slice A0_2 l0_2.length c0_2],.agg #[.bool a1_0,.slice A1_1 l1_1.length c1_1,.slice A1_2 l1_2.length c1_2]] w fun e w'=>e = .returned (.int .i64 r)∧Below w.heap.size w w':=by
 have hu49:=Tryd.underlying49;have hu47:=Tryd.underlying47;have HR0_1:=wA.mk hr0_1;have HC0_1:=wA.mk hc0_1;clear hr0_1 hc0_1;have HR0_2:=wA.mk hr0_2;have HC0_2:=wA.mk hc0_2;clear hr0_2 hc0_2;have HR1_1:=wA.mk hr1_1;have HC1_1:=wA.mk hc1_1;clear hr1_1 hc1_1;have HR1_2:=wA.mk hr1_2;have HC1_2:=wA.mk hc1_2;clear hr1_2 hc1_2;have HB:=wA.mk (Below.refl w.heap.size w);have H:((U45.f k a0_0 l0_1 l0_2).bind fun bt1038=>((U45.f k a1_0 l1_1 l1_2).bind fun bt1048=>((U10.f k bt1038.1 bt1038.2.1 bt1048.2.2.1 bt1048.2.2.2).bind fun bt1058=>((U10.f k bt1048.1 bt1048.2.1 bt1038.2.2.1 bt1038.2.2.2).bind fun bt1062=>((U8.f k bt1058.1 bt1058.2 bt1062.1 bt1062.2).bind fun t1066=>(some t1066)))))) = some r:=h;clear h;replace H:=Option.bind_eq_some_iff.mp H;obtain ⟨⟨t1038,t1039,t1042,t1043⟩,A30,H⟩:=H;have A3:=wA.mk A30;clear A30;replace H:=Option.bind_eq_some_iff.mp H;obtain ⟨⟨t1048,t1049,t1052,t1053⟩,A40,H⟩:=H;have A4:=wA.mk A40;clear A40;replace H:=Option.bind_eq_some_iff.mp H;obtain ⟨⟨t1058,t1059⟩,A50,H⟩:=H;have A5:=wA.mk A50;clear A50;replace H:=Option.bind_eq_some_iff.mp H;obtain ⟨⟨t1062,t1063⟩,A60,H⟩:=H;have A6:=wA.mk A60;clear A60;replace H:=zzb H;obtain ⟨t1066,A7,H⟩:=H;obtain rfl:=Option.some.inj H;go_enter Tryd.func34,Tryd.ntmps34
 try go_wp2_with (first|((with_reducible refine wK (N:=2) rfl ?_);refine wM ?hg (N:=2) ?hd (cs:=#[.bool a0_0,.slice A0_1 l0_1.length c0_1,.slice A0_2 l0_2.length c0_2]) (t:=49) ?hr ?_;(case hd=>rfl);(case hg=>rfl);(case hr=>exact zz205);intro gb1036 hg w8 hbox hb;have BK1036:=wA.mk (hbox);have GW1036:=wA.mk ((by rw [hg];exact (wB (zz10)):w.heap.size≤gb1036));have GE1036:=wA.mk ((by rw [hg];exact (wB (zz10)):w.heap.size≤gb1036));replace HB:=wA.mk (wG (zz10) hb);clear hb hbox hg)|((with_reducible refine wK (N:=3) rfl ?_);refine wM ?hg (N:=3) ?hd (cs:=#[.bool a1_0,.slice A1_1 l1_1.length c1_1,.slice A1_2 l1_2.length c1_2]) (t:=49) ?hr ?_;(case hd=>rfl);(case hg=>rfl);(case hr=>exact zz205);intro gb1037 hg w9 hbox hb;have BK1037:=wA.mk (hbox);have GW1037:=wA.mk ((by rw [hg];exact (wB (have h0_:=GE1036;zz13)):w.heap.size≤gb1037));have GE1037:=wA.mk ((by rw [hg];exact (wB (have h0_:=GE1036;zz13)):w.heap.size≤gb1037));replace HB:=wA.mk (wG (have h0_:=GE1036;zz13) hb);have NB1036_1037:=wA.mk ((by rw [hg];exact Nat.ne_of_lt (wJ (g:=gb1036) (o:=.cells #[.bool a0_0,.slice A0_1 l0_1.length c0_1,.slice A0_2 l0_2.length c0_2] 49 (0,0)) (zz147)):gb1036 ≠ gb1037));have NB1037_1036:=wA.mk ((by rw [hg];exact Nat.ne_of_gt (wJ (g:=gb1036) (o:=.cells #[.bool a0_0,.slice A0_1 l0_1.length c0_1,.slice A0_2 l0_2.length c0_2] 49 (0,0)) (zz147)):gb1037 ≠ gb1036));replace BK1036:=wA.mk (wC (zz147) hb);clear hb hbox hg;have hnb10:=NB1036_1037.out;have hnc10:=NB1037_1036.out;obtain ⟨hcz11_0,hcz11_1,hcz11_2,hfz11_0,hfz11_1,hfz11_2⟩:=zc3 BK1036.out)|((with_reducible refine wH (f:=59) rfl ?_);refine wO (some 11) rfl rfl Tryd.func59 (zz0) rfl #[.agg #[.bool a0_0,.slice A0_1 l0_1.length c0_1,.slice A0_2 l0_2.length c0_2]] rfl (zz5) ?_;(with_reducible refine (U45.calls k a0_0 (fun k_=>k_ < w.heap.size) _ _ l0_1 _ _ l0_2 t1038 t1039 t1042 t1043 _ ?_ ?_ ?_ A3.out).mono ?_);(exact Kd.V_mk HC0_1.out (Kd.F_below (Kd.C_F (Kd.heap_int .u32) HR0_1.out) (have h0_:=GE1036;have h1_:=GE1037;zz51)));(exact (have h0_:=HR0_2;zz206));exact HC0_2.out;rintro e w12 ⟨v1040,v1044,rfl,ho0,ho1,hb⟩;refine ⟨_,rfl,?_⟩;have HO1041:=wA.mk (Kd.V_lower (Kd.V_mono (ok':=fun k_=>some k_ ≠ (v1044:Value).ownBlock∧k_ ≠ gb1036∧k_ ≠ gb1037) ho0 (fun k_ hk_=>⟨hk_.2,Or.elim hk_.1 (fun hs_=>fun e_=>Nat.not_le.2 hs_ (have h0_:=GW1036;zz76)) (fun hn_=>(Kd.freshB (g:=gb1036) (o:=.cells #[.bool a0_0,.slice A0_1 l0_1.length c0_1,.slice A0_2 l0_2.length c0_2] 49 (0,0)) (zz147) k_ hn_)),Or.elim hk_.1 (fun hs_=>fun e_=>Nat.not_le.2 hs_ (have h0_:=GW1037;zz76)) (fun hn_=>(Kd.freshB (g:=gb1037) (o:=.cells #[.bool a1_0,.slice A1_1 l1_1.length c1_1,.slice A1_2 l1_2.length c1_2] 49 (0,0)) (zz148) k_ hn_))⟩)) (wB (have h0_:=GE1036;have h1_:=GE1037;zz51)));have HO1045:=wA.mk (Kd.R_lower (Kd.R_mono (ok':=fun k_=>True) ho1 (fun _ hk_=>trivial)) (wB (have h0_:=GE1036;have h1_:=GE1037;zz51)));replace BK1036:=wA.mk (wC (zz147) hb);replace BK1037:=wA.mk (wC (zz148) hb);replace HB:=wA.mk (wG (have h0_:=GE1036;have h1_:=GE1037;zz51) hb);(try clear hb);(try clear ho0);(try clear ho1))|((with_reducible refine wK (N:=5) rfl ?_);refine wM ?hg (N:=5) ?hd (cs:=#[.bool false,.slice none 0 0]) (t:=47) ?hr ?_;(case hd=>rfl);(case hg=>rfl);(case hr=>exact zz205);intro gb1046 hg w13 hbox hb;replace HO1041:=wA.mk (Kd.V_below (Kd.V_elderB (have h0_:=HO1041;zz31) gb1046 (Nat.le_of_eq hg.symm)) hb);replace HO1045:=wA.mk (Kd.R_below (zz149) hb);have BK1046:=wA.mk (hbox);have GW1046:=wA.mk ((by rw [hg];exact (wB (have h0_:=GE1036;have h1_:=GE1037;zz51)):w.heap.size≤gb1046));have GE1046:=wA.mk ((by rw [hg];exact (wB (have h0_:=GE1036;have h1_:=GE1037;zz51)):w.heap.size≤gb1046));replace HB:=wA.mk (wG (have h0_:=GE1036;have h1_:=GE1037;zz51) hb);have NB1036_1046:=wA.mk ((by rw [hg];exact Nat.ne_of_lt (wJ (g:=gb1036) (o:=.cells #[.bool a0_0,.slice A0_1 l0_1.length c0_1,.slice A0_2 l0_2.length c0_2] 49 (0,0)) (zz147)):gb1036 ≠ gb1046));have NB1046_1036:=wA.mk ((by rw [hg];exact Nat.ne_of_gt (wJ (g:=gb1036) (o:=.cells #[.bool a0_0,.slice A0_1 l0_1.length c0_1,.slice A0_2 l0_2.length c0_2] 49 (0,0)) (zz147)):gb1046 ≠ gb1036));replace BK1036:=wA.mk (wC (zz147) hb);have NB1037_1046:=wA.mk ((by rw [hg];exact Nat.ne_of_lt (wJ (g:=gb1037) (o:=.cells #[.bool a1_0,.slice A1_1 l1_1.length c1_1,.slice A1_2 l1_2.length c1_2] 49 (0,0)) (zz148)):gb1037 ≠ gb1046));have NB1046_1037:=wA.mk ((by rw [hg];exact Nat.ne_of_gt (wJ (g:=gb1037) (o:=.cells #[.bool a1_0,.slice A1_1 l1_1.length c1_1,.slice A1_2 l1_2.length c1_2] 49 (0,0)) (zz148)):gb1046 ≠ gb1037));replace BK1037:=wA.mk (wC (zz148) hb);clear hb hbox hg)|((with_reducible refine wK (N:=6) rfl ?_);refine wM ?hg (N:=6) ?hd (cs:=#[.bool false,.slice none 0 0]) (t:=47) ?hr ?_;(case hd=>rfl);(case hg=>rfl);(case hr=>exact zz205);intro gb1047 hg w14 hbox hb;replace HO1041:=wA.mk (Kd.V_below (Kd.V_elderB (have h0_:=HO1041;zz31) gb1047 (Nat.le_of_eq hg.symm)) hb);replace HO1045:=wA.mk (Kd.R_below (zz149) hb);have BK1047:=wA.mk (hbox);have GW1047:=wA.mk ((by rw [hg];exact (wB (zz151)):w.heap.size≤gb1047));have GE1047:=wA.mk ((by rw [hg];exact (wB (zz151)):w.heap.size≤gb1047));replace HB:=wA.mk (wG (zz151) hb);have NB1036_1047:=wA.mk ((by rw [hg];exact Nat.ne_of_lt (wJ (g:=gb1036) (o:=.cells #[.bool a0_0,.slice A0_1 l0_1.length c0_1,.slice A0_2 l0_2.length c0_2] 49 (0,0)) (zz147)):gb1036 ≠ gb1047));have NB1047_1036:=wA.mk ((by rw [hg];exact Nat.ne_of_gt (wJ (g:=gb1036) (o:=.cells #[.bool a0_0,.slice A0_1 l0_1.length c0_1,.slice A0_2 l0_2.length c0_2] 49 (0,0)) (zz147)):gb1047 ≠ gb1036));replace BK1036:=wA.mk (wC (zz147) hb);have NB1037_1047:=wA.mk ((by rw [hg];exact Nat.ne_of_lt (wJ (g:=gb1037) (o:=.cells #[.bool a1_0,.slice A1_1 l1_1.length c1_1,.slice A1_2 l1_2.length c1_2] 49 (0,0)) (zz148)):gb1037 ≠ gb1047));have NB1047_1037:=wA.mk ((by rw [hg];exact Nat.ne_of_gt (wJ (g:=gb1037) (o:=.cells #[.bool a1_0,.slice A1_1 l1_1.length c1_1,.slice A1_2 l1_2.length c1_2] 49 (0,0)) (zz148)):gb1047 ≠ gb1037));replace BK1037:=wA.mk (wC (zz148) hb);have NB1046_1047:=wA.mk ((by rw [hg];exact Nat.ne_of_lt (wJ (g:=gb1046) (o:=.cells #[.bool false,.slice none 0 0] 47 (0,0)) (zz150)):gb1046 ≠ gb1047));have NB1047_1046:=wA.mk ((by rw [hg];exact Nat.ne_of_gt (wJ (g:=gb1046) (o:=.cells #[.bool false,.slice none 0 0] 47 (0,0)) (zz150)):gb1047 ≠ gb1046));replace BK1046:=wA.mk (wC (zz150) hb);clear hb hbox hg;have hnb15:=NB1046_1036.out;have hnc15:=NB1036_1046.out;have hnb16:=NB1046_1037.out;have hnc16:=NB1037_1046.out;have hnb17:=NB1046_1047.out;have hnc17:=NB1047_1046.out;obtain ⟨hcz18_0,hcz18_1,hfz18_0,hfz18_1⟩:=zc2 BK1046.out;obtain ⟨Ao19,co19,eo19⟩:=Kd.V_slice HO1041.out;subst eo19)|((with_reducible refine yI (t:=47) (p:=5) rfl ?_);refine yC (t:=47) (p:=5) (v:=?vo_w20) (w1:=((w14.setCell ⟨gb1046,0,none⟩ (.bool t1038)).setCell ⟨gb1046,1,none⟩ (.slice Ao19 t1039.length co19))) ?hg ?ho ?hn ?hr ?_;(case ho=>rfl);(case hg=>rfl);(case hn=>rfl);(case hr=>exact zz205);intro w20 hw;have n0_:wA (Kd.V (Kd.int .u32) 52 w20 w.heap.size (fun k_=>some k_ ≠ (v1044:Value).ownBlock∧k_ ≠ gb1036∧k_ ≠ gb1037∧k_ ≠ gb1046∧k_ ≠ gb1047) (.slice Ao19 t1039.length co19) t1039):=⟨(by rw [hw];exact (by (with_reducible repeat (first|apply Kd.V_alloc|apply Kd.V_drewN|apply Kd.V_drew));exact Kd.V_mono (Kd.V_far (p:=⟨gb1046,1,none⟩) (Kd.V_far (p:=⟨gb1046,0,none⟩) (Kd.V_mono HO1041.out (fun k_ hk=>(⟨hk,hk.1.2⟩:_∧k_ ≠ gb1046))) (fun _ hk=>hk.2) (.bool t1038)) (fun _ hk=>hk.2) (.slice Ao19 t1039.length co19)) (fun _ hk=>⟨hk.1.1.1.1,⟨hk.1.1.1.2.1,⟨hk.1.1.1.2.2,⟨hk.1.1.2,hk.1.2⟩⟩⟩⟩)))⟩;have n1_:wA (Kd.R (Kd.int .u32) 52 w20 w.heap.size (fun _=>True) v1044 t1043):=⟨(by rw [hw];exact (by (with_reducible repeat (first|apply Kd.R_alloc|apply Kd.R_drewN|apply Kd.R_drew));exact Kd.R_mono (Kd.R_far (p:=⟨gb1046,1,none⟩) (Kd.R_far (p:=⟨gb1046,0,none⟩) (Kd.R_types HO1045.out BK1046.out (zz17)) (fun _ hk=>hk.2) (.bool t1038)) (fun _ hk=>hk.2) (.slice Ao19 t1039.length co19)) (fun _ hk=>trivial)))⟩;have n2_:wA (w20.heap[gb1036]? = some (.cells #[.bool a0_0,.slice A0_1 l0_1.length c0_1,.slice A0_2 l0_2.length c0_2] 49 (0,0))):=⟨(by rw [hw];exact (by (with_reducible repeat (first|refine wE ?_ _|refine wF ?_|refine wD ?_ _));refine wN ?_ NB1036_1046.out _;(with_reducible repeat (first|refine wE ?_ _|refine wF ?_|refine wD ?_ _));refine wN ?_ NB1036_1046.out _;(with_reducible repeat (first|refine wE ?_ _|refine wF ?_|refine wD ?_ _));exact BK1036.out))⟩;have n3_:wA (w20.heap[gb1037]? = some (.cells #[.bool a1_0,.slice A1_1 l1_1.length c1_1,.slice A1_2 l1_2.length c1_2] 49 (0,0))):=⟨(by rw [hw];exact (by (with_reducible repeat (first|refine wE ?_ _|refine wF ?_|refine wD ?_ _));refine wN ?_ NB1037_1046.out _;(with_reducible repeat (first|refine wE ?_ _|refine wF ?_|refine wD ?_ _));refine wN ?_ NB1037_1046.out _;(with_reducible repeat (first|refine wE ?_ _|refine wF ?_|refine wD ?_ _));exact BK1037.out))⟩;have n4_:wA (w20.heap[gb1046]? = some (.cells #[.bool t1038,.slice Ao19 t1039.length co19] 47 (0,0))):=⟨(by rw [hw];exact (by (with_reducible repeat (first|refine wE ?_ _|refine wF ?_|refine wD ?_ _));refine wP (cs:=#[.bool t1038,.slice none 0 0]) ?_ 1 _ rfl;(with_reducible repeat (first|refine wE ?_ _|refine wF ?_|refine wD ?_ _));refine wP (cs:=#[.bool false,.slice none 0 0]) ?_ 0 _ rfl;(with_reducible repeat (first|refine wE ?_ _|refine wF ?_|refine wD ?_ _));exact BK1046.out))⟩;have n5_:wA (w20.heap[gb1047]? = some (.cells #[.bool false,.slice none 0 0] 47 (0,0))):=⟨(by rw [hw];exact (by (with_reducible repeat (first|refine wE ?_ _|refine wF ?_|refine wD ?_ _));refine wN ?_ NB1047_1046.out _;(with_reducible repeat (first|refine wE ?_ _|refine wF ?_|refine wD ?_ _));refine wN ?_ NB1047_1046.out _;(with_reducible repeat (first|refine wE ?_ _|refine wF ?_|refine wD ?_ _));exact BK1047.out))⟩;have n6_:wA (Below w.heap.size w w20):=⟨(by rw [hw];exact (zz152))⟩;clear hw;clear HO1041;clear HO1045;clear BK1036;clear BK1037;clear BK1046;clear BK1047;clear HB;have HO1041:=n0_;have HO1045:=n1_;have BK1036:=n2_;have BK1037:=n3_;have BK1046:=n4_;have BK1047:=n5_;have HB:=n6_;clear n0_ n1_ n2_ n3_ n4_ n5_ n6_;have hnb21:=NB1047_1036.out;have hnc21:=NB1036_1047.out;have hnb22:=NB1047_1037.out;have hnc22:=NB1037_1047.out;obtain ⟨hcz23_0,hcz23_1,hfz23_0,hfz23_1⟩:=zc2 BK1047.out;obtain ⟨Ao24,co24,eo24⟩:=Kd.R_slice HO1045.out;subst eo24)|((with_reducible refine yI (t:=47) (p:=6) rfl ?_);refine yC (t:=47) (p:=6) (v:=?vo_w25) (w1:=((w20.setCell ⟨gb1047,0,none⟩ (.bool t1042)).setCell ⟨gb1047,1,none⟩ (.slice Ao24 t1043.length co24))) ?hg ?ho ?hn ?hr ?_;(case ho=>rfl);(case hg=>rfl);(case hn=>rfl);(case hr=>exact zz205);intro w25 hw;have n0_:wA (Kd.V (Kd.int .u32) 52 w25 w.heap.size (fun k_=>some k_ ≠ (.slice Ao24 t1043.length co24:Value).ownBlock∧k_ ≠ gb1036∧k_ ≠ gb1037∧k_ ≠ gb1046∧k_ ≠ gb1047) (.slice Ao19 t1039.length co19) t1039):=⟨(by rw [hw];exact (by (with_reducible repeat (first|apply Kd.V_alloc|apply Kd.V_drewN|apply Kd.V_drew));exact Kd.V_mono (Kd.V_far (p:=⟨gb1047,1,none⟩) (Kd.V_far (p:=⟨gb1047,0,none⟩) (Kd.V_mono HO1041.out (fun k_ hk=>(⟨hk,hk.2.2.2.2⟩:_∧k_ ≠ gb1047))) (fun _ hk=>hk.2) (.bool t1042)) (fun _ hk=>hk.2) (.slice Ao24 t1043.length co24)) (fun _ hk=>⟨hk.1.1,⟨hk.1.2.1,⟨hk.1.2.2.1,⟨hk.1.2.2.2.1,hk.1.2.2.2.2⟩⟩⟩⟩)))⟩;have n1_:wA (Kd.R (Kd.int .u32) 52 w25 w.heap.size (fun _=>True) (.slice Ao24 t1043.length co24) t1043):=⟨(by rw [hw];exact (by (with_reducible repeat (first|apply Kd.R_alloc|apply Kd.R_drewN|apply Kd.R_drew));exact Kd.R_mono (Kd.R_far (p:=⟨gb1047,1,none⟩) (Kd.R_far (p:=⟨gb1047,0,none⟩) (Kd.R_types HO1045.out BK1047.out (zz17)) (fun _ hk=>hk.2) (.bool t1042)) (fun _ hk=>hk.2) (.slice Ao24 t1043.length co24)) (fun _ hk=>trivial)))⟩;have n2_:wA (w25.heap[gb1036]? = some (.cells #[.bool a0_0,.slice A0_1 l0_1.length c0_1,.slice A0_2 l0_2.length c0_2] 49 (0,0))):=⟨(by rw [hw];exact (by (with_reducible repeat (first|refine wE ?_ _|refine wF ?_|refine wD ?_ _));refine wN ?_ NB1036_1047.out _;(with_reducible repeat (first|refine wE ?_ _|refine wF ?_|refine wD ?_ _));refine wN ?_ NB1036_1047.out _;(with_reducible repeat (first|refine wE ?_ _|refine wF ?_|refine wD ?_ _));exact BK1036.out))⟩;have n3_:wA (w25.heap[gb1037]? = some (.cells #[.bool a1_0,.slice A1_1 l1_1.length c1_1,.slice A1_2 l1_2.length c1_2] 49 (0,0))):=⟨(by rw [hw];exact (by (with_reducible repeat (first|refine wE ?_ _|refine wF ?_|refine wD ?_ _));refine wN ?_ NB1037_1047.out _;(with_reducible repeat (first|refine wE ?_ _|refine wF ?_|refine wD ?_ _));refine wN ?_ NB1037_1047.out _;(with_reducible repeat (first|refine wE ?_ _|refine wF ?_|refine wD ?_ _));exact BK1037.out))⟩;have n4_:wA (w25.heap[gb1046]? = some (.cells #[.bool t1038,.slice Ao19 t1039.length co19] 47 (0,0))):=⟨(by rw [hw];exact (by (with_reducible repeat (first|refine wE ?_ _|refine wF ?_|refine wD ?_ _));refine wN ?_ NB1046_1047.out _;(with_reducible repeat (first|refine wE ?_ _|refine wF ?_|refine wD ?_ _));refine wN ?_ NB1046_1047.out _;(with_reducible repeat (first|refine wE ?_ _|refine wF ?_|refine wD ?_ _));exact BK1046.out))⟩;have n5_:wA (w25.heap[gb1047]? = some (.cells #[.bool t1042,.slice Ao24 t1043.length co24] 47 (0,0))):=⟨(by rw [hw];exact (by (with_reducible repeat (first|refine wE ?_ _|refine wF ?_|refine wD ?_ _));refine wP (cs:=#[.bool t1042,.slice none 0 0]) ?_ 1 _ rfl;(with_reducible repeat (first|refine wE ?_ _|refine wF ?_|refine wD ?_ _));refine wP (cs:=#[.bool false,.slice none 0 0]) ?_ 0 _ rfl;(with_reducible repeat (first|refine wE ?_ _|refine wF ?_|refine wD ?_ _));exact BK1047.out))⟩;have n6_:wA (Below w.heap.size w w25):=⟨(by rw [hw];exact (zz152))⟩;clear hw;clear HO1041;clear HO1045;clear BK1036;clear BK1037;clear BK1046;clear BK1047;clear HB;have HO1041:=n0_;have HO1045:=n1_;have BK1036:=n2_;have BK1037:=n3_;have BK1046:=n4_;have BK1047:=n5_;have HB:=n6_;clear n0_ n1_ n2_ n3_ n4_ n5_ n6_;obtain ⟨hcz26_0,hcz26_1,hcz26_2,hfz26_0,hfz26_1,hfz26_2⟩:=zc3 BK1037.out)|((with_reducible refine wH (f:=59) rfl ?_);refine wO (some 16) rfl rfl Tryd.func59 (zz0) rfl #[.agg #[.bool a1_0,.slice A1_1 l1_1.length c1_1,.slice A1_2 l1_2.length c1_2]] rfl (zz5) ?_;(with_reducible refine (U45.calls k a1_0 (fun k_=>k_ < w.heap.size) _ _ l1_1 _ _ l1_2 t1048 t1049 t1052 t1053 _ ?_ ?_ ?_ A4.out).mono ?_);exact Kd.V_mk HC1_1.out (Kd.F_below (Kd.C_F (Kd.heap_int .u32) HR1_1.out) (zz152));(exact (have h0_:=HR1_2;zz206));exact HC1_2.out;rintro e w27 ⟨v1050,v1054,rfl,ho0,ho1,hb⟩;refine ⟨_,rfl,?_⟩;replace HO1041:=wA.mk (Kd.V_elder' (have h0_:=HO1041;zz31) (Kd.R_base ho1) hb);have HO1051:=wA.mk (Kd.V_lower (Kd.V_mono (ok':=fun k_=>some k_ ≠ (v1054:Value).ownBlock∧some k_ ≠ (.slice Ao24 t1043.length co24:Value).ownBlock∧k_ ≠ gb1036∧k_ ≠ gb1037∧k_ ≠ gb1046∧k_ ≠ gb1047) ho0 (fun k_ hk_=>⟨hk_.2,Or.elim hk_.1 (fun hs_=>fun e_=>Nat.not_le.2 hs_ (Kd.R_base HO1045.out k_ e_.symm)) (fun hn_=>(Kd.fresh' (Kd.R_lt (zz149)) k_ hn_)),Or.elim hk_.1 (fun hs_=>fun e_=>Nat.not_le.2 hs_ (have h0_:=GW1036;zz76)) (fun hn_=>(Kd.freshB (g:=gb1036) (o:=.cells #[.bool a0_0,.slice A0_1 l0_1.length c0_1,.slice A0_2 l0_2.length c0_2] 49 (0,0)) (zz147) k_ hn_)),Or.elim hk_.1 (fun hs_=>fun e_=>Nat.not_le.2 hs_ (have h0_:=GW1037;zz76)) (fun hn_=>(Kd.freshB (g:=gb1037) (o:=.cells #[.bool a1_0,.slice A1_1 l1_1.length c1_1,.slice A1_2 l1_2.length c1_2] 49 (0,0)) (zz148) k_ hn_)),Or.elim hk_.1 (fun hs_=>fun e_=>Nat.not_le.2 hs_ (have h0_:=GW1046;zz76)) (fun hn_=>(Kd.freshB (g:=gb1046) (o:=.cells #[.bool t1038,.slice Ao19 t1039.length co19] 47 (0,0)) (zz150) k_ hn_)),Or.elim hk_.1 (fun hs_=>fun e_=>Nat.not_le.2 hs_ (have h0_:=GW1047;zz76)) (fun hn_=>(Kd.freshB (g:=gb1047) (o:=.cells #[.bool t1042,.slice Ao24 t1043.length co24] 47 (0,0)) (zz153) k_ hn_))⟩)) (wB (zz152)));have HO1055:=wA.mk (Kd.R_lower (Kd.R_new' (Kd.R_mono (ok':=fun k_=>True) ho1 (fun _ hk_=>trivial)) (Kd.R_lt (zz149))) (wB (zz152)));replace HO1045:=wA.mk (Kd.R_elder' (zz149) (Kd.R_base ho1) hb);replace BK1036:=wA.mk (wC (zz147) hb);replace BK1037:=wA.mk (wC (zz148) hb);replace BK1046:=wA.mk (wC (zz150) hb);replace BK1047:=wA.mk (wC (zz153) hb);replace HB:=wA.mk (wG (zz152) hb);(try clear hb);(try clear ho0);(try clear ho1))|((with_reducible refine wK (N:=7) rfl ?_);refine wM ?hg (N:=7) ?hd (cs:=#[.bool false,.slice none 0 0]) (t:=47) ?hr ?_;(case hd=>rfl);(case hg=>rfl);(case hr=>exact zz205);intro gb1056 hg w28 hbox hb;replace HO1041:=wA.mk (Kd.V_below (Kd.V_elderB (have h0_:=HO1041;zz31) gb1056 (Nat.le_of_eq hg.symm)) hb);replace HO1045:=wA.mk (Kd.R_below (zz149) hb);replace HO1051:=wA.mk (Kd.V_below (Kd.V_elderB (have h0_:=HO1051;zz31) gb1056 (Nat.le_of_eq hg.symm)) hb);replace HO1055:=wA.mk (Kd.R_below (have h0_:=HO1055;zz18) hb);have BK1056:=wA.mk (hbox);have GW1056:=wA.mk ((by rw [hg];exact (wB (zz152)):w.heap.size≤gb1056));have GE1056:=wA.mk ((by rw [hg];exact (wB (zz152)):w.heap.size≤gb1056));replace HB:=wA.mk (wG (zz152) hb);have NB1036_1056:=wA.mk ((by rw [hg];exact Nat.ne_of_lt (wJ (g:=gb1036) (o:=.cells #[.bool a0_0,.slice A0_1 l0_1.length c0_1,.slice A0_2 l0_2.length c0_2] 49 (0,0)) (zz147)):gb1036 ≠ gb1056));have NB1056_1036:=wA.mk ((by rw [hg];exact Nat.ne_of_gt (wJ (g:=gb1036) (o:=.cells #[.bool a0_0,.slice A0_1 l0_1.length c0_1,.slice A0_2 l0_2.length c0_2] 49 (0,0)) (zz147)):gb1056 ≠ gb1036));replace BK1036:=wA.mk (wC (zz147) hb);have NB1037_1056:=wA.mk ((by rw [hg];exact Nat.ne_of_lt (wJ (g:=gb1037) (o:=.cells #[.bool a1_0,.slice A1_1 l1_1.length c1_1,.slice A1_2 l1_2.length c1_2] 49 (0,0)) (zz148)):gb1037 ≠ gb1056));have NB1056_1037:=wA.mk ((by rw [hg];exact Nat.ne_of_gt (wJ (g:=gb1037) (o:=.cells #[.bool a1_0,.slice A1_1 l1_1.length c1_1,.slice A1_2 l1_2.length c1_2] 49 (0,0)) (zz148)):gb1056 ≠ gb1037));replace BK1037:=wA.mk (wC (zz148) hb);have NB1046_1056:=wA.mk ((by rw [hg];exact Nat.ne_of_lt (wJ (g:=gb1046) (o:=.cells #[.bool t1038,.slice Ao19 t1039.length co19] 47 (0,0)) (zz150)):gb1046 ≠ gb1056));have NB1056_1046:=wA.mk ((by rw [hg];exact Nat.ne_of_gt (wJ (g:=gb1046) (o:=.cells #[.bool t1038,.slice Ao19 t1039.length co19] 47 (0,0)) (zz150)):gb1056 ≠ gb1046));replace BK1046:=wA.mk (wC (zz150) hb);have NB1047_1056:=wA.mk ((by rw [hg];exact Nat.ne_of_lt (wJ (g:=gb1047) (o:=.cells #[.bool t1042,.slice Ao24 t1043.length co24] 47 (0,0)) (zz153)):gb1047 ≠ gb1056));have NB1056_1047:=wA.mk ((by rw [hg];exact Nat.ne_of_gt (wJ (g:=gb1047) (o:=.cells #[.bool t1042,.slice Ao24 t1043.length co24] 47 (0,0)) (zz153)):gb1056 ≠ gb1047));replace BK1047:=wA.mk (wC (zz153) hb);clear hb hbox hg)|((with_reducible refine wK (N:=8) rfl ?_);refine wM ?hg (N:=8) ?hd (cs:=#[.bool false,.slice none 0 0]) (t:=47) ?hr ?_;(case hd=>rfl);(case hg=>rfl);(case hr=>exact zz205);intro gb1057 hg w29 hbox hb;replace HO1041:=wA.mk (Kd.V_below (Kd.V_elderB (have h0_:=HO1041;zz31) gb1057 (Nat.le_of_eq hg.symm)) hb);replace HO1045:=wA.mk (Kd.R_below (zz149) hb);replace HO1051:=wA.mk (Kd.V_below (Kd.V_elderB (have h0_:=HO1051;zz31) gb1057 (Nat.le_of_eq hg.symm)) hb);replace HO1055:=wA.mk (Kd.R_below (have h0_:=HO1055;zz18) hb);have BK1057:=wA.mk (hbox);have GW1057:=wA.mk ((by rw [hg];exact (wB (zz154)):w.heap.size≤gb1057));have GE1057:=wA.mk ((by rw [hg];exact (wB (zz154)):w.heap.size≤gb1057));replace HB:=wA.mk (wG (zz154) hb);have NB1036_1057:=wA.mk ((by rw [hg];exact Nat.ne_of_lt (wJ (g:=gb1036) (o:=.cells #[.bool a0_0,.slice A0_1 l0_1.length c0_1,.slice A0_2 l0_2.length c0_2] 49 (0,0)) (zz147)):gb1036 ≠ gb1057));have NB1057_1036:=wA.mk ((by rw [hg];exact Nat.ne_of_gt (wJ (g:=gb1036) (o:=.cells #[.bool a0_0,.slice A0_1 l0_1.length c0_1,.slice A0_2 l0_2.length c0_2] 49 (0,0)) (zz147)):gb1057 ≠ gb1036));replace BK1036:=wA.mk (wC (zz147) hb);have NB1037_1057:=wA.mk ((by rw [hg];exact Nat.ne_of_lt (wJ (g:=gb1037) (o:=.cells #[.bool a1_0,.slice A1_1 l1_1.length c1_1,.slice A1_2 l1_2.length c1_2] 49 (0,0)) (zz148)):gb1037 ≠ gb1057));have NB1057_1037:=wA.mk ((by rw [hg];exact Nat.ne_of_gt (wJ (g:=gb1037) (o:=.cells #[.bool a1_0,.slice A1_1 l1_1.length c1_1,.slice A1_2 l1_2.length c1_2] 49 (0,0)) (zz148)):gb1057 ≠ gb1037));replace BK1037:=wA.mk (wC (zz148) hb);have NB1046_1057:=wA.mk ((by rw [hg];exact Nat.ne_of_lt (wJ (g:=gb1046) (o:=.cells #[.bool t1038,.slice Ao19 t1039.length co19] 47 (0,0)) (zz150)):gb1046 ≠ gb1057));have NB1057_1046:=wA.mk ((by rw [hg];exact Nat.ne_of_gt (wJ (g:=gb1046) (o:=.cells #[.bool t1038,.slice Ao19 t1039.length co19] 47 (0,0)) (zz150)):gb1057 ≠ gb1046));replace BK1046:=wA.mk (wC (zz150) hb);have NB1047_1057:=wA.mk ((by rw [hg];exact Nat.ne_of_lt (wJ (g:=gb1047) (o:=.cells #[.bool t1042,.slice Ao24 t1043.length co24] 47 (0,0)) (zz153)):gb1047 ≠ gb1057));have NB1057_1047:=wA.mk ((by rw [hg];exact Nat.ne_of_gt (wJ (g:=gb1047) (o:=.cells #[.bool t1042,.slice Ao24 t1043.length co24] 47 (0,0)) (zz153)):gb1057 ≠ gb1047));replace BK1047:=wA.mk (wC (zz153) hb);have NB1056_1057:=wA.mk ((by rw [hg];exact Nat.ne_of_lt (wJ (g:=gb1056) (o:=.cells #[.bool false,.slice none 0 0] 47 (0,0)) (have h0_:=BK1056;zz12)):gb1056 ≠ gb1057));have NB1057_1056:=wA.mk ((by rw [hg];exact Nat.ne_of_gt (wJ (g:=gb1056) (o:=.cells #[.bool false,.slice none 0 0] 47 (0,0)) (have h0_:=BK1056;zz12)):gb1057 ≠ gb1056));replace BK1056:=wA.mk (wC (have h0_:=BK1056;zz12) hb);clear hb hbox hg;have hnb30:=NB1056_1036.out;have hnc30:=NB1036_1056.out;have hnb31:=NB1056_1037.out;have hnc31:=NB1037_1056.out;have hnb32:=NB1056_1046.out;have hnc32:=NB1046_1056.out;have hnb33:=NB1056_1047.out;have hnc33:=NB1047_1056.out;have hnb34:=NB1056_1057.out;have hnc34:=NB1057_1056.out;obtain ⟨hcz35_0,hcz35_1,hfz35_0,hfz35_1⟩:=zc2 BK1056.out;obtain ⟨Ao36,co36,eo36⟩:=Kd.V_slice HO1051.out;subst eo36;have hnb37:=NB1057_1036.out;have hnc37:=NB1036_1057.out;have hnb38:=NB1057_1037.out;have hnc38:=NB1037_1057.out;have hnb39:=NB1057_1046.out;have hnc39:=NB1046_1057.out;have hnb40:=NB1057_1047.out;have hnc40:=NB1047_1057.out;obtain ⟨hcz41_0,hcz41_1,hfz41_0,hfz41_1⟩:=zc2 BK1057.out;obtain ⟨Ao42,co42,eo42⟩:=Kd.R_slice HO1055.out;subst eo42))
 have n0_:wA (Kd.V (Kd.int .u32) 52 ((((w29.setCell ⟨gb1056,0,none⟩ (.bool t1048)).setCell ⟨gb1056,1,none⟩ (.slice Ao36 t1049.length co36)).setCell ⟨gb1057,0,none⟩ (.bool t1052)).setCell ⟨gb1057,1,none⟩ (.slice Ao42 t1053.length co42)) w.heap.size (fun k_=>some k_ ≠ (.slice Ao24 t1043.length co24:Value).ownBlock∧some k_ ≠ (.slice Ao42 t1053.length co42:Value).ownBlock∧k_ ≠ gb1036∧k_ ≠ gb1037∧k_ ≠ gb1046∧k_ ≠ gb1047∧k_ ≠ gb1056∧k_ ≠ gb1057) (.slice Ao19 t1039.length co19) t1039):=⟨by (with_reducible repeat (first|apply Kd.V_alloc|apply Kd.V_drewN|apply Kd.V_drew));exact Kd.V_mono (Kd.V_far (p:=⟨gb1057,1,none⟩) (Kd.V_far (p:=⟨gb1057,0,none⟩) (Kd.V_far (p:=⟨gb1056,1,none⟩) (Kd.V_far (p:=⟨gb1056,0,none⟩) (Kd.V_mono (Kd.V_mono HO1041.out (fun k_ hk=>(⟨hk,hk.1.2⟩:_∧k_ ≠ gb1056))) (fun k_ hk=>(⟨hk,hk.1.2⟩:_∧k_ ≠ gb1057))) (fun _ hk=>hk.1.2) (.bool t1048)) (fun _ hk=>hk.1.2) (.slice Ao36 t1049.length co36)) (fun _ hk=>hk.2) (.bool t1052)) (fun _ hk=>hk.2) (.slice Ao42 t1053.length co42)) (fun _ hk=>⟨hk.1.1.1.1.1.1,⟨hk.1.1.1.1.2,⟨hk.1.1.1.1.1.2.1,⟨hk.1.1.1.1.1.2.2.1,⟨hk.1.1.1.1.1.2.2.2.1,⟨hk.1.1.1.1.1.2.2.2.2,⟨hk.1.1.1.2,hk.1.1.2⟩⟩⟩⟩⟩⟩⟩)⟩;have n1_:wA (Kd.R (Kd.int .u32) 52 ((((w29.setCell ⟨gb1056,0,none⟩ (.bool t1048)).setCell ⟨gb1056,1,none⟩ (.slice Ao36 t1049.length co36)).setCell ⟨gb1057,0,none⟩ (.bool t1052)).setCell ⟨gb1057,1,none⟩ (.slice Ao42 t1053.length co42)) w.heap.size (fun k_=>some k_ ≠ (.slice Ao42 t1053.length co42:Value).ownBlock) (.slice Ao24 t1043.length co24) t1043):=⟨by (with_reducible repeat (first|apply Kd.R_alloc|apply Kd.R_drewN|apply Kd.R_drew));exact Kd.R_mono (Kd.R_far (p:=⟨gb1057,1,none⟩) (Kd.R_far (p:=⟨gb1057,0,none⟩) (Kd.R_far (p:=⟨gb1056,1,none⟩) (Kd.R_far (p:=⟨gb1056,0,none⟩) (Kd.R_types (Kd.R_types HO1045.out BK1056.out (zz17)) BK1057.out (zz17)) (fun _ hk=>hk.1.2) (.bool t1048)) (fun _ hk=>hk.1.2) (.slice Ao36 t1049.length co36)) (fun _ hk=>hk.2) (.bool t1052)) (fun _ hk=>hk.2) (.slice Ao42 t1053.length co42)) (fun _ hk=>hk.1.1.2)⟩;have n2_:wA (Kd.V (Kd.int .u32) 52 ((((w29.setCell ⟨gb1056,0,none⟩ (.bool t1048)).setCell ⟨gb1056,1,none⟩ (.slice Ao36 t1049.length co36)).setCell ⟨gb1057,0,none⟩ (.bool t1052)).setCell ⟨gb1057,1,none⟩ (.slice Ao42 t1053.length co42)) w.heap.size (fun k_=>some k_ ≠ (.slice Ao24 t1043.length co24:Value).ownBlock∧some k_ ≠ (.slice Ao42 t1053.length co42:Value).ownBlock∧k_ ≠ gb1036∧k_ ≠ gb1037∧k_ ≠ gb1046∧k_ ≠ gb1047∧k_ ≠ gb1056∧k_ ≠ gb1057) (.slice Ao36 t1049.length co36) t1049):=⟨by (with_reducible repeat (first|apply Kd.V_alloc|apply Kd.V_drewN|apply Kd.V_drew));exact Kd.V_mono (Kd.V_far (p:=⟨gb1057,1,none⟩) (Kd.V_far (p:=⟨gb1057,0,none⟩) (Kd.V_far (p:=⟨gb1056,1,none⟩) (Kd.V_far (p:=⟨gb1056,0,none⟩) (Kd.V_mono (Kd.V_mono HO1051.out (fun k_ hk=>(⟨hk,hk.1.2⟩:_∧k_ ≠ gb1056))) (fun k_ hk=>(⟨hk,hk.1.2⟩:_∧k_ ≠ gb1057))) (fun _ hk=>hk.1.2) (.bool t1048)) (fun _ hk=>hk.1.2) (.slice Ao36 t1049.length co36)) (fun _ hk=>hk.2) (.bool t1052)) (fun _ hk=>hk.2) (.slice Ao42 t1053.length co42)) (fun _ hk=>⟨hk.1.1.1.1.2.1,⟨hk.1.1.1.1.1,⟨hk.1.1.1.1.2.2.1,⟨hk.1.1.1.1.2.2.2.1,⟨hk.1.1.1.1.2.2.2.2.1,⟨hk.1.1.1.1.2.2.2.2.2,⟨hk.1.1.1.2,hk.1.1.2⟩⟩⟩⟩⟩⟩⟩)⟩;have n3_:wA (Kd.R (Kd.int .u32) 52 ((((w29.setCell ⟨gb1056,0,none⟩ (.bool t1048)).setCell ⟨gb1056,1,none⟩ (.slice Ao36 t1049.length co36)).setCell ⟨gb1057,0,none⟩ (.bool t1052)).setCell ⟨gb1057,1,none⟩ (.slice Ao42 t1053.length co42)) w.heap.size (fun k_=>some k_ ≠ (.slice Ao24 t1043.length co24:Value).ownBlock) (.slice Ao42 t1053.length co42) t1053):=⟨by (with_reducible repeat (first|apply Kd.R_alloc|apply Kd.R_drewN|apply Kd.R_drew));exact Kd.R_mono (Kd.R_far (p:=⟨gb1057,1,none⟩) (Kd.R_far (p:=⟨gb1057,0,none⟩) (Kd.R_far (p:=⟨gb1056,1,none⟩) (Kd.R_far (p:=⟨gb1056,0,none⟩) (Kd.R_types (Kd.R_types HO1055.out BK1056.out (zz17)) BK1057.out (zz17)) (fun _ hk=>hk.1.2) (.bool t1048)) (fun _ hk=>hk.1.2) (.slice Ao36 t1049.length co36)) (fun _ hk=>hk.2) (.bool t1052)) (fun _ hk=>hk.2) (.slice Ao42 t1053.length co42)) (fun _ hk=>hk.1.1.2)⟩;have n4_:wA (((((w29.setCell ⟨gb1056,0,none⟩ (.bool t1048)).setCell ⟨gb1056,1,none⟩ (.slice Ao36 t1049.length co36)).setCell ⟨gb1057,0,none⟩ (.bool t1052)).setCell ⟨gb1057,1,none⟩ (.slice Ao42 t1053.length co42)).heap[gb1036]? = some (.cells #[.bool a0_0,.slice A0_1 l0_1.length c0_1,.slice A0_2 l0_2.length c0_2] 49 (0,0))):=⟨by (with_reducible repeat (first|refine wE ?_ _|refine wF ?_|refine wD ?_ _));refine wN ?_ NB1036_1057.out _;(with_reducible repeat (first|refine wE ?_ _|refine wF ?_|refine wD ?_ _));refine wN ?_ NB1036_1057.out _;(with_reducible repeat (first|refine wE ?_ _|refine wF ?_|refine wD ?_ _));refine wN ?_ NB1036_1056.out _;(with_reducible repeat (first|refine wE ?_ _|refine wF ?_|refine wD ?_ _));refine wN ?_ NB1036_1056.out _;(with_reducible repeat (first|refine wE ?_ _|refine wF ?_|refine wD ?_ _));exact BK1036.out⟩;have n5_:wA (((((w29.setCell ⟨gb1056,0,none⟩ (.bool t1048)).setCell ⟨gb1056,1,none⟩ (.slice Ao36 t1049.length co36)).setCell ⟨gb1057,0,none⟩ (.bool t1052)).setCell ⟨gb1057,1,none⟩ (.slice Ao42 t1053.length co42)).heap[gb1037]? = some (.cells #[.bool a1_0,.slice A1_1 l1_1.length c1_1,.slice A1_2 l1_2.length c1_2] 49 (0,0))):=⟨by (with_reducible repeat (first|refine wE ?_ _|refine wF ?_|refine wD ?_ _));refine wN ?_ NB1037_1057.out _;(with_reducible repeat (first|refine wE ?_ _|refine wF ?_|refine wD ?_ _));refine wN ?_ NB1037_1057.out _;(with_reducible repeat (first|refine wE ?_ _|refine wF ?_|refine wD ?_ _));refine wN ?_ NB1037_1056.out _;(with_reducible repeat (first|refine wE ?_ _|refine wF ?_|refine wD ?_ _));refine wN ?_ NB1037_1056.out _;(with_reducible repeat (first|refine wE ?_ _|refine wF ?_|refine wD ?_ _));exact BK1037.out⟩;have n6_:wA (((((w29.setCell ⟨gb1056,0,none⟩ (.bool t1048)).setCell ⟨gb1056,1,none⟩ (.slice Ao36 t1049.length co36)).setCell ⟨gb1057,0,none⟩ (.bool t1052)).setCell ⟨gb1057,1,none⟩ (.slice Ao42 t1053.length co42)).heap[gb1046]? = some (.cells #[.bool t1038,.slice Ao19 t1039.length co19] 47 (0,0))):=⟨by (with_reducible repeat (first|refine wE ?_ _|refine wF ?_|refine wD ?_ _));refine wN ?_ NB1046_1057.out _;(with_reducible repeat (first|refine wE ?_ _|refine wF ?_|refine wD ?_ _));refine wN ?_ NB1046_1057.out _;(with_reducible repeat (first|refine wE ?_ _|refine wF ?_|refine wD ?_ _));refine wN ?_ NB1046_1056.out _;(with_reducible repeat (first|refine wE ?_ _|refine wF ?_|refine wD ?_ _));refine wN ?_ NB1046_1056.out _;(with_reducible repeat (first|refine wE ?_ _|refine wF ?_|refine wD ?_ _));exact BK1046.out⟩;have n7_:wA (((((w29.setCell ⟨gb1056,0,none⟩ (.bool t1048)).setCell ⟨gb1056,1,none⟩ (.slice Ao36 t1049.length co36)).setCell ⟨gb1057,0,none⟩ (.bool t1052)).setCell ⟨gb1057,1,none⟩ (.slice Ao42 t1053.length co42)).heap[gb1047]? = some (.cells #[.bool t1042,.slice Ao24 t1043.length co24] 47 (0,0))):=⟨by (with_reducible repeat (first|refine wE ?_ _|refine wF ?_|refine wD ?_ _));refine wN ?_ NB1047_1057.out _;(with_reducible repeat (first|refine wE ?_ _|refine wF ?_|refine wD ?_ _));refine wN ?_ NB1047_1057.out _;(with_reducible repeat (first|refine wE ?_ _|refine wF ?_|refine wD ?_ _));refine wN ?_ NB1047_1056.out _;(with_reducible repeat (first|refine wE ?_ _|refine wF ?_|refine wD ?_ _));refine wN ?_ NB1047_1056.out _;(with_reducible repeat (first|refine wE ?_ _|refine wF ?_|refine wD ?_ _));exact BK1047.out⟩;have n8_:wA (((((w29.setCell ⟨gb1056,0,none⟩ (.bool t1048)).setCell ⟨gb1056,1,none⟩ (.slice Ao36 t1049.length co36)).setCell ⟨gb1057,0,none⟩ (.bool t1052)).setCell ⟨gb1057,1,none⟩ (.slice Ao42 t1053.length co42)).heap[gb1056]? = some (.cells #[.bool t1048,.slice Ao36 t1049.length co36] 47 (0,0))):=⟨by (with_reducible repeat (first|refine wE ?_ _|refine wF ?_|refine wD ?_ _));refine wN ?_ NB1056_1057.out _;(with_reducible repeat (first|refine wE ?_ _|refine wF ?_|refine wD ?_ _));refine wN ?_ NB1056_1057.out _;(with_reducible repeat (first|refine wE ?_ _|refine wF ?_|refine wD ?_ _));refine wP (cs:=#[.bool t1048,.slice none 0 0]) ?_ 1 _ rfl;(with_reducible repeat (first|refine wE ?_ _|refine wF ?_|refine wD ?_ _));refine wP (cs:=#[.bool false,.slice none 0 0]) ?_ 0 _ rfl;(with_reducible repeat (first|refine wE ?_ _|refine wF ?_|refine wD ?_ _));exact BK1056.out⟩;have n9_:wA (((((w29.setCell ⟨gb1056,0,none⟩ (.bool t1048)).setCell ⟨gb1056,1,none⟩ (.slice Ao36 t1049.length co36)).setCell ⟨gb1057,0,none⟩ (.bool t1052)).setCell ⟨gb1057,1,none⟩ (.slice Ao42 t1053.length co42)).heap[gb1057]? = some (.cells #[.bool t1052,.slice Ao42 t1053.length co42] 47 (0,0))):=⟨by (with_reducible repeat (first|refine wE ?_ _|refine wF ?_|refine wD ?_ _));refine wP (cs:=#[.bool t1052,.slice none 0 0]) ?_ 1 _ rfl;(with_reducible repeat (first|refine wE ?_ _|refine wF ?_|refine wD ?_ _));refine wP (cs:=#[.bool false,.slice none 0 0]) ?_ 0 _ rfl;(with_reducible repeat (first|refine wE ?_ _|refine wF ?_|refine wD ?_ _));refine wN ?_ NB1057_1056.out _;(with_reducible repeat (first|refine wE ?_ _|refine wF ?_|refine wD ?_ _));refine wN ?_ NB1057_1056.out _;(with_reducible repeat (first|refine wE ?_ _|refine wF ?_|refine wD ?_ _));exact BK1057.out⟩;have n10_:wA (Below w.heap.size w ((((w29.setCell ⟨gb1056,0,none⟩ (.bool t1048)).setCell ⟨gb1056,1,none⟩ (.slice Ao36 t1049.length co36)).setCell ⟨gb1057,0,none⟩ (.bool t1052)).setCell ⟨gb1057,1,none⟩ (.slice Ao42 t1053.length co42))):=⟨zz155⟩
 (try clear HO1041)
 (try clear HO1045)
 (try clear HO1051)
 (try clear HO1055)
 (try clear BK1036)
 (try clear BK1037)
 (try clear BK1046)
 (try clear BK1047)
 (try clear BK1056)
 (try clear BK1057)
 (try clear HB)
 generalize ((((w29.setCell ⟨gb1056,0,none⟩ (.bool t1048)).setCell ⟨gb1056,1,none⟩ (.slice Ao36 t1049.length co36)).setCell ⟨gb1057,0,none⟩ (.bool t1052)).setCell ⟨gb1057,1,none⟩ (.slice Ao42 t1053.length co42)) = w43 at n0_ n1_ n2_ n3_ n4_ n5_ n6_ n7_ n8_ n9_ n10_ ⊢
 have HO1041:=n0_;have HO1045:=n1_;have HO1051:=n2_;have HO1055:=n3_;have BK1036:=n4_;have BK1037:=n5_;have BK1046:=n6_;have BK1047:=n7_;have BK1056:=n8_;have BK1057:=n9_;have HB:=n10_;clear n0_ n1_ n2_ n3_ n4_ n5_ n6_ n7_ n8_ n9_ n10_;replace HO1041:=wA.mk (Kd.V_drew HO1041.out);replace HO1045:=wA.mk (Kd.R_drew HO1045.out);replace HO1051:=wA.mk (Kd.V_drew HO1051.out);replace HO1055:=wA.mk (Kd.R_drew HO1055.out);replace BK1036:=wA.mk (wF BK1036.out);replace BK1037:=wA.mk (wF BK1037.out);replace BK1046:=wA.mk (wF BK1046.out);replace BK1047:=wA.mk (wF BK1047.out);replace BK1056:=wA.mk (wF BK1056.out);replace BK1057:=wA.mk (wF BK1057.out);replace HB:=wA.mk (wR HB.out);refine zC (n:=8) (S:=fun w'=>w'.cell? ⟨gb1046,0,none⟩ = some (.bool t1038)∧w'.cell? ⟨gb1046,1,none⟩ = some (.slice Ao19 t1039.length co19)∧w'.cell? ⟨gb1057,0,none⟩ = some (.bool t1052)∧w'.cell? ⟨gb1057,1,none⟩ = some (.slice Ao42 t1053.length co42)∧w'.cell? ⟨gb1056,0,none⟩ = some (.bool t1048)∧w'.cell? ⟨gb1056,1,none⟩ = some (.slice Ao36 t1049.length co36)∧w'.cell? ⟨gb1047,0,none⟩ = some (.bool t1042)∧w'.cell? ⟨gb1047,1,none⟩ = some (.slice Ao24 t1043.length co24)) (ds:=[]) #[false,false,false,false,false,false,false,false] (zz0) rfl rfl ⟨(wI BK1046.out 0).trans rfl,(wI BK1046.out 1).trans rfl,(wI BK1057.out 0).trans rfl,(wI BK1057.out 1).trans rfl,(wI BK1056.out 0).trans rfl,(wI BK1056.out 1).trans rfl,(wI BK1047.out 0).trans rfl,(wI BK1047.out 1).trans rfl⟩ (fun hHeld=>?_);refine yS U39.tab3 U39.bits3 (fun HT_ HW_=>?_)
 generalize w43.drew = w44 at HO1041 HO1045 HO1051 HO1055 BK1036 BK1037 BK1046 BK1047 BK1056 BK1057 HB hHeld ⊢
 refine take_ (i:=0) (N:=some 19) (v:=?_) (a':=?_) #[true,false,false,false,false,false,false,false] rfl rfl (wY HT_.out HW_.out (zz0)) (fun _ _ _ h=>h) (Or.inl ⟨zz9,?_⟩) hHeld ?_ ?_;rotate_left
 ·rintro w' ⟨s0,s1,s2,s3,s4,s5,s6,s7⟩
  go_simp
  with_reducible rfl
 rotate_left
 ·simp only [zzs]
  rfl
 refine take_ (i:=1) (N:=some 20) (v:=?_) (a':=?_) #[true,true,false,false,false,false,false,false] rfl rfl (wY HT_.out HW_.out (zz0)) (fun _ _ _ h=>h) (Or.inl ⟨zz9,?_⟩) hHeld ?_ ?_;rotate_left
 ·rintro w' ⟨s0,s1,s2,s3,s4,s5,s6,s7⟩
  go_simp
  with_reducible rfl
 rotate_left
 ·simp only [zzs]
  rfl
 refine take_ (i:=3) (N:=some 22) (v:=?_) (a':=?_) #[true,true,false,true,false,false,false,false] rfl rfl (wY HT_.out HW_.out (zz0)) (fun _ _ _ h=>h) (Or.inl ⟨zz9,?_⟩) hHeld ?_ ?_;rotate_left
 ·rintro w' ⟨s0,s1,s2,s3,s4,s5,s6,s7⟩
  go_simp
  with_reducible rfl
 rotate_left
 ·simp only [zzs]
  rfl
 refine take_ (i:=4) (N:=some 23) (v:=?_) (a':=?_) #[true,true,false,true,true,false,false,false] rfl rfl (wY HT_.out HW_.out (zz0)) (fun _ _ _ h=>h) (Or.inl ⟨zz9,?_⟩) hHeld ?_ ?_;rotate_left
 ·rintro w' ⟨s0,s1,s2,s3,s4,s5,s6,s7⟩
  go_simp
  with_reducible rfl
 rotate_left
 ·simp only [zzs]
  rfl
 refine yW (i:=2) (N:=some 21) #[true,true,true,true,true,false,false,false] rfl rfl (yD HT_.out (zz0)) (zz17) (fun K hK=>?_);refine yN Tryd.func62 (zz0) rfl #[.agg #[.bool t1038,.slice Ao19 t1039.length co19],.agg #[.bool t1052,.slice Ao42 t1053.length co42]] (zz9) rfl rfl (zz5) ?_
 with_reducible refine (U10.calls k t1038 _ _ t1039 t1052 _ _ t1053 t1058 t1059 _ ?side1 ?side2 ?side3 ?side4 A5.out).mono ?_
 (case side1=>exact (have h0_:=HO1041;zz214))
 (case side2=>exact (have h0_:=HO1041;zz215))
 (case side3=>exact (have h0_:=HO1055;zz220))
 (case side4=>exact (have h0_:=HO1055;zz219))
 rintro e w45 ⟨v1060,rfl,ho0,hb⟩;refine ⟨_,rfl,?_⟩;replace HO1041:=wA.mk (Kd.V_elder' (have h0_:=HO1041;zz31) (Kd.R_base ho0) hb);replace HO1051:=wA.mk (Kd.V_elder' (have h0_:=HO1051;zz31) (Kd.R_base ho0) hb);have HO1061:=wA.mk (Kd.R_lower (Kd.R_new' (Kd.R_new' ho0 (Kd.R_lt (zz149))) (Kd.R_lt (have h0_:=HO1055;zz18))) (wB (zz155)));replace HO1045:=wA.mk (Kd.R_elder' (zz149) (Kd.R_base ho0) hb);replace HO1055:=wA.mk (Kd.R_elder' (have h0_:=HO1055;zz18) (Kd.R_base ho0) hb);replace BK1036:=wA.mk (wC (zz147) hb);replace BK1037:=wA.mk (wC (zz148) hb);replace BK1046:=wA.mk (wC (zz150) hb);replace BK1047:=wA.mk (wC (zz153) hb);replace BK1056:=wA.mk (wC (have h0_:=BK1056;zz12) hb);replace BK1057:=wA.mk (wC (have h0_:=BK1057;zz12) hb);replace HB:=wA.mk (wG (zz155) hb)
 (try clear hb)
 (try clear hk)
 (try clear ho0)
 refine hK.out _ _ ⟨(wI BK1046.out 0).trans rfl,(wI BK1046.out 1).trans rfl,(wI BK1057.out 0).trans rfl,(wI BK1057.out 1).trans rfl,(wI BK1056.out 0).trans rfl,(wI BK1056.out 1).trans rfl,(wI BK1047.out 0).trans rfl,(wI BK1047.out 1).trans rfl⟩ (fun hHeld=>?_);clear hK K;refine yJ (a':=?_) ?_ ?_;rotate_left
 ·show Act.put _ (some 21) _ = _
  simp only [zzs]
  rfl
 refine yW (i:=5) (N:=some 24) #[true,true,true,true,true,true,false,false] rfl rfl (yD HT_.out (zz0)) (zz17) (fun K hK=>?_);refine yN Tryd.func62 (zz0) rfl #[.agg #[.bool t1048,.slice Ao36 t1049.length co36],.agg #[.bool t1042,.slice Ao24 t1043.length co24]] (zz9) rfl rfl (zz5) ?_
 with_reducible refine (U10.calls k t1048 _ _ t1049 t1042 _ _ t1043 t1062 t1063 _ ?side1 ?side2 ?side3 ?side4 A6.out).mono ?_
 (case side1=>exact (have h0_:=HO1051;zz214))
 (case side2=>exact (have h0_:=HO1051;zz215))
 (case side3=>exact (have h0_:=HO1045;zz220))
 (case side4=>exact (have h0_:=HO1045;zz219))
 rintro e w46 ⟨v1064,rfl,ho0,hb⟩;refine ⟨_,rfl,?_⟩;replace HO1041:=wA.mk (Kd.V_elder' (have h0_:=HO1041;zz31) (Kd.R_base ho0) hb);replace HO1051:=wA.mk (Kd.V_elder' (have h0_:=HO1051;zz31) (Kd.R_base ho0) hb);have HO1065:=wA.mk (Kd.R_lower (Kd.R_new' (Kd.R_new' (Kd.R_new' ho0 (Kd.R_lt (zz149))) (Kd.R_lt (have h0_:=HO1055;zz18))) (Kd.R_lt (have h0_:=HO1061;zz18))) (wB (zz155)));replace HO1045:=wA.mk (Kd.R_elder' (zz149) (Kd.R_base ho0) hb);replace HO1055:=wA.mk (Kd.R_elder' (have h0_:=HO1055;zz18) (Kd.R_base ho0) hb);replace HO1061:=wA.mk (Kd.R_elder' (have h0_:=HO1061;zz18) (Kd.R_base ho0) hb);replace BK1036:=wA.mk (wC (zz147) hb);replace BK1037:=wA.mk (wC (zz148) hb);replace BK1046:=wA.mk (wC (zz150) hb);replace BK1047:=wA.mk (wC (zz153) hb);replace BK1056:=wA.mk (wC (have h0_:=BK1056;zz12) hb);replace BK1057:=wA.mk (wC (have h0_:=BK1057;zz12) hb);replace HB:=wA.mk (wG (zz155) hb)
 (try clear hb)
 (try clear hb2)
 (try clear hk)
 (try clear hi)
 (try clear ho0)
 obtain ⟨Ao47,co47,eo47⟩:=Kd.R_slice HO1061.out
 (first|subst eo47|(injection eo47 with f1_ f2_ f3_;have f4_:=f1_.symm;have f5_:=f3_.symm;clear f1_ f2_ f3_;subst f4_;subst f5_))
 obtain ⟨Ao48,co48,eo48⟩:=Kd.R_slice HO1065.out
 (first|subst eo48|(injection eo48 with f1_ f2_ f3_;have f4_:=f1_.symm;have f5_:=f3_.symm;clear f1_ f2_ f3_;subst f4_;subst f5_))
 refine hK.out _ _ ⟨(wI BK1046.out 0).trans rfl,(wI BK1046.out 1).trans rfl,(wI BK1057.out 0).trans rfl,(wI BK1057.out 1).trans rfl,(wI BK1056.out 0).trans rfl,(wI BK1056.out 1).trans rfl,(wI BK1047.out 0).trans rfl,(wI BK1047.out 1).trans rfl⟩ (fun hHeld=>?_);clear hK K;refine yJ (a':=?_) ?_ ?_;rotate_left
 ·show Act.put _ (some 24) _ = _
  simp only [zzs]
  rfl
 refine yW (i:=6) (N:=some 25) #[true,true,true,true,true,true,true,false] rfl rfl (yD HT_.out (zz0)) (zz17) (fun K hK=>?_);refine yN Tryd.func66 (zz0) rfl #[.agg #[.bool t1058,.slice Ao47 t1059.length co47],.agg #[.bool t1062,.slice Ao48 t1063.length co48]] (zz9) rfl rfl (zz5) ?_
 with_reducible refine (U8.calls k t1058 _ _ t1059 t1062 _ _ t1063 t1066 _ ?side1 ?side2 ?side3 ?side4 A7.out).mono ?_
 (case side1=>exact (have h0_:=HO1061;zz220))
 (case side2=>exact (have h0_:=HO1061;zz219))
 (case side3=>exact (have h0_:=HO1065;zz220))
 (case side4=>exact (have h0_:=HO1065;zz219))
 rintro e w49 ⟨rfl,hb⟩;refine ⟨_,rfl,?_⟩;replace HO1041:=wA.mk (Kd.V_below (have h0_:=HO1041;zz31) hb);replace HO1045:=wA.mk (Kd.R_below (zz149) hb);replace HO1051:=wA.mk (Kd.V_below (have h0_:=HO1051;zz31) hb);replace HO1055:=wA.mk (Kd.R_below (have h0_:=HO1055;zz18) hb);replace HO1061:=wA.mk (Kd.R_below (have h0_:=HO1061;zz18) hb);replace HO1065:=wA.mk (Kd.R_below (have h0_:=HO1065;zz18) hb);replace BK1036:=wA.mk (wC (zz147) hb);replace BK1037:=wA.mk (wC (zz148) hb);replace BK1046:=wA.mk (wC (zz150) hb);replace BK1047:=wA.mk (wC (zz153) hb);replace BK1056:=wA.mk (wC (have h0_:=BK1056;zz12) hb);replace BK1057:=wA.mk (wC (have h0_:=BK1057;zz12) hb);replace HB:=wA.mk (wG (zz155) hb)
 (try clear hb)
 (try clear hb2)
 (try clear hk)
 (try clear hi)
 refine hK.out _ _ ⟨(wI BK1046.out 0).trans rfl,(wI BK1046.out 1).trans rfl,(wI BK1057.out 0).trans rfl,(wI BK1057.out 1).trans rfl,(wI BK1056.out 0).trans rfl,(wI BK1056.out 1).trans rfl,(wI BK1047.out 0).trans rfl,(wI BK1047.out 1).trans rfl⟩ (fun hHeld=>?_);clear hK K;refine yJ (a':=?_) ?_ ?_;rotate_left
 ·show Act.put _ (some 25) _ = _
  simp only [zzs]
  rfl
 refine zzp 7 4 ?_ #[true,true,true,true,true,true,true,true] rfl rfl (wU HT_.out (zz0)) (fun _ _ _ h=>h) (Or.inl ⟨zz9,?_⟩) ?_ ?_ ?_;rotate_left
 ·intro w'
  go_simp
  with_reducible rfl
 rotate_left
 ·simp only [zzs]
  rfl
 refine zN (zL HT_.out (zz0)) ?_
 try go_wp2
 go_ret
 exact ⟨zz14,zz155⟩
end Go.Proofs.YtfkmbjkmlfnapaaDoor.QA
