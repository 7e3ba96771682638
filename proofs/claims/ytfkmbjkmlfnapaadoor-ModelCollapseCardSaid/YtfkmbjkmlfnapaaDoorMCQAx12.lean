import Derived.Test.YtfkmbjkmlfnapaaDoorMCQAx0
import Derived.Test.YtfkmbjkmlfnapaaDoorMCQAx9
import Derived.Test.YtfkmbjkmlfnapaaDoorMCQAx11
namespace Go.Proofs.YtfkmbjkmlfnapaaDoor.QA
open Go.RowKit Go.Proofs.YtfkmbjkmlfnapaaDoorW.PrintWords Go.Proofs.YtfkmbjkmlfnapaaDoorW.PrintLast Go.Proofs.YtfkmbjkmlfnapaaDoorW.PrintMore
attribute [local go_sem] yG yF yP yO yA yB yH yE
set_option linter.unusedVariables false
set_option linter.unusedSimpArgs false
def U43.f (k:Nat) (a0_0:Bool) (l0_1:List Int) (l0_2:List Int):Option (ByteArray):=(U41.f k a0_0 l0_1 l0_2).bind fun bt455=>((U12.f k bt455.1 bt455.2.1).bind fun t463=>((nat_Of.f k 1).bind fun t464=>((U29.f k bt455.2.2 t464).bind fun t467=>(if t467 = 0 then (some t463) else ((U34.f k bt455.2.2).bind fun t468=>(if 1+t468.size≤9223372036854775807 then (if t463.size+((⟨#[47]⟩:ByteArray)++t468).size≤9223372036854775807 then (some (t463++((⟨#[47]⟩:ByteArray)++t468))) else (none)) else (none)))))))
theorem zm12_0 {P:Prop} (h:P:=by repeat' first|(with_reducible first|exact U12.mono ..|exact U29.mono ..|exact nat_Of.mono ..|exact U34.mono ..|exact U41.mono ..|exact LeO.refl _|exact LeO.none _|refine LeO.ite ?_ ?_|refine LeO.bind ?_ (fun _=>?_))|exact U12.mono ..|exact U29.mono ..|exact nat_Of.mono ..|exact U34.mono ..|exact U41.mono ..|exact LeO.none _|refine LeO.ite ?_ ?_|refine LeO.bind ?_ (fun _=>?_)):P:=h
theorem U43.mono:∀ a0 a1 a2 k,LeO (U43.f k a0 a1 a2) (U43.f (k+1) a0 a1 a2):=by
 intro a0 a1 a2 k;unfold U43.f
 exact zm12_0
set_option maxHeartbeats 8000000 in
set_option maxRecDepth 100000 in
theorem U43.calls (k:Nat) (a0_0:Bool) (A0_1:Option Addr) (c0_1:Nat) (l0_1:List Int) (A0_2:Option Addr) (c0_2:Nat) (l0_2:List Int) (r:ByteArray) (w:World) (hr0_1:Kd.C (Kd.int .u32) w A0_1 l0_1.length l0_1) (hc0_1:l0_1.length≤c0_1) (hr0_2:Kd.C (Kd.int .u32) w A0_2 l0_2.length l0_2) (hc0_2:l0_2.length≤c0_2) (h:U43.f k a0_0 l0_1 l0_2 = some r) :
  Calls Tryd.prog 43 #[.agg #[.bool a0_0,.slice A0_1 l0_1.length c0_1,.slice A0_2 l0_2.length c0_2]] w fun e w'=>e = .returned (.string r)∧Below w.heap.size w w':=by
 have hu49:=Tryd.underlying49;have hu47:=Tryd.underlying47;have HR0_1:=wA.mk hr0_1;have HC0_1:=wA.mk hc0_1;clear hr0_1 hc0_1;have HR0_2:=wA.mk hr0_2;have HC0_2:=wA.mk hc0_2;clear hr0_2 hc0_2;have HB:=wA.mk (Below.refl w.heap.size w);have H:((U41.f k a0_0 l0_1 l0_2).bind fun bt455=>((U12.f k bt455.1 bt455.2.1).bind fun t463=>((nat_Of.f k 1).bind fun t464=>((U29.f k bt455.2.2 t464).bind fun t467=>(if t467 = 0 then (some t463) else ((U34.f k bt455.2.2).bind fun t468=>(if 1+t468.size≤9223372036854775807 then (if t463.size+((⟨#[47]⟩:ByteArray)++t468).size≤9223372036854775807 then (some (t463++((⟨#[47]⟩:ByteArray)++t468))) else (none)) else (none)))))))) = some r:=h;clear h;replace H:=Option.bind_eq_some_iff.mp H;obtain ⟨⟨t455,t456,t459⟩,A20,H⟩:=H;have A2:=wA.mk A20;clear A20;replace H:=zzb H;obtain ⟨t463,A3,H⟩:=H;replace H:=zzb H;obtain ⟨t464,A4,H⟩:=H;replace H:=zzb H;obtain ⟨t467,A5,H⟩:=H;replace H:=zzj H;rcases H with ⟨c6,H⟩|⟨c6,H⟩
 ·have c6b0:=beq_iff_eq.mpr c6;have c6b1:=bne_eq_false_iff_eq.mpr c6;clear c6;obtain rfl:=Option.some.inj H;go_enter Tryd.func43,Tryd.ntmps43
  try go_wp2_with (first|((with_reducible refine wK (N:=1) rfl ?_);refine wM ?hg (N:=1) ?hd (cs:=#[.bool a0_0,.slice A0_1 l0_1.length c0_1,.slice A0_2 l0_2.length c0_2]) (t:=49) ?hr ?_;(case hd=>rfl);(case hg=>rfl);(case hr=>exact zz205);intro gb454 hg w7 hbox hb;have BK454:=wA.mk (hbox);have GW454:=wA.mk ((by rw [hg];exact (wB (zz10)):w.heap.size≤gb454));have GE454:=wA.mk ((by rw [hg];exact (wB (zz10)):w.heap.size≤gb454));replace HB:=wA.mk (wG (zz10) hb);clear hb hbox hg;obtain ⟨hcz8_0,hcz8_1,hcz8_2,hfz8_0,hfz8_1,hfz8_2⟩:=zc3 BK454.out)|((with_reducible refine wH (f:=70) rfl ?_);refine wO (some 6) rfl rfl Tryd.func70 (zz0) rfl #[.agg #[.bool a0_0,.slice A0_1 l0_1.length c0_1,.slice A0_2 l0_2.length c0_2]] rfl (zz5) ?_;(with_reducible refine (U41.calls k a0_0 (fun k_=>k_ < w.heap.size) _ _ l0_1 (fun k_=>k_ < w.heap.size) _ _ l0_2 t455 t456 t459 _ ?_ ?_ A2.out).mono ?_);(exact (have h0_:=HC0_1;have h1_:=HR0_1;zz218));(exact (have h0_:=HC0_2;have h1_:=HR0_2;zz218));rintro e w9 ⟨v457,v460,rfl,ho0,ho1,hb⟩;refine ⟨_,rfl,?_⟩;have HO458:=wA.mk (Kd.R_lower (Kd.R_mono (ok':=fun k_=>True) ho0 (fun _ hk_=>trivial)) (wB (zz75)));have HO461:=wA.mk (Kd.V_lower (Kd.V_mono (ok':=fun k_=>some k_ ≠ (v457:Value).ownBlock∧k_ ≠ gb454) ho1 (fun k_ hk_=>⟨hk_.2,Or.elim hk_.1 (fun hs_=>Or.elim hs_ (fun hs_=>fun e_=>Nat.not_le.2 hs_ (have h0_:=GW454;zz76)) (fun hs_=>fun e_=>Nat.not_le.2 hs_ (have h0_:=GW454;zz76))) (fun hn_=>(Kd.freshB (g:=gb454) (o:=.cells #[.bool a0_0,.slice A0_1 l0_1.length c0_1,.slice A0_2 l0_2.length c0_2] 49 (0,0)) (zz77) k_ hn_))⟩)) (wB (zz75)));replace BK454:=wA.mk (wC (zz77) hb);replace HB:=wA.mk (wG (zz75) hb);(try clear hb);(try clear ho0);(try clear ho1))|((with_reducible refine wK (N:=3) rfl ?_);refine wM ?hg (N:=3) ?hd (cs:=#[.bool false,.slice none 0 0,.slice none 0 0]) (t:=49) ?hr ?_;(case hd=>rfl);(case hg=>rfl);(case hr=>exact zz205);intro gb462 hg w10 hbox hb;replace HO458:=wA.mk (Kd.R_below (have h0_:=HO458;zz18) hb);replace HO461:=wA.mk (Kd.V_below (Kd.V_elderB (have h0_:=HO461;zz31) gb462 (Nat.le_of_eq hg.symm)) hb);have BK462:=wA.mk (hbox);have GW462:=wA.mk ((by rw [hg];exact (wB (zz75)):w.heap.size≤gb462));have GE462:=wA.mk ((by rw [hg];exact (wB (zz75)):w.heap.size≤gb462));replace HB:=wA.mk (wG (zz75) hb);have NB454_462:=wA.mk ((by rw [hg];exact Nat.ne_of_lt (wJ (g:=gb454) (o:=.cells #[.bool a0_0,.slice A0_1 l0_1.length c0_1,.slice A0_2 l0_2.length c0_2] 49 (0,0)) (zz77)):gb454 ≠ gb462));have NB462_454:=wA.mk ((by rw [hg];exact Nat.ne_of_gt (wJ (g:=gb454) (o:=.cells #[.bool a0_0,.slice A0_1 l0_1.length c0_1,.slice A0_2 l0_2.length c0_2] 49 (0,0)) (zz77)):gb462 ≠ gb454));replace BK454:=wA.mk (wC (zz77) hb);clear hb hbox hg;have hnb11:=NB462_454.out;have hnc11:=NB454_462.out;obtain ⟨hcz12_0,hcz12_1,hcz12_2,hfz12_0,hfz12_1,hfz12_2⟩:=zc3 BK462.out;obtain ⟨Ao13,co13,eo13⟩:=Kd.R_slice HO458.out;subst eo13;obtain ⟨Ao14,co14,eo14⟩:=Kd.V_slice HO461.out;subst eo14)|((with_reducible refine wH (f:=71) rfl ?_);refine wO (some 9) rfl rfl Tryd.func71 (zz0) rfl #[.agg #[.bool t455,.slice Ao13 t456.length co13]] rfl (zz5) ?_;(with_reducible refine (U12.calls k t455 _ _ t456 t463 _ ?_ ?_ A3.out).mono ?_);(refine (Kd.R_reads' (e:=52) (base:=w.heap.size) (ok:=fun k_=>True) (n:=t456.length) (c:=co13) ?_).2.2;exact (by (with_reducible repeat (first|apply Kd.R_alloc|apply Kd.R_drewN|apply Kd.R_drew));exact (Kd.R_mono (Kd.R_far (p:=⟨gb462,2,none⟩) (Kd.R_far (p:=⟨gb462,1,none⟩) (Kd.R_far (p:=⟨gb462,0,none⟩) (Kd.R_types HO458.out BK462.out (zz17)) (fun _ hk=>hk.2) (.bool t455)) (fun _ hk=>hk.2) (.slice Ao13 t456.length co13)) (fun _ hk=>hk.2) (.slice Ao14 t459.length co14)) (fun _ h_=>h_.1))));(exact (have h0_:=HO458;zz219));rintro e w15 ⟨rfl,hb⟩;refine ⟨_,rfl,?_⟩;replace HO458:=wA.mk (Kd.R_below (by (with_reducible repeat (first|apply Kd.R_alloc|apply Kd.R_drewN|apply Kd.R_drew));exact (Kd.R_mono (Kd.R_far (p:=⟨gb462,2,none⟩) (Kd.R_far (p:=⟨gb462,1,none⟩) (Kd.R_far (p:=⟨gb462,0,none⟩) (Kd.R_types HO458.out BK462.out (zz17)) (fun _ hk=>hk.2) (.bool t455)) (fun _ hk=>hk.2) (.slice Ao13 t456.length co13)) (fun _ hk=>hk.2) (.slice Ao14 t459.length co14)) (fun _ h_=>h_.1))) hb);replace HO461:=wA.mk (Kd.V_below (by (with_reducible repeat (first|apply Kd.V_alloc|apply Kd.V_drewN|apply Kd.V_drew));exact (Kd.V_mono (Kd.V_far (p:=⟨gb462,2,none⟩) (Kd.V_far (p:=⟨gb462,1,none⟩) (Kd.V_far (p:=⟨gb462,0,none⟩) (Kd.V_mono HO461.out (fun k_ hk=>(⟨hk,hk.2⟩:_∧k_ ≠ gb462))) (fun _ hk=>hk.2) (.bool t455)) (fun _ hk=>hk.2) (.slice Ao13 t456.length co13)) (fun _ hk=>hk.2) (.slice Ao14 t459.length co14)) (fun _ h_=>h_.1))) hb);replace BK454:=wA.mk (wC (g:=gb454) (o:=.cells #[.bool a0_0,.slice A0_1 l0_1.length c0_1,.slice A0_2 l0_2.length c0_2] 49 (0,0)) (by (with_reducible repeat (first|refine wE ?_ _|refine wF ?_|refine wD ?_ _));refine wN ?_ NB454_462.out _;(with_reducible repeat (first|refine wE ?_ _|refine wF ?_|refine wD ?_ _));refine wN ?_ NB454_462.out _;(with_reducible repeat (first|refine wE ?_ _|refine wF ?_|refine wD ?_ _));refine wN ?_ NB454_462.out _;(with_reducible repeat (first|refine wE ?_ _|refine wF ?_|refine wD ?_ _));exact BK454.out) hb);replace BK462:=wA.mk (wC (g:=gb462) (o:=.cells #[.bool t455,.slice Ao13 t456.length co13,.slice Ao14 t459.length co14] 49 (0,0)) (by (with_reducible repeat (first|refine wE ?_ _|refine wF ?_|refine wD ?_ _));refine wP (cs:=#[.bool t455,.slice Ao13 t456.length co13,.slice none 0 0]) ?_ 2 _ rfl;(with_reducible repeat (first|refine wE ?_ _|refine wF ?_|refine wD ?_ _));refine wP (cs:=#[.bool t455,.slice none 0 0,.slice none 0 0]) ?_ 1 _ rfl;(with_reducible repeat (first|refine wE ?_ _|refine wF ?_|refine wD ?_ _));refine wP (cs:=#[.bool false,.slice none 0 0,.slice none 0 0]) ?_ 0 _ rfl;(with_reducible repeat (first|refine wE ?_ _|refine wF ?_|refine wD ?_ _));exact BK462.out) hb);replace HB:=wA.mk (wG (zz78) hb);(try clear hb);(try clear hk)))
  replace HO458:=wA.mk (Kd.R_drew HO458.out);replace HO461:=wA.mk (Kd.V_drew HO461.out);replace BK454:=wA.mk (wF BK454.out);replace BK462:=wA.mk (wF BK462.out);replace HB:=wA.mk (wR HB.out);refine zC (n:=5) (S:=fun w'=>w'.cell? ⟨gb462,0,none⟩ = some (.bool t455)∧w'.cell? ⟨gb462,1,none⟩ = some (.slice Ao13 t456.length co13)∧w'.cell? ⟨gb462,2,none⟩ = some (.slice Ao14 t459.length co14)) (ds:=[]) #[false,false,false,false,false] (zz0) rfl rfl ⟨(wI BK462.out 0).trans rfl,(wI BK462.out 1).trans rfl,(wI BK462.out 2).trans rfl⟩ (fun hHeld=>?_)
  generalize w15.drew = w16 at HO458 HO461 BK454 BK462 HB hHeld ⊢
  refine zW (i:=0) (N:=some 10) (v:=?_) (a':=?_) #[true,false,false,false,false] rfl rfl (zz0) (fun _ _ _ h=>h) (Or.inl ⟨zz9,?_⟩) ?_ ?_;rotate_left
  ·intro w'
   go_simp
   with_reducible rfl
  rotate_left
  ·simp only [zzs]
   rfl
  refine take_ (i:=1) (N:=some 11) (v:=?_) (a':=?_) #[true,true,false,false,false] rfl rfl (zz0) (fun _ _ _ h=>h) (Or.inl ⟨zz9,?_⟩) hHeld ?_ ?_;rotate_left
  ·rintro w' ⟨s0,s1,s2⟩
   go_simp
   with_reducible rfl
  rotate_left
  ·simp only [zzs]
   rfl
  refine yW (i:=2) (N:=some 12) #[true,true,true,false,false] rfl rfl (zz0) (zz17) (fun K hK=>?_);refine yN Tryd.func73 (zz0) rfl #[.int .u64 1] (zz9) rfl rfl (zz5) ?_
  with_reducible refine (nat_Of.calls k 1 t464 _ A4.out).mono ?_
  rintro e w17 ⟨v465,rfl,ho0,hb⟩;refine ⟨_,rfl,?_⟩;replace HO461:=wA.mk (Kd.V_below (have h0_:=HO461;zz31) hb);have HO466:=wA.mk (Kd.V_lower (Kd.V_mono (ok':=fun k_=>some k_ ≠ (.slice Ao13 t456.length co13:Value).ownBlock∧k_ ≠ gb454∧k_ ≠ gb462) ho0 (fun k_ hk_=>⟨(Kd.fresh' (Kd.R_lt (have h0_:=HO458;zz18)) k_ hk_),(Kd.freshB (g:=gb454) (o:=.cells #[.bool a0_0,.slice A0_1 l0_1.length c0_1,.slice A0_2 l0_2.length c0_2] 49 (0,0)) (zz77) k_ hk_),(Kd.freshB (g:=gb462) (o:=.cells #[.bool t455,.slice Ao13 t456.length co13,.slice Ao14 t459.length co14] 49 (0,0)) (have h0_:=BK462;zz12) k_ hk_)⟩)) (wB (zz78)));replace HO458:=wA.mk (Kd.R_below (have h0_:=HO458;zz18) hb);replace BK454:=wA.mk (wC (zz77) hb);replace BK462:=wA.mk (wC (have h0_:=BK462;zz12) hb);replace HB:=wA.mk (wG (zz78) hb)
  (try clear hb)
  (try clear hk)
  (try clear ho0)
  obtain ⟨Ao18,co18,eo18⟩:=Kd.V_slice HO466.out
  (first|subst eo18|(injection eo18 with f1_ f2_ f3_;have f4_:=f1_.symm;have f5_:=f3_.symm;clear f1_ f2_ f3_;subst f4_;subst f5_))
  refine hK.out _ _ ⟨(wI BK462.out 0).trans rfl,(wI BK462.out 1).trans rfl,(wI BK462.out 2).trans rfl⟩ (fun hHeld=>?_);clear hK K;refine yJ (a':=?_) ?_ ?_;rotate_left
  ·show Act.put _ (some 12) _ = _
   simp only [zzs]
   rfl
  refine yW (i:=3) (N:=some 13) #[true,true,true,true,false] rfl rfl (zz0) (zz17) (fun K hK=>?_);refine yN Tryd.func72 (zz0) rfl #[.slice Ao14 t459.length co14,.slice Ao18 t464.length co18] (zz9) rfl rfl (zz5) ?_
  with_reducible refine (U29.calls k _ _ t459 _ _ t464 t467 _ ?side1 ?side2 ?side3 ?side4 A5.out).mono ?_
  (case side1=>exact (have h0_:=HO461;zz214))
  (case side2=>exact (have h0_:=HO461;zz215))
  (case side3=>exact (have h0_:=HO466;zz214))
  (case side4=>exact (have h0_:=HO466;zz215))
  rintro e w19 ⟨rfl,hb⟩;refine ⟨_,rfl,?_⟩;replace HO458:=wA.mk (Kd.R_below (have h0_:=HO458;zz18) hb);replace HO461:=wA.mk (Kd.V_below (have h0_:=HO461;zz31) hb);replace HO466:=wA.mk (Kd.V_below (have h0_:=HO466;zz31) hb);replace BK454:=wA.mk (wC (zz77) hb);replace BK462:=wA.mk (wC (have h0_:=BK462;zz12) hb);replace HB:=wA.mk (wG (zz78) hb)
  (try clear hb)
  (try clear hb2)
  (try clear hk)
  (try clear hi)
  refine hK.out _ _ ⟨(wI BK462.out 0).trans rfl,(wI BK462.out 1).trans rfl,(wI BK462.out 2).trans rfl⟩ (fun hHeld=>?_);clear hK K;refine yJ (a':=?_) ?_ ?_;rotate_left
  ·show Act.put _ (some 13) _ = _
   simp only [zzs]
   rfl
  refine zW (i:=4) (N:=some 14) (v:=?_) (a':=?_) #[true,true,true,true,true] rfl rfl (zz0) (fun _ _ _ h=>h) (Or.inl ⟨zz9,?_⟩) ?_ ?_;rotate_left
  ·intro w'
   go_simp
   with_reducible rfl
  rotate_left
  ·simp only [zzs]
   rfl
  refine zN (zz0) ?_
  try go_wp2
  go_ret
  exact ⟨zz14,zz78⟩
 ·have c6b0:=beq_eq_false_iff_ne.mpr c6;have c6b1:=bne_iff_ne.mpr c6;replace H:=zzb H;obtain ⟨t468,A20,H⟩:=H;replace H:=zzi H;obtain ⟨c21,H⟩:=H;have c21b0:=eq_true c21;have c21b1:=decide_eq_true c21
  try have c21b2:(9223372036854775807 < 1+t468.size) = False:=eq_false (Nat.not_lt.2 c21)
  replace H:=zzi H;obtain ⟨c22,H⟩:=H;have c22b0:=eq_true c22;have c22b1:=decide_eq_true c22
  try have c22b2:(9223372036854775807 < t463.size+((⟨#[47]⟩:ByteArray)++t468).size) = False:=eq_false (Nat.not_lt.2 c22)
  obtain rfl:=Option.some.inj H;go_enter Tryd.func43,Tryd.ntmps43
  try go_wp2_with (first|((with_reducible refine wK (N:=1) rfl ?_);refine wM ?hg (N:=1) ?hd (cs:=#[.bool a0_0,.slice A0_1 l0_1.length c0_1,.slice A0_2 l0_2.length c0_2]) (t:=49) ?hr ?_;(case hd=>rfl);(case hg=>rfl);(case hr=>exact zz205);intro gb454 hg w23 hbox hb;have BK454:=wA.mk (hbox);have GW454:=wA.mk ((by rw [hg];exact (wB (zz10)):w.heap.size≤gb454));have GE454:=wA.mk ((by rw [hg];exact (wB (zz10)):w.heap.size≤gb454));replace HB:=wA.mk (wG (zz10) hb);clear hb hbox hg;obtain ⟨hcz24_0,hcz24_1,hcz24_2,hfz24_0,hfz24_1,hfz24_2⟩:=zc3 BK454.out)|((with_reducible refine wH (f:=70) rfl ?_);refine wO (some 6) rfl rfl Tryd.func70 (zz0) rfl #[.agg #[.bool a0_0,.slice A0_1 l0_1.length c0_1,.slice A0_2 l0_2.length c0_2]] rfl (zz5) ?_;(with_reducible refine (U41.calls k a0_0 (fun k_=>k_ < w.heap.size) _ _ l0_1 (fun k_=>k_ < w.heap.size) _ _ l0_2 t455 t456 t459 _ ?_ ?_ A2.out).mono ?_);(exact (have h0_:=HC0_1;have h1_:=HR0_1;zz218));(exact (have h0_:=HC0_2;have h1_:=HR0_2;zz218));rintro e w25 ⟨v457,v460,rfl,ho0,ho1,hb⟩;refine ⟨_,rfl,?_⟩;have HO458:=wA.mk (Kd.R_lower (Kd.R_mono (ok':=fun k_=>True) ho0 (fun _ hk_=>trivial)) (wB (zz75)));have HO461:=wA.mk (Kd.V_lower (Kd.V_mono (ok':=fun k_=>some k_ ≠ (v457:Value).ownBlock∧k_ ≠ gb454) ho1 (fun k_ hk_=>⟨hk_.2,Or.elim hk_.1 (fun hs_=>Or.elim hs_ (fun hs_=>fun e_=>Nat.not_le.2 hs_ (have h0_:=GW454;zz76)) (fun hs_=>fun e_=>Nat.not_le.2 hs_ (have h0_:=GW454;zz76))) (fun hn_=>(Kd.freshB (g:=gb454) (o:=.cells #[.bool a0_0,.slice A0_1 l0_1.length c0_1,.slice A0_2 l0_2.length c0_2] 49 (0,0)) (zz77) k_ hn_))⟩)) (wB (zz75)));replace BK454:=wA.mk (wC (zz77) hb);replace HB:=wA.mk (wG (zz75) hb);(try clear hb);(try clear ho0);(try clear ho1))|((with_reducible refine wK (N:=3) rfl ?_);refine wM ?hg (N:=3) ?hd (cs:=#[.bool false,.slice none 0 0,.slice none 0 0]) (t:=49) ?hr ?_;(case hd=>rfl);(case hg=>rfl);(case hr=>exact zz205);intro gb462 hg w26 hbox hb;replace HO458:=wA.mk (Kd.R_below (have h0_:=HO458;zz18) hb);replace HO461:=wA.mk (Kd.V_below (Kd.V_elderB (have h0_:=HO461;zz31) gb462 (Nat.le_of_eq hg.symm)) hb);have BK462:=wA.mk (hbox);have GW462:=wA.mk ((by rw [hg];exact (wB (zz75)):w.heap.size≤gb462));have GE462:=wA.mk ((by rw [hg];exact (wB (zz75)):w.heap.size≤gb462));replace HB:=wA.mk (wG (zz75) hb);have NB454_462:=wA.mk ((by rw [hg];exact Nat.ne_of_lt (wJ (g:=gb454) (o:=.cells #[.bool a0_0,.slice A0_1 l0_1.length c0_1,.slice A0_2 l0_2.length c0_2] 49 (0,0)) (zz77)):gb454 ≠ gb462));have NB462_454:=wA.mk ((by rw [hg];exact Nat.ne_of_gt (wJ (g:=gb454) (o:=.cells #[.bool a0_0,.slice A0_1 l0_1.length c0_1,.slice A0_2 l0_2.length c0_2] 49 (0,0)) (zz77)):gb462 ≠ gb454));replace BK454:=wA.mk (wC (zz77) hb);clear hb hbox hg;have hnb27:=NB462_454.out;have hnc27:=NB454_462.out;obtain ⟨hcz28_0,hcz28_1,hcz28_2,hfz28_0,hfz28_1,hfz28_2⟩:=zc3 BK462.out;obtain ⟨Ao29,co29,eo29⟩:=Kd.R_slice HO458.out;subst eo29;obtain ⟨Ao30,co30,eo30⟩:=Kd.V_slice HO461.out;subst eo30)|((with_reducible refine wH (f:=71) rfl ?_);refine wO (some 9) rfl rfl Tryd.func71 (zz0) rfl #[.agg #[.bool t455,.slice Ao29 t456.length co29]] rfl (zz5) ?_;(with_reducible refine (U12.calls k t455 _ _ t456 t463 _ ?_ ?_ A3.out).mono ?_);(refine (Kd.R_reads' (e:=52) (base:=w.heap.size) (ok:=fun k_=>True) (n:=t456.length) (c:=co29) ?_).2.2;exact (by (with_reducible repeat (first|apply Kd.R_alloc|apply Kd.R_drewN|apply Kd.R_drew));exact (Kd.R_mono (Kd.R_far (p:=⟨gb462,2,none⟩) (Kd.R_far (p:=⟨gb462,1,none⟩) (Kd.R_far (p:=⟨gb462,0,none⟩) (Kd.R_types HO458.out BK462.out (zz17)) (fun _ hk=>hk.2) (.bool t455)) (fun _ hk=>hk.2) (.slice Ao29 t456.length co29)) (fun _ hk=>hk.2) (.slice Ao30 t459.length co30)) (fun _ h_=>h_.1))));(exact (have h0_:=HO458;zz219));rintro e w31 ⟨rfl,hb⟩;refine ⟨_,rfl,?_⟩;replace HO458:=wA.mk (Kd.R_below (by (with_reducible repeat (first|apply Kd.R_alloc|apply Kd.R_drewN|apply Kd.R_drew));exact (Kd.R_mono (Kd.R_far (p:=⟨gb462,2,none⟩) (Kd.R_far (p:=⟨gb462,1,none⟩) (Kd.R_far (p:=⟨gb462,0,none⟩) (Kd.R_types HO458.out BK462.out (zz17)) (fun _ hk=>hk.2) (.bool t455)) (fun _ hk=>hk.2) (.slice Ao29 t456.length co29)) (fun _ hk=>hk.2) (.slice Ao30 t459.length co30)) (fun _ h_=>h_.1))) hb);replace HO461:=wA.mk (Kd.V_below (by (with_reducible repeat (first|apply Kd.V_alloc|apply Kd.V_drewN|apply Kd.V_drew));exact (Kd.V_mono (Kd.V_far (p:=⟨gb462,2,none⟩) (Kd.V_far (p:=⟨gb462,1,none⟩) (Kd.V_far (p:=⟨gb462,0,none⟩) (Kd.V_mono HO461.out (fun k_ hk=>(⟨hk,hk.2⟩:_∧k_ ≠ gb462))) (fun _ hk=>hk.2) (.bool t455)) (fun _ hk=>hk.2) (.slice Ao29 t456.length co29)) (fun _ hk=>hk.2) (.slice Ao30 t459.length co30)) (fun _ h_=>h_.1))) hb);replace BK454:=wA.mk (wC (g:=gb454) (o:=.cells #[.bool a0_0,.slice A0_1 l0_1.length c0_1,.slice A0_2 l0_2.length c0_2] 49 (0,0)) (by (with_reducible repeat (first|refine wE ?_ _|refine wF ?_|refine wD ?_ _));refine wN ?_ NB454_462.out _;(with_reducible repeat (first|refine wE ?_ _|refine wF ?_|refine wD ?_ _));refine wN ?_ NB454_462.out _;(with_reducible repeat (first|refine wE ?_ _|refine wF ?_|refine wD ?_ _));refine wN ?_ NB454_462.out _;(with_reducible repeat (first|refine wE ?_ _|refine wF ?_|refine wD ?_ _));exact BK454.out) hb);replace BK462:=wA.mk (wC (g:=gb462) (o:=.cells #[.bool t455,.slice Ao29 t456.length co29,.slice Ao30 t459.length co30] 49 (0,0)) (by (with_reducible repeat (first|refine wE ?_ _|refine wF ?_|refine wD ?_ _));refine wP (cs:=#[.bool t455,.slice Ao29 t456.length co29,.slice none 0 0]) ?_ 2 _ rfl;(with_reducible repeat (first|refine wE ?_ _|refine wF ?_|refine wD ?_ _));refine wP (cs:=#[.bool t455,.slice none 0 0,.slice none 0 0]) ?_ 1 _ rfl;(with_reducible repeat (first|refine wE ?_ _|refine wF ?_|refine wD ?_ _));refine wP (cs:=#[.bool false,.slice none 0 0,.slice none 0 0]) ?_ 0 _ rfl;(with_reducible repeat (first|refine wE ?_ _|refine wF ?_|refine wD ?_ _));exact BK462.out) hb);replace HB:=wA.mk (wG (zz78) hb);(try clear hb);(try clear hk)))
  replace HO458:=wA.mk (Kd.R_drew HO458.out);replace HO461:=wA.mk (Kd.V_drew HO461.out);replace BK454:=wA.mk (wF BK454.out);replace BK462:=wA.mk (wF BK462.out);replace HB:=wA.mk (wR HB.out);refine zC (n:=5) (S:=fun w'=>w'.cell? ⟨gb462,0,none⟩ = some (.bool t455)∧w'.cell? ⟨gb462,1,none⟩ = some (.slice Ao29 t456.length co29)∧w'.cell? ⟨gb462,2,none⟩ = some (.slice Ao30 t459.length co30)) (ds:=[]) #[false,false,false,false,false] (zz0) rfl rfl ⟨(wI BK462.out 0).trans rfl,(wI BK462.out 1).trans rfl,(wI BK462.out 2).trans rfl⟩ (fun hHeld=>?_)
  generalize w31.drew = w32 at HO458 HO461 BK454 BK462 HB hHeld ⊢
  refine zW (i:=0) (N:=some 10) (v:=?_) (a':=?_) #[true,false,false,false,false] rfl rfl (zz0) (fun _ _ _ h=>h) (Or.inl ⟨zz9,?_⟩) ?_ ?_;rotate_left
  ·intro w'
   go_simp
   with_reducible rfl
  rotate_left
  ·simp only [zzs]
   rfl
  refine take_ (i:=1) (N:=some 11) (v:=?_) (a':=?_) #[true,true,false,false,false] rfl rfl (zz0) (fun _ _ _ h=>h) (Or.inl ⟨zz9,?_⟩) hHeld ?_ ?_;rotate_left
  ·rintro w' ⟨s0,s1,s2⟩
   go_simp
   with_reducible rfl
  rotate_left
  ·simp only [zzs]
   rfl
  refine yW (i:=2) (N:=some 12) #[true,true,true,false,false] rfl rfl (zz0) (zz17) (fun K hK=>?_);refine yN Tryd.func73 (zz0) rfl #[.int .u64 1] (zz9) rfl rfl (zz5) ?_
  with_reducible refine (nat_Of.calls k 1 t464 _ A4.out).mono ?_
  rintro e w33 ⟨v465,rfl,ho0,hb⟩;refine ⟨_,rfl,?_⟩;replace HO461:=wA.mk (Kd.V_below (have h0_:=HO461;zz31) hb);have HO466:=wA.mk (Kd.V_lower (Kd.V_mono (ok':=fun k_=>some k_ ≠ (.slice Ao29 t456.length co29:Value).ownBlock∧k_ ≠ gb454∧k_ ≠ gb462) ho0 (fun k_ hk_=>⟨(Kd.fresh' (Kd.R_lt (have h0_:=HO458;zz18)) k_ hk_),(Kd.freshB (g:=gb454) (o:=.cells #[.bool a0_0,.slice A0_1 l0_1.length c0_1,.slice A0_2 l0_2.length c0_2] 49 (0,0)) (zz77) k_ hk_),(Kd.freshB (g:=gb462) (o:=.cells #[.bool t455,.slice Ao29 t456.length co29,.slice Ao30 t459.length co30] 49 (0,0)) (have h0_:=BK462;zz12) k_ hk_)⟩)) (wB (zz78)));replace HO458:=wA.mk (Kd.R_below (have h0_:=HO458;zz18) hb);replace BK454:=wA.mk (wC (zz77) hb);replace BK462:=wA.mk (wC (have h0_:=BK462;zz12) hb);replace HB:=wA.mk (wG (zz78) hb)
  (try clear hb)
  (try clear hk)
  (try clear ho0)
  obtain ⟨Ao34,co34,eo34⟩:=Kd.V_slice HO466.out
  (first|subst eo34|(injection eo34 with f1_ f2_ f3_;have f4_:=f1_.symm;have f5_:=f3_.symm;clear f1_ f2_ f3_;subst f4_;subst f5_))
  refine hK.out _ _ ⟨(wI BK462.out 0).trans rfl,(wI BK462.out 1).trans rfl,(wI BK462.out 2).trans rfl⟩ (fun hHeld=>?_);clear hK K;refine yJ (a':=?_) ?_ ?_;rotate_left
  ·show Act.put _ (some 12) _ = _
   simp only [zzs]
   rfl
  refine yW (i:=3) (N:=some 13) #[true,true,true,true,false] rfl rfl (zz0) (zz17) (fun K hK=>?_);refine yN Tryd.func72 (zz0) rfl #[.slice Ao30 t459.length co30,.slice Ao34 t464.length co34] (zz9) rfl rfl (zz5) ?_
  with_reducible refine (U29.calls k _ _ t459 _ _ t464 t467 _ ?side1 ?side2 ?side3 ?side4 A5.out).mono ?_
  (case side1=>exact (have h0_:=HO461;zz214))
  (case side2=>exact (have h0_:=HO461;zz215))
  (case side3=>exact (have h0_:=HO466;zz214))
  (case side4=>exact (have h0_:=HO466;zz215))
  rintro e w35 ⟨rfl,hb⟩;refine ⟨_,rfl,?_⟩;replace HO458:=wA.mk (Kd.R_below (have h0_:=HO458;zz18) hb);replace HO461:=wA.mk (Kd.V_below (have h0_:=HO461;zz31) hb);replace HO466:=wA.mk (Kd.V_below (have h0_:=HO466;zz31) hb);replace BK454:=wA.mk (wC (zz77) hb);replace BK462:=wA.mk (wC (have h0_:=BK462;zz12) hb);replace HB:=wA.mk (wG (zz78) hb)
  (try clear hb)
  (try clear hb2)
  (try clear hk)
  (try clear hi)
  refine hK.out _ _ ⟨(wI BK462.out 0).trans rfl,(wI BK462.out 1).trans rfl,(wI BK462.out 2).trans rfl⟩ (fun hHeld=>?_);clear hK K;refine yJ (a':=?_) ?_ ?_;rotate_left
  ·show Act.put _ (some 13) _ = _
   simp only [zzs]
   rfl
  refine zW (i:=4) (N:=some 14) (v:=?_) (a':=?_) #[true,true,true,true,true] rfl rfl (zz0) (fun _ _ _ h=>h) (Or.inl ⟨zz9,?_⟩) ?_ ?_;rotate_left
  ·intro w'
   go_simp
   with_reducible rfl
  rotate_left
  ·simp only [zzs]
   rfl
  refine zN (zz0) ?_;obtain ⟨hcz36_0,hcz36_1,hcz36_2,hfz36_0,hfz36_1,hfz36_2⟩:=zc3 BK462.out
  try go_wp2_with (first|((with_reducible refine wH (f:=74) rfl ?_);refine wO (some 18) rfl rfl Tryd.func74 (zz0) rfl #[.slice Ao30 t459.length co30] rfl (zz5) ?_;(with_reducible refine (U34.calls k _ _ t459 t468 _ ?_ ?_ A20.out).mono ?_);(exact (have h0_:=HO461;zz214));(exact (have h0_:=HO461;zz215));rintro e w37 ⟨rfl,hb⟩;refine ⟨_,rfl,?_⟩;replace HO458:=wA.mk (Kd.R_below (have h0_:=HO458;zz18) hb);replace HO461:=wA.mk (Kd.V_below (have h0_:=HO461;zz31) hb);replace HO466:=wA.mk (Kd.V_below (have h0_:=HO466;zz31) hb);replace BK454:=wA.mk (wC (zz77) hb);replace BK462:=wA.mk (wC (have h0_:=BK462;zz12) hb);replace HB:=wA.mk (wG (zz78) hb);(try clear hb)))
  go_ret
  exact ⟨zz14,zz78⟩
def U3.f (l0:List (List Int)):Option ((List (List Int))):=some l0
set_option maxHeartbeats 8000000 in
set_option maxRecDepth 100000 in
theorem U3.calls (P0_:Nat→Prop) (A0:Option Addr) (c0:Nat) (l0:List (List Int)) (r:List (List Int)) (w:World) (hs0:Kd.V (Kd.slice 3 (Kd.int .i64)) 31 w w.heap.size (fun k_=>P0_ k_) (.slice A0 l0.length c0) l0) (h:U3.f l0 = some r) :
  Calls Tryd.prog 48 #[.slice A0 l0.length c0] w fun e w'=>∃ v0_:Value,e = .returned (.agg #[v0_])∧Kd.V (Kd.slice 3 (Kd.int .i64)) 31 w' w.heap.size (fun k_=>(P0_ k_∨w.heap.size≤k_)) v0_ r∧Below w.heap.size w w':=by
 have hu24:=Tryd.underlying24;have HO0:=wA.mk (show Kd.V (Kd.slice 3 (Kd.int .i64)) 31 w w.heap.size (fun k_=>(P0_ k_∨w.heap.size≤k_)) (.slice A0 l0.length c0) l0 from Kd.V_mono hs0 (fun k_ hk=>.inl hk));have HB:=wA.mk (Below.refl w.heap.size w);have H:(some l0) = some r:=h;clear h;obtain rfl:=Option.some.inj H;go_enter Tryd.func48,Tryd.ntmps48
 go_wp2_with (first|((with_reducible refine wK (N:=2) rfl ?_);refine wM ?hg (N:=2) ?hd (cs:=#[.slice none 0 0]) (t:=24) ?hr ?_;(case hd=>rfl);(case hg=>rfl);(case hr=>exact zz205);intro gb469 hg w2 hbox hb;replace HO0:=wA.mk (Kd.V_below (Kd.V_elderB (zz29) gb469 (Nat.le_of_eq hg.symm)) hb);have BK469:=wA.mk (hbox);have GW469:=wA.mk ((by rw [hg];exact (wB (zz10)):w.heap.size≤gb469));have GE469:=wA.mk ((by rw [hg];exact (wB (zz10)):w.heap.size≤gb469));replace HB:=wA.mk (wG (zz10) hb);clear hb hbox hg;obtain ⟨hcz3_0,hfz3_0⟩:=zc1 BK469.out))
 refine bodyPost_ret (results_cell_row rfl _ _ gb469 24 #[.slice A0 l0.length c0] (0,0) _ rfl (have h0_:=BK469;zz23) Tryd.underlying24 rfl (zz0)) rfl ?_
 exact ⟨_,zz14,by (with_reducible repeat (first|apply Kd.V_alloc|apply Kd.V_drewN|apply Kd.V_drew));exact Kd.V_mono (Kd.V_far (p:=⟨gb469,0,none⟩) (Kd.V_mono HO0.out (fun k_ hk=>(⟨hk,hk.2⟩:_∧k_ ≠ gb469))) (fun _ hk=>hk.2) (.slice A0 l0.length c0)) (fun _ hk=>hk.1.1),(have h0_:=GE469;zz13)⟩
end Go.Proofs.YtfkmbjkmlfnapaaDoor.QA
