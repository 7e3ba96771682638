import Derived.Test.YtnimkmkapajnhaaDoorRDQAx0
import Derived.Test.YtnimkmkapajnhaaDoorRDQAx14
import Derived.Test.YtnimkmkapajnhaaDoorRDQAx22
namespace Go.Proofs.YtnimkmkapajnhaaDoor.QA
open Go.RowKit Go.Proofs.YtnimkmkapajnhaaDoorW.PrintWords Go.Proofs.YtnimkmkapajnhaaDoorW.PrintLast Go.Proofs.YtnimkmkapajnhaaDoorW.PrintMore
attribute [local go_sem] yF yD yK yL wZ yA yG yE
set_option linter.unusedVariables false
set_option linter.unusedSimpArgs false
def U11.f (k:Nat) (a0_0:Bool) (l0_1:List Int):Option (ByteArray):=(U12.f k a0_0 l0_1).bind fun t725=>(if t725 < 0 then ((U21.f k l0_1).bind fun t726=>(if 1+t726.size≤9223372036854775807 then (some ((⟨#[45]⟩:ByteArray)++t726)) else (none))) else ((U21.f k l0_1).bind fun t727=>(some t727)))
theorem zm20_0 {P:Prop} (h:P:=by repeat' first|(with_reducible first|exact U12.mono ..|exact U21.mono ..|exact LeO.refl _|exact LeO.none _|refine LeO.ite ?_ ?_|refine LeO.bind ?_ (fun _=>?_))|exact U12.mono ..|exact U21.mono ..|exact LeO.none _|refine LeO.ite ?_ ?_|refine LeO.bind ?_ (fun _=>?_)):P:=h
theorem U11.mono:∀ a0 a1 k,LeO (U11.f k a0 a1) (U11.f (k+1) a0 a1):=by
 intro a0 a1 k;unfold U11.f
 exact zm20_0
set_option maxHeartbeats 8000000 in
set_option maxRecDepth 100000 in
theorem U11.calls (k:Nat) (a0_0:Bool) (A0_1:Option Addr) (c0_1:Nat) (l0_1:List Int) (r:ByteArray) (w:World) (hr0_1:Kd.C (Kd.int .u32) w A0_1 l0_1.length l0_1) (hc0_1:l0_1.length≤c0_1) (h:U11.f k a0_0 l0_1 = some r) :
  Calls Tryd.prog 55 #[.agg #[.bool a0_0,.slice A0_1 l0_1.length c0_1]] w fun e w'=>e = .returned (.string r)∧Below w.heap.size w w':=by
 have hu49:=Tryd.underlying49;have HR0_1:=wA.mk hr0_1;have HC0_1:=wA.mk hc0_1;clear hr0_1 hc0_1;have HB:=wA.mk (Below.refl w.heap.size w);have H:((U12.f k a0_0 l0_1).bind fun t725=>(if t725 < 0 then ((U21.f k l0_1).bind fun t726=>(if 1+t726.size≤9223372036854775807 then (some ((⟨#[45]⟩:ByteArray)++t726)) else (none))) else ((U21.f k l0_1).bind fun t727=>(some t727)))) = some r:=h;clear h;replace H:=zzb H;obtain ⟨t725,A2,H⟩:=H;replace H:=zzj H;rcases H with ⟨c3,H⟩|⟨c3,H⟩
 ·have c3b0:=decide_eq_true c3;clear c3;replace H:=zzb H;obtain ⟨t726,A4,H⟩:=H;replace H:=zzi H;obtain ⟨c5,H⟩:=H;have c5b0:=eq_true c5;have c5b1:=decide_eq_true c5
  try have c5b2:(9223372036854775807 < 1+t726.size) = False:=eq_false (Nat.not_lt.2 c5)
  obtain rfl:=Option.some.inj H;go_enter Tryd.func55,Tryd.ntmps55
  go_wp2_with (first|((with_reducible refine wL (N:=1) rfl ?_);refine wM ?hg (N:=1) ?hd (cs:=#[.bool a0_0,.slice A0_1 l0_1.length c0_1]) (t:=49) ?hr ?_;(case hd=>rfl);(case hg=>rfl);(case hr=>exact zz157);intro gb724 hg w6 hbox hb;have BK724:=wA.mk (hbox);have GW724:=wA.mk ((by rw [hg];exact (wB (zz3)):w.heap.size≤gb724));have GE724:=wA.mk ((by rw [hg];exact (wB (zz3)):w.heap.size≤gb724));replace HB:=wA.mk (wC (zz3) hb);clear hb hbox hg;obtain ⟨hcz7_0,hcz7_1,hfz7_0,hfz7_1⟩:=zc2 BK724.out)|((with_reducible refine wI (f:=69) rfl ?_);refine wR (some 4) rfl rfl Tryd.func69 (zz0) rfl #[.agg #[.bool a0_0,.slice A0_1 l0_1.length c0_1]] rfl (zz20) ?_;(with_reducible refine (U12.calls k a0_0 _ _ l0_1 t725 _ ?_ ?_ A2.out).mono ?_);(exact (have h0_:=HR0_1;zz158));exact zz174;rintro e w8 ⟨rfl,hb⟩;refine ⟨_,rfl,?_⟩;replace BK724:=wA.mk (wF (have h0_:=BK724;zz28) hb);replace HB:=wA.mk (wC (have h0_:=GE724;zz6) hb);(try clear hb);obtain ⟨hcz9_0,hcz9_1,hfz9_0,hfz9_1⟩:=zc2 BK724.out)|((with_reducible refine wI (f:=58) rfl ?_);refine wR (some 8) rfl rfl Tryd.func58 (zz0) rfl #[.slice A0_1 l0_1.length c0_1] rfl (zz20) ?_;(with_reducible refine (U21.calls k _ _ l0_1 t726 _ ?_ ?_ A4.out).mono ?_);(exact (have h0_:=HR0_1;zz158));exact zz174;rintro e w10 ⟨rfl,hb⟩;refine ⟨_,rfl,?_⟩;replace BK724:=wA.mk (wF (have h0_:=BK724;zz28) hb);replace HB:=wA.mk (wC (have h0_:=GE724;zz6) hb);(try clear hb)))
  go_ret
  exact ⟨zz8,(have h0_:=GE724;zz6)⟩
 ·have c3b0:=decide_eq_false c3;clear c3;replace H:=zzb H;obtain ⟨t727,A11,H⟩:=H;obtain rfl:=Option.some.inj H;go_enter Tryd.func55,Tryd.ntmps55
  go_wp2_with (first|((with_reducible refine wL (N:=1) rfl ?_);refine wM ?hg (N:=1) ?hd (cs:=#[.bool a0_0,.slice A0_1 l0_1.length c0_1]) (t:=49) ?hr ?_;(case hd=>rfl);(case hg=>rfl);(case hr=>exact zz157);intro gb724 hg w12 hbox hb;have BK724:=wA.mk (hbox);have GW724:=wA.mk ((by rw [hg];exact (wB (zz3)):w.heap.size≤gb724));have GE724:=wA.mk ((by rw [hg];exact (wB (zz3)):w.heap.size≤gb724));replace HB:=wA.mk (wC (zz3) hb);clear hb hbox hg;obtain ⟨hcz13_0,hcz13_1,hfz13_0,hfz13_1⟩:=zc2 BK724.out)|((with_reducible refine wI (f:=69) rfl ?_);refine wR (some 4) rfl rfl Tryd.func69 (zz0) rfl #[.agg #[.bool a0_0,.slice A0_1 l0_1.length c0_1]] rfl (zz20) ?_;(with_reducible refine (U12.calls k a0_0 _ _ l0_1 t725 _ ?_ ?_ A2.out).mono ?_);(exact (have h0_:=HR0_1;zz158));exact zz174;rintro e w14 ⟨rfl,hb⟩;refine ⟨_,rfl,?_⟩;replace BK724:=wA.mk (wF (have h0_:=BK724;zz28) hb);replace HB:=wA.mk (wC (have h0_:=GE724;zz6) hb);(try clear hb);obtain ⟨hcz15_0,hcz15_1,hfz15_0,hfz15_1⟩:=zc2 BK724.out)|((with_reducible refine wI (f:=58) rfl ?_);refine wR (some 12) rfl rfl Tryd.func58 (zz0) rfl #[.slice A0_1 l0_1.length c0_1] rfl (zz20) ?_;(with_reducible refine (U21.calls k _ _ l0_1 t727 _ ?_ ?_ A11.out).mono ?_);(exact (have h0_:=HR0_1;zz158));exact zz174;rintro e w16 ⟨rfl,hb⟩;refine ⟨_,rfl,?_⟩;replace BK724:=wA.mk (wF (have h0_:=BK724;zz28) hb);replace HB:=wA.mk (wC (have h0_:=GE724;zz6) hb);(try clear hb)))
  go_ret
  exact ⟨zz8,(have h0_:=GE724;zz6)⟩
def U45.f (k:Nat) (a0_0:Bool) (l0_1:List Int) (l0_2:List Int):Option (ByteArray):=(U43.f k a0_0 l0_1 l0_2).bind fun bt729=>((U11.f k bt729.1 bt729.2.1).bind fun t737=>((nat_Of.f k 1).bind fun t738=>((U16.f k bt729.2.2 t738).bind fun t741=>(if t741 = 0 then (some t737) else ((U21.f k bt729.2.2).bind fun t742=>(if 1+t742.size≤9223372036854775807 then (if t737.size+((⟨#[47]⟩:ByteArray)++t742).size≤9223372036854775807 then (some (t737++((⟨#[47]⟩:ByteArray)++t742))) else (none)) else (none)))))))
theorem zm20_1 {P:Prop} (h:P:=by repeat' first|(with_reducible first|exact U11.mono ..|exact U16.mono ..|exact nat_Of.mono ..|exact U21.mono ..|exact U43.mono ..|exact LeO.refl _|exact LeO.none _|refine LeO.ite ?_ ?_|refine LeO.bind ?_ (fun _=>?_))|exact U11.mono ..|exact U16.mono ..|exact nat_Of.mono ..|exact U21.mono ..|exact U43.mono ..|exact LeO.none _|refine LeO.ite ?_ ?_|refine LeO.bind ?_ (fun _=>?_)):P:=h
theorem U45.mono:∀ a0 a1 a2 k,LeO (U45.f k a0 a1 a2) (U45.f (k+1) a0 a1 a2):=by
 intro a0 a1 a2 k;unfold U45.f
 exact zm20_1
set_option maxHeartbeats 8000000 in
set_option maxRecDepth 100000 in
theorem U45.calls (k:Nat) (a0_0:Bool) (A0_1:Option Addr) (c0_1:Nat) (l0_1:List Int) (A0_2:Option Addr) (c0_2:Nat) (l0_2:List Int) (r:ByteArray) (w:World) (hr0_1:Kd.C (Kd.int .u32) w A0_1 l0_1.length l0_1) (hc0_1:l0_1.length≤c0_1) (hr0_2:Kd.C (Kd.int .u32) w A0_2 l0_2.length l0_2) (hc0_2:l0_2.length≤c0_2) (h:U45.f k a0_0 l0_1 l0_2 = some r) :
  Calls Tryd.prog 37 #[.agg #[.bool a0_0,.slice A0_1 l0_1.length c0_1,.slice A0_2 l0_2.length c0_2]] w fun e w'=>e = .returned (.string r)∧Below w.heap.size w w':=by
 have hu51:=Tryd.underlying51;have hu49:=Tryd.underlying49;have HR0_1:=wA.mk hr0_1;have HC0_1:=wA.mk hc0_1;clear hr0_1 hc0_1;have HR0_2:=wA.mk hr0_2;have HC0_2:=wA.mk hc0_2;clear hr0_2 hc0_2;have HB:=wA.mk (Below.refl w.heap.size w);have H:((U43.f k a0_0 l0_1 l0_2).bind fun bt729=>((U11.f k bt729.1 bt729.2.1).bind fun t737=>((nat_Of.f k 1).bind fun t738=>((U16.f k bt729.2.2 t738).bind fun t741=>(if t741 = 0 then (some t737) else ((U21.f k bt729.2.2).bind fun t742=>(if 1+t742.size≤9223372036854775807 then (if t737.size+((⟨#[47]⟩:ByteArray)++t742).size≤9223372036854775807 then (some (t737++((⟨#[47]⟩:ByteArray)++t742))) else (none)) else (none)))))))) = some r:=h;clear h;replace H:=Option.bind_eq_some_iff.mp H;obtain ⟨⟨t729,t730,t733⟩,A20,H⟩:=H;have A2:=wA.mk A20;clear A20;replace H:=zzb H;obtain ⟨t737,A3,H⟩:=H;replace H:=zzb H;obtain ⟨t738,A4,H⟩:=H;replace H:=zzb H;obtain ⟨t741,A5,H⟩:=H;replace H:=zzj H;rcases H with ⟨c6,H⟩|⟨c6,H⟩
 ·have c6b0:=beq_iff_eq.mpr c6;have c6b1:=bne_eq_false_iff_eq.mpr c6;clear c6;obtain rfl:=Option.some.inj H;go_enter Tryd.func37,Tryd.ntmps37
  try go_wp2_with (first|((with_reducible refine wL (N:=1) rfl ?_);refine wM ?hg (N:=1) ?hd (cs:=#[.bool a0_0,.slice A0_1 l0_1.length c0_1,.slice A0_2 l0_2.length c0_2]) (t:=51) ?hr ?_;(case hd=>rfl);(case hg=>rfl);(case hr=>exact zz157);intro gb728 hg w7 hbox hb;have BK728:=wA.mk (hbox);have GW728:=wA.mk ((by rw [hg];exact (wB (zz3)):w.heap.size≤gb728));have GE728:=wA.mk ((by rw [hg];exact (wB (zz3)):w.heap.size≤gb728));replace HB:=wA.mk (wC (zz3) hb);clear hb hbox hg;obtain ⟨hcz8_0,hcz8_1,hcz8_2,hfz8_0,hfz8_1,hfz8_2⟩:=zc3 BK728.out)|((with_reducible refine wI (f:=54) rfl ?_);refine wR (some 6) rfl rfl Tryd.func54 (zz0) rfl #[.agg #[.bool a0_0,.slice A0_1 l0_1.length c0_1,.slice A0_2 l0_2.length c0_2]] rfl (zz20) ?_;(with_reducible refine (U43.calls k a0_0 (fun k_=>k_ < w.heap.size) _ _ l0_1 (fun k_=>k_ < w.heap.size) _ _ l0_2 t729 t730 t733 _ ?_ ?_ A2.out).mono ?_);(exact (have h0_:=HC0_1;have h1_:=HR0_1;zz175));(exact (have h0_:=HC0_2;have h1_:=HR0_2;zz175));rintro e w9 ⟨v731,v734,rfl,ho0,ho1,hb⟩;refine ⟨_,rfl,?_⟩;have HO732:=wA.mk (Kd.R_lower (Kd.R_mono (ok':=fun k_=>True) ho0 (fun _ hk_=>trivial)) (wB (zz141)));have HO735:=wA.mk (Kd.V_lower (Kd.V_mono (ok':=fun k_=>some k_ ≠ (v731:Value).ownBlock∧k_ ≠ gb728) ho1 (fun k_ hk_=>⟨hk_.2,Or.elim hk_.1 (fun hs_=>Or.elim hs_ (fun hs_=>fun e_=>Nat.not_le.2 hs_ (by rw [e_];exact GW728.out)) (fun hs_=>fun e_=>Nat.not_le.2 hs_ (by rw [e_];exact GW728.out))) (fun hn_=>(Kd.freshB (g:=gb728) (o:=.cells #[.bool a0_0,.slice A0_1 l0_1.length c0_1,.slice A0_2 l0_2.length c0_2] 51 (0,0)) (zz142) k_ hn_))⟩)) (wB (zz141)));replace BK728:=wA.mk (wF (zz142) hb);replace HB:=wA.mk (wC (zz141) hb);(try clear hb);(try clear ho0);(try clear ho1))|((with_reducible refine wL (N:=3) rfl ?_);refine wM ?hg (N:=3) ?hd (cs:=#[.bool false,.slice none 0 0,.slice none 0 0]) (t:=51) ?hr ?_;(case hd=>rfl);(case hg=>rfl);(case hr=>exact zz157);intro gb736 hg w10 hbox hb;replace HO732:=wA.mk (Kd.R_below (have h0_:=HO732;zz25) hb);replace HO735:=wA.mk (Kd.V_below (Kd.V_elderB (have h0_:=HO735;zz33) gb736 (Nat.le_of_eq hg.symm)) hb);have BK736:=wA.mk (hbox);have GW736:=wA.mk ((by rw [hg];exact (wB (zz141)):w.heap.size≤gb736));have GE736:=wA.mk ((by rw [hg];exact (wB (zz141)):w.heap.size≤gb736));replace HB:=wA.mk (wC (zz141) hb);have NB728_736:=wA.mk ((by rw [hg];exact Nat.ne_of_lt (wN (g:=gb728) (o:=.cells #[.bool a0_0,.slice A0_1 l0_1.length c0_1,.slice A0_2 l0_2.length c0_2] 51 (0,0)) (zz142)):gb728 ≠ gb736));have NB736_728:=wA.mk ((by rw [hg];exact Nat.ne_of_gt (wN (g:=gb728) (o:=.cells #[.bool a0_0,.slice A0_1 l0_1.length c0_1,.slice A0_2 l0_2.length c0_2] 51 (0,0)) (zz142)):gb736 ≠ gb728));replace BK728:=wA.mk (wF (zz142) hb);clear hb hbox hg;have hnb11:=NB736_728.out;have hnc11:=NB728_736.out;obtain ⟨hcz12_0,hcz12_1,hcz12_2,hfz12_0,hfz12_1,hfz12_2⟩:=zc3 BK736.out;obtain ⟨Ao13,co13,eo13⟩:=Kd.R_slice HO732.out;subst eo13;obtain ⟨Ao14,co14,eo14⟩:=Kd.V_slice HO735.out;subst eo14)|((with_reducible refine wI (f:=55) rfl ?_);refine wR (some 9) rfl rfl Tryd.func55 (zz0) rfl #[.agg #[.bool t729,.slice Ao13 t730.length co13]] rfl (zz20) ?_;(with_reducible refine (U11.calls k t729 _ _ t730 t737 _ ?_ ?_ A3.out).mono ?_);(refine (Kd.R_reads' (e:=79) (base:=w.heap.size) (ok:=fun k_=>True) (n:=t730.length) (c:=co13) ?_).2.2;exact (by (with_reducible repeat (first|apply Kd.R_alloc|apply Kd.R_drewN|apply Kd.R_drew));exact (Kd.R_mono (Kd.R_far (p:=⟨gb736,2,none⟩) (Kd.R_far (p:=⟨gb736,1,none⟩) (Kd.R_far (p:=⟨gb736,0,none⟩) (Kd.R_types HO732.out BK736.out (zz24)) (fun _ hk=>hk.2) (.bool t729)) (fun _ hk=>hk.2) (.slice Ao13 t730.length co13)) (fun _ hk=>hk.2) (.slice Ao14 t733.length co14)) (fun _ h_=>h_.1))));(exact (have h0_:=HO732;zz169));rintro e w15 ⟨rfl,hb⟩;refine ⟨_,rfl,?_⟩;replace HO732:=wA.mk (Kd.R_below (by (with_reducible repeat (first|apply Kd.R_alloc|apply Kd.R_drewN|apply Kd.R_drew));exact (Kd.R_mono (Kd.R_far (p:=⟨gb736,2,none⟩) (Kd.R_far (p:=⟨gb736,1,none⟩) (Kd.R_far (p:=⟨gb736,0,none⟩) (Kd.R_types HO732.out BK736.out (zz24)) (fun _ hk=>hk.2) (.bool t729)) (fun _ hk=>hk.2) (.slice Ao13 t730.length co13)) (fun _ hk=>hk.2) (.slice Ao14 t733.length co14)) (fun _ h_=>h_.1))) hb);replace HO735:=wA.mk (Kd.V_below (by (with_reducible repeat (first|apply Kd.V_alloc|apply Kd.V_drewN|apply Kd.V_drew));exact (Kd.V_mono (Kd.V_far (p:=⟨gb736,2,none⟩) (Kd.V_far (p:=⟨gb736,1,none⟩) (Kd.V_far (p:=⟨gb736,0,none⟩) (Kd.V_mono HO735.out (fun k_ hk=>(⟨hk,hk.2⟩:_∧k_ ≠ gb736))) (fun _ hk=>hk.2) (.bool t729)) (fun _ hk=>hk.2) (.slice Ao13 t730.length co13)) (fun _ hk=>hk.2) (.slice Ao14 t733.length co14)) (fun _ h_=>h_.1))) hb);replace BK728:=wA.mk (wF (g:=gb728) (o:=.cells #[.bool a0_0,.slice A0_1 l0_1.length c0_1,.slice A0_2 l0_2.length c0_2] 51 (0,0)) (by (with_reducible repeat (first|refine wE ?_ _|refine wG ?_|refine wD ?_ _));refine wQ ?_ NB728_736.out _;(with_reducible repeat (first|refine wE ?_ _|refine wG ?_|refine wD ?_ _));refine wQ ?_ NB728_736.out _;(with_reducible repeat (first|refine wE ?_ _|refine wG ?_|refine wD ?_ _));refine wQ ?_ NB728_736.out _;(with_reducible repeat (first|refine wE ?_ _|refine wG ?_|refine wD ?_ _));exact BK728.out) hb);replace BK736:=wA.mk (wF (g:=gb736) (o:=.cells #[.bool t729,.slice Ao13 t730.length co13,.slice Ao14 t733.length co14] 51 (0,0)) (by (with_reducible repeat (first|refine wE ?_ _|refine wG ?_|refine wD ?_ _));refine wP (cs:=#[.bool t729,.slice Ao13 t730.length co13,.slice none 0 0]) ?_ 2 _ rfl;(with_reducible repeat (first|refine wE ?_ _|refine wG ?_|refine wD ?_ _));refine wP (cs:=#[.bool t729,.slice none 0 0,.slice none 0 0]) ?_ 1 _ rfl;(with_reducible repeat (first|refine wE ?_ _|refine wG ?_|refine wD ?_ _));refine wP (cs:=#[.bool false,.slice none 0 0,.slice none 0 0]) ?_ 0 _ rfl;(with_reducible repeat (first|refine wE ?_ _|refine wG ?_|refine wD ?_ _));exact BK736.out) hb);replace HB:=wA.mk (wC (zz143) hb);(try clear hb);(try clear hk)))
  replace HO732:=wA.mk (Kd.R_drew HO732.out);replace HO735:=wA.mk (Kd.V_drew HO735.out);replace BK728:=wA.mk (wG BK728.out);replace BK736:=wA.mk (wG BK736.out);replace HB:=wA.mk (wS HB.out);refine yO (n:=5) (S:=fun w'=>w'.cell? ⟨gb736,0,none⟩ = some (.bool t729)∧w'.cell? ⟨gb736,1,none⟩ = some (.slice Ao13 t730.length co13)∧w'.cell? ⟨gb736,2,none⟩ = some (.slice Ao14 t733.length co14)) (ds:=[]) #[false,false,false,false,false] (zz0) rfl rfl ⟨(wH BK736.out 0).trans rfl,(wH BK736.out 1).trans rfl,(wH BK736.out 2).trans rfl⟩ (fun hHeld=>?_)
  generalize w15.drew = w16 at HO732 HO735 BK728 BK736 HB hHeld ⊢
  refine yB (i:=0) (N:=some 10) (v:=?_) (a':=?_) #[true,false,false,false,false] rfl rfl (zz0) (fun _ _ _ h=>h) (Or.inl ⟨zz37,?_⟩) ?_ ?_;rotate_left
  ·intro w'
   go_simp
   with_reducible rfl
  rotate_left
  ·simp only [zzs]
   rfl
  refine take_ (i:=1) (N:=some 11) (v:=?_) (a':=?_) #[true,true,false,false,false] rfl rfl (zz0) (fun _ _ _ h=>h) (Or.inl ⟨zz37,?_⟩) hHeld ?_ ?_;rotate_left
  ·rintro w' ⟨s0,s1,s2⟩
   go_simp
   with_reducible rfl
  rotate_left
  ·simp only [zzs]
   rfl
  refine yY (i:=2) (N:=some 12) #[true,true,true,false,false] rfl rfl (zz0) (zz24) (fun K hK=>?_);refine yP Tryd.func57 (zz0) rfl #[.int .u64 1] (zz37) rfl rfl (zz20) ?_
  with_reducible refine (nat_Of.calls k 1 t738 _ A4.out).mono ?_
  rintro e w17 ⟨v739,rfl,ho0,hb⟩;refine ⟨_,rfl,?_⟩;replace HO735:=wA.mk (Kd.V_below (have h0_:=HO735;zz33) hb);have HO740:=wA.mk (Kd.V_lower (Kd.V_mono (ok':=fun k_=>some k_ ≠ (.slice Ao13 t730.length co13:Value).ownBlock∧k_ ≠ gb728∧k_ ≠ gb736) ho0 (fun k_ hk_=>⟨(Kd.fresh' (Kd.R_lt (have h0_:=HO732;zz25)) k_ hk_),(Kd.freshB (g:=gb728) (o:=.cells #[.bool a0_0,.slice A0_1 l0_1.length c0_1,.slice A0_2 l0_2.length c0_2] 51 (0,0)) (zz142) k_ hk_),(Kd.freshB (g:=gb736) (o:=.cells #[.bool t729,.slice Ao13 t730.length co13,.slice Ao14 t733.length co14] 51 (0,0)) (have h0_:=BK736;zz28) k_ hk_)⟩)) (wB (zz143)));replace HO732:=wA.mk (Kd.R_below (have h0_:=HO732;zz25) hb);replace BK728:=wA.mk (wF (zz142) hb);replace BK736:=wA.mk (wF (have h0_:=BK736;zz28) hb);replace HB:=wA.mk (wC (zz143) hb)
  (try clear hb)
  (try clear hk)
  (try clear ho0)
  obtain ⟨Ao18,co18,eo18⟩:=Kd.V_slice HO740.out
  (first|subst eo18|(injection eo18 with f1_ f2_ f3_;have f4_:=f1_.symm;have f5_:=f3_.symm;clear f1_ f2_ f3_;subst f4_;subst f5_))
  refine hK.out _ _ ⟨(wH BK736.out 0).trans rfl,(wH BK736.out 1).trans rfl,(wH BK736.out 2).trans rfl⟩ (fun hHeld=>?_);clear hK K;refine wY (a':=?_) ?_ ?_;rotate_left
  ·show Act.put _ (some 12) _ = _
   simp only [zzs]
   rfl
  refine yY (i:=3) (N:=some 13) #[true,true,true,true,false] rfl rfl (zz0) (zz24) (fun K hK=>?_);refine yP Tryd.func56 (zz0) rfl #[.slice Ao14 t733.length co14,.slice Ao18 t738.length co18] (zz37) rfl rfl (zz20) ?_
  with_reducible refine (U16.calls k _ _ t733 _ _ t738 t741 _ ?side1 ?side2 ?side3 ?side4 A5.out).mono ?_
  (case side1=>exact (have h0_:=HO735;zz171))
  (case side2=>exact (have h0_:=HO735;zz173))
  (case side3=>exact (have h0_:=HO740;zz171))
  (case side4=>exact (have h0_:=HO740;zz173))
  rintro e w19 ⟨rfl,hb⟩;refine ⟨_,rfl,?_⟩;replace HO732:=wA.mk (Kd.R_below (have h0_:=HO732;zz25) hb);replace HO735:=wA.mk (Kd.V_below (have h0_:=HO735;zz33) hb);replace HO740:=wA.mk (Kd.V_below (have h0_:=HO740;zz33) hb);replace BK728:=wA.mk (wF (zz142) hb);replace BK736:=wA.mk (wF (have h0_:=BK736;zz28) hb);replace HB:=wA.mk (wC (zz143) hb)
  (try clear hb)
  (try clear hb2)
  (try clear hk)
  (try clear hi)
  refine hK.out _ _ ⟨(wH BK736.out 0).trans rfl,(wH BK736.out 1).trans rfl,(wH BK736.out 2).trans rfl⟩ (fun hHeld=>?_);clear hK K;refine wY (a':=?_) ?_ ?_;rotate_left
  ·show Act.put _ (some 13) _ = _
   simp only [zzs]
   rfl
  refine yB (i:=4) (N:=some 14) (v:=?_) (a':=?_) #[true,true,true,true,true] rfl rfl (zz0) (fun _ _ _ h=>h) (Or.inl ⟨zz37,?_⟩) ?_ ?_;rotate_left
  ·intro w'
   go_simp
   with_reducible rfl
  rotate_left
  ·simp only [zzs]
   rfl
  refine yZ (zz0) ?_
  try go_wp2
  go_ret
  exact ⟨zz8,zz143⟩
 ·have c6b0:=beq_eq_false_iff_ne.mpr c6;have c6b1:=bne_iff_ne.mpr c6;replace H:=zzb H;obtain ⟨t742,A20,H⟩:=H;replace H:=zzi H;obtain ⟨c21,H⟩:=H;have c21b0:=eq_true c21;have c21b1:=decide_eq_true c21
  try have c21b2:(9223372036854775807 < 1+t742.size) = False:=eq_false (Nat.not_lt.2 c21)
  replace H:=zzi H;obtain ⟨c22,H⟩:=H;have c22b0:=eq_true c22;have c22b1:=decide_eq_true c22
  try have c22b2:(9223372036854775807 < t737.size+((⟨#[47]⟩:ByteArray)++t742).size) = False:=eq_false (Nat.not_lt.2 c22)
  obtain rfl:=Option.some.inj H;go_enter Tryd.func37,Tryd.ntmps37
  try go_wp2_with (first|((with_reducible refine wL (N:=1) rfl ?_);refine wM ?hg (N:=1) ?hd (cs:=#[.bool a0_0,.slice A0_1 l0_1.length c0_1,.slice A0_2 l0_2.length c0_2]) (t:=51) ?hr ?_;(case hd=>rfl);(case hg=>rfl);(case hr=>exact zz157);intro gb728 hg w23 hbox hb;have BK728:=wA.mk (hbox);have GW728:=wA.mk ((by rw [hg];exact (wB (zz3)):w.heap.size≤gb728));have GE728:=wA.mk ((by rw [hg];exact (wB (zz3)):w.heap.size≤gb728));replace HB:=wA.mk (wC (zz3) hb);clear hb hbox hg;obtain ⟨hcz24_0,hcz24_1,hcz24_2,hfz24_0,hfz24_1,hfz24_2⟩:=zc3 BK728.out)|((with_reducible refine wI (f:=54) rfl ?_);refine wR (some 6) rfl rfl Tryd.func54 (zz0) rfl #[.agg #[.bool a0_0,.slice A0_1 l0_1.length c0_1,.slice A0_2 l0_2.length c0_2]] rfl (zz20) ?_;(with_reducible refine (U43.calls k a0_0 (fun k_=>k_ < w.heap.size) _ _ l0_1 (fun k_=>k_ < w.heap.size) _ _ l0_2 t729 t730 t733 _ ?_ ?_ A2.out).mono ?_);(exact (have h0_:=HC0_1;have h1_:=HR0_1;zz175));(exact (have h0_:=HC0_2;have h1_:=HR0_2;zz175));rintro e w25 ⟨v731,v734,rfl,ho0,ho1,hb⟩;refine ⟨_,rfl,?_⟩;have HO732:=wA.mk (Kd.R_lower (Kd.R_mono (ok':=fun k_=>True) ho0 (fun _ hk_=>trivial)) (wB (zz141)));have HO735:=wA.mk (Kd.V_lower (Kd.V_mono (ok':=fun k_=>some k_ ≠ (v731:Value).ownBlock∧k_ ≠ gb728) ho1 (fun k_ hk_=>⟨hk_.2,Or.elim hk_.1 (fun hs_=>Or.elim hs_ (fun hs_=>fun e_=>Nat.not_le.2 hs_ (by rw [e_];exact GW728.out)) (fun hs_=>fun e_=>Nat.not_le.2 hs_ (by rw [e_];exact GW728.out))) (fun hn_=>(Kd.freshB (g:=gb728) (o:=.cells #[.bool a0_0,.slice A0_1 l0_1.length c0_1,.slice A0_2 l0_2.length c0_2] 51 (0,0)) (zz142) k_ hn_))⟩)) (wB (zz141)));replace BK728:=wA.mk (wF (zz142) hb);replace HB:=wA.mk (wC (zz141) hb);(try clear hb);(try clear ho0);(try clear ho1))|((with_reducible refine wL (N:=3) rfl ?_);refine wM ?hg (N:=3) ?hd (cs:=#[.bool false,.slice none 0 0,.slice none 0 0]) (t:=51) ?hr ?_;(case hd=>rfl);(case hg=>rfl);(case hr=>exact zz157);intro gb736 hg w26 hbox hb;replace HO732:=wA.mk (Kd.R_below (have h0_:=HO732;zz25) hb);replace HO735:=wA.mk (Kd.V_below (Kd.V_elderB (have h0_:=HO735;zz33) gb736 (Nat.le_of_eq hg.symm)) hb);have BK736:=wA.mk (hbox);have GW736:=wA.mk ((by rw [hg];exact (wB (zz141)):w.heap.size≤gb736));have GE736:=wA.mk ((by rw [hg];exact (wB (zz141)):w.heap.size≤gb736));replace HB:=wA.mk (wC (zz141) hb);have NB728_736:=wA.mk ((by rw [hg];exact Nat.ne_of_lt (wN (g:=gb728) (o:=.cells #[.bool a0_0,.slice A0_1 l0_1.length c0_1,.slice A0_2 l0_2.length c0_2] 51 (0,0)) (zz142)):gb728 ≠ gb736));have NB736_728:=wA.mk ((by rw [hg];exact Nat.ne_of_gt (wN (g:=gb728) (o:=.cells #[.bool a0_0,.slice A0_1 l0_1.length c0_1,.slice A0_2 l0_2.length c0_2] 51 (0,0)) (zz142)):gb736 ≠ gb728));replace BK728:=wA.mk (wF (zz142) hb);clear hb hbox hg;have hnb27:=NB736_728.out;have hnc27:=NB728_736.out;obtain ⟨hcz28_0,hcz28_1,hcz28_2,hfz28_0,hfz28_1,hfz28_2⟩:=zc3 BK736.out;obtain ⟨Ao29,co29,eo29⟩:=Kd.R_slice HO732.out;subst eo29;obtain ⟨Ao30,co30,eo30⟩:=Kd.V_slice HO735.out;subst eo30)|((with_reducible refine wI (f:=55) rfl ?_);refine wR (some 9) rfl rfl Tryd.func55 (zz0) rfl #[.agg #[.bool t729,.slice Ao29 t730.length co29]] rfl (zz20) ?_;(with_reducible refine (U11.calls k t729 _ _ t730 t737 _ ?_ ?_ A3.out).mono ?_);(refine (Kd.R_reads' (e:=79) (base:=w.heap.size) (ok:=fun k_=>True) (n:=t730.length) (c:=co29) ?_).2.2;exact (by (with_reducible repeat (first|apply Kd.R_alloc|apply Kd.R_drewN|apply Kd.R_drew));exact (Kd.R_mono (Kd.R_far (p:=⟨gb736,2,none⟩) (Kd.R_far (p:=⟨gb736,1,none⟩) (Kd.R_far (p:=⟨gb736,0,none⟩) (Kd.R_types HO732.out BK736.out (zz24)) (fun _ hk=>hk.2) (.bool t729)) (fun _ hk=>hk.2) (.slice Ao29 t730.length co29)) (fun _ hk=>hk.2) (.slice Ao30 t733.length co30)) (fun _ h_=>h_.1))));(exact (have h0_:=HO732;zz169));rintro e w31 ⟨rfl,hb⟩;refine ⟨_,rfl,?_⟩;replace HO732:=wA.mk (Kd.R_below (by (with_reducible repeat (first|apply Kd.R_alloc|apply Kd.R_drewN|apply Kd.R_drew));exact (Kd.R_mono (Kd.R_far (p:=⟨gb736,2,none⟩) (Kd.R_far (p:=⟨gb736,1,none⟩) (Kd.R_far (p:=⟨gb736,0,none⟩) (Kd.R_types HO732.out BK736.out (zz24)) (fun _ hk=>hk.2) (.bool t729)) (fun _ hk=>hk.2) (.slice Ao29 t730.length co29)) (fun _ hk=>hk.2) (.slice Ao30 t733.length co30)) (fun _ h_=>h_.1))) hb);replace HO735:=wA.mk (Kd.V_below (by (with_reducible repeat (first|apply Kd.V_alloc|apply Kd.V_drewN|apply Kd.V_drew));exact (Kd.V_mono (Kd.V_far (p:=⟨gb736,2,none⟩) (Kd.V_far (p:=⟨gb736,1,none⟩) (Kd.V_far (p:=⟨gb736,0,none⟩) (Kd.V_mono HO735.out (fun k_ hk=>(⟨hk,hk.2⟩:_∧k_ ≠ gb736))) (fun _ hk=>hk.2) (.bool t729)) (fun _ hk=>hk.2) (.slice Ao29 t730.length co29)) (fun _ hk=>hk.2) (.slice Ao30 t733.length co30)) (fun _ h_=>h_.1))) hb);replace BK728:=wA.mk (wF (g:=gb728) (o:=.cells #[.bool a0_0,.slice A0_1 l0_1.length c0_1,.slice A0_2 l0_2.length c0_2] 51 (0,0)) (by (with_reducible repeat (first|refine wE ?_ _|refine wG ?_|refine wD ?_ _));refine wQ ?_ NB728_736.out _;(with_reducible repeat (first|refine wE ?_ _|refine wG ?_|refine wD ?_ _));refine wQ ?_ NB728_736.out _;(with_reducible repeat (first|refine wE ?_ _|refine wG ?_|refine wD ?_ _));refine wQ ?_ NB728_736.out _;(with_reducible repeat (first|refine wE ?_ _|refine wG ?_|refine wD ?_ _));exact BK728.out) hb);replace BK736:=wA.mk (wF (g:=gb736) (o:=.cells #[.bool t729,.slice Ao29 t730.length co29,.slice Ao30 t733.length co30] 51 (0,0)) (by (with_reducible repeat (first|refine wE ?_ _|refine wG ?_|refine wD ?_ _));refine wP (cs:=#[.bool t729,.slice Ao29 t730.length co29,.slice none 0 0]) ?_ 2 _ rfl;(with_reducible repeat (first|refine wE ?_ _|refine wG ?_|refine wD ?_ _));refine wP (cs:=#[.bool t729,.slice none 0 0,.slice none 0 0]) ?_ 1 _ rfl;(with_reducible repeat (first|refine wE ?_ _|refine wG ?_|refine wD ?_ _));refine wP (cs:=#[.bool false,.slice none 0 0,.slice none 0 0]) ?_ 0 _ rfl;(with_reducible repeat (first|refine wE ?_ _|refine wG ?_|refine wD ?_ _));exact BK736.out) hb);replace HB:=wA.mk (wC (zz143) hb);(try clear hb);(try clear hk)))
  replace HO732:=wA.mk (Kd.R_drew HO732.out);replace HO735:=wA.mk (Kd.V_drew HO735.out);replace BK728:=wA.mk (wG BK728.out);replace BK736:=wA.mk (wG BK736.out);replace HB:=wA.mk (wS HB.out);refine yO (n:=5) (S:=fun w'=>w'.cell? ⟨gb736,0,none⟩ = some (.bool t729)∧w'.cell? ⟨gb736,1,none⟩ = some (.slice Ao29 t730.length co29)∧w'.cell? ⟨gb736,2,none⟩ = some (.slice Ao30 t733.length co30)) (ds:=[]) #[false,false,false,false,false] (zz0) rfl rfl ⟨(wH BK736.out 0).trans rfl,(wH BK736.out 1).trans rfl,(wH BK736.out 2).trans rfl⟩ (fun hHeld=>?_)
  generalize w31.drew = w32 at HO732 HO735 BK728 BK736 HB hHeld ⊢
  refine yB (i:=0) (N:=some 10) (v:=?_) (a':=?_) #[true,false,false,false,false] rfl rfl (zz0) (fun _ _ _ h=>h) (Or.inl ⟨zz37,?_⟩) ?_ ?_;rotate_left
  ·intro w'
   go_simp
   with_reducible rfl
  rotate_left
  ·simp only [zzs]
   rfl
  refine take_ (i:=1) (N:=some 11) (v:=?_) (a':=?_) #[true,true,false,false,false] rfl rfl (zz0) (fun _ _ _ h=>h) (Or.inl ⟨zz37,?_⟩) hHeld ?_ ?_;rotate_left
  ·rintro w' ⟨s0,s1,s2⟩
   go_simp
   with_reducible rfl
  rotate_left
  ·simp only [zzs]
   rfl
  refine yY (i:=2) (N:=some 12) #[true,true,true,false,false] rfl rfl (zz0) (zz24) (fun K hK=>?_);refine yP Tryd.func57 (zz0) rfl #[.int .u64 1] (zz37) rfl rfl (zz20) ?_
  with_reducible refine (nat_Of.calls k 1 t738 _ A4.out).mono ?_
  rintro e w33 ⟨v739,rfl,ho0,hb⟩;refine ⟨_,rfl,?_⟩;replace HO735:=wA.mk (Kd.V_below (have h0_:=HO735;zz33) hb);have HO740:=wA.mk (Kd.V_lower (Kd.V_mono (ok':=fun k_=>some k_ ≠ (.slice Ao29 t730.length co29:Value).ownBlock∧k_ ≠ gb728∧k_ ≠ gb736) ho0 (fun k_ hk_=>⟨(Kd.fresh' (Kd.R_lt (have h0_:=HO732;zz25)) k_ hk_),(Kd.freshB (g:=gb728) (o:=.cells #[.bool a0_0,.slice A0_1 l0_1.length c0_1,.slice A0_2 l0_2.length c0_2] 51 (0,0)) (zz142) k_ hk_),(Kd.freshB (g:=gb736) (o:=.cells #[.bool t729,.slice Ao29 t730.length co29,.slice Ao30 t733.length co30] 51 (0,0)) (have h0_:=BK736;zz28) k_ hk_)⟩)) (wB (zz143)));replace HO732:=wA.mk (Kd.R_below (have h0_:=HO732;zz25) hb);replace BK728:=wA.mk (wF (zz142) hb);replace BK736:=wA.mk (wF (have h0_:=BK736;zz28) hb);replace HB:=wA.mk (wC (zz143) hb)
  (try clear hb)
  (try clear hk)
  (try clear ho0)
  obtain ⟨Ao34,co34,eo34⟩:=Kd.V_slice HO740.out
  (first|subst eo34|(injection eo34 with f1_ f2_ f3_;have f4_:=f1_.symm;have f5_:=f3_.symm;clear f1_ f2_ f3_;subst f4_;subst f5_))
  refine hK.out _ _ ⟨(wH BK736.out 0).trans rfl,(wH BK736.out 1).trans rfl,(wH BK736.out 2).trans rfl⟩ (fun hHeld=>?_);clear hK K;refine wY (a':=?_) ?_ ?_;rotate_left
  ·show Act.put _ (some 12) _ = _
   simp only [zzs]
   rfl
  refine yY (i:=3) (N:=some 13) #[true,true,true,true,false] rfl rfl (zz0) (zz24) (fun K hK=>?_);refine yP Tryd.func56 (zz0) rfl #[.slice Ao30 t733.length co30,.slice Ao34 t738.length co34] (zz37) rfl rfl (zz20) ?_
  with_reducible refine (U16.calls k _ _ t733 _ _ t738 t741 _ ?side1 ?side2 ?side3 ?side4 A5.out).mono ?_
  (case side1=>exact (have h0_:=HO735;zz171))
  (case side2=>exact (have h0_:=HO735;zz173))
  (case side3=>exact (have h0_:=HO740;zz171))
  (case side4=>exact (have h0_:=HO740;zz173))
  rintro e w35 ⟨rfl,hb⟩;refine ⟨_,rfl,?_⟩;replace HO732:=wA.mk (Kd.R_below (have h0_:=HO732;zz25) hb);replace HO735:=wA.mk (Kd.V_below (have h0_:=HO735;zz33) hb);replace HO740:=wA.mk (Kd.V_below (have h0_:=HO740;zz33) hb);replace BK728:=wA.mk (wF (zz142) hb);replace BK736:=wA.mk (wF (have h0_:=BK736;zz28) hb);replace HB:=wA.mk (wC (zz143) hb)
  (try clear hb)
  (try clear hb2)
  (try clear hk)
  (try clear hi)
  refine hK.out _ _ ⟨(wH BK736.out 0).trans rfl,(wH BK736.out 1).trans rfl,(wH BK736.out 2).trans rfl⟩ (fun hHeld=>?_);clear hK K;refine wY (a':=?_) ?_ ?_;rotate_left
  ·show Act.put _ (some 13) _ = _
   simp only [zzs]
   rfl
  refine yB (i:=4) (N:=some 14) (v:=?_) (a':=?_) #[true,true,true,true,true] rfl rfl (zz0) (fun _ _ _ h=>h) (Or.inl ⟨zz37,?_⟩) ?_ ?_;rotate_left
  ·intro w'
   go_simp
   with_reducible rfl
  rotate_left
  ·simp only [zzs]
   rfl
  refine yZ (zz0) ?_;obtain ⟨hcz36_0,hcz36_1,hcz36_2,hfz36_0,hfz36_1,hfz36_2⟩:=zc3 BK736.out
  try go_wp2_with (first|((with_reducible refine wI (f:=58) rfl ?_);refine wR (some 18) rfl rfl Tryd.func58 (zz0) rfl #[.slice Ao30 t733.length co30] rfl (zz20) ?_;(with_reducible refine (U21.calls k _ _ t733 t742 _ ?_ ?_ A20.out).mono ?_);(exact (have h0_:=HO735;zz171));(exact (have h0_:=HO735;zz173));rintro e w37 ⟨rfl,hb⟩;refine ⟨_,rfl,?_⟩;replace HO732:=wA.mk (Kd.R_below (have h0_:=HO732;zz25) hb);replace HO735:=wA.mk (Kd.V_below (have h0_:=HO735;zz33) hb);replace HO740:=wA.mk (Kd.V_below (have h0_:=HO740;zz33) hb);replace BK728:=wA.mk (wF (zz142) hb);replace BK736:=wA.mk (wF (have h0_:=BK736;zz28) hb);replace HB:=wA.mk (wC (zz143) hb);(try clear hb)))
  go_ret
  exact ⟨zz8,zz143⟩
end Go.Proofs.YtnimkmkapajnhaaDoor.QA
