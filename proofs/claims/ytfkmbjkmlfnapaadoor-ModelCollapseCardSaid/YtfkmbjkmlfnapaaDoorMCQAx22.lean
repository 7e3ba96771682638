import Derived.Test.YtfkmbjkmlfnapaaDoorMCQAx0
import Derived.Test.YtfkmbjkmlfnapaaDoorMCQAx9
import Derived.Test.YtfkmbjkmlfnapaaDoorMCQAx10
namespace Go.Proofs.YtfkmbjkmlfnapaaDoor.QA
open Go.RowKit Go.Proofs.YtfkmbjkmlfnapaaDoorW.PrintWords Go.Proofs.YtfkmbjkmlfnapaaDoorW.PrintLast Go.Proofs.YtfkmbjkmlfnapaaDoorW.PrintMore
attribute [local go_sem] yG yF yP yO yA yB yH yE
set_option linter.unusedVariables false
set_option linter.unusedSimpArgs false
def U46.f (k:Nat) (l0:List Int):Option (Bool × List Int):=(U9.f k false l0).bind fun bt984=>(some (bt984.1,bt984.2))
theorem zm14_0 {P:Prop} (h:P:=by repeat' first|(with_reducible first|exact U9.mono ..|exact LeO.refl _|exact LeO.none _|refine LeO.ite ?_ ?_|refine LeO.bind ?_ (fun _=>?_))|exact U9.mono ..|exact LeO.none _|refine LeO.ite ?_ ?_|refine LeO.bind ?_ (fun _=>?_)):P:=h
theorem U46.mono:∀ a0 k,LeO (U46.f k a0) (U46.f (k+1) a0):=by
 intro a0 k;unfold U46.f
 exact zm14_0
set_option maxHeartbeats 8000000 in
set_option maxRecDepth 100000 in
theorem U46.calls (k:Nat) (A0:Option Addr) (c0:Nat) (l0:List Int) (r1:Bool) (r2:List Int) (w:World) (hr0:Kd.C (Kd.int .u32) w A0 l0.length l0) (hc0:l0.length≤c0) (h:U46.f k l0 = some (r1,r2)) :
  Calls Tryd.prog 81 #[.slice A0 l0.length c0] w fun e w'=>∃ v1_:Value,e = .returned (.agg #[.bool r1,v1_])∧Kd.R (Kd.int .u32) 52 w' w.heap.size (fun _=>True) v1_ r2∧Below w.heap.size w w':=by
 have hu47:=Tryd.underlying47;have HR0:=wA.mk hr0;have HC0:=wA.mk hc0;clear hr0 hc0;have HB:=wA.mk (Below.refl w.heap.size w);have H:((U9.f k false l0).bind fun bt984=>(some (bt984.1,bt984.2))) = some (r1,r2):=h;clear h;replace H:=Option.bind_eq_some_iff.mp H;obtain ⟨⟨t984,t985⟩,A20,H⟩:=H;have A2:=wA.mk A20;clear A20;simp only [Option.some.injEq,Prod.mk.injEq] at H;obtain ⟨rfl,rfl⟩:=H;go_enter Tryd.func81,Tryd.ntmps81
 go_wp2_with (first|((with_reducible refine wK (N:=2) rfl ?_);refine wM ?hg (N:=2) ?hd (cs:=#[.bool false,.slice none 0 0]) (t:=47) ?hr ?_;(case hd=>rfl);(case hg=>rfl);(case hr=>exact zz205);intro gb983 hg w3 hbox hb;have BK983:=wA.mk (hbox);have GW983:=wA.mk ((by rw [hg];exact (wB (zz10)):w.heap.size≤gb983));have GE983:=wA.mk ((by rw [hg];exact (wB (zz10)):w.heap.size≤gb983));replace HB:=wA.mk (wG (zz10) hb);clear hb hbox hg)|((with_reducible refine wH (f:=85) rfl ?_);refine wO (some 4) rfl rfl Tryd.func85 (zz0) rfl #[.bool false,.slice A0 l0.length c0] rfl (zz5) ?_;(with_reducible refine (U9.calls k false _ _ l0 t984 t985 _ ?_ ?_ A2.out).mono ?_);(exact (have h0_:=HR0;zz206));exact HC0.out;rintro e w4 ⟨v986,rfl,ho0,hb⟩;refine ⟨_,rfl,?_⟩;have HO987:=wA.mk (Kd.R_lower ho0 (wB (have h0_:=GE983;zz13)));replace BK983:=wA.mk (wC (have h0_:=BK983;zz12) hb);replace HB:=wA.mk (wG (have h0_:=GE983;zz13) hb);(try clear hb);(try clear ho0);obtain ⟨hcz5_0,hcz5_1,hfz5_0,hfz5_1⟩:=zc2 BK983.out;obtain ⟨Ao6,co6,eo6⟩:=Kd.R_slice HO987.out;subst eo6))
 refine bodyPost_ret (results_cell_row rfl _ _ gb983 47 #[.bool t984,.slice Ao6 t985.length co6] (0,0) _ rfl (by (with_reducible repeat (first|refine wE ?_ _|refine wF ?_|refine wD ?_ _));refine wP (cs:=#[.bool t984,.slice none 0 0]) ?_ 1 _ rfl;(with_reducible repeat (first|refine wE ?_ _|refine wF ?_|refine wD ?_ _));refine wP (cs:=#[.bool false,.slice none 0 0]) ?_ 0 _ rfl;(with_reducible repeat (first|refine wE ?_ _|refine wF ?_|refine wD ?_ _));exact BK983.out) Tryd.underlying47 rfl (zz0)) rfl ?_
 exact ⟨_,zz14,by (with_reducible repeat (first|apply Kd.R_alloc|apply Kd.R_drewN|apply Kd.R_drew));exact Kd.R_mono (Kd.R_far (p:=⟨gb983,1,none⟩) (Kd.R_far (p:=⟨gb983,0,none⟩) (Kd.R_types HO987.out BK983.out (zz17)) (fun _ hk=>hk.2) (.bool t984)) (fun _ hk=>hk.2) (.slice Ao6 t985.length co6)) (fun _ hk=>trivial),(have h0_:=GE983;zz13)⟩
def U45.f (k:Nat) (a0_0:Bool) (l0_1:List Int) (l0_2:List Int):Option (Bool × List Int × Bool × List Int):=(U28.f k l0_2).bind fun t991=>(if t991 = 0 then ((nat_Of.f k 1).bind fun t992=>((U46.f k t992).bind fun bt995=>(some (false,([]:List Int),bt995.1,bt995.2)))) else ((U46.f k l0_2).bind fun bt999=>(some (a0_0,l0_1,bt999.1,bt999.2))))
theorem zm14_1 {P:Prop} (h:P:=by repeat' first|(with_reducible first|exact U28.mono ..|exact nat_Of.mono ..|exact U46.mono ..|exact LeO.refl _|exact LeO.none _|refine LeO.ite ?_ ?_|refine LeO.bind ?_ (fun _=>?_))|exact U28.mono ..|exact nat_Of.mono ..|exact U46.mono ..|exact LeO.none _|refine LeO.ite ?_ ?_|refine LeO.bind ?_ (fun _=>?_)):P:=h
theorem U45.mono:∀ a0 a1 a2 k,LeO (U45.f k a0 a1 a2) (U45.f (k+1) a0 a1 a2):=by
 intro a0 a1 a2 k;unfold U45.f
 exact zm14_1
set_option maxHeartbeats 8000000 in
set_option maxRecDepth 100000 in
theorem U45.calls (k:Nat) (a0_0:Bool) (P0_1_:Nat→Prop) (A0_1:Option Addr) (c0_1:Nat) (l0_1:List Int) (A0_2:Option Addr) (c0_2:Nat) (l0_2:List Int) (r1:Bool) (r2:List Int) (r3:Bool) (r4:List Int) (w:World) (hs0_1:Kd.V (Kd.int .u32) 52 w w.heap.size (fun k_=>P0_1_ k_) (.slice A0_1 l0_1.length c0_1) l0_1) (hr0_2:Kd.C (Kd.int .u32) w A0_2 l0_2.length l0_2) (hc0_2:l0_2.length≤c0_2) (h:U45.f k a0_0 l0_1 l0_2 = some (r1,r2,r3,r4)) :
  Calls Tryd.prog 59 #[.agg #[.bool a0_0,.slice A0_1 l0_1.length c0_1,.slice A0_2 l0_2.length c0_2]] w fun e w'=>∃ v1_ v3_:Value,e = .returned (.tuple #[.agg #[.bool r1,v1_],.agg #[.bool r3,v3_]])∧Kd.V (Kd.int .u32) 52 w' w.heap.size (fun k_=>(P0_1_ k_∨w.heap.size≤k_)∧some k_ ≠ (v3_:Value).ownBlock) v1_ r2∧Kd.R (Kd.int .u32) 52 w' w.heap.size (fun k_=>(w.heap.size≤k_)) v3_ r4∧Below w.heap.size w w':=by
 have hu49:=Tryd.underlying49;have hu47:=Tryd.underlying47;have HO0_1:=wA.mk (show Kd.V (Kd.int .u32) 52 w w.heap.size (fun k_=>(P0_1_ k_∨w.heap.size≤k_)) (.slice A0_1 l0_1.length c0_1) l0_1 from Kd.V_mono hs0_1 (fun k_ hk=>.inl hk));have HR0_2:=wA.mk hr0_2;have HC0_2:=wA.mk hc0_2;clear hr0_2 hc0_2;have HB:=wA.mk (Below.refl w.heap.size w);have H:((U28.f k l0_2).bind fun t991=>(if t991 = 0 then ((nat_Of.f k 1).bind fun t992=>((U46.f k t992).bind fun bt995=>(some (false,([]:List Int),bt995.1,bt995.2)))) else ((U46.f k l0_2).bind fun bt999=>(some (a0_0,l0_1,bt999.1,bt999.2))))) = some (r1,r2,r3,r4):=h;clear h;replace H:=zzb H;obtain ⟨t991,A2,H⟩:=H;replace H:=zzj H;rcases H with ⟨c3,H⟩|⟨c3,H⟩
 ·have c3b0:=beq_iff_eq.mpr c3;have c3b1:=bne_eq_false_iff_eq.mpr c3;clear c3;replace H:=zzb H;obtain ⟨t992,A4,H⟩:=H;replace H:=Option.bind_eq_some_iff.mp H;obtain ⟨⟨t995,t996⟩,A50,H⟩:=H;have A5:=wA.mk A50;clear A50;simp only [Option.some.injEq,Prod.mk.injEq] at H;obtain ⟨rfl,rfl,rfl,rfl⟩:=H;go_enter Tryd.func59,Tryd.ntmps59
  go_wp2_with (first|((with_reducible refine wK (N:=1) rfl ?_);refine wM ?hg (N:=1) ?hd (cs:=#[.bool a0_0,.slice A0_1 l0_1.length c0_1,.slice A0_2 l0_2.length c0_2]) (t:=49) ?hr ?_;(case hd=>rfl);(case hg=>rfl);(case hr=>exact zz205);intro gb988 hg w6 hbox hb;replace HO0_1:=wA.mk (Kd.V_below (Kd.V_elderB (zz43) gb988 (Nat.le_of_eq hg.symm)) hb);have BK988:=wA.mk (hbox);have GW988:=wA.mk ((by rw [hg];exact (wB (zz10)):w.heap.size≤gb988));have GE988:=wA.mk ((by rw [hg];exact (wB (zz10)):w.heap.size≤gb988));replace HB:=wA.mk (wG (zz10) hb);clear hb hbox hg)|((with_reducible refine wK (N:=2) rfl ?_);refine wM ?hg (N:=2) ?hd (cs:=#[.bool false,.slice none 0 0]) (t:=47) ?hr ?_;(case hd=>rfl);(case hg=>rfl);(case hr=>exact zz205);intro gb989 hg w7 hbox hb;replace HO0_1:=wA.mk (Kd.V_below (Kd.V_elderB (zz43) gb989 (Nat.le_of_eq hg.symm)) hb);have BK989:=wA.mk (hbox);have GW989:=wA.mk ((by rw [hg];exact (wB (have h0_:=GE988;zz13)):w.heap.size≤gb989));have GE989:=wA.mk ((by rw [hg];exact (wB (have h0_:=GE988;zz13)):w.heap.size≤gb989));replace HB:=wA.mk (wG (have h0_:=GE988;zz13) hb);have NB988_989:=wA.mk ((by rw [hg];exact Nat.ne_of_lt (wJ (g:=gb988) (o:=.cells #[.bool a0_0,.slice A0_1 l0_1.length c0_1,.slice A0_2 l0_2.length c0_2] 49 (0,0)) (zz141)):gb988 ≠ gb989));have NB989_988:=wA.mk ((by rw [hg];exact Nat.ne_of_gt (wJ (g:=gb988) (o:=.cells #[.bool a0_0,.slice A0_1 l0_1.length c0_1,.slice A0_2 l0_2.length c0_2] 49 (0,0)) (zz141)):gb989 ≠ gb988));replace BK988:=wA.mk (wC (zz141) hb);clear hb hbox hg)|((with_reducible refine wK (N:=3) rfl ?_);refine wM ?hg (N:=3) ?hd (cs:=#[.bool false,.slice none 0 0]) (t:=47) ?hr ?_;(case hd=>rfl);(case hg=>rfl);(case hr=>exact zz205);intro gb990 hg w8 hbox hb;replace HO0_1:=wA.mk (Kd.V_below (Kd.V_elderB (zz43) gb990 (Nat.le_of_eq hg.symm)) hb);have BK990:=wA.mk (hbox);have GW990:=wA.mk ((by rw [hg];exact (wB (have h0_:=GE988;have h1_:=GE989;zz51)):w.heap.size≤gb990));have GE990:=wA.mk ((by rw [hg];exact (wB (have h0_:=GE988;have h1_:=GE989;zz51)):w.heap.size≤gb990));replace HB:=wA.mk (wG (have h0_:=GE988;have h1_:=GE989;zz51) hb);have NB988_990:=wA.mk ((by rw [hg];exact Nat.ne_of_lt (wJ (g:=gb988) (o:=.cells #[.bool a0_0,.slice A0_1 l0_1.length c0_1,.slice A0_2 l0_2.length c0_2] 49 (0,0)) (zz141)):gb988 ≠ gb990));have NB990_988:=wA.mk ((by rw [hg];exact Nat.ne_of_gt (wJ (g:=gb988) (o:=.cells #[.bool a0_0,.slice A0_1 l0_1.length c0_1,.slice A0_2 l0_2.length c0_2] 49 (0,0)) (zz141)):gb990 ≠ gb988));replace BK988:=wA.mk (wC (zz141) hb);have NB989_990:=wA.mk ((by rw [hg];exact Nat.ne_of_lt (wJ (g:=gb989) (o:=.cells #[.bool false,.slice none 0 0] 47 (0,0)) (zz142)):gb989 ≠ gb990));have NB990_989:=wA.mk ((by rw [hg];exact Nat.ne_of_gt (wJ (g:=gb989) (o:=.cells #[.bool false,.slice none 0 0] 47 (0,0)) (zz142)):gb990 ≠ gb989));replace BK989:=wA.mk (wC (zz142) hb);clear hb hbox hg;have hnb9:=NB988_989.out;have hnc9:=NB989_988.out;have hnb10:=NB988_990.out;have hnc10:=NB990_988.out;obtain ⟨hcz11_0,hcz11_1,hcz11_2,hfz11_0,hfz11_1,hfz11_2⟩:=zc3 BK988.out)|((with_reducible refine wH (f:=80) rfl ?_);refine wO (some 6) rfl rfl Tryd.func80 (zz0) rfl #[.slice A0_2 l0_2.length c0_2] rfl (zz5) ?_;(with_reducible refine (U28.calls k _ _ l0_2 t991 _ ?_ ?_ A2.out).mono ?_);(exact (have h0_:=HR0_2;zz206));exact HC0_2.out;rintro e w12 ⟨rfl,hb⟩;refine ⟨_,rfl,?_⟩;replace HO0_1:=wA.mk (Kd.V_below (zz43) hb);replace BK988:=wA.mk (wC (zz141) hb);replace BK989:=wA.mk (wC (zz142) hb);replace BK990:=wA.mk (wC (have h0_:=BK990;zz12) hb);replace HB:=wA.mk (wG (zz143) hb);(try clear hb))|((with_reducible refine wH (f:=73) rfl ?_);refine wO (some 9) rfl rfl Tryd.func73 (zz0) rfl #[.int .u64 1] rfl (zz5) ?_;(with_reducible refine (nat_Of.calls k 1 t992 _ A4.out).mono ?_);rintro e w13 ⟨v993,rfl,ho0,hb⟩;refine ⟨_,rfl,?_⟩;replace HO0_1:=wA.mk (Kd.V_below (zz43) hb);have HO994:=wA.mk (Kd.V_lower (Kd.V_mono (ok':=fun k_=>(P0_1_ k_∨w.heap.size≤k_)∧k_ ≠ gb988∧k_ ≠ gb989∧k_ ≠ gb990) ho0 (fun k_ hk_=>⟨(.inr (Nat.le_trans (wB (zz143)) hk_)),(Kd.freshB (g:=gb988) (o:=.cells #[.bool a0_0,.slice A0_1 l0_1.length c0_1,.slice A0_2 l0_2.length c0_2] 49 (0,0)) (zz141) k_ hk_),(Kd.freshB (g:=gb989) (o:=.cells #[.bool false,.slice none 0 0] 47 (0,0)) (zz142) k_ hk_),(Kd.freshB (g:=gb990) (o:=.cells #[.bool false,.slice none 0 0] 47 (0,0)) (have h0_:=BK990;zz12) k_ hk_)⟩)) (wB (zz143)));replace BK988:=wA.mk (wC (zz141) hb);replace BK989:=wA.mk (wC (zz142) hb);replace BK990:=wA.mk (wC (have h0_:=BK990;zz12) hb);replace HB:=wA.mk (wG (zz143) hb);(try clear hb);(try clear ho0);obtain ⟨Ao14,co14,eo14⟩:=Kd.V_slice HO994.out;subst eo14)|((with_reducible refine wH (f:=81) rfl ?_);refine wO (some 10) rfl rfl Tryd.func81 (zz0) rfl #[.slice Ao14 t992.length co14] rfl (zz5) ?_;(with_reducible refine (U46.calls k _ _ t992 t995 t996 _ ?_ ?_ A5.out).mono ?_);(exact (have h0_:=HO994;zz214));(exact (have h0_:=HO994;zz215));rintro e w15 ⟨v997,rfl,ho0,hb⟩;refine ⟨_,rfl,?_⟩;replace HO0_1:=wA.mk (Kd.V_elder' (zz43) (Kd.R_base ho0) hb);replace HO994:=wA.mk (Kd.V_elder' (have h0_:=HO994;zz31) (Kd.R_base ho0) hb);have HO998:=wA.mk (Kd.R_lower (Kd.R_newM (M:=fun k_=>(w.heap.size≤k_)) ho0 (wB (zz143)) (fun k_ h_=>h_)) (wB (zz143)));replace BK988:=wA.mk (wC (zz141) hb);replace BK989:=wA.mk (wC (zz142) hb);replace BK990:=wA.mk (wC (have h0_:=BK990;zz12) hb);replace HB:=wA.mk (wG (zz143) hb);(try clear hb);(try clear ho0);have hnb16:=NB989_990.out;have hnc16:=NB990_989.out;obtain ⟨hcz17_0,hcz17_1,hfz17_0,hfz17_1⟩:=zc2 BK989.out;obtain ⟨hcz18_0,hcz18_1,hfz18_0,hfz18_1⟩:=zc2 BK990.out;obtain ⟨Ao19,co19,eo19⟩:=Kd.R_slice HO998.out;subst eo19))
  refine bodyPost_ret (qV rfl _ _ gb989 gb990 47 47 #[.bool false,.slice none 0 0] #[.bool t995,.slice Ao19 t996.length co19] (0,0) (0,0) _ _ rfl (by (with_reducible repeat (first|refine wE ?_ _|refine wF ?_|refine wD ?_ _));refine wN ?_ NB989_990.out _;(with_reducible repeat (first|refine wE ?_ _|refine wF ?_|refine wD ?_ _));refine wN ?_ NB989_990.out _;(with_reducible repeat (first|refine wE ?_ _|refine wF ?_|refine wD ?_ _));refine wP (cs:=#[.bool false,.slice none 0 0]) ?_ 1 _ rfl;(with_reducible repeat (first|refine wE ?_ _|refine wF ?_|refine wD ?_ _));refine wP (cs:=#[.bool false,.slice none 0 0]) ?_ 0 _ rfl;(with_reducible repeat (first|refine wE ?_ _|refine wF ?_|refine wD ?_ _));exact BK989.out) Tryd.underlying47 rfl (zz0) rfl (by (with_reducible repeat (first|refine wE ?_ _|refine wF ?_|refine wD ?_ _));refine wP (cs:=#[.bool t995,.slice none 0 0]) ?_ 1 _ rfl;(with_reducible repeat (first|refine wE ?_ _|refine wF ?_|refine wD ?_ _));refine wP (cs:=#[.bool false,.slice none 0 0]) ?_ 0 _ rfl;(with_reducible repeat (first|refine wE ?_ _|refine wF ?_|refine wD ?_ _));refine wN ?_ NB990_989.out _;(with_reducible repeat (first|refine wE ?_ _|refine wF ?_|refine wD ?_ _));refine wN ?_ NB990_989.out _;(with_reducible repeat (first|refine wE ?_ _|refine wF ?_|refine wD ?_ _));exact BK990.out) Tryd.underlying47 rfl (zz0)) rfl ?_
  exact ⟨_,_,zz14,(Kd.V_nil _ _ _ _ _),by (with_reducible repeat (first|apply Kd.R_alloc|apply Kd.R_drewN|apply Kd.R_drew));exact Kd.R_mono (Kd.R_far (p:=⟨gb990,1,none⟩) (Kd.R_far (p:=⟨gb990,0,none⟩) (Kd.R_far (p:=⟨gb989,1,none⟩) (Kd.R_far (p:=⟨gb989,0,none⟩) (Kd.R_types (Kd.R_types HO998.out BK989.out (zz17)) BK990.out (zz17)) (fun _ hk=>hk.1.2) (.bool false)) (fun _ hk=>hk.1.2) (.slice none 0 0)) (fun _ hk=>hk.2) (.bool t995)) (fun _ hk=>hk.2) (.slice Ao19 t996.length co19)) (fun _ hk=>hk.1.1.1),zz143⟩
 ·have c3b0:=beq_eq_false_iff_ne.mpr c3;have c3b1:=bne_iff_ne.mpr c3;replace H:=Option.bind_eq_some_iff.mp H;obtain ⟨⟨t999,t1000⟩,A200,H⟩:=H;have A20:=wA.mk A200;clear A200;simp only [Option.some.injEq,Prod.mk.injEq] at H;obtain ⟨rfl,rfl,rfl,rfl⟩:=H;go_enter Tryd.func59,Tryd.ntmps59
  try go_wp2_with (first|((with_reducible refine wK (N:=1) rfl ?_);refine wM ?hg (N:=1) ?hd (cs:=#[.bool a0_0,.slice A0_1 l0_1.length c0_1,.slice A0_2 l0_2.length c0_2]) (t:=49) ?hr ?_;(case hd=>rfl);(case hg=>rfl);(case hr=>exact zz205);intro gb988 hg w21 hbox hb;replace HO0_1:=wA.mk (Kd.V_below (Kd.V_elderB (zz43) gb988 (Nat.le_of_eq hg.symm)) hb);have BK988:=wA.mk (hbox);have GW988:=wA.mk ((by rw [hg];exact (wB (zz10)):w.heap.size≤gb988));have GE988:=wA.mk ((by rw [hg];exact (wB (zz10)):w.heap.size≤gb988));replace HB:=wA.mk (wG (zz10) hb);clear hb hbox hg)|((with_reducible refine wK (N:=2) rfl ?_);refine wM ?hg (N:=2) ?hd (cs:=#[.bool false,.slice none 0 0]) (t:=47) ?hr ?_;(case hd=>rfl);(case hg=>rfl);(case hr=>exact zz205);intro gb989 hg w22 hbox hb;replace HO0_1:=wA.mk (Kd.V_below (Kd.V_elderB (zz43) gb989 (Nat.le_of_eq hg.symm)) hb);have BK989:=wA.mk (hbox);have GW989:=wA.mk ((by rw [hg];exact (wB (have h0_:=GE988;zz13)):w.heap.size≤gb989));have GE989:=wA.mk ((by rw [hg];exact (wB (have h0_:=GE988;zz13)):w.heap.size≤gb989));replace HB:=wA.mk (wG (have h0_:=GE988;zz13) hb);have NB988_989:=wA.mk ((by rw [hg];exact Nat.ne_of_lt (wJ (g:=gb988) (o:=.cells #[.bool a0_0,.slice A0_1 l0_1.length c0_1,.slice A0_2 l0_2.length c0_2] 49 (0,0)) (zz141)):gb988 ≠ gb989));have NB989_988:=wA.mk ((by rw [hg];exact Nat.ne_of_gt (wJ (g:=gb988) (o:=.cells #[.bool a0_0,.slice A0_1 l0_1.length c0_1,.slice A0_2 l0_2.length c0_2] 49 (0,0)) (zz141)):gb989 ≠ gb988));replace BK988:=wA.mk (wC (zz141) hb);clear hb hbox hg)|((with_reducible refine wK (N:=3) rfl ?_);refine wM ?hg (N:=3) ?hd (cs:=#[.bool false,.slice none 0 0]) (t:=47) ?hr ?_;(case hd=>rfl);(case hg=>rfl);(case hr=>exact zz205);intro gb990 hg w23 hbox hb;replace HO0_1:=wA.mk (Kd.V_below (Kd.V_elderB (zz43) gb990 (Nat.le_of_eq hg.symm)) hb);have BK990:=wA.mk (hbox);have GW990:=wA.mk ((by rw [hg];exact (wB (have h0_:=GE988;have h1_:=GE989;zz51)):w.heap.size≤gb990));have GE990:=wA.mk ((by rw [hg];exact (wB (have h0_:=GE988;have h1_:=GE989;zz51)):w.heap.size≤gb990));replace HB:=wA.mk (wG (have h0_:=GE988;have h1_:=GE989;zz51) hb);have NB988_990:=wA.mk ((by rw [hg];exact Nat.ne_of_lt (wJ (g:=gb988) (o:=.cells #[.bool a0_0,.slice A0_1 l0_1.length c0_1,.slice A0_2 l0_2.length c0_2] 49 (0,0)) (zz141)):gb988 ≠ gb990));have NB990_988:=wA.mk ((by rw [hg];exact Nat.ne_of_gt (wJ (g:=gb988) (o:=.cells #[.bool a0_0,.slice A0_1 l0_1.length c0_1,.slice A0_2 l0_2.length c0_2] 49 (0,0)) (zz141)):gb990 ≠ gb988));replace BK988:=wA.mk (wC (zz141) hb);have NB989_990:=wA.mk ((by rw [hg];exact Nat.ne_of_lt (wJ (g:=gb989) (o:=.cells #[.bool false,.slice none 0 0] 47 (0,0)) (zz142)):gb989 ≠ gb990));have NB990_989:=wA.mk ((by rw [hg];exact Nat.ne_of_gt (wJ (g:=gb989) (o:=.cells #[.bool false,.slice none 0 0] 47 (0,0)) (zz142)):gb990 ≠ gb989));replace BK989:=wA.mk (wC (zz142) hb);clear hb hbox hg;have hnb24:=NB988_989.out;have hnc24:=NB989_988.out;have hnb25:=NB988_990.out;have hnc25:=NB990_988.out;obtain ⟨hcz26_0,hcz26_1,hcz26_2,hfz26_0,hfz26_1,hfz26_2⟩:=zc3 BK988.out)|((with_reducible refine wH (f:=80) rfl ?_);refine wO (some 6) rfl rfl Tryd.func80 (zz0) rfl #[.slice A0_2 l0_2.length c0_2] rfl (zz5) ?_;(with_reducible refine (U28.calls k _ _ l0_2 t991 _ ?_ ?_ A2.out).mono ?_);(exact (have h0_:=HR0_2;zz206));exact HC0_2.out;rintro e w27 ⟨rfl,hb⟩;refine ⟨_,rfl,?_⟩;replace HO0_1:=wA.mk (Kd.V_below (zz43) hb);replace BK988:=wA.mk (wC (zz141) hb);replace BK989:=wA.mk (wC (zz142) hb);replace BK990:=wA.mk (wC (have h0_:=BK990;zz12) hb);replace HB:=wA.mk (wG (zz143) hb);(try clear hb)))
  replace HO0_1:=wA.mk (Kd.V_drew HO0_1.out);replace BK988:=wA.mk (wF BK988.out);replace BK989:=wA.mk (wF BK989.out);replace BK990:=wA.mk (wF BK990.out);replace HB:=wA.mk (wR HB.out);refine zC (n:=7) (S:=fun w'=>w'.cell? ⟨gb988,0,none⟩ = some (.bool a0_0)∧w'.cell? ⟨gb988,1,none⟩ = some (.slice A0_1 l0_1.length c0_1)∧w'.cell? ⟨gb988,2,none⟩ = some (.slice A0_2 l0_2.length c0_2)) (ds:=[]) #[false,false,false,false,false,false,false] (zz0) rfl rfl ⟨(wI BK988.out 0).trans rfl,(wI BK988.out 1).trans rfl,(wI BK988.out 2).trans rfl⟩ (fun hHeld=>?_)
  generalize w27.drew = w28 at HO0_1 BK988 BK989 BK990 HB hHeld ⊢
  refine zW (i:=0) (N:=some 11) (v:=?_) (a':=?_) #[true,false,false,false,false,false,false] rfl rfl (zz0) (fun _ _ _ h=>h) (Or.inl ⟨zz9,?_⟩) ?_ ?_;rotate_left
  ·intro w'
   go_simp
   with_reducible rfl
  rotate_left
  ·simp only [zzs]
   rfl
  refine zW (i:=2) (N:=some 13) (v:=?_) (a':=?_) #[true,false,true,false,false,false,false] rfl rfl (zz0) (fun _ _ _ h=>h) (Or.inl ⟨zz9,?_⟩) ?_ ?_;rotate_left
  ·intro w'
   go_simp
   with_reducible rfl
  rotate_left
  ·simp only [zzs]
   rfl
  refine take_ (i:=1) (N:=some 12) (v:=?_) (a':=?_) #[true,true,true,false,false,false,false] rfl rfl (zz0) (fun _ _ _ h=>h) (Or.inl ⟨zz9,?_⟩) hHeld ?_ ?_;rotate_left
  ·rintro w' ⟨s0,s1,s2⟩
   go_simp
   with_reducible rfl
  rotate_left
  ·simp only [zzs]
   rfl
  refine take_ (i:=3) (N:=some 14) (v:=?_) (a':=?_) #[true,true,true,true,false,false,false] rfl rfl (zz0) (fun _ _ _ h=>h) (Or.inl ⟨zz9,?_⟩) hHeld ?_ ?_;rotate_left
  ·rintro w' ⟨s0,s1,s2⟩
   go_simp
   with_reducible rfl
  rotate_left
  ·simp only [zzs]
   rfl
  refine yW (i:=4) (N:=some 15) #[true,true,true,true,true,false,false] rfl rfl (zz0) (zz17) (fun K hK=>?_);refine yN Tryd.func81 (zz0) rfl #[.slice A0_2 l0_2.length c0_2] (zz9) rfl rfl (zz5) ?_
  with_reducible refine (U46.calls k _ _ l0_2 t999 t1000 _ ?side1 ?side2 A20.out).mono ?_
  (case side1=>exact (have h0_:=HR0_2;zz206))
  (case side2=>exact HC0_2.out)
  rintro e w29 ⟨v1001,rfl,ho0,hb⟩;refine ⟨_,rfl,?_⟩;replace HO0_1:=wA.mk (Kd.V_elder' (zz43) (Kd.R_base ho0) hb);have HO1002:=wA.mk (Kd.R_lower (Kd.R_newM (M:=fun k_=>(w.heap.size≤k_)) ho0 (wB (zz143)) (fun k_ h_=>h_)) (wB (zz143)));replace BK988:=wA.mk (wC (zz141) hb);replace BK989:=wA.mk (wC (zz142) hb);replace BK990:=wA.mk (wC (have h0_:=BK990;zz12) hb);replace HB:=wA.mk (wG (zz143) hb)
  (try clear hb)
  (try clear hk)
  (try clear ho0)
  obtain ⟨Ao33,co33,eo33⟩:=Kd.R_slice HO1002.out
  (first|subst eo33|(injection eo33 with f1_ f2_ f3_;have f4_:=f1_.symm;have f5_:=f3_.symm;clear f1_ f2_ f3_;subst f4_;subst f5_))
  refine hK.out _ _ ⟨(wI BK988.out 0).trans rfl,(wI BK988.out 1).trans rfl,(wI BK988.out 2).trans rfl⟩ (fun hHeld=>?_);clear hK K;refine yJ (a':=?_) ?_ ?_;rotate_left
  ·show Act.put _ (some 15) _ = _
   simp only [zzs]
   rfl
  refine yW (i:=5) (N:=none) #[true,true,true,true,true,true,false] rfl rfl (zz0) (zz17) (fun K hK=>?_);have hs30:w29.cell? ⟨gb989,0,none⟩ = some (.bool false):=(wI BK989.out 0).trans rfl;have hfs30:=yU BK989.out 0;have hns30_0:=NB988_989.out;have hns30_2:=NB990_989.out;have hms30_0:=NB989_988.out;have hms30_2:=NB989_990.out;have hs31:w29.cell? ⟨gb989,1,none⟩ = some (.slice none 0 0):=(wI BK989.out 1).trans rfl;have hfs31:=yU BK989.out 1;have hns31_0:=NB988_989.out;have hns31_2:=NB990_989.out;have hms31_0:=NB989_988.out;have hms31_2:=NB989_990.out;refine qO (w1:=?_) (zz9) rfl ?_ ?_;rotate_left
  ·go_simp
   rfl
  refine hK.out _ _ ⟨((wW (p:=⟨gb989,_,none⟩) NB988_989.out _).trans (((wW (p:=⟨gb989,_,none⟩) NB988_989.out _).trans (hHeld.1)))),((wW (p:=⟨gb989,_,none⟩) NB988_989.out _).trans (((wW (p:=⟨gb989,_,none⟩) NB988_989.out _).trans (hHeld.2.1)))),((wW (p:=⟨gb989,_,none⟩) NB988_989.out _).trans (((wW (p:=⟨gb989,_,none⟩) NB988_989.out _).trans (hHeld.2.2))))⟩ (fun hHeld=>?_);clear hK K;refine yW (i:=6) (N:=none) #[true,true,true,true,true,true,true] rfl rfl (zz0) (zz17) (fun K hK=>?_);have hs32:w29.cell? ⟨gb990,0,none⟩ = some (.bool false):=(wI BK990.out 0).trans rfl;have hfs32:=yU BK990.out 0;have hns32_0:=NB988_990.out;have hns32_1:=NB989_990.out;have hms32_0:=NB990_988.out;have hms32_1:=NB990_989.out;have hs34:w29.cell? ⟨gb990,1,none⟩ = some (.slice none 0 0):=(wI BK990.out 1).trans rfl;have hfs34:=yU BK990.out 1;have hns34_0:=NB988_990.out;have hns34_1:=NB989_990.out;have hms34_0:=NB990_988.out;have hms34_1:=NB990_989.out;refine qO (w1:=?_) (zz9) rfl ?_ ?_;rotate_left
  ·go_simp
   rfl
  refine hK.out _ _ ⟨((wW (p:=⟨gb990,_,none⟩) NB988_990.out _).trans (((wW (p:=⟨gb990,_,none⟩) NB988_990.out _).trans (hHeld.1)))),((wW (p:=⟨gb990,_,none⟩) NB988_990.out _).trans (((wW (p:=⟨gb990,_,none⟩) NB988_990.out _).trans (hHeld.2.1)))),((wW (p:=⟨gb990,_,none⟩) NB988_990.out _).trans (((wW (p:=⟨gb990,_,none⟩) NB988_990.out _).trans (hHeld.2.2))))⟩ (fun hHeld=>?_);clear hK K;refine zN (zz0) ?_
  try go_wp2
  refine bodyPost_ret (qV rfl _ _ gb989 gb990 47 47 #[.bool a0_0,.slice A0_1 l0_1.length c0_1] #[.bool t999,.slice Ao33 t1000.length co33] (0,0) (0,0) _ _ rfl (by (with_reducible repeat (first|refine wE ?_ _|refine wF ?_|refine wD ?_ _));refine wN ?_ NB989_990.out _;(with_reducible repeat (first|refine wE ?_ _|refine wF ?_|refine wD ?_ _));refine wN ?_ NB989_990.out _;(with_reducible repeat (first|refine wE ?_ _|refine wF ?_|refine wD ?_ _));refine wP (cs:=#[.bool a0_0,.slice none 0 0]) ?_ 1 _ rfl;(with_reducible repeat (first|refine wE ?_ _|refine wF ?_|refine wD ?_ _));refine wP (cs:=#[.bool false,.slice none 0 0]) ?_ 0 _ rfl;(with_reducible repeat (first|refine wE ?_ _|refine wF ?_|refine wD ?_ _));exact BK989.out) Tryd.underlying47 rfl (zz0) rfl (by (with_reducible repeat (first|refine wE ?_ _|refine wF ?_|refine wD ?_ _));refine wP (cs:=#[.bool t999,.slice none 0 0]) ?_ 1 _ rfl;(with_reducible repeat (first|refine wE ?_ _|refine wF ?_|refine wD ?_ _));refine wP (cs:=#[.bool false,.slice none 0 0]) ?_ 0 _ rfl;(with_reducible repeat (first|refine wE ?_ _|refine wF ?_|refine wD ?_ _));refine wN ?_ NB990_989.out _;(with_reducible repeat (first|refine wE ?_ _|refine wF ?_|refine wD ?_ _));refine wN ?_ NB990_989.out _;(with_reducible repeat (first|refine wE ?_ _|refine wF ?_|refine wD ?_ _));exact BK990.out) Tryd.underlying47 rfl (zz0)) rfl ?_
  exact ⟨_,_,zz14,by (with_reducible repeat (first|apply Kd.V_alloc|apply Kd.V_drewN|apply Kd.V_drew));exact Kd.V_mono (Kd.V_far (p:=⟨gb990,1,none⟩) (Kd.V_far (p:=⟨gb990,0,none⟩) (Kd.V_far (p:=⟨gb989,1,none⟩) (Kd.V_far (p:=⟨gb989,0,none⟩) (Kd.V_mono (Kd.V_mono HO0_1.out (fun k_ hk=>(⟨hk,hk.1.1.2⟩:_∧k_ ≠ gb989))) (fun k_ hk=>(⟨hk,hk.1.1.2⟩:_∧k_ ≠ gb990))) (fun _ hk=>hk.1.2) (.bool a0_0)) (fun _ hk=>hk.1.2) (.slice A0_1 l0_1.length c0_1)) (fun _ hk=>hk.2) (.bool t999)) (fun _ hk=>hk.2) (.slice Ao33 t1000.length co33)) (fun _ hk=>⟨hk.1.1.1.1.1.1,hk.1.1.2⟩),by (with_reducible repeat (first|apply Kd.R_alloc|apply Kd.R_drewN|apply Kd.R_drew));exact Kd.R_mono (Kd.R_far (p:=⟨gb990,1,none⟩) (Kd.R_far (p:=⟨gb990,0,none⟩) (Kd.R_far (p:=⟨gb989,1,none⟩) (Kd.R_far (p:=⟨gb989,0,none⟩) (Kd.R_types (Kd.R_types HO1002.out BK989.out (zz17)) BK990.out (zz17)) (fun _ hk=>hk.1.2) (.bool a0_0)) (fun _ hk=>hk.1.2) (.slice A0_1 l0_1.length c0_1)) (fun _ hk=>hk.2) (.bool t999)) (fun _ hk=>hk.2) (.slice Ao33 t1000.length co33)) (fun _ hk=>hk.1.1.1),zz143⟩
mutual
def U32.j0:Nat→List Int→List Int→Bool→Option (List Int)
 | 0,_,_,_=>none
 | k+1,x5,x6,x24=>if x24 = true then (some ([]:List Int)) else (if 0≤(wrap64 ((x5.length:Int)+(x6.length:Int))) then (if (wrap64 ((x5.length:Int)+(x6.length:Int)):Int).toNat≤70368744177664 then (U32.l0 k x6 (List.replicate (wrap64 ((x5.length:Int)+(x6.length:Int)):Int).toNat 0) x5 (x5.length:Int) 0) else (none)) else (none))
def U32.l0:Nat→List Int→List Int→List Int→Int→Int→Option (List Int)
 | 0,_,_,_,_,_=>none
 | k+1,x6,x7,x31,x32,x33=>if x33 < x32 then (if 0≤x33 then (if x33 < (x31.length:Int) then (U32.l1 k x6 x7 x33 (rd x31 x33) 0 x31 x32 x33 x6 (x6.length:Int) 0) else (none)) else (none)) else ((U37.f k x7).bind fun t1012=>(some t1012))
def U32.l1:Nat→List Int→List Int→Int→Int→Int→List Int→Int→Int→List Int→Int→Int→Option (List Int)
 | 0,_,_,_,_,_,_,_,_,_,_,_=>none
 | k+1,x6,x7,x8,x9,x10,x31,x32,x33,x38,x39,x40=>if x40 < x39 then (if 0≤x40 then (if x40 < (x38.length:Int) then (if 0≤(wrap64 (x8+x40)) then (if (wrap64 (x8+x40)) < (x7.length:Int) then (U32.l1 k x6 (x7.set ((wrap64 (x8+x40)):Int).toNat ((Go.bits .and .u64 (IntKind.u64.wrap (x10+(IntKind.u64.wrap ((IntKind.u64.wrap ((IntKind.u64.wrap (x9)) * (IntKind.u64.wrap (rd x38 x40))))+(IntKind.u64.wrap (rd x7 (wrap64 (x8+x40)))))))) 4294967295) % 4294967296)) x8 x9 ((IntKind.u64.wrap (x10+(IntKind.u64.wrap ((IntKind.u64.wrap ((IntKind.u64.wrap (x9)) * (IntKind.u64.wrap (rd x38 x40))))+(IntKind.u64.wrap (rd x7 (wrap64 (x8+x40)))))))) / 4294967296) x31 x32 x33 x38 x39 (wrap64 (x40+1))) else (none)) else (none)) else (none)) else (none)) else (if 0≤(wrap64 (x8+(x6.length:Int))) then (if (wrap64 (x8+(x6.length:Int))) < (x7.length:Int) then (U32.l0 k x6 (x7.set ((wrap64 (x8+(x6.length:Int))):Int).toNat ((x10) % 4294967296)) x31 x32 (wrap64 (x33+1))) else (none)) else (none))
end
def U32.f (k:Nat) (l0:List Int) (l1:List Int):Option (List Int):=(U37.f k l0).bind fun t1003=>((U37.f k l1).bind fun t1006=>(if (t1003.length:Int) = 0 then (U32.j0 k t1003 t1006 true) else (U32.j0 k t1003 t1006 ((t1006.length:Int) == 0))))
theorem zm14_2 {P:Prop} (h:P:=by repeat' first|(with_reducible first|exact ih0 ..|exact ih1 ..|exact ih2 ..|exact U37.mono ..|exact LeO.refl _|exact LeO.none _|refine LeO.ite ?_ ?_|refine LeO.bind ?_ (fun _=>?_))|exact ih0 ..|exact ih1 ..|exact ih2 ..|exact U37.mono ..|exact LeO.none _|refine LeO.ite ?_ ?_|refine LeO.bind ?_ (fun _=>?_)):P:=h
theorem U32.mono_l:∀ k,(∀ y0 y1 y2,LeO (U32.j0 k y0 y1 y2) (U32.j0 (k+1) y0 y1 y2))∧(∀ y0 y1 y2 y3 y4,LeO (U32.l0 k y0 y1 y2 y3 y4) (U32.l0 (k+1) y0 y1 y2 y3 y4))∧(∀ y0 y1 y2 y3 y4 y5 y6 y7 y8 y9 y10,LeO (U32.l1 k y0 y1 y2 y3 y4 y5 y6 y7 y8 y9 y10) (U32.l1 (k+1) y0 y1 y2 y3 y4 y5 y6 y7 y8 y9 y10))
 | 0=>⟨fun _ _ _ r h=>by simp [U32.j0] at h,fun _ _ _ _ _ r h=>by simp [U32.l0] at h,fun _ _ _ _ _ _ _ _ _ _ _ r h=>by simp [U32.l1] at h⟩
 | k+1=>by
  obtain ⟨ih0,ih1,ih2⟩:=U32.mono_l k;refine ⟨?_,?_,?_⟩
  ·intro y0 y1 y2;unfold U32.j0
   exact zm14_2
  ·intro y0 y1 y2 y3 y4;unfold U32.l0
   exact zm14_2
  ·intro y0 y1 y2 y3 y4 y5 y6 y7 y8 y9 y10;unfold U32.l1
   exact zm14_2
theorem U32.mono:∀ a0 a1 k,LeO (U32.f k a0 a1) (U32.f (k+1) a0 a1):=by
 intro a0 a1 k;obtain ⟨ih0,ih1,ih2⟩:=U32.mono_l k;unfold U32.f
 exact zm14_2
set_option maxHeartbeats 8000000 in
set_option maxRecDepth 100000 in
theorem U32.calls (k:Nat) (P0_:Nat→Prop) (A0:Option Addr) (c0:Nat) (l0:List Int) (P1_:Nat→Prop) (A1:Option Addr) (c1:Nat) (l1:List Int) (r:List Int) (w:World) (hs0:Kd.V (Kd.int .u32) 52 w w.heap.size (fun k_=>P0_ k_) (.slice A0 l0.length c0) l0) (hs1:Kd.V (Kd.int .u32) 52 w w.heap.size (fun k_=>P1_ k_) (.slice A1 l1.length c1) l1) (h:U32.f k l0 l1 = some r) :
  Calls Tryd.prog 63 #[.slice A0 l0.length c0,.slice A1 l1.length c1] w fun e w'=>∃ v0_:Value,e = .returned (v0_)∧Kd.V (Kd.int .u32) 52 w' w.heap.size (fun k_=>((P0_ k_∨P1_ k_)∨w.heap.size≤k_)) v0_ r∧Below w.heap.size w w':=by
 have HO0:=wA.mk (show Kd.V (Kd.int .u32) 52 w w.heap.size (fun k_=>((P0_ k_∨P1_ k_)∨w.heap.size≤k_)) (.slice A0 l0.length c0) l0 from Kd.V_mono hs0 (fun k_ hk=>.inl (.inl hk)));have HO1:=wA.mk (show Kd.V (Kd.int .u32) 52 w w.heap.size (fun k_=>((P0_ k_∨P1_ k_)∨w.heap.size≤k_)) (.slice A1 l1.length c1) l1 from Kd.V_mono hs1 (fun k_ hk=>.inl (.inr hk)));have HB:=wA.mk (Below.refl w.heap.size w);have H:((U37.f k l0).bind fun t1003=>((U37.f k l1).bind fun t1006=>(if (t1003.length:Int) = 0 then (U32.j0 k t1003 t1006 true) else (U32.j0 k t1003 t1006 ((t1006.length:Int) == 0))))) = some r:=h;clear h;replace H:=zzb H;obtain ⟨t1003,A3,H⟩:=H;replace H:=zzb H;obtain ⟨t1006,A4,H⟩:=H;have HC5:=wA.mk H;clear H;go_enter Tryd.func63,Tryd.ntmps63
 go_upto_region 2 with (first|((with_reducible refine wH (f:=88) rfl ?_);refine wO (some 14) rfl rfl Tryd.func88 (zz0) rfl #[.slice A0 l0.length c0] rfl (zz5) ?_;(with_reducible refine (U37.calls k (fun k_=>((P0_ k_∨P1_ k_)∨w.heap.size≤k_)) _ _ l0 t1003 _ ?_ A3.out).mono ?_);exact HO0.out;rintro e w6 ⟨v1004,rfl,ho0,hb⟩;refine ⟨_,rfl,?_⟩;replace HO0:=wA.mk (Kd.V_below (zz29) hb);replace HO1:=wA.mk (Kd.V_below (zz38) hb);have HO1005:=wA.mk (Kd.V_lower (Kd.V_mono (ok':=fun k_=>((P0_ k_∨P1_ k_)∨w.heap.size≤k_)) ho0 (fun k_ hk_=>Or.elim hk_ (fun hs_=>hs_) (fun hn_=>(.inr (Nat.le_trans (wB (zz10)) hn_))))) (wB (zz10)));replace HB:=wA.mk (wG (zz10) hb);(try clear hb);(try clear ho0))|((with_reducible refine wH (f:=88) rfl ?_);refine wO (some 16) rfl rfl Tryd.func88 (zz0) rfl #[.slice A1 l1.length c1] rfl (zz5) ?_;(with_reducible refine (U37.calls k (fun k_=>((P0_ k_∨P1_ k_)∨w.heap.size≤k_)) _ _ l1 t1006 _ ?_ A4.out).mono ?_);exact HO1.out;rintro e w7 ⟨v1007,rfl,ho0,hb⟩;refine ⟨_,rfl,?_⟩;replace HO0:=wA.mk (Kd.V_below (zz29) hb);replace HO1:=wA.mk (Kd.V_below (zz38) hb);replace HO1005:=wA.mk (Kd.V_below (have h0_:=HO1005;zz31) hb);have HO1008:=wA.mk (Kd.V_lower (Kd.V_mono (ok':=fun k_=>((P0_ k_∨P1_ k_)∨w.heap.size≤k_)) ho0 (fun k_ hk_=>Or.elim hk_ (fun hs_=>hs_) (fun hn_=>(.inr (Nat.le_trans (wB (zz10)) hn_))))) (wB (zz10)));replace HB:=wA.mk (wG (zz10) hb);(try clear hb);(try clear ho0)))
 (try simp only [Act.put,List.setIfInBounds_toArray,List.set_cons_zero,List.set_cons_succ])
 go_cut [24] (fun v24 wc=>∃ (kq:Nat) (x24_4:Bool),v24 = .bool x24_4∧wA (U32.j0 kq t1003 t1006 x24_4 = some r)∧wA (kq≤k)∧wA (Kd.V (Kd.int .u32) 52 wc w.heap.size (fun k_=>((P0_ k_∨P1_ k_)∨w.heap.size≤k_)) v1004 t1003)∧wA (Kd.V (Kd.int .u32) 52 wc w.heap.size (fun k_=>((P0_ k_∨P1_ k_)∨w.heap.size≤k_)) v1007 t1006)∧wA (Below w.heap.size w wc))
 case first =>
  have H:=HC5.out;clear HC5;replace H:=zzj H;rcases H with ⟨c8,H⟩|⟨c8,H⟩
  ·have c8b0:=beq_iff_eq.mpr c8;have c8b1:=bne_eq_false_iff_eq.mpr c8;clear c8
   (first|rw [c8b0]|rw [c8b1]|(simp only [yL,zM];rw [c8b0])|skip)
   have H':=wA.mk H;clear H;obtain ⟨Ao9,co9,eo9⟩:=Kd.V_slice HO1005.out;subst eo9
   go_wp2
   go_meet
   case rel=>exact ⟨_,(true),(zz1),H',⟨zz11⟩,⟨(have h0_:=HO1005;zz31)⟩,⟨(have h0_:=HO1008;zz31)⟩,⟨zz10⟩⟩
  ·have c8b0:=beq_eq_false_iff_ne.mpr c8;have c8b1:=bne_iff_ne.mpr c8;have c8b2:¬ (t1003 = []):=fun h_=>c8 (by rw [h_];rfl)
   (first|rw [c8b0]|rw [c8b1]|(simp only [yL,zM];rw [c8b0])|skip)
   have H':=wA.mk H;clear H;obtain ⟨Ao10,co10,eo10⟩:=Kd.V_slice HO1005.out;subst eo10;obtain ⟨Ao11,co11,eo11⟩:=Kd.V_slice HO1008.out;subst eo11
   go_wp2
   go_meet
   case rel=>exact ⟨_,(((t1006.length:Int) == 0)),(zz1),H',⟨zz11⟩,⟨(have h0_:=HO1005;zz31)⟩,⟨(have h0_:=HO1008;zz31)⟩,⟨zz10⟩⟩
 case rest =>
  clear HC5;(try clear c1);obtain ⟨kq,x24_4,rfl,HA,HJ4,HO_5,HO_6,HB⟩:=hcut
  cases kq with
  | zero=>exact absurd HA.out (by simp [U32.j0])
  | succ kj4 =>
   have H:=HA.out;clear HA;simp only [U32.j0] at H;by_cases c12:x24_4 = true
   ·subst c12;have H1:(some ([]:List Int)) = some r:=zz3;clear H;have H:=H1;clear H1;obtain rfl:=Option.some.inj H
    go_wp2
    go_ret
    exact ⟨_,zz14,(Kd.V_nil _ _ _ _ _),zz10⟩
   ·replace c12:=Bool.eq_false_iff.mpr c12;subst c12;have H1:(if 0≤(wrap64 ((t1003.length:Int)+(t1006.length:Int))) then (if (wrap64 ((t1003.length:Int)+(t1006.length:Int)):Int).toNat≤70368744177664 then (U32.l0 kj4 t1006 (List.replicate (wrap64 ((t1003.length:Int)+(t1006.length:Int)):Int).toNat 0) t1003 (t1003.length:Int) 0) else (none)) else (none)) = some r:=zz7;clear H;have H:=H1;clear H1;obtain ⟨ji13,hji13⟩:∃ j_:Int,(wrap64 ((t1003.length:Int)+(t1006.length:Int))) = j_:=⟨_,rfl⟩;replace H:(if 0≤(ji13) then (if (ji13:Int).toNat≤70368744177664 then (U32.l0 kj4 t1006 (List.replicate (ji13:Int).toNat 0) t1003 (t1003.length:Int) 0) else (none)) else (none)) = some r:=(have h0_:=hji13;zz19);have hji13w:(IntKind.i64.wrap ((t1003.length:Int)+(t1006.length:Int))) = ji13:=(yL _).trans hji13;replace H:=zzi H;obtain ⟨c14,H⟩:=H;have c14b0:=eq_true c14;have c14b1:=decide_eq_true c14;clear c14;replace H:=zzi H;obtain ⟨c15,H⟩:=H;have c15b0:=eq_true c15;have c15b1:=decide_eq_true c15;clear c15;obtain ⟨y1009,hy1009⟩:∃ y_:List Int,y_ = (List.replicate (ji13:Int).toNat 0):=⟨_,rfl⟩;replace H:(U32.l0 kj4 t1006 y1009 t1003 (t1003.length:Int) 0) = some r:=(have h0_:=hy1009;zz16);have Ny1009:=wA.mk hy1009;clear hy1009;have H':=wA.mk H;clear H;obtain ⟨Ao16,co16,eo16⟩:=Kd.V_slice HO_5.out;subst eo16;obtain ⟨Ao17,co17,eo17⟩:=Kd.V_slice HO_6.out;subst eo17
    go_wp2_with (first|((with_reducible refine wK (N:=30) rfl ?_);(try (refine wT (zz9) ?_;dsimp only));refine Kd.R_make (Kd.int .u32) _ 52 rfl (N:=30) rfl 45 _ _ rfl ji13 rfl rfl Tryd.underlying45 (.int .u32 0) 4 info52 rfl (zz17) (zz15) 0 (ok:=fun _=>True) (okp:=fun _=>True) rfl (fun _ hk=>hk) trivial (of_decide_eq_true (zz4)) (Nat.le_trans (Nat.mul_le_mul_right _ (of_decide_eq_true (zz4):ji13.toNat≤70368744177664)) (zz15)) (Below.refl _ _) (Nat.le_refl _) ?_;intro v1010 w18 ho19 hb hg_ hnew_;clear hg_ hnew_;(first|rw [← Ny1009.out] at ho19|(simp only [Int.reduceToNat] at ho19;rw [← Ny1009.out] at ho19));replace HO_5:=wA.mk (Kd.V_elder' (have h0_:=HO_5;zz31) (Kd.R_base ho19) hb);replace HO_6:=wA.mk (Kd.V_elder' (zz35) (Kd.R_base ho19) hb);have HO1011:=wA.mk (Kd.R_lower (Kd.R_newM (M:=fun k_=>(w.heap.size≤k_)) ho19 (wB (zz10)) (fun k_ h_=>h_)) (wB (zz10)));replace HB:=wA.mk (wG (zz10) hb);clear hb ho19))
    go_loopg [33] kj4 (fun kq v33 w'=>∃ (x7_2:List Int) (x33_2:Int),v33 = .int .i64 x33_2∧wA (U32.l0 kq t1006 x7_2 t1003 (t1003.length:Int) x33_2 = some r)∧wA (kq≤kj4)∧wA (Kd.V (Kd.int .u32) 52 w' w.heap.size (fun k_=>((P0_ k_∨P1_ k_)∨w.heap.size≤k_)∧some k_ ≠ (v1010:Value).ownBlock) (.slice Ao17 t1006.length co17) t1006)∧wA (Kd.R (Kd.int .u32) 52 w' w.heap.size (fun k_=>(w.heap.size≤k_)) v1010 x7_2)∧wA (Kd.V (Kd.int .u32) 52 w' w.heap.size (fun k_=>((P0_ k_∨P1_ k_)∨w.heap.size≤k_)∧some k_ ≠ (v1010:Value).ownBlock) (.slice Ao16 t1003.length co16) t1003)∧wA (Below w.heap.size w w'))
    case atStart=>exact ⟨(y1009),(0),(zz1),H',⟨Nat.le_refl _⟩,⟨zz35⟩,⟨(have h0_:=HO1011;zz37)⟩,⟨(have h0_:=HO_5;zz31)⟩,⟨zz10⟩⟩
    case round =>
     clear H'
     (try clear c12);clear c14b0 c14b1 c15b0 c15b1
     obtain ⟨x7_2,x33_2,rfl,HA,HK2,HO_6,HO_7,HO_31,HB⟩:=hrel
     cases gk with
     | zero=>exact absurd HA.out (by simp [U32.l0])
     | succ k2 =>
      have H:=HA.out;clear HA;simp only [U32.l0] at H;replace H:=zzj H;rcases H with ⟨c20,H⟩|⟨c20,H⟩
      ·have c20b0:=decide_eq_true c20;clear c20;replace H:=zzi H;obtain ⟨c21,H⟩:=H;have c21b0:=decide_eq_true c21;clear c21;replace H:=zzi H;obtain ⟨c22,H⟩:=H;have c22b0:=decide_eq_true c22;clear c22;have H':=wA.mk H;clear H;have p1015:0≤(x33_2:Int):=of_decide_eq_true (zz4);have q1015:x33_2 < (t1003.length:Int):=of_decide_eq_true (zz4);obtain ⟨ad1015,e1015,hx1015_0⟩:=Kd.at_int (Kd.V_reads' HO_31.out).2.2 x33_2 p1015 q1015
       cases e1015
       replace p1015:=eq_true p1015;replace q1015:=eq_true q1015
       go_wp2
       go_loopg [10,40] k2 (fun kq v10 v40 w'=>∃ (x7_3:List Int) (x10_3:Int) (x40_3:Int),v10 = .int .u64 x10_3∧v40 = .int .i64 x40_3∧wA (U32.l1 kq t1006 x7_3 x33_2 (rd t1003 x33_2) x10_3 t1003 (t1003.length:Int) x33_2 t1006 (t1006.length:Int) x40_3 = some r)∧wA (kq≤k2)∧wA (Kd.V (Kd.int .u32) 52 w' w.heap.size (fun k_=>((P0_ k_∨P1_ k_)∨w.heap.size≤k_)∧some k_ ≠ (v1010:Value).ownBlock) (.slice Ao17 t1006.length co17) t1006)∧wA (Kd.R (Kd.int .u32) 52 w' w.heap.size (fun k_=>(w.heap.size≤k_)) v1010 x7_3)∧wA (Kd.V (Kd.int .u32) 52 w' w.heap.size (fun k_=>((P0_ k_∨P1_ k_)∨w.heap.size≤k_)∧some k_ ≠ (v1010:Value).ownBlock) (.slice (some ad1015) t1003.length co16) t1003)∧wA (Kd.V (Kd.int .u32) 52 w' w.heap.size (fun k_=>((P0_ k_∨P1_ k_)∨w.heap.size≤k_)∧some k_ ≠ (v1010:Value).ownBlock) (.slice Ao17 t1006.length co17) t1006)∧wA (Below w.heap.size w w'))
       case atStart=>exact ⟨(x7_2),(0),(0),(zz1),(zz1),H',⟨Nat.le_refl _⟩,⟨zz35⟩,⟨zz63⟩,⟨(have h0_:=HO_31;zz31)⟩,⟨zz35⟩,⟨zz10⟩⟩
       case round =>
        clear H'
        clear c20b0 c21b0 c22b0 p1015 q1015;(try clear hx1015_0)
        obtain ⟨x7_3,x10_3,x40_3,rfl,rfl,HA,HK3,HO_6,HO_7,HO_31,HO_38,HB⟩:=hrel
        cases gk with
        | zero=>exact absurd HA.out (by simp [U32.l1])
        | succ k3 =>
         have H:=HA.out;clear HA;simp only [U32.l1] at H;replace H:=zzj H;rcases H with ⟨c23,H⟩|⟨c23,H⟩
         ·have c23b0:=decide_eq_true c23;clear c23;replace H:=zzi H;obtain ⟨c24,H⟩:=H;have c24b0:=decide_eq_true c24;clear c24;replace H:=zzi H;obtain ⟨c25,H⟩:=H;have c25b0:=decide_eq_true c25;clear c25;obtain ⟨ji26,hji26⟩:∃ j_:Int,(wrap64 (x33_2+x40_3)) = j_:=⟨_,rfl⟩;replace H:(if 0≤(ji26) then (if (ji26) < (x7_3.length:Int) then (U32.l1 k3 t1006 (x7_3.set ((ji26):Int).toNat ((Go.bits .and .u64 (IntKind.u64.wrap (x10_3+(IntKind.u64.wrap ((IntKind.u64.wrap ((IntKind.u64.wrap ((rd t1003 x33_2))) * (IntKind.u64.wrap (rd t1006 x40_3))))+(IntKind.u64.wrap (rd x7_3 (ji26))))))) 4294967295) % 4294967296)) x33_2 (rd t1003 x33_2) ((IntKind.u64.wrap (x10_3+(IntKind.u64.wrap ((IntKind.u64.wrap ((IntKind.u64.wrap ((rd t1003 x33_2))) * (IntKind.u64.wrap (rd t1006 x40_3))))+(IntKind.u64.wrap (rd x7_3 (ji26))))))) / 4294967296) t1003 (t1003.length:Int) x33_2 t1006 (t1006.length:Int) (wrap64 (x40_3+1))) else (none)) else (none)) = some r:=(have h0_:=hji26;zz19);have hji26w:(IntKind.i64.wrap (x33_2+x40_3)) = ji26:=(yL _).trans hji26;replace H:=zzi H;obtain ⟨c27,H⟩:=H;have c27b0:=decide_eq_true c27;clear c27;replace H:=zzi H;obtain ⟨c28,H⟩:=H;have c28b0:=decide_eq_true c28;clear c28;obtain ⟨y1018,hy1018⟩:∃ y_:List Int,y_ = (x7_3.set ((ji26):Int).toNat ((Go.bits .and .u64 (IntKind.u64.wrap (x10_3+(IntKind.u64.wrap ((IntKind.u64.wrap ((IntKind.u64.wrap ((rd t1003 x33_2))) * (IntKind.u64.wrap (rd t1006 x40_3))))+(IntKind.u64.wrap (rd x7_3 (ji26))))))) 4294967295) % 4294967296)):=⟨_,rfl⟩;replace H:(U32.l1 k3 t1006 y1018 x33_2 (rd t1003 x33_2) ((IntKind.u64.wrap (x10_3+(IntKind.u64.wrap ((IntKind.u64.wrap ((IntKind.u64.wrap ((rd t1003 x33_2))) * (IntKind.u64.wrap (rd t1006 x40_3))))+(IntKind.u64.wrap (rd x7_3 (ji26))))))) / 4294967296) t1003 (t1003.length:Int) x33_2 t1006 (t1006.length:Int) (wrap64 (x40_3+1))) = some r:=(have h0_:=hy1018;zz16);have Ny1018:=wA.mk hy1018;clear hy1018;have H':=wA.mk H;clear H;have p1016:0≤(x40_3:Int):=of_decide_eq_true (zz4);have q1016:x40_3 < (t1006.length:Int):=of_decide_eq_true (zz4);obtain ⟨ad1016,e1016,hx1016_0⟩:=Kd.at_int (Kd.V_reads' HO_38.out).2.2 x40_3 p1016 q1016
          cases e1016
          replace p1016:=eq_true p1016;replace q1016:=eq_true q1016;obtain ⟨Ao30,co30,eo30⟩:=Kd.R_slice HO_7.out;subst eo30;have p1017:0≤((ji26):Int):=of_decide_eq_true (zz4);have q1017:(ji26) < (x7_3.length:Int):=of_decide_eq_true (zz4);obtain ⟨ad1017,e1017,hx1017_0⟩:=Kd.at_int (Kd.R_reads' HO_7.out).2.2 (ji26) p1017 q1017
          cases e1017
          replace p1017:=eq_true p1017;replace q1017:=eq_true q1017;have p29:0≤((ji26):Int):=of_decide_eq_true (zz4);have q29:((ji26):Int) < ((x7_3.length:Int):Int):=of_decide_eq_true (zz4);obtain ⟨go29,co29,eo29,gb29,gl29,cl29,HG29⟩:=Kd.R_form HO_7.out (zz15)
          (first|cases eo29|(injection eo29 with ea_ en_ ec_;(first|subst ea_|(injection ea_ with ea_;subst ea_));subst ec_;clear en_))
          have GB29:=wA.mk gb29;have GG29:=wA.mk HG29;clear gb29 gl29 HG29
          (first|simp only [vE] at hx1017_0|skip)
          obtain ⟨hx29_0,hf29_0⟩:=Kd.R_celln 0 HO_7.out ((ji26):Int) p29 q29;replace p29:=eq_true p29;replace q29:=eq_true q29;obtain ⟨hy31_,hz31_⟩:=Kd.R_celln 0 HO_7.out ((ji26):Int) (of_decide_eq_true (zz4)) (of_decide_eq_true (zz4));have HP31:=Kd.R_putg HO_7.out ((ji26):Int) ((Go.bits .and .u64 (IntKind.u64.wrap (x10_3+(IntKind.u64.wrap ((IntKind.u64.wrap ((IntKind.u64.wrap ((rd t1003 x33_2))) * (IntKind.u64.wrap (rd t1006 x40_3))))+(IntKind.u64.wrap (rd x7_3 (ji26))))))) 4294967295) % 4294967296)
          go_wp2_with (first|((with_reducible refine yI (t:=52) (p:=67) rfl ?_);refine yC (t:=52) (p:=67) (v:=?vo_w32) (w1:=(wr.setCell ⟨go29,((ji26):Int).toNat,none⟩ (.int .u32 ((Go.bits .and .u64 (IntKind.u64.wrap (x10_3+(IntKind.u64.wrap ((IntKind.u64.wrap ((IntKind.u64.wrap ((rd t1003 x33_2))) * (IntKind.u64.wrap (rd t1006 x40_3))))+(IntKind.u64.wrap (rd x7_3 (ji26))))))) 4294967295) % 4294967296)))) ?hg ?ho ?hn ?hr ?_;(case ho=>rfl);(case hg=>rfl);(case hn=>rfl);(case hr=>exact zz205);intro w32 hw;have hg:wr.grownBy w32 (some go29):=(by rw [hw];exact HP31.2);have hp_:Kd.R (Kd.int .u32) 52 w32 w.heap.size (fun k_=>(w.heap.size≤k_)) (.slice (some ⟨go29,0,none⟩) x7_3.length co30) y1018:=(by rw [hw,Ny1018.out];exact HP31.1);clear HP31;replace HO_6:=wA.mk (Kd.V_afterv (v:=(.slice (some ⟨go29,0,none⟩) x7_3.length co30)) (v1:=(.slice (some ⟨go29,0,none⟩) x7_3.length co30)) (ok:=(fun k_=>((P0_ k_∨P1_ k_)∨w.heap.size≤k_))) (zz35) hg (.inl rfl));replace HO_7:=wA.mk (hp_);replace HO_31:=wA.mk (Kd.V_afterv (v:=(.slice (some ⟨go29,0,none⟩) x7_3.length co30)) (v1:=(.slice (some ⟨go29,0,none⟩) x7_3.length co30)) (ok:=(fun k_=>((P0_ k_∨P1_ k_)∨w.heap.size≤k_))) (have h0_:=HO_31;zz31) hg (.inl rfl));replace HO_38:=wA.mk (Kd.V_afterv (v:=(.slice (some ⟨go29,0,none⟩) x7_3.length co30)) (v1:=(.slice (some ⟨go29,0,none⟩) x7_3.length co30)) (ok:=(fun k_=>((P0_ k_∨P1_ k_)∨w.heap.size≤k_))) (have h0_:=HO_38;zz31) hg (.inl rfl));replace HB:=wA.mk ((by rw [hw];exact wL (HB.out) GB29.out:Below w.heap.size w w32));clear hg hw hp_))
          go_roundg k3
          case measure=>have:=HJ4.out;have:=HK2.out;have:=HK3.out;omega
          case rel=>exact ⟨(y1018),((IntKind.u64.wrap (x10_3+(IntKind.u64.wrap ((IntKind.u64.wrap ((IntKind.u64.wrap ((rd t1003 x33_2))) * (IntKind.u64.wrap (rd t1006 x40_3))))+(IntKind.u64.wrap (rd x7_3 (ji26))))))) / 4294967296),(wrap64 (x40_3+1)),(have h0_:=hji26;zz30),(zz1),H',⟨by have:=HJ4.out;have:=HK2.out;have:=HK3.out;omega⟩,⟨zz35⟩,⟨zz63⟩,⟨(have h0_:=HO_31;zz31)⟩,⟨(have h0_:=HO_38;zz31)⟩,⟨zz10⟩⟩
         ·have c23b0:=decide_eq_false c23;clear c23;obtain ⟨ji33,hji33⟩:∃ j_:Int,(wrap64 (x33_2+(t1006.length:Int))) = j_:=⟨_,rfl⟩;replace H:(if 0≤(ji33) then (if (ji33) < (x7_3.length:Int) then (U32.l0 k3 t1006 (x7_3.set ((ji33):Int).toNat ((x10_3) % 4294967296)) t1003 (t1003.length:Int) (wrap64 (x33_2+1))) else (none)) else (none)) = some r:=(have h0_:=hji33;zz19);have hji33w:(IntKind.i64.wrap (x33_2+(t1006.length:Int))) = ji33:=(yL _).trans hji33;replace H:=zzi H;obtain ⟨c34,H⟩:=H;have c34b0:=decide_eq_true c34;clear c34;replace H:=zzi H;obtain ⟨c35,H⟩:=H;have c35b0:=decide_eq_true c35;clear c35;obtain ⟨y1019,hy1019⟩:∃ y_:List Int,y_ = (x7_3.set ((ji33):Int).toNat ((x10_3) % 4294967296)):=⟨_,rfl⟩;replace H:(U32.l0 k3 t1006 y1019 t1003 (t1003.length:Int) (wrap64 (x33_2+1))) = some r:=(have h0_:=hy1019;zz16);have Ny1019:=wA.mk hy1019;clear hy1019;have H':=wA.mk H;clear H;have p36:0≤((ji33):Int):=of_decide_eq_true (zz4);have q36:((ji33):Int) < ((x7_3.length:Int):Int):=of_decide_eq_true (zz4);obtain ⟨go36,co36,eo36,gb36,gl36,cl36,HG36⟩:=Kd.R_form HO_7.out (zz15)
          (first|cases eo36|(injection eo36 with ea_ en_ ec_;(first|subst ea_|(injection ea_ with ea_;subst ea_));subst ec_;clear en_))
          have GB36:=wA.mk gb36;have GG36:=wA.mk HG36;clear gb36 gl36 HG36;obtain ⟨hx36_0,hf36_0⟩:=Kd.R_celln 0 HO_7.out ((ji33):Int) p36 q36;replace p36:=eq_true p36;replace q36:=eq_true q36;obtain ⟨hy37_,hz37_⟩:=Kd.R_celln 0 HO_7.out ((ji33):Int) (of_decide_eq_true (zz4)) (of_decide_eq_true (zz4));have HP37:=Kd.R_putg HO_7.out ((ji33):Int) ((x10_3) % 4294967296)
          go_wp2_with (first|((with_reducible refine yI (t:=52) (p:=78) rfl ?_);refine yC (t:=52) (p:=78) (v:=?vo_w38) (w1:=(wr.setCell ⟨go36,((ji33):Int).toNat,none⟩ (.int .u32 ((x10_3) % 4294967296)))) ?hg ?ho ?hn ?hr ?_;(case ho=>rfl);(case hg=>rfl);(case hn=>rfl);(case hr=>exact zz205);intro w38 hw;have hg:wr.grownBy w38 (some go36):=(by rw [hw];exact HP37.2);have hp_:Kd.R (Kd.int .u32) 52 w38 w.heap.size (fun k_=>(w.heap.size≤k_)) (.slice (some ⟨go36,0,none⟩) x7_3.length co36) y1019:=(by rw [hw,Ny1019.out];exact HP37.1);clear HP37;replace HO_6:=wA.mk (Kd.V_afterv (v:=(.slice (some ⟨go36,0,none⟩) x7_3.length co36)) (v1:=(.slice (some ⟨go36,0,none⟩) x7_3.length co36)) (ok:=(fun k_=>((P0_ k_∨P1_ k_)∨w.heap.size≤k_))) (zz35) hg (.inl rfl));replace HO_7:=wA.mk (hp_);replace HO_31:=wA.mk (Kd.V_afterv (v:=(.slice (some ⟨go36,0,none⟩) x7_3.length co36)) (v1:=(.slice (some ⟨go36,0,none⟩) x7_3.length co36)) (ok:=(fun k_=>((P0_ k_∨P1_ k_)∨w.heap.size≤k_))) (have h0_:=HO_31;zz31) hg (.inl rfl));replace HO_38:=wA.mk (Kd.V_afterv (v:=(.slice (some ⟨go36,0,none⟩) x7_3.length co36)) (v1:=(.slice (some ⟨go36,0,none⟩) x7_3.length co36)) (ok:=(fun k_=>((P0_ k_∨P1_ k_)∨w.heap.size≤k_))) (have h0_:=HO_38;zz31) hg (.inl rfl));replace HB:=wA.mk ((by rw [hw];exact wL (HB.out) GB36.out:Below w.heap.size w w38));clear hg hw hp_))
          go_roundg k3
          case measure=>have:=HJ4.out;have:=HK2.out;have:=HK3.out;omega
          case rel=>exact ⟨(y1019),(wrap64 (x33_2+1)),(zz1),H',⟨by have:=HJ4.out;have:=HK2.out;have:=HK3.out;omega⟩,⟨zz35⟩,⟨zz63⟩,⟨(have h0_:=HO_31;zz31)⟩,⟨zz10⟩⟩
      ·have c20b0:=decide_eq_false c20;clear c20;replace H:=zzb H;obtain ⟨t1012,A39,H⟩:=H;obtain rfl:=Option.some.inj H;obtain ⟨Ao40,co40,eo40⟩:=Kd.R_slice HO_7.out;subst eo40
       go_wp2_with (first|((with_reducible refine wH (f:=88) rfl ?_);refine wO (some 81) rfl rfl Tryd.func88 (zz0) rfl #[.slice Ao40 x7_2.length co40] rfl (zz5) ?_;(with_reducible refine (U37.calls k2 (fun k_=>some k_ = (.slice Ao40 x7_2.length co40:Value).ownBlock) _ _ x7_2 t1012 _ ?_ A39.out).mono ?_);exact Kd.R_V (Kd.R_tight rfl (HO_7.out));rintro e w41 ⟨v1013,rfl,ho0,hb⟩;refine ⟨_,rfl,?_⟩;replace HO_6:=wA.mk (Kd.V_below (zz35) hb);replace HO_31:=wA.mk (Kd.V_below (have h0_:=HO_31;zz31) hb);have HO1014:=wA.mk (Kd.V_lower (Kd.V_mono (ok':=fun k_=>((P0_ k_∨P1_ k_)∨w.heap.size≤k_)) ho0 (fun k_ hk_=>Or.elim hk_ (fun hs_=>(.inr (((HO_7.out).1 k_ hs_.symm)))) (fun hn_=>(.inr (Nat.le_trans (wB (zz10)) hn_))))) (wB (zz10)));replace HO_7:=wA.mk (Kd.R_below (zz63) hb);replace HB:=wA.mk (wG (zz10) hb);(try clear hb);(try clear ho0)))
       go_ret
       exact ⟨_,(have h0_:=hji13;zz32),(have h0_:=HO1014;zz31),zz10⟩
def U10.f (k:Nat) (a0_0:Bool) (l0_1:List Int) (a1_0:Bool) (l1_1:List Int):Option (Bool × List Int):=(U32.f k l0_1 l1_1).bind fun t1023=>((U9.f k (a0_0 != a1_0) t1023).bind fun bt1026=>(some (bt1026.1,bt1026.2)))
theorem zm14_3 {P:Prop} (h:P:=by repeat' first|(with_reducible first|exact U9.mono ..|exact U32.mono ..|exact LeO.refl _|exact LeO.none _|refine LeO.ite ?_ ?_|refine LeO.bind ?_ (fun _=>?_))|exact U9.mono ..|exact U32.mono ..|exact LeO.none _|refine LeO.ite ?_ ?_|refine LeO.bind ?_ (fun _=>?_)):P:=h
theorem U10.mono:∀ a0 a1 a2 a3 k,LeO (U10.f k a0 a1 a2 a3) (U10.f (k+1) a0 a1 a2 a3):=by
 intro a0 a1 a2 a3 k;unfold U10.f
 exact zm14_3
def U10.T1:Bool × List (List Nat × List Nat):=(true,[([],[]),([0],[0]),([],[]),([2],[2]),([1,3],[1,3]),([],[]),([5],[5]),([],[]),([7],[7]),([6,8],[6,8]),([4,9,9],[4,9]),([10,10,0,1,2,3,4,5,6,7,8,9,10],[10])])
def U10.B1:List Nat:=[0,1,0,4,15,0,32,0,128,480,1023,2047]
theorem U10.tab1:yX .any (vD Tryd.f62 1) = U10.T1:=zz0
theorem U10.bits1:yQ U10.T1.2 U10.B1 = true:=zz0
set_option maxHeartbeats 8000000 in
set_option maxRecDepth 100000 in
theorem U10.calls (k:Nat) (a0_0:Bool) (A0_1:Option Addr) (c0_1:Nat) (l0_1:List Int) (a1_0:Bool) (A1_1:Option Addr) (c1_1:Nat) (l1_1:List Int) (r1:Bool) (r2:List Int) (w:World) (hr0_1:Kd.C (Kd.int .u32) w A0_1 l0_1.length l0_1) (hc0_1:l0_1.length≤c0_1) (hr1_1:Kd.C (Kd.int .u32) w A1_1 l1_1.length l1_1) (hc1_1:l1_1.length≤c1_1) (h:U10.f k a0_0 l0_1 a1_0 l1_1 = some (r1,r2)) :
  Calls Tryd.prog 62 #[.agg #[.bool a0_0,.slice A0_1 l0_1.length c0_1],.agg #[.bool a1_0,.slice A1_1 l1_1.length c1_1]] w fun e w'=>∃ v1_:Value,e = .returned (.agg #[.bool r1,v1_])∧Kd.R (Kd.int .u32) 52 w' w.heap.size (fun _=>True) v1_ r2∧Below w.heap.size w w':=by
 have hu47:=Tryd.underlying47;have HR0_1:=wA.mk hr0_1;have HC0_1:=wA.mk hc0_1;clear hr0_1 hc0_1;have HR1_1:=wA.mk hr1_1;have HC1_1:=wA.mk hc1_1;clear hr1_1 hc1_1;have HB:=wA.mk (Below.refl w.heap.size w);have H:((U32.f k l0_1 l1_1).bind fun t1023=>((U9.f k (a0_0 != a1_0) t1023).bind fun bt1026=>(some (bt1026.1,bt1026.2)))) = some (r1,r2):=h;clear h;replace H:=zzb H;obtain ⟨t1023,A3,H⟩:=H;replace H:=Option.bind_eq_some_iff.mp H;obtain ⟨⟨t1026,t1027⟩,A40,H⟩:=H;have A4:=wA.mk A40;clear A40;simp only [Option.some.injEq,Prod.mk.injEq] at H;obtain ⟨rfl,rfl⟩:=H;go_enter Tryd.func62,Tryd.ntmps62
 try go_wp2_with (first|((with_reducible refine wK (N:=2) rfl ?_);refine wM ?hg (N:=2) ?hd (cs:=#[.bool a0_0,.slice A0_1 l0_1.length c0_1]) (t:=47) ?hr ?_;(case hd=>rfl);(case hg=>rfl);(case hr=>exact zz205);intro gb1020 hg w5 hbox hb;have BK1020:=wA.mk (hbox);have GW1020:=wA.mk ((by rw [hg];exact (wB (zz10)):w.heap.size≤gb1020));have GE1020:=wA.mk ((by rw [hg];exact (wB (zz10)):w.heap.size≤gb1020));replace HB:=wA.mk (wG (zz10) hb);clear hb hbox hg)|((with_reducible refine wK (N:=3) rfl ?_);refine wM ?hg (N:=3) ?hd (cs:=#[.bool a1_0,.slice A1_1 l1_1.length c1_1]) (t:=47) ?hr ?_;(case hd=>rfl);(case hg=>rfl);(case hr=>exact zz205);intro gb1021 hg w6 hbox hb;have BK1021:=wA.mk (hbox);have GW1021:=wA.mk ((by rw [hg];exact (wB (have h0_:=GE1020;zz13)):w.heap.size≤gb1021));have GE1021:=wA.mk ((by rw [hg];exact (wB (have h0_:=GE1020;zz13)):w.heap.size≤gb1021));replace HB:=wA.mk (wG (have h0_:=GE1020;zz13) hb);have NB1020_1021:=wA.mk ((by rw [hg];exact Nat.ne_of_lt (wJ (g:=gb1020) (o:=.cells #[.bool a0_0,.slice A0_1 l0_1.length c0_1] 47 (0,0)) (have h0_:=BK1020;zz12)):gb1020 ≠ gb1021));have NB1021_1020:=wA.mk ((by rw [hg];exact Nat.ne_of_gt (wJ (g:=gb1020) (o:=.cells #[.bool a0_0,.slice A0_1 l0_1.length c0_1] 47 (0,0)) (have h0_:=BK1020;zz12)):gb1021 ≠ gb1020));replace BK1020:=wA.mk (wC (have h0_:=BK1020;zz12) hb);clear hb hbox hg)|((with_reducible refine wK (N:=4) rfl ?_);refine wM ?hg (N:=4) ?hd (cs:=#[.bool false,.slice none 0 0]) (t:=47) ?hr ?_;(case hd=>rfl);(case hg=>rfl);(case hr=>exact zz205);intro gb1022 hg w7 hbox hb;have BK1022:=wA.mk (hbox);have GW1022:=wA.mk ((by rw [hg];exact (wB (have h0_:=GE1020;have h1_:=GE1021;zz51)):w.heap.size≤gb1022));have GE1022:=wA.mk ((by rw [hg];exact (wB (have h0_:=GE1020;have h1_:=GE1021;zz51)):w.heap.size≤gb1022));replace HB:=wA.mk (wG (have h0_:=GE1020;have h1_:=GE1021;zz51) hb);have NB1020_1022:=wA.mk ((by rw [hg];exact Nat.ne_of_lt (wJ (g:=gb1020) (o:=.cells #[.bool a0_0,.slice A0_1 l0_1.length c0_1] 47 (0,0)) (have h0_:=BK1020;zz12)):gb1020 ≠ gb1022));have NB1022_1020:=wA.mk ((by rw [hg];exact Nat.ne_of_gt (wJ (g:=gb1020) (o:=.cells #[.bool a0_0,.slice A0_1 l0_1.length c0_1] 47 (0,0)) (have h0_:=BK1020;zz12)):gb1022 ≠ gb1020));replace BK1020:=wA.mk (wC (have h0_:=BK1020;zz12) hb);have NB1021_1022:=wA.mk ((by rw [hg];exact Nat.ne_of_lt (wJ (g:=gb1021) (o:=.cells #[.bool a1_0,.slice A1_1 l1_1.length c1_1] 47 (0,0)) (have h0_:=BK1021;zz12)):gb1021 ≠ gb1022));have NB1022_1021:=wA.mk ((by rw [hg];exact Nat.ne_of_gt (wJ (g:=gb1021) (o:=.cells #[.bool a1_0,.slice A1_1 l1_1.length c1_1] 47 (0,0)) (have h0_:=BK1021;zz12)):gb1022 ≠ gb1021));replace BK1021:=wA.mk (wC (have h0_:=BK1021;zz12) hb);clear hb hbox hg))
 replace BK1020:=wA.mk (wF BK1020.out);replace BK1021:=wA.mk (wF BK1021.out);replace BK1022:=wA.mk (wF BK1022.out);replace HB:=wA.mk (wR HB.out);refine zC (n:=12) (S:=fun w'=>w'.cell? ⟨gb1020,0,none⟩ = some (.bool a0_0)∧w'.cell? ⟨gb1020,1,none⟩ = some (.slice A0_1 l0_1.length c0_1)∧w'.cell? ⟨gb1021,0,none⟩ = some (.bool a1_0)∧w'.cell? ⟨gb1021,1,none⟩ = some (.slice A1_1 l1_1.length c1_1)) (ds:=[]) #[false,false,false,false,false,false,false,false,false,false,false,false] (zz0) rfl rfl ⟨(wI BK1020.out 0).trans rfl,(wI BK1020.out 1).trans rfl,(wI BK1021.out 0).trans rfl,(wI BK1021.out 1).trans rfl⟩ (fun hHeld=>?_);refine yS U10.tab1 U10.bits1 (fun HT_ HW_=>?_)
 generalize w7.drew = w8 at BK1020 BK1021 BK1022 HB hHeld ⊢
 refine zzp 0 5 ?_ #[true,false,false,false,false,false,false,false,false,false,false,false] rfl rfl (wU HT_.out (zz0)) (fun _ _ _ h=>h) (Or.inl ⟨zz9,?_⟩) ?_ ?_ ?_;rotate_left
 ·intro w'
  go_simp
  with_reducible rfl
 rotate_left
 ·simp only [zzs]
  rfl
 refine zzp 2 7 ?_ #[true,false,true,false,false,false,false,false,false,false,false,false] rfl rfl (wU HT_.out (zz0)) (fun _ _ _ h=>h) (Or.inl ⟨zz9,?_⟩) ?_ ?_ ?_;rotate_left
 ·intro w'
  go_simp
  with_reducible rfl
 rotate_left
 ·simp only [zzs]
  rfl
 refine zzp 5 10 ?_ #[true,false,true,false,false,true,false,false,false,false,false,false] rfl rfl (wU HT_.out (zz0)) (fun _ _ _ h=>h) (Or.inl ⟨zz9,?_⟩) ?_ ?_ ?_;rotate_left
 ·intro w'
  go_simp
  with_reducible rfl
 rotate_left
 ·simp only [zzs]
  rfl
 refine zzp 7 12 ?_ #[true,false,true,false,false,true,false,true,false,false,false,false] rfl rfl (wU HT_.out (zz0)) (fun _ _ _ h=>h) (Or.inl ⟨zz9,?_⟩) ?_ ?_ ?_;rotate_left
 ·intro w'
  go_simp
  with_reducible rfl
 rotate_left
 ·simp only [zzs]
  rfl
 refine take_ (i:=1) (N:=some 6) (v:=?_) (a':=?_) #[true,true,true,false,false,true,false,true,false,false,false,false] rfl rfl (wY HT_.out HW_.out (zz0)) (fun _ _ _ h=>h) (Or.inl ⟨zz9,?_⟩) hHeld ?_ ?_;rotate_left
 ·rintro w' ⟨s0,s1,s2,s3⟩
  go_simp
  with_reducible rfl
 rotate_left
 ·simp only [zzs]
  rfl
 refine take_ (i:=3) (N:=some 8) (v:=?_) (a':=?_) #[true,true,true,true,false,true,false,true,false,false,false,false] rfl rfl (wY HT_.out HW_.out (zz0)) (fun _ _ _ h=>h) (Or.inl ⟨zz9,?_⟩) hHeld ?_ ?_;rotate_left
 ·rintro w' ⟨s0,s1,s2,s3⟩
  go_simp
  with_reducible rfl
 rotate_left
 ·simp only [zzs]
  rfl
 refine zzp 4 9 ?_ #[true,true,true,true,true,true,false,true,false,false,false,false] rfl rfl (wU HT_.out (zz0)) (fun _ _ _ h=>h) (Or.inl ⟨zz9,?_⟩) ?_ ?_ ?_;rotate_left
 ·intro w'
  go_simp
  with_reducible rfl
 rotate_left
 ·simp only [zzs]
  rfl
 refine take_ (i:=6) (N:=some 11) (v:=?_) (a':=?_) #[true,true,true,true,true,true,true,true,false,false,false,false] rfl rfl (wY HT_.out HW_.out (zz0)) (fun _ _ _ h=>h) (Or.inl ⟨zz9,?_⟩) hHeld ?_ ?_;rotate_left
 ·rintro w' ⟨s0,s1,s2,s3⟩
  go_simp
  with_reducible rfl
 rotate_left
 ·simp only [zzs]
  rfl
 refine take_ (i:=8) (N:=some 13) (v:=?_) (a':=?_) #[true,true,true,true,true,true,true,true,true,false,false,false] rfl rfl (wY HT_.out HW_.out (zz0)) (fun _ _ _ h=>h) (Or.inl ⟨zz9,?_⟩) hHeld ?_ ?_;rotate_left
 ·rintro w' ⟨s0,s1,s2,s3⟩
  go_simp
  with_reducible rfl
 rotate_left
 ·simp only [zzs]
  rfl
 refine yW (i:=9) (N:=some 14) #[true,true,true,true,true,true,true,true,true,true,false,false] rfl rfl (yD HT_.out (zz0)) (zz17) (fun K hK=>?_);refine yN Tryd.func63 (zz0) rfl #[.slice A0_1 l0_1.length c0_1,.slice A1_1 l1_1.length c1_1] (zz9) rfl rfl (zz5) ?_
 with_reducible refine (U32.calls k (fun k_=>k_ < w.heap.size) _ _ l0_1 (fun k_=>k_ < w.heap.size) _ _ l1_1 t1023 _ ?side1 ?side2 A3.out).mono ?_
 (case side1=>exact Kd.V_mk HC0_1.out (Kd.F_below (Kd.C_F (Kd.heap_int .u32) HR0_1.out) (zz144)))
 (case side2=>exact Kd.V_mk HC1_1.out (Kd.F_below (Kd.C_F (Kd.heap_int .u32) HR1_1.out) (zz144)))
 rintro e w9 ⟨v1024,rfl,ho0,hb⟩;refine ⟨_,rfl,?_⟩;have HO1025:=wA.mk (Kd.V_lower (Kd.V_mono (ok':=fun k_=>k_ ≠ gb1020∧k_ ≠ gb1021∧k_ ≠ gb1022) ho0 (fun k_ hk_=>⟨Or.elim hk_ (fun hs_=>Or.elim hs_ (fun hs_=>fun e_=>Nat.not_le.2 hs_ (have h0_:=GW1020;zz76)) (fun hs_=>fun e_=>Nat.not_le.2 hs_ (have h0_:=GW1020;zz76))) (fun hn_=>(Kd.freshB (g:=gb1020) (o:=.cells #[.bool a0_0,.slice A0_1 l0_1.length c0_1] 47 (0,0)) (have h0_:=BK1020;zz12) k_ hn_)),Or.elim hk_ (fun hs_=>Or.elim hs_ (fun hs_=>fun e_=>Nat.not_le.2 hs_ (have h0_:=GW1021;zz76)) (fun hs_=>fun e_=>Nat.not_le.2 hs_ (have h0_:=GW1021;zz76))) (fun hn_=>(Kd.freshB (g:=gb1021) (o:=.cells #[.bool a1_0,.slice A1_1 l1_1.length c1_1] 47 (0,0)) (have h0_:=BK1021;zz12) k_ hn_)),Or.elim hk_ (fun hs_=>Or.elim hs_ (fun hs_=>fun e_=>Nat.not_le.2 hs_ (have h0_:=GW1022;zz76)) (fun hs_=>fun e_=>Nat.not_le.2 hs_ (have h0_:=GW1022;zz76))) (fun hn_=>(Kd.freshB (g:=gb1022) (o:=.cells #[.bool false,.slice none 0 0] 47 (0,0)) (have h0_:=BK1022;zz12) k_ hn_))⟩)) (wB (zz144)));replace BK1020:=wA.mk (wC (have h0_:=BK1020;zz12) hb);replace BK1021:=wA.mk (wC (have h0_:=BK1021;zz12) hb);replace BK1022:=wA.mk (wC (have h0_:=BK1022;zz12) hb);replace HB:=wA.mk (wG (zz144) hb)
 (try clear hb)
 (try clear ho0)
 obtain ⟨Ao10,co10,eo10⟩:=Kd.V_slice HO1025.out
 (first|subst eo10|(injection eo10 with f1_ f2_ f3_;have f4_:=f1_.symm;have f5_:=f3_.symm;clear f1_ f2_ f3_;subst f4_;subst f5_))
 refine hK.out _ _ ⟨(wI BK1020.out 0).trans rfl,(wI BK1020.out 1).trans rfl,(wI BK1021.out 0).trans rfl,(wI BK1021.out 1).trans rfl⟩ (fun hHeld=>?_);clear hK K;refine yJ (a':=?_) ?_ ?_;rotate_left
 ·show Act.put _ (some 14) _ = _
  simp only [zzs]
  rfl
 refine yW (i:=10) (N:=some 15) #[true,true,true,true,true,true,true,true,true,true,true,false] rfl rfl (yD HT_.out (zz0)) (zz17) (fun K hK=>?_);refine yN Tryd.func85 (zz0) rfl #[.bool (a0_0 != a1_0),.slice Ao10 t1023.length co10] (zz9) rfl rfl (zz5) ?_
 with_reducible refine (U9.calls k (a0_0 != a1_0) _ _ t1023 t1026 t1027 _ ?side1 ?side2 A4.out).mono ?_
 (case side1=>exact (have h0_:=HO1025;zz214))
 (case side2=>exact (have h0_:=HO1025;zz215))
 rintro e w11 ⟨v1028,rfl,ho0,hb⟩;refine ⟨_,rfl,?_⟩;replace HO1025:=wA.mk (Kd.V_elder' (have h0_:=HO1025;zz31) (Kd.R_base ho0) hb);have HO1029:=wA.mk (Kd.R_lower ho0 (wB (zz144)));replace BK1020:=wA.mk (wC (have h0_:=BK1020;zz12) hb);replace BK1021:=wA.mk (wC (have h0_:=BK1021;zz12) hb);replace BK1022:=wA.mk (wC (have h0_:=BK1022;zz12) hb);replace HB:=wA.mk (wG (zz144) hb)
 (try clear hb)
 (try clear hb2)
 (try clear hk)
 (try clear hi)
 (try clear ho0)
 obtain ⟨Ao13,co13,eo13⟩:=Kd.R_slice HO1029.out
 (first|subst eo13|(injection eo13 with f1_ f2_ f3_;have f4_:=f1_.symm;have f5_:=f3_.symm;clear f1_ f2_ f3_;subst f4_;subst f5_))
 refine hK.out _ _ ⟨(wI BK1020.out 0).trans rfl,(wI BK1020.out 1).trans rfl,(wI BK1021.out 0).trans rfl,(wI BK1021.out 1).trans rfl⟩ (fun hHeld=>?_);clear hK K;refine yJ (a':=?_) ?_ ?_;rotate_left
 ·show Act.put _ (some 15) _ = _
  simp only [zzs]
  rfl
 refine yW (i:=11) (N:=none) #[true,true,true,true,true,true,true,true,true,true,true,true] rfl rfl (yD HT_.out (zz0)) (zz17) (fun K hK=>?_);have hs12:w11.cell? ⟨gb1022,0,none⟩ = some (.bool false):=(wI BK1022.out 0).trans rfl;have hfs12:=yU BK1022.out 0;have hns12_0:=NB1020_1022.out;have hns12_1:=NB1021_1022.out;have hms12_0:=NB1022_1020.out;have hms12_1:=NB1022_1021.out;have hs14:w11.cell? ⟨gb1022,1,none⟩ = some (.slice none 0 0):=(wI BK1022.out 1).trans rfl;have hfs14:=yU BK1022.out 1;have hns14_0:=NB1020_1022.out;have hns14_1:=NB1021_1022.out;have hms14_0:=NB1022_1020.out;have hms14_1:=NB1022_1021.out;refine qO (w1:=?_) (zz9) rfl ?_ ?_;rotate_left
 ·go_simp
  rfl
 refine hK.out _ _ ⟨((wW (p:=⟨gb1022,_,none⟩) NB1020_1022.out _).trans (((wW (p:=⟨gb1022,_,none⟩) NB1020_1022.out _).trans (hHeld.1)))),((wW (p:=⟨gb1022,_,none⟩) NB1020_1022.out _).trans (((wW (p:=⟨gb1022,_,none⟩) NB1020_1022.out _).trans (hHeld.2.1)))),((wW (p:=⟨gb1022,_,none⟩) NB1021_1022.out _).trans (((wW (p:=⟨gb1022,_,none⟩) NB1021_1022.out _).trans (hHeld.2.2.1)))),((wW (p:=⟨gb1022,_,none⟩) NB1021_1022.out _).trans (((wW (p:=⟨gb1022,_,none⟩) NB1021_1022.out _).trans (hHeld.2.2.2))))⟩ (fun hHeld=>?_);clear hK K;refine zN (zL HT_.out (zz0)) ?_
 try go_wp2
 refine bodyPost_ret (results_cell_row rfl _ _ gb1022 47 #[.bool t1026,.slice Ao13 t1027.length co13] (0,0) _ rfl (by (with_reducible repeat (first|refine wE ?_ _|refine wF ?_|refine wD ?_ _));refine wP (cs:=#[.bool t1026,.slice none 0 0]) ?_ 1 _ rfl;(with_reducible repeat (first|refine wE ?_ _|refine wF ?_|refine wD ?_ _));refine wP (cs:=#[.bool false,.slice none 0 0]) ?_ 0 _ rfl;(with_reducible repeat (first|refine wE ?_ _|refine wF ?_|refine wD ?_ _));exact BK1022.out) Tryd.underlying47 rfl (zz0)) rfl ?_
 exact ⟨_,zz14,by (with_reducible repeat (first|apply Kd.R_alloc|apply Kd.R_drewN|apply Kd.R_drew));exact Kd.R_mono (Kd.R_far (p:=⟨gb1022,1,none⟩) (Kd.R_far (p:=⟨gb1022,0,none⟩) (Kd.R_types HO1029.out BK1022.out (zz17)) (fun _ hk=>hk.2) (.bool t1026)) (fun _ hk=>hk.2) (.slice Ao13 t1027.length co13)) (fun _ hk=>trivial),zz144⟩
end Go.Proofs.YtfkmbjkmlfnapaaDoor.QA
