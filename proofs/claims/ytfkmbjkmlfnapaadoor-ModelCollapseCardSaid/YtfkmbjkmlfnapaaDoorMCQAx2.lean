import Derived.Test.YtfkmbjkmlfnapaaDoorMCQAx0
import Derived.Test.YtfkmbjkmlfnapaaDoorMCQAx1
namespace Go.Proofs.YtfkmbjkmlfnapaaDoor.QA
open Go.RowKit Go.Proofs.YtfkmbjkmlfnapaaDoorW.PrintWords Go.Proofs.YtfkmbjkmlfnapaaDoorW.PrintLast Go.Proofs.YtfkmbjkmlfnapaaDoorW.PrintMore
attribute [local go_sem] yG yF yP yO yA yB yH yE
set_option linter.unusedVariables false
set_option linter.unusedSimpArgs false
def U14.f (l0_0:List (List Int)):Option (Int):=if (l0_0.length:Int) = 0 then (some 0) else (if 0 < (l0_0.length:Int) then (some ((rd_L1 l0_0 0).length:Int)) else (none))
set_option maxHeartbeats 8000000 in
set_option maxRecDepth 100000 in
theorem U14.calls (A0_0:Option Addr) (c0_0:Nat) (l0_0:List (List Int)) (r:Int) (w:World) (hr0_0:Kd.C (Kd.slice 3 (Kd.int .i64)) w A0_0 l0_0.length l0_0) (hc0_0:l0_0.length≤c0_0) (h:U14.f l0_0 = some r) :
  Calls Tryd.prog 16 #[.agg #[.slice A0_0 l0_0.length c0_0]] w fun e w'=>e = .returned (.int .i64 r)∧Below w.heap.size w w':=by
 have hu24:=Tryd.underlying24;have HR0_0:=wA.mk hr0_0;have HC0_0:=wA.mk hc0_0;clear hr0_0 hc0_0;have HB:=wA.mk (Below.refl w.heap.size w);have H:(if (l0_0.length:Int) = 0 then (some 0) else (if 0 < (l0_0.length:Int) then (some ((rd_L1 l0_0 0).length:Int)) else (none))) = some r:=h;clear h;replace H:=zzj H;rcases H with ⟨c2,H⟩|⟨c2,H⟩
 ·have c2b0:=beq_iff_eq.mpr c2;have c2b1:=bne_eq_false_iff_eq.mpr c2;clear c2;obtain rfl:=Option.some.inj H;go_enter Tryd.func16,Tryd.ntmps16
  go_wp2_with (first|((with_reducible refine wK (N:=1) rfl ?_);refine wM ?hg (N:=1) ?hd (cs:=#[.slice A0_0 l0_0.length c0_0]) (t:=24) ?hr ?_;(case hd=>rfl);(case hg=>rfl);(case hr=>exact zz205);intro gb116 hg w3 hbox hb;have BK116:=wA.mk (hbox);have GW116:=wA.mk ((by rw [hg];exact (wB (zz10)):w.heap.size≤gb116));have GE116:=wA.mk ((by rw [hg];exact (wB (zz10)):w.heap.size≤gb116));replace HB:=wA.mk (wG (zz10) hb);clear hb hbox hg;obtain ⟨hcz4_0,hfz4_0⟩:=zc1 BK116.out))
  go_ret
  exact ⟨zz14,(have h0_:=GE116;zz13)⟩
 ·have c2b0:=beq_eq_false_iff_ne.mpr c2;have c2b1:=bne_iff_ne.mpr c2;have c2b2:¬ (l0_0 = []):=fun h_=>c2 (by rw [h_];rfl);replace H:=zzi H;obtain ⟨c5,H⟩:=H;have c5b0:=decide_eq_true c5;have c5b1:decide (0 < l0_0.length) = true:=decide_eq_true (zz15);clear c5;obtain rfl:=Option.some.inj H;go_enter Tryd.func16,Tryd.ntmps16
  go_wp2_with (first|((with_reducible refine wK (N:=1) rfl ?_);refine wM ?hg (N:=1) ?hd (cs:=#[.slice A0_0 l0_0.length c0_0]) (t:=24) ?hr ?_;(case hd=>rfl);(case hg=>rfl);(case hr=>exact zz205);intro gb116 hg w6 hbox hb;have BK116:=wA.mk (hbox);have GW116:=wA.mk ((by rw [hg];exact (wB (zz10)):w.heap.size≤gb116));have GE116:=wA.mk ((by rw [hg];exact (wB (zz10)):w.heap.size≤gb116));replace HB:=wA.mk (wG (zz10) hb);clear hb hbox hg;obtain ⟨hcz7_0,hfz7_0⟩:=zc1 BK116.out;have p117:0≤(0:Int):=(zz15);have q117:0 < (l0_0.length:Int):=of_decide_eq_true (zz4);obtain ⟨ad117,A117_0,c117_0,e117,hx117_0,hl117_0,hi117_0⟩:=at_L1 HR0_0.out 0 p117 q117;cases e117;have qi117:(0 < l0_0.length) = True:=eq_true (zz15);(try rw [show ((0:Int)).toNat = 0 from rfl] at hx117_0);(try rw [Addr.add_zero'] at hx117_0);replace hx117_0:=(HB.out.cell (World.block_lt_of_cell? w _ hx117_0)).trans hx117_0;have HR117_0:=wA.mk hi117_0;have HC117_0:=wA.mk hl117_0;clear hi117_0 hl117_0;replace p117:=eq_true p117;replace q117:=eq_true q117))
  go_ret
  exact ⟨zz14,(have h0_:=GE116;zz13)⟩
def U48.f (l0:List Int):Option (List Int):=(some (([]:List Int):List Int)).bind fun y120=>(if y120.length+l0.length < 17592186044416 then (some (y120++l0)) else (none))
set_option maxHeartbeats 8000000 in
set_option maxRecDepth 100000 in
theorem U48.calls_some (A0:Addr) (c0:Nat) (l0:List Int) (r:List Int) (w:World) (hr0:Kd.C (Kd.int .i64) w (some A0) l0.length l0) (hc0:l0.length≤c0) (h:U48.f l0 = some r) :
  Calls Tryd.prog 75 #[.slice (some A0) l0.length c0] w fun e w'=>∃ v0_:Value,e = .returned (v0_)∧Kd.R (Kd.int .i64) 3 w' w.heap.size (fun _=>True) v0_ r∧Below w.heap.size w w':=by
 have HR0:=wA.mk hr0;have HC0:=wA.mk hc0;clear hr0 hc0;have HB:=wA.mk (Below.refl w.heap.size w);have H:((some (([]:List Int):List Int)).bind fun y120=>(if y120.length+l0.length < 17592186044416 then (some (y120++l0)) else (none))) = some r:=h;clear h;obtain ⟨y120,hy120⟩:∃ y_:List Int,y_ = (([]:List Int)):=⟨_,rfl⟩;replace H:(if y120.length+l0.length < 17592186044416 then (some (y120++l0)) else (none)) = some r:=(have h0_:=hy120;zz16);have Ny120:=wA.mk hy120;clear hy120;replace H:=zzi H;obtain ⟨c2,H⟩:=H;have LMc2:=wA.mk c2;clear c2;obtain ⟨y123,hy123⟩:∃ y_:List Int,y_ = (y120++l0):=⟨_,rfl⟩;replace H:(some y123) = some r:=(have h0_:=hy123;zz16);have Ny123:=wA.mk hy123;clear hy123;obtain rfl:=Option.some.inj H;go_enter Tryd.func75,Tryd.ntmps75
 go_wp2_with (first|((with_reducible refine wK (N:=5) rfl ?_);refine Kd.R_lit (Kd.int .i64) _ 3 ?hg (N:=5) ?hd (xs:=([]:List Int)) (inner:=[]) (ok:=fun _=>True) (okp:=fun _=>True) ?hr ?hp (fun _ hk=>hk) trivial (Below.refl _ _) (Nat.le_refl _) (zz8) ?_;(case hd=>rfl);(case hg=>rfl);(case hr=>exact zz205);(case hp=>exact (wV.none _ _));intro v121 w3 ho4 hb hg_ hnew_;clear hg_ hnew_;(first|rw [← Ny120.out] at ho4|(simp only [Int.reduceToNat] at ho4;rw [← Ny120.out] at ho4));have HO122:=wA.mk (Kd.R_lower ho4 (wB (zz10)));replace HB:=wA.mk (wG (zz10) hb);clear hb ho4)|((with_reducible refine yT (b:=.append) (xs:=#[.tmp 5,.tmp 6]) rfl ?_);at_builtin;refine Kd.R_append_rows (Kd.int .i64) (w0:=w) w.heap.size rfl (.tmp 5) (.tmp 6) 31 3 (.int .i64 0) 8 rfl Tryd.underlying31 info3 rfl (zz17) (zz15) v121 y120 l0 _ _ _ (fun _=>True) (fun _=>False) rfl rfl ?aO ?aR (fun _ _ h=>h) (fun _ h=>h.elim) ?aF ?aB ?aS ?aL ?_;(case aR=>exact (have h0_:=HR0;zz206));(case aB=>exact (zz10));(case aF=>exact zz207);(case aO=>exact (have h0_:=HO122;zz18));(case aS=>exact zz208);(case aL=>have:=LMc2.out;omega);intro v124 w5 ho hb hg hat;rw [← Ny123.out] at ho;replace HB:=wA.mk (hb);have HO125:=wA.mk (ho);clear HO122;clear ho hb hg hat))
 rw [Go.Lib.run_eql_slice_nil w 31 3 (some A0) l0.length c0 0 0 Tryd.underlying31]
 go_wp2_with (first|((with_reducible refine wK (N:=5) rfl ?_);refine Kd.R_lit (Kd.int .i64) _ 3 ?hg (N:=5) ?hd (xs:=([]:List Int)) (inner:=[]) (ok:=fun _=>True) (okp:=fun _=>True) ?hr ?hp (fun _ hk=>hk) trivial (Below.refl _ _) (Nat.le_refl _) (zz8) ?_;(case hd=>rfl);(case hg=>rfl);(case hr=>exact zz205);(case hp=>exact (wV.none _ _));intro v121 w3 ho4 hb hg_ hnew_;clear hg_ hnew_;(first|rw [← Ny120.out] at ho4|(simp only [Int.reduceToNat] at ho4;rw [← Ny120.out] at ho4));have HO122:=wA.mk (Kd.R_lower ho4 (wB (zz10)));replace HB:=wA.mk (wG (zz10) hb);clear hb ho4)|((with_reducible refine yT (b:=.append) (xs:=#[.tmp 5,.tmp 6]) rfl ?_);at_builtin;refine Kd.R_append_rows (Kd.int .i64) (w0:=w) w.heap.size rfl (.tmp 5) (.tmp 6) 31 3 (.int .i64 0) 8 rfl Tryd.underlying31 info3 rfl (zz17) (zz15) v121 y120 l0 _ _ _ (fun _=>True) (fun _=>False) rfl rfl ?aO ?aR (fun _ _ h=>h) (fun _ h=>h.elim) ?aF ?aB ?aS ?aL ?_;(case aR=>exact (have h0_:=HR0;zz206));(case aB=>exact (zz10));(case aF=>exact zz207);(case aO=>exact (have h0_:=HO122;zz18));(case aS=>exact zz208);(case aL=>have:=LMc2.out;omega);intro v124 w5 ho hb hg hat;rw [← Ny123.out] at ho;replace HB:=wA.mk (hb);have HO125:=wA.mk (ho);clear HO122;clear ho hb hg hat))
 go_ret
 exact ⟨_,zz14,(have h0_:=HO125;zz18),zz10⟩
theorem U48.calls (A0:Option Addr) (c0:Nat) (l0:List Int) (r:List Int) (w:World) (hr0:Kd.C (Kd.int .i64) w A0 l0.length l0) (hc0:l0.length≤c0) (h:U48.f l0 = some r) :
  Calls Tryd.prog 75 #[.slice A0 l0.length c0] w fun e w'=>∃ v0_:Value,e = .returned (v0_)∧Kd.R (Kd.int .i64) 3 w' w.heap.size (fun _=>True) v0_ r∧Below w.heap.size w w':=by
 cases A0 with
 | some a=>exact U48.calls_some a c0 l0 r w hr0 hc0 h
 | none =>
  have hl:l0 = []:=by
   cases l0 with
   | nil=>rfl
   | cons x xs =>
    obtain ⟨ad,e,_⟩:=Kd.at_int hr0 0 (zz15) (zz8)
    cases e
  subst hl
  have hr:r = []:=by
   unfold U48.f at h
   simp at h
   exact h
  subst hr
  exact (Tryd.slices_Clone_int_nil _ _ w).mono fun e w' he=>⟨_,he.1,Kd.R_nil _ _ _ _ _,he.2 ▸ Below.refl _ _⟩
def U25.l0:Nat→List Int→Int→Option (List Int)
 | 0,_,_=>none
 | k+1,x3,x4=>if x4≥0 then (if 0≤x4 then (if x4 < (x3.length:Int) then (if 0≤(wrap64 (x4+1)) then (if (wrap64 (x4+1)) < (x3.length:Int) then (U25.l0 k (x3.set (x4:Int).toNat (wrap64 ((rd x3 x4)+(rd x3 (wrap64 (x4+1)))))) (wrap64 (x4 - 1))) else (none)) else (none)) else (none)) else (none)) else (some x3)
def U25.f (k:Nat) (l0:List Int):Option (List Int):=(U48.f l0).bind fun t120=>(U25.l0 k t120 (wrap64 ((t120.length:Int) - 2)))
theorem zm2_0 {P:Prop} (h:P:=by repeat' first|(with_reducible first|exact ih0 ..|exact LeO.refl _|exact LeO.none _|refine LeO.ite ?_ ?_|refine LeO.bind ?_ (fun _=>?_))|exact ih0 ..|exact LeO.none _|refine LeO.ite ?_ ?_|refine LeO.bind ?_ (fun _=>?_)):P:=h
theorem U25.mono_l:∀ k,(∀ y0 y1,LeO (U25.l0 k y0 y1) (U25.l0 (k+1) y0 y1))
 | 0=>fun _ _ r h=>by simp [U25.l0] at h
 | k+1=>by
  have ih0:=U25.mono_l k
  ·intro y0 y1;unfold U25.l0
   exact zm2_0
theorem U25.mono:∀ a0 k,LeO (U25.f k a0) (U25.f (k+1) a0):=by
 intro a0 k;have ih0:=U25.mono_l k;unfold U25.f
 exact zm2_0
def U25.T5:Bool × List (List Nat × List Nat):=(true,[([],[]),([],[]),([0,1],[0,1]),([2],[2]),([],[]),([],[]),([5],[5]),([4,6],[4,6]),([7],[7]),([3,8],[3,8]),([0,1,0,1,2,3,4,5,6,7,8,9],[0,1]),([10,9,0,1,2,3,4,5,6,7,8,9],[9,10])])
def U25.B5:List Nat:=[0,0,3,7,0,0,32,112,240,511,1023,2047]
theorem U25.tab5:yX .any (vD Tryd.f47 5) = U25.T5:=zz0
theorem U25.bits5:yQ U25.T5.2 U25.B5 = true:=zz0
set_option maxHeartbeats 8000000 in
set_option maxRecDepth 100000 in
theorem U25.calls (k:Nat) (A0:Option Addr) (c0:Nat) (l0:List Int) (r:List Int) (w:World) (hr0:Kd.C (Kd.int .i64) w A0 l0.length l0) (hc0:l0.length≤c0) (h:U25.f k l0 = some r) :
  Calls Tryd.prog 47 #[.slice A0 l0.length c0] w fun e w'=>∃ v0_:Value,e = .returned (v0_)∧Kd.R (Kd.int .i64) 3 w' w.heap.size (fun _=>True) v0_ r∧Below w.heap.size w w':=by
 have HR0:=wA.mk hr0;have HC0:=wA.mk hc0;clear hr0 hc0;have HB:=wA.mk (Below.refl w.heap.size w);have H:((U48.f l0).bind fun t120=>(U25.l0 k t120 (wrap64 ((t120.length:Int) - 2)))) = some r:=h;clear h;replace H:=zzb H;obtain ⟨t120,A2,H⟩:=H;have H':=wA.mk H;clear H;go_enter Tryd.func47,Tryd.ntmps47
 go_wp2_with (first|((with_reducible refine wH (f:=75) rfl ?_);refine wO (some 6) rfl rfl Tryd.func75 (zz0) rfl #[.slice A0 l0.length c0] rfl (zz5) ?_;(with_reducible refine (U48.calls _ _ l0 t120 _ ?_ ?_ A2.out).mono ?_);exact zz209;exact HC0.out;rintro e w3 ⟨v121,rfl,ho0,hb⟩;refine ⟨_,rfl,?_⟩;have HO122:=wA.mk (Kd.R_lower ho0 (wB (zz10)));replace HB:=wA.mk (wG (zz10) hb);(try clear hb);(try clear ho0);obtain ⟨Ao4,co4,eo4⟩:=Kd.R_slice HO122.out;subst eo4))
 go_loopg [4] k (fun kq v4 w'=>∃ (x3_1:List Int) (x4_1:Int),v4 = .int .i64 x4_1∧wA (U25.l0 kq x3_1 x4_1 = some r)∧wA (kq≤k)∧wA (Kd.R (Kd.int .i64) 3 w' w.heap.size (fun _=>True) (.slice Ao4 t120.length co4) x3_1)∧wA (Below w.heap.size w w'))
 case atStart=>exact ⟨(t120),(wrap64 ((t120.length:Int) - 2)),(zz1),H',⟨Nat.le_refl _⟩,⟨(have h0_:=HO122;zz18)⟩,⟨zz10⟩⟩
 case round =>
  clear H';obtain ⟨x3_1,x4_1,rfl,HA,HK1,HO_3,HB⟩:=hrel;have hl3_1:=(Kd.R_reads' HO_3.out).1;rw [hl3_1] at HO_3
  (try simp only [hl3_1])
  cases gk with
  | zero=>exact absurd HA.out (by simp [U25.l0])
  | succ k1 =>
   have H:=HA.out;clear HA;simp only [U25.l0] at H;replace H:=zzj H;rcases H with ⟨c5,H⟩|⟨c5,H⟩
   ·have c5b0:=decide_eq_true c5;clear c5;replace H:=zzi H;obtain ⟨c6,H⟩:=H;have c6b0:=decide_eq_true c6;clear c6;replace H:=zzi H;obtain ⟨c7,H⟩:=H;have c7b0:=decide_eq_true c7;clear c7
    (try (have c7b0h_:=c7b0;simp only [hl3_1] at c7b0h_))
    (try (have c7b1h_:=c7b1;simp only [hl3_1] at c7b1h_))
    (try (have c7b2h_:=c7b2;simp only [hl3_1] at c7b2h_))
    obtain ⟨ji8,hji8⟩:∃ j_:Int,(wrap64 (x4_1+1)) = j_:=⟨_,rfl⟩;replace H:(if 0≤(ji8) then (if (ji8) < (x3_1.length:Int) then (U25.l0 k1 (x3_1.set (x4_1:Int).toNat (wrap64 ((rd x3_1 x4_1)+(rd x3_1 (ji8))))) (wrap64 (x4_1 - 1))) else (none)) else (none)) = some r:=(have h0_:=hji8;zz19);have hji8w:(IntKind.i64.wrap (x4_1+1)) = ji8:=(yL _).trans hji8;replace H:=zzi H;obtain ⟨c9,H⟩:=H;have c9b0:=decide_eq_true c9;clear c9;replace H:=zzi H;obtain ⟨c10,H⟩:=H;have c10b0:=decide_eq_true c10;clear c10
    (try (have c10b0h_:=c10b0;simp only [hl3_1] at c10b0h_))
    (try (have c10b1h_:=c10b1;simp only [hl3_1] at c10b1h_))
    (try (have c10b2h_:=c10b2;simp only [hl3_1] at c10b2h_))
    obtain ⟨y125,hy125⟩:∃ y_:List Int,y_ = (x3_1.set (x4_1:Int).toNat (wrap64 ((rd x3_1 x4_1)+(rd x3_1 (ji8))))):=⟨_,rfl⟩;replace H:(U25.l0 k1 y125 (wrap64 (x4_1 - 1))) = some r:=(have h0_:=hy125;zz16);have Ny125:=wA.mk hy125;clear hy125;have H':=wA.mk H;clear H
    try go_wp2
    replace HO_3:=wA.mk (Kd.R_drew HO_3.out);replace HB:=wA.mk (wR HB.out);have p123:0≤(x4_1:Int):=of_decide_eq_true (zz4);have q123:x4_1 < (x3_1.length:Int):=of_decide_eq_true (zz4);obtain ⟨ad123,e123,hx123_0⟩:=Kd.at_int (Kd.R_reads' HO_3.out).2.2 x4_1 p123 q123
    cases e123
    replace p123:=eq_true p123;replace q123:=eq_true q123;have p124:0≤((ji8):Int):=of_decide_eq_true (zz4);have q124:(ji8) < (x3_1.length:Int):=of_decide_eq_true (zz4);obtain ⟨ad124,e124,hx124_0⟩:=Kd.at_int (Kd.R_reads' HO_3.out).2.2 (ji8) p124 q124;obtain rfl:ad123 = ad124:=(by injection e124);replace p124:=eq_true p124;replace q124:=eq_true q124;have p11:0≤(x4_1:Int):=of_decide_eq_true (zz4);have q11:(x4_1:Int) < ((x3_1.length:Int):Int):=of_decide_eq_true (zz4);obtain ⟨go11,co11,eo11,gb11,gl11,cl11,HG11⟩:=Kd.R_form HO_3.out (zz15)
    (first|cases eo11|(injection eo11 with ea_ en_ ec_;(first|subst ea_|(injection ea_ with ea_;subst ea_));subst ec_;clear en_))
    have GB11:=wA.mk gb11;have GG11:=wA.mk HG11;clear gb11 gl11 HG11
    (first|simp only [vE] at hx123_0|skip)
    (first|simp only [vE] at hx124_0|skip)
    obtain ⟨hx11_0,hf11_0⟩:=Kd.R_celln 0 HO_3.out (x4_1:Int) p11 q11;replace p11:=eq_true p11;replace q11:=eq_true q11;have HP13:=Kd.R_putn HO_3.out (x4_1:Int) (wrap64 ((rd x3_1 x4_1)+(rd x3_1 (ji8))));rw [← Ny125.out] at HP13;have HQ13:=wA.mk HP13;clear HP13;refine zC (n:=12) (S:=fun w'=>w'.cell? ⟨go11,(x4_1).toNat,none⟩ = some (.int .i64 (rd x3_1 x4_1))∧w'.cell? ⟨go11,((ji8)).toNat,none⟩ = some (.int .i64 (rd x3_1 (ji8)))) (ds:=[11]) #[false,false,false,false,false,false,false,false,false,false,false,false] (zz0) rfl rfl ⟨hx123_0,hx124_0⟩ (fun hHeld=>?_);refine yS U25.tab5 U25.bits5 (fun HT_ HW_=>?_)
    generalize wr.drew = w12 at HO_3 HB GG11 HQ13 hf11_0 hx11_0 hx123_0 hx124_0 hHeld ⊢
    refine zzp 0 14 ?_ #[true,false,false,false,false,false,false,false,false,false,false,false] rfl rfl (wU HT_.out (zz0)) (fun _ _ _ h=>h) (Or.inl ⟨zz9,?_⟩) ?_ ?_ ?_;rotate_left
    ·intro w'
     go_simp
     with_reducible rfl
    rotate_left
    ·simp only [zzs]
     rfl
    refine zzp 1 15 ?_ #[true,true,false,false,false,false,false,false,false,false,false,false] rfl rfl (wU HT_.out (zz0)) (fun _ _ _ h=>h) (Or.inl ⟨zz9,?_⟩) ?_ ?_ ?_;rotate_left
    ·intro w'
     go_simp
     with_reducible rfl
    rotate_left
    ·simp only [zzs]
     rfl
    refine zzp 2 16 ?_ #[true,true,true,false,false,false,false,false,false,false,false,false] rfl rfl (wU HT_.out (zz0)) (fun _ _ _ h=>h) (Or.inl ⟨zz9,?_⟩) ?_ ?_ ?_;rotate_left
    ·intro w'
     go_simp
     with_reducible rfl
    rotate_left
    ·simp only [zzs]
     rfl
    refine zzp 4 18 ?_ #[true,true,true,false,true,false,false,false,false,false,false,false] rfl rfl (wU HT_.out (zz0)) (fun _ _ _ h=>h) (Or.inl ⟨zz9,?_⟩) ?_ ?_ ?_;rotate_left
    ·intro w'
     go_simp
     with_reducible rfl
    rotate_left
    ·simp only [zzs]
     rfl
    refine zzp 5 19 ?_ #[true,true,true,false,true,true,false,false,false,false,false,false] rfl rfl (wU HT_.out (zz0)) (fun _ _ _ h=>h) (Or.inl ⟨zz9,?_⟩) ?_ ?_ ?_;rotate_left
    ·intro w'
     go_simp
     with_reducible rfl
    rotate_left
    ·simp only [zzs]
     rfl
    refine zzp 6 20 ?_ #[true,true,true,false,true,true,true,false,false,false,false,false] rfl rfl (wU HT_.out (zz0)) (fun _ _ _ h=>h) (Or.inl ⟨zz9,?_⟩) ?_ ?_ ?_;rotate_left
    ·intro w'
     go_simp
     with_reducible rfl
    rotate_left
    ·simp only [zzs]
     rfl
    refine zzp 7 21 ?_ #[true,true,true,false,true,true,true,true,false,false,false,false] rfl rfl (wU HT_.out (zz0)) (fun _ _ _ h=>h) (Or.inl ⟨zz9,?_⟩) ?_ ?_ ?_;rotate_left
    ·intro w'
     go_simp
     with_reducible rfl
    rotate_left
    ·simp only [zzs]
     rfl
    refine take_ (i:=3) (N:=some 17) (v:=?_) (a':=?_) #[true,true,true,true,true,true,true,true,false,false,false,false] rfl rfl (wY HT_.out HW_.out (zz0)) (fun _ _ _ h=>h) (Or.inl ⟨zz9,?_⟩) hHeld ?_ ?_;rotate_left
    ·rintro w' ⟨s0,s1⟩
     go_simp
     with_reducible rfl
    rotate_left
    ·simp only [zzs]
     rfl
    refine take_ (i:=8) (N:=some 22) (v:=?_) (a':=?_) #[true,true,true,true,true,true,true,true,true,false,false,false] rfl rfl (wY HT_.out HW_.out (zz0)) (fun _ _ _ h=>h) (Or.inl ⟨zz9,?_⟩) hHeld ?_ ?_;rotate_left
    ·rintro w' ⟨s0,s1⟩
     go_simp
     with_reducible rfl
    rotate_left
    ·simp only [zzs]
     rfl
    refine zzp 9 23 ?_ #[true,true,true,true,true,true,true,true,true,true,false,false] rfl rfl (wU HT_.out (zz0)) (fun _ _ _ h=>h) (Or.inl ⟨zz9,?_⟩) ?_ ?_ ?_;rotate_left
    ·intro w'
     go_simp
     with_reducible rfl
    rotate_left
    ·simp only [zzs]
     rfl
    refine zzp 10 24 ?_ #[true,true,true,true,true,true,true,true,true,true,true,false] rfl rfl (wU HT_.out (zz0)) (fun _ _ _ h=>h) (Or.inl ⟨zz9,?_⟩) ?_ ?_ ?_;rotate_left
    ·intro w'
     go_simp
     with_reducible rfl
    rotate_left
    ·simp only [zzs]
     rfl
    refine last_ (i:=11) (N:=none) #[true,true,true,true,true,true,true,true,true,true,true,true] rfl rfl (yD HT_.out (zz0)) (zz17) (fun K hK=>?_);refine qO (w1:=?_) (zz9) rfl ?_ ?_;rotate_left
    ·go_simp
     rfl
    refine hK.out _ _ ?_;clear hK K;refine zN (zL HT_.out (zz0)) ?_
    try go_wp2
    (try simp only [← hl3_1])
    go_roundg k1
    case measure=>have:=HK1.out;omega
    case rel=>exact ⟨(y125),(wrap64 (x4_1 - 1)),(zz1),H',⟨zz6⟩,⟨by (try simp only [hl3_1]);(with_reducible repeat (first|apply Kd.R_alloc|apply Kd.R_drewN|apply Kd.R_drew));exact HQ13.out⟩,⟨by repeat (first|(with_reducible first|exact HB.out|apply wS|apply wQ|apply wR|refine wL ?_ GB11.out)|exact HB.out)⟩⟩
   ·have c5b0:=decide_eq_false c5;clear c5;obtain rfl:=Option.some.inj H
    go_wp2
    go_ret
    exact ⟨_,zz14,(have h0_:=HO_3;zz18),zz10⟩
end Go.Proofs.YtfkmbjkmlfnapaaDoor.QA
