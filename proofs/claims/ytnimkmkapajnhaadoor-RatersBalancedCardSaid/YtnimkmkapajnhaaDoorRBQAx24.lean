import Derived.Test.YtnimkmkapajnhaaDoorRBQAx0
import Derived.Test.YtnimkmkapajnhaaDoorRBQAx2
import Derived.Test.YtnimkmkapajnhaaDoorRBQAx4
import Derived.Test.YtnimkmkapajnhaaDoorRBQAx5
import Derived.Test.YtnimkmkapajnhaaDoorRBQAx7
import Derived.Test.YtnimkmkapajnhaaDoorRBQAx12
import Derived.Test.YtnimkmkapajnhaaDoorRBQAx13
import Derived.Test.YtnimkmkapajnhaaDoorRBQAx15
import Derived.Test.YtnimkmkapajnhaaDoorRBQAx21
import Derived.Test.YtnimkmkapajnhaaDoorRBQAx22
import Derived.Test.YtnimkmkapajnhaaDoorRBQAx23
import Derived.Test.YtnimkmkapajnhaaDoorRBQAx124
namespace Go.Proofs.YtnimkmkapajnhaaDoor.QA
open Go.RowKit Go.Proofs.YtnimkmkapajnhaaDoorW.PrintWords Go.Proofs.YtnimkmkapajnhaaDoorW.PrintLast Go.Proofs.YtnimkmkapajnhaaDoorW.PrintMore
attribute [local go_sem] yE yA yI yJ wY wX yC yD
set_option linter.unusedVariables false
set_option linter.unusedSimpArgs false
set_option maxHeartbeats 8000000 in
set_option maxRecDepth 100000 in
theorem U5.calls (k:Nat)  (r:Bool) (w:World) (h:U5.f k  = some r) :
  Calls Tryd.prog 17 #[] w fun e w'=>e = .returned (.bool r)∧Below w.heap.size w w':=by
 have hu26:=Tryd.underlying26;have hu44:=Tryd.underlying44;have hu51:=Tryd.underlying51;have HB:=wA.mk (Below.refl w.heap.size w);have H:(U5.j0 k (([(⟨1,1,([]:List Int)⟩:S26),(⟨2,1,([]:List Int)⟩:S26),(⟨7,2,(([5]:List Int))⟩:S26)]:List (S26)))) = some r:=h;clear h;have HC1:=wA.mk H;clear H;go_enter Tryd.func17,Tryd.ntmps17
 go_upto_region 1 with (fail)
 go_cut [1] (fun v1 wc=>∃ (kq:Nat) (x1_0:List (S26)),wA (U5.j0 kq x1_0 = some r)∧wA (kq≤k)∧wA (Kd.N k26 26 wc w.heap.size (fun _=>True) v1 x1_0)∧wA (Below w.heap.size w wc))
 case first =>
  have H:=HC1.out;clear HC1;obtain ⟨y743,hy743⟩:∃ y_:List Int,y_ = (([5]:List Int)):=⟨_,rfl⟩;replace H:(U5.j0 k (([(⟨1,1,([]:List Int)⟩:S26),(⟨2,1,([]:List Int)⟩:S26),(⟨7,2,y743⟩:S26)]:List (S26)))) = some r:=(have h0_:=hy743;zz30);have Ny743:=wA.mk hy743;clear hy743;obtain ⟨y746,hy746⟩:∃ y_:List (S26),y_ = (([(⟨1,1,([]:List Int)⟩:S26),(⟨2,1,([]:List Int)⟩:S26),(⟨7,2,y743⟩:S26)]:List (S26))):=⟨_,rfl⟩;replace H:(U5.j0 k y746) = some r:=(have h0_:=hy746;zz30);have Ny746:=wA.mk hy746;clear hy746;have H':=wA.mk H;clear H
  go_wp2_with (first|((with_reducible refine wL (N:=17) rfl ?_);(try (refine yK (zz25) ?_;dsimp only));refine Kd.R_lit (Kd.int .i64) _ 3 ?hg (N:=17) ?hd (xs:=([5]:List Int)) (inner:=[.int .i64 5]) (ok:=fun _=>True) (okp:=fun _=>True) ?hr ?hp (fun _ hk=>hk) trivial (Below.refl _ _) (Nat.le_refl _) (zz7) ?_;(case hd=>rfl);(case hg=>rfl);(case hr=>exact zz156);(case hp=>exact zz175);intro v744 w2 ho3 hb hg_ hnew_;clear hg_ hnew_;(first|rw [← Ny743.out] at ho3|(simp only [Int.reduceToNat] at ho3;rw [← Ny743.out] at ho3));have HO745:=wA.mk (Kd.R_lower ho3 (wB (zz3)));replace HB:=wA.mk (wC (zz3) hb);clear hb ho3;obtain ⟨Ao4,co4,eo4⟩:=Kd.R_slice HO745.out;subst eo4)|((with_reducible refine wL (N:=19) rfl ?_);(try (refine yK (zz25) ?_;dsimp only));refine Kd.N_lit k26 _ 26 ?hg (N':=19) ?hd (xs:=([(⟨1,1,([]:List Int)⟩:S26),(⟨2,1,([]:List Int)⟩:S26),(⟨7,2,y743⟩:S26)]:List (S26))) (inner:=[.int .i64 1,.int .i64 1,.slice none 0 0,.int .i64 2,.int .i64 1,.slice none 0 0,.int .i64 7,.int .i64 2,.slice Ao4 y743.length co4]) (ok:=(fun _=>True)) (okp:=(fun _=>True)) ?hr ?hp (fun _ hk=>hk) ((show ∀k_,w2.heap.size≤k_→(fun _=>True) k_ from fun k_ hk=>trivial) _ (Nat.le_refl _)) (Below.refl _ _) (Nat.le_refl _) (zz7) ?_;(case hd=>rfl);(case hg=>rfl);(case hr=>exact zz156);(case hp=>exact (wZ.c3 (show Kd.FK k26 _ _ (⟨1,1,([]:List Int)⟩:S26) [.int .i64 1,.int .i64 1,.slice none 0 0] from (k26_mkF _ _ (⟨1,1,([]:List Int)⟩:S26) (Nat.le_refl _) (Kd.F_nil _ _ _))) (wZ.c3 (show Kd.FK k26 _ _ (⟨2,1,([]:List Int)⟩:S26) [.int .i64 2,.int .i64 1,.slice none 0 0] from (k26_mkF _ _ (⟨2,1,([]:List Int)⟩:S26) (Nat.le_refl _) (Kd.F_nil _ _ _))) (wZ.c3 (show Kd.FK k26 _ _ (⟨7,2,y743⟩:S26) [.int .i64 7,.int .i64 2,.slice Ao4 y743.length co4] from (k26_mkF _ _ (⟨7,2,y743⟩:S26) (Kd.R_reads' (Kd.R_mono (ok':=(fun _=>True)) (HO745.out) (fun k_ hk=>trivial))).2.1 (Kd.R_F (Kd.R_mono (ok':=(fun _=>True)) (HO745.out) (fun k_ hk=>trivial))))) (wZ.none _ _)))));intro v747 w5 ho6 hb hg_ hnew_;clear hg_ hnew_;(first|rw [← Ny746.out] at ho6|(simp only [Int.reduceToNat] at ho6;rw [← Ny746.out] at ho6));have HO748:=wA.mk (Kd.N_lower ho6 (wB (zz3)));replace HB:=wA.mk (wC (zz3) hb);clear HO745;clear hb ho6))
  go_meet
  case rel=>exact ⟨_,(y746),H',⟨zz28⟩,⟨(have h0_:=HO748;zz152)⟩,⟨zz3⟩⟩
 case rest =>
  clear HC1;obtain ⟨kq,x1_0,HA,HJ0,HO_1,HB⟩:=hcut
  cases kq with
  | zero=>exact absurd HA.out (by simp [U5.j0])
  | succ kj0 =>
   have H:=HA.out;clear HA;simp only [U5.j0] at H;have HC7:=wA.mk H;clear H
   go_upto_region 2 with (fail)
   go_cut [2,3,4] (fun v2 v3 v4 wc=>∃ (kq:Nat) (x2_6:List (S44)) (x3_6:Int) (x4_6:Int),v3 = .int .u64 x3_6∧v4 = .int .i64 x4_6∧wA (U5.j1 kq x1_0 x2_6 x3_6 x4_6 = some r)∧wA (kq≤kj0)∧wA (Kd.N k26 26 wc w.heap.size (fun _=>True) u1 x1_0)∧wA (Kd.R k44 44 wc w.heap.size (fun _=>True) v2 x2_6)∧wA (Below w.heap.size w wc))
   case first =>
    have H:=HC7.out;clear HC7;replace H:=zzi H;obtain ⟨c8,H⟩:=H;have c8b0:=eq_true c8;have c8b1:=qM c8;clear c8;obtain ⟨y749,hy749⟩:∃ y_:List (S26),y_ = (x1_0.take 2):=⟨_,rfl⟩;replace H:((U30.f kj0 y749 (([5]:List Int)) 1).bind fun bt757=>(U5.j1 kj0 x1_0 bt757.1 bt757.2.1 bt757.2.2)) = some r:=(have h0_:=hy749;zz30);have Ny749:=wA.mk hy749;clear hy749;obtain ⟨y754,hy754⟩:∃ y_:List Int,y_ = (([5]:List Int)):=⟨_,rfl⟩;replace H:((U30.f kj0 y749 y754 1).bind fun bt757=>(U5.j1 kj0 x1_0 bt757.1 bt757.2.1 bt757.2.2)) = some r:=(have h0_:=hy754;zz30);have Ny754:=wA.mk hy754;clear hy754;replace H:=Option.bind_eq_some_iff.mp H;obtain ⟨⟨t757,t758,t759⟩,A90,H⟩:=H;have A9:=wA.mk A90;clear A90;have H':=wA.mk H;clear H;obtain ⟨Ao11,co11,eo11⟩:=Kd.N_slice HO_1.out;subst eo11;have q10:(2:Int)≤((x1_0.length:Int):Int):=qL (zz4);obtain ⟨i010,hi010,_,hsz10,_⟩:=info_parts info26;have hroom10:x1_0.length≤co11:=(Kd.N_reads' HO_1.out).2.1;have hC10:Kd.F k26 _ _ Ao11 x1_0.length x1_0:=(Kd.V_at (base:=w.heap.size) (Kd.N_V HO_1.out)).2.2;have hcut10:=cut_to (P:=Tryd.prog) 22 26 .i64 Tryd.underlying22 hi010 Ao11 x1_0.length co11 2 (zz1) q10 hroom10;have hr10:=Kd.F_take (m:=2) hC10 (zz1);have hy10:y749.length = (2:Int).toNat:=(by rw [Ny749.out,List.length_take];omega);rw [← Ny749.out] at hr10;rw [← hy10] at hcut10;have HO753:=wA.mk (show Kd.V k26 26 _ w.heap.size _ (.slice Ao11 y749.length co11) y749 from Kd.V_mk (zz1) hr10);have HC753:=wA.mk (show y749.length≤co11 from by omega);clear hr10 hC10 hroom10 hi010 hsz10;have KY10:=wA.mk hy10;clear hy10;replace q10:=eq_true q10
    go_wp2_with (first|((with_reducible refine wL (N:=23) rfl ?_);(try (refine yK (zz25) ?_;dsimp only));refine Kd.R_lit (Kd.int .i64) _ 3 ?hg (N:=23) ?hd (xs:=([5]:List Int)) (inner:=[.int .i64 5]) (ok:=fun _=>True) (okp:=fun _=>True) ?hr ?hp (fun _ hk=>hk) trivial (Below.refl _ _) (Nat.le_refl _) (zz7) ?_;(case hd=>rfl);(case hg=>rfl);(case hr=>exact zz156);(case hp=>exact zz175);intro v755 w12 ho13 hb hg_ hnew_;clear hg_ hnew_;(first|rw [← Ny754.out] at ho13|(simp only [Int.reduceToNat] at ho13;rw [← Ny754.out] at ho13));replace HO_1:=wA.mk (Kd.N_elder' (zz143) (Kd.R_base ho13) hb);replace HO753:=wA.mk (Kd.V_elder' (have h0_:=HO753;zz41) (Kd.R_base ho13) hb);have HO756:=wA.mk (Kd.R_lower ho13 (wB (zz3)));replace HB:=wA.mk (wC (zz3) hb);clear hb ho13;obtain ⟨Ao14,co14,eo14⟩:=Kd.R_slice HO756.out;subst eo14)|((with_reducible refine wI (f:=18) rfl ?_);refine wR (some 24) rfl rfl Tryd.func18 (zz0) rfl #[.slice Ao11 y749.length co11,.slice Ao14 y754.length co14,.int .u64 1] rfl (zz20) ?_;(with_reducible refine (U30.calls kj0 _ _ y749 _ _ y754 1 t757 t758 t759 _ ?_ ?_ ?_ ?_ A9.out).mono ?_);(exact (have h0_:=HO753;zz170));(exact (have h0_:=HO753;zz172));(exact (have h0_:=HO756;zz162));(exact (have h0_:=HO756;zz164));rintro e w15 ⟨v760,rfl,ho0,hb⟩;refine ⟨_,rfl,?_⟩;replace HO_1:=wA.mk (Kd.N_elder' (zz143) (Kd.R_base ho0) hb);replace HO753:=wA.mk (Kd.V_elder' (have h0_:=HO753;zz41) (Kd.R_base ho0) hb);replace HO756:=wA.mk (Kd.R_below (have h0_:=HO756;zz31) hb);have HO761:=wA.mk (Kd.R_lower ho0 (wB (zz3)));replace HB:=wA.mk (wC (zz3) hb);(try clear hb);(try clear ho0)))
    go_meet
    case rel=>exact ⟨_,(t757),(t758),(t759),(zz2),(zz2),H',⟨by have:=HJ0.out;first|omega|exact Nat.le_refl _⟩,⟨zz153⟩,⟨(have h0_:=HO761;zz31)⟩,⟨zz3⟩⟩
   case rest =>
    clear HC7;obtain ⟨kq,x2_6,x3_6,x4_6,rfl,rfl,HA,HJ6,HO_1,HO_2,HB⟩:=hcut
    cases kq with
    | zero=>exact absurd HA.out (by simp [U5.j1])
    | succ kj6 =>
     have H:=HA.out;clear HA;simp only [U5.j1] at H;have HC16:=wA.mk H;clear H
     go_upto_region 3 with (fail)
     go_cut [6,7] (fun v6 v7 wc=>∃ (kq:Nat) (x6_15:Int) (x7_15:Int),v6 = .int .u64 x6_15∧v7 = .int .i64 x7_15∧wA (U5.j2 kq x1_0 x2_6 x3_6 x4_6 x6_15 x7_15 = some r)∧wA (kq≤kj6)∧wA (Kd.N k26 26 wc w.heap.size (fun _=>True) u1 x1_0)∧wA (Kd.R k44 44 wc w.heap.size (fun _=>True) u2 x2_6)∧wA (Below w.heap.size w wc))
     case first =>
      have H:=HC16.out;clear HC16;replace H:=zzi H;obtain ⟨c17,H⟩:=H;have c17b0:=eq_true c17;have c17b1:=qM c17;clear c17;obtain ⟨y762,hy762⟩:∃ y_:List (S26),y_ = (x1_0.take 2):=⟨_,rfl⟩;replace H:((U30.f kj6 y762 (([5,6]:List Int)) 1).bind fun bt770=>(U5.j2 kj6 x1_0 x2_6 x3_6 x4_6 bt770.2.1 bt770.2.2)) = some r:=(have h0_:=hy762;zz30);have Ny762:=wA.mk hy762;clear hy762;obtain ⟨y767,hy767⟩:∃ y_:List Int,y_ = (([5,6]:List Int)):=⟨_,rfl⟩;replace H:((U30.f kj6 y762 y767 1).bind fun bt770=>(U5.j2 kj6 x1_0 x2_6 x3_6 x4_6 bt770.2.1 bt770.2.2)) = some r:=(have h0_:=hy767;zz30);have Ny767:=wA.mk hy767;clear hy767;replace H:=Option.bind_eq_some_iff.mp H;obtain ⟨⟨t770,t771,t772⟩,A180,H⟩:=H;have A18:=wA.mk A180;clear A180;have H':=wA.mk H;clear H;obtain ⟨Ao20,co20,eo20⟩:=Kd.N_slice HO_1.out;subst eo20;have q19:(2:Int)≤((x1_0.length:Int):Int):=qL (zz4);obtain ⟨i019,hi019,_,hsz19,_⟩:=info_parts info26;have hroom19:x1_0.length≤co20:=(Kd.N_reads' HO_1.out).2.1;have hC19:Kd.F k26 _ _ Ao20 x1_0.length x1_0:=(Kd.V_at (base:=w.heap.size) (Kd.N_V HO_1.out)).2.2;have hcut19:=cut_to (P:=Tryd.prog) 22 26 .i64 Tryd.underlying22 hi019 Ao20 x1_0.length co20 2 (zz1) q19 hroom19;have hr19:=Kd.F_take (m:=2) hC19 (zz1);have hy19:y762.length = (2:Int).toNat:=(by rw [Ny762.out,List.length_take];omega);rw [← Ny762.out] at hr19;rw [← hy19] at hcut19;have HO766:=wA.mk (show Kd.V k26 26 _ w.heap.size _ (.slice Ao20 y762.length co20) y762 from Kd.V_mk (zz1) hr19);have HC766:=wA.mk (show y762.length≤co20 from by omega);clear hr19 hC19 hroom19 hi019 hsz19;have KY19:=wA.mk hy19;clear hy19;replace q19:=eq_true q19
      go_wp2_with (first|((with_reducible refine wL (N:=31) rfl ?_);(try (refine yK (zz25) ?_;dsimp only));refine Kd.R_lit (Kd.int .i64) _ 3 ?hg (N:=31) ?hd (xs:=([5,6]:List Int)) (inner:=[.int .i64 5,.int .i64 6]) (ok:=fun _=>True) (okp:=fun _=>True) ?hr ?hp (fun _ hk=>hk) trivial (Below.refl _ _) (Nat.le_refl _) (zz7) ?_;(case hd=>rfl);(case hg=>rfl);(case hr=>exact zz156);(case hp=>exact (wZ.one (show Kd.M (Kd.int .i64) _ _ _ 5 [.int .i64 5] from rfl) (wZ.one (show Kd.M (Kd.int .i64) _ _ _ 6 [.int .i64 6] from rfl) (wZ.none _ _))));intro v768 w21 ho22 hb hg_ hnew_;clear hg_ hnew_;(first|rw [← Ny767.out] at ho22|(simp only [Int.reduceToNat] at ho22;rw [← Ny767.out] at ho22));replace HO_1:=wA.mk (Kd.N_elder' (zz143) (Kd.R_base ho22) hb);replace HO_2:=wA.mk (Kd.R_below (zz154) hb);replace HO766:=wA.mk (Kd.V_elder' (have h0_:=HO766;zz41) (Kd.R_base ho22) hb);have HO769:=wA.mk (Kd.R_lower ho22 (wB (zz3)));replace HB:=wA.mk (wC (zz3) hb);clear hb ho22;obtain ⟨Ao23,co23,eo23⟩:=Kd.R_slice HO769.out;subst eo23)|((with_reducible refine wI (f:=18) rfl ?_);refine wR (some 32) rfl rfl Tryd.func18 (zz0) rfl #[.slice Ao20 y762.length co20,.slice Ao23 y767.length co23,.int .u64 1] rfl (zz20) ?_;(with_reducible refine (U30.calls kj6 _ _ y762 _ _ y767 1 t770 t771 t772 _ ?_ ?_ ?_ ?_ A18.out).mono ?_);(exact (have h0_:=HO766;zz170));(exact (have h0_:=HO766;zz172));(exact (have h0_:=HO769;zz162));(exact (have h0_:=HO769;zz164));rintro e w24 ⟨v773,rfl,ho0,hb⟩;refine ⟨_,rfl,?_⟩;replace HO_1:=wA.mk (Kd.N_elder' (zz143) (Kd.R_base ho0) hb);replace HO766:=wA.mk (Kd.V_elder' (have h0_:=HO766;zz41) (Kd.R_base ho0) hb);replace HO769:=wA.mk (Kd.R_below (have h0_:=HO769;zz31) hb);have HO774:=wA.mk (Kd.R_lower (Kd.R_new' ho0 (Kd.R_lt (zz154))) (wB (zz3)));replace HO_2:=wA.mk (Kd.R_elder' (zz154) (Kd.R_base ho0) hb);replace HB:=wA.mk (wC (zz3) hb);(try clear hb);(try clear ho0)))
      go_meet
      case rel=>exact ⟨_,(t771),(t772),(zz2),(zz2),H',⟨by have:=HJ0.out;have:=HJ6.out;first|omega|exact Nat.le_refl _⟩,⟨zz153⟩,⟨(have h0_:=HO_2;zz35)⟩,⟨zz3⟩⟩
     case rest =>
      clear HC16;obtain ⟨kq,x6_15,x7_15,rfl,rfl,HA,HJ15,HO_1,HO_2,HB⟩:=hcut
      cases kq with
      | zero=>exact absurd HA.out (by simp [U5.j2])
      | succ kj15 =>
       have H:=HA.out;clear HA;simp only [U5.j2] at H;have HC25:=wA.mk H;clear H
       go_upto_region 4 with (fail)
       go_cut [78] (fun v78 wc=>∃ (kq:Nat) (x78_24:Bool),v78 = .bool x78_24∧wA (U5.j3 kq x1_0 x2_6 x78_24 = some r)∧wA (kq≤kj15)∧wA (Kd.N k26 26 wc w.heap.size (fun _=>True) u1 x1_0)∧wA (Kd.R k44 44 wc w.heap.size (fun _=>True) u2 x2_6)∧wA (Below w.heap.size w wc))
       case first =>
        have H:=HC25.out;clear HC25;replace H:=zzj H;rcases H with ⟨c26,H⟩|⟨c26,H⟩
        ·have c26b0:=beq_iff_eq.mpr c26;have c26b1:=bne_eq_false_iff_eq.mpr c26;clear c26
         (first|rw [c26b0]|rw [c26b1]|(simp only [yS,zF];rw [c26b0])|skip);replace H:=zzj H;rcases H with ⟨c27,H⟩|⟨c27,H⟩
         ·have c27b0:=beq_iff_eq.mpr c27;have c27b1:=bne_eq_false_iff_eq.mpr c27;clear c27;replace H:=zzj H;rcases H with ⟨c28,H⟩|⟨c28,H⟩
          ·have c28b0:=beq_iff_eq.mpr c28;have c28b1:=bne_eq_false_iff_eq.mpr c28;clear c28
           exact absurd H (zz7)
          ·have c28b0:=beq_eq_false_iff_ne.mpr c28;have c28b1:=bne_iff_ne.mpr c28;replace H:=zzj H;rcases H with ⟨c29,H⟩|⟨c29,H⟩
           ·have c29b0:=beq_iff_eq.mpr c29;have c29b1:=bne_eq_false_iff_eq.mpr c29;clear c29;replace H:=zzj H;rcases H with ⟨c30,H⟩|⟨c30,H⟩
            ·have c30b0:=beq_iff_eq.mpr c30;have c30b1:=bne_eq_false_iff_eq.mpr c30;clear c30;replace H:=zzi H;obtain ⟨c31,H⟩:=H;have c31b0:=qM c31;have c31b1:decide (0 < x2_6.length) = true:=qM (zz1);clear c31;replace H:=zzj H;rcases H with ⟨c32,H⟩|⟨c32,H⟩
             ·have c32b0:=beq_iff_eq.mpr c32;have c32b1:=bne_eq_false_iff_eq.mpr c32;clear c32;replace H:=zzi H;obtain ⟨c33,H⟩:=H;have c33b0:=qM c33;have c33b1:decide (1 < x2_6.length) = true:=qM (zz1);clear c33;replace H:=zzj H;rcases H with ⟨c34,H⟩|⟨c34,H⟩
              ·have c34b0:=beq_iff_eq.mpr c34;have c34b1:=bne_eq_false_iff_eq.mpr c34;clear c34;replace H:=zzb H;obtain ⟨t778,A35,H⟩:=H;have H':=wA.mk H;clear H
               try go_wp2
               replace HO_1:=wA.mk (Kd.N_drew HO_1.out);replace HO_2:=wA.mk (Kd.R_drew HO_2.out);replace HB:=wA.mk (wS HB.out);obtain ⟨Ao37,co37,eo37⟩:=Kd.R_slice HO_2.out
               (first|subst eo37|(injection eo37 with f1_ f2_ f3_;have f4_:=f1_.symm;have f5_:=f3_.symm;clear f1_ f2_ f3_;subst f4_;subst f5_));have p775:0≤(0:Int):=(zz1);have q775:0 < (x2_6.length:Int):=qL (zz4);obtain ⟨ad775,e775,hx775_0,hx775_1⟩:=at_T44 (Kd.R_reads' HO_2.out).2.2 0 p775 q775
               cases e775
               have qi775:(0 < x2_6.length) = True:=eq_true (zz1)
               (try rw [show ((0:Int)).toNat = 0 from rfl] at hx775_0);(try rw [show 0 * 2 = 0 from rfl] at hx775_0);(try rw [Addr.add_zero'] at hx775_0);(try rw [show ((0:Int)).toNat = 0 from rfl] at hx775_1);(try rw [show 0 * 2 = 0 from rfl] at hx775_1);(try rw [Addr.add_zero'] at hx775_1);replace p775:=eq_true p775;replace q775:=eq_true q775;have p776:0≤(0:Int):=(zz1);have q776:0 < (x2_6.length:Int):=qL (zz4);obtain ⟨ad776,e776,hx776_0,hx776_1⟩:=at_T44 (Kd.R_reads' HO_2.out).2.2 0 p776 q776;obtain rfl:ad775 = ad776:=(by injection e776);have qi776:(0 < x2_6.length) = True:=eq_true (zz1)
               (try rw [show ((0:Int)).toNat = 0 from rfl] at hx776_0);(try rw [show 0 * 2 = 0 from rfl] at hx776_0);(try rw [Addr.add_zero'] at hx776_0);(try rw [show ((0:Int)).toNat = 0 from rfl] at hx776_1);(try rw [show 0 * 2 = 0 from rfl] at hx776_1);(try rw [Addr.add_zero'] at hx776_1);replace p776:=eq_true p776;replace q776:=eq_true q776;have p777:0≤(1:Int):=(zz1);have q777:1 < (x2_6.length:Int):=qL (zz4);obtain ⟨ad777,e777,hx777_0,hx777_1⟩:=at_T44 (Kd.R_reads' HO_2.out).2.2 1 p777 q777;obtain rfl:ad775 = ad777:=(by injection e777)
               (try simp only [show (1:Int).toNat = 1 from rfl,Nat.reduceMul,Nat.reduceEqDiff,Go.Addr.add,↓reduceIte] at hx777_0);(try simp only [show (1:Int).toNat = 1 from rfl,Nat.reduceMul,Nat.reduceEqDiff,Go.Addr.add,↓reduceIte] at hx777_1);have qi777:(1 < x2_6.length) = True:=eq_true (zz1)
               (try rw [show ((1:Int)).toNat = 1 from rfl] at hx777_0);(try rw [show 1 * 2 = 2 from rfl] at hx777_0);(try rw [show ((1:Int)).toNat = 1 from rfl] at hx777_1);(try rw [show 1 * 2 = 2 from rfl] at hx777_1);replace p777:=eq_true p777;replace q777:=eq_true q777;refine yP (n:=43) (S:=fun w'=>w'.cell? ad775 = some (.int .i64 ((rd_T44 x2_6 0).f0))∧w'.cell? ⟨ad775.block,ad775.off+1,none⟩ = some (.int .i64 ((rd_T44 x2_6 0).f1))∧w'.cell? ad775 = some (.int .i64 ((rd_T44 x2_6 0).f0))∧w'.cell? ⟨ad775.block,ad775.off+1,none⟩ = some (.int .i64 ((rd_T44 x2_6 0).f1))∧w'.cell? ⟨ad775.block,ad775.off+2,none⟩ = some (.int .i64 ((rd_T44 x2_6 1).f0))∧w'.cell? ⟨ad775.block,ad775.off+2+1,none⟩ = some (.int .i64 ((rd_T44 x2_6 1).f1))) (ds:=[]) #[fF,fF,fF,fF,fF,fF,fF,fF,fF,fF,fF,fF,fF,fF,fF,fF,fF,fF,fF,fF,fF,fF,fF,fF,fF,fF,fF,fF,fF,fF,fF,fF,fF,fF,fF,fF,fF,fF,fF,fF,fF,fF,fF] (zz0) rfl rfl ⟨hx775_0,hx775_1,hx776_0,hx776_1,hx777_0,hx777_1⟩ (fun hHeld=>?_);refine yG U5.tab4 U5.bits4 (fun HT_ HW_=>?_)
               generalize wc.drew = w36 at HO_1 HO_2 HB hx775_0 hx775_1 hx776_0 hx776_1 hx777_0 hx777_1 hHeld ⊢
               refine zzp 0 36 ?_ #[tT,fF,fF,fF,fF,fF,fF,fF,fF,fF,fF,fF,fF,fF,fF,fF,fF,fF,fF,fF,fF,fF,fF,fF,fF,fF,fF,fF,fF,fF,fF,fF,fF,fF,fF,fF,fF,fF,fF,fF,fF,fF,fF] rfl rfl (wJ HT_.out (zz0)) (fun _ _ _ h=>h) (Or.inl ⟨zz25,?_⟩) ?_ ?_ ?_;rotate_left
               ·intro w';go_simp;with_reducible rfl
               rotate_left;·simp only [zzs];rfl
               refine zzp 1 37 ?_ #[tT,tT,fF,fF,fF,fF,fF,fF,fF,fF,fF,fF,fF,fF,fF,fF,fF,fF,fF,fF,fF,fF,fF,fF,fF,fF,fF,fF,fF,fF,fF,fF,fF,fF,fF,fF,fF,fF,fF,fF,fF,fF,fF] rfl rfl (wJ HT_.out (zz0)) (fun _ _ _ h=>h) (Or.inl ⟨zz25,?_⟩) ?_ ?_ ?_;rotate_left
               ·intro w';go_simp;with_reducible rfl
               rotate_left;·simp only [zzs];rfl
               refine zzp 2 38 ?_ #[tT,tT,tT,fF,fF,fF,fF,fF,fF,fF,fF,fF,fF,fF,fF,fF,fF,fF,fF,fF,fF,fF,fF,fF,fF,fF,fF,fF,fF,fF,fF,fF,fF,fF,fF,fF,fF,fF,fF,fF,fF,fF,fF] rfl rfl (wJ HT_.out (zz0)) (fun _ _ _ h=>h) (Or.inl ⟨zz25,?_⟩) ?_ ?_ ?_;rotate_left
               ·intro w';go_simp;with_reducible rfl
               rotate_left;·simp only [zzs];rfl
               refine zzp 3 39 ?_ #[tT,tT,tT,tT,fF,fF,fF,fF,fF,fF,fF,fF,fF,fF,fF,fF,fF,fF,fF,fF,fF,fF,fF,fF,fF,fF,fF,fF,fF,fF,fF,fF,fF,fF,fF,fF,fF,fF,fF,fF,fF,fF,fF] rfl rfl (wJ HT_.out (zz0)) (fun _ _ _ h=>h) (Or.inl ⟨zz25,?_⟩) ?_ ?_ ?_;rotate_left
               ·intro w';go_simp;with_reducible rfl
               rotate_left;·simp only [zzs];rfl
               refine zzp 4 40 ?_ #[tT,tT,tT,tT,tT,fF,fF,fF,fF,fF,fF,fF,fF,fF,fF,fF,fF,fF,fF,fF,fF,fF,fF,fF,fF,fF,fF,fF,fF,fF,fF,fF,fF,fF,fF,fF,fF,fF,fF,fF,fF,fF,fF] rfl rfl (wJ HT_.out (zz0)) (fun _ _ _ h=>h) (Or.inl ⟨zz25,?_⟩) ?_ ?_ ?_;rotate_left
               ·intro w';go_simp;with_reducible rfl
               rotate_left;·simp only [zzs];rfl
               refine zzp 5 41 ?_ #[tT,tT,tT,tT,tT,tT,fF,fF,fF,fF,fF,fF,fF,fF,fF,fF,fF,fF,fF,fF,fF,fF,fF,fF,fF,fF,fF,fF,fF,fF,fF,fF,fF,fF,fF,fF,fF,fF,fF,fF,fF,fF,fF] rfl rfl (wJ HT_.out (zz0)) (fun _ _ _ h=>h) (Or.inl ⟨zz25,?_⟩) ?_ ?_ ?_;rotate_left
               ·intro w';go_simp;with_reducible rfl
               rotate_left;·simp only [zzs];rfl
               refine zzp 6 42 ?_ #[tT,tT,tT,tT,tT,tT,tT,fF,fF,fF,fF,fF,fF,fF,fF,fF,fF,fF,fF,fF,fF,fF,fF,fF,fF,fF,fF,fF,fF,fF,fF,fF,fF,fF,fF,fF,fF,fF,fF,fF,fF,fF,fF] rfl rfl (wJ HT_.out (zz0)) (fun _ _ _ h=>h) (Or.inl ⟨zz25,?_⟩) ?_ ?_ ?_;rotate_left
               ·intro w';go_simp;with_reducible rfl
               rotate_left;·simp only [zzs];rfl
               refine zzp 7 43 ?_ #[tT,tT,tT,tT,tT,tT,tT,tT,fF,fF,fF,fF,fF,fF,fF,fF,fF,fF,fF,fF,fF,fF,fF,fF,fF,fF,fF,fF,fF,fF,fF,fF,fF,fF,fF,fF,fF,fF,fF,fF,fF,fF,fF] rfl rfl (wJ HT_.out (zz0)) (fun _ _ _ h=>h) (Or.inl ⟨zz25,?_⟩) ?_ ?_ ?_;rotate_left
               ·intro w';go_simp;with_reducible rfl
               rotate_left;·simp only [zzs];rfl
               refine zzp 8 44 ?_ #[tT,tT,tT,tT,tT,tT,tT,tT,tT,fF,fF,fF,fF,fF,fF,fF,fF,fF,fF,fF,fF,fF,fF,fF,fF,fF,fF,fF,fF,fF,fF,fF,fF,fF,fF,fF,fF,fF,fF,fF,fF,fF,fF] rfl rfl (wJ HT_.out (zz0)) (fun _ _ _ h=>h) (Or.inl ⟨zz25,?_⟩) ?_ ?_ ?_;rotate_left
               ·intro w';go_simp;with_reducible rfl
               rotate_left;·simp only [zzs];rfl
               refine zzp 9 45 ?_ #[tT,tT,tT,tT,tT,tT,tT,tT,tT,tT,fF,fF,fF,fF,fF,fF,fF,fF,fF,fF,fF,fF,fF,fF,fF,fF,fF,fF,fF,fF,fF,fF,fF,fF,fF,fF,fF,fF,fF,fF,fF,fF,fF] rfl rfl (wJ HT_.out (zz0)) (fun _ _ _ h=>h) (Or.inl ⟨zz25,?_⟩) ?_ ?_ ?_;rotate_left
               ·intro w';go_simp;with_reducible rfl
               rotate_left;·simp only [zzs];rfl
               refine zzp 10 46 ?_ #[tT,tT,tT,tT,tT,tT,tT,tT,tT,tT,tT,fF,fF,fF,fF,fF,fF,fF,fF,fF,fF,fF,fF,fF,fF,fF,fF,fF,fF,fF,fF,fF,fF,fF,fF,fF,fF,fF,fF,fF,fF,fF,fF] rfl rfl (wJ HT_.out (zz0)) (fun _ _ _ h=>h) (Or.inl ⟨zz25,?_⟩) ?_ ?_ ?_;rotate_left
               ·intro w';go_simp;with_reducible rfl
               rotate_left;·simp only [zzs];rfl
               refine zzp 11 47 ?_ #[tT,tT,tT,tT,tT,tT,tT,tT,tT,tT,tT,tT,fF,fF,fF,fF,fF,fF,fF,fF,fF,fF,fF,fF,fF,fF,fF,fF,fF,fF,fF,fF,fF,fF,fF,fF,fF,fF,fF,fF,fF,fF,fF] rfl rfl (wJ HT_.out (zz0)) (fun _ _ _ h=>h) (Or.inl ⟨zz25,?_⟩) ?_ ?_ ?_;rotate_left
               ·intro w';go_simp;with_reducible rfl
               rotate_left;·simp only [zzs];rfl
               refine zzp 12 48 ?_ #[tT,tT,tT,tT,tT,tT,tT,tT,tT,tT,tT,tT,tT,fF,fF,fF,fF,fF,fF,fF,fF,fF,fF,fF,fF,fF,fF,fF,fF,fF,fF,fF,fF,fF,fF,fF,fF,fF,fF,fF,fF,fF,fF] rfl rfl (wJ HT_.out (zz0)) (fun _ _ _ h=>h) (Or.inl ⟨zz25,?_⟩) ?_ ?_ ?_;rotate_left
               ·intro w';go_simp;with_reducible rfl
               rotate_left;·simp only [zzs];rfl
               refine zzp 13 49 ?_ #[tT,tT,tT,tT,tT,tT,tT,tT,tT,tT,tT,tT,tT,tT,fF,fF,fF,fF,fF,fF,fF,fF,fF,fF,fF,fF,fF,fF,fF,fF,fF,fF,fF,fF,fF,fF,fF,fF,fF,fF,fF,fF,fF] rfl rfl (wJ HT_.out (zz0)) (fun _ _ _ h=>h) (Or.inl ⟨zz25,?_⟩) ?_ ?_ ?_;rotate_left
               ·intro w';go_simp;with_reducible rfl
               rotate_left;·simp only [zzs];rfl
               refine zzp 14 50 ?_ #[tT,tT,tT,tT,tT,tT,tT,tT,tT,tT,tT,tT,tT,tT,tT,fF,fF,fF,fF,fF,fF,fF,fF,fF,fF,fF,fF,fF,fF,fF,fF,fF,fF,fF,fF,fF,fF,fF,fF,fF,fF,fF,fF] rfl rfl (wJ HT_.out (zz0)) (fun _ _ _ h=>h) (Or.inl ⟨zz25,?_⟩) ?_ ?_ ?_;rotate_left
               ·intro w';go_simp;with_reducible rfl
               rotate_left;·simp only [zzs];rfl
               refine zzp 15 51 ?_ #[tT,tT,tT,tT,tT,tT,tT,tT,tT,tT,tT,tT,tT,tT,tT,tT,fF,fF,fF,fF,fF,fF,fF,fF,fF,fF,fF,fF,fF,fF,fF,fF,fF,fF,fF,fF,fF,fF,fF,fF,fF,fF,fF] rfl rfl (wJ HT_.out (zz0)) (fun _ _ _ h=>h) (Or.inl ⟨zz25,?_⟩) ?_ ?_ ?_;rotate_left
               ·intro w';go_simp;with_reducible rfl
               rotate_left;·simp only [zzs];rfl
               refine zzp 16 52 ?_ #[tT,tT,tT,tT,tT,tT,tT,tT,tT,tT,tT,tT,tT,tT,tT,tT,tT,fF,fF,fF,fF,fF,fF,fF,fF,fF,fF,fF,fF,fF,fF,fF,fF,fF,fF,fF,fF,fF,fF,fF,fF,fF,fF] rfl rfl (wJ HT_.out (zz0)) (fun _ _ _ h=>h) (Or.inl ⟨zz25,?_⟩) ?_ ?_ ?_;rotate_left
               ·intro w';go_simp;with_reducible rfl
               rotate_left;·simp only [zzs];rfl
               refine zzp 17 53 ?_ #[tT,tT,tT,tT,tT,tT,tT,tT,tT,tT,tT,tT,tT,tT,tT,tT,tT,tT,fF,fF,fF,fF,fF,fF,fF,fF,fF,fF,fF,fF,fF,fF,fF,fF,fF,fF,fF,fF,fF,fF,fF,fF,fF] rfl rfl (wJ HT_.out (zz0)) (fun _ _ _ h=>h) (Or.inl ⟨zz25,?_⟩) ?_ ?_ ?_;rotate_left
               ·intro w';go_simp;with_reducible rfl
               rotate_left;·simp only [zzs];rfl
               refine zzp 18 54 ?_ #[tT,tT,tT,tT,tT,tT,tT,tT,tT,tT,tT,tT,tT,tT,tT,tT,tT,tT,tT,fF,fF,fF,fF,fF,fF,fF,fF,fF,fF,fF,fF,fF,fF,fF,fF,fF,fF,fF,fF,fF,fF,fF,fF] rfl rfl (wJ HT_.out (zz0)) (fun _ _ _ h=>h) (Or.inl ⟨zz25,?_⟩) ?_ ?_ ?_;rotate_left
               ·intro w';go_simp;with_reducible rfl
               rotate_left;·simp only [zzs];rfl
               refine zzp 19 55 ?_ #[tT,tT,tT,tT,tT,tT,tT,tT,tT,tT,tT,tT,tT,tT,tT,tT,tT,tT,tT,tT,fF,fF,fF,fF,fF,fF,fF,fF,fF,fF,fF,fF,fF,fF,fF,fF,fF,fF,fF,fF,fF,fF,fF] rfl rfl (wJ HT_.out (zz0)) (fun _ _ _ h=>h) (Or.inl ⟨zz25,?_⟩) ?_ ?_ ?_;rotate_left
               ·intro w';go_simp;with_reducible rfl
               rotate_left;·simp only [zzs];rfl
               refine zzp 20 56 ?_ #[tT,tT,tT,tT,tT,tT,tT,tT,tT,tT,tT,tT,tT,tT,tT,tT,tT,tT,tT,tT,tT,fF,fF,fF,fF,fF,fF,fF,fF,fF,fF,fF,fF,fF,fF,fF,fF,fF,fF,fF,fF,fF,fF] rfl rfl (wJ HT_.out (zz0)) (fun _ _ _ h=>h) (Or.inl ⟨zz25,?_⟩) ?_ ?_ ?_;rotate_left
               ·intro w';go_simp;with_reducible rfl
               rotate_left;·simp only [zzs];rfl
               refine zzp 21 57 ?_ #[tT,tT,tT,tT,tT,tT,tT,tT,tT,tT,tT,tT,tT,tT,tT,tT,tT,tT,tT,tT,tT,tT,fF,fF,fF,fF,fF,fF,fF,fF,fF,fF,fF,fF,fF,fF,fF,fF,fF,fF,fF,fF,fF] rfl rfl (wJ HT_.out (zz0)) (fun _ _ _ h=>h) (Or.inl ⟨zz25,?_⟩) ?_ ?_ ?_;rotate_left
               ·intro w';go_simp;with_reducible rfl
               rotate_left;·simp only [zzs];rfl
               refine zzp 22 58 ?_ #[tT,tT,tT,tT,tT,tT,tT,tT,tT,tT,tT,tT,tT,tT,tT,tT,tT,tT,tT,tT,tT,tT,tT,fF,fF,fF,fF,fF,fF,fF,fF,fF,fF,fF,fF,fF,fF,fF,fF,fF,fF,fF,fF] rfl rfl (wJ HT_.out (zz0)) (fun _ _ _ h=>h) (Or.inl ⟨zz25,?_⟩) ?_ ?_ ?_;rotate_left
               ·intro w';go_simp;with_reducible rfl
               rotate_left;·simp only [zzs];rfl
               refine take_ (i:=23) (N:=some 59) (v:=?_) (a':=?_) #[tT,tT,tT,tT,tT,tT,tT,tT,tT,tT,tT,tT,tT,tT,tT,tT,tT,tT,tT,tT,tT,tT,tT,tT,fF,fF,fF,fF,fF,fF,fF,fF,fF,fF,fF,fF,fF,fF,fF,fF,fF,fF,fF] rfl rfl (wU HT_.out HW_.out (zz0)) (fun _ _ _ h=>h) (Or.inl ⟨zz25,?_⟩) hHeld ?_ ?_;rotate_left
               ·rintro w' ⟨s0,s1,s2,s3,s4,s5⟩
                go_simp
                with_reducible rfl
               rotate_left;·simp only [zzs];rfl
               refine zzp 24 60 ?_ #[tT,tT,tT,tT,tT,tT,tT,tT,tT,tT,tT,tT,tT,tT,tT,tT,tT,tT,tT,tT,tT,tT,tT,tT,tT,fF,fF,fF,fF,fF,fF,fF,fF,fF,fF,fF,fF,fF,fF,fF,fF,fF,fF] rfl rfl (wJ HT_.out (zz0)) (fun _ _ _ h=>h) (Or.inl ⟨zz25,?_⟩) ?_ ?_ ?_;rotate_left
               ·intro w';go_simp;with_reducible rfl
               rotate_left;·simp only [zzs];rfl
               refine zzp 25 61 ?_ #[tT,tT,tT,tT,tT,tT,tT,tT,tT,tT,tT,tT,tT,tT,tT,tT,tT,tT,tT,tT,tT,tT,tT,tT,tT,tT,fF,fF,fF,fF,fF,fF,fF,fF,fF,fF,fF,fF,fF,fF,fF,fF,fF] rfl rfl (wJ HT_.out (zz0)) (fun _ _ _ h=>h) (Or.inl ⟨zz25,?_⟩) ?_ ?_ ?_;rotate_left
               ·intro w';go_simp;with_reducible rfl
               rotate_left;·simp only [zzs];rfl
               refine zzp 26 62 ?_ #[tT,tT,tT,tT,tT,tT,tT,tT,tT,tT,tT,tT,tT,tT,tT,tT,tT,tT,tT,tT,tT,tT,tT,tT,tT,tT,tT,fF,fF,fF,fF,fF,fF,fF,fF,fF,fF,fF,fF,fF,fF,fF,fF] rfl rfl (wJ HT_.out (zz0)) (fun _ _ _ h=>h) (Or.inl ⟨zz25,?_⟩) ?_ ?_ ?_;rotate_left
               ·intro w';go_simp;with_reducible rfl
               rotate_left;·simp only [zzs];rfl
               refine zzp 27 63 ?_ #[tT,tT,tT,tT,tT,tT,tT,tT,tT,tT,tT,tT,tT,tT,tT,tT,tT,tT,tT,tT,tT,tT,tT,tT,tT,tT,tT,tT,fF,fF,fF,fF,fF,fF,fF,fF,fF,fF,fF,fF,fF,fF,fF] rfl rfl (wJ HT_.out (zz0)) (fun _ _ _ h=>h) (Or.inl ⟨zz25,?_⟩) ?_ ?_ ?_;rotate_left
               ·intro w';go_simp;with_reducible rfl
               rotate_left;·simp only [zzs];rfl
               refine zzp 28 64 ?_ #[tT,tT,tT,tT,tT,tT,tT,tT,tT,tT,tT,tT,tT,tT,tT,tT,tT,tT,tT,tT,tT,tT,tT,tT,tT,tT,tT,tT,tT,fF,fF,fF,fF,fF,fF,fF,fF,fF,fF,fF,fF,fF,fF] rfl rfl (wJ HT_.out (zz0)) (fun _ _ _ h=>h) (Or.inl ⟨zz25,?_⟩) ?_ ?_ ?_;rotate_left
               ·intro w';go_simp;with_reducible rfl
               rotate_left;·simp only [zzs];rfl
               refine zzp 29 65 ?_ #[tT,tT,tT,tT,tT,tT,tT,tT,tT,tT,tT,tT,tT,tT,tT,tT,tT,tT,tT,tT,tT,tT,tT,tT,tT,tT,tT,tT,tT,tT,fF,fF,fF,fF,fF,fF,fF,fF,fF,fF,fF,fF,fF] rfl rfl (wJ HT_.out (zz0)) (fun _ _ _ h=>h) (Or.inl ⟨zz25,?_⟩) ?_ ?_ ?_;rotate_left
               ·intro w';go_simp;with_reducible rfl
               rotate_left;·simp only [zzs];rfl
               refine zzp 31 67 ?_ #[tT,tT,tT,tT,tT,tT,tT,tT,tT,tT,tT,tT,tT,tT,tT,tT,tT,tT,tT,tT,tT,tT,tT,tT,tT,tT,tT,tT,tT,tT,fF,tT,fF,fF,fF,fF,fF,fF,fF,fF,fF,fF,fF] rfl rfl (wJ HT_.out (zz0)) (fun _ _ _ h=>h) (Or.inl ⟨zz25,?_⟩) ?_ ?_ ?_;rotate_left
               ·intro w';go_simp;with_reducible rfl
               rotate_left;·simp only [zzs];rfl
               refine zzp 32 68 ?_ #[tT,tT,tT,tT,tT,tT,tT,tT,tT,tT,tT,tT,tT,tT,tT,tT,tT,tT,tT,tT,tT,tT,tT,tT,tT,tT,tT,tT,tT,tT,fF,tT,tT,fF,fF,fF,fF,fF,fF,fF,fF,fF,fF] rfl rfl (wJ HT_.out (zz0)) (fun _ _ _ h=>h) (Or.inl ⟨zz25,?_⟩) ?_ ?_ ?_;rotate_left
               ·intro w';go_simp;with_reducible rfl
               rotate_left;·simp only [zzs];rfl
               refine zzp 33 69 ?_ #[tT,tT,tT,tT,tT,tT,tT,tT,tT,tT,tT,tT,tT,tT,tT,tT,tT,tT,tT,tT,tT,tT,tT,tT,tT,tT,tT,tT,tT,tT,fF,tT,tT,tT,fF,fF,fF,fF,fF,fF,fF,fF,fF] rfl rfl (wJ HT_.out (zz0)) (fun _ _ _ h=>h) (Or.inl ⟨zz25,?_⟩) ?_ ?_ ?_;rotate_left
               ·intro w';go_simp;with_reducible rfl
               rotate_left;·simp only [zzs];rfl
               refine take_ (i:=30) (N:=some 66) (v:=?_) (a':=?_) #[tT,tT,tT,tT,tT,tT,tT,tT,tT,tT,tT,tT,tT,tT,tT,tT,tT,tT,tT,tT,tT,tT,tT,tT,tT,tT,tT,tT,tT,tT,tT,tT,tT,tT,fF,fF,fF,fF,fF,fF,fF,fF,fF] rfl rfl (wU HT_.out HW_.out (zz0)) (fun _ _ _ h=>h) (Or.inl ⟨zz25,?_⟩) hHeld ?_ ?_;rotate_left
               ·rintro w' ⟨s0,s1,s2,s3,s4,s5⟩
                go_simp
                with_reducible rfl
               rotate_left;·simp only [zzs];rfl
               refine take_ (i:=34) (N:=some 70) (v:=?_) (a':=?_) #[tT,tT,tT,tT,tT,tT,tT,tT,tT,tT,tT,tT,tT,tT,tT,tT,tT,tT,tT,tT,tT,tT,tT,tT,tT,tT,tT,tT,tT,tT,tT,tT,tT,tT,tT,fF,fF,fF,fF,fF,fF,fF,fF] rfl rfl (wU HT_.out HW_.out (zz0)) (fun _ _ _ h=>h) (Or.inl ⟨zz25,?_⟩) hHeld ?_ ?_;rotate_left
               ·rintro w' ⟨s0,s1,s2,s3,s4,s5⟩
                go_simp
                with_reducible rfl
               rotate_left;·simp only [zzs];rfl
               refine zzp 35 71 ?_ #[tT,tT,tT,tT,tT,tT,tT,tT,tT,tT,tT,tT,tT,tT,tT,tT,tT,tT,tT,tT,tT,tT,tT,tT,tT,tT,tT,tT,tT,tT,tT,tT,tT,tT,tT,tT,fF,fF,fF,fF,fF,fF,fF] rfl rfl (wJ HT_.out (zz0)) (fun _ _ _ h=>h) (Or.inl ⟨zz25,?_⟩) ?_ ?_ ?_;rotate_left
               ·intro w';go_simp;with_reducible rfl
               rotate_left;·simp only [zzs];rfl
               refine zzp 36 72 ?_ #[tT,tT,tT,tT,tT,tT,tT,tT,tT,tT,tT,tT,tT,tT,tT,tT,tT,tT,tT,tT,tT,tT,tT,tT,tT,tT,tT,tT,tT,tT,tT,tT,tT,tT,tT,tT,tT,fF,fF,fF,fF,fF,fF] rfl rfl (wJ HT_.out (zz0)) (fun _ _ _ h=>h) (Or.inl ⟨zz25,?_⟩) ?_ ?_ ?_;rotate_left
               ·intro w';go_simp;with_reducible rfl
               rotate_left;·simp only [zzs];rfl
               refine zzp 37 73 ?_ #[tT,tT,tT,tT,tT,tT,tT,tT,tT,tT,tT,tT,tT,tT,tT,tT,tT,tT,tT,tT,tT,tT,tT,tT,tT,tT,tT,tT,tT,tT,tT,tT,tT,tT,tT,tT,tT,tT,fF,fF,fF,fF,fF] rfl rfl (wJ HT_.out (zz0)) (fun _ _ _ h=>h) (Or.inl ⟨zz25,?_⟩) ?_ ?_ ?_;rotate_left
               ·intro w';go_simp;with_reducible rfl
               rotate_left;·simp only [zzs];rfl
               refine zzp 38 74 ?_ #[tT,tT,tT,tT,tT,tT,tT,tT,tT,tT,tT,tT,tT,tT,tT,tT,tT,tT,tT,tT,tT,tT,tT,tT,tT,tT,tT,tT,tT,tT,tT,tT,tT,tT,tT,tT,tT,tT,tT,fF,fF,fF,fF] rfl rfl (wJ HT_.out (zz0)) (fun _ _ _ h=>h) (Or.inl ⟨zz25,?_⟩) ?_ ?_ ?_;rotate_left
               ·intro w';go_simp;with_reducible rfl
               rotate_left;·simp only [zzs];rfl
               refine zzp 39 75 ?_ #[tT,tT,tT,tT,tT,tT,tT,tT,tT,tT,tT,tT,tT,tT,tT,tT,tT,tT,tT,tT,tT,tT,tT,tT,tT,tT,tT,tT,tT,tT,tT,tT,tT,tT,tT,tT,tT,tT,tT,tT,fF,fF,fF] rfl rfl (wJ HT_.out (zz0)) (fun _ _ _ h=>h) (Or.inl ⟨zz25,?_⟩) ?_ ?_ ?_;rotate_left
               ·intro w';go_simp;with_reducible rfl
               rotate_left;·simp only [zzs];rfl
               refine zA (i:=40) (N:=some 76) #[tT,tT,tT,tT,tT,tT,tT,tT,tT,tT,tT,tT,tT,tT,tT,tT,tT,tT,tT,tT,tT,tT,tT,tT,tT,tT,tT,tT,tT,tT,tT,tT,tT,tT,tT,tT,tT,tT,tT,tT,tT,fF,fF] rfl rfl (yO HT_.out (zz0)) (zz26) (fun K hK=>?_);refine yT Tryd.func15 (zz0) rfl #[.slice (some ad775) x2_6.length co37,.int .i64 1] (zz25) rfl rfl (zz20) ?_
               with_reducible refine (U34.calls kj15 _ _ x2_6 1 t778 _ ?side1 ?side2 A35.out).mono ?_
               (case side1=>exact (have h0_:=HO_2;zz162));(case side2=>exact (have h0_:=HO_2;zz164));rintro e w38 ⟨rfl,hb⟩;have HS0_:=(hb.cell (qK _ _ (hHeld.1))).trans (hHeld.1);have HS1_:=(hb.cell (qK _ _ (hHeld.2.1))).trans (hHeld.2.1);have HS2_:=(hb.cell (qK _ _ (hHeld.2.2.1))).trans (hHeld.2.2.1);have HS3_:=(hb.cell (qK _ _ (hHeld.2.2.2.1))).trans (hHeld.2.2.2.1);have HS4_:=(hb.cell (qK _ _ (hHeld.2.2.2.2.1))).trans (hHeld.2.2.2.2.1);have HS5_:=(hb.cell (qK _ _ (hHeld.2.2.2.2.2))).trans (hHeld.2.2.2.2.2);refine ⟨_,rfl,?_⟩;replace HO_1:=wA.mk (Kd.N_below (zz143) hb);replace HO_2:=wA.mk (Kd.R_below (zz154) hb);replace HB:=wA.mk (wC (zz3) hb)
               (try clear hb);refine hK.out _ _ ⟨HS0_,HS1_,HS2_,HS3_,HS4_,HS5_⟩ (fun hHeld=>?_);clear hK K;refine yB (a':=?_) ?_ ?_;rotate_left
               ·show Act.put _ (some 76) _ = _;simp only [zzs];rfl
               refine zzp 41 77 ?_ #[tT,tT,tT,tT,tT,tT,tT,tT,tT,tT,tT,tT,tT,tT,tT,tT,tT,tT,tT,tT,tT,tT,tT,tT,tT,tT,tT,tT,tT,tT,tT,tT,tT,tT,tT,tT,tT,tT,tT,tT,tT,tT,fF] rfl rfl (wJ HT_.out (zz0)) (fun _ _ _ h=>h) (Or.inl ⟨zz25,?_⟩) ?_ ?_ ?_;rotate_left
               ·intro w';go_simp;with_reducible rfl
               rotate_left;·simp only [zzs];rfl
               refine zzp 42 78 ?_ #[tT,tT,tT,tT,tT,tT,tT,tT,tT,tT,tT,tT,tT,tT,tT,tT,tT,tT,tT,tT,tT,tT,tT,tT,tT,tT,tT,tT,tT,tT,tT,tT,tT,tT,tT,tT,tT,tT,tT,tT,tT,tT,tT] rfl rfl (wJ HT_.out (zz0)) (fun _ _ _ h=>h) (Or.inl ⟨zz25,?_⟩) ?_ ?_ ?_;rotate_left
               ·intro w';go_simp;with_reducible rfl
               rotate_left;·simp only [zzs];rfl
               refine yX (yQ HT_.out (zz0)) ?_
               try go_wp2
               go_meet
               case rel=>exact ⟨_,((t778 != 1)),(zz2),H',⟨by have:=HJ0.out;have:=HJ6.out;have:=HJ15.out;first|omega|exact Nat.le_refl _⟩,⟨zz143⟩,⟨zz154⟩,⟨zz3⟩⟩
              ·have c34b0:=beq_eq_false_iff_ne.mpr c34;have c34b1:=bne_iff_ne.mpr c34
               exact absurd H (zz7)
             ·have c32b0:=beq_eq_false_iff_ne.mpr c32;have c32b1:=bne_iff_ne.mpr c32
              exact absurd H (zz7)
            ·have c30b0:=beq_eq_false_iff_ne.mpr c30;have c30b1:=bne_iff_ne.mpr c30
             exact absurd H (zz7)
           ·have c29b0:=beq_eq_false_iff_ne.mpr c29;have c29b1:=bne_iff_ne.mpr c29
            exact absurd H (zz7)
         ·have c27b0:=beq_eq_false_iff_ne.mpr c27;have c27b1:=bne_iff_ne.mpr c27
          exact absurd H (zz7)
        ·have c26b0:=beq_eq_false_iff_ne.mpr c26;have c26b1:=bne_iff_ne.mpr c26
         (first|rw [c26b0]|rw [c26b1]|(simp only [yS,zF];rw [c26b0])|skip);exact absurd H (zz7)
       case rest =>
        clear HC25;obtain ⟨kq,x78_24,rfl,HA,HJ24,HO_1,HO_2,HB⟩:=hcut
        cases kq with
        | zero=>exact absurd HA.out (by simp [U5.j3])
        | succ kj24 =>
         have H:=HA.out;clear HA;simp only [U5.j3] at H;by_cases c39:x78_24 = true
         ·subst c39;have H1:(none) = some r:=zz18;clear H;have H:=H1;clear H1
          exact absurd H (zz7)
         ·replace c39:=Bool.eq_false_iff.mpr c39;subst c39;have H1:((U37.f kj24 x1_0).bind fun t779=>(if t779 = 0 then ((U37.f kj24 (([(⟨2,0,([]:List Int)⟩:S26),(⟨2,0,([]:List Int)⟩:S26)]:List (S26)))).bind fun t783=>(if t783 = 23 then (if 2 < (x1_0.length:Int) then ((U35.f kj24 ((rd_T26 x1_0 2).f0) ((rd_T26 x1_0 2).f1) ((rd_T26 x1_0 2).f2) 5).bind fun t785=>(if t785 = true then (none) else ((U35.f kj24 ((rd_T26 x1_0 2).f0) ((rd_T26 x1_0 2).f1) ((rd_T26 x1_0 2).f2) 6).bind fun t787=>(if t787 = true then ((U31.f kj24 x1_0 (([5]:List Int)) x2_6).bind fun t791=>(U5.j4 kj24 x1_0 x2_6 (t791 != 0))) else (none))))) else (none)) else (none))) else (none))) = some r:=zz19;clear H;have H:=H1;clear H1;have HC40:=wA.mk H;clear H
          go_upto_region 6 with (fail)
          go_cut [108] (fun v108 wc=>∃ (kq:Nat) (x108_39:Bool),v108 = .bool x108_39∧wA (U5.j4 kq x1_0 x2_6 x108_39 = some r)∧wA (kq≤kj24)∧wA (Kd.N k26 26 wc w.heap.size (fun _=>True) u1 x1_0)∧wA (Kd.R k44 44 wc w.heap.size (fun _=>True) u2 x2_6)∧wA (Below w.heap.size w wc))
          case first =>
           have H:=HC40.out;clear HC40;replace H:=zzb H;obtain ⟨t779,A41,H⟩:=H;replace H:=zzi H;obtain ⟨c42,H⟩:=H;have c42b0:=beq_iff_eq.mpr c42;have c42b1:=bne_eq_false_iff_eq.mpr c42;clear c42
           (first|rw [c42b0]|rw [c42b1]|(simp only [yS,zF];rw [c42b0])|skip);obtain ⟨y780,hy780⟩:∃ y_:List (S26),y_ = (([(⟨2,0,([]:List Int)⟩:S26),(⟨2,0,([]:List Int)⟩:S26)]:List (S26))):=⟨_,rfl⟩;replace H:((U37.f kj24 y780).bind fun t783=>(if t783 = 23 then (if 2 < (x1_0.length:Int) then ((U35.f kj24 ((rd_T26 x1_0 2).f0) ((rd_T26 x1_0 2).f1) ((rd_T26 x1_0 2).f2) 5).bind fun t785=>(if t785 = true then (none) else ((U35.f kj24 ((rd_T26 x1_0 2).f0) ((rd_T26 x1_0 2).f1) ((rd_T26 x1_0 2).f2) 6).bind fun t787=>(if t787 = true then ((U31.f kj24 x1_0 (([5]:List Int)) x2_6).bind fun t791=>(U5.j4 kj24 x1_0 x2_6 (t791 != 0))) else (none))))) else (none)) else (none))) = some r:=(have h0_:=hy780;zz30);have Ny780:=wA.mk hy780;clear hy780;replace H:=zzb H;obtain ⟨t783,A43,H⟩:=H;replace H:=zzi H;obtain ⟨c44,H⟩:=H;have c44b0:=beq_iff_eq.mpr c44;have c44b1:=bne_eq_false_iff_eq.mpr c44;clear c44;replace H:=zzi H;obtain ⟨c45,H⟩:=H;have c45b0:=qM c45;have c45b1:decide (2 < x1_0.length) = true:=qM (zz1);clear c45;replace H:=zzb H;obtain ⟨t785,A46,H⟩:=H;by_cases c47:t785 = true
           ·subst c47;have H1:(none) = some r:=zz18;clear H;have H:=H1;clear H1
            exact absurd H (zz7)
           ·replace c47:=Bool.eq_false_iff.mpr c47;subst c47;have H1:((U35.f kj24 ((rd_T26 x1_0 2).f0) ((rd_T26 x1_0 2).f1) ((rd_T26 x1_0 2).f2) 6).bind fun t787=>(if t787 = true then ((U31.f kj24 x1_0 (([5]:List Int)) x2_6).bind fun t791=>(U5.j4 kj24 x1_0 x2_6 (t791 != 0))) else (none))) = some r:=zz19;clear H;have H:=H1;clear H1;replace H:=zzb H;obtain ⟨t787,A48,H⟩:=H;by_cases c49:t787 = true
            ·subst c49;have H1:((U31.f kj24 x1_0 (([5]:List Int)) x2_6).bind fun t791=>(U5.j4 kj24 x1_0 x2_6 (t791 != 0))) = some r:=zz18;clear H;have H:=H1;clear H1;obtain ⟨y788,hy788⟩:∃ y_:List Int,y_ = (([5]:List Int)):=⟨_,rfl⟩;replace H:((U31.f kj24 x1_0 y788 x2_6).bind fun t791=>(U5.j4 kj24 x1_0 x2_6 (t791 != 0))) = some r:=(have h0_:=hy788;zz30);have Ny788:=wA.mk hy788;clear hy788;replace H:=zzb H;obtain ⟨t791,A50,H⟩:=H;have H':=wA.mk H;clear H;obtain ⟨Ao51,co51,eo51⟩:=Kd.N_slice HO_1.out;subst eo51
             go_wp2_with (first|((with_reducible refine wI (f:=9) rfl ?_);refine wR (some 80) rfl rfl Tryd.func9 (zz0) rfl #[.slice Ao51 x1_0.length co51] rfl (zz20) ?_;(with_reducible refine (U37.calls kj24 _ _ x1_0 t779 _ ?_ ?_ A41.out).mono ?_);(exact (have h0_:=HO_1;zz176));exact (Kd.N_reads' HO_1.out).2.1;rintro e w52 ⟨rfl,hb⟩;refine ⟨_,rfl,?_⟩;replace HO_1:=wA.mk (Kd.N_below (zz143) hb);replace HO_2:=wA.mk (Kd.R_below (zz154) hb);replace HB:=wA.mk (wC (zz3) hb);(try clear hb))|((with_reducible refine wL (N:=85) rfl ?_);(try (refine yK (zz25) ?_;dsimp only));refine Kd.N_lit k26 _ 26 ?hg (N':=85) ?hd (xs:=([(⟨2,0,([]:List Int)⟩:S26),(⟨2,0,([]:List Int)⟩:S26)]:List (S26))) (inner:=[.int .i64 2,.int .i64 0,.slice none 0 0,.int .i64 2,.int .i64 0,.slice none 0 0]) (ok:=(fun k_=>some k_ ≠ (.slice Ao51 x1_0.length co51:Value).ownBlock∧some k_ ≠ (u2:Value).ownBlock)) (okp:=(fun k_=>some k_ ≠ (.slice Ao51 x1_0.length co51:Value).ownBlock∧some k_ ≠ (u2:Value).ownBlock)) ?hr ?hp (fun _ hk=>hk) ((show ∀k_,w52.heap.size≤k_→(fun k_=>some k_ ≠ (.slice Ao51 x1_0.length co51:Value).ownBlock∧some k_ ≠ (u2:Value).ownBlock) k_ from fun k_ hk=>⟨Kd.fresh' (Kd.N_lt (zz143)) k_ hk,Kd.fresh' (Kd.R_lt (zz154)) k_ hk⟩) _ (Nat.le_refl _)) (Below.refl _ _) (Nat.le_refl _) (zz7) ?_;(case hd=>rfl);(case hg=>rfl);(case hr=>exact zz156);(case hp=>exact (wZ.c3 (show Kd.FK k26 _ _ (⟨2,0,([]:List Int)⟩:S26) [.int .i64 2,.int .i64 0,.slice none 0 0] from (k26_mkF _ _ (⟨2,0,([]:List Int)⟩:S26) (Nat.le_refl _) (Kd.F_nil _ _ _))) (wZ.c3 (show Kd.FK k26 _ _ (⟨2,0,([]:List Int)⟩:S26) [.int .i64 2,.int .i64 0,.slice none 0 0] from (k26_mkF _ _ (⟨2,0,([]:List Int)⟩:S26) (Nat.le_refl _) (Kd.F_nil _ _ _))) (wZ.none _ _))));intro v781 w53 ho54 hb hg_ hnew_;clear hg_ hnew_;(first|rw [← Ny780.out] at ho54|(simp only [Int.reduceToNat] at ho54;rw [← Ny780.out] at ho54));replace HO_1:=wA.mk (Kd.N_elder' (zz143) (Kd.N_base ho54) hb);replace HO_2:=wA.mk (Kd.R_below (zz154) hb);have HO782:=wA.mk (Kd.N_lower ho54 (wB (zz3)));replace HB:=wA.mk (wC (zz3) hb);clear hb ho54;obtain ⟨Ao55,co55,eo55⟩:=Kd.N_slice HO782.out;subst eo55)|(go_at_call 9;(with_reducible refine (U37.calls kj24 _ _ y780 t783 _ ?_ ?_ A43.out).mono ?_);(exact (have h0_:=HO782;zz176));exact (Kd.N_reads' HO782.out).2.1;rintro e w56 ⟨rfl,hb⟩;replace HO_1:=wA.mk (Kd.N_below (zz143) hb);replace HO_2:=wA.mk (Kd.R_below (zz154) hb);replace HO782:=wA.mk (Kd.N_below (have h0_:=HO782;zz152) hb);replace HB:=wA.mk (wC (zz3) hb);(try clear hb);(try clear hk);have p784:0≤(2:Int):=(zz1);have q784:2 < (x1_0.length:Int):=qL (zz4);obtain ⟨ad784,A784_2,c784_2,e784,hx784_0,hx784_1,hx784_2,hl784_2,hi784_2⟩:=at_T26 (Kd.N_reads' HO_1.out).2.2 2 p784 q784;cases e784;obtain ⟨ce784,hce784,hMe784,hcc784⟩:=Kd.N_get HO_1.out z26 2 p784 (by first|exact q784|exact qL (zz4)|(have e_:=(Kd.N_reads' HO_1.out).1;omega));obtain ⟨ua784_2,uc784_2,rfl,ul784_2,ge784_2⟩:=k26_openF hMe784;have hv784_2:=hcc784 2 _ rfl;rw [zV _ _ 2 (zz1)] at hv784_2;replace hv784_2:=Option.some.inj (hv784_2.symm.trans hx784_2);injection hv784_2 with hva_ hvn_ hvc_;rw [hva_] at ge784_2;rw [hvc_] at ul784_2;have HL784_2:=wA.mk (show Kd.V (Kd.int .i64) 3 _ w.heap.size _ _ ((rd_T26 x1_0 2).f2) from Kd.V_mk ul784_2 ge784_2);clear hva_ hvn_ hvc_ ge784_2 ul784_2;clear hcc784 hce784;(try simp only [show (2:Int).toNat = 2 from rfl,Nat.reduceMul,Nat.reduceEqDiff,Go.Addr.add,↓reduceIte] at hx784_0);(try simp only [show (2:Int).toNat = 2 from rfl,Nat.reduceMul,Nat.reduceEqDiff,Go.Addr.add,↓reduceIte] at hx784_1);(try simp only [show (2:Int).toNat = 2 from rfl,Nat.reduceMul,Nat.reduceEqDiff,Go.Addr.add,↓reduceIte] at hx784_2);have qi784:(2 < x1_0.length) = True:=eq_true (zz1);(try rw [show ((2:Int)).toNat = 2 from rfl] at hx784_0);(try rw [show 2 * 3 = 6 from rfl] at hx784_0);(try rw [show ((2:Int)).toNat = 2 from rfl] at hx784_1);(try rw [show 2 * 3 = 6 from rfl] at hx784_1);(try rw [show ((2:Int)).toNat = 2 from rfl] at hx784_2);(try rw [show 2 * 3 = 6 from rfl] at hx784_2);have HR784_2:=wA.mk hi784_2;have HC784_2:=wA.mk hl784_2;clear hi784_2 hl784_2;replace p784:=eq_true p784;replace q784:=eq_true q784)|(go_at_call 13;(with_reducible refine (U35.calls kj24 ((rd_T26 x1_0 2).f0) ((rd_T26 x1_0 2).f1) _ _ ((rd_T26 x1_0 2).f2) 5 false _ ?_ ?_ A46.out).mono ?_);(exact (have h0_:=HR784_2;zz177));exact HC784_2.out;rintro e w57 ⟨rfl,hb⟩;replace HO_1:=wA.mk (Kd.N_below (zz143) hb);replace HO_2:=wA.mk (Kd.R_below (zz154) hb);replace HO782:=wA.mk (Kd.N_below (have h0_:=HO782;zz152) hb);replace HL784_2:=wA.mk (Kd.V_below (have h0_:=HL784_2;zz41) hb);replace HR784_2:=wA.mk (Kd.C_below (have h0_:=HR784_2;zz155) hb);replace HB:=wA.mk (wC (zz3) hb);(try clear hb);(try clear hk);have p786:0≤(2:Int):=(zz1);have q786:2 < (x1_0.length:Int):=qL (zz4);obtain ⟨ad786,A786_2,c786_2,e786,hx786_0,hx786_1,hx786_2,hl786_2,hi786_2⟩:=at_T26 (Kd.N_reads' HO_1.out).2.2 2 p786 q786;obtain rfl:ad784 = ad786:=(by injection e786);obtain ⟨ce786,hce786,hMe786,hcc786⟩:=Kd.N_get HO_1.out z26 2 p786 (by first|exact q786|exact qL (zz4)|(have e_:=(Kd.N_reads' HO_1.out).1;omega));obtain ⟨ua786_2,uc786_2,rfl,ul786_2,ge786_2⟩:=k26_openF hMe786;have hv786_2:=hcc786 2 _ rfl;rw [zV _ _ 2 (zz1)] at hv786_2;replace hv786_2:=Option.some.inj (hv786_2.symm.trans hx786_2);injection hv786_2 with hva_ hvn_ hvc_;rw [hva_] at ge786_2;rw [hvc_] at ul786_2;have HL786_2:=wA.mk (show Kd.V (Kd.int .i64) 3 _ w.heap.size _ _ ((rd_T26 x1_0 2).f2) from Kd.V_mk ul786_2 ge786_2);clear hva_ hvn_ hvc_ ge786_2 ul786_2;clear hcc786 hce786;(try simp only [show (2:Int).toNat = 2 from rfl,Nat.reduceMul,Nat.reduceEqDiff,Go.Addr.add,↓reduceIte] at hx786_0);(try simp only [show (2:Int).toNat = 2 from rfl,Nat.reduceMul,Nat.reduceEqDiff,Go.Addr.add,↓reduceIte] at hx786_1);(try simp only [show (2:Int).toNat = 2 from rfl,Nat.reduceMul,Nat.reduceEqDiff,Go.Addr.add,↓reduceIte] at hx786_2);have qi786:(2 < x1_0.length) = True:=eq_true (zz1);(try rw [show ((2:Int)).toNat = 2 from rfl] at hx786_0);(try rw [show 2 * 3 = 6 from rfl] at hx786_0);(try rw [show ((2:Int)).toNat = 2 from rfl] at hx786_1);(try rw [show 2 * 3 = 6 from rfl] at hx786_1);(try rw [show ((2:Int)).toNat = 2 from rfl] at hx786_2);(try rw [show 2 * 3 = 6 from rfl] at hx786_2);have HR786_2:=wA.mk hi786_2;have HC786_2:=wA.mk hl786_2;clear hi786_2 hl786_2;replace p786:=eq_true p786;replace q786:=eq_true q786;(try (have ea_:=Option.some.inj (hx786_2.symm.trans (by first|exact HS0_|exact HS1_|exact HS2_|exact HS3_|exact HS4_|exact HS5_));injection ea_ with ea_ en_ ec_;subst ea_;subst ec_;clear en_)))|(go_at_call 13;(with_reducible refine (U35.calls kj24 ((rd_T26 x1_0 2).f0) ((rd_T26 x1_0 2).f1) _ _ ((rd_T26 x1_0 2).f2) 6 true _ ?_ ?_ A48.out).mono ?_);(exact (have h0_:=HR786_2;zz177));exact HC786_2.out;rintro e w58 ⟨rfl,hb⟩;replace HO_1:=wA.mk (Kd.N_below (zz143) hb);replace HO_2:=wA.mk (Kd.R_below (zz154) hb);replace HO782:=wA.mk (Kd.N_below (have h0_:=HO782;zz152) hb);replace HL784_2:=wA.mk (Kd.V_below (have h0_:=HL784_2;zz41) hb);replace HL786_2:=wA.mk (Kd.V_below (have h0_:=HL786_2;zz41) hb);replace HR784_2:=wA.mk (Kd.C_below (have h0_:=HR784_2;zz155) hb);replace HR786_2:=wA.mk (Kd.C_below (have h0_:=HR786_2;zz155) hb);replace HB:=wA.mk (wC (zz3) hb);(try clear hb);(try clear hk))|((with_reducible refine wL (N:=104) rfl ?_);(try (refine yK (zz25) ?_;dsimp only));refine Kd.R_lit (Kd.int .i64) _ 3 ?hg (N:=104) ?hd (xs:=([5]:List Int)) (inner:=[.int .i64 5]) (ok:=fun _=>True) (okp:=fun _=>True) ?hr ?hp (fun _ hk=>hk) trivial (Below.refl _ _) (Nat.le_refl _) (zz7) ?_;(case hd=>rfl);(case hg=>rfl);(case hr=>exact zz156);(case hp=>exact zz175);intro v789 w59 ho60 hb hg_ hnew_;clear hg_ hnew_;(first|rw [← Ny788.out] at ho60|(simp only [Int.reduceToNat] at ho60;rw [← Ny788.out] at ho60));replace HO_1:=wA.mk (Kd.N_elder' (zz143) (Kd.R_base ho60) hb);replace HO_2:=wA.mk (Kd.R_below (zz154) hb);replace HO782:=wA.mk (Kd.N_elder' (have h0_:=HO782;zz152) (Kd.R_base ho60) hb);replace HL784_2:=wA.mk (Kd.V_elder' (have h0_:=HL784_2;zz41) (Kd.R_base ho60) hb);replace HL786_2:=wA.mk (Kd.V_elder' (have h0_:=HL786_2;zz41) (Kd.R_base ho60) hb);have HO790:=wA.mk (Kd.R_lower ho60 (wB (zz3)));replace HR784_2:=wA.mk (Kd.C_below (have h0_:=HR784_2;zz155) hb);replace HR786_2:=wA.mk (Kd.C_below (have h0_:=HR786_2;zz155) hb);replace HB:=wA.mk (wC (zz3) hb);clear hb ho60;obtain ⟨Ao61,co61,eo61⟩:=Kd.R_slice HO790.out;subst eo61;obtain ⟨Ao62,co62,eo62⟩:=Kd.R_slice HO_2.out;subst eo62)|(go_at_call 11;(with_reducible refine (U31.calls kj24 _ _ x1_0 _ _ y788 _ _ x2_6 t791 _ ?_ ?_ ?_ ?_ ?_ ?_ A50.out).mono ?_);(exact (have h0_:=HO_1;zz176));exact (Kd.N_reads' HO_1.out).2.1;(exact (have h0_:=HO790;zz162));(exact (have h0_:=HO790;zz164));(exact (have h0_:=HO_2;zz162));(exact (have h0_:=HO_2;zz164));rintro e w63 ⟨rfl,hb⟩;replace HO_1:=wA.mk (Kd.N_below (zz143) hb);replace HO_2:=wA.mk (Kd.R_below (zz154) hb);replace HO782:=wA.mk (Kd.N_below (have h0_:=HO782;zz152) hb);replace HL784_2:=wA.mk (Kd.V_below (have h0_:=HL784_2;zz41) hb);replace HL786_2:=wA.mk (Kd.V_below (have h0_:=HL786_2;zz41) hb);replace HO790:=wA.mk (Kd.R_below (have h0_:=HO790;zz31) hb);replace HR784_2:=wA.mk (Kd.C_below (have h0_:=HR784_2;zz155) hb);replace HR786_2:=wA.mk (Kd.C_below (have h0_:=HR786_2;zz155) hb);replace HB:=wA.mk (wC (zz3) hb);(try clear hb);(try clear hk)))
             go_meet
             case rel=>exact ⟨_,((t791 != 0)),(zz2),H',⟨by have:=HJ0.out;have:=HJ6.out;have:=HJ15.out;have:=HJ24.out;first|omega|exact Nat.le_refl _⟩,⟨zz153⟩,⟨zz154⟩,⟨zz3⟩⟩
            ·replace c49:=Bool.eq_false_iff.mpr c49;subst c49;have H1:(none) = some r:=zz19;clear H;have H:=H1;clear H1
             exact absurd H (zz7)
          case rest =>
           clear HC40;(try clear hx7);(try clear qi7);(try clear c39);(try clear hx775_0);(try clear hx775_1);(try clear hx776_0);(try clear hx776_1);(try clear hx777_0);(try clear hx777_1);obtain ⟨kq,x108_39,rfl,HA,HJ39,HO_1,HO_2,HB⟩:=hcut
           cases kq with
           | zero=>exact absurd HA.out (by simp [U5.j4])
           | succ kj39 =>
            have H:=HA.out;clear HA;simp only [U5.j4] at H;by_cases c64:x108_39 = true
            ·subst c64;have H1:(none) = some r:=zz18;clear H;have H:=H1;clear H1
             exact absurd H (zz7)
            ·replace c64:=Bool.eq_false_iff.mpr c64;subst c64;have H1:((U36.f kj39 x1_0 x2_6 5).bind fun bt792=>((U36.f kj39 x1_0 (([(⟨6,1⟩:S44),(⟨6,2⟩:S44)]:List (S44))) 6).bind fun bt797=>(U5.j5 kj39 x1_0 bt792.2 bt797.2 bt797.1))) = some r:=zz19;clear H;have H:=H1;clear H1;replace H:=Option.bind_eq_some_iff.mp H;obtain ⟨⟨t792,t793⟩,A650,H⟩:=H;have A65:=wA.mk A650;clear A650;have HC66:=wA.mk H;clear H;obtain ⟨Ao67,co67,eo67⟩:=Kd.N_slice HO_1.out;subst eo67;obtain ⟨Ao68,co68,eo68⟩:=Kd.R_slice HO_2.out;subst eo68
             go_upto_region 9 with (first|((with_reducible refine wI (f:=21) rfl ?_);refine wR (some 112) rfl rfl Tryd.func21 (zz0) rfl #[.slice Ao67 x1_0.length co67,.slice Ao68 x2_6.length co68,.int .i64 5] rfl (zz20) ?_;(with_reducible refine (U36.calls kj39 _ _ x1_0 _ _ x2_6 5 t792 t793 _ ?_ ?_ ?_ ?_ A65.out).mono ?_);(exact (have h0_:=HO_1;zz176));exact (Kd.N_reads' HO_1.out).2.1;(exact (have h0_:=HO_2;zz162));(exact (have h0_:=HO_2;zz164));rintro e w69 ⟨rfl,hb⟩;refine ⟨_,rfl,?_⟩;replace HO_1:=wA.mk (Kd.N_below (zz143) hb);replace HO_2:=wA.mk (Kd.R_below (zz154) hb);replace HB:=wA.mk (wC (zz3) hb);(try clear hb)))
             (try simp only [Act.put,List.setIfInBounds_toArray,List.set_cons_zero,List.set_cons_succ]);go_cut [7,8] (fun v7 v8 wc=>∃ (kq:Nat) (x7_65:Int) (x8_65:Int),v7 = .int .i64 x7_65∧v8 = .int .i64 x8_65∧wA (U5.j5 kq x1_0 t793 x7_65 x8_65 = some r)∧wA (kq≤kj39)∧wA (Kd.N k26 26 wc w.heap.size (fun _=>True) (.slice Ao67 x1_0.length co67) x1_0)∧wA (Below w.heap.size w wc))
             case first =>
              have H:=HC66.out;clear HC66;obtain ⟨y794,hy794⟩:∃ y_:List (S44),y_ = (([(⟨6,1⟩:S44),(⟨6,2⟩:S44)]:List (S44))):=⟨_,rfl⟩;replace H:((U36.f kj39 x1_0 y794 6).bind fun bt797=>(U5.j5 kj39 x1_0 t793 bt797.2 bt797.1)) = some r:=(have h0_:=hy794;zz30);have Ny794:=wA.mk hy794;clear hy794;replace H:=Option.bind_eq_some_iff.mp H;obtain ⟨⟨t797,t798⟩,A700,H⟩:=H;have A70:=wA.mk A700;clear A700;have H':=wA.mk H;clear H
              go_wp2_with (first|((with_reducible refine wL (N:=119) rfl ?_);(try (refine yK (zz25) ?_;dsimp only));refine Kd.R_lit k44 _ 44 ?hg (N:=119) ?hd (xs:=([(⟨6,1⟩:S44),(⟨6,2⟩:S44)]:List (S44))) (inner:=[.int .i64 6,.int .i64 1,.int .i64 6,.int .i64 2]) (ok:=fun _=>True) (okp:=fun _=>True) ?hr ?hp (fun _ hk=>hk) trivial (Below.refl _ _) (Nat.le_refl _) (zz7) ?_;(case hd=>rfl);(case hg=>rfl);(case hr=>exact zz156);(case hp=>exact (wZ.c2 (show Kd.M k44 _ _ _ (⟨6,1⟩:S44) [.int .i64 6,.int .i64 1] from (k44_mkM _ _ _ (⟨6,1⟩:S44) )) (wZ.c2 (show Kd.M k44 _ _ _ (⟨6,2⟩:S44) [.int .i64 6,.int .i64 2] from (k44_mkM _ _ _ (⟨6,2⟩:S44) )) (wZ.none _ _))));intro v795 w71 ho72 hb hg_ hnew_;clear hg_ hnew_;(first|rw [← Ny794.out] at ho72|(simp only [Int.reduceToNat] at ho72;rw [← Ny794.out] at ho72));replace HO_1:=wA.mk (Kd.N_elder' (zz143) (Kd.R_base ho72) hb);have HO796:=wA.mk (Kd.R_lower (Kd.R_new' ho72 (Kd.R_lt (zz154))) (wB (zz3)));replace HO_2:=wA.mk (Kd.R_elder' (zz154) (Kd.R_base ho72) hb);replace HB:=wA.mk (wC (zz3) hb);clear hb ho72;obtain ⟨Ao73,co73,eo73⟩:=Kd.R_slice HO796.out;subst eo73)|((with_reducible refine wI (f:=21) rfl ?_);refine wR (some 120) rfl rfl Tryd.func21 (zz0) rfl #[.slice Ao67 x1_0.length co67,.slice Ao73 y794.length co73,.int .i64 6] rfl (zz20) ?_;(with_reducible refine (U36.calls kj39 _ _ x1_0 _ _ y794 6 t797 t798 _ ?_ ?_ ?_ ?_ A70.out).mono ?_);(exact (have h0_:=HO_1;zz176));exact (Kd.N_reads' HO_1.out).2.1;(exact (have h0_:=HO796;zz162));(exact (have h0_:=HO796;zz164));rintro e w74 ⟨rfl,hb⟩;refine ⟨_,rfl,?_⟩;replace HO_1:=wA.mk (Kd.N_below (zz143) hb);replace HO_2:=wA.mk (Kd.R_below (zz154) hb);replace HO796:=wA.mk (Kd.R_below (have h0_:=HO796;zz31) hb);replace HB:=wA.mk (wC (zz3) hb);(try clear hb)))
              go_meet
              case rel=>exact ⟨_,(t798),(t797),(zz2),(zz2),H',⟨by have:=HJ0.out;have:=HJ6.out;have:=HJ15.out;have:=HJ24.out;have:=HJ39.out;first|omega|exact Nat.le_refl _⟩,⟨zz153⟩,⟨zz3⟩⟩
             case rest =>
              exact U5.rest9 k r w x1_0 x2_6 x3_6 x6_15 t793 kj0 kj6 kj15 kj24 kj39 HJ0 HJ6 HJ15 HJ24 HJ39 Ao67 co67 Ao68 co68 _ _ (by assumption) (zz0) wc _ _ _ _ _ _ _ _ _ _ _ _ _ _ _ _ _ _ _ _ _ _ _ _ _ _ _ _ _ _ _ _ _ _ _ _ _ _ _ _ _ _ _ _ _ _ _ _ _ _ _ _ _ _ _ _ _ _ _ _ _ _ _ _ _ _ _ _ _ _ _ _ _ _ _ _ _ _ _ _ _ _ _ _ _ _ _ _ _ _ _ _ _ _ _ _ _ _ _ _ _ _ _ _ _ _ _ _ _ _ _ _ _ _ _ _ _ _ _ _ _ _ _ _ _ _ _ _ _ _ _ _ _ _ _ _ _ _ _ _ _ _ _ _ _ _ _ _ _ _ _ _ _ _ _ _ _ _ _ _ _ _ _ _ _ _ _ _ _ _ _ _ _ _ _ _ _ _ _ _ _ _ _ _ _ _ _ _ _ _ _ hcut
end Go.Proofs.YtnimkmkapajnhaaDoor.QA
