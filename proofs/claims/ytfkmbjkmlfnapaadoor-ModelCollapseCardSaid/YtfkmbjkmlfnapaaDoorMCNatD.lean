import Derived.Test.YtfkmbjkmlfnapaaDoorMCQAx9
import Derived.Test.YtfkmbjkmlfnapaaDoorMCQAx10
import Derived.Test.YtfkmbjkmlfnapaaDoorMCQAx24
import Derived.Test.YtfkmbjkmlfnapaaDoorMCNatC
set_option linter.unusedVariables false
set_option linter.unusedSimpArgs false
namespace Go.Proofs.YtfkmbjkmlfnapaaDoor.Pure
open Go.RowKit Go.Proofs.YtfkmbjkmlfnapaaDoorW.PrintWords Go.Proofs.YtfkmbjkmlfnapaaDoorW.PrintLast Go.Proofs.YtfkmbjkmlfnapaaDoorW.PrintMore Go.Proofs.YtfkmbjkmlfnapaaDoor.QA
theorem or32 {x y:Int} (hx:0≤x) (hx1:x < 4294967296) (hy:0≤y) (hy1:y < 4294967296):Go.bits .or .u64 (x * 4294967296) y = x * 4294967296+y :=
  bits_join .u64 64 (by decide) (fun n a b=>wu a (by simpa using b)) 32 (x * 4294967296) y (by omega) (by rw [show (2:Int) ^ 32 = 4294967296 from rfl];omega) (by rw [show (2:Int) ^ 64 = 18446744073709551616 from rfl];omega) hy (by rw [show (2:Int) ^ 32 = 4294967296 from rfl];exact hy1) (by rw [show (2:Int) ^ 64 = 18446744073709551616 from rfl];omega)
theorem toL_small {n:Nat} (h0:n ≠ 0) (h:n < 4294967296):toL n = [(n:Int)]:=by
  rw [toL_pos h0,show n / 4294967296 = 0 by omega,toL_zero,show n % 4294967296 = n by omega]
theorem toL_len {n m:Nat} (h:n < 4294967296 ^ m) (hm:m≤1000):(toL n).length≤1000:=Nat.le_trans (V_lt_inv h) hm
theorem set_drop_lt {α:Type} (xs:List α) (i:Nat) (v:α):(xs.set i v).drop (i+1) = xs.drop (i+1):=by
  rw [List.drop_set,if_pos (Nat.lt_succ_self i)]
theorem div_l0 {a:List Int} (ha:Lm a) (hb:a.length≤4611686018427387904) {d:Nat} (h0:1≤d) (h1:d < 4294967296):∀(j:Nat) (P:List Int) (r:Nat),j≤a.length→Lm P→P.length = a.length→r < d→V (a.drop j) = V (P.drop j) * d+r→Ev (fun k=>U36.l0 k a (d:Int) P (r:Int) ((j:Int) - 1)) (toL (V a / d),((V a % d:Nat):Int)):=by
  intro j
  induction j with
  | zero =>
    intro P r hj hP hl hr he
    refine Ev.succ ?_
    simp only [U36.l0,show ¬ (((0:Nat):Int) - 1 ≥ 0) by omega,if_false]
    refine Ev.mapb (trim_ev (by omega) hP) ?_
    rw [List.drop_zero,List.drop_zero] at he
    have:=(Nat.div_mod_unique (a:=V a) (b:=d) (c:=r) (d:=V P) (by omega)).2 ⟨by rw [he,Nat.mul_comm d];omega,hr⟩
    rw [this.1,this.2]
    congr 2;omega
  | succ j ih =>
    intro P r hj hP hl hr he
    have hxj:((j+1:Nat):Int) - 1 = (j:Int):=by omega
    have hw:wrap64 ((j:Int) - 1) = (j:Int) - 1:=by rw [w64] <;> omega
    have h2:=ha.rd_ (j:Int)
    obtain ⟨v,hv⟩: ∃ v:Nat,rd a (j:Int) = (v:Int):=⟨(rd a (j:Int)).toNat,by omega⟩
    have e1:IntKind.u64.wrap ((r:Int) * 4294967296) = (r:Int) * 4294967296:=wu (by omega) (by omega)
    have e2:IntKind.u64.wrap (rd a (j:Int)) = rd a (j:Int):=wu (by omega) (by omega)
    have e3:IntKind.u64.wrap (d:Int) = (d:Int):=wu (by omega) (by omega)
    have e4:=or32 (x:=(r:Int)) (y:=rd a (j:Int)) (by omega) (by omega) h2.1 h2.2
    have hX:(r:Int) * 4294967296+rd a (j:Int) = ((r * 4294967296+v:Nat):Int):=by omega
    have hq:(r * 4294967296+v) / d < 4294967296:=by
      rw [Nat.div_lt_iff_lt_mul (by omega)]
      have:=Nat.mul_le_mul_right 4294967296 (show r+1≤d from hr)
      rw [Nat.mul_comm 4294967296 d];omega
    have e5:Int.tdiv ((r * 4294967296+v:Nat):Int) (d:Int) = (((r * 4294967296+v) / d:Nat):Int):=by
      rw [Int.tdiv_eq_ediv_of_nonneg (by omega)];exact (Int.natCast_ediv _ _).symm
    have e6:Int.tmod ((r * 4294967296+v:Nat):Int) (d:Int) = (((r * 4294967296+v) % d:Nat):Int):=by
      rw [Int.tmod_eq_emod_of_nonneg (by omega)];exact (Int.natCast_emod _ _).symm
    have e7:IntKind.u64.wrap ((((r * 4294967296+v) / d:Nat):Int)) % 4294967296 = (((r * 4294967296+v) / d:Nat):Int):=by
      generalize (r * 4294967296+v) / d = q at *
      rw [wu (by omega) (by omega)];omega
    refine Ev.succ ?_
    simp only [U36.l0,hxj,show (j:Int) ≥ 0 by omega,if_true,show (0:Int)≤(j:Int) by omega,show (j:Int) < (a.length:Int) by omega,e3,show ¬ ((d:Int) = 0) by omega,if_false,show (j:Int) < (P.length:Int) by omega,Int.toNat_natCast,hw,e1,e2,e4,hX,e5,e6,e7]
    have hm:=Nat.div_add_mod (r * 4294967296+v) d
    have hlt:=Nat.mod_lt (r * 4294967296+v) (show d > 0 by omega)
    refine ih _ _ (by omega) (hP.set _ (by omega) (by omega)) (by rw [List.length_set];exact hl) hlt ?_
    have hj' : j < (P.set j (((r * 4294967296+v) / d:Nat):Int)).length:=by rw [List.length_set];omega
    rw [V_drop a j,he,hv,List.drop_eq_getElem_cons hj',V,set_drop_lt,List.getElem_set_self,Int.toNat_natCast,Int.toNat_natCast]
    rw [Nat.add_mul,Nat.mul_assoc,Nat.mul_add,Nat.mul_comm ((r * 4294967296+v) / d) d]
    generalize d * ((r * 4294967296+v) / d) = p at *
    generalize (r * 4294967296+v) % d = p2 at *
    generalize V (P.drop (j+1)) * d = p3 at *
    omega
theorem divSmall_ev {a:Nat} (ha:(toL a).length≤1000) {d:Nat} (h0:1≤d) (h1:d < 4294967296):Ev (fun k=>U36.f k (toL a) (d:Int)) (toL (a / d),((a % d:Nat):Int)):=by
  unfold U36.f
  have hw:wrap64 (((toL a).length:Int) - 1) = ((toL a).length:Int) - 1:=by rw [w64] <;> omega
  simp only [show (0:Int)≤((toL a).length:Int) by omega,if_true,Int.toNat_natCast,show (toL a).length≤70368744177664 by omega,hw]
  have:=div_l0 (toL_Lm a) (by omega) h0 h1 (toL a).length (List.replicate (toL a).length 0) 0 (Nat.le_refl _) (Lm.zeros _) (List.length_replicate) (by omega) (by rw [List.drop_length,List.drop_eq_nil_of_le (by rw [List.length_replicate];exact Nat.le_refl _)];simp [V])
  rw [V_toL] at this
  exact this
theorem DivMod_ev {a b:Nat} (ha:(toL a).length≤1000) (h0:1≤b) (h1:b < 4294967296):Ev (fun k=>U30.f k (toL a) (toL b)) (toL (a / b),toL (a % b),true):=by
  unfold U30.f
  have hb:toL b = [(b:Int)]:=toL_small (by omega) h1
  refine Ev.bind (trim_ev (by omega) (toL_Lm _)) (Ev.bind (trim_ev (by rw [hb];simp) (toL_Lm _)) ?_)
  rw [V_toL,V_toL]
  have hl:((toL b).length:Int) = 1:=by rw [hb];rfl
  simp only [hl,show ¬ ((1:Int) = 0) by omega,if_false]
  refine Ev.bind (Cmp_ev (by omega) (by omega)) ?_
  by_cases h:a < b
  · have hc:cmpN a b < 0:=by unfold cmpN;rw [if_pos h];omega
    simp only [hc,if_true]
    refine Ev.mapb (Norm_ev (by omega) (toL_Lm _)) ?_
    rw [V_toL,Nat.div_eq_of_lt h,Nat.mod_eq_of_lt h,toL_zero]
  · have hc:¬ (cmpN a b < 0):=by unfold cmpN;rw [if_neg h];split <;> omega
    simp only [if_neg hc,if_true,show (0:Int) < 1 by omega]
    have hr:rd (toL b) 0 = (b:Int):=by rw [hb];rfl
    rw [hr]
    refine Ev.bind (divSmall_ev ha h0 h1) ?_
    have hm:=Nat.mod_lt a (show b > 0 by omega)
    have hw:IntKind.u64.wrap ((a % b:Nat):Int) = ((a % b:Nat):Int):=wu (by omega) (by omega)
    simp only [hw]
    refine Ev.mapb (Of_ev (by omega) (by omega)) ?_
    rw [Int.toNat_natCast]
theorem gcd_l0:∀(b a:Nat),(toL a).length≤1000→b < 4294967296→Ev (fun k=>U31.l0 k (toL a) (toL b)) (toL (Nat.gcd a b)):=by
  intro b
  induction b using Nat.strongRecOn with
  | _ b ih =>
    intro a ha h1
    refine Ev.succ ?_
    by_cases h0:b = 0
    · subst h0
      rw [toL_zero,Nat.gcd_zero_right]
      simp only [U31.l0,show ¬ ((([]:List Int).length:Int) > 0) by simp,if_false]
      exact Ev.now _
    · have hl:((toL b).length:Int) > 0:=by rw [toL_small h0 h1];simp
      simp only [U31.l0,hl,if_true]
      refine Ev.bind (DivMod_ev ha (by omega) h1) ?_
      have hm:=Nat.mod_lt a (show b > 0 by omega)
      refine evq (ih (a % b) hm b (by rw [toL_small h0 h1];simp) (by omega)) ?_
      rw [Nat.gcd_comm b,← Nat.gcd_rec,Nat.gcd_comm]
theorem Gcd_ev {a b:Nat} (ha:(toL a).length≤1000) (h1:b < 4294967296):Ev (fun k=>U31.f k (toL a) (toL b)) (toL (Nat.gcd a b)):=by
  unfold U31.f
  have hb:(toL b).length≤1000:=toL_len (m:=1) (by omega) (by omega)
  refine Ev.bind (Norm_ev (by omega) (toL_Lm _)) (Ev.bind (Norm_ev (by omega) (toL_Lm _)) ?_)
  rw [V_toL,V_toL]
  exact gcd_l0 b a ha h1
theorem bitLen_pos {n:Nat} (h:1≤n) (h' : n < 2 ^ 64):1≤Lib.bitLen n:=by
  rw [Lib.bitLen_half n (by omega) h'];omega
theorem bitLenAux_le:∀f x:Nat,Lib.bitLenAux f x≤f
  | 0,x=>by rw [Lib.bitLenAux];exact Nat.le_refl 0
  | f+1,x=>by
    rw [Lib.bitLenAux]
    have:=bitLenAux_le f (x / 2)
    split <;> omega
theorem Bits_ev {a:Nat} (h1:1≤a) (h:(toL a).length≤100000):∃ b:Int,0 < b∧Ev (fun k=>U28.f k (toL a)) b:=by
  have hp:1≤(toL a).length:=by
    rcases Nat.eq_zero_or_pos (toL a).length with h0 | h0
    · have:=toL_nil (List.eq_nil_of_length_eq_zero h0);omega
    · exact h0
  have hw:wrap64 (((toL a).length:Int) - 1) = (((toL a).length - 1:Nat):Int):=by rw [w64] <;> omega
  have hlt:(toL a).length - 1 < (toL a).length:=by omega
  have hr:=rd_lt hlt
  have h2:=(toL_Lm a).rd_ (((toL a).length - 1:Nat):Int)
  have h3:rd (toL a) (((toL a).length - 1:Nat):Int) ≠ 0:=by
    rw [hr]
    have:=toL_Tr a (fun e=>by rw [e] at hp;simp at hp)
    rwa [List.getLast_eq_getElem] at this
  have h4:=bitLen_pos (n:=(rd (toL a) (((toL a).length - 1:Nat):Int)).toNat) (by omega) (by omega)
  have h5:Lib.bitLen (rd (toL a) (((toL a).length - 1:Nat):Int)).toNat≤64:=bitLenAux_le 64 _
  refine ⟨32 * (((toL a).length - 1:Nat):Int)+(Lib.bitLen (rd (toL a) (((toL a).length - 1:Nat):Int)).toNat:Int),by omega,?_⟩
  unfold U28.f
  refine Ev.bind (trim_ev (by omega) (toL_Lm a)) ?_
  rw [V_toL]
  have hw2:wrap64 (32 * (((toL a).length - 1:Nat):Int)) = 32 * (((toL a).length - 1:Nat):Int):=by rw [w64] <;> omega
  have hw3:wrap64 (32 * (((toL a).length - 1:Nat):Int)+(Lib.bitLen (rd (toL a) (((toL a).length - 1:Nat):Int)).toNat:Int)) = 32 * (((toL a).length - 1:Nat):Int)+(Lib.bitLen (rd (toL a) (((toL a).length - 1:Nat):Int)).toNat:Int):=by rw [w64] <;> omega
  simp only [show ¬ (((toL a).length:Int) = 0) by omega,if_false,hw,show (0:Int)≤(((toL a).length - 1:Nat):Int) by omega,if_true,show (((toL a).length - 1:Nat):Int) < ((toL a).length:Int) by omega,bits_Len32.f,h2.1,show rd (toL a) (((toL a).length - 1:Nat):Int)≤4294967295 by omega,Option.bind_some,hw2,hw3]
  exact Ev.now _
theorem Bits_zero:Ev (fun k=>U28.f k (toL 0)) 0:=by
  unfold U28.f
  refine Ev.bind (trim_ev (by rw [toL_zero];simp) (toL_Lm 0)) ?_
  rw [V_toL,toL_zero]
  simp only [show ((([]:List Int).length:Int) = 0) by simp,if_true]
  exact Ev.now _
theorem difstep {a t w P X Y c' dg T:Nat} (h:dg+t = a+4294967296 * c') (he:P+w * (a+4294967296 * X) = T+w * (t+4294967296 * Y)):P+w * dg+w * 4294967296 * X = T+w * 4294967296 * (c'+Y):=by
  have h2:w * dg+w * t = w * a+w * 4294967296 * c':=by rw [← Nat.mul_add,h,Nat.mul_add,Nat.mul_assoc]
  rw [Nat.mul_add,Nat.mul_add,← Nat.mul_assoc,← Nat.mul_assoc] at he
  rw [Nat.mul_add]
  omega
theorem sub_l0 {x y:List Int} (hx:Lm x) (hy:Lm y) (hxy:y.length≤x.length) (hb:x.length≤35184372000000) {T:Nat}:∀(d i:Nat) (P:List Int) (c:Nat),i+d = x.length→Lm P→P.length = x.length→(∀ m,i≤m→P.getD m 0 = 0)→c≤1 →
    V P+4294967296 ^ i * V (x.drop i) = T+4294967296 ^ i * (c+V (y.drop i))→Ev (fun k=>U35.l0 k y P (c:Int) x (x.length:Int) (i:Int)) (toL T,true):=by
  intro d
  induction d with
  | zero =>
    intro i P c hi hP hl hz hc hT
    refine Ev.succ ?_
    simp only [U35.l0,show ¬ ((i:Int) < (x.length:Int)) by omega,if_false]
    refine Ev.mapb (trim_ev (by omega) hP) ?_
    rw [List.drop_eq_nil_of_le (by omega),List.drop_eq_nil_of_le (by omega)] at hT
    simp only [V,Nat.mul_zero,Nat.add_zero] at hT
    have hlt:=V_lt hP
    rw [hl,show x.length = i by omega] at hlt
    have h0:c = 0:=by
      have:c = 0∨c = 1:=by omega
      rcases this with h | rfl
      · exact h
      · rw [Nat.mul_one] at hT;omega
    rw [h0,Nat.mul_zero,Nat.add_zero] at hT
    rw [hT]
  | succ d ih =>
    intro i P c hi hP hl hz hc hT
    have hlt:i < x.length:=by omega
    have hlP:i < P.length:=by omega
    have hw:wrap64 ((i:Int)+1) = ((i+1:Nat):Int):=by rw [w64] <;> omega
    have h1:=hx.rd_ (i:Int)
    have h2:=hy.rd_ (i:Int)
    obtain ⟨a,ha⟩: ∃ a:Nat,rd x (i:Int) = (a:Int):=⟨(rd x (i:Int)).toNat,by omega⟩
    obtain ⟨b,hb'⟩: ∃ b:Nat,rd y (i:Int) = (b:Int):=⟨(rd y (i:Int)).toNat,by omega⟩
    have hP0:P[i] = 0:=by have:=hz i (Nat.le_refl _);simpa [List.getD,hlP] using this
    rw [V_drop x i,V_drop y i,ha,hb',Int.toNat_natCast,Int.toNat_natCast,← Nat.add_assoc c] at hT
    have step:∀(dg c' : Nat),dg < 4294967296→c'≤1→dg+(c+b) = a+4294967296 * c'→Ev (fun k=>U35.l0 k y (P.set i (dg:Int)) (c' : Int) x (x.length:Int) ((i+1:Nat):Int)) (toL T,true):=by
      intro dg c' hd hc' he
      refine ih (i+1) _ _ (by omega) (hP.set _ (by omega) (by omega)) (by rw [List.length_set];exact hl) (zeros_set hz (Nat.lt_succ_self i) (Nat.le_succ i)) hc' ?_
      have hs:=V_set hlP (dg:Int)
      rw [hP0] at hs
      simp only [Int.toNat_zero,Nat.mul_zero,Nat.add_zero,Int.toNat_natCast] at hs
      rw [hs,Nat.pow_succ]
      exact difstep he hT
    have ew1:IntKind.u64.wrap (rd x (i:Int)) = (a:Int):=by rw [ha];exact wu (by omega) (by omega)
    refine Ev.succ ?_
    by_cases hiy:(i:Int) < (y.length:Int)
    · have ew2:IntKind.u64.wrap ((c:Int)+IntKind.u64.wrap (rd y (i:Int))) = ((c+b:Nat):Int):=by
        rw [hb',wu (x:=(b:Int)) (by omega) (by omega),wu (by omega) (by omega)];omega
      simp only [U35.l0,show (i:Int) < (x.length:Int) by omega,if_true,show (0:Int)≤(i:Int) by omega,hw,ew1,ew2,hiy,show (i:Int) < (P.length:Int) by omega,Int.toNat_natCast]
      by_cases hlt' : (a:Int) < ((c+b:Nat):Int)
      · simp only [if_pos hlt']
        have e:IntKind.u64.wrap (IntKind.u64.wrap ((a:Int)+4294967296) - ((c+b:Nat):Int)) % 4294967296 = ((a+4294967296 - (c+b):Nat):Int):=by
          rw [wu (x:=(a:Int)+4294967296) (by omega) (by omega),wu (by omega) (by omega)];omega
        rw [e]
        exact step _ 1 (by omega) (by omega) (by omega)
      · simp only [if_neg hlt']
        have e:IntKind.u64.wrap ((a:Int) - ((c+b:Nat):Int)) % 4294967296 = ((a - (c+b):Nat):Int):=by
          rw [wu (by omega) (by omega)];omega
        rw [e]
        exact step _ 0 (by omega) (by omega) (by omega)
    · have hb0:b = 0:=by
        have:rd y (i:Int) = 0:=by rw [rd_nat];simp [List.getD,show ¬ i < y.length by omega]
        omega
      simp only [U35.l0,show (i:Int) < (x.length:Int) by omega,if_true,show (0:Int)≤(i:Int) by omega,hw,ew1,hiy,if_false,show (i:Int) < (P.length:Int) by omega,Int.toNat_natCast]
      by_cases hlt' : (a:Int) < (c:Int)
      · simp only [if_pos hlt']
        have e:IntKind.u64.wrap (IntKind.u64.wrap ((a:Int)+4294967296) - (c:Int)) % 4294967296 = ((a+4294967296 - (c+b):Nat):Int):=by
          rw [wu (x:=(a:Int)+4294967296) (by omega) (by omega),wu (by omega) (by omega)];omega
        rw [e]
        exact step _ 1 (by omega) (by omega) (by omega)
      · simp only [if_neg hlt']
        have e:IntKind.u64.wrap ((a:Int) - (c:Int)) % 4294967296 = ((a - (c+b):Nat):Int):=by
          rw [wu (by omega) (by omega)];omega
        rw [e]
        exact step _ 0 (by omega) (by omega) (by omega)
theorem len_le {a b:Nat} (h:a≤b):(toL a).length≤(toL b).length:=by
  rcases Nat.lt_or_ge (toL b).length (toL a).length with h1 | h1
  · have:=len_lt h1;omega
  · exact h1
theorem Sub_ev {a b:Nat} (ha:(toL a).length≤35184372000000) (hb:(toL b).length≤35184372000000):Ev (fun k=>U35.f k (toL a) (toL b)) (if a < b then ([],false) else (toL (a - b),true)):=by
  unfold U35.f
  refine Ev.bind (trim_ev (by omega) (toL_Lm _)) (Ev.bind (trim_ev (by omega) (toL_Lm _)) ?_)
  rw [V_toL,V_toL]
  refine Ev.bind (Cmp_ev ha hb) ?_
  by_cases h:a < b
  · have hc:cmpN a b < 0:=by unfold cmpN;rw [if_pos h];omega
    simp only [hc,if_true,if_pos h]
    exact Ev.now _
  · have hc:¬ (cmpN a b < 0):=by unfold cmpN;rw [if_neg h];split <;> omega
    simp only [if_neg hc,if_neg h,show (0:Int)≤((toL a).length:Int) by omega,if_true,Int.toNat_natCast,show (toL a).length≤70368744177664 by omega]
    refine sub_l0 (toL_Lm a) (toL_Lm b) (len_le (by omega)) ha (toL a).length 0 _ 0 (by omega) (Lm.zeros _) List.length_replicate (fun m _=>?_) (by omega) ?_
    · by_cases hm:m < (toL a).length
      · simp [List.getD,hm]
      · simp [List.getD,hm]
    · rw [V_zeros,List.drop_zero,List.drop_zero,V_toL,V_toL];omega
end Go.Proofs.YtfkmbjkmlfnapaaDoor.Pure
