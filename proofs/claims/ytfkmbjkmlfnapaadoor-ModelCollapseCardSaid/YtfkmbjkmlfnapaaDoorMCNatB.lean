import Derived.Test.YtfkmbjkmlfnapaaDoorMCQAx24
import Derived.Test.YtfkmbjkmlfnapaaDoorMCNatA
set_option linter.unusedVariables false
set_option linter.unusedSimpArgs false
namespace Go.Proofs.YtfkmbjkmlfnapaaDoor.Pure
open Go.RowKit Go.Proofs.YtfkmbjkmlfnapaaDoorW.PrintWords Go.Proofs.YtfkmbjkmlfnapaaDoorW.PrintLast Go.Proofs.YtfkmbjkmlfnapaaDoorW.PrintMore Go.Proofs.YtfkmbjkmlfnapaaDoor.QA
theorem V_drop (xs:List Int) (i:Nat):V (xs.drop i) = (rd xs (i:Int)).toNat+4294967296 * V (xs.drop (i+1)):=by
  by_cases h:i < xs.length
  · rw [List.drop_eq_getElem_cons h,V,rd_lt h]
  · rw [List.drop_eq_nil_of_le (by omega),List.drop_eq_nil_of_le (by omega),rd_nat]
    simp [List.getD,show ¬ i < xs.length from h,V]
theorem Tr_ge {xs:List Int} (h:Lm xs) (ht:Tr xs) (hne:xs ≠ []):4294967296 ^ (xs.length - 1)≤V xs:=by
  have e:=List.dropLast_concat_getLast hne
  have h1:V (xs.dropLast ++ [xs.getLast hne]) = V xs:=by rw [e]
  rw [V_append,List.length_dropLast,V,V,Nat.mul_zero,Nat.add_zero] at h1
  have h2:=h _ (List.getLast_mem hne)
  have h3:=ht hne
  have h4:1≤(xs.getLast hne).toNat:=by omega
  have h5:=Nat.mul_le_mul_left (4294967296 ^ (xs.length - 1)) h4
  omega
theorem canon_ge {xs:List Int} (h:Lm xs) (hg:xs ≠ []→4294967296 ^ (xs.length - 1)≤V xs):xs = toL (V xs):=by
  refine canon h (fun hne h0=>?_)
  have e:=List.dropLast_concat_getLast hne
  have h1:V (xs.dropLast ++ [xs.getLast hne]) = V xs:=by rw [e]
  rw [V_append,h0,V,V] at h1
  have h2:=hg hne
  have h3:=V_lt (xs:=xs.dropLast) (fun y hy=>h y (List.dropLast_subset _ hy))
  rw [List.length_dropLast] at h3
  simp at h1
  omega
theorem sumstep {a b c w va vb:Nat} (h:(c+a+b) < 18446744073709551616):w * ((c+a+b) % 4294967296)+w * 4294967296 * ((c+a+b) / 4294967296+va+vb) = w * (c+(a+4294967296 * va)+(b+4294967296 * vb)):=by
  rw [Nat.mul_assoc w,← Nat.mul_add]
  congr 1
  omega
theorem nadd_l0 {x y:List Int} (hx:Lm x) (hy:Lm y) (hxy:y.length≤x.length) (hb:x.length≤35184372000000) {T:Nat}:∀(d i:Nat) (out:List Int) (c:Int),i+d = x.length→Lm out→out.length = i→0≤c∧c≤1 →
    V out+4294967296 ^ i * (c.toNat+V (x.drop i)+V (y.drop i)) = T→(x ≠ []→4294967296 ^ (x.length - 1)≤T)→Ev (fun k=>U27.l0 k y out c x (x.length:Int) (i:Int)) (toL T):=by
  intro d
  induction d with
  | zero =>
    intro i out c hi ho hl hc hT hg
    refine Ev.succ ?_
    simp only [U27.l0,show ¬ ((i:Int) < (x.length:Int)) by omega,if_false]
    rw [List.drop_eq_nil_of_le (by omega),List.drop_eq_nil_of_le (by omega)] at hT
    simp only [V,Nat.add_zero] at hT
    by_cases h0:c > 0
    · simp only [h0,if_true,show out.length < 35184372088832 by omega]
      have hc1:c = 1:=by omega
      subst hc1
      refine evq (Ev.now _) ?_
      have hv:V (out ++ [1 % 4294967296]) = T:=by rw [V_append,hl];simp [V] at hT ⊢;exact hT
      rw [← hv]
      refine canon_ge (ho.snoc (by omega) (by omega)) (fun _=>?_)
      rw [hv,← hT,List.length_append,List.length_singleton,Nat.add_sub_cancel,hl];simp
    · simp only [h0,if_false]
      have hc0:c = 0:=by omega
      subst hc0
      refine evq (Ev.now _) ?_
      have hv:V out = T:=by simpa using hT
      rw [← hv]
      refine canon_ge ho (fun hne=>?_)
      rw [hv,hl]
      have hix:i = x.length:=by omega
      rw [hix]
      exact hg (fun e=>hne (by rw [e] at hix;exact List.eq_nil_of_length_eq_zero (by simpa [hix] using hl)))
  | succ d ih =>
    intro i out c hi ho hl hc hT hg
    have hw:wrap64 ((i:Int)+1) = ((i+1:Nat):Int):=by rw [w64] <;> omega
    have h1:=hx.rd_ (i:Int)
    have h2:=hy.rd_ (i:Int)
    have e1:IntKind.u64.wrap (c+IntKind.u64.wrap (rd x (i:Int))) = c+rd x (i:Int):=by rw [wu (x:=rd x (i:Int)) (by omega) (by omega),wu (by omega) (by omega)]
    refine Ev.succ ?_
    simp only [U27.l0,show (i:Int) < (x.length:Int) by omega,if_true,show (0:Int)≤(i:Int) by omega,hw,e1,show out.length < 35184372088832 by omega]
    by_cases h:(i:Int) < (y.length:Int)
    · have e2:IntKind.u64.wrap (c+rd x (i:Int)+IntKind.u64.wrap (rd y (i:Int))) = c+rd x (i:Int)+rd y (i:Int):=by rw [wu (x:=rd y (i:Int)) (by omega) (by omega),wu (by omega) (by omega)]
      simp only [if_pos h,e2,mask32 (show 0≤c+rd x (i:Int)+rd y (i:Int) by omega) (by omega)]
      refine ih (i+1) _ _ (by omega) (ho.snoc (by omega) (by omega)) (by rw [List.length_append,List.length_singleton,hl]) (by omega) ?_ hg
      rw [← hT,V_drop x i,V_drop y i,V_append,hl]
      have:=sumstep (a:=(rd x (i:Int)).toNat) (b:=(rd y (i:Int)).toNat) (c:=c.toNat) (w:=4294967296 ^ i) (va:=V (x.drop (i+1))) (vb:=V (y.drop (i+1))) (by omega)
      rw [← this,Nat.pow_succ,Nat.add_assoc]
      have f1:V [(c+rd x (i:Int)+rd y (i:Int)) % 4294967296 % 4294967296] = (c.toNat+(rd x (i:Int)).toNat+(rd y (i:Int)).toNat) % 4294967296:=by simp only [V];omega
      have f2:((c+rd x (i:Int)+rd y (i:Int)) / 4294967296).toNat = (c.toNat+(rd x (i:Int)).toNat+(rd y (i:Int)).toNat) / 4294967296:=by omega
      rw [f1,f2]
    · have e2:rd y (i:Int) = 0:=by rw [rd_nat];simp [List.getD,show ¬ i < y.length by omega]
      simp only [if_neg h,mask32 (show 0≤c+rd x (i:Int) by omega) (by omega)]
      refine ih (i+1) _ _ (by omega) (ho.snoc (by omega) (by omega)) (by rw [List.length_append,List.length_singleton,hl]) (by omega) ?_ hg
      rw [← hT,V_drop x i,V_drop y i,V_append,hl,e2]
      have:=sumstep (a:=(rd x (i:Int)).toNat) (b:=0) (c:=c.toNat) (w:=4294967296 ^ i) (va:=V (x.drop (i+1))) (vb:=V (y.drop (i+1))) (by omega)
      simp only [Int.toNat_zero]
      rw [← this,Nat.pow_succ,Nat.add_assoc]
      have f1:V [(c+rd x (i:Int)) % 4294967296 % 4294967296] = (c.toNat+(rd x (i:Int)).toNat+0) % 4294967296:=by simp only [V];omega
      have f2:((c+rd x (i:Int)) / 4294967296).toNat = (c.toNat+(rd x (i:Int)).toNat+0) / 4294967296:=by omega
      rw [f1,f2]
theorem nadd_j0 {x y:List Int} (hx:Lm x) (ht:Tr x) (hy:Lm y) (hxy:y.length≤x.length) (hb:x.length≤35184372000000):Ev (fun k=>U27.j0 k x y) (toL (V x+V y)):=by
  have hw:wrap64 ((x.length:Int)+1) = ((x.length+1:Nat):Int):=by rw [w64] <;> omega
  refine Ev.succ ?_
  simp only [U27.j0,hw,show (0:Int)≤((x.length+1:Nat):Int) by omega,if_true,Int.toNat_natCast,show x.length+1≤70368744177664 by omega]
  exact nadd_l0 hx hy hxy hb x.length 0 [] 0 (by omega) Lm.nil rfl (by omega) (by simp [V]) (fun hne=>Nat.le_trans (Tr_ge hx ht hne) (Nat.le_add_right _ _))
theorem Add_ev {a b:Nat} (ha:(toL a).length≤35184372000000) (hb:(toL b).length≤35184372000000):Ev (fun k=>U27.f k (toL a) (toL b)) (toL (a+b)):=by
  unfold U27.f
  refine Ev.bind (trim_ev (by omega) (toL_Lm _)) (Ev.bind (trim_ev (by omega) (toL_Lm _)) ?_)
  rw [V_toL,V_toL]
  by_cases h:((toL a).length:Int) < ((toL b).length:Int)
  · simp only [if_pos h]
    refine evq (nadd_j0 (toL_Lm b) (toL_Tr b) (toL_Lm a) (by omega) hb) ?_
    rw [V_toL,V_toL,Nat.add_comm]
  · simp only [if_neg h]
    refine evq (nadd_j0 (toL_Lm a) (toL_Tr a) (toL_Lm b) (by omega) ha) ?_
    rw [V_toL,V_toL]
end Go.Proofs.YtfkmbjkmlfnapaaDoor.Pure
