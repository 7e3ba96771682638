import Derived.Test.YtfkmbjkmlfnapaaDoorMCQAx9
import Derived.Test.YtfkmbjkmlfnapaaDoorMCQAx22
import Derived.Test.YtfkmbjkmlfnapaaDoorMCNum
set_option linter.unusedVariables false
set_option linter.unusedSimpArgs false
namespace Go.Proofs.YtfkmbjkmlfnapaaDoor.Pure
open Go.RowKit Go.Proofs.YtfkmbjkmlfnapaaDoorW.PrintWords Go.Proofs.YtfkmbjkmlfnapaaDoorW.PrintLast Go.Proofs.YtfkmbjkmlfnapaaDoorW.PrintMore Go.Proofs.YtfkmbjkmlfnapaaDoor.QA
theorem trim_l0 (xs:List Int) (hl:xs.length≤4611686018427387904) (h:Lm xs):∀n:Nat,n≤xs.length→(∀ j,n≤j→xs.getD j 0 = 0)→Ev (fun k=>U37.l0 k xs (n:Int)) (toL (V xs)):=by
  intro n
  induction n with
  | zero =>
    intro _ hz
    refine Ev.succ ?_
    simp only [U37.l0,show ¬ (((0:Nat):Int) > 0) by omega,if_false,show (0:Int)≤((0:Nat):Int) by omega,if_true,show ((0:Nat):Int)≤(xs.length:Int) by omega]
    refine evq (Ev.now _) ?_
    have:=V_take_zeros (n:=0) hz
    have e:V xs = 0:=by rw [← this];simp [V]
    rw [e,toL_zero];simp
  | succ n ih =>
    intro hn hz
    have hw:wrap64 (((n+1:Nat):Int) - 1) = (n:Int):=by rw [w64] <;> omega
    have hr:=rd_lt (xs:=xs) (n:=n) (by omega)
    refine Ev.succ ?_
    simp only [U37.l0,show ((n+1:Nat):Int) > 0 by omega,if_true,hw,show (0:Int)≤(n:Int) by omega,show (n:Int) < (xs.length:Int) by omega,show (0:Int)≤((n+1:Nat):Int) by omega,show ((n+1:Nat):Int)≤(xs.length:Int) by omega,Int.toNat_natCast]
    by_cases h0:rd xs (n:Int) = 0
    · simp only [h0,if_true]
      refine ih (by omega) (fun j hj=>?_)
      rcases Nat.eq_or_lt_of_le hj with rfl | hj
      · rw [← rd_nat];exact h0
      · exact hz j hj
    · simp only [h0,if_false]
      refine evq (Ev.now _) ?_
      have hv:=V_take_zeros (n:=n+1) hz
      rw [← hv]
      exact canon (h.take _) (take_Tr hn (.inr (by rw [Nat.add_sub_cancel,← rd_nat];exact h0)))
theorem trim_ev {xs:List Int} (hl:xs.length≤4611686018427387904) (h:Lm xs):Ev (fun k=>U37.f k xs) (toL (V xs)):=by
  unfold U37.f
  exact trim_l0 xs hl h xs.length (Nat.le_refl _) (fun j hj=>by simp [List.getD,hj])
theorem Of_ev {a:Int} (h0:0≤a) (h1:a < 18446744073709551616):Ev (fun k=>nat_Of.f k a) (toL a.toNat):=by
  unfold nat_Of.f
  rw [mask32 h0 h1]
  refine Ev.mapb (trim_ev (by simp) (Lm.cons (by omega) (by omega) (Lm.cons (by omega) (by omega) Lm.nil))) ?_
  congr 2
  simp only [V];omega
theorem Norm_ev {xs:List Int} (hl:xs.length≤4398046511104) (h:Lm xs):Ev (fun k=>U33.f k xs) (toL (V xs)):=by
  unfold U33.f
  simp only [Option.bind_some]
  refine Ev.mapb (trim_ev (by omega) h) ?_
  have:=toL_len_le h
  rw [if_pos (by simp;omega)];simp
theorem mul_bd {a b:Int} (ha:0≤a∧a < 4294967296) (hb:0≤b∧b < 4294967296):0≤a * b∧a * b≤18446744065119617025:=by
  refine ⟨Int.mul_nonneg ha.1 hb.1,?_⟩
  have:=Int.mul_le_mul (show a≤4294967295 by omega) (show b≤4294967295 by omega) hb.1 (by omega)
  omega
theorem mul_step {P y:List Int} (hP:Lm P) (hy:Lm y) {m j:Nat} (hm:m < P.length) (hj:j < y.length) {c p:Int} (hc:0≤c∧c < 4294967296) (hp:0≤p∧p < 4294967296) :
    let t:=c+(p * rd y (j:Int)+rd P (m:Int))
    0≤t∧t < 18446744073709551616∧V (P.set m (t % 4294967296))+(t / 4294967296).toNat * 4294967296 ^ (m+1)+p.toNat * 4294967296 ^ (m+1) * V (y.drop (j+1)) = V P+c.toNat * 4294967296 ^ m+p.toNat * 4294967296 ^ m * V (y.drop j):=by
  intro t
  have h1:=mul_bd hp (hy.rd_ (j:Int))
  have h2:=hP.rd_ (m:Int)
  have h3:=hy.rd_ (j:Int)
  have ht0:0≤t:=by omega
  refine ⟨ht0,by omega,?_⟩
  have hs:=V_set hm (t % 4294967296)
  rw [rd_lt hm] at h2
  have hd:V (y.drop j) = (rd y (j:Int)).toNat+4294967296 * V (y.drop (j+1)):=by rw [List.drop_eq_getElem_cons hj,V,rd_lt hj]
  have ht:(t % 4294967296).toNat+4294967296 * (t / 4294967296).toNat = c.toNat+(p.toNat * (rd y (j:Int)).toNat+(P[m]).toNat):=by
    have e1:t.toNat = c.toNat+(p.toNat * (rd y (j:Int)).toNat+(P[m]).toNat):=by
      have e2:((p.toNat * (rd y (j:Int)).toNat:Nat):Int) = p * rd y (j:Int):=by rw [Int.natCast_mul,Int.toNat_of_nonneg hp.1,Int.toNat_of_nonneg h3.1]
      have e3:t = c+(p * rd y (j:Int)+P[m]):=by rw [← rd_lt hm]
      omega
    omega
  rw [hd]
  generalize (t % 4294967296).toNat = a at *
  generalize (t / 4294967296).toNat = b at *
  generalize V (P.set m (t % 4294967296)) = v1 at *
  generalize V (y.drop (j+1)) = v2 at *
  generalize (rd y (j:Int)).toNat = v3 at *
  generalize (P[m]).toNat = v4 at *
  rw [Nat.pow_succ]
  generalize 4294967296 ^ m = w at *
  have:w * a+4294967296 * (b * w) = w * c.toNat+(w * (p.toNat * v3)+w * v4):=by rw [← Nat.mul_add,← Nat.mul_add,← ht,Nat.mul_add,← Nat.mul_assoc 4294967296 b w,Nat.mul_comm (4294967296 * b) w]
  have e5:b * (w * 4294967296) = 4294967296 * (b * w):=by rw [← Nat.mul_assoc,Nat.mul_comm]
  have e6:p.toNat * (w * 4294967296) * v2 = p.toNat * w * (4294967296 * v2):=by simp only [Nat.mul_assoc]
  have e7:w * (p.toNat * v3) = p.toNat * w * v3:=by rw [← Nat.mul_assoc,Nat.mul_comm w]
  rw [e5,e6,Nat.mul_add,Nat.mul_comm c.toNat w]
  omega
theorem zeros_set {P:List Int} {n m n' : Nat} {v:Int} (h:∀j,n≤j→P.getD j 0 = 0) (hm:m < n') (hn:n≤n'):∀j,n'≤j→(P.set m v).getD j 0 = 0:=by
  intro j hj
  have:=h j (by omega)
  rw [List.getD_eq_getElem?_getD,List.getElem?_set,if_neg (by omega)]
  rwa [List.getD_eq_getElem?_getD] at this
theorem mul_l1 {x y:List Int} (hy:Lm y) (hb:x.length+y.length≤4611686018427387904) {i:Nat} (hi:i < x.length) {p:Int} (hp:0≤p∧p < 4294967296) {R:List Int}:∀(e j:Nat) (P:List Int) (c:Int),j+e = y.length→Lm P→P.length = x.length+y.length →
    (∀ m,i+y.length≤m→P.getD m 0 = 0)→0≤c∧c < 4294967296 →
    (∀ P',Lm P'→P'.length = x.length+y.length→(∀ m,i+1+y.length≤m→P'.getD m 0 = 0)→V P' = V P+c.toNat * 4294967296 ^ (i+j)+p.toNat * 4294967296 ^ (i+j) * V (y.drop j) →
      Ev (fun k=>U32.l0 k y P' x (x.length:Int) ((i+1:Nat):Int)) R) →
    Ev (fun k=>U32.l1 k y P (i:Int) p c x (x.length:Int) (i:Int) y (y.length:Int) (j:Int)) R:=by
  intro e
  induction e with
  | zero =>
    intro j P c hj hP hl hz hc hk
    have hj' : j = y.length:=by omega
    subst hj'
    have hw:wrap64 ((i:Int)+(y.length:Int)) = ((i+y.length:Nat):Int):=by rw [w64] <;> omega
    have hw1:wrap64 ((i:Int)+1) = ((i+1:Nat):Int):=by rw [w64] <;> omega
    refine Ev.succ ?_
    simp only [U32.l1,show ¬ ((y.length:Int) < (y.length:Int)) by omega,if_false,hw,hw1,show (0:Int)≤((i+y.length:Nat):Int) by omega,if_true,show ((i+y.length:Nat):Int) < (P.length:Int) by omega,Int.toNat_natCast]
    have hm:i+y.length < P.length:=by omega
    refine hk _ (hP.set _ (by omega) (by omega)) (by rw [List.length_set];exact hl) (zeros_set hz (by omega) (by omega)) ?_
    have hs:=V_set hm (c % 4294967296)
    have h0:=hz (i+y.length) (Nat.le_refl _)
    have h0' : P[i+y.length] = 0:=by simpa [List.getD,hm] using h0
    rw [h0'] at hs
    have:(c % 4294967296).toNat = c.toNat:=by omega
    rw [this] at hs
    rw [List.drop_length]
    simp only [V,Nat.mul_zero,Int.toNat_zero,Nat.add_zero] at hs ⊢
    rw [Nat.mul_comm c.toNat];exact hs
  | succ e ih =>
    intro j P c hj hP hl hz hc hk
    have hw:wrap64 ((i:Int)+(j:Int)) = ((i+j:Nat):Int):=by rw [w64] <;> omega
    have hw1:wrap64 ((j:Int)+1) = ((j+1:Nat):Int):=by rw [w64] <;> omega
    have hm:i+j < P.length:=by omega
    obtain ⟨t0,t1,hv⟩:=mul_step hP hy hm (show j < y.length by omega) hc hp
    have h1:=mul_bd hp (hy.rd_ (j:Int))
    have h2:=hP.rd_ ((i+j:Nat):Int)
    have h3:=hy.rd_ (j:Int)
    have ht:IntKind.u64.wrap (c+(IntKind.u64.wrap ((IntKind.u64.wrap ((IntKind.u64.wrap p) * (IntKind.u64.wrap (rd y (j:Int)))))+(IntKind.u64.wrap (rd P ((i+j:Nat):Int)))))) = c+(p * rd y (j:Int)+rd P ((i+j:Nat):Int)):=by
      rw [wu hp.1 (by omega),wu h3.1 (by omega),wu h2.1 (by omega),wu h1.1 (by omega),wu (show 0≤p * rd y (j:Int)+rd P ((i+j:Nat):Int) by omega) (by omega),wu t0 t1]
    refine Ev.succ ?_
    simp only [U32.l1,show (j:Int) < (y.length:Int) by omega,if_true,show (0:Int)≤(j:Int) by omega,hw,show (0:Int)≤((i+j:Nat):Int) by omega,show ((i+j:Nat):Int) < (P.length:Int) by omega,ht,hw1,mask32 t0 t1,Int.toNat_natCast]
    rw [show (c+(p * rd y (j:Int)+rd P ((i+j:Nat):Int))) % 4294967296 % 4294967296 = (c+(p * rd y (j:Int)+rd P ((i+j:Nat):Int))) % 4294967296 by omega]
    refine ih (j+1) _ _ (by omega) (hP.set _ (by omega) (by omega)) (by rw [List.length_set];exact hl) (zeros_set hz (by omega) (Nat.le_refl _)) (by omega) (fun P' a b c' d=>hk P' a b c' ?_)
    rw [d,← hv,Nat.add_assoc i j 1]
theorem mul_l0 {x y:List Int} (hx:Lm x) (hy:Lm y) (hb:x.length+y.length≤4611686018427387904):∀(d i:Nat) (P:List Int),i+d = x.length→Lm P→P.length = x.length+y.length→(∀ m,i+y.length≤m→P.getD m 0 = 0) →
    Ev (fun k=>U32.l0 k y P x (x.length:Int) (i:Int)) (toL (V P+4294967296 ^ i * (V (x.drop i) * V y))):=by
  intro d
  induction d with
  | zero =>
    intro i P hi hP hl _
    refine Ev.succ ?_
    simp only [U32.l0,show ¬ ((i:Int) < (x.length:Int)) by omega,if_false]
    refine Ev.mapb (trim_ev (by omega) hP) ?_
    rw [List.drop_eq_nil_of_le (by omega)];simp [V]
  | succ d ih =>
    intro i P hi hP hl hz
    refine Ev.succ ?_
    simp only [U32.l0,show (i:Int) < (x.length:Int) by omega,if_true,show (0:Int)≤(i:Int) by omega]
    have:=mul_l1 (i:=i) (R:=toL (V P+4294967296 ^ i * (V (x.drop i) * V y))) hy hb (show i < x.length by omega) (hx.rd_ (i:Int)) y.length 0 P 0 (by omega) hP hl hz (by omega)
    simp only [Int.natCast_zero] at this
    refine this (fun P' a b c e=>?_)
    refine evq (ih (i+1) P' (by omega) a b c) ?_
    rw [e,List.drop_zero,List.drop_eq_getElem_cons (show i < x.length by omega),V,← rd_lt (show i < x.length by omega),Nat.pow_succ,Nat.add_zero]
    congr 1
    generalize (rd x (i:Int)).toNat = a1
    generalize V (x.drop (i+1)) = a2
    generalize 4294967296 ^ i = w
    rw [Nat.add_mul,Nat.mul_add,Nat.mul_assoc w 4294967296,Nat.mul_assoc 4294967296 a2,← Nat.mul_assoc w a1,Nat.mul_comm a1 w]
    simp [Nat.add_assoc]
theorem Mul_ev {xs ys:List Int} (hx:Lm xs) (hy:Lm ys) (hb:xs.length+ys.length≤70368744177664):Ev (fun k=>U32.f k xs ys) (toL (V xs * V ys)):=by
  unfold U32.f
  refine Ev.bind (trim_ev (by omega) hx) (Ev.bind (trim_ev (by omega) hy) ?_)
  have l1:=toL_len_le hx
  have l2:=toL_len_le hy
  have key:∀b:Bool,(b = true→V xs * V ys = 0)→Ev (fun k=>U32.j0 k (toL (V xs)) (toL (V ys)) b) (toL (V xs * V ys)):=by
    intro b hb'
    refine Ev.succ ?_
    simp only [U32.j0]
    cases b with
    | true=>simp only [if_true];refine evq (Ev.now _) ?_;rw [hb' rfl,toL_zero]
    | false =>
      have hw:wrap64 (((toL (V xs)).length:Int)+((toL (V ys)).length:Int)) = (((toL (V xs)).length+(toL (V ys)).length:Nat):Int):=by rw [w64] <;> omega
      simp only [Bool.false_eq_true,if_false,hw,show (0:Int)≤(((toL (V xs)).length+(toL (V ys)).length:Nat):Int) by omega,if_true,Int.toNat_natCast,show (toL (V xs)).length+(toL (V ys)).length≤70368744177664 by omega]
      have:=mul_l0 (toL_Lm (V xs)) (toL_Lm (V ys)) (by omega) (toL (V xs)).length 0 (List.replicate ((toL (V xs)).length+(toL (V ys)).length) 0) (by omega) (Lm.zeros _) (by simp) (fun m _=>by simp [List.getD,List.getElem?_replicate];split <;> rfl)
      refine evq this ?_
      rw [V_zeros,List.drop_zero,V_toL,V_toL];simp
  by_cases h0:((toL (V xs)).length:Int) = 0
  · simp only [h0,if_true]
    refine key true (fun _=>?_)
    have:V xs = 0:=toL_nil (List.eq_nil_of_length_eq_zero (by omega))
    rw [this,Nat.zero_mul]
  · simp only [h0,if_false]
    refine key _ (fun hb'=>?_)
    have:V ys = 0:=toL_nil (List.eq_nil_of_length_eq_zero (by have:=beq_iff_eq.1 hb';omega))
    rw [this,Nat.mul_zero]
end Go.Proofs.YtfkmbjkmlfnapaaDoor.Pure
