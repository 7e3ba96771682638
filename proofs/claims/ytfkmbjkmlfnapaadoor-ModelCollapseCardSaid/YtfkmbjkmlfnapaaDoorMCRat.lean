import Derived.Test.YtfkmbjkmlfnapaaDoorMCQAx10
import Derived.Test.YtfkmbjkmlfnapaaDoorMCQAx11
import Derived.Test.YtfkmbjkmlfnapaaDoorMCQAx22
import Derived.Test.YtfkmbjkmlfnapaaDoorMCQAx23
import Derived.Test.YtfkmbjkmlfnapaaDoorMCQAx24
import Derived.Test.YtfkmbjkmlfnapaaDoorMCQAx25
import Derived.Test.YtfkmbjkmlfnapaaDoorMCQAx27
import Derived.Test.YtfkmbjkmlfnapaaDoorMCNatD
set_option linter.unusedVariables false
set_option linter.unusedSimpArgs false
namespace Go.Proofs.YtfkmbjkmlfnapaaDoor.Pure
open Go.RowKit Go.Proofs.YtfkmbjkmlfnapaaDoorW.PrintWords Go.Proofs.YtfkmbjkmlfnapaaDoorW.PrintLast Go.Proofs.YtfkmbjkmlfnapaaDoorW.PrintMore Go.Proofs.YtfkmbjkmlfnapaaDoor.QA
def zI (a:Int):Bool × List Int:=(decide (a < 0),toL a.natAbs)
def rG (x:Int) (d:Nat):Nat:=Nat.gcd x.natAbs d
def rN (x:Int) (d:Nat):Int:=if x < 0 then -((x.natAbs / rG x d:Nat):Int) else ((x.natAbs / rG x d:Nat):Int)
def rD (x:Int) (d:Nat):Nat:=d / rG x d
def fr (a:Int) (b:Nat):Bool × List Int × List Int:=(decide (a < 0),toL a.natAbs,toL b)
def rat (x:Int) (d:Nat):Bool × List Int × List Int:=fr (rN x d) (rD x d)
theorem rG_pos (x:Int) {d:Nat} (hd:1≤d):1≤rG x d:=Nat.gcd_pos_of_pos_right _ hd
theorem rG_num (x:Int) (d:Nat):x.natAbs = rG x d * (x.natAbs / rG x d):=(Nat.mul_div_cancel' (Nat.gcd_dvd_left _ _)).symm
theorem rG_den (x:Int) (d:Nat):d = rG x d * rD x d:=(Nat.mul_div_cancel' (Nat.gcd_dvd_right _ _)).symm
theorem rN_abs (x:Int) (d:Nat):(rN x d).natAbs = x.natAbs / rG x d:=by
  unfold rN
  generalize x.natAbs / rG x d = q
  split <;> omega
theorem rD_pos (x:Int) {d:Nat} (hd:1≤d):1≤rD x d:=by
  have h:=rG_den x d
  rcases Nat.eq_zero_or_pos (rD x d) with h0 | h0
  · rw [h0,Nat.mul_zero] at h;omega
  · exact h0
theorem rD_le (x:Int) (d:Nat):rD x d≤d:=Nat.div_le_self _ _
theorem rN_le (x:Int) (d:Nat):(rN x d).natAbs≤x.natAbs:=by rw [rN_abs];exact Nat.div_le_self _ _
theorem rN_cop (x:Int) {d:Nat} (hd:1≤d):Nat.Coprime (rN x d).natAbs (rD x d):=by
  rw [rN_abs];exact Nat.coprime_div_gcd_div_gcd (rG_pos x hd)
theorem rN_sg (x:Int) {d:Nat} (hd:1≤d):(rN x d < 0↔x < 0)∧(rN x d = 0↔x = 0):=by
  have h:=rG_num x d
  have h0:x.natAbs / rG x d = 0→x = 0:=fun e=>by rw [e,Nat.mul_zero] at h;omega
  have h1:x = 0→x.natAbs / rG x d = 0:=fun e=>by rw [e];simp
  unfold rN
  generalize x.natAbs / rG x d = q at *
  split <;> omega
theorem rN_eq (x:Int) {d:Nat} (hd:1≤d):rN x d * (d:Int) = x * (rD x d:Int):=by
  have h:=rG_num x d
  have h2:=rG_den x d
  generalize rD x d = b at *
  have hx:x = if x < 0 then -((rG x d * (x.natAbs / rG x d):Nat):Int) else ((rG x d * (x.natAbs / rG x d):Nat):Int):=by
    rw [← h];split <;> omega
  unfold rN
  generalize x.natAbs / rG x d = q at *
  generalize rG x d = g at *
  subst h2
  by_cases hn:x < 0
  · rw [if_pos hn] at hx ⊢
    rw [hx];push_cast
    rw [Int.neg_mul,Int.neg_mul];congr 1
    rw [← Int.mul_assoc,Int.mul_comm (q:Int) (g:Int)]
  · rw [if_neg hn] at hx ⊢
    rw [hx];push_cast
    rw [← Int.mul_assoc,Int.mul_comm (q:Int) (g:Int)]
theorem cop_uniq {q b q' b' : Nat} (h:Nat.Coprime q b) (h' : Nat.Coprime q' b') (hb:1≤b) (e:q * b' = q' * b):q = q'∧b = b':=by
  have h1:b ∣ b':=Nat.Coprime.dvd_of_dvd_mul_left (Nat.Coprime.symm h) ⟨q',by rw [e,Nat.mul_comm]⟩
  have h2:b' ∣ b:=Nat.Coprime.dvd_of_dvd_mul_left (Nat.Coprime.symm h') ⟨q,by rw [← e,Nat.mul_comm]⟩
  have h3:=Nat.dvd_antisymm h1 h2
  subst h3
  exact ⟨Nat.eq_of_mul_eq_mul_right hb e,rfl⟩
theorem rat_congr {x y:Int} {d e:Nat} (hd:1≤d) (he:1≤e) (h:x * (e:Int) = y * (d:Int)):rN x d = rN y e∧rD x d = rD y e:=by
  have h1:=rN_eq x hd
  have h2:=rN_eq y he
  have hb:=rD_pos x hd
  have hb':=rD_pos y he
  have hs:=rN_sg x hd
  have hs':=rN_sg y he
  have key:rN x d * (rD y e:Int) = rN y e * (rD x d:Int):=by
    have hde:((d:Int) * (e:Int)) ≠ 0:=Int.mul_ne_zero (by omega) (by omega)
    refine Int.eq_of_mul_eq_mul_right hde ?_
    generalize (rN x d) = a at *
    generalize (rN y e) = a' at *
    generalize ((rD x d:Nat):Int) = b at *
    generalize ((rD y e:Nat):Int) = b' at *
    calc a * b' * ((d:Int) * (e:Int)) = (a * (d:Int)) * (b' * (e:Int)):=by ac_rfl
      _ = (x * b) * (b' * (e:Int)):=by rw [h1]
      _ = (x * (e:Int)) * (b * b'):=by ac_rfl
      _ = (y * (d:Int)) * (b * b'):=by rw [h]
      _ = (y * b') * (b * (d:Int)):=by ac_rfl
      _ = (a' * (e:Int)) * (b * (d:Int)):=by rw [h2]
      _ = a' * b * ((d:Int) * (e:Int)):=by ac_rfl
  have hn:(rN x d).natAbs * rD y e = (rN y e).natAbs * rD x d:=by
    have:=congrArg Int.natAbs key
    rwa [Int.natAbs_mul,Int.natAbs_mul,Int.natAbs_natCast,Int.natAbs_natCast] at this
  have hu:=cop_uniq (rN_cop x hd) (rN_cop y he) hb hn
  refine ⟨?_,hu.2⟩
  rw [hu.2] at key
  exact Int.eq_of_mul_eq_mul_right (by omega) key
theorem rat_eq {x y:Int} {d e:Nat} (hd:1≤d) (he:1≤e) (h:x * (e:Int) = y * (d:Int)):rat x d = rat y e:=by
  have:=rat_congr hd he h
  unfold rat;rw [this.1,this.2]
def cmpI (a b:Int):Int:=if a < b then -1 else if b < a then 1 else 0
theorem cmpI_mul {a b c:Int} (hc:0 < c):cmpI (a * c) (b * c) = cmpI a b:=by
  unfold cmpI
  have h1:a * c < b * c↔a < b:=Int.mul_lt_mul_right hc
  have h2:b * c < a * c↔b < a:=Int.mul_lt_mul_right hc
  simp only [h1,h2]
theorem rat_cmp (x y:Int) {d e:Nat} (hd:1≤d) (he:1≤e):cmpI (rN x d * (rD y e:Int)) (rN y e * (rD x d:Int)) = cmpI (x * (e:Int)) (y * (d:Int)):=by
  have h1:=rN_eq x hd
  have h2:=rN_eq y he
  have hb:=rD_pos x hd
  have hb':=rD_pos y he
  have hde:0 < ((d:Int) * (e:Int)):=Int.mul_pos (by omega) (by omega)
  have hbb:0 < (((rD x d:Nat):Int) * ((rD y e:Nat):Int)):=Int.mul_pos (by omega) (by omega)
  have c1:=cmpI_mul (a:=rN x d * (rD y e:Int)) (b:=rN y e * (rD x d:Int)) hde
  have c2:=cmpI_mul (a:=x * (e:Int)) (b:=y * (d:Int)) hbb
  have e1:rN x d * (rD y e:Int) * ((d:Int) * (e:Int)) = x * (e:Int) * ((rD x d:Int) * (rD y e:Int)):=by
    calc rN x d * (rD y e:Int) * ((d:Int) * (e:Int)) = (rN x d * (d:Int)) * ((rD y e:Int) * (e:Int)):=by ac_rfl
      _ = _:=by rw [h1];ac_rfl
  have e2:rN y e * (rD x d:Int) * ((d:Int) * (e:Int)) = y * (d:Int) * ((rD x d:Int) * (rD y e:Int)):=by
    calc rN y e * (rD x d:Int) * ((d:Int) * (e:Int)) = (rN y e * (e:Int)) * ((rD x d:Int) * (d:Int)):=by ac_rfl
      _ = _:=by rw [h2];ac_rfl
  rw [← c1,e1,e2,c2]
theorem len_add {a b m:Nat} (ha:(toL a).length≤m) (hb:(toL b).length≤m):(toL (a+b)).length≤m+1:=by
  refine V_lt_inv ?_
  have h1:=V_lt (toL_Lm a)
  have h2:=V_lt (toL_Lm b)
  rw [V_toL] at h1 h2
  have h3:=Nat.pow_le_pow_right (show 4294967296 > 0 by omega) ha
  have h4:=Nat.pow_le_pow_right (show 4294967296 > 0 by omega) hb
  rw [Nat.pow_succ];omega
theorem len_mul {a b m n:Nat} (ha:(toL a).length≤m) (hb:(toL b).length≤n):(toL (a * b)).length≤m+n:=by
  refine V_lt_inv ?_
  have h1:=V_lt (toL_Lm a)
  have h2:=V_lt (toL_Lm b)
  rw [V_toL] at h1 h2
  have h3:=Nat.pow_le_pow_right (show 4294967296 > 0 by omega) ha
  have h4:=Nat.pow_le_pow_right (show 4294967296 > 0 by omega) hb
  rw [Nat.pow_add]
  exact Nat.mul_lt_mul'' (by omega) (by omega)
theorem len_one {a:Nat} (h:a < 4294967296):(toL a).length≤1:=V_lt_inv (by omega)
theorem len_two {a:Nat} (h:a < 18446744073709551616):(toL a).length≤2:=V_lt_inv (by omega)
theorem toL_pos_iff (n:Nat):(0 < (toL n).length)↔n ≠ 0:=by
  constructor
  · intro h e;rw [e,toL_zero] at h;simp at h
  · intro h;rw [toL_pos h];simp
def sg (s:Bool) (m:Nat):Int:=if s = true then -(m:Int) else (m:Int)
theorem sg_of (a:Int):sg (decide (a < 0)) a.natAbs = a:=by
  unfold sg;by_cases h:a < 0
  · simp only [decide_eq_true h,if_true];omega
  · simp only [decide_eq_false h,Bool.false_eq_true,if_false];omega
theorem zI_nat (n:Nat):zI (n:Int) = (false,toL n):=by
  unfold zI;rw [Int.natAbs_natCast,decide_eq_false (by omega)]
theorem iMake_ev (s:Bool) {m:Nat} (hm:(toL m).length≤1000000):Ev (fun k=>U9.f k s (toL m)) (zI (sg s m)):=by
  unfold U9.f
  refine Ev.bind (Norm_ev (by omega) (toL_Lm m)) ?_
  rw [V_toL]
  cases s
  · simp only [Bool.false_eq_true,if_false]
    refine evq (Ev.now _) ?_
    unfold sg;rw [if_neg (by simp),zI_nat]
  · simp only [if_true]
    refine evq (Ev.now _) ?_
    unfold sg zI;rw [if_pos rfl,Int.natAbs_neg,Int.natAbs_natCast]
    congr 1
    by_cases h:m = 0
    · subst h;rw [toL_zero];rfl
    · rw [decide_eq_true ((toL_pos_iff m).2 h),decide_eq_true (by omega)]
theorem iOf_ev {a:Int} (h0 : -9223372036854775808≤a) (h1:a≤9223372036854775807):Ev (fun k=>U11.f k a) (zI a):=by
  unfold U11.f
  by_cases h:a < 0
  · have e:IntKind.u64.wrap (IntKind.u64.wrap (wrap64 (-(wrap64 (a+1))))+1) = -a:=by
      rw [w64 (x:=a+1) (by omega) (by omega),w64 (x:=-(a+1)) (by omega) (by omega),wu (x:=-(a+1)) (by omega) (by omega),wu (by omega) (by omega)];omega
    simp only [if_pos h,e]
    refine Ev.bind (Of_ev (by omega) (by omega)) ?_
    refine evq (Ev.now _) ?_
    unfold zI;rw [decide_eq_true h,show (-a).toNat = a.natAbs by omega]
  · have e:IntKind.u64.wrap a = a:=wu (by omega) (by omega)
    simp only [if_neg h,e]
    refine Ev.bind (Of_ev (by omega) (by omega)) ?_
    refine evq (Ev.now _) ?_
    unfold zI;rw [decide_eq_false h,show a.toNat = a.natAbs by omega]
theorem mul_sg (a b:Int):sg (decide (a < 0) != decide (b < 0)) (a.natAbs * b.natAbs) = a * b:=by
  have h1:a = sg (decide (a < 0)) a.natAbs:=(sg_of a).symm
  have h2:b = sg (decide (b < 0)) b.natAbs:=(sg_of b).symm
  conv=>rhs;rw [h1,h2]
  unfold sg
  by_cases h:a < 0 <;> by_cases h' : b < 0 <;> simp [h,h',Int.neg_mul,Int.mul_neg]
theorem iMul_ev (a b:Int) {m:Nat} (ha:(toL a.natAbs).length≤1000) (hb:(toL b.natAbs).length≤1000):Ev (fun k=>U10.f k (decide (a < 0)) (toL a.natAbs) (decide (b < 0)) (toL b.natAbs)) (zI (a * b)):=by
  unfold U10.f
  refine Ev.bind (Mul_ev (toL_Lm _) (toL_Lm _) (by omega)) ?_
  rw [V_toL,V_toL]
  have:=len_mul ha hb
  refine Ev.bind (iMake_ev _ (by omega)) ?_
  refine evq (Ev.now _) ?_
  rw [mul_sg] <;> rfl
theorem iAdd_ev (a b:Int) (ha:(toL a.natAbs).length≤10000) (hb:(toL b.natAbs).length≤10000):Ev (fun k=>U7.f k (decide (a < 0)) (toL a.natAbs) (decide (b < 0)) (toL b.natAbs)) (zI (a+b)):=by
  unfold U7.f
  by_cases hs:(a < 0↔b < 0)
  · have e:(decide (a < 0) == decide (b < 0)) = true:=by rw [beq_iff_eq,decide_eq_decide];exact hs
    simp only [e,if_true]
    refine Ev.bind (Add_ev (by omega) (by omega)) ?_
    have:=len_add ha hb
    refine Ev.bind (iMake_ev _ (by omega)) ?_
    refine evq (Ev.now _) ?_
    have:sg (decide (a < 0)) (a.natAbs+b.natAbs) = a+b:=by
      unfold sg;by_cases h:a < 0
      · have:=hs.1 h;simp only [decide_eq_true h,if_true];omega
      · have:¬ b < 0:=fun h'=>h (hs.2 h');simp only [decide_eq_false h,Bool.false_eq_true,if_false];omega
    rw [this] <;> rfl
  · have e:¬ ((decide (a < 0) == decide (b < 0)) = true):=by rw [beq_iff_eq,decide_eq_decide];exact hs
    simp only [e,Bool.false_eq_true,if_false]
    refine Ev.bind (Sub_ev (by omega) (by omega)) ?_
    by_cases hlt:a.natAbs < b.natAbs
    · simp only [if_pos hlt,Bool.false_eq_true,if_false]
      refine Ev.bind (Sub_ev (by omega) (by omega)) ?_
      have hn:¬ (b.natAbs < a.natAbs):=by omega
      simp only [if_neg hn]
      have:=len_le (show b.natAbs - a.natAbs≤b.natAbs by omega)
      refine Ev.bind (iMake_ev _ (by omega)) ?_
      refine evq (Ev.now _) ?_
      have:sg (decide (b < 0)) (b.natAbs - a.natAbs) = a+b:=by
        unfold sg;by_cases h:b < 0
        · simp only [decide_eq_true h,if_true];omega
        · simp only [decide_eq_false h,Bool.false_eq_true,if_false];omega
      rw [this] <;> rfl
    · simp only [if_neg hlt,if_true]
      have:=len_le (show a.natAbs - b.natAbs≤a.natAbs by omega)
      refine Ev.bind (iMake_ev _ (by omega)) ?_
      refine evq (Ev.now _) ?_
      have:sg (decide (a < 0)) (a.natAbs - b.natAbs) = a+b:=by
        unfold sg;by_cases h:a < 0
        · simp only [decide_eq_true h,if_true];omega
        · simp only [decide_eq_false h,Bool.false_eq_true,if_false];omega
      rw [this] <;> rfl
theorem iSign_ev (a:Int) (ha:(toL a.natAbs).length≤10000):Ev (fun k=>U13.f k (decide (a < 0)) (toL a.natAbs)) (cmpI a 0):=by
  unfold U13.f
  by_cases h0:a = 0
  · subst h0
    exact Ev.mapb Bits_zero rfl
  · obtain ⟨b,hb,hB⟩:=Bits_ev (a:=a.natAbs) (by omega) (by omega)
    refine Ev.bind hB ?_
    simp only [show ¬ b = 0 by omega,if_false]
    unfold cmpI
    by_cases h:a < 0
    · simp only [decide_eq_true h,if_pos h,if_true];exact Ev.now _
    · simp only [decide_eq_false h,if_neg h,if_pos (show 0 < a by omega),Bool.false_eq_true,if_false];exact Ev.now _
theorem cmp0_neg {a:Int} (h:a < 0):cmpI a 0 = -1:=by unfold cmpI;rw [if_pos h]
theorem cmp0_zero:cmpI 0 0 = 0:=by unfold cmpI;simp
theorem cmp0_pos {a:Int} (h:0 < a):cmpI a 0 = 1:=by unfold cmpI;rw [if_neg (by omega),if_pos h]
theorem cmpI_lt {a b:Int} (h:a < b):cmpI a b = -1:=by unfold cmpI;rw [if_pos h]
theorem cmpI_gt {a b:Int} (h:b < a):cmpI a b = 1:=by unfold cmpI;rw [if_neg (by omega),if_pos h]
theorem cmpN_pos {a b:Int} (ha:0≤a) (hb:0≤b):cmpN a.natAbs b.natAbs = cmpI a b:=by
  unfold cmpN cmpI
  by_cases h:a < b
  · rw [if_pos h,if_pos (by omega)]
  · rw [if_neg h,if_neg (by omega)]
    by_cases h' : b < a
    · rw [if_pos h',if_pos (by omega)]
    · rw [if_neg h',if_neg (by omega)]
theorem cmpN_neg {a b:Int} (ha:a≤0) (hb:b≤0):cmpN b.natAbs a.natAbs = cmpI a b:=by
  unfold cmpN cmpI
  by_cases h:a < b
  · rw [if_pos h,if_pos (by omega)]
  · rw [if_neg h,if_neg (by omega)]
    by_cases h' : b < a
    · rw [if_pos h',if_pos (by omega)]
    · rw [if_neg h',if_neg (by omega)]
theorem iCmp_ev (a b:Int) (ha:(toL a.natAbs).length≤10000) (hb:(toL b.natAbs).length≤10000):Ev (fun k=>U8.f k (decide (a < 0)) (toL a.natAbs) (decide (b < 0)) (toL b.natAbs)) (cmpI a b):=by
  unfold U8.f
  refine Ev.bind (iSign_ev a ha) (Ev.bind (iSign_ev b hb) ?_)
  rcases Int.lt_trichotomy a 0 with h | h | h <;> rcases Int.lt_trichotomy b 0 with h' | h' | h'
  · rw [cmp0_neg h,cmp0_neg h']
    simp only [show ¬ ((-1:Int) < -1) by omega,show ¬ ((-1:Int) > -1) by omega,show (-1:Int) < 0 by omega,if_true,if_false]
    exact Ev.mapb (Cmp_ev (by omega) (by omega)) (by rw [cmpN_neg (by omega) (by omega)])
  · rw [cmp0_neg h,h',cmp0_zero]
    simp only [show (-1:Int) < 0 by omega,if_true]
    exact evq (Ev.now _) (cmpI_lt h).symm
  · rw [cmp0_neg h,cmp0_pos h']
    simp only [show (-1:Int) < 1 by omega,if_true]
    exact evq (Ev.now _) (cmpI_lt (by omega)).symm
  · rw [h,cmp0_zero,cmp0_neg h']
    simp only [show ¬ ((0:Int) < -1) by omega,show (0:Int) > -1 by omega,if_true,if_false]
    exact evq (Ev.now _) (cmpI_gt h').symm
  · subst h;subst h'
    rw [cmp0_zero]
    simp only [show ¬ ((0:Int) < 0) by omega,show ¬ ((0:Int) > 0) by omega,if_false]
    exact Ev.mapb (Cmp_ev (by omega) (by omega)) (by rw [cmpN_pos (by omega) (by omega),cmp0_zero])
  · rw [h,cmp0_zero,cmp0_pos h']
    simp only [show (0:Int) < 1 by omega,if_true]
    exact evq (Ev.now _) (cmpI_lt h').symm
  · rw [cmp0_pos h,cmp0_neg h']
    simp only [show ¬ ((1:Int) < -1) by omega,show (1:Int) > -1 by omega,if_true,if_false]
    exact evq (Ev.now _) (cmpI_gt (by omega)).symm
  · rw [cmp0_pos h,h',cmp0_zero]
    simp only [show ¬ ((1:Int) < 0) by omega,show (1:Int) > 0 by omega,if_true,if_false]
    exact evq (Ev.now _) (cmpI_gt h).symm
  · rw [cmp0_pos h,cmp0_pos h']
    simp only [show ¬ ((1:Int) < 1) by omega,show ¬ ((1:Int) > 1) by omega,show ¬ ((1:Int) < 0) by omega,if_false]
    exact Ev.mapb (Cmp_ev (by omega) (by omega)) (by rw [cmpN_pos (by omega) (by omega)])
theorem zero_ev:Ev (fun k=>U47.f k) (fr 0 1):=by
  unfold U47.f
  refine Ev.bind (Of_ev (by omega) (by omega)) ?_
  exact evq (Ev.now _) (by unfold fr;rw [show (0:Int).natAbs = 0 from rfl,toL_zero];rfl)
theorem rat_zero {d:Nat} (hd:1≤d):rat 0 d = fr 0 1:=by
  have h:rG 0 d = d:=by unfold rG;simp
  unfold rat rN rD;rw [h,Nat.div_self hd];simp
theorem lowest_ev (a:Int) {d:Nat} (ha:(toL a.natAbs).length≤1000) (h0:1≤d) (h1:d < 4294967296):Ev (fun k=>U44.f k (decide (a < 0)) (toL a.natAbs) (toL d)) (rat a d):=by
  unfold U44.f
  have hd:=len_one h1
  refine Ev.bind (Gcd_ev ha h1) ?_
  obtain ⟨b,hb,hB⟩:=Bits_ev (a:=d) h0 (by omega)
  refine Ev.bind hB ?_
  simp only [show ¬ b = 0 by omega,if_false]
  by_cases hz:a = 0
  · subst hz
    refine Ev.bind Bits_zero ?_
    refine Ev.succ ?_
    simp only [U44.j0,beq_self_eq_true,if_true]
    refine Ev.bind zero_ev ?_
    exact evq (Ev.now _) (by rw [rat_zero h0])
  · obtain ⟨c,hc,hC⟩:=Bits_ev (a:=a.natAbs) (by omega) (by omega)
    refine Ev.bind hC ?_
    refine Ev.succ ?_
    simp only [U44.j0,beq_eq_false_iff_ne.2 (show c ≠ 0 by omega),Bool.false_eq_true,if_false]
    have hg:1≤Nat.gcd a.natAbs d:=rG_pos a h0
    have hg1:Nat.gcd a.natAbs d≤d:=Nat.gcd_le_right _ h0
    refine Ev.bind (DivMod_ev ha hg (by omega)) (Ev.bind (DivMod_ev (by omega) hg (by omega)) ?_)
    have hl:=len_le (Nat.div_le_self a.natAbs (Nat.gcd a.natAbs d))
    refine Ev.bind (iMake_ev _ (by omega)) ?_
    refine evq (Ev.now _) ?_
    unfold rat fr zI rD rG
    have:sg (decide (a < 0)) (a.natAbs / Nat.gcd a.natAbs d) = rN a d:=by
      unfold sg rN rG;by_cases h:a < 0
      · rw [decide_eq_true h,if_pos rfl,if_pos h]
      · rw [decide_eq_false h,if_neg (by simp),if_neg h]
    rw [this]
theorem qMake_ev (a b:Int) (ha:(toL a.natAbs).length≤1000) (h0:b ≠ 0) (h1:b.natAbs < 4294967296):Ev (fun k=>U40.f k (decide (a < 0)) (toL a.natAbs) (decide (b < 0)) (toL b.natAbs)) ((rat (if b < 0 then -a else a) b.natAbs).1,(rat (if b < 0 then -a else a) b.natAbs).2.1,(rat (if b < 0 then -a else a) b.natAbs).2.2,true):=by
  unfold U40.f
  have hd:=len_one h1
  obtain ⟨c,hc,hC⟩:=Bits_ev (a:=b.natAbs) (by omega) (by omega)
  refine Ev.bind hC ?_
  simp only [show ¬ c = 0 by omega,if_false]
  by_cases hz:a = 0
  · subst hz
    have e:(if b < 0 then -(0:Int) else 0) = 0:=by split <;> rfl
    rw [e]
    have key:∀s:Bool,Ev (fun k=>U44.f k s (toL (0:Int).natAbs) (toL b.natAbs)) (rat 0 b.natAbs):=by
      intro s
      unfold U44.f
      refine Ev.bind (Gcd_ev ha h1) ?_
      refine Ev.bind hC ?_
      simp only [show ¬ c = 0 by omega,if_false]
      refine Ev.bind Bits_zero ?_
      refine Ev.succ ?_
      simp only [U44.j0,beq_self_eq_true,if_true]
      refine Ev.bind zero_ev ?_
      exact evq (Ev.now _) (by rw [rat_zero (by omega)])
    exact Ev.mapb (key _) rfl
  · have e:(decide (a < 0) != decide (b < 0)) = decide ((if b < 0 then -a else a) < 0):=by
      by_cases h:a < 0 <;> by_cases h' : b < 0
      · rw [if_pos h',decide_eq_true h,decide_eq_true h',decide_eq_false (by omega)];rfl
      · rw [if_neg h',decide_eq_true h,decide_eq_false h'];rfl
      · rw [if_pos h',decide_eq_false h,decide_eq_true h',decide_eq_true (by omega)];rfl
      · rw [if_neg h',decide_eq_false h,decide_eq_false h'];rfl
    have e2:a.natAbs = (if b < 0 then -a else a).natAbs:=by split <;> omega
    rw [e]
    have:=lowest_ev (if b < 0 then -a else a) (d:=b.natAbs) (by rw [← e2];exact ha) (by omega) h1
    rw [← e2] at this
    exact Ev.mapb this rfl
theorem qOf_ev {a b:Int} (h0 : -9223372036854775808≤a) (h1:a≤9223372036854775807) (h2:1≤b) (h3:b < 4294967296):Ev (fun k=>U42.f k a b) ((rat a b.toNat).1,(rat a b.toNat).2.1,(rat a b.toNat).2.2,true):=by
  unfold U42.f
  refine Ev.bind (iOf_ev h0 h1) (Ev.bind (iOf_ev (by omega) (by omega)) ?_)
  have hl:(toL a.natAbs).length≤1000:=Nat.le_trans (len_two (by omega)) (by omega)
  have:=qMake_ev a b hl (by omega) (by omega)
  rw [if_neg (by omega),show b.natAbs = b.toNat by omega] at this
  refine Ev.bind (g:=fun k=>U40.f k (zI a).1 (zI a).2 (zI b).1 (zI b).2) (by unfold zI;rw [show b.natAbs = b.toNat by omega];exact this) ?_
  exact evq (Ev.now _) rfl
theorem parts_ev (a:Int) {b:Nat} (h0:1≤b) (hb:(toL b).length≤1000):Ev (fun k=>U45.f k (fr a b).1 (fr a b).2.1 (fr a b).2.2) ((fr a b).1,(fr a b).2.1,false,toL b):=by
  unfold U45.f U46.f
  obtain ⟨c,hc,hC⟩:=Bits_ev (a:=b) h0 (by omega)
  refine Ev.bind hC ?_
  simp only [show ¬ c = 0 by omega,if_false]
  refine Ev.bind (Ev.bind (iMake_ev false (m:=b) (by omega)) (Ev.now _)) ?_
  refine evq (Ev.now _) ?_
  unfold sg;rw [if_neg (by simp),zI_nat]
theorem nat_cast_mul_ev (a:Int) (b:Nat) (ha:(toL a.natAbs).length≤1000) (hb:(toL b).length≤1000):Ev (fun k=>U10.f k (decide (a < 0)) (toL a.natAbs) false (toL b)) (zI (a * (b:Int))):=by
  have:=iMul_ev a (b:Int) (m:=0) ha (by rw [Int.natAbs_natCast];exact hb)
  rwa [Int.natAbs_natCast,decide_eq_false (show ¬ ((b:Int) < 0) by omega)] at this
theorem qCmp_ev (a a' : Int) {b b' : Nat} (h0:1≤b) (h0' : 1≤b') (ha:(toL a.natAbs).length≤400) (ha' : (toL a'.natAbs).length≤400) (hb:(toL b).length≤400) (hb' : (toL b').length≤400) :
    Ev (fun k=>U39.f k (fr a b).1 (fr a b).2.1 (fr a b).2.2 (fr a' b').1 (fr a' b').2.1 (fr a' b').2.2) (cmpI (a * (b' : Int)) (a' * (b:Int))):=by
  unfold U39.f
  refine Ev.bind (parts_ev a h0 (by omega)) (Ev.bind (parts_ev a' h0' (by omega)) ?_)
  refine Ev.bind (nat_cast_mul_ev a b' (by omega) (by omega)) (Ev.bind (nat_cast_mul_ev a' b (by omega) (by omega)) ?_)
  have h1:=len_mul ha hb'
  have h2:=len_mul ha' hb
  refine Ev.bind (iCmp_ev _ _ (by rw [Int.natAbs_mul,Int.natAbs_natCast];omega) (by rw [Int.natAbs_mul,Int.natAbs_natCast];omega)) ?_
  exact Ev.now _
theorem ratCmp_ev {x y:Int} {d e:Nat} (hd:1≤d) (he:1≤e) (hx:(toL x.natAbs).length≤400) (hy:(toL y.natAbs).length≤400) (hd' : (toL d).length≤400) (he' : (toL e).length≤400) :
    Ev (fun k=>U39.f k (rat x d).1 (rat x d).2.1 (rat x d).2.2 (rat y e).1 (rat y e).2.1 (rat y e).2.2) (cmpI (x * (e:Int)) (y * (d:Int))):=by
  have h1:=len_le (rN_le x d)
  have h2:=len_le (rN_le y e)
  have h3:=len_le (rD_le x d)
  have h4:=len_le (rD_le y e)
  have:=qCmp_ev (rN x d) (rN y e) (rD_pos x hd) (rD_pos y he) (by omega) (by omega) (by omega) (by omega)
  rw [rat_cmp x y hd he] at this
  exact this
theorem mul_dd (a a' b b' x y d e:Int):(a * b'+a' * b) * (d * e) = (a * d) * (b' * e)+(a' * e) * (b * d):=by
  rw [Int.add_mul];congr 1 <;> ac_rfl
theorem qAdd_ev (a a' : Int) {b b' : Nat} (h0:1≤b) (h0' : 1≤b') (ha:(toL a.natAbs).length≤400) (ha' : (toL a'.natAbs).length≤400) (hb:(toL b).length≤400) (hb' : (toL b').length≤400) (hbb:b * b' < 4294967296) :
    Ev (fun k=>U38.f k (fr a b).1 (fr a b).2.1 (fr a b).2.2 (fr a' b').1 (fr a' b').2.1 (fr a' b').2.2) (rat (a * (b' : Int)+a' * (b:Int)) (b * b')):=by
  unfold U38.f
  refine Ev.bind (parts_ev a h0 (by omega)) (Ev.bind (parts_ev a' h0' (by omega)) ?_)
  refine Ev.bind (nat_cast_mul_ev a b' (by omega) (by omega)) (Ev.bind (nat_cast_mul_ev a' b (by omega) (by omega)) ?_)
  have h1:=len_mul ha hb'
  have h2:=len_mul ha' hb
  refine Ev.bind (iAdd_ev _ _ (by rw [Int.natAbs_mul,Int.natAbs_natCast];omega) (by rw [Int.natAbs_mul,Int.natAbs_natCast];omega)) ?_
  refine Ev.bind (Mul_ev (xs:=toL b) (ys:=toL b') (toL_Lm _) (toL_Lm _) (by omega)) ?_
  rw [V_toL,V_toL]
  have h3:(a * (b' : Int)+a' * (b:Int)).natAbs≤a.natAbs * b'+a'.natAbs * b:=by
    have:=Int.natAbs_add_le (a * (b' : Int)) (a' * (b:Int))
    rwa [Int.natAbs_mul,Int.natAbs_mul,Int.natAbs_natCast,Int.natAbs_natCast] at this
  have h4:=len_le h3
  have h5:=len_add (m:=800) (by omega:(toL (a.natAbs * b')).length≤800) (by omega:(toL (a'.natAbs * b)).length≤800)
  refine Ev.bind (lowest_ev _ (by omega) (Nat.mul_pos h0 h0') hbb) ?_
  exact Ev.now _
theorem rat_add (x y:Int) {d e:Nat} (hd:1≤d) (he:1≤e):rat (rN x d * (rD y e:Int)+rN y e * (rD x d:Int)) (rD x d * rD y e) = rat (x * (e:Int)+y * (d:Int)) (d * e):=by
  have h1:=rN_eq x hd
  have h2:=rN_eq y he
  refine rat_eq (Nat.mul_pos (rD_pos x hd) (rD_pos y he)) (Nat.mul_pos hd he) ?_
  push_cast
  rw [mul_dd _ _ _ _ 0 0,h1,h2,Int.add_mul]
  congr 1 <;> ac_rfl
theorem ratAdd_ev {x y:Int} {d e:Nat} (hd:1≤d) (he:1≤e) (hx:(toL x.natAbs).length≤400) (hy:(toL y.natAbs).length≤400) (hde:d * e < 4294967296) :
    Ev (fun k=>U38.f k (rat x d).1 (rat x d).2.1 (rat x d).2.2 (rat y e).1 (rat y e).2.1 (rat y e).2.2) (rat (x * (e:Int)+y * (d:Int)) (d * e)):=by
  have h1:=len_le (rN_le x d)
  have h2:=len_le (rN_le y e)
  have h3:=rD_le x d
  have h4:=rD_le y e
  have h5:d≤d * e:=Nat.le_mul_of_pos_right d he
  have h6:e≤d * e:=Nat.le_mul_of_pos_left e hd
  have h7:=len_one (a:=rD x d) (by omega)
  have h8:=len_one (a:=rD y e) (by omega)
  have h9:=Nat.mul_le_mul h3 h4
  have:=qAdd_ev (rN x d) (rN y e) (rD_pos x hd) (rD_pos y he) (by omega) (by omega) (by omega) (by omega) (by omega)
  rw [rat_add x y hd he] at this
  exact this
end Go.Proofs.YtfkmbjkmlfnapaaDoor.Pure
