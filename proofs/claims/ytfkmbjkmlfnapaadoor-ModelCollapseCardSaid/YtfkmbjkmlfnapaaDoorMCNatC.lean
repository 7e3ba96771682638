import Derived.Test.YtfkmbjkmlfnapaaDoorMCQAx9
import Derived.Test.YtfkmbjkmlfnapaaDoorMCNatB
set_option linter.unusedVariables false
set_option linter.unusedSimpArgs false
namespace Go.Proofs.YtfkmbjkmlfnapaaDoor.Pure
open Go.RowKit Go.Proofs.YtfkmbjkmlfnapaaDoorW.PrintWords Go.Proofs.YtfkmbjkmlfnapaaDoorW.PrintLast Go.Proofs.YtfkmbjkmlfnapaaDoorW.PrintMore Go.Proofs.YtfkmbjkmlfnapaaDoor.QA
def cmpN (a b:Nat):Int:=if a < b then -1 else if b < a then 1 else 0
theorem V_cut (xs:List Int) (j:Nat):V xs = V (xs.take j)+4294967296 ^ j * V (xs.drop j):=by
  by_cases h:j≤xs.length
  · have:=V_append (xs.take j) (xs.drop j)
    rw [List.take_append_drop,List.length_take,Nat.min_eq_left h] at this
    exact this
  · rw [List.drop_eq_nil_of_le (by omega),List.take_of_length_le (by omega)];simp [V]
theorem V_take_lt {x:List Int} (hx:Lm x) (j:Nat):V (x.take j) < 4294967296 ^ j :=
  Nat.lt_of_lt_of_le (V_lt (hx.take j)) (Nat.pow_le_pow_right (by decide) (by rw [List.length_take];exact Nat.min_le_left _ _))
theorem V_drop_lt {x y:List Int} (hx:Lm x) (hy:Lm y) {j:Nat} (h:V (x.drop j) < V (y.drop j)):V x < V y:=by
  rw [V_cut x j,V_cut y j]
  have h3:=V_take_lt hx j
  have h4:=Nat.mul_le_mul_left (4294967296 ^ j) (show V (x.drop j)+1≤V (y.drop j) from h)
  rw [Nat.mul_add,Nat.mul_one] at h4
  generalize 4294967296 ^ j * V (x.drop j) = p at *
  generalize 4294967296 ^ j * V (y.drop j) = q at *
  generalize 4294967296 ^ j = w at *
  omega
theorem cmp_l0 {x y:List Int} (hx:Lm x) (hy:Lm y) (hb:x.length≤4611686018427387904) (hl:x.length = y.length):∀j:Nat,j≤x.length→V (x.drop j) = V (y.drop j)→Ev (fun k=>U29.l0 k x y ((j:Int) - 1)) (cmpN (V x) (V y)):=by
  intro j
  induction j with
  | zero =>
    intro _ he
    refine Ev.succ ?_
    simp only [U29.l0,show ¬ (((0:Nat):Int) - 1 ≥ 0) by omega,if_false]
    rw [List.drop_zero,List.drop_zero] at he
    exact evq (Ev.now _) (by unfold cmpN;rw [he,if_neg (Nat.lt_irrefl _),if_neg (Nat.lt_irrefl _)])
  | succ j ih =>
    intro hj he
    have hxj:((j+1:Nat):Int) - 1 = (j:Int):=by omega
    have hw:wrap64 ((j:Int) - 1) = (j:Int) - 1:=by rw [w64] <;> omega
    have h1:=hx.rd_ (j:Int)
    have h2:=hy.rd_ (j:Int)
    refine Ev.succ ?_
    simp only [U29.l0,hxj,show (j:Int) ≥ 0 by omega,if_true,show (0:Int)≤(j:Int) by omega,show (j:Int) < (x.length:Int) by omega,show (j:Int) < (y.length:Int) by omega,hw]
    have dx:=V_drop x j
    have dy:=V_drop y j
    rw [he] at dx
    by_cases a:rd x (j:Int) < rd y (j:Int)
    · simp only [if_pos a]
      have:=V_drop_lt hx hy (j:=j) (by omega)
      exact evq (Ev.now _) (by unfold cmpN;rw [if_pos this])
    · simp only [if_neg a]
      by_cases b:rd x (j:Int) > rd y (j:Int)
      · simp only [if_pos b]
        have:=V_drop_lt hy hx (j:=j) (by omega)
        exact evq (Ev.now _) (by unfold cmpN;rw [if_neg (Nat.lt_asymm this),if_pos this])
      · simp only [if_neg b]
        exact ih (by omega) (by rw [dx,dy,show rd x (j:Int) = rd y (j:Int) by omega])
theorem len_lt {a b:Nat} (h:(toL a).length < (toL b).length):a < b:=by
  have h1:=V_lt (toL_Lm a)
  have h2:=Tr_ge (toL_Lm b) (toL_Tr b) (fun e=>by rw [e] at h;simp at h)
  rw [V_toL] at h1 h2
  exact Nat.lt_of_lt_of_le h1 (Nat.le_trans (Nat.pow_le_pow_right (by decide) (by omega)) h2)
theorem Cmp_ev {a b:Nat} (ha:(toL a).length≤35184372000000) (hb:(toL b).length≤35184372000000):Ev (fun k=>U29.f k (toL a) (toL b)) (cmpN a b):=by
  unfold U29.f
  refine Ev.bind (trim_ev (by omega) (toL_Lm _)) (Ev.bind (trim_ev (by omega) (toL_Lm _)) ?_)
  rw [V_toL,V_toL]
  by_cases h:(toL a).length = (toL b).length
  · have hw:wrap64 (((toL a).length:Int) - 1) = ((toL a).length:Int) - 1:=by rw [w64] <;> omega
    simp only [show ((toL a).length:Int) = ((toL b).length:Int) by omega,if_true]
    rw [show ((toL b).length:Int) = ((toL a).length:Int) by omega,hw]
    have:=cmp_l0 (toL_Lm a) (toL_Lm b) (by omega) h (toL a).length (Nat.le_refl _) (by rw [List.drop_length,List.drop_eq_nil_of_le (by omega)])
    rw [V_toL,V_toL] at this
    exact this
  · simp only [show ¬ (((toL a).length:Int) = ((toL b).length:Int)) by omega,if_false]
    by_cases h2:(toL a).length < (toL b).length
    · simp only [show ((toL a).length:Int) < ((toL b).length:Int) by omega,if_true]
      have:=len_lt h2
      exact evq (Ev.now _) (by unfold cmpN;rw [if_pos this])
    · simp only [show ¬ (((toL a).length:Int) < ((toL b).length:Int)) by omega,if_false]
      have:=len_lt (a:=b) (b:=a) (by omega)
      exact evq (Ev.now _) (by unfold cmpN;rw [if_neg (Nat.lt_asymm this),if_pos this])
end Go.Proofs.YtfkmbjkmlfnapaaDoor.Pure
