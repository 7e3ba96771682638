import Derived.Test.YtmcegphcjphdcaaXAsQAx20
import Derived.Test.YtmcegphcjphdcaaXAsQAx25
import Derived.Test.YtmcegphcjphdcaaXAsNatC
import Derived.Test.YtmcegphcjphdcaaXAsTot
set_option linter.unusedVariables false
set_option linter.unusedSimpArgs false
namespace Go.Proofs.Ytmcegphcjphdcaa.Pure
open Go.RowKit Go.Proofs.YtmcegphcjphdcaaW.PrintWords Go.Proofs.YtmcegphcjphdcaaW.PrintLast Go.Proofs.YtmcegphcjphdcaaW.PrintMore Go.Proofs.Ytmcegphcjphdcaa.QA
theorem prodN_but {f g : Nat → Nat} {i : Nat} : ∀ n, i < n → (∀ j, j ≠ i → f j = g j) → g i = 1 → prodN f n = prodN g n * f i
  | n + 1, hi, h, h1 => by
    rw [prodN, prodN]
    by_cases e : n = i
    · subst e
      have hc : ∀ m, m ≤ n → prodN f m = prodN g m := by
        intro m
        induction m with
        | zero => intro _; rfl
        | succ m ih => intro hm; rw [prodN, prodN, ih (by omega), h m (by omega)]
      rw [hc n (Nat.le_refl _), h1, Nat.mul_one]
    · rw [prodN_but n (by omega) h h1, h n e, Nat.mul_assoc, Nat.mul_comm (f i), ← Nat.mul_assoc]
theorem wgt_set {pr : List Int} {ms : List S56} {row : List Int} {i : Nat} (x : S56) (hi : i < ms.length) (q : Nat) : wgt pr (ms.set i x) row (-1) ms.length q = wgt pr ms row (i : Int) ms.length q * fct x.f0 (rd row (i : Int)) q := by
  unfold wgt
  have hf : fac (ms.set i x) row (-1) q i = fct x.f0 (rd row (i : Int)) q := by
    unfold fac
    rw [if_neg (by omega)]
    have : rd_T56 (ms.set i x) (i : Int) = x := by unfold rd_T56; rw [Int.toNat_natCast]; simp [List.getD, hi]
    rw [this]
  have := prodN_but (f := fac (ms.set i x) row (-1) q) (g := fac ms row (i : Int) q) (i := i) ms.length hi (fun j hj => ?_) ?_
  · rw [this, hf, Nat.mul_assoc]
  · unfold fac
    rw [if_neg (by omega), if_neg (by omega)]
    have : rd_T56 (ms.set i x) (j : Int) = rd_T56 ms (j : Int) := by unfold rd_T56; rw [Int.toNat_natCast, List.getD_eq_getElem?_getD, List.getElem?_set, if_neg (by omega), ← List.getD_eq_getElem?_getD]
    rw [this]
  · unfold fac; rw [if_pos rfl]
def sameCat (l : List S56) (c : Int) : Bool := l.all (fun m => decide (cat m.f0 = c))
def famErr (l : List S56) (n : Int) : Int := if l.length = 0 then 20 else if valErr l 0 n (-1) = 0 then (if sameCat l (cat (rd_T56 l 0).f0) then 0 else 19) else valErr l 0 n (-1)
theorem fam_l0 {l : List S56} (hb : l.length ≤ 4611686018427387904) (h0 : 0 < l.length) : ∀ d i : Nat, i + d = l.length → Ev (fun k => U4.l0 k l l (l.length : Int) (i : Int)) (if sameCat (l.drop i) (cat (rd_T56 l 0).f0) then 0 else 19) := by
  intro d
  induction d with
  | zero =>
    intro i hi
    refine Ev.succ ?_
    simp only [U4.l0, show ¬ ((i : Int) < (l.length : Int)) by omega, if_false]
    rw [List.drop_eq_nil_of_le (by omega)]; exact Ev.now _
  | succ d ih =>
    intro i hi
    have hw : wrap64 ((i : Int) + 1) = ((i + 1 : Nat) : Int) := by rw [w64] <;> omega
    have hlt : i < l.length := by omega
    refine Ev.succ ?_
    simp only [U4.l0, show (i : Int) < (l.length : Int) by omega, if_true, show (0 : Int) ≤ (i : Int) by omega, hw, rdM_lt hlt, cat_eq, Option.bind_some, show (0 : Int) < (l.length : Int) by omega]
    rw [List.drop_eq_getElem_cons hlt]
    unfold sameCat
    rw [List.all_cons]
    by_cases h : cat (l[i]).f0 = cat (rd_T56 l 0).f0
    · simp only [if_pos h]; rw [decide_eq_true h, Bool.true_and]; exact ih (i + 1) (by omega)
    · simp only [if_neg h]; exact evq (Ev.now _) (by rw [decide_eq_false h, Bool.false_and]; rfl)
theorem fam_ev {l : List S56} (hs : Sz l) (n : Int) : Ev (fun k => U4.f k l n) (famErr l n) := by
  unfold U4.f famErr
  by_cases h : l.length = 0
  · simp only [show (l.length : Int) = 0 by omega, if_true, h]; exact Ev.now _
  · simp only [show ¬ (l.length : Int) = 0 by omega, if_false, h]
    refine Ev.bind (val_ev hs _ _) ?_
    by_cases h1 : valErr l 0 n (-1) = 0
    · simp only [if_pos h1]; exact fam_l0 hs.1 (by omega) l.length 0 (by omega)
    · simp only [if_neg h1]; exact Ev.now _
end Go.Proofs.Ytmcegphcjphdcaa.Pure
