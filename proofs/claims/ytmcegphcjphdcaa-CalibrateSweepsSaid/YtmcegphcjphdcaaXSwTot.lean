import Derived.Test.YtmcegphcjphdcaaXSwQAx14
import Derived.Test.YtmcegphcjphdcaaXSwQAx15
import Derived.Test.YtmcegphcjphdcaaXSwQAx17
import Derived.Test.YtmcegphcjphdcaaXSwQAx18
import Derived.Test.YtmcegphcjphdcaaXSwNatB
import Derived.Test.YtmcegphcjphdcaaXSwMat
set_option linter.unusedVariables false
set_option linter.unusedSimpArgs false
namespace Go.Proofs.Ytmcegphcjphdcaa.Pure
open Go.RowKit Go.Proofs.YtmcegphcjphdcaaW.PrintWords Go.Proofs.YtmcegphcjphdcaaW.PrintLast Go.Proofs.YtmcegphcjphdcaaW.PrintMore Go.Proofs.Ytmcegphcjphdcaa.QA
def sumN (f : Nat → Nat) : Nat → Nat
  | 0 => 0
  | n + 1 => sumN f n + f n
def like (ps pr : List Int) (ms : List S56) (row : List Int) : Nat := sumN (wgt pr ms row (-1) ms.length) ps.length
def likes (ps pr : List Int) (ms : List S56) : List (List Int) → Nat
  | [] => 1
  | r :: rs => like ps pr ms r * likes ps pr ms rs
theorem pow_len {a m : Nat} (h : a ≤ 1000 ^ m) : (toL a).length ≤ m + 1 := by
  refine V_lt_inv (Nat.lt_of_le_of_lt h ?_)
  refine Nat.lt_of_lt_of_le (Nat.pow_lt_pow_right (show 1 < 1000 by omega) (Nat.lt_succ_self m)) (Nat.pow_le_pow_left (by omega) _)
theorem sumN_le {f : Nat → Nat} {m : Nat} : ∀ n, (∀ q, q < n → f q ≤ m) → sumN f n ≤ n * m
  | 0, _ => by simp [sumN]
  | n + 1, h => by
    have := sumN_le n (fun q hq => h q (by omega))
    have h1 := h n (by omega)
    rw [sumN, Nat.succ_mul]; omega
theorem sumN_pos {f : Nat → Nat} : ∀ n, (∀ q, q < n → 1 ≤ f q) → 1 ≤ n → 1 ≤ sumN f n
  | n + 1, h, _ => by
    have h1 := h n (by omega)
    rw [sumN]; omega
def FitAll (ps pr : List Int) (ms : List S56) (rows : List (List Int)) : Prop := ∀ r ∈ rows, ∀ skip : Int, Fit ps pr ms r skip
theorem Fit.sum_le {ps pr : List Int} {ms : List S56} {row : List Int} {skip : Int} (h : Fit ps pr ms row skip) (n : Nat) (hn : n ≤ ps.length) : sumN (wgt pr ms row skip ms.length) n ≤ 1000 ^ 62 := by
  have h1 := (gErr_ok h.g).2.1
  have h2 := h.l60
  have h3 := sumN_le (f := wgt pr ms row skip ms.length) n (m := 1000 ^ 61) (fun q hq => Nat.le_trans (h.wgt_le (by omega) ms.length (Nat.le_refl _)).1 (Nat.pow_le_pow_right (by omega) (by omega)))
  refine Nat.le_trans h3 ?_
  rw [show (1000 : Nat) ^ 62 = 1000 * 1000 ^ 61 from rfl]
  exact Nat.mul_le_mul_right _ (by omega)
theorem Fit.sum_len {ps pr : List Int} {ms : List S56} {row : List Int} {skip : Int} (h : Fit ps pr ms row skip) (n : Nat) (hn : n ≤ ps.length) : (toL (sumN (wgt pr ms row skip ms.length) n)).length ≤ 63 := pow_len (h.sum_le n hn)
theorem Fit.like_pos {ps pr : List Int} {ms : List S56} {row : List Int} (h : Fit ps pr ms row (-1)) : 1 ≤ like ps pr ms row := by
  have h1 := (gErr_ok h.g).1
  exact sumN_pos _ (fun q hq => (h.wgt_le hq ms.length (Nat.le_refl _)).2) h1
theorem likes_le {ps pr : List Int} {ms : List S56} : ∀ {rows : List (List Int)}, FitAll ps pr ms rows → likes ps pr ms rows ≤ 1000 ^ (62 * rows.length) ∧ 1 ≤ likes ps pr ms rows
  | [], _ => by simp [likes]
  | r :: rs, h => by
    obtain ⟨h1, h2⟩ := likes_le (rows := rs) (fun x hx => h x (List.mem_cons_of_mem _ hx))
    have h3 := (h r List.mem_cons_self (-1)).sum_le ps.length (Nat.le_refl _)
    have h4 := (h r List.mem_cons_self (-1)).like_pos
    rw [likes]
    refine ⟨?_, Nat.mul_pos h4 h2⟩
    refine Nat.le_trans (Nat.mul_le_mul h3 h1) ?_
    rw [← Nat.pow_add, List.length_cons, show 62 + 62 * rs.length = 62 * (rs.length + 1) by omega]
    exact Nat.le_refl _
theorem sum_l0 {f : Nat → Nat} {Q : Nat} (hQ : Q ≤ 21) (h1 : ∀ q, q < Q → (toL (f q)).length ≤ 1000) (h2 : ∀ q, q ≤ Q → (toL (sumN f q)).length ≤ 1000) : ∀ d i : Nat, i + d = Q → Ev (fun k => U7.l0 k (toL (sumN f i)) (W f Q) (Q : Int) (i : Int)) (toL (sumN f Q)) := by
  intro d
  induction d with
  | zero =>
    intro i hi
    refine Ev.succ ?_
    simp only [U7.l0, show ¬ ((i : Int) < (Q : Int)) by omega, if_false]
    exact evq (Ev.now _) (by rw [show i = Q by omega])
  | succ d ih =>
    intro i hi
    have hw : wrap64 ((i : Int) + 1) = ((i + 1 : Nat) : Int) := by rw [w64] <;> omega
    have hrd : rd_L5 (W f Q) (i : Int) = toL (f i) := by unfold rd_L5; rw [Int.toNat_natCast, W_getD (by omega)]
    refine Ev.succ ?_
    simp only [U7.l0, show (i : Int) < (Q : Int) by omega, if_true, show (0 : Int) ≤ (i : Int) by omega, hw, W_length, hrd]
    refine Ev.bind (Add_ev (by have := h2 i (by omega); omega) (by have := h1 i (by omega); omega)) ?_
    exact ih (i + 1) (by omega)
theorem sum_ev {f : Nat → Nat} {Q : Nat} (hQ : Q ≤ 21) (h1 : ∀ q, q < Q → (toL (f q)).length ≤ 1000) (h2 : ∀ q, q ≤ Q → (toL (sumN f q)).length ≤ 1000) : Ev (fun k => U7.f k (W f Q)) (toL (sumN f Q)) := by
  unfold U7.f
  have := sum_l0 hQ h1 h2 Q 0 (by omega)
  rw [sumN, toL_zero] at this
  simp only [W_length]; exact this
theorem rtot_l1 {ms : List S56} {ps pr ids its : List Int} {rows : List (List Int)} {f : Nat → Nat} {Q : Nat} (hQ : Q ≤ 21) (h1 : ∀ q, q < Q → (toL (f q)).length ≤ 1000) (h2 : ∀ q, q ≤ Q → (toL (sumN f q)).length ≤ 1000) {a r : Nat} (ha : (toL a).length ≤ 100000) {R : List Int}
    (hk : Ev (fun k => U35.l0 k ms (toL (a * sumN f Q)) (wrap64 ((r : Int) + 1)) ps pr ids its rows) R) : ∀ d i : Nat, i + d = Q → Ev (fun k => U35.l1 k ms (toL a) (r : Int) (W f Q) (toL (sumN f i)) (i : Int) ps pr ids its rows) R := by
  intro d
  induction d with
  | zero =>
    intro i hi
    have hl := h2 i (by omega)
    refine Ev.succ ?_
    simp only [U35.l1, W_length, show ¬ ((i : Int) < (Q : Int)) by omega, if_false]
    refine Ev.bind (rMul_ev (toL_Lm _) (toL_Lm _) (by omega)) ?_
    rw [V_toL, V_toL, show i = Q by omega]; exact hk
  | succ d ih =>
    intro i hi
    have hw : wrap64 ((i : Int) + 1) = ((i + 1 : Nat) : Int) := by rw [w64] <;> omega
    have hrd : rd_L5 (W f Q) (i : Int) = toL (f i) := by unfold rd_L5; rw [Int.toNat_natCast, W_getD (by omega)]
    refine Ev.succ ?_
    simp only [U35.l1, W_length, show (i : Int) < (Q : Int) by omega, if_true, show (0 : Int) ≤ (i : Int) by omega, hw, hrd]
    refine Ev.bind (rAdd_ev (by have := h2 i (by omega); omega) (by have := h1 i (by omega); omega)) ?_
    exact ih (i + 1) (by omega)
theorem rtot_l0 {ps pr ids its : List Int} {ms : List S56} {rows : List (List Int)} (hb : rows.length ≤ 200) (hf : FitAll ps pr ms rows) (hQ : ps.length ≤ 21) : ∀ d i : Nat, i + d = rows.length → ∀ a : Nat, a ≤ 1000 ^ (62 * i) →
    Ev (fun k => U35.l0 k ms (toL a) (i : Int) ps pr ids its rows) (toL (a * likes ps pr ms (rows.drop i))) := by
  intro d
  induction d with
  | zero =>
    intro i hi a ha
    refine Ev.succ ?_
    simp only [U35.l0, show ¬ ((i : Int) < (rows.length : Int)) by omega, if_false]
    exact evq (Ev.now _) (by rw [List.drop_eq_nil_of_le (by omega), likes, Nat.mul_one])
  | succ d ih =>
    intro i hi a ha
    have hw : wrap64 ((i : Int) + 1) = ((i + 1 : Nat) : Int) := by rw [w64] <;> omega
    have hlt : i < rows.length := by omega
    have hrr : rd_L1 rows (i : Int) = rows[i] := by unfold rd_L1; rw [Int.toNat_natCast, getD_lt hlt]
    have h := hf _ (List.getElem_mem hlt) (-1)
    have hl := pow_len ha
    refine Ev.succ ?_
    simp only [U35.l0, show (i : Int) < (rows.length : Int) by omega, if_true, show (0 : Int) ≤ (i : Int) by omega, hrr]
    refine Ev.bind (rweights_ev h) (Ev.bind (rOf_ev (by omega) (by omega)) ?_)
    have := rtot_l1 (ids := ids) (its := its) (ps := ps) (pr := pr) (ms := ms) (rows := rows) (f := wgt pr ms rows[i] (-1) ms.length) (a := a) (r := i) (R := toL (a * likes ps pr ms (rows.drop i))) hQ (fun q hq => by have := h.len_le hq (Nat.le_refl ms.length); omega) (fun q hq => by have := h.sum_len q hq; omega) (by omega) ?_ ps.length 0 (by omega)
    · exact this
    · rw [hw, List.drop_eq_getElem_cons hlt, likes, ← Nat.mul_assoc]
      refine ih (i + 1) (by omega) _ ?_
      refine Nat.le_trans (Nat.mul_le_mul ha (h.sum_le ps.length (Nat.le_refl _))) ?_
      rw [← Nat.pow_add, show 62 * i + 62 = 62 * (i + 1) by omega]
      exact Nat.le_refl _
end Go.Proofs.Ytmcegphcjphdcaa.Pure
