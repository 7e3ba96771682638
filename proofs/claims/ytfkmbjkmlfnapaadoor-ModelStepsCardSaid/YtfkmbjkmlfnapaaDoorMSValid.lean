import Derived.Test.YtfkmbjkmlfnapaaDoorMSQAx1
import Derived.Test.YtfkmbjkmlfnapaaDoorMSQAx2
import Derived.Test.YtfkmbjkmlfnapaaDoorMSQAx4
import Derived.Test.YtfkmbjkmlfnapaaDoorMSQAx15
import Derived.Test.YtfkmbjkmlfnapaaDoorMSNum
set_option linter.unusedVariables false
set_option linter.unusedSimpArgs false
namespace Go.Proofs.YtfkmbjkmlfnapaaDoor.Pure
open Go.RowKit Go.Proofs.YtfkmbjkmlfnapaaDoorW.PrintWords Go.Proofs.YtfkmbjkmlfnapaaDoorW.PrintLast Go.Proofs.YtfkmbjkmlfnapaaDoorW.PrintMore Go.Proofs.YtfkmbjkmlfnapaaDoor.QA
def okG : List Int → List Int → Bool
  | p :: ps, w :: ws => decide (-1000 ≤ p ∧ p ≤ 1000 ∧ 1 ≤ w ∧ w ≤ 1000) && okG ps ws
  | _, _ => true
def rise : List Int → Bool
  | a :: b :: l => decide (a < b) && rise (b :: l)
  | _ => true
def gErr (ps ws : List Int) : Int := if ps.length > 21 then 5 else if ps.length = 0 then 20 else if ws.length = ps.length then (if okG ps ws then (if rise ps then 0 else 23) else 3) else 1
theorem gw (a b c : Int) : U9.f a b c = some (decide (b ≤ a ∧ a ≤ c)) := by
  unfold U9.f
  by_cases h : a ≥ b
  · rw [if_pos h]; congr 1; rw [decide_eq_decide]; omega
  · rw [if_neg h, decide_eq_false (by omega)]
theorem mw (a b c : Int) : U26.f a b c = some (decide (b ≤ a ∧ a ≤ c)) := by
  unfold U26.f
  by_cases h : b ≤ a
  · rw [if_pos h]; congr 1; rw [decide_eq_decide]; omega
  · rw [if_neg h, decide_eq_false (by omega)]
theorem drop_rd {xs : List Int} {i : Nat} (h : i < xs.length) : xs.drop i = rd xs (i : Int) :: xs.drop (i + 1) := by rw [List.drop_eq_getElem_cons h, rd_lt h]
theorem grid_l1 {ps ws : List Int} (hl : ps.length ≤ 21) : ∀ d i : Nat, i + d + 1 = ps.length → Ev (fun k => U8.l1 k ((ps.drop 1).length : Int) (i : Int) ps ws) (if rise (ps.drop i) then 0 else 23) := by
  intro d
  have hn : ((ps.drop 1).length : Int) = (ps.length : Int) - 1 ∨ ps.length = 0 := by rw [List.length_drop]; omega
  induction d with
  | zero =>
    intro i hi
    refine Ev.succ ?_
    simp only [U8.l1, show ¬ ((i : Int) < ((ps.drop 1).length : Int)) by omega, if_false]
    refine evq (Ev.now _) ?_
    rw [drop_rd (show i < ps.length by omega), List.drop_eq_nil_of_le (by omega)]; simp [rise]
  | succ d ih =>
    intro i hi
    have hw : wrap64 ((i : Int) + 1) = ((i + 1 : Nat) : Int) := by rw [w64] <;> omega
    refine Ev.succ ?_
    simp only [U8.l1, show (i : Int) < ((ps.drop 1).length : Int) by omega, if_true, show (0 : Int) ≤ (i : Int) by omega, show (i : Int) < (ps.length : Int) by omega, hw, show (0 : Int) ≤ ((i + 1 : Nat) : Int) by omega, show ((i + 1 : Nat) : Int) < (ps.length : Int) by omega]
    have e : rise (ps.drop i) = (decide (rd ps (i : Int) < rd ps ((i + 1 : Nat) : Int)) && rise (ps.drop (i + 1))) := by
      rw [drop_rd (show i < ps.length by omega), drop_rd (show i + 1 < ps.length by omega), rise]
    by_cases h : rd ps (i : Int) ≥ rd ps ((i + 1 : Nat) : Int)
    · simp only [h, if_true]
      refine evq (Ev.now _) ?_
      rw [e, decide_eq_false (by omega)]; rfl
    · simp only [h, if_false]
      refine evq (ih (i + 1) (by omega)) ?_
      rw [e, decide_eq_true (by omega)]; rfl
theorem grid_l0 {ps ws : List Int} (hl : ps.length ≤ 21) (h1 : 1 ≤ ps.length) (hw' : ws.length = ps.length) : ∀ d i : Nat, i + d = ps.length → Ev (fun k => U8.l0 k ps (ps.length : Int) (i : Int) ps ws) (if okG (ps.drop i) (ws.drop i) then (if rise ps then 0 else 23) else 3) := by
  intro d
  induction d with
  | zero =>
    intro i hi
    refine Ev.succ ?_
    simp only [U8.l0, show ¬ ((i : Int) < (ps.length : Int)) by omega, if_false, show (1 : Int) ≤ (ps.length : Int) by omega, if_true]
    refine evq (grid_l1 hl (ps.length - 1) 0 (by omega)) ?_
    rw [List.drop_zero, List.drop_eq_nil_of_le (show ps.length ≤ i by omega)]; simp [okG]
  | succ d ih =>
    intro i hi
    have hw : wrap64 ((i : Int) + 1) = ((i + 1 : Nat) : Int) := by rw [w64] <;> omega
    refine Ev.succ ?_
    simp only [U8.l0, show (i : Int) < (ps.length : Int) by omega, if_true, show (0 : Int) ≤ (i : Int) by omega, gw, Option.bind_some, show (i : Int) < (ws.length : Int) by omega, hw, decide_eq_true_eq]
    have hE : okG (ps.drop i) (ws.drop i) = (decide (-1000 ≤ rd ps (i : Int) ∧ rd ps (i : Int) ≤ 1000 ∧ 1 ≤ rd ws (i : Int) ∧ rd ws (i : Int) ≤ 1000) && okG (ps.drop (i + 1)) (ws.drop (i + 1))) := by rw [drop_rd (show i < ps.length by omega), drop_rd (show i < ws.length by omega), okG]
    rw [hE]
    by_cases ha : -1000 ≤ rd ps (i : Int) ∧ rd ps (i : Int) ≤ 1000
    · simp only [if_pos ha]
      by_cases hb : 1 ≤ rd ws (i : Int) ∧ rd ws (i : Int) ≤ 1000
      · simp only [if_pos hb]
        refine evq (ih (i + 1) (by omega)) ?_
        rw [decide_eq_true (show -1000 ≤ rd ps (i : Int) ∧ rd ps (i : Int) ≤ 1000 ∧ 1 ≤ rd ws (i : Int) ∧ rd ws (i : Int) ≤ 1000 by omega)]; simp
      · simp only [if_neg hb]
        refine evq (Ev.now _) ?_
        rw [decide_eq_false (by omega)]; simp
    · simp only [if_neg ha]
      refine evq (Ev.now _) ?_
      rw [decide_eq_false (by omega)]; simp
theorem grid_ev (ps ws : List Int) : Ev (fun k => U8.f k ps ws) (gErr ps ws) := by
  unfold U8.f gErr
  by_cases h1 : ps.length > 21
  · simp only [show (ps.length : Int) > 21 by omega, if_true, h1]; exact Ev.now _
  · by_cases h2 : ps.length = 0
    · simp only [show ¬ ((ps.length : Int) > 21) by omega, show (ps.length : Int) = 0 by omega, if_true, if_false, h1, h2]; exact Ev.now _
    · by_cases h3 : ws.length = ps.length
      · simp only [show ¬ ((ps.length : Int) > 21) by omega, show ¬ ((ps.length : Int) = 0) by omega, show (ws.length : Int) = (ps.length : Int) by omega, if_true, if_false, h1, h2]
        rw [if_pos h3]
        exact evq (grid_l0 (by omega) (by omega) h3 ps.length 0 (by omega)) (by simp)
      · simp only [show ¬ ((ps.length : Int) > 21) by omega, show ¬ ((ps.length : Int) = 0) by omega, show ¬ ((ws.length : Int) = (ps.length : Int)) by omega, if_true, if_false, h1, h2, h3]; exact Ev.now _
theorem rgrid_l1 {ps ws : List Int} (hl : ps.length ≤ 21) : ∀ d i : Nat, i + d = ps.length → 1 ≤ i → Ev (fun k => U3.l1 k (ps.length : Int) (i : Int) ps ws) (if rise (ps.drop (i - 1)) then 0 else 23) := by
  intro d
  induction d with
  | zero =>
    intro i hi h1
    refine Ev.succ ?_
    simp only [U3.l1, show ¬ ((i : Int) < (ps.length : Int)) by omega, if_false]
    refine evq (Ev.now _) ?_
    rw [drop_rd (show i - 1 < ps.length by omega), List.drop_eq_nil_of_le (by omega)]; simp [rise]
  | succ d ih =>
    intro i hi h1
    have hw : wrap64 ((i : Int) + 1) = ((i + 1 : Nat) : Int) := by rw [w64] <;> omega
    have hw2 : wrap64 ((i : Int) - 1) = ((i - 1 : Nat) : Int) := by rw [w64] <;> omega
    refine Ev.succ ?_
    simp only [U3.l1, show (i : Int) < (ps.length : Int) by omega, if_true, show (0 : Int) ≤ (i : Int) by omega, hw, hw2, show (0 : Int) ≤ ((i - 1 : Nat) : Int) by omega, show ((i - 1 : Nat) : Int) < (ps.length : Int) by omega]
    have e : rise (ps.drop (i - 1)) = (decide (rd ps ((i - 1 : Nat) : Int) < rd ps (i : Int)) && rise (ps.drop i)) := by
      rw [drop_rd (show i - 1 < ps.length by omega), show i - 1 + 1 = i by omega, drop_rd (show i < ps.length by omega), rise]
    by_cases h : rd ps (i : Int) ≤ rd ps ((i - 1 : Nat) : Int)
    · simp only [h, if_true]
      refine evq (Ev.now _) ?_
      rw [e, decide_eq_false (by omega)]; rfl
    · simp only [h, if_false]
      refine evq (ih (i + 1) (by omega) (by omega)) ?_
      rw [e, decide_eq_true (by omega), Nat.add_sub_cancel]; rfl
theorem rgrid_l0 {ps ws : List Int} (hl : ps.length ≤ 21) (h1 : 1 ≤ ps.length) (hw' : ws.length = ps.length) : ∀ d i : Nat, i + d = ps.length → Ev (fun k => U3.l0 k (ps.length : Int) (i : Int) ps ws) (if okG (ps.drop i) (ws.drop i) then (if rise ps then 0 else 23) else 3) := by
  intro d
  induction d with
  | zero =>
    intro i hi
    refine Ev.succ ?_
    simp only [U3.l0, show ¬ ((i : Int) < (ps.length : Int)) by omega, if_false]
    refine evq (rgrid_l1 hl (ps.length - 1) 1 (by omega) (by omega)) ?_
    rw [Nat.sub_self, List.drop_zero, List.drop_eq_nil_of_le (show ps.length ≤ i by omega)]; simp [okG]
  | succ d ih =>
    intro i hi
    have hw : wrap64 ((i : Int) + 1) = ((i + 1 : Nat) : Int) := by rw [w64] <;> omega
    refine Ev.succ ?_
    simp only [U3.l0, show (i : Int) < (ps.length : Int) by omega, if_true, show (0 : Int) ≤ (i : Int) by omega, show (i : Int) < (ws.length : Int) by omega, hw]
    have hE : okG (ps.drop i) (ws.drop i) = (decide (-1000 ≤ rd ps (i : Int) ∧ rd ps (i : Int) ≤ 1000 ∧ 1 ≤ rd ws (i : Int) ∧ rd ws (i : Int) ≤ 1000) && okG (ps.drop (i + 1)) (ws.drop (i + 1))) := by rw [drop_rd (show i < ps.length by omega), drop_rd (show i < ws.length by omega), okG]
    rw [hE]
    by_cases ha : rd ps (i : Int) < -1000
    · simp only [if_pos ha]; exact evq (Ev.now _) (by rw [decide_eq_false (by omega)]; simp)
    · simp only [if_neg ha]
      by_cases hb : rd ps (i : Int) > 1000
      · simp only [if_pos hb]; exact evq (Ev.now _) (by rw [decide_eq_false (by omega)]; simp)
      · simp only [if_neg hb]
        by_cases hc : rd ws (i : Int) < 1
        · simp only [if_pos hc]; exact evq (Ev.now _) (by rw [decide_eq_false (by omega)]; simp)
        · simp only [if_neg hc]
          by_cases he : rd ws (i : Int) > 1000
          · simp only [if_pos he]; exact evq (Ev.now _) (by rw [decide_eq_false (by omega)]; simp)
          · simp only [if_neg he]
            exact evq (ih (i + 1) (by omega)) (by rw [decide_eq_true (show -1000 ≤ rd ps (i : Int) ∧ rd ps (i : Int) ≤ 1000 ∧ 1 ≤ rd ws (i : Int) ∧ rd ws (i : Int) ≤ 1000 by omega)]; simp)
theorem rgrid_ev (ps ws : List Int) : Ev (fun k => U3.f k ps ws) (gErr ps ws) := by
  unfold U3.f gErr
  by_cases h1 : ps.length > 21
  · simp only [show (ps.length : Int) > 21 by omega, if_true, h1]; exact Ev.now _
  · by_cases h2 : ps.length = 0
    · simp only [show ¬ ((ps.length : Int) > 21) by omega, show (ps.length : Int) = 0 by omega, if_true, if_false, h1, h2]; exact Ev.now _
    · by_cases h3 : ws.length = ps.length
      · simp only [show ¬ ((ps.length : Int) > 21) by omega, show ¬ ((ps.length : Int) = 0) by omega, show (ws.length : Int) = (ps.length : Int) by omega, if_true, if_false, h1, h2]
        rw [if_pos h3]
        exact evq (rgrid_l0 (by omega) (by omega) h3 ps.length 0 (by omega)) (by simp)
      · simp only [show ¬ ((ps.length : Int) > 21) by omega, show ¬ ((ps.length : Int) = 0) by omega, show ¬ ((ws.length : Int) = (ps.length : Int)) by omega, if_true, if_false, h1, h2, h3]; exact Ev.now _
theorem gErr_ok {ps ws : List Int} (h : gErr ps ws = 0) : 1 ≤ ps.length ∧ ps.length ≤ 21 ∧ ws.length = ps.length ∧ okG ps ws = true ∧ rise ps = true := by
  unfold gErr at h
  split at h
  · omega
  · split at h
    · omega
    · split at h
      · split at h
        · split at h
          · exact ⟨by omega, by omega, by assumption, by assumption, by assumption⟩
          · omega
        · omega
      · omega
theorem okG_at : ∀ {ps ws : List Int}, okG ps ws = true → ws.length = ps.length → ∀ i : Nat, i < ps.length → -1000 ≤ rd ps (i : Int) ∧ rd ps (i : Int) ≤ 1000 ∧ 1 ≤ rd ws (i : Int) ∧ rd ws (i : Int) ≤ 1000
  | [], _, _, _, i, hi => by simp at hi
  | p :: ps, [], _, hl, _, _ => by simp at hl
  | p :: ps, w :: ws, h, hl, 0, _ => by
    rw [okG, Bool.and_eq_true, decide_eq_true_eq] at h
    exact h.1
  | p :: ps, w :: ws, h, hl, i + 1, hi => by
    rw [okG, Bool.and_eq_true] at h
    have := okG_at h.2 (by simpa using hl) i (by simpa using hi)
    rw [rd_nat, rd_nat] at *
    simpa using this
theorem getD_lt {α : Type} {xs : List α} {i : Nat} (h : i < xs.length) (d : α) : xs.getD i d = xs[i] := by simp [List.getD, h]
end Go.Proofs.YtfkmbjkmlfnapaaDoor.Pure
