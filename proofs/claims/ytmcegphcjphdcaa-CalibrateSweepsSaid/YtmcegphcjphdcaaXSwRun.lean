import Derived.Test.YtmcegphcjphdcaaXSwQAx20
import Derived.Test.YtmcegphcjphdcaaXSwQAx30
import Derived.Test.YtmcegphcjphdcaaXSwSwp
set_option linter.unusedVariables false
set_option linter.unusedSimpArgs false
namespace Go.Proofs.Ytmcegphcjphdcaa.Pure
open Go.RowKit Go.Proofs.YtmcegphcjphdcaaW.PrintWords Go.Proofs.YtmcegphcjphdcaaW.PrintLast Go.Proofs.YtmcegphcjphdcaaW.PrintMore Go.Proofs.Ytmcegphcjphdcaa.QA
def runF (ps pr : List Int) (rows : List (List Int)) (fs : List (List S56)) : Nat → Nat → List Int → List Int × Int
  | 0, n, c => (swpF ps pr rows fs c, (n : Int))
  | r + 1, n, c => if swpF ps pr rows fs c = c then (swpF ps pr rows fs c, (n : Int)) else runF ps pr rows fs r (n + 1) (swpF ps pr rows fs c)
theorem eq_drop {a b : List Int} {j : Nat} (h1 : j < a.length) (h2 : j < b.length) : a.drop j = b.drop j ↔ rd a (j : Int) = rd b (j : Int) ∧ a.drop (j + 1) = b.drop (j + 1) := by
  rw [List.drop_eq_getElem_cons h1, List.drop_eq_getElem_cons h2, rd_lt h1, rd_lt h2, List.cons.injEq]
theorem eq_take {a b : List Int} {j : Nat} (h1 : j < a.length) (h2 : j < b.length) : a.take (j + 1) = b.take (j + 1) ↔ a.take j = b.take j ∧ rd a (j : Int) = rd b (j : Int) := by
  rw [List.take_succ_eq_append_getElem h1, List.take_succ_eq_append_getElem h2, rd_lt h1, rd_lt h2]
  constructor
  · intro h
    have := List.append_inj h (by rw [List.length_take, List.length_take]; omega)
    exact ⟨this.1, by simpa using this.2⟩
  · rintro ⟨h, h'⟩; rw [h, h']
section
variable {ps pr ids its : List Int} {rows : List (List Int)} {fs : List (List S56)}
theorem run_l1 {c t : List Int} {n : Int} {R : List Int × Int × Int} (hl : t.length = c.length) (hb : c.length ≤ 60)
    (hR : Ev (fun k => if t = c then some (t, n, 0) else if n = 20 then some (t, n, 0) else U0.l0 k fs t (wrap64 (n + 1)) ps pr ids its rows) R) : ∀ d j : Nat, j + d = t.length →
    Ev (fun k => U0.l1 k fs c n t (decide (t.take j = c.take j)) (t.length : Int) (j : Int) ps pr ids its rows) R := by
  intro d
  induction d with
  | zero =>
    intro j hj
    refine Ev.succ ?_
    simp only [U0.l1, show ¬ ((j : Int) < (t.length : Int)) by omega, if_false]
    rw [List.take_of_length_le (by omega), List.take_of_length_le (by omega)]
    by_cases h : t = c
    · simp only [decide_eq_true h, if_true]; simp only [if_pos h] at hR; exact hR
    · simp only [decide_eq_false h, Bool.false_eq_true, if_false]; simp only [if_neg h] at hR; exact hR
  | succ d ih =>
    intro j hj
    have hw : wrap64 ((j : Int) + 1) = ((j + 1 : Nat) : Int) := by rw [w64] <;> omega
    have he := eq_take (a := t) (b := c) (j := j) (by omega) (by omega)
    have ht := ih (j + 1) (by omega)
    refine Ev.succ ?_
    simp only [U0.l1, show (j : Int) < (t.length : Int) by omega, show (j : Int) < (c.length : Int) by omega, if_true, show (0 : Int) ≤ (j : Int) by omega, hw]
    by_cases h : t.take j = c.take j
    · simp only [decide_eq_true h, if_true]
      rw [show (rd t (j : Int) == rd c (j : Int)) = decide (t.take (j + 1) = c.take (j + 1)) by
        rw [Bool.eq_iff_iff, beq_iff_eq, decide_eq_true_eq, he]; exact ⟨fun e => ⟨h, e⟩, fun e => e.2⟩]
      exact ht
    · simp only [decide_eq_false h, Bool.false_eq_true, if_false]
      rw [decide_eq_false (fun e => h (he.1 e).1)] at ht
      exact ht
theorem run_l0 (hz : SzF fs) : ∀ r n : Nat, n + r = 20 → ∀ c : List Int, Ok ps pr ids its rows fs c →
    Ev (fun k => U0.l0 k fs c (n : Int) ps pr ids its rows) ((runF ps pr rows fs r n c).1, (runF ps pr rows fs r n c).2, 0) := by
  intro r
  induction r with
  | zero =>
    intro n hn c h
    have h1 := h.swpF
    refine Ev.succ ?_
    simp only [U0.l0]
    refine Ev.bind (sweep_ev hz h) ?_
    have := run_l1 (ps := ps) (pr := pr) (ids := ids) (its := its) (rows := rows) (fs := fs) (c := c) (t := swpF ps pr rows fs c) (n := (n : Int)) (R := (swpF ps pr rows fs c, (n : Int), 0)) (by rw [h1.lc, h.lc]) (by rw [h.lc]; exact h.n60) ?_ (swpF ps pr rows fs c).length 0 (by omega)
    · exact this
    · by_cases e : swpF ps pr rows fs c = c
      · simp only [if_pos e]; exact Ev.now _
      · simp only [if_neg e, show (n : Int) = 20 by omega, if_true]; exact Ev.now _
  | succ r ih =>
    intro n hn c h
    have h1 := h.swpF
    refine Ev.succ ?_
    simp only [U0.l0]
    refine Ev.bind (sweep_ev hz h) ?_
    have := run_l1 (ps := ps) (pr := pr) (ids := ids) (its := its) (rows := rows) (fs := fs) (c := c) (t := swpF ps pr rows fs c) (n := (n : Int)) (R := ((runF ps pr rows fs (r + 1) n c).1, (runF ps pr rows fs (r + 1) n c).2, 0)) (by rw [h1.lc, h.lc]) (by rw [h.lc]; exact h.n60) ?_ (swpF ps pr rows fs c).length 0 (by omega)
    · exact this
    · rw [runF]
      by_cases e : swpF ps pr rows fs c = c
      · simp only [if_pos e]; exact Ev.now _
      · have hw : wrap64 ((n : Int) + 1) = ((n + 1 : Nat) : Int) := by rw [w64] <;> omega
        simp only [if_neg e, show ¬ ((n : Int) = 20) by omega, if_false, hw]
        exact ih (n + 1) (by omega) _ h1
end
def RunN (ps pr ids its : List Int) (rows : List (List Int)) (fs : List (List S56)) (ch : List Int) : List Int × Int × Int :=
  if checkN ps pr ids its rows fs ch = 0 then ((runF ps pr rows fs 19 1 ch).1, (runF ps pr rows fs 19 1 ch).2, 0) else ([], 0, checkN ps pr ids its rows fs ch)
theorem Run_ev {ps pr : List Int} (ids its : List Int) {rows : List (List Int)} {fs : List (List S56)} (ch : List Int) (hz : SzF fs) (hb : rows.length ≤ 4611686018427387904) : Ev (fun k => U0.f k ps pr ids its rows fs ch) (RunN ps pr ids its rows fs ch) := by
  unfold U0.f RunN
  refine Ev.bind (check_ev ids its ch hz hb) ?_
  by_cases h : checkN ps pr ids its rows fs ch = 0
  · have hk := check_iff.1 h
    have n60 := hk.n60
    have lc := hk.lc
    simp only [if_pos h, Option.bind_some, List.length_nil, List.nil_append, show 0 + ch.length < 17592186044416 by omega, if_true]
    exact run_l0 hz 19 1 (by omega) ch hk
  · simp only [if_neg h]; exact Ev.now _
theorem ints_l0 {a b : List Int} (hl : a.length = b.length) (hb : a.length ≤ 4611686018427387904) : ∀ d i : Nat, i + d = a.length → Ev (fun k => U13.l0 k a b (i : Int)) (decide (a.drop i = b.drop i)) := by
  intro d
  induction d with
  | zero =>
    intro i hi
    refine Ev.succ ?_
    simp only [U13.l0, show ¬ ((i : Int) < (a.length : Int)) by omega, if_false]
    exact evq (Ev.now _) (by rw [List.drop_eq_nil_of_le (by omega), List.drop_eq_nil_of_le (by omega), decide_eq_true rfl])
  | succ d ih =>
    intro i hi
    have hw : wrap64 ((i : Int) + 1) = ((i + 1 : Nat) : Int) := by rw [w64] <;> omega
    have he := eq_drop (a := a) (b := b) (j := i) (by omega) (by omega)
    refine Ev.succ ?_
    simp only [U13.l0, show (i : Int) < (a.length : Int) by omega, show (i : Int) < (b.length : Int) by omega, if_true, show (0 : Int) ≤ (i : Int) by omega, hw]
    by_cases h : rd a (i : Int) = rd b (i : Int)
    · simp only [if_pos h]
      exact evq (ih (i + 1) (by omega)) (by rw [decide_eq_decide, he]; exact ⟨fun e => ⟨h, e⟩, fun e => e.2⟩)
    · simp only [if_neg h]
      exact evq (Ev.now _) (decide_eq_false (fun e => h (he.1 e).1)).symm
theorem ints_ev (a b : List Int) (hb : a.length ≤ 4611686018427387904) : Ev (fun k => U13.f k a b) (decide (a = b)) := by
  unfold U13.f
  by_cases h : a.length = b.length
  · simp only [show (a.length : Int) = (b.length : Int) by omega, if_true]
    exact ints_l0 h hb a.length 0 (by omega)
  · simp only [show ¬ ((a.length : Int) = (b.length : Int)) by omega, if_false]
    exact evq (Ev.now _) (decide_eq_false (fun e => h (by rw [e]))).symm
theorem anyWide_l0 {fs : List (List S56)} : ∀ d i : Nat, i + d = 70 → ∃ b : Bool, Ev (fun k => U11.l0 k fs (i : Int)) b := by
  intro d
  induction d with
  | zero =>
    intro i hi
    have : Ev (fun k => U11.j1 k fs (i : Int) false) false := by
      refine Ev.succ ?_
      simp only [U11.j1, Bool.false_eq_true, if_false]; exact Ev.now _
    refine ⟨false, Ev.succ ?_⟩
    simp only [U11.l0]
    rw [decide_eq_false (by omega)]
    split <;> exact this
  | succ d ih =>
    intro i hi
    have hw : wrap64 ((i : Int) + 1) = ((i + 1 : Nat) : Int) := by rw [w64] <;> omega
    by_cases h : (i : Int) < (fs.length : Int)
    · obtain ⟨b, hb⟩ := ih (i + 1) (by omega)
      obtain ⟨w, hw'⟩ := wide_ev (rd_L6 fs (i : Int))
      refine ⟨if w = true then true else b, Ev.succ ?_⟩
      simp only [U11.l0, if_pos h]
      rw [decide_eq_true (by omega)]
      refine Ev.succ ?_
      simp only [U11.j1, if_true, show (0 : Int) ≤ (i : Int) by omega, if_pos h, hw', Option.bind_some, hw]
      cases w with
      | true => simp only [if_true]; exact Ev.now _
      | false => simp only [Bool.false_eq_true, if_false]; exact hb
    · refine ⟨false, Ev.succ ?_⟩
      simp only [U11.l0, if_neg h]
      refine Ev.succ ?_
      simp only [U11.j1, Bool.false_eq_true, if_false]; exact Ev.now _
theorem anyWide_ev (fs : List (List S56)) : ∃ b : Bool, Ev (fun k => U11.f k fs) b := anyWide_l0 70 0 (by omega)
end Go.Proofs.Ytmcegphcjphdcaa.Pure
