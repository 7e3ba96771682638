import Derived.Test.YtmcegphcjphdcaaXSwQAx17
import Derived.Test.YtmcegphcjphdcaaXSwQAx27
import Derived.Test.YtmcegphcjphdcaaXSwQAx28
import Derived.Test.YtmcegphcjphdcaaXSwQAx29
import Derived.Test.YtmcegphcjphdcaaXSwQAx30
import Derived.Test.YtmcegphcjphdcaaXSwRun
set_option linter.unusedVariables false
set_option linter.unusedSimpArgs false
namespace Go.Proofs.Ytmcegphcjphdcaa.Pure
open Go.RowKit Go.Proofs.YtmcegphcjphdcaaW.PrintWords Go.Proofs.YtmcegphcjphdcaaW.PrintLast Go.Proofs.YtmcegphcjphdcaaW.PrintMore Go.Proofs.Ytmcegphcjphdcaa.QA
theorem with_l0 {ms : List S56} (hl : ms.length ≤ 60) {i : Nat} (hi : i < ms.length) (x : S56) : ∀ d j : Nat, j + d = ms.length → Ev (fun k => U38.l0 k ms (i : Int) ((ms.set i x).take j) (j : Int) x.f0) (ms.set i x) := by
  intro d
  induction d with
  | zero =>
    intro j hj
    refine Ev.succ ?_
    simp only [U38.l0, show ¬ ((j : Int) < (ms.length : Int)) by omega, if_false]
    exact evq (Ev.now _) (List.take_of_length_le (by rw [List.length_set]; omega))
  | succ d ih =>
    intro j hj
    have hw : wrap64 ((j : Int) + 1) = ((j + 1 : Nat) : Int) := by rw [w64] <;> omega
    have hlt : j < ms.length := by omega
    have hlt' : j < (ms.set i x).length := by rw [List.length_set]; exact hlt
    have hlen : ((ms.set i x).take j).length < 5864062014805 := by rw [List.length_take, List.length_set]; omega
    have hn := ih (j + 1) (by omega)
    rw [List.take_succ_eq_append_getElem hlt'] at hn
    refine Ev.succ ?_
    simp only [U38.l0, show (j : Int) < (ms.length : Int) by omega, if_true, show (0 : Int) ≤ (j : Int) by omega, hw, hlen]
    by_cases e : (j : Int) = (i : Int)
    · simp only [if_pos e]
      obtain rfl : j = i := by omega
      rw [List.getElem_set_self] at hn
      exact hn
    · simp only [if_neg e]
      rw [List.getElem_set_ne (by omega)] at hn
      rw [rdM_lt hlt]
      exact hn
theorem with_ev {ms : List S56} (hl : ms.length ≤ 60) {i : Nat} (hi : i < ms.length) (x : S56) : Ev (fun k => U38.f k ms (i : Int) x.f0) (ms.set i x) := by
  unfold U38.f
  exact with_l0 hl hi x ms.length 0 (by omega)
theorem rtotl_ev {ps pr : List Int} (ids its : List Int) {ms : List S56} {rows : List (List Int)} (hb : rows.length ≤ 200) (hf : FitAll ps pr ms rows) (g : gErr ps pr = 0) : Ev (fun k => U35.f k ps pr ms ids its rows) (toL (likes ps pr ms rows)) := by
  unfold U35.f
  refine Ev.bind (rOf_ev (by omega) (by omega)) ?_
  have := rtot_l0 (ids := ids) (its := its) hb hf (gErr_ok g).2.1 rows.length 0 (by omega) 1 (by simp)
  rw [List.drop_zero, Nat.one_mul] at this
  exact this
section
variable {ps pr ids its : List Int} {rows : List (List Int)}
theorem rbest_tot (ids its : List Int) {ms : List S56} {i : Nat} {l : List S56} (h : Lks ps pr ms i l rows) (hm : ms.length ≤ 60) {f : Nat} (hf : f < l.length) {α : Type} {F : Nat → List Int → Option α} {R : α} (hF : Ev (fun k => F k (toL (lk ps pr ms i l rows f))) R) :
    Ev (fun k => (U38.f k ms (i : Int) (rd_T56 l (f : Int)).f0).bind fun t => ((U35.f k ps pr t ids its rows).bind fun n => F k n)) R := by
  refine Ev.bind (with_ev hm h.im (mo l f)) ?_
  exact Ev.bind (rtotl_ev ids its h.r200 (h.all f hf) h.g) hF
theorem rbest_l0 {ms : List S56} {i : Nat} {l : List S56} (h : Lks ps pr ms i l rows) (hm : ms.length ≤ 60) {b : Nat} (hb : b < l.length) : ∀ d j : Nat, j + d = l.length →
    Ev (fun k => U30.l0 k ms (i : Int) l ((bestOf (lk ps pr ms i l rows) b j : Nat) : Int) (toL (lk ps pr ms i l rows (bestOf (lk ps pr ms i l rows) b j))) (j : Int) ps pr ids its rows) ((bestOf (lk ps pr ms i l rows) b l.length : Nat) : Int) := by
  have n24 := h.n24
  intro d
  induction d with
  | zero =>
    intro j hj
    refine Ev.succ ?_
    simp only [U30.l0, show ¬ ((j : Int) < (l.length : Int)) by omega, if_false]
    exact evq (Ev.now _) (by rw [show j = l.length by omega])
  | succ d ih =>
    intro j hj
    have hw : wrap64 ((j : Int) + 1) = ((j + 1 : Nat) : Int) := by rw [w64] <;> omega
    have hlt : j < l.length := by omega
    have hB := bestOf_lt (v := lk ps pr ms i l rows) hb j (by omega)
    have hn := ih (j + 1) (by omega)
    rw [bestOf] at hn
    refine Ev.succ ?_
    simp only [U30.l0, show (j : Int) < (l.length : Int) by omega, if_true, show (0 : Int) ≤ (j : Int) by omega, hw]
    refine rbest_tot ids its h hm hlt ?_
    have s1 := h.lens hlt
    have s2 := h.lens hB
    refine Ev.bind (rCmp_ev (by omega) (by omega)) ?_
    unfold cmpN
    by_cases c : lk ps pr ms i l rows (bestOf (lk ps pr ms i l rows) b j) < lk ps pr ms i l rows j
    · rw [if_pos c] at hn
      rw [if_neg (Nat.lt_asymm c), if_pos c]
      simp only [show (1 : Int) > 0 by omega, if_true]; exact hn
    · rw [if_neg c] at hn
      have : ¬ ((if lk ps pr ms i l rows j < lk ps pr ms i l rows (bestOf (lk ps pr ms i l rows) b j) then (-1 : Int) else if lk ps pr ms i l rows (bestOf (lk ps pr ms i l rows) b j) < lk ps pr ms i l rows j then 1 else 0) > 0) := by
        rw [if_neg c]; split <;> omega
      simp only [this, if_false]; exact hn
theorem rbest_ev (ids its : List Int) {ms : List S56} {i : Nat} {l : List S56} (h : Lks ps pr ms i l rows) (hm : ms.length ≤ 60) {b : Int} (h0 : 0 ≤ b) (hb : b < (l.length : Int)) : Ev (fun k => U30.f k ps pr ms ids its rows (i : Int) l b) ((bestOf (lk ps pr ms i l rows) b.toNat l.length : Nat) : Int) := by
  obtain ⟨c, rfl⟩ := Int.eq_ofNat_of_zero_le h0
  rw [Int.toNat_natCast]
  unfold U30.f
  simp only [h0, hb, if_true]
  exact rbest_tot ids its h hm (by omega) (rbest_l0 h hm (by omega) l.length 0 (by omega))
variable {fs : List (List S56)}
theorem rswp_l1 (hz : SzF fs) {ch : List Int} (hc : ch.length = fs.length) : ∀ d n : Nat, n + d = fs.length → ∀ o : List Int, Ok ps pr ids its rows fs o → (∀ j : Nat, n ≤ j → rd o (j : Int) = rd ch (j : Int)) →
    Ev (fun k => U34.l1 k fs ch (pickF fs o) (o.take n) (n : Int) ps pr ids its rows) (swp ps pr rows fs n d o) := by
  intro d
  induction d with
  | zero =>
    intro n hn o h he
    have lc := h.lc
    refine Ev.succ ?_
    simp only [U34.l1, show ¬ ((n : Int) < (fs.length : Int)) by omega, if_false]
    exact evq (Ev.now _) (by rw [List.take_of_length_le (by omega)]; rfl)
  | succ d ih =>
    intro n hn o h he
    have n60 := h.n60
    have hw : wrap64 ((n : Int) + 1) = ((n + 1 : Nat) : Int) := by rw [w64] <;> omega
    have hlt : n < fs.length := by omega
    have hfa : rd_L6 fs (n : Int) = fa fs n := rfl
    have hL := h.lks hz hlt
    have lc := h.lc
    have hch := h.ch n hlt
    have hlen : (o.take n).length < 17592186044416 := by rw [List.length_take]; omega
    refine Ev.succ ?_
    simp only [U34.l1, show (n : Int) < (fs.length : Int) by omega, if_true, show (0 : Int) ≤ (n : Int) by omega, hw, hfa, show (n : Int) < (ch.length : Int) by omega, hlen, ← he n (Nat.le_refl _)]
    refine Ev.bind (rbest_ev ids its hL (by rw [pickF_len]; exact n60) hch.1 hch.2) ?_
    have hB := h.best hlt (lk ps pr (pickF fs o) n (fa fs n) rows)
    have ht := ih (n + 1) (by omega) _ (h.stp hlt) (fun j hj => by unfold stp; rw [rd_set_ne (by omega)]; exact he j (by omega))
    have hs : stp ps pr rows fs o n = o.set n ((bestOf (lk ps pr (pickF fs o) n (fa fs n) rows) (rd o (n : Int)).toNat (fa fs n).length : Nat) : Int) := rfl
    have hp := pickF_set (fs := fs) (show n < o.length by omega) (bestOf (lk ps pr (pickF fs o) n (fa fs n) rows) (rd o (n : Int)).toNat (fa fs n).length)
    rw [swp]
    rw [hs] at ht ⊢
    rw [hp] at ht
    generalize bestOf (lk ps pr (pickF fs o) n (fa fs n) rows) (rd o (n : Int)).toNat (fa fs n).length = b at *
    have hmo : rd_T56 (fa fs n) (b : Int) = mo (fa fs n) b := rfl
    simp only [show (0 : Int) ≤ (b : Int) by omega, if_true, show (b : Int) < ((fa fs n).length : Int) by omega, hmo]
    refine Ev.bind (with_ev (by rw [pickF_len]; exact n60) (by rw [pickF_len]; exact hlt) (mo (fa fs n) b)) ?_
    have ht' : (o.set n (b : Int)).take (n + 1) = o.take n ++ [(b : Int)] := by
      rw [List.take_succ_eq_append_getElem (by rw [List.length_set]; omega), List.getElem_set_self, List.take_set_of_le (Nat.le_refl _)]
    rw [ht'] at ht
    exact ht
theorem rswp_l0 {ch : List Int} (h : Ok ps pr ids its rows fs ch) {R : List Int} (hR : Ev (fun k => U34.l1 k fs ch (pickF fs ch) [] 0 ps pr ids its rows) R) : ∀ d n : Nat, n + d = fs.length →
    Ev (fun k => U34.l0 k fs ch ((List.range n).map (pk fs ch)) (n : Int) ps pr ids its rows) R := by
  have n60 := h.n60
  have lc := h.lc
  intro d
  induction d with
  | zero =>
    intro n hn
    refine Ev.succ ?_
    simp only [U34.l0, show ¬ ((n : Int) < (fs.length : Int)) by omega, if_false]
    rw [show n = fs.length by omega]
    exact hR
  | succ d ih =>
    intro n hn
    have hw : wrap64 ((n : Int) + 1) = ((n + 1 : Nat) : Int) := by rw [w64] <;> omega
    have hlt : n < fs.length := by omega
    have hfa : rd_L6 fs (n : Int) = fa fs n := rfl
    have hch := h.ch n hlt
    have hlen : ((List.range n).map (pk fs ch)).length < 5864062014805 := by rw [List.length_map, List.length_range]; omega
    have hmo : (⟨(rd_T56 (fa fs n) (rd ch (n : Int))).f0⟩ : S56) = pk fs ch n := by
      unfold pk mo
      rw [Int.toNat_of_nonneg hch.1]
    have ht := ih (n + 1) (by omega)
    rw [List.range_succ, List.map_append, List.map_singleton] at ht
    refine Ev.succ ?_
    simp only [U34.l0, show (n : Int) < (fs.length : Int) by omega, if_true, show (0 : Int) ≤ (n : Int) by omega, hw, hfa, show (n : Int) < (ch.length : Int) by omega, hch.1, hch.2, hlen, hmo]
    exact ht
theorem rsweep_ev (hz : SzF fs) {ch : List Int} (h : Ok ps pr ids its rows fs ch) : Ev (fun k => U34.f k ps pr ids its rows fs ch) (swpF ps pr rows fs ch) := by
  unfold U34.f
  have := rswp_l1 hz h.lc fs.length 0 (by omega) ch h (fun _ _ => rfl)
  rw [List.take_zero] at this
  exact rswp_l0 h this fs.length 0 (by omega)
theorem rrun_l1 {c t : List Int} {n : Int} {R : List Int × Int × Int} (hl : t.length = c.length) (hb : c.length ≤ 60)
    (hR : Ev (fun k => if t = c then some (t, n, 0) else if n = 20 then some (t, n, 0) else U28.l0 k fs t (wrap64 (n + 1)) ps pr ids its rows) R) : ∀ d j : Nat, j + d = t.length →
    Ev (fun k => U28.l1 k fs c n t (!decide (t.take j = c.take j)) (j : Int) ps pr ids its rows) R := by
  intro d
  induction d with
  | zero =>
    intro j hj
    refine Ev.succ ?_
    simp only [U28.l1, show ¬ ((j : Int) < (c.length : Int)) by omega, if_false]
    rw [List.take_of_length_le (by omega), List.take_of_length_le (by omega)]
    by_cases h : t = c
    · simp only [decide_eq_true h, Bool.not_true, Bool.false_eq_true, if_false]; simp only [if_pos h] at hR; exact hR
    · simp only [decide_eq_false h, Bool.not_false, if_true]; simp only [if_neg h] at hR; exact hR
  | succ d ih =>
    intro j hj
    have hw : wrap64 ((j : Int) + 1) = ((j + 1 : Nat) : Int) := by rw [w64] <;> omega
    have he := eq_take (a := t) (b := c) (j := j) (by omega) (by omega)
    have ht := ih (j + 1) (by omega)
    refine Ev.succ ?_
    simp only [U28.l1, show (j : Int) < (t.length : Int) by omega, show (j : Int) < (c.length : Int) by omega, if_true, show (0 : Int) ≤ (j : Int) by omega, hw]
    by_cases h : t.take j = c.take j
    · simp only [decide_eq_true h, Bool.not_true, Bool.false_eq_true, if_false]
      rw [show (rd t (j : Int) != rd c (j : Int)) = !decide (t.take (j + 1) = c.take (j + 1)) by
        rw [bne, show (rd t (j : Int) == rd c (j : Int)) = decide (t.take (j + 1) = c.take (j + 1)) by
          rw [Bool.eq_iff_iff, beq_iff_eq, decide_eq_true_eq, he]; exact ⟨fun e => ⟨h, e⟩, fun e => e.2⟩]]
      exact ht
    · simp only [decide_eq_false h, Bool.not_false, if_true]
      rw [decide_eq_false (fun e => h (he.1 e).1)] at ht
      exact ht
theorem rrun_l0 (hz : SzF fs) : ∀ r n : Nat, n + r = 20 → ∀ c : List Int, Ok ps pr ids its rows fs c →
    Ev (fun k => U28.l0 k fs c (n : Int) ps pr ids its rows) ((runF ps pr rows fs r n c).1, (runF ps pr rows fs r n c).2, 0) := by
  intro r
  induction r with
  | zero =>
    intro n hn c h
    have h1 := h.swpF
    refine Ev.succ ?_
    simp only [U28.l0]
    refine Ev.bind (rsweep_ev hz h) ?_
    have := rrun_l1 (ps := ps) (pr := pr) (ids := ids) (its := its) (rows := rows) (fs := fs) (c := c) (t := swpF ps pr rows fs c) (n := (n : Int)) (R := (swpF ps pr rows fs c, (n : Int), 0)) (by rw [h1.lc, h.lc]) (by rw [h.lc]; exact h.n60) ?_ (swpF ps pr rows fs c).length 0 (by omega)
    · exact this
    · by_cases e : swpF ps pr rows fs c = c
      · simp only [if_pos e]; exact Ev.now _
      · simp only [if_neg e, show (n : Int) = 20 by omega, if_true]; exact Ev.now _
  | succ r ih =>
    intro n hn c h
    have h1 := h.swpF
    refine Ev.succ ?_
    simp only [U28.l0]
    refine Ev.bind (rsweep_ev hz h) ?_
    have := rrun_l1 (ps := ps) (pr := pr) (ids := ids) (its := its) (rows := rows) (fs := fs) (c := c) (t := swpF ps pr rows fs c) (n := (n : Int)) (R := ((runF ps pr rows fs (r + 1) n c).1, (runF ps pr rows fs (r + 1) n c).2, 0)) (by rw [h1.lc, h.lc]) (by rw [h.lc]; exact h.n60) ?_ (swpF ps pr rows fs c).length 0 (by omega)
    · exact this
    · rw [runF]
      by_cases e : swpF ps pr rows fs c = c
      · simp only [if_pos e]; exact Ev.now _
      · have hw : wrap64 ((n : Int) + 1) = ((n + 1 : Nat) : Int) := by rw [w64] <;> omega
        simp only [if_neg e, show ¬ ((n : Int) = 20) by omega, if_false, hw]
        exact ih (n + 1) (by omega) _ h1
end
theorem rSweep_ev {ps pr : List Int} (ids its : List Int) {rows : List (List Int)} {fs : List (List S56)} (ch : List Int) (hz : SzF fs) (hb : rows.length ≤ 4611686018427387904) : Ev (fun k => U29.f k ps pr ids its rows fs ch) (SweepN ps pr ids its rows fs ch) := by
  unfold U29.f SweepN
  refine Ev.bind (rcheck_ev ids its ch hz hb) ?_
  by_cases h : checkN ps pr ids its rows fs ch = 0
  · simp only [if_pos h]; exact Ev.mapb (rsweep_ev hz (check_iff.1 h)) rfl
  · simp only [if_neg h]; exact Ev.now _
theorem rRun_ev {ps pr : List Int} (ids its : List Int) {rows : List (List Int)} {fs : List (List S56)} (ch : List Int) (hz : SzF fs) (hb : rows.length ≤ 4611686018427387904) : Ev (fun k => U28.f k ps pr ids its rows fs ch) (RunN ps pr ids its rows fs ch) := by
  unfold U28.f RunN
  refine Ev.bind (rcheck_ev ids its ch hz hb) ?_
  by_cases h : checkN ps pr ids its rows fs ch = 0
  · have hk := check_iff.1 h
    have n60 := hk.n60
    have lc := hk.lc
    simp only [if_pos h, Option.bind_some, List.length_nil, List.nil_append, show 0 + ch.length < 17592186044416 by omega, if_true]
    exact rrun_l0 hz 19 1 (by omega) ch hk
  · simp only [if_neg h]; exact Ev.now _
end Go.Proofs.Ytmcegphcjphdcaa.Pure
