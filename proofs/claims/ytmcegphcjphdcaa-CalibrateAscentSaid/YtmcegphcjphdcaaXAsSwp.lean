import Derived.Test.YtmcegphcjphdcaaXAsQAx24
import Derived.Test.YtmcegphcjphdcaaXAsChk
set_option linter.unusedVariables false
set_option linter.unusedSimpArgs false
namespace Go.Proofs.Ytmcegphcjphdcaa.Pure
open Go.RowKit Go.Proofs.YtmcegphcjphdcaaW.PrintWords Go.Proofs.YtmcegphcjphdcaaW.PrintLast Go.Proofs.YtmcegphcjphdcaaW.PrintMore Go.Proofs.Ytmcegphcjphdcaa.QA
def pk (fs : List (List S56)) (o : List Int) (i : Nat) : S56 := mo (fa fs i) (rd o (i : Int)).toNat
def pickF (fs : List (List S56)) (o : List Int) : List S56 := (List.range fs.length).map (pk fs o)
theorem pickF_len (fs : List (List S56)) (o : List Int) : (pickF fs o).length = fs.length := by simp [pickF]
theorem pickF_get {fs : List (List S56)} {o : List Int} {i : Nat} (h : i < (pickF fs o).length) : (pickF fs o)[i] = pk fs o i := by simp [pickF]
theorem rd_set_eq {o : List Int} {n : Nat} (h : n < o.length) (k : Int) : rd (o.set n k) (n : Int) = k := by rw [rd_nat]; simp [List.getD, h]
theorem rd_set_ne {o : List Int} {n j : Nat} (h : j ≠ n) (k : Int) : rd (o.set n k) (j : Int) = rd o (j : Int) := by
  rw [rd_nat, rd_nat, List.getD_eq_getElem?_getD, List.getElem?_set, if_neg (fun e => h e.symm), ← List.getD_eq_getElem?_getD]
theorem pickF_set {fs : List (List S56)} {o : List Int} {n : Nat} (h : n < o.length) (k : Nat) : pickF fs (o.set n (k : Int)) = (pickF fs o).set n (mo (fa fs n) k) := by
  apply List.ext_getElem
  · rw [List.length_set, pickF_len, pickF_len]
  · intro j h1 h2
    rw [pickF_get, List.getElem_set]
    by_cases e : n = j
    · subst e; rw [if_pos rfl]; unfold pk; rw [rd_set_eq h, Int.toNat_natCast]
    · rw [if_neg e, pickF_get]; unfold pk; rw [rd_set_ne (fun h => e h.symm)]
def stp (ps pr : List Int) (rows : List (List Int)) (fs : List (List S56)) (o : List Int) (n : Nat) : List Int :=
  o.set n ((bestOf (lk ps pr (pickF fs o) n (fa fs n) rows) (rd o (n : Int)).toNat (fa fs n).length : Nat) : Int)
def swp (ps pr : List Int) (rows : List (List Int)) (fs : List (List S56)) : Nat → Nat → List Int → List Int
  | _, 0, o => o
  | n, d + 1, o => swp ps pr rows fs (n + 1) d (stp ps pr rows fs o n)
def swpF (ps pr : List Int) (rows : List (List Int)) (fs : List (List S56)) (ch : List Int) : List Int := swp ps pr rows fs 0 fs.length ch
section
variable {ps pr ids its : List Int} {rows : List (List Int)} {fs : List (List S56)} {o : List Int}
theorem Ok.set {n : Nat} {k : Nat} (h : Ok ps pr ids its rows fs o) (hn : n < fs.length) (hk : k < (fa fs n).length) : Ok ps pr ids its rows fs (o.set n (k : Int)) := by
  obtain ⟨g, n60, n24, li, lc, fam, mt, ch⟩ := h
  refine ⟨g, n60, n24, li, by rw [List.length_set]; exact lc, fam, mt, fun i hi => ?_⟩
  by_cases e : i = n
  · subst e; rw [rd_set_eq (by omega)]; omega
  · rw [rd_set_ne e]; exact ch i hi
theorem Ok.pos (h : Ok ps pr ids its rows fs o) {n : Nat} (hn : n < fs.length) : (rd o (n : Int)).toNat < (fa fs n).length := by have := h.ch n hn; omega
theorem Ok.best (h : Ok ps pr ids its rows fs o) {n : Nat} (hn : n < fs.length) (v : Nat → Nat) : bestOf v (rd o (n : Int)).toNat (fa fs n).length < (fa fs n).length := bestOf_lt (h.pos hn) _ (Nat.le_refl _)
theorem Ok.stp (h : Ok ps pr ids its rows fs o) {n : Nat} (hn : n < fs.length) : Ok ps pr ids its rows fs (stp ps pr rows fs o n) := h.set hn (h.best hn _)
theorem Ok.swp : ∀ d n, n + d = fs.length → ∀ {o : List Int}, Ok ps pr ids its rows fs o → Ok ps pr ids its rows fs (swp ps pr rows fs n d o)
  | 0, _, _, _, h => h
  | d + 1, n, hn, _, h => Ok.swp d (n + 1) (by omega) (h.stp (by omega))
theorem Ok.swpF (h : Ok ps pr ids its rows fs o) : Ok ps pr ids its rows fs (swpF ps pr rows fs o) := Ok.swp _ _ (by omega) h
theorem mo_mem {l : List S56} {c : Nat} (h : c < l.length) : mo l c ∈ l := by unfold mo; rw [rdM_lt h]; exact List.getElem_mem h
theorem Ok.sz (h : Ok ps pr ids its rows fs o) (hz : SzF fs) : Sz (pickF fs o) := by
  refine ⟨by rw [pickF_len]; exact hz.1, fun m hm => ?_⟩
  obtain ⟨i, hi, rfl⟩ := List.getElem_of_mem hm
  rw [pickF_get]
  rw [pickF_len] at hi
  exact (hz.fa hi).2 _ (mo_mem (h.pos hi))
theorem Ok.cats (h : Ok ps pr ids its rows fs o) : cats (pickF fs o) = cats (firsts fs) := by
  apply List.ext_getElem
  · rw [cats_len, cats_len, pickF_len, firsts_len]
  · intro j h1 h2
    rw [cats_len, pickF_len] at h1
    have e1 : (Pure.cats (pickF fs o))[j]'(by rw [cats_len, pickF_len]; exact h1) = cat (pk fs o j).f0 := by simp [Pure.cats, pickF]
    have e2 : (Pure.cats (firsts fs))[j]'h2 = cat (mo (fa fs j) 0).f0 := by simp [Pure.cats, firsts, fa_lt h1]
    rw [e1, e2]
    exact (famErr_ok (h.fam j h1)).2.2 _ (h.pos h1)
theorem Ok.val (h : Ok ps pr ids its rows fs o) (b : Int) : valErr (pickF fs o) 0 (ps.length : Int) b = 0 := valErr_zero (fun j hj _ => by
  rw [pickF_get]
  rw [pickF_len] at hj
  exact (famErr_ok (h.fam j hj)).2.1 _ (h.pos hj))
theorem Ok.lks (h : Ok ps pr ids its rows fs o) (hz : SzF fs) {n : Nat} (hn : n < fs.length) : Lks ps pr (pickF fs o) n (fa fs n) rows := by
  have hc : (Pure.cats (pickF fs o)).set n (cat (mo (fa fs n) 0).f0) = Pure.cats (firsts fs) := by
    rw [h.cats]
    apply List.ext_getElem
    · rw [List.length_set]
    · intro j h1 h2
      rw [List.getElem_set]
      split
      · next e => subst e; simp [Pure.cats, firsts, fa_lt hn]
      · rfl
  exact lks_of (ids := ids) (its := its) (h.sz hz) (hz.fa hn) h.g (by rw [pickF_len]; exact h.n60) (h.n24 n hn) (by rw [pickF_len]; exact h.li) (h.val _) (h.fam n hn) (by rw [pickF_len]; exact hn) (by rw [hc]; exact h.mt)
theorem Lks.lens {ms : List S56} {i : Nat} {l : List S56} (h : Lks ps pr ms i l rows) {f : Nat} (hf : f < l.length) : (toL (lk ps pr ms i l rows f)).length ≤ 100000 := by
  have := h.len hf rows.length; rwa [List.take_length] at this
theorem swp_l1 (hz : SzF fs) : ∀ d n : Nat, n + d = fs.length → ∀ o : List Int, Ok ps pr ids its rows fs o →
    Ev (fun k => U9.l1 k o (pickF fs o) fs (fs.length : Int) (n : Int) ps pr ids its rows) (swp ps pr rows fs n d o) := by
  intro d
  induction d with
  | zero =>
    intro n hn o h
    refine Ev.succ ?_
    simp only [U9.l1, show ¬ ((n : Int) < (fs.length : Int)) by omega, if_false]; exact Ev.now _
  | succ d ih =>
    intro n hn o h
    have n60 := h.n60
    have hw : wrap64 ((n : Int) + 1) = ((n + 1 : Nat) : Int) := by rw [w64] <;> omega
    have hlt : n < fs.length := by omega
    have hfa : rd_L6 fs (n : Int) = fa fs n := rfl
    have hL := h.lks hz hlt
    have lc := h.lc
    have hch := h.ch n hlt
    refine Ev.succ ?_
    simp only [U9.l1, show (n : Int) < (fs.length : Int) by omega, if_true, show (0 : Int) ≤ (n : Int) by omega, hw, hfa, pickF_len, show (n : Int) < (o.length : Int) by omega]
    refine Ev.bind (lik_ev ids its hL) ?_
    refine Ev.bind (great_ev (h.n24 n hlt) (by omega) hch.2 (fun q hq => hL.lens hq)) ?_
    have hB := h.best hlt (lk ps pr (pickF fs o) n (fa fs n) rows)
    have ht := ih (n + 1) (by omega) _ (h.stp hlt)
    have hs : stp ps pr rows fs o n = o.set n ((bestOf (lk ps pr (pickF fs o) n (fa fs n) rows) (rd o (n : Int)).toNat (fa fs n).length : Nat) : Int) := rfl
    have hp := pickF_set (fs := fs) (show n < o.length by omega) (bestOf (lk ps pr (pickF fs o) n (fa fs n) rows) (rd o (n : Int)).toNat (fa fs n).length)
    rw [swp]
    rw [hs] at ht ⊢
    rw [hp] at ht
    generalize bestOf (lk ps pr (pickF fs o) n (fa fs n) rows) (rd o (n : Int)).toNat (fa fs n).length = b at *
    have hmo : (⟨(rd_T56 (fa fs n) (b : Int)).f0⟩ : S56) = mo (fa fs n) b := rfl
    simp only [show (0 : Int) ≤ (b : Int) by omega, if_true, show (b : Int) < ((fa fs n).length : Int) by omega, Int.toNat_natCast, hmo]
    exact ht
theorem swp_l0 {ch : List Int} (h : Ok ps pr ids its rows fs ch) {R : List Int} (hR : Ev (fun k => U9.l1 k ch (pickF fs ch) fs (fs.length : Int) 0 ps pr ids its rows) R) : ∀ d n : Nat, n + d = fs.length →
    Ev (fun k => U9.l0 k fs ch ch ((List.range n).map (pk fs ch) ++ List.replicate d z56) fs (fs.length : Int) (n : Int) ps pr ids its rows) R := by
  have n60 := h.n60
  have lc := h.lc
  intro d
  induction d with
  | zero =>
    intro n hn
    refine Ev.succ ?_
    simp only [U9.l0, show ¬ ((n : Int) < (fs.length : Int)) by omega, if_false, List.replicate_zero, List.append_nil]
    rw [show n = fs.length by omega]
    exact hR
  | succ d ih =>
    intro n hn
    have hw : wrap64 ((n : Int) + 1) = ((n + 1 : Nat) : Int) := by rw [w64] <;> omega
    have hlt : n < fs.length := by omega
    have hfa : rd_L6 fs (n : Int) = fa fs n := rfl
    have hch := h.ch n hlt
    have hlen : (n : Int) < ((((List.range n).map (pk fs ch) ++ List.replicate (d + 1) z56).length : Nat) : Int) := by rw [List.length_append, List.length_map, List.length_range, List.length_replicate]; omega
    have hmo : (⟨(rd_T56 (fa fs n) (rd ch (n : Int))).f0⟩ : S56) = pk fs ch n := by
      unfold pk mo
      rw [Int.toNat_of_nonneg hch.1]
    refine Ev.succ ?_
    simp only [U9.l0, show (n : Int) < (fs.length : Int) by omega, if_true, show (0 : Int) ≤ (n : Int) by omega, hw, hfa, show (n : Int) < (ch.length : Int) by omega, hch.1, hch.2, hlen, Int.toNat_natCast, hmo, set_mid]
    exact ih (n + 1) (by omega)
theorem sweep_ev (hz : SzF fs) {ch : List Int} (h : Ok ps pr ids its rows fs ch) : Ev (fun k => U9.f k ps pr ids its rows fs ch) (swpF ps pr rows fs ch) := by
  have n60 := h.n60
  have lc := h.lc
  unfold U9.f
  simp only [Option.bind_some, List.length_nil, List.nil_append, show 0 + ch.length < 17592186044416 by omega, if_true, show (0 : Int) ≤ (fs.length : Int) by omega, Int.toNat_natCast, show fs.length ≤ 11728124029610 by omega]
  have := swp_l0 (ids := ids) (its := its) h (swp_l1 hz fs.length 0 (by omega) ch h) fs.length 0 (by omega)
  exact this
end
def SweepN (ps pr ids its : List Int) (rows : List (List Int)) (fs : List (List S56)) (ch : List Int) : List Int × Int :=
  if checkN ps pr ids its rows fs ch = 0 then (swpF ps pr rows fs ch, 0) else ([], checkN ps pr ids its rows fs ch)
theorem Sweep_ev {ps pr : List Int} (ids its : List Int) {rows : List (List Int)} {fs : List (List S56)} (ch : List Int) (hz : SzF fs) (hb : rows.length ≤ 4611686018427387904) : Ev (fun k => U0.f k ps pr ids its rows fs ch) (SweepN ps pr ids its rows fs ch) := by
  unfold U0.f SweepN
  refine Ev.bind (check_ev ids its ch hz hb) ?_
  by_cases h : checkN ps pr ids its rows fs ch = 0
  · simp only [if_pos h]; exact Ev.mapb (sweep_ev hz (check_iff.1 h)) rfl
  · simp only [if_neg h]; exact Ev.now _
end Go.Proofs.Ytmcegphcjphdcaa.Pure
