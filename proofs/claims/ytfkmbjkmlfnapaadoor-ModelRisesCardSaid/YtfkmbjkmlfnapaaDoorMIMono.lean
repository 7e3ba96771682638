import Derived.Test.YtfkmbjkmlfnapaaDoorMIQAx2
import Derived.Test.YtfkmbjkmlfnapaaDoorMIQAx3
import Derived.Test.YtfkmbjkmlfnapaaDoorMIQAx4
import Derived.Test.YtfkmbjkmlfnapaaDoorMISam
set_option linter.unusedVariables false
set_option linter.unusedSimpArgs false
namespace Go.Proofs.YtfkmbjkmlfnapaaDoor.Pure
open Go.RowKit Go.Proofs.YtfkmbjkmlfnapaaDoorW.PrintWords Go.Proofs.YtfkmbjkmlfnapaaDoorW.PrintLast Go.Proofs.YtfkmbjkmlfnapaaDoorW.PrintMore Go.Proofs.YtfkmbjkmlfnapaaDoor.QA
def sm : List Int → Int
  | [] => 0
  | x :: xs => x + sm xs
theorem sm_drop {l : List Int} {i : Nat} (h : i < l.length) : sm (l.drop i) = rd l (i : Int) + sm (l.drop (i + 1)) := by rw [drop_rd h, sm]
theorem sm_bd : ∀ {l : List Int}, (∀ x ∈ l, 1 ≤ x ∧ x ≤ 1000) → 0 ≤ sm l ∧ sm l ≤ 1000 * (l.length : Int)
  | [], _ => by simp [sm]
  | x :: xs, h => by
    have h1 := h x List.mem_cons_self
    have h2 := sm_bd (l := xs) (fun y hy => h y (List.mem_cons_of_mem _ hy))
    rw [sm, List.length_cons]; omega
structure Rw (l : List Int) : Prop where
  len : l.length ≤ 6
  one : 1 ≤ l.length
  el : ∀ x ∈ l, 1 ≤ x ∧ x ≤ 1000
theorem Rw.drop {l : List Int} (h : Rw l) (i : Nat) : 0 ≤ sm (l.drop i) ∧ sm (l.drop i) ≤ 6000 := by
  have := sm_bd (l := l.drop i) (fun x hx => h.el x (List.mem_of_mem_drop hx))
  have hl := h.len
  rw [List.length_drop] at this
  omega
theorem Rw.rd {l : List Int} (h : Rw l) {i : Nat} (hi : i < l.length) : 1 ≤ rd l (i : Int) ∧ rd l (i : Int) ≤ 1000 := by rw [rd_lt hi]; exact h.el _ (List.getElem_mem hi)
def tlj (l : List Int) (j : Nat) : List Int := (List.range l.length).map (fun q => if q < j then rd l (q : Int) else sm (l.drop q))
theorem tlj_len (l : List Int) (j : Nat) : (tlj l j).length = l.length := by simp [tlj]
theorem tlj_rd {l : List Int} {j q : Nat} (h : q < l.length) : rd (tlj l j) (q : Int) = if q < j then rd l (q : Int) else sm (l.drop q) := by
  rw [rd_lt (by rw [tlj_len]; exact h)]; simp [tlj]
theorem tlj_set {l : List Int} {j : Nat} (h : j < l.length) : (tlj l (j + 1)).set j (sm (l.drop j)) = tlj l j := by
  apply List.ext_getElem
  · rw [List.length_set, tlj_len, tlj_len]
  · intro q h1 h2
    rw [List.getElem_set]
    by_cases e : j = q
    · subst e; rw [if_pos rfl]; simp [tlj]
    · rw [if_neg e]
      simp only [tlj, List.getElem_map, List.getElem_range]
      by_cases c : q < j
      · rw [if_pos (by omega), if_pos c]
      · rw [if_neg (by omega), if_neg c]
theorem tails_l0 {l : List Int} (h : Rw l) : ∀ j : Nat, j + 1 ≤ l.length → Ev (fun k => U21.l0 k (tlj l j) ((j : Int) - 1)) (tlj l 0) := by
  have hl := h.len
  intro j
  induction j with
  | zero =>
    intro _
    refine Ev.succ ?_
    simp only [U21.l0, show ¬ (((0 : Nat) : Int) - 1 ≥ 0) by omega, if_false]; exact Ev.now _
  | succ j ih =>
    intro hj
    have hlt : j < l.length := by omega
    have hlt1 : j + 1 < l.length := by omega
    have hw : wrap64 ((j : Int) + 1) = ((j + 1 : Nat) : Int) := by rw [w64] <;> omega
    have hw2 : wrap64 ((j : Int) - 1) = (j : Int) - 1 := by rw [w64] <;> omega
    have e1 := tlj_rd (l := l) (j := j + 1) hlt
    have e2 := tlj_rd (l := l) (j := j + 1) hlt1
    rw [if_pos (by omega)] at e1
    rw [if_neg (by omega)] at e2
    have hs := sm_drop hlt
    have hb := h.drop j
    have hn := ih (by omega)
    refine Ev.succ ?_
    rw [show ((j + 1 : Nat) : Int) - 1 = (j : Int) by omega]
    simp only [U21.l0, show (j : Int) ≥ 0 by omega, show (0 : Int) ≤ (j : Int) by omega, if_true, tlj_len, show (j : Int) < (l.length : Int) by omega, hw, show (0 : Int) ≤ ((j + 1 : Nat) : Int) by omega, show ((j + 1 : Nat) : Int) < (l.length : Int) by omega, e1, e2, hw2, ← hs, Int.toNat_natCast]
    rw [w64 (x := sm (l.drop j)) (by omega) (by omega), tlj_set hlt]
    exact hn
theorem tails_ev {l : List Int} (h : Rw l) : Ev (fun k => U21.f k l) (tlj l 0) := by
  have hl := h.len
  have h1 := h.one
  unfold U21.f U37.f
  simp only [Option.bind_some, List.length_nil, List.nil_append, show 0 + l.length < 17592186044416 by omega, if_true]
  have e : tlj l (l.length - 1) = l := by
    apply List.ext_getElem
    · rw [tlj_len]
    · intro q h3 h2
      simp only [tlj, List.getElem_map, List.getElem_range]
      by_cases c : q < l.length - 1
      · rw [if_pos c, rd_lt h2]
      · rw [if_neg c, sm_drop h2, List.drop_eq_nil_of_le (by omega), sm, rd_lt h2, Int.add_zero]
  have := tails_l0 h (l.length - 1) (by omega)
  rw [e] at this
  rw [show wrap64 ((l.length : Int) - 2) = ((l.length - 1 : Nat) : Int) - 1 by rw [w64 (by omega) (by omega)]; omega]
  exact this
def Up (a b : List Int) : Prop := ∀ k : Nat, k < b.length → ¬ sm (b.drop k) < sm (a.drop k)
theorem not_up {a b : List Int} (c : ¬ Up a b) : ∃ k : Nat, k < b.length ∧ sm (b.drop k) < sm (a.drop k) := Classical.byContradiction fun hn => c (fun k hk hlt => hn ⟨k, hk, hlt⟩)
theorem mon_step {rs : List (List Int)} {q : Int} {a b : List Int} (hb : Rw b) (hab : a.length = b.length) {j : Nat} (hlt : j < b.length) (c : ¬ sm (b.drop j) < sm (a.drop j)) {R : Bool} (h : Ev (fun k => U13.l1 k q (tlj a 0) (tlj b 0) (b.length : Int) ((j + 1 : Nat) : Int) rs) R) :
    Ev (fun k => U13.l1 k q (tlj a 0) (tlj b 0) (b.length : Int) (j : Int) rs) R := by
  have hl := hb.len
  have hw : wrap64 ((j : Int) + 1) = ((j + 1 : Nat) : Int) := by rw [w64] <;> omega
  have e1 := tlj_rd (l := a) (j := 0) (q := j) (by omega)
  have e2 := tlj_rd (l := b) (j := 0) (q := j) hlt
  rw [if_neg (by omega)] at e1 e2
  refine Ev.succ ?_
  simp only [U13.l1, show (j : Int) < (b.length : Int) by omega, if_true, show (0 : Int) ≤ (j : Int) by omega, tlj_len, hab, e1, e2, if_neg c, hw]; exact h
theorem mon_l1g {rs : List (List Int)} {q : Int} {a b : List Int} (hb : Rw b) (hab : a.length = b.length) (hu : Up a b) {R : Bool} (hR : Ev (fun k => U13.l0 k (wrap64 (q + 1)) rs) R) : ∀ d j : Nat, j + d = b.length →
    Ev (fun k => U13.l1 k q (tlj a 0) (tlj b 0) (b.length : Int) (j : Int) rs) R := by
  intro d
  induction d with
  | zero =>
    intro j hj
    refine Ev.succ ?_
    simp only [U13.l1, show ¬ ((j : Int) < (b.length : Int)) by omega, if_false]; exact hR
  | succ d ih => exact fun j hj => mon_step hb hab (by omega) (hu j (by omega)) (ih (j + 1) (by omega))
theorem mon_l1b {rs : List (List Int)} {q : Int} {a b : List Int} (hb : Rw b) (hab : a.length = b.length) : ∀ d j : Nat, j + d = b.length → (∃ k : Nat, j ≤ k ∧ k < b.length ∧ sm (b.drop k) < sm (a.drop k)) →
    Ev (fun k => U13.l1 k q (tlj a 0) (tlj b 0) (b.length : Int) (j : Int) rs) false := by
  intro d
  induction d with
  | zero => exact fun j hj ⟨k, h1, h2, _⟩ => absurd h2 (by omega)
  | succ d ih =>
    intro j hj ⟨k, h1, h2, h3⟩
    by_cases c : sm (b.drop j) < sm (a.drop j)
    · have e1 := tlj_rd (l := a) (j := 0) (q := j) (by omega)
      have e2 := tlj_rd (l := b) (j := 0) (q := j) (by omega)
      rw [if_neg (by omega)] at e1 e2
      refine Ev.succ ?_
      simp only [U13.l1, show (j : Int) < (b.length : Int) by omega, if_true, show (0 : Int) ≤ (j : Int) by omega, tlj_len, hab, e1, e2, if_pos c]; exact Ev.now _
    · refine mon_step hb hab (by omega) c (ih (j + 1) (by omega) ⟨k, ?_, h2, h3⟩)
      by_cases e : k = j
      · subst e; exact absurd h3 c
      · omega
structure Rws (rs : List (List Int)) (n : Nat) : Prop where
  len : rs.length ≤ 21
  one : 1 ≤ rs.length
  rw : ∀ i (h : i < rs.length), Rw rs[i] ∧ (rs[i]).length = n
theorem rws_of {rs : List (List Int)} (h : mErr rs (rs.length : Int) = 0) : Rws rs (cat rs).toNat := by
  obtain ⟨h1, h2, h3, h4, h5, h6⟩ := mErr_ok h
  refine ⟨by omega, by omega, fun i hi => ?_⟩
  obtain ⟨a, b⟩ := h6 _ (List.getElem_mem hi)
  exact ⟨⟨by omega, by omega, rowScan_ok b⟩, by omega⟩
def UpAll (rs : List (List Int)) : Prop := ∀ q : Nat, (h : q + 1 < rs.length) → Up (rs[q]'(by omega)) rs[q + 1]
theorem mon_l0 {rs : List (List Int)} {n : Nat} (h : Rws rs n) : ∀ d q : Nat, q + 1 + d = rs.length →
    ((∀ p : Nat, q ≤ p → (hp : p + 1 < rs.length) → Up (rs[p]'(by omega)) rs[p + 1]) → Ev (fun k => U13.l0 k ((q + 1 : Nat) : Int) rs) true) ∧
    ((∃ p : Nat, q ≤ p ∧ ∃ hp : p + 1 < rs.length, ¬ Up (rs[p]'(by omega)) rs[p + 1]) → Ev (fun k => U13.l0 k ((q + 1 : Nat) : Int) rs) false) := by
  have hl := h.len
  intro d
  induction d with
  | zero =>
    intro q hq
    refine ⟨fun _ => ?_, fun ⟨p, h1, h2, _⟩ => absurd h2 (by omega)⟩
    refine Ev.succ ?_
    simp only [U13.l0, show ¬ (((q + 1 : Nat) : Int) < (rs.length : Int)) by omega, if_false]; exact Ev.now _
  | succ d ih =>
    intro q hq
    have hlt : q + 1 < rs.length := by omega
    have hlt0 : q < rs.length := by omega
    have hw : wrap64 (((q + 1 : Nat) : Int) - 1) = (q : Int) := by rw [w64 (by omega) (by omega)]; omega
    have hw2 : wrap64 (((q + 1 : Nat) : Int) + 1) = ((q + 1 + 1 : Nat) : Int) := by rw [w64 (by omega) (by omega)]; omega
    obtain ⟨ra, la⟩ := h.rw q hlt0
    obtain ⟨rb, lb⟩ := h.rw (q + 1) hlt
    have go : ∀ R, Ev (fun k => U13.l1 k ((q + 1 : Nat) : Int) (tlj rs[q] 0) (tlj rs[q + 1] 0) ((rs[q + 1]).length : Int) ((0 : Nat) : Int) rs) R → Ev (fun k => U13.l0 k ((q + 1 : Nat) : Int) rs) R := by
      intro R hR
      refine Ev.succ ?_
      simp only [U13.l0, show ((q + 1 : Nat) : Int) < (rs.length : Int) by omega, if_true, hw, show (0 : Int) ≤ (q : Int) by omega, show (q : Int) < (rs.length : Int) by omega, show (0 : Int) ≤ ((q + 1 : Nat) : Int) by omega, rdL_lt hlt0, rdL_lt hlt]
      refine Ev.bind (tails_ev ra) (Ev.bind (tails_ev rb) ?_)
      simp only [tlj_len]
      exact hR
    have ih' := ih (q + 1) (by omega)
    by_cases c : Up rs[q] rs[q + 1]
    · have key : ∀ R, Ev (fun k => U13.l0 k ((q + 1 + 1 : Nat) : Int) rs) R → Ev (fun k => U13.l0 k ((q + 1 : Nat) : Int) rs) R := fun R hR => go R (mon_l1g rb (by omega) c (by rw [hw2]; exact hR) (rs[q + 1]).length 0 (by omega))
      refine ⟨fun hall => key _ (ih'.1 (fun p h1 h2 => hall p (by omega) h2)), fun ⟨p, h1, h2, h3⟩ => key _ (ih'.2 ⟨p, ?_, h2, h3⟩)⟩
      by_cases e : p = q
      · subst e; exact absurd c h3
      · omega
    · obtain ⟨k, hk, hk2⟩ := not_up c
      exact ⟨fun hall => absurd (hall q (Nat.le_refl _) hlt) c, fun _ => go _ (mon_l1b rb (by omega) (rs[q + 1]).length 0 (by omega) ⟨k, Nat.zero_le _, hk, hk2⟩)⟩
theorem mono_true {rs : List (List Int)} (hb : ∀ r ∈ rs, r.length ≤ 4611686018427387904) (hv : mErr rs (rs.length : Int) = 0) (hu : UpAll rs) : Ev (fun k => U13.f k rs) true := by
  unfold U13.f
  refine Ev.bind (mvalid_ev hb _) ?_
  simp only [if_pos hv]
  have h := rws_of hv
  have h1 := h.one
  exact (mon_l0 h (rs.length - 1) 0 (by omega)).1 (fun p _ hp => hu p hp)
end Go.Proofs.YtfkmbjkmlfnapaaDoor.Pure
