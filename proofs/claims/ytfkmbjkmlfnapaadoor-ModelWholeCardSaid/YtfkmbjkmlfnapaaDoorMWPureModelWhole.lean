import Derived.Test.YtfkmbjkmlfnapaaDoorMWQAx12
import Derived.Test.YtfkmbjkmlfnapaaDoorMWQAx27
import Derived.Test.YtfkmbjkmlfnapaaDoorMWProb
import Derived.Test.YtfkmbjkmlfnapaaDoorMWAw
import Derived.Test.YtfkmbjkmlfnapaaDoorMWArgA
set_option linter.unusedVariables false
set_option linter.unusedSimpArgs false
namespace Go.Proofs.YtfkmbjkmlfnapaaDoor.Pure
open Go.RowKit Go.Proofs.YtfkmbjkmlfnapaaDoorW.PrintWords Go.Proofs.YtfkmbjkmlfnapaaDoorW.PrintLast Go.Proofs.YtfkmbjkmlfnapaaDoorW.PrintMore Go.Proofs.YtfkmbjkmlfnapaaDoor.QA
theorem print1_at : U42.f 60 false [1] [1] = some (⟨#[49]⟩ : ByteArray) := by kernel_rfl
theorem print1_ev : Ev (fun k => U42.f k false [1] [1]) (⟨#[49]⟩ : ByteArray) := ⟨60, fun k hk => vF (fun j => U42.mono _ _ _ j) hk print1_at⟩
theorem dot_ge {lo : Int} : ∀ (sc r : List Int), sc.length = r.length → okR r → (∀ s ∈ sc, lo ≤ s) → lo * r.sum ≤ dot sc r
  | [], [], _, _, _ => by rw [dot_nil, List.sum_nil, Int.mul_zero]; exact Int.le_refl 0
  | [], _ :: _, h, _, _ => by simp at h
  | _ :: _, [], h, _, _ => by simp at h
  | s :: ss, w :: ws, h, hr, hs => by
    have hw := hr w (List.mem_cons_self ..)
    have ih := dot_ge ss ws (by simpa using h) (fun x hx => hr x (List.mem_cons_of_mem _ hx)) (fun x hx => hs x (List.mem_cons_of_mem _ hx))
    have := Int.mul_le_mul_of_nonneg_right (hs s (List.mem_cons_self ..)) (show 0 ≤ w by omega)
    rw [dot, List.sum_cons, Int.mul_add]; omega
theorem dot_le {hi : Int} : ∀ (sc r : List Int), sc.length = r.length → okR r → (∀ s ∈ sc, s ≤ hi) → dot sc r ≤ hi * r.sum
  | [], [], _, _, _ => by rw [dot_nil, List.sum_nil, Int.mul_zero]; exact Int.le_refl 0
  | [], _ :: _, h, _, _ => by simp at h
  | _ :: _, [], h, _, _ => by simp at h
  | s :: ss, w :: ws, h, hr, hs => by
    have hw := hr w (List.mem_cons_self ..)
    have ih := dot_le ss ws (by simpa using h) (fun x hx => hr x (List.mem_cons_of_mem _ hx)) (fun x hx => hs x (List.mem_cons_of_mem _ hx))
    have := Int.mul_le_mul_of_nonneg_right (hs s (List.mem_cons_self ..)) (show 0 ≤ w by omega)
    rw [dot, List.sum_cons, Int.mul_add]; omega
theorem scOk_mem : ∀ {sc : List Int}, scOk sc = true → ∀ s ∈ sc, -1000000 ≤ s ∧ s ≤ 1000000
  | [], _, _, h => by cases h
  | a :: sc, h, s, hs => by
    rw [scOk, Bool.and_eq_true, decide_eq_true_eq] at h
    rcases List.mem_cons.1 hs with rfl | hs
    · exact h.1
    · exact scOk_mem h.2 s hs
theorem whole_end {sc r : List Int} (hl : sc.length = r.length) (hr : okR r) (hsum : r.sum = 1000) (h6 : sc.length ≤ 6) (hk : scOk sc = true) : ∀ (d i : Nat) (lo hi : Int), i + d = sc.length → -1000000 ≤ lo → lo ≤ 1000000 → -1000000 ≤ hi → hi ≤ 1000000 → (∀ m, m < i → lo ≤ rd sc (m : Int) ∧ rd sc (m : Int) ≤ hi) →
    Ev (fun k => U0.l1 k sc lo hi (i : Int) (rat (dot sc r) 1000).1 (rat (dot sc r) 1000).2.1 (rat (dot sc r) 1000).2.2) true := by
  intro d
  induction d with
  | zero =>
    intro i lo hi he h0 h1 h2 h3 hm
    have hmem : ∀ s ∈ sc, lo ≤ s ∧ s ≤ hi := fun s hs => by
      obtain ⟨n, hn, rfl⟩ := List.getElem_of_mem hs
      have := hm n (by omega)
      rwa [rd_lt hn] at this
    have g1 := dot_ge sc r hl hr (fun s hs => (hmem s hs).1)
    have g2 := dot_le sc r hl hr (fun s hs => (hmem s hs).2)
    rw [hsum] at g1 g2
    have l1 : (toL lo.natAbs).length ≤ 2 := len_two (by omega)
    have l2 : (toL hi.natAbs).length ≤ 2 := len_two (by omega)
    have l3 : (toL (dot sc r).natAbs).length ≤ 2 := len_two (by omega)
    have l4 := len_one (a := 1000) (by omega)
    have l5 := len_one (a := 1) (by omega)
    refine Ev.succ ?_
    simp only [U0.l1, show ¬ ((i : Int) < (sc.length : Int)) by omega, if_false]
    refine Ev.bind (qOf_ev (a := lo) (b := 1) (by omega) (by omega) (by omega) (by omega)) (Ev.bind (qOf_ev (a := hi) (b := 1) (by omega) (by omega) (by omega) (by omega)) ?_)
    refine Ev.bind (ratCmp_ev (x := lo) (y := dot sc r) (d := 1) (e := 1000) (by omega) (by omega) (by omega) (by omega) (by omega) (by omega)) ?_
    have c1 : cmpI (lo * ((1000 : Nat) : Int)) (dot sc r * ((1 : Nat) : Int)) ≤ 0 := by
      unfold cmpI
      by_cases h : lo * ((1000 : Nat) : Int) < dot sc r * ((1 : Nat) : Int)
      · rw [if_pos h]; omega
      · rw [if_neg h, if_neg (by omega)]; omega
    simp only [c1, if_true]
    refine Ev.bind (ratCmp_ev (x := dot sc r) (y := hi) (d := 1000) (e := 1) (by omega) (by omega) (by omega) (by omega) (by omega) (by omega)) ?_
    have c2 : cmpI (dot sc r * ((1 : Nat) : Int)) (hi * ((1000 : Nat) : Int)) ≤ 0 := by
      unfold cmpI
      by_cases h : dot sc r * ((1 : Nat) : Int) < hi * ((1000 : Nat) : Int)
      · rw [if_pos h]; omega
      · rw [if_neg h, if_neg (by omega)]; omega
    simp only [c2, if_true]
    exact Ev.mapb awake_ev rfl
  | succ d ih =>
    intro i lo hi he h0 h1 h2 h3 hm
    have hlt : i < sc.length := by omega
    have hw : wrap64 ((i : Int) + 1) = ((i + 1 : Nat) : Int) := by rw [w64] <;> omega
    have hx := scOk_mem hk _ (List.getElem_mem hlt)
    rw [← rd_lt hlt] at hx
    have m1 : mn lo (rd sc (i : Int)) ≤ lo ∧ mn lo (rd sc (i : Int)) ≤ rd sc (i : Int) ∧ -1000000 ≤ mn lo (rd sc (i : Int)) := by unfold mn; split <;> omega
    have m2 : hi ≤ mx hi (rd sc (i : Int)) ∧ rd sc (i : Int) ≤ mx hi (rd sc (i : Int)) ∧ mx hi (rd sc (i : Int)) ≤ 1000000 := by unfold mx; split <;> omega
    refine Ev.succ ?_
    simp only [U0.l1, show (i : Int) < (sc.length : Int) by omega, show (0 : Int) ≤ (i : Int) by omega, if_true, hw]
    refine ih (i + 1) _ _ (by omega) (by omega) (by omega) (by omega) (by omega) (fun m hlm => ?_)
    by_cases e : m = i
    · subst e; omega
    · have := hm m (by omega); omega
theorem whole_b {s x t : Int} {i : Nat} (hs : s + (x + t) = 1000) (h0 : 0 ≤ s) (h1 : s ≤ 1000 * (i : Int)) (hx : 1 ≤ x ∧ x ≤ 1000) (h6 : i ≤ 6) :
    -1000000000000 ≤ s ∧ s ≤ 1000000000000 ∧ -1000000000000 ≤ x ∧ x ≤ 1000000000000 ∧ s + x + t = 1000 ∧ 0 ≤ s + x ∧ s + x ≤ 1000 * ((i + 1 : Nat) : Int) := by omega
theorem whole_l0 {rs : List (List Int)} (hb : ∀ r ∈ rs, r.length ≤ 4611686018427387904) (g : mErr rs (rs.length : Int) = 0) {q : Nat} (hq : q < rs.length) (h5 : q ≤ 255) (sc : List Int) : ∀ (d i : Nat) (s : Int), i + d = (rs[q]).length → s + ((rs[q]).drop i).sum = 1000 → 0 ≤ s → s ≤ 1000 * (i : Int) →
    Ev (fun k => U0.l0 k (q : Int) sc (i : Int) rs (rat s 1000).1 (rat s 1000).2.1 (rat s 1000).2.2) true := by
  obtain ⟨f1, f2, f3, f4, f5⟩ := row_facts g hq
  have hwq : wrap64 ((q : Int)) = (q : Int) := by rw [w64] <;> omega
  intro d
  induction d with
  | zero =>
    intro i s hi hs h0 h1
    rw [List.drop_eq_nil_of_le (by omega), List.sum_nil] at hs
    have e : s = 1000 := by omega
    subst e
    refine Ev.succ ?_
    simp only [U0.l0, cat_eq, Option.bind_some, show ¬ ((i : Int) < cat rs) by omega, if_false, rat1]
    refine Ev.bind print1_ev ?_
    simp only [show (⟨#[49]⟩ : ByteArray).toList = ([49] : List UInt8) from by kernel_rfl, if_true, hwq]
    refine Ev.bind (exp_ev hb g hq sc) ?_
    unfold expN
    by_cases hl : sc.length = (rs[q]).length
    · rw [if_pos hl]
      by_cases hk : scOk sc = true
      · rw [if_pos hk]
        have hx := scOk_mem hk _ (List.getElem_mem (show 0 < sc.length by omega))
        rw [← rd_lt (show 0 < sc.length by omega)] at hx
        simp only [quad, if_true, show (0 : Int) < (sc.length : Int) by omega]
        exact whole_end hl f4 f5 (by omega) hk sc.length 0 _ _ (by omega) hx.1 hx.2 hx.1 hx.2 (fun m h => by omega)
      · rw [if_neg hk]
        simp only [show ¬ ((3 : Int) = 0) by omega, if_false]
        exact Ev.mapb awake_ev rfl
    · rw [if_neg hl]
      simp only [show ¬ ((1 : Int) = 0) by omega, if_false]
      exact Ev.mapb awake_ev rfl
  | succ d ih =>
    intro i s hi hs h0 h1
    have hlt : i < (rs[q]).length := by omega
    have hw : wrap64 ((i : Int) + 1) = ((i + 1 : Nat) : Int) := by rw [w64] <;> omega
    rw [drop_rd hlt, List.sum_cons] at hs
    have hx := f4 _ (List.getElem_mem hlt)
    rw [← rd_lt hlt] at hx
    have hcat : (i : Int) < cat rs := by rw [← f1]; exact Int.ofNat_lt.2 hlt
    have hB := whole_b hs h0 h1 hx (Nat.le_trans (Nat.le_of_lt hlt) f2)
    have hS : 1 ≤ rd rs[q] (i : Int) ∧ rd rs[q] (i : Int) ≤ 1000000000000 := ⟨hx.1, Int.le_trans hx.2 (by decide)⟩
    refine Ev.succ ?_
    simp only [U0.l0, cat_eq, Option.bind_some, hcat, if_true, hwq]
    refine Ev.bind (prob_ev hb g hq hlt) ?_
    simp only [quad, if_true]
    refine Ev.bind (sign1000 (x := rd rs[q] (i : Int)) hS.1 hS.2) ?_
    simp only [show ¬ ((1 : Int) ≤ 0) by omega, if_false, hw]
    refine Ev.bind (add1000 (x := s) (y := rd rs[q] (i : Int)) hB.1 hB.2.1 hB.2.2.1 hB.2.2.2.1) ?_
    exact ih (i + 1) _ (by rw [← hi]; ac_rfl) hB.2.2.2.2.1 hB.2.2.2.2.2.1 hB.2.2.2.2.2.2
theorem wf_u8 {n : Int} (h : (Lit.int .u8 n).wf = true) : 0 ≤ n ∧ n ≤ 255 := by
  rw [Lit.wf, Bool.and_eq_true, decide_eq_true_eq, decide_eq_true_eq] at h
  exact h
theorem ModelWhole (l0_0 : (List (List Int))) (a1 : Int) (l2 : (List Int)) (h0 : wf24 l0_0) (h1 : (Lit.int .u8 a1).wf = true) (h2 : wf31 l2) : ∃ k, U0.f k l0_0 a1 l2 = some true := by
  have hb : ∀ r ∈ l0_0, r.length ≤ 4611686018427387904 := fun r hr => by have := (h0.2 r hr).1; omega
  have ha := wf_u8 h1
  refine Ev.rounds ?_
  unfold U0.f
  refine Ev.bind (mvalid_ev hb _) ?_
  by_cases g : mErr l0_0 (l0_0.length : Int) = 0
  · simp only [if_pos g]
    have hwq : wrap64 a1 = a1 := by rw [w64] <;> omega
    simp only [hwq]
    refine Ev.succ ?_
    by_cases hq : a1 ≥ (l0_0.length : Int)
    · simp only [U0.j0, decide_eq_true hq, if_true]
      exact Ev.mapb awake_ev rfl
    · obtain ⟨q, rfl⟩ : ∃ q : Nat, a1 = (q : Int) := ⟨a1.toNat, by omega⟩
      have hq' : q < l0_0.length := by omega
      simp only [U0.j0, decide_eq_false hq, Bool.false_eq_true, if_false]
      obtain ⟨f1, f2, f3, f4, f5⟩ := row_facts g hq'
      have := whole_l0 hb g hq' (by omega) l2 (l0_0[q]).length 0 0 (by omega) (by rw [List.drop_zero, f5]; omega) (by omega) (by omega)
      rw [rat0_1000] at this
      exact this
  · simp only [if_neg g]
    refine Ev.succ ?_
    simp only [U0.j0, if_true]
    exact Ev.mapb awake_ev rfl
end Go.Proofs.YtfkmbjkmlfnapaaDoor.Pure
