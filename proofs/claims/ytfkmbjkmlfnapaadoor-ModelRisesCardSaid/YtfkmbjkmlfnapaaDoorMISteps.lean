import Derived.Test.YtfkmbjkmlfnapaaDoorMIQAx6
import Derived.Test.YtfkmbjkmlfnapaaDoorMIQAx7
import Derived.Test.YtfkmbjkmlfnapaaDoorMIQAx17
import Derived.Test.YtfkmbjkmlfnapaaDoorMIRamp
set_option linter.unusedVariables false
set_option linter.unusedSimpArgs false
namespace Go.Proofs.YtfkmbjkmlfnapaaDoor.Pure
open Go.RowKit Go.Proofs.YtfkmbjkmlfnapaaDoorW.PrintWords Go.Proofs.YtfkmbjkmlfnapaaDoorW.PrintLast Go.Proofs.YtfkmbjkmlfnapaaDoorW.PrintMore Go.Proofs.YtfkmbjkmlfnapaaDoor.QA
theorem set_mid {α : Type} (g : Nat → α) (z : α) (i d : Nat) : ((List.range i).map g ++ List.replicate (d + 1) z).set i (g i) = (List.range (i + 1)).map g ++ List.replicate d z := by
  rw [List.range_succ, List.map_append, List.map_singleton, List.replicate_succ, List.append_assoc]
  rw [List.set_append_right _ _ (by simp)]
  simp
def ab (t : Int) (ds : List Int) (s : Int) : Nat → Int
  | 0 => 1000
  | i + 1 => mx (mn (mn (riseN t (rd ds (i : Int)) s) (1000 - ((i : Int) + 1))) (ab t ds s i - 1)) ((ds.length : Int) - ((i : Int) + 1) + 1)
def rq (t : Int) (ds : List Int) (s : Int) (q : Nat) : Int := if q < ds.length then ab t ds s q - ab t ds s (q + 1) else ab t ds s ds.length
def stepRow (t : Int) (ds : List Int) (s : Int) : List Int := (List.range (ds.length + 1)).map (rq t ds s)
theorem ab_bd {t : Int} {ds : List Int} {s : Int} (h5 : ds.length ≤ 5) : ∀ i : Nat, i ≤ ds.length → 1 ≤ ab t ds s i ∧ ab t ds s i ≤ 1000 ∧ (ds.length : Int) - i + 1 ≤ ab t ds s i
  | 0, _ => by rw [ab]; omega
  | i + 1, h => by
    have := ab_bd h5 i (by omega) (t := t) (s := s)
    rw [ab]
    unfold mx mn
    repeat' split
    all_goals omega
def okIn (ds : List Int) : Bool := ds.all (fun d => decide (-1000 ≤ d ∧ d ≤ 1000))
theorem okIn_drop {ds : List Int} {i : Nat} (h : i < ds.length) : okIn (ds.drop i) = (decide (-1000 ≤ rd ds (i : Int) ∧ rd ds (i : Int) ≤ 1000) && okIn (ds.drop (i + 1))) := by
  unfold okIn; rw [drop_rd h, List.all_cons]
theorem okIn_at {ds : List Int} (h : okIn ds = true) {i : Nat} (hi : i < ds.length) : -1000 ≤ rd ds (i : Int) ∧ rd ds (i : Int) ≤ 1000 := by
  have := List.all_eq_true.1 h _ (List.getElem_mem hi)
  rw [decide_eq_true_eq] at this
  rw [rd_lt hi]; exact this
def stepsN (ps ws ds : List Int) (s : Int) : List (List Int) × Int :=
  if gErr ps ws = 0 then (if (1 ≤ ds.length ∧ ds.length ≤ 5) ∧ (0 ≤ s ∧ s ≤ 2000) then (if okIn ds = true then (if rise ds = true then (ps.map (fun t => stepRow t ds s), 0) else ([], 23)) else ([], 3)) else ([], 3)) else ([], gErr ps ws)
theorem srow_l0 {t : Int} {ds : List Int} {s : Int} (ht1 : -1000 ≤ t) (ht2 : t ≤ 1000) (hd : okIn ds = true) (hs : 0 ≤ s ∧ s ≤ 2000) (h5 : ds.length ≤ 5) : ∀ e i : Nat, i + e = ds.length →
    Ev (fun k => U20.l0 k t ds s (ds.length : Int) ((List.range i).map (rq t ds s) ++ List.replicate (e + 1) 0) (ab t ds s i) ((i : Int) + 1)) (stepRow t ds s) := by
  intro e
  induction e with
  | zero =>
    intro i hi
    have hlen : (((List.range i).map (rq t ds s) ++ List.replicate (0 + 1) 0).length : Int) = (i : Int) + 1 := by simp
    refine Ev.succ ?_
    simp only [U20.l0, show ¬ ((i : Int) + 1 ≤ (ds.length : Int)) by omega, if_false, show (0 : Int) ≤ (ds.length : Int) by omega, if_true, hlen, show (ds.length : Int) < (i : Int) + 1 by omega, Int.toNat_natCast]
    refine evq (Ev.now _) ?_
    have hi' : ds.length = i := by omega
    have := set_mid (rq t ds s) 0 i 0
    have hq : rq t ds s i = ab t ds s i := by unfold rq; rw [if_neg (by omega), hi']
    rw [hq] at this
    rw [hi', this, List.replicate_zero, List.append_nil, stepRow, hi']
  | succ e ih =>
    intro i hi
    have hlt : i < ds.length := by omega
    have hlen : (((List.range i).map (rq t ds s) ++ List.replicate (e + 1 + 1) 0).length : Int) = (ds.length : Int) + 1 := by simp; omega
    have hw : wrap64 ((i : Int) + 1 - 1) = (i : Int) := by rw [w64 (by omega) (by omega)]; omega
    have hw2 : wrap64 ((i : Int) + 1 + 1) = (i : Int) + 1 + 1 := by rw [w64 (by omega) (by omega)]
    have hdi := okIn_at hd hlt
    have b0 := ab_bd (t := t) (s := s) h5 i (by omega)
    have b1 := ab_bd (t := t) (s := s) h5 (i + 1) (by omega)
    have e1 : mx (mn (mn (riseN t (rd ds (i : Int)) s) (wrap64 (1000 - ((i : Int) + 1)))) (wrap64 (ab t ds s i - 1))) (wrap64 ((wrap64 ((ds.length : Int) - ((i : Int) + 1))) + 1)) = ab t ds s (i + 1) := by
      rw [w64 (x := 1000 - ((i : Int) + 1)) (by omega) (by omega), w64 (x := ab t ds s i - 1) (by omega) (by omega), w64 (x := (ds.length : Int) - ((i : Int) + 1)) (by omega) (by omega), w64 (x := (ds.length : Int) - ((i : Int) + 1) + 1) (by omega) (by omega), ab]
    have hq : rq t ds s i = ab t ds s i - ab t ds s (i + 1) := by unfold rq; rw [if_pos hlt]
    have ht := ih (i + 1) (by omega)
    have hm := set_mid (rq t ds s) 0 i (e + 1)
    rw [hq] at hm
    rw [← hm, show ((i + 1 : Nat) : Int) + 1 = (i : Int) + 1 + 1 by omega] at ht
    refine Ev.succ ?_
    simp only [U20.l0, show (i : Int) + 1 ≤ (ds.length : Int) by omega, if_true, hw, show (0 : Int) ≤ (i : Int) by omega, show (i : Int) < (ds.length : Int) by omega, rise_eq ht1 ht2 hdi hs, Option.bind_some, hlen, show (i : Int) < (ds.length : Int) + 1 by omega, e1, hw2, Int.toNat_natCast]
    rw [w64 (x := ab t ds s i - ab t ds s (i + 1)) (by omega) (by omega)]
    exact ht
theorem srow_ev {t : Int} {ds : List Int} {s : Int} (ht1 : -1000 ≤ t) (ht2 : t ≤ 1000) (hd : okIn ds = true) (hs : 0 ≤ s ∧ s ≤ 2000) (h5 : ds.length ≤ 5) : Ev (fun k => U20.f k t ds s) (stepRow t ds s) := by
  have hw : wrap64 ((ds.length : Int) + 1) = ((ds.length + 1 : Nat) : Int) := by rw [w64 (by omega) (by omega)]; omega
  unfold U20.f
  simp only [hw, show (0 : Int) ≤ ((ds.length + 1 : Nat) : Int) by omega, if_true, Int.toNat_natCast, show ds.length + 1 ≤ 35184372088832 by omega]
  exact srow_l0 ht1 ht2 hd hs h5 ds.length 0 (by omega)
theorem stp_l2 {ps ws ds : List Int} {s : Int} (g : gErr ps ws = 0) (hd : okIn ds = true) (hs : 0 ≤ s ∧ s ≤ 2000) (h5 : ds.length ≤ 5) : ∀ e i : Nat, i + e = ps.length →
    Ev (fun k => U16.l2 k ds s ps (ps.length : Int) (i : Int) ((ps.take i).map (fun t => stepRow t ds s))) (ps.map (fun t => stepRow t ds s), 0) := by
  have hl := (gErr_ok g).2.1
  intro e
  induction e with
  | zero =>
    intro i hi
    refine Ev.succ ?_
    simp only [U16.l2, show ¬ ((i : Int) < (ps.length : Int)) by omega, if_false]
    exact evq (Ev.now _) (by rw [List.take_of_length_le (by omega)])
  | succ e ih =>
    intro i hi
    have hlt : i < ps.length := by omega
    have hw : wrap64 ((i : Int) + 1) = ((i + 1 : Nat) : Int) := by rw [w64] <;> omega
    have hp := pts g hlt
    have hlen : ((ps.take i).map (fun t => stepRow t ds s)).length < 5864062014805 := by rw [List.length_map, List.length_take]; omega
    have ht := ih (i + 1) (by omega)
    rw [map_take _ hlt, ← rd_lt hlt] at ht
    refine Ev.succ ?_
    simp only [U16.l2, show (i : Int) < (ps.length : Int) by omega, if_true, show (0 : Int) ≤ (i : Int) by omega, hw, hlen]
    exact Ev.bind (srow_ev hp.1 hp.2 hd hs h5) ht
theorem stp_l1 {ps ws ds : List Int} {s : Int} (h5 : ds.length ≤ 5) {Y : List (List Int) × Int} (hY : Ev (fun k => U16.l2 k ds s ps (ps.length : Int) 0 ([] : List (List Int))) Y) : ∀ e i : Nat, i + 1 + e = ds.length →
    Ev (fun k => U16.l1 k ds s ((i + 1 : Nat) : Int) ps ws) (if rise (ds.drop i) = true then Y else ([], 23)) := by
  intro e
  induction e with
  | zero =>
    intro i hi
    refine Ev.succ ?_
    simp only [U16.l1, show ¬ (((i + 1 : Nat) : Int) < (ds.length : Int)) by omega, if_false]
    rw [drop_rd (show i < ds.length by omega), List.drop_eq_nil_of_le (by omega), if_pos (by simp [rise])]
    exact hY
  | succ e ih =>
    intro i hi
    have hw : wrap64 (((i + 1 : Nat) : Int) + 1) = ((i + 1 + 1 : Nat) : Int) := by rw [w64 (by omega) (by omega)]; omega
    have hw2 : wrap64 (((i + 1 : Nat) : Int) - 1) = (i : Int) := by rw [w64 (by omega) (by omega)]; omega
    have er : rise (ds.drop i) = (decide (rd ds (i : Int) < rd ds ((i + 1 : Nat) : Int)) && rise (ds.drop (i + 1))) := by
      rw [drop_rd (show i < ds.length by omega), drop_rd (show i + 1 < ds.length by omega), rise]
    refine Ev.succ ?_
    simp only [U16.l1, show ((i + 1 : Nat) : Int) < (ds.length : Int) by omega, if_true, show (0 : Int) ≤ ((i + 1 : Nat) : Int) by omega, hw, hw2, show (0 : Int) ≤ (i : Int) by omega, show (i : Int) < (ds.length : Int) by omega]
    rw [er]
    by_cases h : rd ds ((i + 1 : Nat) : Int) ≤ rd ds (i : Int)
    · simp only [if_pos h]; rw [decide_eq_false (by omega), Bool.false_and, if_neg (by simp)]; exact Ev.now _
    · simp only [if_neg h]; rw [decide_eq_true (by omega), Bool.true_and]; exact ih (i + 1) (by omega)
theorem stp_l0 {ps ws ds : List Int} {s : Int} (h5 : ds.length ≤ 5) {Y : List (List Int) × Int} (hY : Ev (fun k => U16.l1 k ds s 1 ps ws) Y) : ∀ e i : Nat, i + e = ds.length →
    Ev (fun k => U16.l0 k ds s ds (ds.length : Int) (i : Int) ps ws) (if okIn (ds.drop i) = true then Y else ([], 3)) := by
  intro e
  induction e with
  | zero =>
    intro i hi
    refine Ev.succ ?_
    simp only [U16.l0, show ¬ ((i : Int) < (ds.length : Int)) by omega, if_false]
    rw [List.drop_eq_nil_of_le (by omega), if_pos (by simp [okIn])]
    exact hY
  | succ e ih =>
    intro i hi
    have hw : wrap64 ((i : Int) + 1) = ((i + 1 : Nat) : Int) := by rw [w64] <;> omega
    refine Ev.succ ?_
    simp only [U16.l0, show (i : Int) < (ds.length : Int) by omega, if_true, show (0 : Int) ≤ (i : Int) by omega, hw, mw, Option.bind_some]
    rw [okIn_drop (show i < ds.length by omega)]
    by_cases h : -1000 ≤ rd ds (i : Int) ∧ rd ds (i : Int) ≤ 1000
    · simp only [decide_eq_true h, if_true, Bool.true_and]; exact ih (i + 1) (by omega)
    · simp only [decide_eq_false h, Bool.false_eq_true, if_false, Bool.false_and]; exact Ev.now _
theorem steps_ev (ps ws ds : List Int) (s : Int) : Ev (fun k => U16.f k ps ws ds s) (stepsN ps ws ds s) := by
  unfold U16.f stepsN
  refine Ev.bind (grid_ev ps ws) ?_
  by_cases g : gErr ps ws = 0
  · simp only [if_pos g, mw, Option.bind_some]
    have jt : ∀ b : Bool, b = true → Ev (fun k => U16.j0 k ds s b ps ws) ([], 3) := by
      intro b hb
      refine Ev.succ ?_
      simp only [U16.j0, hb, if_true]; exact Ev.now _
    by_cases h1 : 1 ≤ ds.length ∧ ds.length ≤ 5
    · simp only [decide_eq_true (show (1 : Int) ≤ (ds.length : Int) ∧ (ds.length : Int) ≤ 5 by omega), if_true]
      by_cases hs : 0 ≤ s ∧ s ≤ 2000
      · rw [decide_eq_true hs, if_pos ⟨h1, hs⟩]
        refine Ev.succ ?_
        simp only [U16.j0, Bool.not_true, Bool.false_eq_true, if_false]
        by_cases hd : okIn ds = true
        · have l2 := stp_l2 g hd hs h1.2 ps.length 0 (by omega)
          have l1 := stp_l1 (ws := ws) h1.2 (Y := (ps.map (fun t => stepRow t ds s), 0)) l2 (ds.length - 1) 0 (by omega)
          exact stp_l0 h1.2 l1 ds.length 0 (by omega)
        · rw [if_neg hd]
          have key : ∀ e i : Nat, i + e = ds.length → okIn (ds.drop i) = false → Ev (fun k => U16.l0 k ds s ds (ds.length : Int) (i : Int) ps ws) ([], 3) := by
            intro e
            induction e with
            | zero => intro i hi h; rw [List.drop_eq_nil_of_le (by omega)] at h; simp [okIn] at h
            | succ e ih =>
              intro i hi h
              have hw : wrap64 ((i : Int) + 1) = ((i + 1 : Nat) : Int) := by rw [w64] <;> omega
              rw [okIn_drop (show i < ds.length by omega)] at h
              refine Ev.succ ?_
              simp only [U16.l0, show (i : Int) < (ds.length : Int) by omega, if_true, show (0 : Int) ≤ (i : Int) by omega, hw, mw, Option.bind_some]
              by_cases c : -1000 ≤ rd ds (i : Int) ∧ rd ds (i : Int) ≤ 1000
              · simp only [decide_eq_true c, if_true]; rw [decide_eq_true c, Bool.true_and] at h; exact ih (i + 1) (by omega) h
              · simp only [decide_eq_false c, Bool.false_eq_true, if_false]; exact Ev.now _
          exact key ds.length 0 (by omega) (by rw [List.drop_zero]; exact Bool.eq_false_iff.2 hd)
      · rw [decide_eq_false hs, if_neg (fun h => hs h.2)]; exact jt _ rfl
    · simp only [decide_eq_false (show ¬ ((1 : Int) ≤ (ds.length : Int) ∧ (ds.length : Int) ≤ 5) by omega), Bool.false_eq_true, if_false]
      rw [if_neg (fun h => h1 h.1)]; exact jt _ rfl
  · simp only [if_neg g]; exact Ev.now _
theorem stepsN_len (ps ws ds : List Int) (s : Int) : (stepsN ps ws ds s).1.length ≤ 21 ∧ ∀ r ∈ (stepsN ps ws ds s).1, r.length ≤ 4611686018427387904 := by
  unfold stepsN
  by_cases g : gErr ps ws = 0
  · rw [if_pos g]
    by_cases h : (1 ≤ ds.length ∧ ds.length ≤ 5) ∧ (0 ≤ s ∧ s ≤ 2000)
    · rw [if_pos h]
      by_cases hd : okIn ds = true
      · rw [if_pos hd]
        by_cases hr : rise ds = true
        · rw [if_pos hr]
          refine ⟨by show (ps.map _).length ≤ 21; rw [List.length_map]; exact (gErr_ok g).2.1, fun r hr => ?_⟩
          obtain ⟨t, _, rfl⟩ := List.mem_map.1 hr
          rw [stepRow, List.length_map, List.length_range]; omega
        · rw [if_neg hr]; exact ⟨by simp, fun r hr => by cases hr⟩
      · rw [if_neg hd]; exact ⟨by simp, fun r hr => by cases hr⟩
    · rw [if_neg h]; exact ⟨by simp, fun r hr => by cases hr⟩
  · rw [if_neg g]; exact ⟨by simp, fun r hr => by cases hr⟩
end Go.Proofs.YtfkmbjkmlfnapaaDoor.Pure
