import Derived.Test.YtfkmbjkmlfnapaaDoorMSQAx6
import Derived.Test.YtfkmbjkmlfnapaaDoorMSQAx7
import Derived.Test.YtfkmbjkmlfnapaaDoorMSQAx17
import Derived.Test.YtfkmbjkmlfnapaaDoorMSRamp
set_option linter.unusedVariables false
set_option linter.unusedSimpArgs false
namespace Go.Proofs.YtfkmbjkmlfnapaaDoor.Pure
open Go.RowKit Go.Proofs.YtfkmbjkmlfnapaaDoorW.PrintWords Go.Proofs.YtfkmbjkmlfnapaaDoorW.PrintLast Go.Proofs.YtfkmbjkmlfnapaaDoorW.PrintMore Go.Proofs.YtfkmbjkmlfnapaaDoor.QA
theorem set_mid {α : Type} (g : Nat → α) (z : α) (i d : Nat) : ((List.range i).map g ++ List.replicate (d + 1) z).set i (g i) = (List.range (i + 1)).map g ++ List.replicate d z := by
  rw [List.range_succ, List.map_append, List.map_singleton, List.replicate_succ, List.append_assoc]
  rw [List.set_append_right _ _ (by simp)]
  simp
def ab (t : Int) (ds : List Int) (s : Int) : Nat → Int
  | 0 => 1000
  | i + 1 => mx (mn (mn (riseN t (rd ds (i : Int)) s) (1000 - ((i : Int) + 1))) (ab t ds s i - 1)) ((ds.length : Int) - ((i : Int) + 1) + 1)
def rq (t : Int) (ds : List Int) (s : Int) (q : Nat) : Int := if q < ds.length then ab t ds s q - ab t ds s (q + 1) else ab t ds s ds.length
def stepRow (t : Int) (ds : List Int) (s : Int) : List Int := (List.range (ds.length + 1)).map (rq t ds s)
theorem ab_bd {t : Int} {ds : List Int} {s : Int} (h5 : ds.length ≤ 5) : ∀ i : Nat, i ≤ ds.length → 1 ≤ ab t ds s i ∧ ab t ds s i ≤ 1000 ∧ (ds.length : Int) - i + 1 ≤ ab t ds s i
  | 0, _ => by rw [ab]; omega
  | i + 1, h => by
    have := ab_bd h5 i (by omega) (t := t) (s := s)
    rw [ab]
    unfold mx mn
    repeat' split
    all_goals omega
def okIn (ds : List Int) : Bool := ds.all (fun d => decide (-1000 ≤ d ∧ d ≤ 1000))
theorem cut_eq (r z u v : Int) : mx v (mn r (mn z u)) = mx (mn (mn r z) u) v := by
  unfold mx mn
  repeat' split
  all_goals omega
theorem row_eq {n j u f : Int} (hn : n ≤ 5) (h0 : 0 ≤ j) (hj : j < n) (hu : 1 ≤ u ∧ u ≤ 1000) (hf : -4000001 ≤ f ∧ f ≤ 4000000) : mx (wrap64 ((wrap64 (n - (j + 1))) + 1)) (mn (wrap64 (500 + f)) (mn (wrap64 (1000 - (j + 1))) (wrap64 (u - 1)))) = mx (mn (mn (500 + f) (1000 - (j + 1))) (u - 1)) (n - (j + 1) + 1) := by
  rw [w64 (x := 1000 - (j + 1)) (by omega) (by omega), w64 (x := u - 1) (by omega) (by omega), w64 (x := n - (j + 1)) (by omega) (by omega), w64 (x := n - (j + 1) + 1) (by omega) (by omega), w64 (x := 500 + f) (by omega) (by omega)]
  exact cut_eq _ _ _ _
theorem okIn_drop {ds : List Int} {i : Nat} (h : i < ds.length) : okIn (ds.drop i) = (decide (-1000 ≤ rd ds (i : Int) ∧ rd ds (i : Int) ≤ 1000) && okIn (ds.drop (i + 1))) := by
  unfold okIn; rw [drop_rd h, List.all_cons]
theorem okIn_at {ds : List Int} (h : okIn ds = true) {i : Nat} (hi : i < ds.length) : -1000 ≤ rd ds (i : Int) ∧ rd ds (i : Int) ≤ 1000 := by
  have := List.all_eq_true.1 h _ (List.getElem_mem hi)
  rw [decide_eq_true_eq] at this
  rw [rd_lt hi]; exact this
def stepsN (ps ws ds : List Int) (s : Int) : List (List Int) × Int :=
  if gErr ps ws = 0 then (if (1 ≤ ds.length ∧ ds.length ≤ 5) ∧ (0 ≤ s ∧ s ≤ 2000) then (if okIn ds = true then (if rise ds = true then (ps.map (fun t => stepRow t ds s), 0) else ([], 23)) else ([], 3)) else ([], 3)) else ([], gErr ps ws)
theorem srow_l0 {t : Int} {ds : List Int} {s : Int} (ht1 : -1000 ≤ t) (ht2 : t ≤ 1000) (hd : okIn ds = true) (hs : 0 ≤ s ∧ s ≤ 2000) (h5 : ds.length ≤ 5) : ∀ e i : Nat, i + e = ds.length →
    Ev (fun k => U24.l0 k t ds s (ds.length : Int) ((List.range i).map (rq t ds s) ++ List.replicate (e + 1) 0) (ab t ds s i) ((i : Int) + 1)) (stepRow t ds s) := by
  intro e
  induction e with
  | zero =>
    intro i hi
    have hlen : (((List.range i).map (rq t ds s) ++ List.replicate (0 + 1) 0).length : Int) = (i : Int) + 1 := by simp
    refine Ev.succ ?_
    simp only [U24.l0, show ¬ ((i : Int) + 1 ≤ (ds.length : Int)) by omega, if_false, show (0 : Int) ≤ (ds.length : Int) by omega, if_true, hlen, show (ds.length : Int) < (i : Int) + 1 by omega, Int.toNat_natCast]
    refine evq (Ev.now _) ?_
    have hi' : ds.length = i := by omega
    have := set_mid (rq t ds s) 0 i 0
    have hq : rq t ds s i = ab t ds s i := by unfold rq; rw [if_neg (by omega), hi']
    rw [hq] at this
    rw [hi', this, List.replicate_zero, List.append_nil, stepRow, hi']
  | succ e ih =>
    intro i hi
    have hlt : i < ds.length := by omega
    have hlen : (((List.range i).map (rq t ds s) ++ List.replicate (e + 1 + 1) 0).length : Int) = (ds.length : Int) + 1 := by simp; omega
    have hw : wrap64 ((i : Int) + 1 - 1) = (i : Int) := by rw [w64 (by omega) (by omega)]; omega
    have hw2 : wrap64 ((i : Int) + 1 + 1) = (i : Int) + 1 + 1 := by rw [w64 (by omega) (by omega)]
    have hdi := okIn_at hd hlt
    have b0 := ab_bd (t := t) (s := s) h5 i (by omega)
    have b1 := ab_bd (t := t) (s := s) h5 (i + 1) (by omega)
    have e1 : mx (mn (mn (riseN t (rd ds (i : Int)) s) (wrap64 (1000 - ((i : Int) + 1)))) (wrap64 (ab t ds s i - 1))) (wrap64 ((wrap64 ((ds.length : Int) - ((i : Int) + 1))) + 1)) = ab t ds s (i + 1) := by
      rw [w64 (x := 1000 - ((i : Int) + 1)) (by omega) (by omega), w64 (x := ab t ds s i - 1) (by omega) (by omega), w64 (x := (ds.length : Int) - ((i : Int) + 1)) (by omega) (by omega), w64 (x := (ds.length : Int) - ((i : Int) + 1) + 1) (by omega) (by omega), ab]
    have hq : rq t ds s i = ab t ds s i - ab t ds s (i + 1) := by unfold rq; rw [if_pos hlt]
    have ht := ih (i + 1) (by omega)
    have hm := set_mid (rq t ds s) 0 i (e + 1)
    rw [hq] at hm
    rw [← hm, show ((i + 1 : Nat) : Int) + 1 = (i : Int) + 1 + 1 by omega] at ht
    refine Ev.succ ?_
    simp only [U24.l0, show (i : Int) + 1 ≤ (ds.length : Int) by omega, if_true, hw, show (0 : Int) ≤ (i : Int) by omega, show (i : Int) < (ds.length : Int) by omega, rise_eq ht1 ht2 hdi hs, Option.bind_some, hlen, show (i : Int) < (ds.length : Int) + 1 by omega, e1, hw2, Int.toNat_natCast]
    rw [w64 (x := ab t ds s i - ab t ds s (i + 1)) (by omega) (by omega)]
    exact ht
theorem srow_ev {t : Int} {ds : List Int} {s : Int} (ht1 : -1000 ≤ t) (ht2 : t ≤ 1000) (hd : okIn ds = true) (hs : 0 ≤ s ∧ s ≤ 2000) (h5 : ds.length ≤ 5) : Ev (fun k => U24.f k t ds s) (stepRow t ds s) := by
  have hw : wrap64 ((ds.length : Int) + 1) = ((ds.length + 1 : Nat) : Int) := by rw [w64 (by omega) (by omega)]; omega
  unfold U24.f
  simp only [hw, show (0 : Int) ≤ ((ds.length + 1 : Nat) : Int) by omega, if_true, Int.toNat_natCast, show ds.length + 1 ≤ 35184372088832 by omega]
  exact srow_l0 ht1 ht2 hd hs h5 ds.length 0 (by omega)
theorem stp_l2 {ps ws ds : List Int} {s : Int} (g : gErr ps ws = 0) (hd : okIn ds = true) (hs : 0 ≤ s ∧ s ≤ 2000) (h5 : ds.length ≤ 5) : ∀ e i : Nat, i + e = ps.length →
    Ev (fun k => U20.l2 k ds s ps (ps.length : Int) (i : Int) ((ps.take i).map (fun t => stepRow t ds s))) (ps.map (fun t => stepRow t ds s), 0) := by
  have hl := (gErr_ok g).2.1
  intro e
  induction e with
  | zero =>
    intro i hi
    refine Ev.succ ?_
    simp only [U20.l2, show ¬ ((i : Int) < (ps.length : Int)) by omega, if_false]
    exact evq (Ev.now _) (by rw [List.take_of_length_le (by omega)])
  | succ e ih =>
    intro i hi
    have hlt : i < ps.length := by omega
    have hw : wrap64 ((i : Int) + 1) = ((i + 1 : Nat) : Int) := by rw [w64] <;> omega
    have hp := pts g hlt
    have hlen : ((ps.take i).map (fun t => stepRow t ds s)).length < 5864062014805 := by rw [List.length_map, List.length_take]; omega
    have ht := ih (i + 1) (by omega)
    rw [map_take _ hlt, ← rd_lt hlt] at ht
    refine Ev.succ ?_
    simp only [U20.l2, show (i : Int) < (ps.length : Int) by omega, if_true, show (0 : Int) ≤ (i : Int) by omega, hw, hlen]
    exact Ev.bind (srow_ev hp.1 hp.2 hd hs h5) ht
theorem stp_l1 {ps ws ds : List Int} {s : Int} (h5 : ds.length ≤ 5) {Y : List (List Int) × Int} (hY : Ev (fun k => U20.l2 k ds s ps (ps.length : Int) 0 ([] : List (List Int))) Y) : ∀ e i : Nat, i + 1 + e = ds.length →
    Ev (fun k => U20.l1 k ds s ((i + 1 : Nat) : Int) ps ws) (if rise (ds.drop i) = true then Y else ([], 23)) := by
  intro e
  induction e with
  | zero =>
    intro i hi
    refine Ev.succ ?_
    simp only [U20.l1, show ¬ (((i + 1 : Nat) : Int) < (ds.length : Int)) by omega, if_false]
    rw [drop_rd (show i < ds.length by omega), List.drop_eq_nil_of_le (by omega), if_pos (by simp [rise])]
    exact hY
  | succ e ih =>
    intro i hi
    have hw : wrap64 (((i + 1 : Nat) : Int) + 1) = ((i + 1 + 1 : Nat) : Int) := by rw [w64 (by omega) (by omega)]; omega
    have hw2 : wrap64 (((i + 1 : Nat) : Int) - 1) = (i : Int) := by rw [w64 (by omega) (by omega)]; omega
    have er : rise (ds.drop i) = (decide (rd ds (i : Int) < rd ds ((i + 1 : Nat) : Int)) && rise (ds.drop (i + 1))) := by
      rw [drop_rd (show i < ds.length by omega), drop_rd (show i + 1 < ds.length by omega), rise]
    refine Ev.succ ?_
    simp only [U20.l1, show ((i + 1 : Nat) : Int) < (ds.length : Int) by omega, if_true, show (0 : Int) ≤ ((i + 1 : Nat) : Int) by omega, hw, hw2, show (0 : Int) ≤ (i : Int) by omega, show (i : Int) < (ds.length : Int) by omega]
    rw [er]
    by_cases h : rd ds ((i + 1 : Nat) : Int) ≤ rd ds (i : Int)
    · simp only [if_pos h]; rw [decide_eq_false (by omega), Bool.false_and, if_neg (by simp)]; exact Ev.now _
    · simp only [if_neg h]; rw [decide_eq_true (by omega), Bool.true_and]; exact ih (i + 1) (by omega)
theorem stp_l0 {ps ws ds : List Int} {s : Int} (h5 : ds.length ≤ 5) {Y : List (List Int) × Int} (hY : Ev (fun k => U20.l1 k ds s 1 ps ws) Y) : ∀ e i : Nat, i + e = ds.length →
    Ev (fun k => U20.l0 k ds s ds (ds.length : Int) (i : Int) ps ws) (if okIn (ds.drop i) = true then Y else ([], 3)) := by
  intro e
  induction e with
  | zero =>
    intro i hi
    refine Ev.succ ?_
    simp only [U20.l0, show ¬ ((i : Int) < (ds.length : Int)) by omega, if_false]
    rw [List.drop_eq_nil_of_le (by omega), if_pos (by simp [okIn])]
    exact hY
  | succ e ih =>
    intro i hi
    have hw : wrap64 ((i : Int) + 1) = ((i + 1 : Nat) : Int) := by rw [w64] <;> omega
    refine Ev.succ ?_
    simp only [U20.l0, show (i : Int) < (ds.length : Int) by omega, if_true, show (0 : Int) ≤ (i : Int) by omega, hw, mw, Option.bind_some]
    rw [okIn_drop (show i < ds.length by omega)]
    by_cases h : -1000 ≤ rd ds (i : Int) ∧ rd ds (i : Int) ≤ 1000
    · simp only [decide_eq_true h, if_true, Bool.true_and]; exact ih (i + 1) (by omega)
    · simp only [decide_eq_false h, Bool.false_eq_true, if_false, Bool.false_and]; exact Ev.now _
theorem steps_ev (ps ws ds : List Int) (s : Int) : Ev (fun k => U20.f k ps ws ds s) (stepsN ps ws ds s) := by
  unfold U20.f stepsN
  refine Ev.bind (grid_ev ps ws) ?_
  by_cases g : gErr ps ws = 0
  · simp only [if_pos g, mw, Option.bind_some]
    have jt : ∀ b : Bool, b = true → Ev (fun k => U20.j0 k ds s b ps ws) ([], 3) := by
      intro b hb
      refine Ev.succ ?_
      simp only [U20.j0, hb, if_true]; exact Ev.now _
    by_cases h1 : 1 ≤ ds.length ∧ ds.length ≤ 5
    · simp only [decide_eq_true (show (1 : Int) ≤ (ds.length : Int) ∧ (ds.length : Int) ≤ 5 by omega), if_true]
      by_cases hs : 0 ≤ s ∧ s ≤ 2000
      · rw [decide_eq_true hs, if_pos ⟨h1, hs⟩]
        refine Ev.succ ?_
        simp only [U20.j0, Bool.not_true, Bool.false_eq_true, if_false]
        by_cases hd : okIn ds = true
        · have l2 := stp_l2 g hd hs h1.2 ps.length 0 (by omega)
          have l1 := stp_l1 (ws := ws) h1.2 (Y := (ps.map (fun t => stepRow t ds s), 0)) l2 (ds.length - 1) 0 (by omega)
          exact stp_l0 h1.2 l1 ds.length 0 (by omega)
        · rw [if_neg hd]
          have key : ∀ e i : Nat, i + e = ds.length → okIn (ds.drop i) = false → Ev (fun k => U20.l0 k ds s ds (ds.length : Int) (i : Int) ps ws) ([], 3) := by
            intro e
            induction e with
            | zero => intro i hi h; rw [List.drop_eq_nil_of_le (by omega)] at h; simp [okIn] at h
            | succ e ih =>
              intro i hi h
              have hw : wrap64 ((i : Int) + 1) = ((i + 1 : Nat) : Int) := by rw [w64] <;> omega
              rw [okIn_drop (show i < ds.length by omega)] at h
              refine Ev.succ ?_
              simp only [U20.l0, show (i : Int) < (ds.length : Int) by omega, if_true, show (0 : Int) ≤ (i : Int) by omega, hw, mw, Option.bind_some]
              by_cases c : -1000 ≤ rd ds (i : Int) ∧ rd ds (i : Int) ≤ 1000
              · simp only [decide_eq_true c, if_true]; rw [decide_eq_true c, Bool.true_and] at h; exact ih (i + 1) (by omega) h
              · simp only [decide_eq_false c, Bool.false_eq_true, if_false]; exact Ev.now _
          exact key ds.length 0 (by omega) (by rw [List.drop_zero]; exact Bool.eq_false_iff.2 hd)
      · rw [decide_eq_false hs, if_neg (fun h => hs h.2)]; exact jt _ rfl
    · simp only [decide_eq_false (show ¬ ((1 : Int) ≤ (ds.length : Int) ∧ (ds.length : Int) ≤ 5) by omega), Bool.false_eq_true, if_false]
      rw [if_neg (fun h => h1 h.1)]; exact jt _ rfl
  · simp only [if_neg g]; exact Ev.now _
theorem ab_w {t : Int} {ds : List Int} {s : Int} (h5 : ds.length ≤ 5) {j : Nat} (hlt : j < ds.length) : wrap64 (ab t ds s j - ab t ds s (j + 1)) = ab t ds s j - ab t ds s (j + 1) := by
  have b0 := ab_bd (t := t) (s := s) h5 j (by omega)
  have b1 := ab_bd (t := t) (s := s) h5 (j + 1) (by omega)
  generalize ab t ds s (j + 1) = y at *
  generalize ab t ds s j = x at *
  exact w64 (by omega) (by omega)
theorem ab_r {t : Int} {ds : List Int} {s : Int} (ht1 : -1000 ≤ t) (ht2 : t ≤ 1000) (hd : okIn ds = true) (hs : 0 ≤ s ∧ s ≤ 2000) (h5 : ds.length ≤ 5) {j : Nat} (hlt : j < ds.length) :
    mx (wrap64 ((wrap64 ((ds.length : Int) - ((j : Int) + 1))) + 1)) (mn (wrap64 (500 + flr (s * (t - rd ds (j : Int))))) (mn (wrap64 (1000 - ((j : Int) + 1))) (wrap64 (ab t ds s j - 1)))) = ab t ds s (j + 1) := by
  have hx := arg_bd ht1 ht2 (okIn_at hd hlt) hs
  have hf := flr_bd hx.1 hx.2
  have b0 := ab_bd (t := t) (s := s) h5 j (Nat.le_of_lt hlt)
  have e : ab t ds s (j + 1) = mx (mn (mn (500 + flr (s * (t - rd ds (j : Int)))) (1000 - ((j : Int) + 1))) (ab t ds s j - 1)) ((ds.length : Int) - ((j : Int) + 1) + 1) := rfl
  rw [e]
  clear e hx
  generalize ab t ds s j = u at *
  generalize flr (s * (t - rd ds (j : Int))) = f at *
  have h5' : (ds.length : Int) ≤ 5 := by omega
  have hlt' : (j : Int) < (ds.length : Int) := by omega
  have h0 : 0 ≤ (j : Int) := by omega
  generalize (ds.length : Int) = n at *
  generalize (j : Int) = jj at *
  exact row_eq h5' h0 hlt' ⟨b0.1, b0.2.1⟩ hf
theorem nn_ (j : Nat) : (0 : Int) ≤ (j : Int) := by omega
theorem lt_ {j n : Nat} (h : j < n) : (j : Int) < (n : Int) := by omega
theorem lt1_ {j n : Nat} (h : j < n) : (j : Int) + 1 ≤ (n : Int) := by omega
theorem wj_ {j n : Nat} (h : j < n) (h5 : n ≤ 5) : wrap64 ((j : Int) + 1 - 1) = (j : Int) ∧ wrap64 ((j : Int) + 1 + 1) = (j : Int) + 1 + 1 := by
  constructor
  · rw [w64 (by omega) (by omega)]; omega
  · rw [w64 (by omega) (by omega)]
theorem rstp_l3 {ps ws ds : List Int} {s : Int} {i : Nat} (hi : i < ps.length) {t : Int} (het : rd ps (i : Int) = t) (ht1 : -1000 ≤ t) (ht2 : t ≤ 1000) (hd : okIn ds = true) (hs : 0 ≤ s ∧ s ≤ 2000) (h5 : ds.length ≤ 5) {A : List (List Int)} (hA : A.length < 5864062014805) {R : List (List Int) × Int}
    (hR : Ev (fun k => U5.l2 k ds s (ds.length : Int) (wrap64 ((i : Int) + 1)) ps ws (A ++ [stepRow (t) ds s])) R) : ∀ e j : Nat, j + e = ds.length →
    Ev (fun k => U5.l3 k ds s (ds.length : Int) (i : Int) ((List.range j).map (rq (t) ds s)) (ab (t) ds s j) ((j : Int) + 1) ps ws A) R := by
  intro e
  induction e with
  | zero =>
    intro j hj
    have hlen : ((List.range j).map (rq (t) ds s)).length < 17592186044416 := by rw [List.length_map, List.length_range]; omega
    refine Ev.succ ?_
    simp only [U5.l3, show ¬ ((j : Int) + 1 ≤ (ds.length : Int)) by omega, if_false, hlen, hA, if_true]
    have hj' : ds.length = j := by omega
    have e1 : (List.range j).map (rq (t) ds s) ++ [ab (t) ds s j] = stepRow (t) ds s := by
      have hq : rq (t) ds s j = ab (t) ds s j := by unfold rq; rw [if_neg (by omega), hj']
      rw [stepRow, hj', List.range_succ, List.map_append, List.map_singleton, hq]
    rw [e1]; exact hR
  | succ e ih =>
    intro j hj
    have hlt : j < ds.length := by omega
    have hlen : ((List.range j).map (rq (t) ds s)).length < 17592186044416 := by rw [List.length_map, List.length_range]; omega
    obtain ⟨hw, hw2⟩ := wj_ hlt h5
    have hdi := okIn_at hd hlt
    have hq : rq t ds s j = ab t ds s j - ab t ds s (j + 1) := by unfold rq; rw [if_pos hlt]
    have ht := ih (j + 1) (by omega)
    rw [List.range_succ, List.map_append, List.map_singleton, hq, show ((j + 1 : Nat) : Int) + 1 = (j : Int) + 1 + 1 by omega] at ht
    clear hq
    have o1 : (j : Int) + 1 ≤ (ds.length : Int) := lt1_ hlt
    have o2 : (0 : Int) ≤ (i : Int) := nn_ i
    have o3 : (i : Int) < (ps.length : Int) := lt_ hi
    have o4 : (0 : Int) ≤ (j : Int) := nn_ j
    have o5 : (j : Int) < (ds.length : Int) := lt_ hlt
    have hw3 := ab_w (t := t) (s := s) h5 hlt
    have e1 := ab_r ht1 ht2 hd hs h5 hlt
    refine Ev.succ ?_
    simp only [U5.l3, o1, if_true, o2, o3, hw, o4, o5, het, arg_w ht1 ht2 hdi hs, flr_eq (arg_bd ht1 ht2 hdi hs).1 (arg_bd ht1 ht2 hdi hs).2, Option.bind_some, hlen, e1, hw2, hw3]
    exact ht
theorem rstp_l2 {ps ws ds : List Int} {s : Int} (g : gErr ps ws = 0) (hd : okIn ds = true) (hs : 0 ≤ s ∧ s ≤ 2000) (h5 : ds.length ≤ 5) : ∀ e i : Nat, i + e = ps.length →
    Ev (fun k => U5.l2 k ds s (ds.length : Int) (i : Int) ps ws ((ps.take i).map (fun t => stepRow t ds s))) (ps.map (fun t => stepRow t ds s), 0) := by
  have hl := (gErr_ok g).2.1
  intro e
  induction e with
  | zero =>
    intro i hi
    refine Ev.succ ?_
    simp only [U5.l2, show ¬ ((i : Int) < (ps.length : Int)) by omega, if_false]
    exact evq (Ev.now _) (by rw [List.take_of_length_le (by omega)])
  | succ e ih =>
    intro i hi
    have hlt : i < ps.length := by omega
    have hw : wrap64 ((i : Int) + 1) = ((i + 1 : Nat) : Int) := by rw [w64] <;> omega
    have hp := pts g hlt
    have hlen : ((ps.take i).map (fun t => stepRow t ds s)).length < 5864062014805 := by rw [List.length_map, List.length_take]; omega
    have ht := ih (i + 1) (by omega)
    rw [map_take _ hlt, ← rd_lt hlt] at ht
    refine Ev.succ ?_
    simp only [U5.l2, show (i : Int) < (ps.length : Int) by omega, if_true]
    exact rstp_l3 hlt rfl hp.1 hp.2 hd hs h5 hlen (by rw [hw]; exact ht) ds.length 0 (by omega)
theorem rstp_l1 {ps ws ds : List Int} {s : Int} (h5 : ds.length ≤ 5) {Y : List (List Int) × Int} (hY : Ev (fun k => U5.l2 k ds s (ds.length : Int) 0 ps ws ([] : List (List Int))) Y) : ∀ e i : Nat, i + 1 + e = ds.length →
    Ev (fun k => U5.l1 k ds s (ds.length : Int) ((i + 1 : Nat) : Int) ps ws) (if rise (ds.drop i) = true then Y else ([], 23)) := by
  intro e
  induction e with
  | zero =>
    intro i hi
    refine Ev.succ ?_
    simp only [U5.l1, show ¬ (((i + 1 : Nat) : Int) < (ds.length : Int)) by omega, if_false]
    rw [drop_rd (show i < ds.length by omega), List.drop_eq_nil_of_le (by omega), if_pos (by simp [rise])]
    exact hY
  | succ e ih =>
    intro i hi
    have hw : wrap64 (((i + 1 : Nat) : Int) + 1) = ((i + 1 + 1 : Nat) : Int) := by rw [w64 (by omega) (by omega)]; omega
    have hw2 : wrap64 (((i + 1 : Nat) : Int) - 1) = (i : Int) := by rw [w64 (by omega) (by omega)]; omega
    have er : rise (ds.drop i) = (decide (rd ds (i : Int) < rd ds ((i + 1 : Nat) : Int)) && rise (ds.drop (i + 1))) := by
      rw [drop_rd (show i < ds.length by omega), drop_rd (show i + 1 < ds.length by omega), rise]
    refine Ev.succ ?_
    simp only [U5.l1, show ((i + 1 : Nat) : Int) < (ds.length : Int) by omega, if_true, show (0 : Int) ≤ ((i + 1 : Nat) : Int) by omega, hw, hw2, show (0 : Int) ≤ (i : Int) by omega, show (i : Int) < (ds.length : Int) by omega]
    rw [er]
    by_cases h : rd ds ((i + 1 : Nat) : Int) ≤ rd ds (i : Int)
    · simp only [if_pos h]; rw [decide_eq_false (by omega), Bool.false_and, if_neg (by simp)]; exact Ev.now _
    · simp only [if_neg h]; rw [decide_eq_true (by omega), Bool.true_and]; exact ih (i + 1) (by omega)
theorem rstp_l0 {ps ws ds : List Int} {s : Int} (h5 : ds.length ≤ 5) {Y : List (List Int) × Int} (hY : okIn ds = true → 0 ≤ s ∧ s ≤ 2000 → Ev (fun k => U5.l1 k ds s (ds.length : Int) 1 ps ws) Y) : ∀ e i : Nat, i + e = ds.length → (okIn (ds.drop i) = true → okIn ds = true) → (i = ds.length → 0 ≤ s ∧ s ≤ 2000) →
    Ev (fun k => U5.l0 k ds s (ds.length : Int) (i : Int) ps ws) (if okIn (ds.drop i) = true ∧ (0 ≤ s ∧ s ≤ 2000) then Y else ([], 3)) := by
  intro e
  induction e with
  | zero =>
    intro i hi hk hz
    have hs := hz (by omega)
    refine Ev.succ ?_
    simp only [U5.l0, show ¬ ((i : Int) < (ds.length : Int)) by omega, if_false]
    rw [List.drop_eq_nil_of_le (by omega)] at hk ⊢
    rw [if_pos ⟨by simp [okIn], hs⟩]
    exact hY (hk (by simp [okIn])) hs
  | succ e ih =>
    intro i hi hk hz
    have hw : wrap64 ((i : Int) + 1) = ((i + 1 : Nat) : Int) := by rw [w64] <;> omega
    have ed := okIn_drop (show i < ds.length by omega)
    refine Ev.succ ?_
    simp only [U5.l0, show (i : Int) < (ds.length : Int) by omega, if_true, show (0 : Int) ≤ (i : Int) by omega, hw, set_eq, Option.bind_some]
    by_cases h : (-1000 ≤ rd ds (i : Int) ∧ rd ds (i : Int) ≤ 1000) ∧ (0 ≤ s ∧ s ≤ 2000)
    · simp only [decide_eq_true h, if_true]
      rw [decide_eq_true h.1, Bool.true_and] at ed
      rw [ed] at hk ⊢
      exact ih (i + 1) (by omega) hk (fun _ => h.2)
    · simp only [decide_eq_false h, Bool.false_eq_true, if_false]
      have : ¬ (okIn (ds.drop i) = true ∧ (0 ≤ s ∧ s ≤ 2000)) := by
        rintro ⟨h1, h2⟩
        rw [ed, Bool.and_eq_true, decide_eq_true_eq] at h1
        exact h ⟨h1.1, h2⟩
      rw [if_neg this]; exact Ev.now _
theorem rsteps_ev (ps ws ds : List Int) (s : Int) : Ev (fun k => U5.f k ps ws ds s) (stepsN ps ws ds s) := by
  unfold U5.f stepsN
  refine Ev.bind (rgrid_ev ps ws) ?_
  by_cases g : gErr ps ws = 0
  · simp only [if_pos g]
    have jt : ∀ b : Bool, b = true → Ev (fun k => U5.j0 k ds s (ds.length : Int) b ps ws) ([], 3) := by
      intro b hb
      refine Ev.succ ?_
      simp only [U5.j0, hb, if_true]; exact Ev.now _
    by_cases h1 : (ds.length : Int) < 1
    · simp only [if_pos h1]; rw [if_neg (by omega)]; exact jt _ rfl
    · simp only [if_neg h1]
      by_cases h2 : (ds.length : Int) > 5
      · rw [if_neg (by omega)]; exact jt _ (decide_eq_true h2)
      · rw [decide_eq_false h2]
        refine Ev.succ ?_
        simp only [U5.j0, Bool.false_eq_true, if_false]
        have := rstp_l0 (ps := ps) (ws := ws) (ds := ds) (s := s) (by omega) (Y := if rise ds = true then (ps.map (fun t => stepRow t ds s), 0) else ([], 23)) (fun hd hs => ?_) ds.length 0 (by omega) (fun h => h) (fun h => absurd h (by omega))
        · rw [List.drop_zero] at this
          refine evq this ?_
          by_cases hs : 0 ≤ s ∧ s ≤ 2000
          · rw [if_pos (show (1 ≤ ds.length ∧ ds.length ≤ 5) ∧ (0 ≤ s ∧ s ≤ 2000) from ⟨⟨by omega, by omega⟩, hs⟩)]
            by_cases hd : okIn ds = true
            · rw [if_pos (show okIn ds = true ∧ (0 ≤ s ∧ s ≤ 2000) from ⟨hd, hs⟩), if_pos hd]
            · rw [if_neg (show ¬ (okIn ds = true ∧ (0 ≤ s ∧ s ≤ 2000)) from fun h => hd h.1), if_neg hd]
          · rw [if_neg (show ¬ (okIn ds = true ∧ (0 ≤ s ∧ s ≤ 2000)) from fun h => hs h.2), if_neg (show ¬ ((1 ≤ ds.length ∧ ds.length ≤ 5) ∧ (0 ≤ s ∧ s ≤ 2000)) from fun h => hs h.2)]
        · have l2 := rstp_l2 g hd hs (by omega) ps.length 0 (by omega)
          exact rstp_l1 (by omega) l2 (ds.length - 1) 0 (by omega)
  · simp only [if_neg g]; exact Ev.now _
theorem stepsN_len (ps ws ds : List Int) (s : Int) : (stepsN ps ws ds s).1.length ≤ 21 ∧ ∀ r ∈ (stepsN ps ws ds s).1, r.length ≤ 4611686018427387904 := by
  unfold stepsN
  by_cases g : gErr ps ws = 0
  · rw [if_pos g]
    by_cases h : (1 ≤ ds.length ∧ ds.length ≤ 5) ∧ (0 ≤ s ∧ s ≤ 2000)
    · rw [if_pos h]
      by_cases hd : okIn ds = true
      · rw [if_pos hd]
        by_cases hr : rise ds = true
        · rw [if_pos hr]
          refine ⟨by show (ps.map _).length ≤ 21; rw [List.length_map]; exact (gErr_ok g).2.1, fun r hr => ?_⟩
          obtain ⟨t, _, rfl⟩ := List.mem_map.1 hr
          rw [stepRow, List.length_map, List.length_range]; omega
        · rw [if_neg hr]; exact ⟨by simp, fun r hr => by cases hr⟩
      · rw [if_neg hd]; exact ⟨by simp, fun r hr => by cases hr⟩
    · rw [if_neg h]; exact ⟨by simp, fun r hr => by cases hr⟩
  · rw [if_neg g]; exact ⟨by simp, fun r hr => by cases hr⟩
end Go.Proofs.YtfkmbjkmlfnapaaDoor.Pure
