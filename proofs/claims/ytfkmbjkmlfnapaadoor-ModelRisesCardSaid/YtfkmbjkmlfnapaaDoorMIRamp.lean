import Derived.Test.YtfkmbjkmlfnapaaDoorMIQAx4
import Derived.Test.YtfkmbjkmlfnapaaDoorMIQAx5
import Derived.Test.YtfkmbjkmlfnapaaDoorMIQAx15
import Derived.Test.YtfkmbjkmlfnapaaDoorMIQAx16
import Derived.Test.YtfkmbjkmlfnapaaDoorMISam
set_option linter.unusedVariables false
set_option linter.unusedSimpArgs false
namespace Go.Proofs.YtfkmbjkmlfnapaaDoor.Pure
open Go.RowKit Go.Proofs.YtfkmbjkmlfnapaaDoorW.PrintWords Go.Proofs.YtfkmbjkmlfnapaaDoorW.PrintLast Go.Proofs.YtfkmbjkmlfnapaaDoorW.PrintMore Go.Proofs.YtfkmbjkmlfnapaaDoor.QA
theorem mul_bd {s u a b : Int} (h1 : -a ≤ s) (h2 : s ≤ a) (h3 : -b ≤ u) (h4 : u ≤ b) : -(a * b) ≤ s * u ∧ s * u ≤ a * b := by
  have e : (s * u).natAbs = s.natAbs * u.natAbs := Int.natAbs_mul s u
  have ha : s.natAbs ≤ a.toNat := by omega
  have hb : u.natAbs ≤ b.toNat := by omega
  have hm := Nat.mul_le_mul ha hb
  have ea : (a.toNat : Int) = a := Int.toNat_of_nonneg (by omega)
  have eb : (b.toNat : Int) = b := Int.toNat_of_nonneg (by omega)
  have hc : ((s * u).natAbs : Int) ≤ a * b := by rw [e]; have := Int.ofNat_le.2 hm; rw [Int.natCast_mul, Int.natCast_mul, ea, eb] at this; rw [Int.natCast_mul]; exact this
  have p1 : s * u ≤ ((s * u).natAbs : Int) := Int.le_natAbs
  have p2 : -(s * u) ≤ ((s * u).natAbs : Int) := by rw [← Int.natAbs_neg]; exact Int.le_natAbs
  omega
theorem tdiv_bd {x : Int} (h1 : -4000000 ≤ x) (h2 : x ≤ 4000000) : -4000000 ≤ Int.tdiv x 100 ∧ Int.tdiv x 100 ≤ 4000000 := by
  by_cases h : 0 ≤ x
  · rw [Int.tdiv_eq_ediv_of_nonneg h]; omega
  · obtain ⟨y, rfl⟩ : ∃ y, x = -y := ⟨-x, by omega⟩
    rw [Int.neg_tdiv, Int.tdiv_eq_ediv_of_nonneg (by omega)]; omega
def flr (x : Int) : Int := if Int.tmod x 100 < 0 then Int.tdiv x 100 - 1 else Int.tdiv x 100
def riseN (t d s : Int) : Int := 500 + flr (s * (t - d))
theorem arg_bd {t d s : Int} (ht1 : -1000 ≤ t) (ht2 : t ≤ 1000) (hd : -1000 ≤ d ∧ d ≤ 1000) (hs : 0 ≤ s ∧ s ≤ 2000) : -4000000 ≤ s * (t - d) ∧ s * (t - d) ≤ 4000000 := by
  have := mul_bd (s := s) (u := t - d) (a := 2000) (b := 2000) (by omega) (by omega) (by omega) (by omega)
  omega
theorem arg_w {t d s : Int} (ht1 : -1000 ≤ t) (ht2 : t ≤ 1000) (hd : -1000 ≤ d ∧ d ≤ 1000) (hs : 0 ≤ s ∧ s ≤ 2000) : wrap64 (s * (wrap64 (t - d))) = s * (t - d) := by
  have := arg_bd ht1 ht2 hd hs
  rw [w64 (x := t - d) (by omega) (by omega), w64 (by omega) (by omega)]
theorem rise_eq {t d s : Int} (ht1 : -1000 ≤ t) (ht2 : t ≤ 1000) (hd : -1000 ≤ d ∧ d ≤ 1000) (hs : 0 ≤ s ∧ s ≤ 2000) : U18.f t d s = some (riseN t d s) := by
  have hx := arg_bd ht1 ht2 hd hs
  have := tdiv_bd hx.1 hx.2
  unfold U18.f riseN flr
  rw [arg_w ht1 ht2 hd hs]
  generalize s * (t - d) = x at *
  rw [w64 (x := Int.tdiv x 100) (by omega) (by omega), w64 (x := Int.tdiv x 100 - 1) (by omega) (by omega), w64 (x := 500 + (Int.tdiv x 100 - 1)) (by omega) (by omega), w64 (x := 500 + Int.tdiv x 100) (by omega) (by omega)]
  split <;> rfl
def clampN (t d s lo hi : Int) : Int := mn (mx (riseN t d s) lo) hi
def rampRow (t d s lo hi : Int) : List Int := [1000 - clampN t d s lo hi, clampN t d s lo hi]
theorem clamp_bd {t d s lo hi : Int} (h1 : 1 ≤ lo) (h2 : lo ≤ hi) (h3 : hi ≤ 999) : 1 ≤ clampN t d s lo hi ∧ clampN t d s lo hi ≤ 999 ∧ lo ≤ clampN t d s lo hi ∧ clampN t d s lo hi ≤ hi := by
  unfold clampN mn mx; repeat' split
  all_goals omega
def rampOk (d s lo hi : Int) : Prop := (-1000 ≤ d ∧ d ≤ 1000) ∧ (0 ≤ s ∧ s ≤ 2000) ∧ 1 ≤ lo ∧ lo ≤ hi ∧ hi ≤ 999
instance (d s lo hi : Int) : Decidable (rampOk d s lo hi) := by unfold rampOk; infer_instance
def rampN (ps ws : List Int) (d s lo hi : Int) : List (List Int) × Int :=
  if gErr ps ws = 0 then (if rampOk d s lo hi then (ps.map (fun t => rampRow t d s lo hi), 0) else ([], 3)) else ([], gErr ps ws)
theorem pts {ps ws : List Int} (g : gErr ps ws = 0) {i : Nat} (hi : i < ps.length) : -1000 ≤ rd ps (i : Int) ∧ rd ps (i : Int) ≤ 1000 := by
  obtain ⟨g1, g2, g3, g4, g5⟩ := gErr_ok g
  have := okG_at g4 g3 i hi
  exact ⟨this.1, this.2.1⟩
theorem map_take {α β : Type} {xs : List α} (f : α → β) {i : Nat} (h : i < xs.length) : (xs.take (i + 1)).map f = (xs.take i).map f ++ [f xs[i]] := by
  rw [List.take_succ_eq_append_getElem h, List.map_append, List.map_singleton]
theorem ramp_l0 {ps ws : List Int} (g : gErr ps ws = 0) {d s lo hi : Int} (ok : rampOk d s lo hi) : ∀ e i : Nat, i + e = ps.length →
    Ev (fun k => U15.l0 k d s lo hi ps (ps.length : Int) (i : Int) ((ps.take i).map (fun t => rampRow t d s lo hi))) (ps.map (fun t => rampRow t d s lo hi), 0) := by
  obtain ⟨hd, hs, h1, h2, h3⟩ := ok
  have hl := (gErr_ok g).2.1
  intro e
  induction e with
  | zero =>
    intro i hj
    refine Ev.succ ?_
    simp only [U15.l0, show ¬ ((i : Int) < (ps.length : Int)) by omega, if_false]
    exact evq (Ev.now _) (by rw [List.take_of_length_le (by omega)])
  | succ e ih =>
    intro i hj
    have hlt : i < ps.length := by omega
    have hw : wrap64 ((i : Int) + 1) = ((i + 1 : Nat) : Int) := by rw [w64] <;> omega
    have hp := pts g hlt
    have hc := clamp_bd (t := rd ps (i : Int)) (d := d) (s := s) h1 h2 h3
    have hlen : ((ps.take i).map (fun t => rampRow t d s lo hi)).length < 5864062014805 := by rw [List.length_map, List.length_take]; omega
    have ht := ih (i + 1) (by omega)
    rw [map_take _ hlt, ← rd_lt hlt] at ht
    refine Ev.succ ?_
    simp only [U15.l0, show (i : Int) < (ps.length : Int) by omega, if_true, show (0 : Int) ≤ (i : Int) by omega, rise_eq hp.1 hp.2 hd hs, Option.bind_some, hlen, hw]
    have e1 : mn (mx (riseN (rd ps (i : Int)) d s) lo) hi = clampN (rd ps (i : Int)) d s lo hi := rfl
    rw [e1, w64 (x := 1000 - clampN (rd ps (i : Int)) d s lo hi) (by omega) (by omega)]
    exact ht
theorem ramp_ev (ps ws : List Int) (d s lo hi : Int) : Ev (fun k => U15.f k ps ws d s lo hi) (rampN ps ws d s lo hi) := by
  unfold U15.f rampN
  refine Ev.bind (grid_ev ps ws) ?_
  by_cases g : gErr ps ws = 0
  · simp only [if_pos g]
    have jt : ¬ rampOk d s lo hi → ∀ b : Bool, b = true → Ev (fun k => U15.j0 k d s lo hi b ps ws) (if rampOk d s lo hi then (ps.map (fun t => rampRow t d s lo hi), 0) else ([], 3)) := by
      intro hn b hb
      rw [if_neg hn]
      refine Ev.succ ?_
      simp only [U15.j0, hb, if_true]; exact Ev.now _
    simp only [mw, Option.bind_some]
    by_cases hd : -1000 ≤ d ∧ d ≤ 1000
    · simp only [decide_eq_true hd, if_true]
      by_cases hs : 0 ≤ s ∧ s ≤ 2000
      · simp only [decide_eq_true hs, if_true]
        by_cases h1 : lo < 1
        · simp only [if_pos h1]; exact jt (fun h => by obtain ⟨_, _, h, _⟩ := h; omega) _ rfl
        · simp only [if_neg h1]
          by_cases h2 : lo > hi
          · simp only [if_pos h2]; exact jt (fun h => by obtain ⟨_, _, _, h, _⟩ := h; omega) _ rfl
          · simp only [if_neg h2]
            by_cases h3 : hi > 999
            · exact jt (fun h => by obtain ⟨_, _, _, _, h⟩ := h; omega) _ (decide_eq_true h3)
            · rw [decide_eq_false h3]
              have ok : rampOk d s lo hi := ⟨hd, hs, by omega, by omega, by omega⟩
              rw [if_pos ok]
              refine Ev.succ ?_
              simp only [U15.j0, Bool.false_eq_true, if_false]
              exact ramp_l0 g ok ps.length 0 (by omega)
      · simp only [decide_eq_false hs, Bool.false_eq_true, if_false]; exact jt (fun h => hs h.2.1) _ rfl
    · simp only [decide_eq_false hd, Bool.false_eq_true, if_false]; exact jt (fun h => hd h.1) _ rfl
  · simp only [if_neg g]; exact Ev.now _
theorem rampN_len (ps ws : List Int) (d s lo hi : Int) : (rampN ps ws d s lo hi).1.length ≤ 21 ∧ ∀ r ∈ (rampN ps ws d s lo hi).1, r.length ≤ 4611686018427387904 := by
  unfold rampN
  by_cases g : gErr ps ws = 0
  · rw [if_pos g]
    by_cases h : rampOk d s lo hi
    · rw [if_pos h]
      refine ⟨by show (ps.map _).length ≤ 21; rw [List.length_map]; exact (gErr_ok g).2.1, fun r hr => ?_⟩
      obtain ⟨t, _, rfl⟩ := List.mem_map.1 hr
      simp [rampRow]
    · rw [if_neg h]; exact ⟨by simp, fun r hr => by cases hr⟩
  · rw [if_neg g]; exact ⟨by simp, fun r hr => by cases hr⟩
end Go.Proofs.YtfkmbjkmlfnapaaDoor.Pure
