import Derived.Test.YtfkmbjkmlfnapaaDoorMSQAx4
import Derived.Test.YtfkmbjkmlfnapaaDoorMSQAx5
import Derived.Test.YtfkmbjkmlfnapaaDoorMSQAx15
import Derived.Test.YtfkmbjkmlfnapaaDoorMSQAx16
import Derived.Test.YtfkmbjkmlfnapaaDoorMSSam
set_option linter.unusedVariables false
set_option linter.unusedSimpArgs false
namespace Go.Proofs.YtfkmbjkmlfnapaaDoor.Pure
open Go.RowKit Go.Proofs.YtfkmbjkmlfnapaaDoorW.PrintWords Go.Proofs.YtfkmbjkmlfnapaaDoorW.PrintLast Go.Proofs.YtfkmbjkmlfnapaaDoorW.PrintMore Go.Proofs.YtfkmbjkmlfnapaaDoor.QA
theorem mul_bd {s u a b : Int} (h1 : -a ≤ s) (h2 : s ≤ a) (h3 : -b ≤ u) (h4 : u ≤ b) : -(a * b) ≤ s * u ∧ s * u ≤ a * b := by
  have e : (s * u).natAbs = s.natAbs * u.natAbs := Int.natAbs_mul s u
  have ha : s.natAbs ≤ a.toNat := by omega
  have hb : u.natAbs ≤ b.toNat := by omega
  have hm := Nat.mul_le_mul ha hb
  have ea : (a.toNat : Int) = a := Int.toNat_of_nonneg (by omega)
  have eb : (b.toNat : Int) = b := Int.toNat_of_nonneg (by omega)
  have hc : ((s * u).natAbs : Int) ≤ a * b := by rw [e]; have := Int.ofNat_le.2 hm; rw [Int.natCast_mul, Int.natCast_mul, ea, eb] at this; rw [Int.natCast_mul]; exact this
  have p1 : s * u ≤ ((s * u).natAbs : Int) := Int.le_natAbs
  have p2 : -(s * u) ≤ ((s * u).natAbs : Int) := by rw [← Int.natAbs_neg]; exact Int.le_natAbs
  omega
theorem tdiv_bd {x : Int} (h1 : -4000000 ≤ x) (h2 : x ≤ 4000000) : -4000000 ≤ Int.tdiv x 100 ∧ Int.tdiv x 100 ≤ 4000000 := by
  by_cases h : 0 ≤ x
  · rw [Int.tdiv_eq_ediv_of_nonneg h]; omega
  · obtain ⟨y, rfl⟩ : ∃ y, x = -y := ⟨-x, by omega⟩
    rw [Int.neg_tdiv, Int.tdiv_eq_ediv_of_nonneg (by omega)]; omega
def flr (x : Int) : Int := if Int.tmod x 100 < 0 then Int.tdiv x 100 - 1 else Int.tdiv x 100
def riseN (t d s : Int) : Int := 500 + flr (s * (t - d))
theorem flr_bd {x : Int} (h1 : -4000000 ≤ x) (h2 : x ≤ 4000000) : -4000001 ≤ flr x ∧ flr x ≤ 4000000 := by
  have := tdiv_bd h1 h2
  unfold flr; split <;> omega
theorem flr_eq {x : Int} (h1 : -4000000 ≤ x) (h2 : x ≤ 4000000) : U6.f x = some (flr x) := by
  have := tdiv_bd h1 h2
  unfold U6.f flr
  rw [w64 (x := Int.tdiv x 100) (by omega) (by omega), w64 (x := Int.tdiv x 100 - 1) (by omega) (by omega)]
  split <;> rfl
theorem arg_bd {t d s : Int} (ht1 : -1000 ≤ t) (ht2 : t ≤ 1000) (hd : -1000 ≤ d ∧ d ≤ 1000) (hs : 0 ≤ s ∧ s ≤ 2000) : -4000000 ≤ s * (t - d) ∧ s * (t - d) ≤ 4000000 := by
  have := mul_bd (s := s) (u := t - d) (a := 2000) (b := 2000) (by omega) (by omega) (by omega) (by omega)
  omega
theorem arg_w {t d s : Int} (ht1 : -1000 ≤ t) (ht2 : t ≤ 1000) (hd : -1000 ≤ d ∧ d ≤ 1000) (hs : 0 ≤ s ∧ s ≤ 2000) : wrap64 (s * (wrap64 (t - d))) = s * (t - d) := by
  have := arg_bd ht1 ht2 hd hs
  rw [w64 (x := t - d) (by omega) (by omega), w64 (by omega) (by omega)]
theorem rise_eq {t d s : Int} (ht1 : -1000 ≤ t) (ht2 : t ≤ 1000) (hd : -1000 ≤ d ∧ d ≤ 1000) (hs : 0 ≤ s ∧ s ≤ 2000) : U22.f t d s = some (riseN t d s) := by
  have hx := arg_bd ht1 ht2 hd hs
  have := tdiv_bd hx.1 hx.2
  unfold U22.f riseN flr
  rw [arg_w ht1 ht2 hd hs]
  generalize s * (t - d) = x at *
  rw [w64 (x := Int.tdiv x 100) (by omega) (by omega), w64 (x := Int.tdiv x 100 - 1) (by omega) (by omega), w64 (x := 500 + (Int.tdiv x 100 - 1)) (by omega) (by omega), w64 (x := 500 + Int.tdiv x 100) (by omega) (by omega)]
  split <;> rfl
def rampOk (d s lo hi : Int) : Prop := (-1000 ≤ d ∧ d ≤ 1000) ∧ (0 ≤ s ∧ s ≤ 2000) ∧ 1 ≤ lo ∧ lo ≤ hi ∧ hi ≤ 999
instance (d s lo hi : Int) : Decidable (rampOk d s lo hi) := by unfold rampOk; infer_instance
theorem pts {ps ws : List Int} (g : gErr ps ws = 0) {i : Nat} (hi : i < ps.length) : -1000 ≤ rd ps (i : Int) ∧ rd ps (i : Int) ≤ 1000 := by
  obtain ⟨g1, g2, g3, g4, g5⟩ := gErr_ok g
  have := okG_at g4 g3 i hi
  exact ⟨this.1, this.2.1⟩
theorem map_take {α β : Type} {xs : List α} (f : α → β) {i : Nat} (h : i < xs.length) : (xs.take (i + 1)).map f = (xs.take i).map f ++ [f xs[i]] := by
  rw [List.take_succ_eq_append_getElem h, List.map_append, List.map_singleton]
theorem set_eq (d s : Int) : U7.f d s = some (decide ((-1000 ≤ d ∧ d ≤ 1000) ∧ (0 ≤ s ∧ s ≤ 2000))) := by
  unfold U7.f
  by_cases h1 : d ≥ -1000
  · rw [if_pos h1]
    by_cases h2 : d ≤ 1000
    · rw [if_pos h2]
      by_cases h3 : s ≥ 0
      · rw [if_pos h3, show decide (s ≤ 2000) = decide ((-1000 ≤ d ∧ d ≤ 1000) ∧ (0 ≤ s ∧ s ≤ 2000)) by rw [decide_eq_decide]; omega]
      · rw [if_neg h3, decide_eq_false (by omega)]
    · rw [if_neg h2, decide_eq_false (by omega)]
  · rw [if_neg h1, decide_eq_false (by omega)]
end Go.Proofs.YtfkmbjkmlfnapaaDoor.Pure
