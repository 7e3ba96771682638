import Derived.Test.YtfkmbjkmlfnapaaDoorMLQAx5
import Derived.Test.YtfkmbjkmlfnapaaDoorMLValid
set_option linter.unusedVariables false
set_option linter.unusedSimpArgs false
namespace Go.Proofs.YtfkmbjkmlfnapaaDoor.Pure
open Go.RowKit Go.Proofs.YtfkmbjkmlfnapaaDoorW.PrintWords Go.Proofs.YtfkmbjkmlfnapaaDoorW.PrintLast Go.Proofs.YtfkmbjkmlfnapaaDoorW.PrintMore Go.Proofs.YtfkmbjkmlfnapaaDoor.QA
theorem rdL_lt {rs : List (List Int)} {i : Nat} (h : i < rs.length) : rd_L1 rs (i : Int) = rs[i] := by unfold rd_L1; rw [Int.toNat_natCast, getD_lt h]
theorem same_l1 {rs : List (List Int)} (hl : rs.length ≤ 4611686018427387904) {i : Nat} (hi : i < rs.length) (hb : (rs[i]).length ≤ 4611686018427387904) {R : Bool} (hR : Ev (fun k => U5.l0 k ((i + 1 : Nat) : Int) rs rs) R) : ∀ d j : Nat, j + d = (rs[i]).length → Ev (fun k => U5.l1 k (i : Int) (j : Int) rs rs) R := by
  intro d
  induction d with
  | zero =>
    intro j hj
    have hw : wrap64 ((i : Int) + 1) = ((i + 1 : Nat) : Int) := by rw [w64] <;> omega
    refine Ev.succ ?_
    simp only [U5.l1, show (0 : Int) ≤ (i : Int) by omega, show (i : Int) < (rs.length : Int) by omega, if_true, rdL_lt hi, show ¬ ((j : Int) < ((rs[i]).length : Int)) by omega, if_false, hw]
    exact hR
  | succ d ih =>
    intro j hj
    have hw : wrap64 ((j : Int) + 1) = ((j + 1 : Nat) : Int) := by rw [w64] <;> omega
    refine Ev.succ ?_
    simp only [U5.l1, show (0 : Int) ≤ (i : Int) by omega, show (i : Int) < (rs.length : Int) by omega, if_true, rdL_lt hi, show (j : Int) < ((rs[i]).length : Int) by omega, show (0 : Int) ≤ (j : Int) by omega, hw]
    exact ih (j + 1) (by omega)
theorem same_l0 {rs : List (List Int)} (hl : rs.length ≤ 4611686018427387904) (hb : ∀ r ∈ rs, r.length ≤ 4611686018427387904) : ∀ d i : Nat, i + d = rs.length → Ev (fun k => U5.l0 k (i : Int) rs rs) true := by
  intro d
  induction d with
  | zero =>
    intro i hi
    refine Ev.succ ?_
    simp only [U5.l0, show ¬ ((i : Int) < (rs.length : Int)) by omega, if_false]; exact Ev.now _
  | succ d ih =>
    intro i hi
    have hlt : i < rs.length := by omega
    refine Ev.succ ?_
    simp only [U5.l0, show (i : Int) < (rs.length : Int) by omega, if_true, show (0 : Int) ≤ (i : Int) by omega]
    have := same_l1 hl hlt (hb _ (List.getElem_mem hlt)) (ih (i + 1) (by omega)) (rs[i]).length 0 (by omega)
    exact this
theorem same_ev {rs : List (List Int)} (hl : rs.length ≤ 4611686018427387904) (hb : ∀ r ∈ rs, r.length ≤ 4611686018427387904) : Ev (fun k => U5.f k rs rs) true := by
  unfold U5.f
  simp only [if_true]
  exact same_l0 hl hb rs.length 0 (by omega)
end Go.Proofs.YtfkmbjkmlfnapaaDoor.Pure
