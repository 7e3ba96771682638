import Derived.Test.YtmcegphcjphdcaaXAsQAx11
import Derived.Test.YtmcegphcjphdcaaXAsQAx18
import Derived.Test.YtmcegphcjphdcaaXAsNatA
set_option linter.unusedVariables false
set_option linter.unusedSimpArgs false
namespace Go.Proofs.Ytmcegphcjphdcaa.Pure
open Go.RowKit Go.Proofs.YtmcegphcjphdcaaW.PrintWords Go.Proofs.YtmcegphcjphdcaaW.PrintLast Go.Proofs.YtmcegphcjphdcaaW.PrintMore Go.Proofs.Ytmcegphcjphdcaa.QA
theorem heavy_ev' (ids its : List Int) (rows : List (List Int)) : ∃ b : Bool, U14.f ids its rows = some b := by
  unfold U14.f
  repeat' split
  all_goals exact ⟨_, rfl⟩
theorem bitLen_pos {n : Nat} (h : 1 ≤ n) (h' : n < 2 ^ 64) : 1 ≤ Lib.bitLen n := by
  rw [Lib.bitLen_half n (by omega) h']; omega
theorem bitLenAux_le : ∀ f x : Nat, Lib.bitLenAux f x ≤ f
  | 0, x => by rw [Lib.bitLenAux]; exact Nat.le_refl 0
  | f + 1, x => by
    rw [Lib.bitLenAux]
    have := bitLenAux_le f (x / 2)
    split <;> omega
theorem Bits_ev {a : Nat} (h1 : 1 ≤ a) (h : (toL a).length ≤ 100000) : ∃ b : Int, 0 < b ∧ Ev (fun k => U26.f k (toL a)) b := by
  have hp : 1 ≤ (toL a).length := by
    rcases Nat.eq_zero_or_pos (toL a).length with h0 | h0
    · have := toL_nil (List.eq_nil_of_length_eq_zero h0); omega
    · exact h0
  have hw : wrap64 (((toL a).length : Int) - 1) = (((toL a).length - 1 : Nat) : Int) := by rw [w64] <;> omega
  have hlt : (toL a).length - 1 < (toL a).length := by omega
  have hr := rd_lt hlt
  have h2 := (toL_Lm a).rd_ (((toL a).length - 1 : Nat) : Int)
  have h3 : rd (toL a) (((toL a).length - 1 : Nat) : Int) ≠ 0 := by
    rw [hr]
    have := toL_Tr a (fun e => by rw [e] at hp; simp at hp)
    rwa [List.getLast_eq_getElem] at this
  have h4 := bitLen_pos (n := (rd (toL a) (((toL a).length - 1 : Nat) : Int)).toNat) (by omega) (by omega)
  have h5 : Lib.bitLen (rd (toL a) (((toL a).length - 1 : Nat) : Int)).toNat ≤ 64 := bitLenAux_le 64 _
  refine ⟨32 * (((toL a).length - 1 : Nat) : Int) + (Lib.bitLen (rd (toL a) (((toL a).length - 1 : Nat) : Int)).toNat : Int), by omega, ?_⟩
  unfold U26.f
  refine Ev.bind (trim_ev (by omega) (toL_Lm a)) ?_
  rw [V_toL]
  have hw2 : wrap64 (32 * (((toL a).length - 1 : Nat) : Int)) = 32 * (((toL a).length - 1 : Nat) : Int) := by rw [w64] <;> omega
  have hw3 : wrap64 (32 * (((toL a).length - 1 : Nat) : Int) + (Lib.bitLen (rd (toL a) (((toL a).length - 1 : Nat) : Int)).toNat : Int)) = 32 * (((toL a).length - 1 : Nat) : Int) + (Lib.bitLen (rd (toL a) (((toL a).length - 1 : Nat) : Int)).toNat : Int) := by rw [w64] <;> omega
  simp only [show ¬ (((toL a).length : Int) = 0) by omega, if_false, hw, show (0 : Int) ≤ (((toL a).length - 1 : Nat) : Int) by omega, if_true, show (((toL a).length - 1 : Nat) : Int) < ((toL a).length : Int) by omega, bits_Len32.f, h2.1, show rd (toL a) (((toL a).length - 1 : Nat) : Int) ≤ 4294967295 by omega, Option.bind_some, hw2, hw3]
  exact Ev.now _
end Go.Proofs.Ytmcegphcjphdcaa.Pure
