import Derived.Test.YtmcegphcjphdcaaXAsQAx11
import Derived.Test.YtmcegphcjphdcaaXAsQAx12
import Derived.Test.YtmcegphcjphdcaaXAsQAx13
import Derived.Test.YtmcegphcjphdcaaXAsQAx14
import Derived.Test.YtmcegphcjphdcaaXAsQAx15
import Derived.Test.YtmcegphcjphdcaaXAsQAx16
import Derived.Test.YtmcegphcjphdcaaXAsQAx17
import Derived.Test.YtmcegphcjphdcaaXAsCalW
set_option linter.unusedVariables false
set_option linter.unusedSimpArgs false
namespace Go.Proofs.Ytmcegphcjphdcaa.Pure
open Go.RowKit Go.Proofs.YtmcegphcjphdcaaW.PrintWords Go.Proofs.YtmcegphcjphdcaaW.PrintLast Go.Proofs.YtmcegphcjphdcaaW.PrintMore Go.Proofs.Ytmcegphcjphdcaa.QA
def prev (xs : List Int) (i : Nat) : Int := if i = 0 then 0 else rd xs ((i - 1 : Nat) : Int)
theorem rise_cons (a b : Int) (l : List Int) : rise (a :: b :: l) = (decide (a < b) && rise (b :: l)) := by rw [rise]
theorem ris_l0 {xs : List Int} (hb : xs.length ≤ 4611686018427387904) : ∀ d i : Nat, i + d = xs.length → 0 ≤ prev xs i → Ev (fun k => U19.l0 k xs 1 xs (xs.length : Int) (i : Int)) (rise (prev xs i :: xs.drop i)) := by
  intro d
  induction d with
  | zero =>
    intro i hi hp
    refine Ev.succ ?_
    simp only [U19.l0, show ¬ ((i : Int) < (xs.length : Int)) by omega, if_false]
    rw [List.drop_eq_nil_of_le (by omega), rise]; exact Ev.now _
    simp
  | succ d ih =>
    intro i hi hp
    have hw : wrap64 ((i : Int) + 1) = ((i + 1 : Nat) : Int) := by rw [w64] <;> omega
    refine Ev.succ ?_
    simp only [U19.l0, show (i : Int) < (xs.length : Int) by omega, if_true, show (0 : Int) ≤ (i : Int) by omega, hw]
    rw [drop_rd (show i < xs.length by omega), rise_cons]
    have e : prev xs (i + 1) = rd xs (i : Int) := by unfold prev; rw [if_neg (by omega), Nat.add_sub_cancel]
    have hn := ih (i + 1) (by omega)
    rw [e] at hn
    by_cases h : rd xs (i : Int) < 1
    · simp only [if_pos h]
      exact evq (Ev.now _) (by rw [decide_eq_false (by omega), Bool.false_and])
    · simp only [if_neg h]
      by_cases h0 : i = 0
      · subst h0
        simp only [Int.natCast_zero, show ¬ ((0 : Int) > 0) by omega, if_false] at hn h ⊢
        have e0 : prev xs 0 = 0 := rfl
        rw [e0, decide_eq_true (by omega), Bool.true_and]
        exact hn (by omega)
      · have hw1 : wrap64 ((i : Int) - 1) = ((i - 1 : Nat) : Int) := by rw [w64] <;> omega
        have e1 : prev xs i = rd xs ((i - 1 : Nat) : Int) := by unfold prev; rw [if_neg h0]
        simp only [show (i : Int) > 0 by omega, if_true, hw1, show (0 : Int) ≤ ((i - 1 : Nat) : Int) by omega, show ((i - 1 : Nat) : Int) < (xs.length : Int) by omega]
        rw [← e1]
        by_cases h2 : rd xs (i : Int) ≤ prev xs i
        · simp only [if_pos h2]
          exact evq (Ev.now _) (by rw [decide_eq_false (by omega), Bool.false_and])
        · simp only [if_neg h2]
          rw [decide_eq_true (by omega), Bool.true_and]
          exact hn (by omega)
theorem ris_ev {xs : List Int} (hb : xs.length ≤ 4611686018427387904) : Ev (fun k => U19.f k xs 1) (rise (0 :: xs)) := by
  unfold U19.f
  exact ris_l0 hb xs.length 0 (by omega) (show (0 : Int) ≤ 0 from Int.le_refl 0)
def allLen (n : Nat) : List (List Int) → Bool
  | [] => true
  | r :: rs => decide (r.length = n) && allLen n rs
def shp (ids its : List Int) (rows : List (List Int)) : Bool := decide (rows.length = ids.length) && allLen its.length rows
theorem shape_l0 {ids its : List Int} {rows : List (List Int)} (hb : rows.length ≤ 4611686018427387904) : ∀ d i : Nat, i + d = rows.length → Ev (fun k => U20.l0 k rows (rows.length : Int) (i : Int) ids its rows) (allLen its.length (rows.drop i)) := by
  intro d
  induction d with
  | zero =>
    intro i hi
    refine Ev.succ ?_
    simp only [U20.l0, show ¬ ((i : Int) < (rows.length : Int)) by omega, if_false]
    rw [List.drop_eq_nil_of_le (by omega)]; exact Ev.now _
  | succ d ih =>
    intro i hi
    have hw : wrap64 ((i : Int) + 1) = ((i + 1 : Nat) : Int) := by rw [w64] <;> omega
    have hlt : i < rows.length := by omega
    have hrr : rd_L1 rows (i : Int) = rows[i] := by unfold rd_L1; rw [Int.toNat_natCast, getD_lt hlt]
    refine Ev.succ ?_
    simp only [U20.l0, show (i : Int) < (rows.length : Int) by omega, if_true, show (0 : Int) ≤ (i : Int) by omega, hw, hrr]
    rw [List.drop_eq_getElem_cons hlt, allLen]
    by_cases h : ((rows[i]).length : Int) = (its.length : Int)
    · simp only [if_pos h]
      rw [decide_eq_true (by omega), Bool.true_and]; exact ih (i + 1) (by omega)
    · simp only [if_neg h]
      exact evq (Ev.now _) (by rw [decide_eq_false (by omega), Bool.false_and])
theorem shape_ev {ids its : List Int} {rows : List (List Int)} (hb : rows.length ≤ 4611686018427387904) : Ev (fun k => U20.f k ids its rows) (shp ids its rows) := by
  unfold U20.f shp
  by_cases h : (rows.length : Int) = (ids.length : Int)
  · simp only [if_pos h]
    rw [decide_eq_true (by omega), Bool.true_and]
    exact shape_l0 hb rows.length 0 (by omega)
  · simp only [if_neg h]
    exact evq (Ev.now _) (by rw [decide_eq_false (by omega), Bool.false_and])
def catsOk (cs : List Int) : Bool := cs.all (fun c => decide (2 ≤ c ∧ c ≤ 6))
def cellOk : List Int → List Int → Bool
  | k :: ks, c :: cs => decide (-2 ≤ k ∧ k < c) && cellOk ks cs
  | _, _ => true
def cellsOk (rows : List (List Int)) (cs : List Int) : Bool := rows.all (fun r => cellOk r cs)
def mtErr (ids its : List Int) (rows : List (List Int)) (cs : List Int) : Int :=
  if ids.length > 200 ∨ its.length > 60 ∨ cs.length > 60 then 5 else if rise (0 :: ids) = true ∧ rise (0 :: its) = true then
    (if shp ids its rows = true ∧ cs.length = its.length then (if catsOk cs then (if cellsOk rows cs then 0 else 3) else 1) else 1) else 23
theorem cell_l2 {cs : List Int} {rows : List (List Int)} {row : List Int} (hc : cs.length ≤ 60) (hr : row.length = cs.length) {r : Nat} {R : Int}
    (hk : cellOk row cs = true → Ev (fun k => U18.l1 k cs rows (rows.length : Int) (wrap64 ((r : Int) + 1))) R) : ∀ d i : Nat, i + d = row.length → (cellOk (row.drop i) (cs.drop i) = cellOk row cs) →
    Ev (fun k => U18.l2 k cs rows (rows.length : Int) (r : Int) row (row.length : Int) (i : Int)) (if cellOk row cs then R else 3) := by
  intro d
  induction d with
  | zero =>
    intro i hi he
    refine Ev.succ ?_
    simp only [U18.l2, show ¬ ((i : Int) < (row.length : Int)) by omega, if_false]
    have : cellOk row cs = true := by rw [← he, List.drop_eq_nil_of_le (by omega), cellOk]; simp
    rw [if_pos this]; exact hk this
  | succ d ih =>
    intro i hi he
    have hw : wrap64 ((i : Int) + 1) = ((i + 1 : Nat) : Int) := by rw [w64] <;> omega
    refine Ev.succ ?_
    simp only [U18.l2, show (i : Int) < (row.length : Int) by omega, if_true, show (0 : Int) ≤ (i : Int) by omega, hw, show (i : Int) < (cs.length : Int) by omega]
    rw [drop_rd (show i < row.length by omega), drop_rd (show i < cs.length by omega), cellOk] at he
    by_cases h : rd row (i : Int) < -2
    · simp only [if_pos h]
      rw [decide_eq_false (by omega), Bool.false_and] at he
      exact evq (Ev.now _) (by rw [← he]; simp)
    · simp only [if_neg h]
      by_cases h2 : rd row (i : Int) ≥ rd cs (i : Int)
      · simp only [if_pos h2]
        rw [decide_eq_false (by omega), Bool.false_and] at he
        exact evq (Ev.now _) (by rw [← he]; simp)
      · simp only [if_neg h2]
        rw [decide_eq_true (by omega), Bool.true_and] at he
        exact ih (i + 1) (by omega) he
theorem cell_l1 {cs : List Int} {rows : List (List Int)} (hb : rows.length ≤ 4611686018427387904) (hc : cs.length ≤ 60) (hr : ∀ r ∈ rows, r.length = cs.length) : ∀ d i : Nat, i + d = rows.length →
    Ev (fun k => U18.l1 k cs rows (rows.length : Int) (i : Int)) (if cellsOk (rows.drop i) cs then 0 else 3) := by
  intro d
  induction d with
  | zero =>
    intro i hi
    refine Ev.succ ?_
    simp only [U18.l1, show ¬ ((i : Int) < (rows.length : Int)) by omega, if_false]
    rw [List.drop_eq_nil_of_le (by omega)]; exact Ev.now _
  | succ d ih =>
    intro i hi
    have hw : wrap64 ((i : Int) + 1) = ((i + 1 : Nat) : Int) := by rw [w64] <;> omega
    have hlt : i < rows.length := by omega
    have hrr : rd_L1 rows (i : Int) = rows[i] := by unfold rd_L1; rw [Int.toNat_natCast, getD_lt hlt]
    refine Ev.succ ?_
    simp only [U18.l1, show (i : Int) < (rows.length : Int) by omega, if_true, show (0 : Int) ≤ (i : Int) by omega, hrr]
    refine evq (cell_l2 (R := if cellsOk (rows.drop (i + 1)) cs then 0 else 3) hc (hr _ (List.getElem_mem hlt)) (fun _ => by rw [hw]; exact ih (i + 1) (by omega)) (rows[i]).length 0 (by omega) rfl) ?_
    rw [List.drop_eq_getElem_cons hlt]
    unfold cellsOk
    rw [List.all_cons]
    by_cases h : cellOk rows[i] cs = true
    · rw [if_pos h, h, Bool.true_and]
    · rw [if_neg h, Bool.eq_false_iff.2 h, Bool.false_and]; rfl
theorem cats_l0 {ids its cs : List Int} {rows : List (List Int)} (hb : rows.length ≤ 4611686018427387904) (hc : cs.length ≤ 60) (hr : ∀ r ∈ rows, r.length = cs.length) : ∀ d i : Nat, i + d = cs.length →
    Ev (fun k => U18.l0 k cs cs (cs.length : Int) (i : Int) ids its rows) (if catsOk (cs.drop i) then (if cellsOk rows cs then 0 else 3) else 1) := by
  intro d
  induction d with
  | zero =>
    intro i hi
    refine Ev.succ ?_
    simp only [U18.l0, show ¬ ((i : Int) < (cs.length : Int)) by omega, if_false]
    rw [List.drop_eq_nil_of_le (by omega)]; exact cell_l1 hb hc hr rows.length 0 (by omega)
  | succ d ih =>
    intro i hi
    have hw : wrap64 ((i : Int) + 1) = ((i + 1 : Nat) : Int) := by rw [w64] <;> omega
    refine Ev.succ ?_
    simp only [U18.l0, show (i : Int) < (cs.length : Int) by omega, if_true, show (0 : Int) ≤ (i : Int) by omega, hw]
    rw [drop_rd (show i < cs.length by omega)]
    unfold catsOk
    rw [List.all_cons]
    by_cases h : rd cs (i : Int) < 2
    · simp only [if_pos h]
      exact evq (Ev.now _) (by rw [decide_eq_false (by omega), Bool.false_and]; rfl)
    · simp only [if_neg h]
      by_cases h2 : rd cs (i : Int) > 6
      · simp only [if_pos h2]
        exact evq (Ev.now _) (by rw [decide_eq_false (by omega), Bool.false_and]; rfl)
      · simp only [if_neg h2]
        rw [decide_eq_true (by omega), Bool.true_and]
        exact ih (i + 1) (by omega)
theorem allLen_ok : ∀ {n : Nat} {rows : List (List Int)}, allLen n rows = true → ∀ r ∈ rows, r.length = n
  | n, [], _, r, hr => by cases hr
  | n, a :: rows, h, r, hr => by
    rw [allLen, Bool.and_eq_true, decide_eq_true_eq] at h
    rcases List.mem_cons.1 hr with rfl | hr
    · exact h.1
    · exact allLen_ok h.2 r hr
theorem shp_ok {ids its : List Int} {rows : List (List Int)} (h : shp ids its rows = true) : rows.length = ids.length ∧ ∀ r ∈ rows, r.length = its.length := by
  unfold shp at h
  rw [Bool.and_eq_true, decide_eq_true_eq] at h
  exact ⟨h.1, allLen_ok h.2⟩
theorem mvalid_j0 {ids its cs : List Int} {rows : List (List Int)} (h1 : ids.length ≤ 200) (h2 : its.length ≤ 60) (h3 : cs.length ≤ 60) (hi : ids.length ≤ 4611686018427387904) (hj : its.length ≤ 4611686018427387904) (hb : rows.length ≤ 4611686018427387904) :
    Ev (fun k => U18.j0 k cs false ids its rows) (mtErr ids its rows cs) := by
  unfold mtErr
  rw [if_neg (by omega)]
  refine Ev.succ ?_
  simp only [U18.j0, Bool.false_eq_true, if_false]
  refine Ev.bind (ris_ev hi) ?_
  have j1 : ∀ b : Bool, b = true → Ev (fun k => U18.j1 k cs b ids its rows) 23 := by
    intro b hb'
    refine Ev.succ ?_
    simp only [U18.j1, hb', if_true]; exact Ev.now _
  have j2 : ∀ b : Bool, b = true → Ev (fun k => U18.j2 k cs b ids its rows) 1 := by
    intro b hb'
    refine Ev.succ ?_
    simp only [U18.j2, hb', if_true]; exact Ev.now _
  by_cases r1 : rise (0 :: ids) = true
  · simp only [if_pos r1]
    refine Ev.bind (ris_ev hj) ?_
    by_cases r2 : rise (0 :: its) = true
    · rw [if_pos ⟨r1, r2⟩, r2]
      refine Ev.succ ?_
      simp only [U18.j1, Bool.not_true, Bool.false_eq_true, if_false]
      refine Ev.bind (shape_ev hb) ?_
      by_cases s1 : shp ids its rows = true
      · simp only [if_pos s1]
        by_cases s2 : cs.length = its.length
        · rw [if_pos ⟨s1, s2⟩]
          have e : ((cs.length : Int) != (its.length : Int)) = false := by rw [s2]; simp
          refine Ev.succ ?_
          simp only [U18.j2, e, Bool.false_eq_true, if_false]
          exact cats_l0 hb h3 (fun r hr => by rw [(shp_ok s1).2 r hr, s2]) cs.length 0 (by omega)
        · rw [if_neg (fun h => s2 h.2)]
          exact j2 _ (bne_iff_ne.2 (by omega))
      · simp only [if_neg s1]
        rw [if_neg (fun h => s1 h.1)]
        exact j2 _ rfl
    · rw [if_neg (fun h => r2 h.2)]
      exact j1 _ (by rw [Bool.eq_false_iff.2 r2]; rfl)
  · simp only [if_neg r1]
    rw [if_neg (fun h => r1 h.1)]
    exact j1 _ rfl
theorem mtv_ev {ids its cs : List Int} {rows : List (List Int)} (hb : rows.length ≤ 4611686018427387904) : Ev (fun k => U18.f k ids its rows cs) (mtErr ids its rows cs) := by
  have jt : ∀ b : Bool, b = true → (ids.length > 200 ∨ its.length > 60 ∨ cs.length > 60) → Ev (fun k => U18.j0 k cs b ids its rows) (mtErr ids its rows cs) := by
    intro b hb' h
    unfold mtErr
    rw [if_pos h]
    refine Ev.succ ?_
    simp only [U18.j0, hb', if_true]; exact Ev.now _
  unfold U18.f
  by_cases h1 : (ids.length : Int) > 200
  · simp only [if_pos h1]; exact jt _ rfl (by omega)
  · by_cases h2 : (its.length : Int) > 60
    · simp only [if_neg h1, if_pos h2]; exact jt _ rfl (by omega)
    · simp only [if_neg h1, if_neg h2]
      by_cases h3 : (cs.length : Int) > 60
      · exact jt _ (decide_eq_true h3) (by omega)
      · rw [decide_eq_false h3]
        exact mvalid_j0 (by omega) (by omega) (by omega) (by omega) (by omega) hb
def cats (ms : List S56) : List Int := ms.map (fun m => cat m.f0)
theorem cats_len (ms : List S56) : (cats ms).length = ms.length := by simp [cats]
theorem ccat_l0 {ms : List S56} (hs : ms.length ≤ 60) : ∀ d i : Nat, i + d = ms.length → Ev (fun k => U2.l0 k (cats (ms.take i) ++ List.replicate d 0) ms (ms.length : Int) (i : Int)) (cats ms) := by
  intro d
  induction d with
  | zero =>
    intro i hi
    refine Ev.succ ?_
    simp only [U2.l0, show ¬ ((i : Int) < (ms.length : Int)) by omega, if_false]
    exact evq (Ev.now _) (by rw [List.take_of_length_le (by omega)]; simp)
  | succ d ih =>
    intro i hi
    have hw : wrap64 ((i : Int) + 1) = ((i + 1 : Nat) : Int) := by rw [w64] <;> omega
    have hlt : i < ms.length := by omega
    have hl : (cats (ms.take i)).length = i := by rw [cats_len, List.length_take]; omega
    refine Ev.succ ?_
    simp only [U2.l0, show (i : Int) < (ms.length : Int) by omega, if_true, show (0 : Int) ≤ (i : Int) by omega, hw, rdM_lt hlt, cat_eq, Option.bind_some, show (i : Int) < (((cats (ms.take i) ++ List.replicate (d + 1) 0).length : Nat) : Int) by rw [List.length_append, List.length_replicate, hl]; omega, Int.toNat_natCast]
    have e : (cats (ms.take i) ++ List.replicate (d + 1) 0).set i (cat (ms[i]).f0) = cats (ms.take (i + 1)) ++ List.replicate d 0 := by
      rw [List.set_append_right _ _ (by omega), hl, Nat.sub_self, List.replicate_succ, List.set_cons_zero, List.take_succ_eq_append_getElem hlt]
      unfold cats; rw [List.map_append]; simp
    rw [e]; exact ih (i + 1) (by omega)
theorem ccat_ev {ms : List S56} (hs : ms.length ≤ 60) : Ev (fun k => U2.f k ms) (cats ms) := by
  unfold U2.f
  simp only [show (0 : Int) ≤ (ms.length : Int) by omega, if_true, Int.toNat_natCast, show ms.length ≤ 35184372088832 by omega]
  exact ccat_l0 hs ms.length 0 (by omega)
theorem mtErr_ok {ids its cs : List Int} {rows : List (List Int)} (h : mtErr ids its rows cs = 0) : ids.length ≤ 200 ∧ its.length ≤ 60 ∧ rows.length = ids.length ∧ cs.length = its.length ∧ (∀ r ∈ rows, r.length = its.length) ∧ (∀ r ∈ rows, cellOk r cs = true) := by
  unfold mtErr at h
  by_cases h1 : ids.length > 200 ∨ its.length > 60 ∨ cs.length > 60
  · rw [if_pos h1] at h; omega
  · rw [if_neg h1] at h
    by_cases h2 : rise (0 :: ids) = true ∧ rise (0 :: its) = true
    · rw [if_pos h2] at h
      by_cases h3 : shp ids its rows = true ∧ cs.length = its.length
      · rw [if_pos h3] at h
        by_cases h4 : catsOk cs = true
        · rw [if_pos h4] at h
          by_cases h5 : cellsOk rows cs = true
          · exact ⟨by omega, by omega, (shp_ok h3.1).1, h3.2, (shp_ok h3.1).2, fun r hr => List.all_eq_true.1 h5 r hr⟩
          · rw [if_neg h5] at h; omega
        · rw [if_neg h4] at h; omega
      · rw [if_neg h3] at h; omega
    · rw [if_neg h2] at h; omega
end Go.Proofs.Ytmcegphcjphdcaa.Pure
