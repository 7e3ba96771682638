import Derived.Test.YtmcegphcjphdcaaXSwQAx21
import Derived.Test.YtmcegphcjphdcaaXSwQAx26
import Derived.Test.YtmcegphcjphdcaaXSwOpt
set_option linter.unusedVariables false
set_option linter.unusedSimpArgs false
namespace Go.Proofs.Ytmcegphcjphdcaa.Pure
open Go.RowKit Go.Proofs.YtmcegphcjphdcaaW.PrintWords Go.Proofs.YtmcegphcjphdcaaW.PrintLast Go.Proofs.YtmcegphcjphdcaaW.PrintMore Go.Proofs.Ytmcegphcjphdcaa.QA
def SzF (fs : List (List S56)) : Prop := fs.length ≤ 4611686018427387904 ∧ ∀ l ∈ fs, Sz l
theorem wf_SzF {fs : List (List S56)} (h : wf43 fs) : SzF fs := ⟨by have := h.1; omega, fun l hl => wf_Sz (h.2 l hl)⟩
def fa (fs : List (List S56)) (i : Nat) : List S56 := rd_L6 fs (i : Int)
theorem fa_lt {fs : List (List S56)} {i : Nat} (h : i < fs.length) : fa fs i = fs[i] := by unfold fa rd_L6; rw [Int.toNat_natCast, getD_lt h]
theorem SzF.fa {fs : List (List S56)} (h : SzF fs) {i : Nat} (hi : i < fs.length) : Sz (fa fs i) := by rw [fa_lt hi]; exact h.2 _ (List.getElem_mem hi)
def famsErr : List (List S56) → Int → Int
  | [], _ => 0
  | l :: t, n => if famErr l n = 0 then famsErr t n else famErr l n
def firsts (fs : List (List S56)) : List S56 := fs.map (fun l => mo l 0)
def wideF (fs : List (List S56)) : Bool := fs.any (fun l => decide (l.length > 24))
def choN (fs : List (List S56)) (ch : List Int) : Nat → Nat → Int
  | _, 0 => 0
  | i, d + 1 => if 0 ≤ rd ch (i : Int) ∧ rd ch (i : Int) < ((fa fs i).length : Int) then choN fs ch (i + 1) d else 3
theorem choN_iff {fs : List (List S56)} {ch : List Int} : ∀ d i, choN fs ch i d = 0 ↔ ∀ j : Nat, i ≤ j → j < i + d → 0 ≤ rd ch (j : Int) ∧ rd ch (j : Int) < ((fa fs j).length : Int)
  | 0, i => by
    rw [choN]
    exact ⟨fun _ j h1 h2 => absurd h2 (by omega), fun _ => rfl⟩
  | d + 1, i => by
    rw [choN]
    by_cases c : 0 ≤ rd ch (i : Int) ∧ rd ch (i : Int) < ((fa fs i).length : Int)
    · rw [if_pos c, choN_iff d (i + 1)]
      constructor
      · intro h' j h1 h2
        by_cases e : j = i
        · subst e; exact c
        · exact h' j (by omega) (by omega)
      · exact fun h j h1 h2 => h j (by omega) (by omega)
    · rw [if_neg c]
      exact ⟨fun h => absurd h (by decide), fun h => absurd (h i (Nat.le_refl _) (by omega)) c⟩
def checkN (ps pr ids its : List Int) (rows : List (List Int)) (fs : List (List S56)) (ch : List Int) : Int :=
  if gErr ps pr = 0 then (if fs.length > 60 then 5 else if wideF fs = true then 5 else if fs.length = its.length ∧ ch.length = its.length then
    (if famsErr fs (ps.length : Int) = 0 then (if mtErr ids its rows (cats (firsts fs)) = 0 then choN fs ch 0 ch.length else mtErr ids its rows (cats (firsts fs))) else famsErr fs (ps.length : Int)) else 1) else gErr ps pr
structure Ok (ps pr ids its : List Int) (rows : List (List Int)) (fs : List (List S56)) (ch : List Int) : Prop where
  g : gErr ps pr = 0
  n60 : fs.length ≤ 60
  n24 : ∀ i : Nat, i < fs.length → (fa fs i).length ≤ 24
  li : fs.length = its.length
  lc : ch.length = fs.length
  fam : ∀ i : Nat, i < fs.length → famErr (fa fs i) (ps.length : Int) = 0
  mt : mtErr ids its rows (cats (firsts fs)) = 0
  ch : ∀ i : Nat, i < fs.length → 0 ≤ rd ch (i : Int) ∧ rd ch (i : Int) < ((fa fs i).length : Int)
theorem famsErr_iff : ∀ {fs : List (List S56)} {n : Int}, famsErr fs n = 0 ↔ ∀ l ∈ fs, famErr l n = 0
  | [], n => ⟨fun _ l hl => (by cases hl), fun _ => rfl⟩
  | l :: t, n => by
    rw [famsErr]
    by_cases h : famErr l n = 0
    · rw [if_pos h, famsErr_iff]
      exact ⟨fun h' x hx => (List.mem_cons.1 hx).elim (fun e => e ▸ h) (fun e => h' x e), fun h' x hx => h' x (List.mem_cons_of_mem _ hx)⟩
    · rw [if_neg h]
      exact ⟨fun h' => absurd h' h, fun h' => absurd (h' l List.mem_cons_self) h⟩
theorem wideF_iff {fs : List (List S56)} : wideF fs = true ↔ ∃ l ∈ fs, l.length > 24 := by
  unfold wideF; rw [List.any_eq_true]; simp
theorem fa_all {fs : List (List S56)} {P : List S56 → Prop} : (∀ l ∈ fs, P l) ↔ ∀ i : Nat, i < fs.length → P (fa fs i) :=
  ⟨fun h i hi => by rw [fa_lt hi]; exact h _ (List.getElem_mem hi), fun h l hl => by obtain ⟨i, hi, rfl⟩ := List.getElem_of_mem hl; have := h i hi; rwa [fa_lt hi] at this⟩
theorem check_iff {ps pr ids its : List Int} {rows : List (List Int)} {fs : List (List S56)} {ch : List Int} : checkN ps pr ids its rows fs ch = 0 ↔ Ok ps pr ids its rows fs ch := by
  unfold checkN
  constructor
  · intro h
    by_cases g : gErr ps pr = 0
    · rw [if_pos g] at h
      by_cases h1 : fs.length > 60
      · rw [if_pos h1] at h; exact absurd h (by decide)
      · rw [if_neg h1] at h
        by_cases h2 : wideF fs = true
        · rw [if_pos h2] at h; exact absurd h (by decide)
        · rw [if_neg h2] at h
          by_cases h3 : fs.length = its.length ∧ ch.length = its.length
          · rw [if_pos h3] at h
            by_cases h4 : famsErr fs (ps.length : Int) = 0
            · rw [if_pos h4] at h
              by_cases h5 : mtErr ids its rows (cats (firsts fs)) = 0
              · rw [if_pos h5] at h
                have h24 : ∀ l ∈ fs, l.length ≤ 24 := fun l hl => by
                    by_cases c : l.length ≤ 24
                    · exact c
                    · exact absurd (wideF_iff.2 ⟨l, hl, by omega⟩) h2
                exact ⟨g, by omega, (fa_all (P := fun l => l.length ≤ 24)).1 h24, h3.1, by omega, (fa_all (P := fun l => famErr l (ps.length : Int) = 0)).1 (famsErr_iff.1 h4), h5, fun i hi => (choN_iff _ _).1 h i (Nat.zero_le _) (by omega)⟩
              · rw [if_neg h5] at h; exact absurd h h5
            · rw [if_neg h4] at h; exact absurd h h4
          · rw [if_neg h3] at h; exact absurd h (by decide)
    · rw [if_neg g] at h; exact absurd h g
  · intro ⟨g, n60, n24, li, lc, fam, mt, ch'⟩
    have h2 : ¬ wideF fs = true := fun h => by
      obtain ⟨l, hl, h'⟩ := wideF_iff.1 h
      have := (fa_all (P := fun l => l.length ≤ 24)).2 n24 l hl
      omega
    rw [if_pos g, if_neg (by omega), if_neg h2, if_pos ⟨li, by omega⟩, if_pos (famsErr_iff.2 ((fa_all (P := fun l => famErr l (ps.length : Int) = 0)).2 fam)), if_pos mt, (choN_iff _ _).2 (fun j _ hj => ch' j (by omega))]
theorem chk_l2 {fs : List (List S56)} {ch : List Int} (hl : ch.length = fs.length) (hb : fs.length ≤ 60) : ∀ d i : Nat, i + d = ch.length → Ev (fun k => U2.l2 k fs ch (ch.length : Int) (i : Int)) (choN fs ch i d) := by
  intro d
  induction d with
  | zero =>
    intro i hi
    refine Ev.succ ?_
    simp only [U2.l2, show ¬ ((i : Int) < (ch.length : Int)) by omega, if_false, choN]; exact Ev.now _
  | succ d ih =>
    intro i hi
    have hw : wrap64 ((i : Int) + 1) = ((i + 1 : Nat) : Int) := by rw [w64] <;> omega
    have hfa : rd_L6 fs (i : Int) = fa fs i := rfl
    refine Ev.succ ?_
    simp only [U2.l2, show (i : Int) < (ch.length : Int) by omega, show (i : Int) < (fs.length : Int) by omega, if_true, show (0 : Int) ≤ (i : Int) by omega, hw, hfa, choN]
    by_cases h0 : rd ch (i : Int) < 0
    · simp only [if_pos h0]; rw [if_neg (by omega)]; exact Ev.now _
    · simp only [if_neg h0]
      by_cases h1 : rd ch (i : Int) ≥ ((fa fs i).length : Int)
      · simp only [if_pos h1]; rw [if_neg (by omega)]; exact Ev.now _
      · simp only [if_neg h1]; rw [if_pos (by omega)]; exact ih (i + 1) (by omega)
theorem rchk_l2 {fs : List (List S56)} {ch : List Int} (hl : ch.length = fs.length) (hb : fs.length ≤ 60) : ∀ d i : Nat, i + d = ch.length → Ev (fun k => U32.l2 k fs ch (i : Int)) (choN fs ch i d) := by
  intro d
  induction d with
  | zero =>
    intro i hi
    refine Ev.succ ?_
    simp only [U32.l2, show ¬ ((i : Int) < (ch.length : Int)) by omega, if_false, choN]; exact Ev.now _
  | succ d ih =>
    intro i hi
    have hw : wrap64 ((i : Int) + 1) = ((i + 1 : Nat) : Int) := by rw [w64] <;> omega
    have hfa : rd_L6 fs (i : Int) = fa fs i := rfl
    refine Ev.succ ?_
    simp only [U32.l2, show (i : Int) < (ch.length : Int) by omega, show (i : Int) < (fs.length : Int) by omega, if_true, show (0 : Int) ≤ (i : Int) by omega, hw, hfa, choN]
    by_cases h0 : rd ch (i : Int) < 0
    · simp only [if_pos h0]; rw [if_neg (by omega)]; exact Ev.now _
    · simp only [if_neg h0]
      by_cases h1 : rd ch (i : Int) ≥ ((fa fs i).length : Int)
      · simp only [if_pos h1]; rw [if_neg (by omega)]; exact Ev.now _
      · simp only [if_neg h1]; rw [if_pos (by omega)]; exact ih (i + 1) (by omega)
theorem firsts_take {fs : List (List S56)} {i : Nat} (h : i < fs.length) : firsts (fs.take (i + 1)) = firsts (fs.take i) ++ [mo (fa fs i) 0] := by
  unfold firsts; rw [List.take_succ_eq_append_getElem h, List.map_append, List.map_singleton, fa_lt h]
theorem cats_app (a b : List S56) : cats (a ++ b) = cats a ++ cats b := by unfold cats; rw [List.map_append]
theorem firsts_len (fs : List (List S56)) : (firsts fs).length = fs.length := by simp [firsts]
theorem chk_l1 {ps pr ids its : List Int} {rows : List (List Int)} {fs : List (List S56)} {ch : List Int} {Y : Int} (hz : SzF fs) (hb : fs.length ≤ 60)
    (hY : Ev (fun k => (U41.f k ids its rows (cats (firsts fs))).bind fun t => (if t = 0 then (U2.l2 k fs ch (ch.length : Int) 0) else (some t))) Y) : ∀ d i : Nat, i + d = fs.length →
    Ev (fun k => U2.l1 k fs ch (cats (firsts (fs.take i))) fs (fs.length : Int) (i : Int) ps pr ids its rows) (if famsErr (fs.drop i) (ps.length : Int) = 0 then Y else famsErr (fs.drop i) (ps.length : Int)) := by
  intro d
  induction d with
  | zero =>
    intro i hi
    refine Ev.succ ?_
    simp only [U2.l1, show ¬ ((i : Int) < (fs.length : Int)) by omega, if_false]
    rw [List.drop_eq_nil_of_le (by omega), List.take_of_length_le (by omega), famsErr, if_pos rfl]
    exact hY
  | succ d ih =>
    intro i hi
    have hw : wrap64 ((i : Int) + 1) = ((i + 1 : Nat) : Int) := by rw [w64] <;> omega
    have hlt : i < fs.length := by omega
    have hfa : rd_L6 fs (i : Int) = fa fs i := rfl
    have hlen : (cats (firsts (fs.take i))).length < 17592186044416 := by rw [cats_len, firsts_len, List.length_take]; omega
    refine Ev.succ ?_
    simp only [U2.l1, show (i : Int) < (fs.length : Int) by omega, if_true, show (0 : Int) ≤ (i : Int) by omega, hw, hfa, hlen]
    refine Ev.bind (fam_ev (hz.fa hlt) _) ?_
    rw [List.drop_eq_getElem_cons hlt, famsErr, ← fa_lt hlt]
    by_cases h : famErr (fa fs i) (ps.length : Int) = 0
    · have h0 := (famErr_ok h).1
      simp only [if_pos h, show (0 : Int) < ((fa fs i).length : Int) by omega, if_true, cat_eq, Option.bind_some]
      have := ih (i + 1) (by omega)
      rw [firsts_take hlt, cats_app] at this
      exact this
    · simp only [if_neg h]; exact Ev.now _
theorem rchk_l1 {ps pr ids its : List Int} {rows : List (List Int)} {fs : List (List S56)} {ch : List Int} {Y : Int} (hz : SzF fs) (hb : fs.length ≤ 60)
    (hY : Ev (fun k => (U31.f k (firsts fs)).bind fun c => ((U25.f k ids its rows c).bind fun t => (if t = 0 then (U32.l2 k fs ch 0) else (some t)))) Y) : ∀ d i : Nat, i + d = fs.length →
    Ev (fun k => U32.l1 k fs ch (firsts (fs.take i)) (i : Int) ps pr ids its rows) (if famsErr (fs.drop i) (ps.length : Int) = 0 then Y else famsErr (fs.drop i) (ps.length : Int)) := by
  intro d
  induction d with
  | zero =>
    intro i hi
    refine Ev.succ ?_
    simp only [U32.l1, show ¬ ((i : Int) < (fs.length : Int)) by omega, if_false]
    rw [List.drop_eq_nil_of_le (by omega), List.take_of_length_le (by omega), famsErr, if_pos rfl]
    exact hY
  | succ d ih =>
    intro i hi
    have hw : wrap64 ((i : Int) + 1) = ((i + 1 : Nat) : Int) := by rw [w64] <;> omega
    have hlt : i < fs.length := by omega
    have hfa : rd_L6 fs (i : Int) = fa fs i := rfl
    have hlen : (firsts (fs.take i)).length < 5864062014805 := by rw [firsts_len, List.length_take]; omega
    refine Ev.succ ?_
    simp only [U32.l1, show (i : Int) < (fs.length : Int) by omega, if_true, show (0 : Int) ≤ (i : Int) by omega, hw, hfa, hlen]
    refine Ev.bind (rfam_ev (hz.fa hlt) _) ?_
    rw [List.drop_eq_getElem_cons hlt, famsErr, ← fa_lt hlt]
    by_cases h : famErr (fa fs i) (ps.length : Int) = 0
    · have h0 := (famErr_ok h).1
      simp only [if_pos h, show (0 : Int) < ((fa fs i).length : Int) by omega, if_true]
      have := ih (i + 1) (by omega)
      rw [firsts_take hlt] at this
      exact this
    · simp only [if_neg h]; exact Ev.now _
theorem wideF_drop {fs : List (List S56)} {i : Nat} (h : i < fs.length) : wideF (fs.drop i) = (decide ((fa fs i).length > 24) || wideF (fs.drop (i + 1))) := by
  unfold wideF; rw [List.drop_eq_getElem_cons h, List.any_cons, fa_lt h]
theorem chk_l0 {ps pr ids its : List Int} {rows : List (List Int)} {fs : List (List S56)} {ch : List Int} {X : Int} (hb : fs.length ≤ 60)
    (hX : Ev (fun k => if (fs.length : Int) = (its.length : Int) then (U2.j1 k fs ch ((ch.length : Int) != (its.length : Int)) ps pr ids its rows) else (U2.j1 k fs ch true ps pr ids its rows)) X) : ∀ d i : Nat, i + d = fs.length →
    Ev (fun k => U2.l0 k fs ch fs (fs.length : Int) (i : Int) ps pr ids its rows) (if wideF (fs.drop i) = true then 5 else X) := by
  intro d
  induction d with
  | zero =>
    intro i hi
    refine Ev.succ ?_
    simp only [U2.l0, show ¬ ((i : Int) < (fs.length : Int)) by omega, if_false]
    rw [List.drop_eq_nil_of_le (by omega), if_neg (by simp [wideF])]
    exact hX
  | succ d ih =>
    intro i hi
    have hw : wrap64 ((i : Int) + 1) = ((i + 1 : Nat) : Int) := by rw [w64] <;> omega
    have hlt : i < fs.length := by omega
    have hfa : rd_L6 fs (i : Int) = fa fs i := rfl
    refine Ev.succ ?_
    simp only [U2.l0, show (i : Int) < (fs.length : Int) by omega, if_true, show (0 : Int) ≤ (i : Int) by omega, hw, hfa]
    rw [wideF_drop hlt]
    by_cases h : (fa fs i).length > 24
    · simp only [show ((fa fs i).length : Int) > 24 by omega, if_true]; rw [decide_eq_true h, Bool.true_or, if_pos rfl]; exact Ev.now _
    · simp only [show ¬ (((fa fs i).length : Int) > 24) by omega, if_false]; rw [decide_eq_false h, Bool.false_or]; exact ih (i + 1) (by omega)
theorem rchk_l0 {ps pr ids its : List Int} {rows : List (List Int)} {fs : List (List S56)} {ch : List Int} {X : Int} (hb : fs.length ≤ 60)
    (hX : Ev (fun k => if (fs.length : Int) = (its.length : Int) then (U32.j1 k fs ch ((ch.length : Int) != (its.length : Int)) ps pr ids its rows) else (U32.j1 k fs ch true ps pr ids its rows)) X) : ∀ d i : Nat, i + d = fs.length →
    Ev (fun k => U32.l0 k fs ch (i : Int) ps pr ids its rows) (if wideF (fs.drop i) = true then 5 else X) := by
  intro d
  induction d with
  | zero =>
    intro i hi
    refine Ev.succ ?_
    simp only [U32.l0, show ¬ ((i : Int) < (fs.length : Int)) by omega, if_false]
    rw [List.drop_eq_nil_of_le (by omega), if_neg (by simp [wideF])]
    exact hX
  | succ d ih =>
    intro i hi
    have hw : wrap64 ((i : Int) + 1) = ((i + 1 : Nat) : Int) := by rw [w64] <;> omega
    have hlt : i < fs.length := by omega
    have hfa : rd_L6 fs (i : Int) = fa fs i := rfl
    refine Ev.succ ?_
    simp only [U32.l0, show (i : Int) < (fs.length : Int) by omega, if_true, show (0 : Int) ≤ (i : Int) by omega, hw, hfa]
    rw [wideF_drop hlt]
    by_cases h : (fa fs i).length > 24
    · simp only [show ((fa fs i).length : Int) > 24 by omega, if_true]; rw [decide_eq_true h, Bool.true_or, if_pos rfl]; exact Ev.now _
    · simp only [show ¬ (((fa fs i).length : Int) > 24) by omega, if_false]; rw [decide_eq_false h, Bool.false_or]; exact ih (i + 1) (by omega)
theorem check_ev {ps pr : List Int} (ids its : List Int) {rows : List (List Int)} {fs : List (List S56)} (ch : List Int) (hz : SzF fs) (hb : rows.length ≤ 4611686018427387904) : Ev (fun k => U2.f k ps pr ids its rows fs ch) (checkN ps pr ids its rows fs ch) := by
  unfold U2.f checkN
  refine Ev.bind (grid_ev ps pr) ?_
  by_cases g : gErr ps pr = 0
  · simp only [if_pos g]
    by_cases h1 : fs.length > 60
    · simp only [if_pos h1, show (fs.length : Int) > 60 by omega, if_true]; exact Ev.now _
    · simp only [if_neg h1, show ¬ ((fs.length : Int) > 60) by omega, if_false]
      refine chk_l0 (by omega) ?_ fs.length 0 (by omega)
      have jt : ∀ b : Bool, b = true → Ev (fun k => U2.j1 k fs ch b ps pr ids its rows) 1 := by
        intro b hb'
        refine Ev.succ ?_
        simp only [U2.j1, hb', if_true]; exact Ev.now _
      by_cases h2 : fs.length = its.length
      · simp only [show (fs.length : Int) = (its.length : Int) by omega, if_true]
        by_cases h3 : ch.length = its.length
        · rw [if_pos ⟨h2, h3⟩, bne_eq_false_iff_eq.2 (show (ch.length : Int) = (its.length : Int) by omega)]
          refine Ev.succ ?_
          simp only [U2.j1, Bool.false_eq_true, if_false]
          have := chk_l1 (ps := ps) (pr := pr) (ids := ids) (its := its) (rows := rows) (ch := ch) (Y := if mtErr ids its rows (cats (firsts fs)) = 0 then choN fs ch 0 ch.length else mtErr ids its rows (cats (firsts fs))) hz (by omega) ?_ fs.length 0 (by omega)
          · exact this
          · refine Ev.bind (mtv_ev hb) ?_
            by_cases hm : mtErr ids its rows (cats (firsts fs)) = 0
            · simp only [if_pos hm]; exact chk_l2 (by omega) (by omega) ch.length 0 (by omega)
            · simp only [if_neg hm]; exact Ev.now _
        · rw [if_neg (fun h => h3 h.2)]; exact jt _ (bne_iff_ne.2 (by omega))
      · simp only [show ¬ ((fs.length : Int) = (its.length : Int)) by omega, if_false]
        rw [if_neg (fun h => h2 h.1)]; exact jt _ rfl
  · simp only [if_neg g]; exact Ev.now _
theorem rcheck_ev {ps pr : List Int} (ids its : List Int) {rows : List (List Int)} {fs : List (List S56)} (ch : List Int) (hz : SzF fs) (hb : rows.length ≤ 4611686018427387904) : Ev (fun k => U32.f k ps pr ids its rows fs ch) (checkN ps pr ids its rows fs ch) := by
  unfold U32.f checkN
  refine Ev.bind (rgrid_ev ps pr) ?_
  by_cases g : gErr ps pr = 0
  · simp only [if_pos g]
    by_cases h1 : fs.length > 60
    · simp only [if_pos h1, show (fs.length : Int) > 60 by omega, if_true]; exact Ev.now _
    · simp only [if_neg h1, show ¬ ((fs.length : Int) > 60) by omega, if_false]
      refine rchk_l0 (by omega) ?_ fs.length 0 (by omega)
      have jt : ∀ b : Bool, b = true → Ev (fun k => U32.j1 k fs ch b ps pr ids its rows) 1 := by
        intro b hb'
        refine Ev.succ ?_
        simp only [U32.j1, hb', if_true]; exact Ev.now _
      by_cases h2 : fs.length = its.length
      · simp only [show (fs.length : Int) = (its.length : Int) by omega, if_true]
        by_cases h3 : ch.length = its.length
        · rw [if_pos ⟨h2, h3⟩, bne_eq_false_iff_eq.2 (show (ch.length : Int) = (its.length : Int) by omega)]
          refine Ev.succ ?_
          simp only [U32.j1, Bool.false_eq_true, if_false]
          have := rchk_l1 (ps := ps) (pr := pr) (ids := ids) (its := its) (rows := rows) (ch := ch) (Y := if mtErr ids its rows (cats (firsts fs)) = 0 then choN fs ch 0 ch.length else mtErr ids its rows (cats (firsts fs))) hz (by omega) ?_ fs.length 0 (by omega)
          · exact this
          · refine Ev.bind (rccat_ev (by rw [firsts_len]; omega)) (Ev.bind (rmtv_ev hb) ?_)
            by_cases hm : mtErr ids its rows (cats (firsts fs)) = 0
            · simp only [if_pos hm]; exact rchk_l2 (by omega) (by omega) ch.length 0 (by omega)
            · simp only [if_neg hm]; exact Ev.now _
        · rw [if_neg (fun h => h3 h.2)]; exact jt _ (bne_iff_ne.2 (by omega))
      · simp only [show ¬ ((fs.length : Int) = (its.length : Int)) by omega, if_false]
        rw [if_neg (fun h => h2 h.1)]; exact jt _ rfl
  · simp only [if_neg g]; exact Ev.now _
end Go.Proofs.Ytmcegphcjphdcaa.Pure
