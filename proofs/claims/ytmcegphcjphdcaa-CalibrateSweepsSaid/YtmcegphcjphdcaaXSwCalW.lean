import Derived.Test.YtmcegphcjphdcaaXSwQAx2
import Derived.Test.YtmcegphcjphdcaaXSwQAx4
import Derived.Test.YtmcegphcjphdcaaXSwQAx5
import Derived.Test.YtmcegphcjphdcaaXSwQAx7
import Derived.Test.YtmcegphcjphdcaaXSwQAx9
import Derived.Test.YtmcegphcjphdcaaXSwQAx10
import Derived.Test.YtmcegphcjphdcaaXSwQAx11
import Derived.Test.YtmcegphcjphdcaaXSwNatA
import Derived.Test.YtmcegphcjphdcaaXSwValid
import Derived.Test.YtmcegphcjphdcaaXSwArgA
set_option linter.unusedVariables false
set_option linter.unusedSimpArgs false
namespace Go.Proofs.Ytmcegphcjphdcaa.Pure
open Go.RowKit Go.Proofs.YtmcegphcjphdcaaW.PrintWords Go.Proofs.YtmcegphcjphdcaaW.PrintLast Go.Proofs.YtmcegphcjphdcaaW.PrintMore Go.Proofs.Ytmcegphcjphdcaa.QA
def Sz (ms : List S56) : Prop := ms.length ≤ 4611686018427387904 ∧ ∀ m ∈ ms, ∀ r ∈ m.f0, r.length ≤ 4611686018427387904
theorem wf_len {xs : List Int} (h : wf22 xs) : xs.length ≤ 4611686018427387904 := by have := h.1; omega
theorem wf_Sz {ms : List S56} (h : wf25 ms) : Sz ms := ⟨by have := h.1; omega, fun m hm r hr => wf_len ((h.2 m hm).2 r hr)⟩
def valErr : List S56 → Nat → Int → Int → Int
  | [], _, _, _ => 0
  | m :: ms, i, n, b => if (i : Int) = b then valErr ms (i + 1) n b else if mErr m.f0 n = 0 then valErr ms (i + 1) n b else mErr m.f0 n
theorem rdM_lt {ms : List S56} {i : Nat} (h : i < ms.length) : rd_T56 ms (i : Int) = ms[i] := by unfold rd_T56; rw [Int.toNat_natCast, getD_lt h]
theorem val_l0 {ms : List S56} (hs : Sz ms) (n b : Int) : ∀ d i : Nat, i + d = ms.length → Ev (fun k => U9.l0 k n b ms (ms.length : Int) (i : Int)) (valErr (ms.drop i) i n b) := by
  intro d
  have hb := hs.1
  induction d with
  | zero =>
    intro i hi
    refine Ev.succ ?_
    simp only [U9.l0, show ¬ ((i : Int) < (ms.length : Int)) by omega, if_false]
    rw [List.drop_eq_nil_of_le (by omega)]; exact Ev.now _
  | succ d ih =>
    intro i hi
    have hw : wrap64 ((i : Int) + 1) = ((i + 1 : Nat) : Int) := by rw [w64] <;> omega
    have hlt : i < ms.length := by omega
    refine Ev.succ ?_
    simp only [U9.l0, show (i : Int) < (ms.length : Int) by omega, if_true, show (0 : Int) ≤ (i : Int) by omega, hw, rdM_lt hlt]
    rw [List.drop_eq_getElem_cons hlt, valErr]
    by_cases h : (i : Int) = b
    · simp only [if_pos h]; exact ih (i + 1) (by omega)
    · simp only [if_neg h]
      refine Ev.bind (mvalid_ev (hs.2 _ (List.getElem_mem hlt)) n) ?_
      by_cases h0 : mErr (ms[i]).f0 n = 0
      · simp only [if_pos h0]; exact ih (i + 1) (by omega)
      · simp only [if_neg h0]; exact Ev.now _
theorem val_ev {ms : List S56} (hs : Sz ms) (n b : Int) : Ev (fun k => U9.f k ms n b) (valErr ms 0 n b) := by
  unfold U9.f
  exact val_l0 hs n b ms.length 0 (by omega)
theorem rval_l0 {ms : List S56} (hs : Sz ms) (n b : Int) : ∀ d i : Nat, i + d = ms.length → Ev (fun k => U36.l0 k ms n b (i : Int)) (valErr (ms.drop i) i n b) := by
  intro d
  have hb := hs.1
  induction d with
  | zero =>
    intro i hi
    refine Ev.succ ?_
    simp only [U36.l0, show ¬ ((i : Int) < (ms.length : Int)) by omega, if_false]
    rw [List.drop_eq_nil_of_le (by omega)]; exact Ev.now _
  | succ d ih =>
    intro i hi
    have hw : wrap64 ((i : Int) + 1) = ((i + 1 : Nat) : Int) := by rw [w64] <;> omega
    have hlt : i < ms.length := by omega
    refine Ev.succ ?_
    simp only [U36.l0, show (i : Int) < (ms.length : Int) by omega, if_true, show (0 : Int) ≤ (i : Int) by omega, hw, rdM_lt hlt]
    rw [List.drop_eq_getElem_cons hlt, valErr]
    by_cases h : (i : Int) = b
    · simp only [if_pos h]; exact ih (i + 1) (by omega)
    · simp only [if_neg h]
      refine Ev.bind (rmvalid_ev (hs.2 _ (List.getElem_mem hlt)) n) ?_
      by_cases h0 : mErr (ms[i]).f0 n = 0
      · simp only [if_pos h0]; exact ih (i + 1) (by omega)
      · simp only [if_neg h0]; exact Ev.now _
theorem rval_ev {ms : List S56} (hs : Sz ms) (n b : Int) : Ev (fun k => U36.f k ms n b) (valErr ms 0 n b) := by
  unfold U36.f
  exact rval_l0 hs n b ms.length 0 (by omega)
theorem valErr_ok : ∀ {ms : List S56} {i : Nat} {n b : Int}, valErr ms i n b = 0 → ∀ j : Nat, (h : j < ms.length) → ((i + j : Nat) : Int) ≠ b → mErr (ms[j]).f0 n = 0
  | [], _, _, _, _, j, hj, _ => by simp at hj
  | m :: ms, i, n, b, h, j, hj, hne => by
    rw [valErr] at h
    cases j with
    | zero =>
      rw [if_neg (by simpa using hne)] at h
      by_cases h0 : mErr m.f0 n = 0
      · exact h0
      · rw [if_neg h0] at h; exact absurd h h0
    | succ j =>
      have h' : valErr ms (i + 1) n b = 0 := by
        by_cases h1 : (i : Int) = b
        · rwa [if_pos h1] at h
        · rw [if_neg h1] at h
          by_cases h0 : mErr m.f0 n = 0
          · rwa [if_pos h0] at h
          · rw [if_neg h0] at h; exact absurd h h0
      exact valErr_ok h' j (by simpa using hj) (by rwa [show i + 1 + j = i + (j + 1) by omega])
def W (f : Nat → Nat) (Q : Nat) : List (List Int) := (List.range Q).map (fun q => toL (f q))
theorem W_length (f : Nat → Nat) (Q : Nat) : (W f Q).length = Q := by simp [W]
theorem W_getD {f : Nat → Nat} {Q q : Nat} (h : q < Q) (d : List Int) : (W f Q).getD q d = toL (f q) := by rw [getD_lt (by rw [W_length]; exact h)]; simp [W]
theorem W_ext {f g : Nat → Nat} {Q : Nat} (h : ∀ q, q < Q → f q = g q) : W f Q = W g Q := by
  unfold W
  exact List.map_congr_left (fun q hq => by rw [h q (List.mem_range.1 hq)])
def fct (rows : List (List Int)) (k : Int) (q : Nat) : Nat := if k < 0 then 1 else (rd (rows.getD q []) k).toNat
def prodN (f : Nat → Nat) : Nat → Nat
  | 0 => 1
  | n + 1 => prodN f n * f n
theorem start_l0 {pr : List Int} (hl : pr.length ≤ 21) (hp : ∀ i : Nat, i < pr.length → 1 ≤ rd pr (i : Int) ∧ rd pr (i : Int) ≤ 1000) : ∀ d i : Nat, i + d = pr.length → Ev (fun k => U53.l0 k (W (fun q => (rd pr (q : Int)).toNat) i) pr (pr.length : Int) (i : Int)) (W (fun q => (rd pr (q : Int)).toNat) pr.length, 0) := by
  intro d
  induction d with
  | zero =>
    intro i hi
    refine Ev.succ ?_
    simp only [U53.l0, show ¬ ((i : Int) < (pr.length : Int)) by omega, if_false]
    exact evq (Ev.now _) (by rw [show i = pr.length by omega])
  | succ d ih =>
    intro i hi
    have hw : wrap64 ((i : Int) + 1) = ((i + 1 : Nat) : Int) := by rw [w64] <;> omega
    obtain ⟨h0, h1⟩ := hp i (by omega)
    refine Ev.succ ?_
    simp only [U53.l0, show (i : Int) < (pr.length : Int) by omega, if_true, show (0 : Int) ≤ (i : Int) by omega, hw, wu (show 0 ≤ rd pr (i : Int) by omega) (by omega), W_length, show i < 5864062014805 by omega]
    refine Ev.bind (Of_ev (by omega) (by omega)) ?_
    have := ih (i + 1) (by omega)
    rw [W, List.range_succ, List.map_append, List.map_singleton] at this
    exact this
theorem start_ev {ps pr : List Int} (h : gErr ps pr = 0) : Ev (fun k => U53.f k ps pr) (W (fun q => (rd pr (q : Int)).toNat) ps.length, 0) := by
  obtain ⟨h1, h2, h3, h4, h5⟩ := gErr_ok h
  unfold U53.f
  refine Ev.bind (grid_ev ps pr) ?_
  simp only [h, if_true]
  have := start_l0 (pr := pr) (by omega) (fun i hi => by have := okG_at h4 h3 i (by omega); omega) pr.length 0 (by omega)
  exact evq this (by rw [h3])
theorem set_mid {α : Type} (g : Nat → α) (z : α) (i d : Nat) : ((List.range i).map g ++ List.replicate (d + 1) z).set i (g i) = (List.range (i + 1)).map g ++ List.replicate d z := by
  rw [List.range_succ, List.map_append, List.map_singleton, List.replicate_succ, List.append_assoc]
  rw [List.set_append_right _ _ (by simp)]
  simp
theorem upd_l0 {f : Nat → Nat} {Q : Nat} {rows : List (List Int)} (hQ : Q ≤ 21) (hr : rows.length = Q) (hrow : ∀ r ∈ rows, (r.length : Int) = cat rows ∧ rowScan r 0 = 0) {kk : Int} (hk : kk < cat rows) (hf : ∀ q, q < Q → (toL (f q)).length ≤ 1000) :
    ∀ d i : Nat, i + d = Q → Ev (fun k => U54.l0 k (W f Q) kk (decide (kk < 0)) ((List.range i).map (fun q => toL (f q * fct rows kk q)) ++ List.replicate d []) (Q : Int) (i : Int) rows) (W (fun q => f q * fct rows kk q) Q, 0) := by
  intro d
  induction d with
  | zero =>
    intro i hi
    refine Ev.succ ?_
    simp only [U54.l0, show ¬ ((i : Int) < (Q : Int)) by omega, if_false]
    exact evq (Ev.now _) (by rw [show i = Q by omega]; simp [W])
  | succ d ih =>
    intro i hi
    have hw : wrap64 ((i : Int) + 1) = ((i + 1 : Nat) : Int) := by rw [w64] <;> omega
    have hlo : (i : Int) < ((((List.range i).map (fun q => toL (f q * fct rows kk q)) ++ List.replicate (d + 1) []).length : Nat) : Int) := by simp; omega
    have hrd : rd_L5 (W f Q) (i : Int) = toL (f i) := by unfold rd_L5; rw [Int.toNat_natCast, W_getD (by omega)]
    have hmid := set_mid (fun q => toL (f q * fct rows kk q)) [] i d
    refine Ev.succ ?_
    simp only [U54.l0, show (i : Int) < (Q : Int) by omega, if_true, show (0 : Int) ≤ (i : Int) by omega, hw, W_length, hrd, hlo, Int.toNat_natCast, show (i : Int) < (rows.length : Int) by omega]
    by_cases hneg : kk < 0
    · simp only [decide_eq_true hneg, if_true]
      refine Ev.bind (Norm_ev (by have := hf i (by omega); omega) (toL_Lm _)) ?_
      have e : toL (V (toL (f i))) = toL (f i * fct rows kk i) := by rw [V_toL, fct, if_pos hneg, Nat.mul_one]
      rw [e]
      have := ih (i + 1) (by omega)
      rw [decide_eq_true hneg] at this
      simp only [hmid]
      exact this
    · simp only [decide_eq_false hneg, Bool.false_eq_true, if_false]
      have hlt : i < rows.length := by omega
      have hrr : rd_L1 rows (i : Int) = rows[i] := by unfold rd_L1; rw [Int.toNat_natCast, getD_lt hlt]
      obtain ⟨e1, e2⟩ := hrow _ (List.getElem_mem hlt)
      have hkl : kk < ((rows[i]).length : Int) := by omega
      obtain ⟨n, rfl⟩ := Int.eq_ofNat_of_zero_le (show 0 ≤ kk by omega)
      have hx := rowScan_ok e2 (rd rows[i] (n : Int)) (by rw [rd_lt (by omega)]; exact List.getElem_mem _)
      simp only [hrr, show (0 : Int) ≤ (n : Int) by omega, if_true, hkl, wu (show 0 ≤ rd rows[i] (n : Int) by omega) (by omega)]
      refine Ev.bind (Of_ev (by omega) (by omega)) ?_
      have hof : (toL (rd rows[i] (n : Int)).toNat).length ≤ 1 := V_lt_inv (by omega)
      refine Ev.bind (Mul_ev (toL_Lm _) (toL_Lm _) (by have := hf i (by omega); omega)) ?_
      have e : toL (V (toL (f i)) * V (toL (rd rows[i] (n : Int)).toNat)) = toL (f i * fct rows (n : Int) i) := by rw [V_toL, V_toL, fct, if_neg hneg, getD_lt hlt]
      rw [e]
      have := ih (i + 1) (by omega)
      rw [decide_eq_false hneg] at this
      simp only [hmid]
      exact this
theorem upd_ev {f : Nat → Nat} {Q : Nat} {rows : List (List Int)} (hb : ∀ r ∈ rows, r.length ≤ 4611686018427387904) (hm : mErr rows (Q : Int) = 0) {kk : Int} (hk0 : -2 ≤ kk) (hk : kk < cat rows) (hf : ∀ q, q < Q → (toL (f q)).length ≤ 1000) :
    Ev (fun k => U54.f k (W f Q) rows kk) (W (fun q => f q * fct rows kk q) Q, 0) := by
  obtain ⟨m1, m2, m3, m4, m5, m6⟩ := mErr_ok hm
  unfold U54.f
  simp only [W_length, show ¬ ((Q : Int) > 21) by omega, if_false]
  refine Ev.bind (mvalid_ev hb _) ?_
  simp only [hm, if_true]
  have key : ∀ b : Bool, b = decide (kk < 0) → Ev (fun k => U54.j0 k (W f Q) kk b rows) (W (fun q => f q * fct rows kk q) Q, 0) := by
    intro b hb'
    subst hb'
    have j1 : Ev (fun k => U54.j1 k (W f Q) kk (decide (kk < 0)) false rows) (W (fun q => f q * fct rows kk q) Q, 0) := by
      refine Ev.succ ?_
      simp only [U54.j1, Bool.false_eq_true, if_false, W_length, show (0 : Int) ≤ (Q : Int) by omega, if_true, Int.toNat_natCast, show Q ≤ 11728124029610 by omega]
      have := upd_l0 (f := f) (by omega) (by omega) m6 hk hf Q 0 (by omega)
      exact this
    refine Ev.succ ?_
    by_cases hneg : kk < 0
    · simp only [U54.j0, decide_eq_true hneg, if_true]
      rw [decide_eq_true hneg] at j1; exact j1
    · simp only [U54.j0, decide_eq_false hneg, Bool.false_eq_true, if_false, hneg, cat_eq, Option.bind_some, show ¬ (kk ≥ cat rows) by omega, decide_false]
      rw [decide_eq_false hneg] at j1; exact j1
  by_cases h1 : kk = -1
  · simp only [if_pos h1]; exact key true (by rw [decide_eq_true (by omega)])
  · simp only [if_neg h1]
    refine key _ ?_
    by_cases h2 : kk = -2
    · rw [decide_eq_true (show kk < 0 by omega)]; exact beq_iff_eq.2 h2
    · rw [decide_eq_false (show ¬ kk < 0 by omega)]; exact beq_eq_false_iff_ne.2 h2
def fac (ms : List S56) (row : List Int) (skip : Int) (q i : Nat) : Nat := if (i : Int) = skip then 1 else fct (rd_T56 ms (i : Int)).f0 (rd row (i : Int)) q
def wgt (pr : List Int) (ms : List S56) (row : List Int) (skip : Int) (n q : Nat) : Nat := (rd pr (q : Int)).toNat * prodN (fac ms row skip q) n
structure Fit (ps pr : List Int) (ms : List S56) (row : List Int) (skip : Int) : Prop where
  g : gErr ps pr = 0
  l60 : ms.length ≤ 60
  len : row.length = ms.length
  sz : Sz ms
  m : ∀ i : Nat, (h : i < ms.length) → (i : Int) ≠ skip → mErr (ms[i]).f0 (ps.length : Int) = 0
  r : ∀ i : Nat, (h : i < ms.length) → (i : Int) ≠ skip → -2 ≤ rd row (i : Int) ∧ rd row (i : Int) < cat (ms[i]).f0
theorem fct_le {rows : List (List Int)} {Q : Nat} (hm : mErr rows (Q : Int) = 0) {kk : Int} (hk : kk < cat rows) {q : Nat} (hq : q < Q) : fct rows kk q ≤ 1000 ∧ 1 ≤ fct rows kk q := by
  obtain ⟨m1, m2, m3, m4, m5, m6⟩ := mErr_ok hm
  unfold fct
  split
  · omega
  · rename_i hneg
    have hlt : q < rows.length := by omega
    rw [getD_lt hlt]
    obtain ⟨e1, e2⟩ := m6 _ (List.getElem_mem hlt)
    obtain ⟨n, rfl⟩ := Int.eq_ofNat_of_zero_le (show 0 ≤ kk by omega)
    have hx := rowScan_ok e2 (rd rows[q] (n : Int)) (by rw [rd_lt (by omega)]; exact List.getElem_mem _)
    omega
theorem Fit.fac_le {ps pr : List Int} {ms : List S56} {row : List Int} {skip : Int} (h : Fit ps pr ms row skip) {q i : Nat} (hq : q < ps.length) (hi : i < ms.length) : fac ms row skip q i ≤ 1000 ∧ 1 ≤ fac ms row skip q i := by
  unfold fac
  split
  · omega
  · rename_i hne
    rw [rdM_lt hi]
    exact fct_le (h.m i hi hne) (h.r i hi hne).2 hq
theorem Fit.wgt_le {ps pr : List Int} {ms : List S56} {row : List Int} {skip : Int} (h : Fit ps pr ms row skip) {q : Nat} (hq : q < ps.length) : ∀ n, n ≤ ms.length → wgt pr ms row skip n q ≤ 1000 ^ (n + 1) ∧ 1 ≤ wgt pr ms row skip n q := by
  obtain ⟨g1, g2, g3, g4, g5⟩ := gErr_ok h.g
  have hp := okG_at g4 g3 q hq
  intro n
  induction n with
  | zero => intro _; unfold wgt prodN; rw [Nat.mul_one]; omega
  | succ n ih =>
    intro hn
    obtain ⟨i1, i2⟩ := ih (by omega)
    obtain ⟨f1, f2⟩ := h.fac_le hq (show n < ms.length by omega)
    have e : wgt pr ms row skip (n + 1) q = wgt pr ms row skip n q * fac ms row skip q n := by unfold wgt; rw [prodN, Nat.mul_assoc]
    rw [e]
    refine ⟨?_, Nat.mul_pos i2 f2⟩
    rw [Nat.pow_succ]
    exact Nat.mul_le_mul i1 f1
theorem Fit.len_le {ps pr : List Int} {ms : List S56} {row : List Int} {skip : Int} (h : Fit ps pr ms row skip) {q n : Nat} (hq : q < ps.length) (hn : n ≤ ms.length) : (toL (wgt pr ms row skip n q)).length ≤ 61 := by
  have h1 := (h.wgt_le hq n hn).1
  have h2 := h.l60
  have : (toL (wgt pr ms row skip n q)).length ≤ n + 1 := V_lt_inv (Nat.lt_of_le_of_lt h1 (Nat.pow_lt_pow_left (by omega) (by omega)))
  omega
theorem person_l0 {ps pr : List Int} {ms : List S56} {row : List Int} {skip : Int} (h : Fit ps pr ms row skip) : ∀ d i : Nat, i + d = row.length → Ev (fun k => U6.l0 k ms skip (W (wgt pr ms row skip i) ps.length) row (row.length : Int) (i : Int)) (W (wgt pr ms row skip ms.length) ps.length) := by
  have hl := h.len
  have h60 := h.l60
  intro d
  induction d with
  | zero =>
    intro i hi
    refine Ev.succ ?_
    simp only [U6.l0, show ¬ ((i : Int) < (row.length : Int)) by omega, if_false]
    exact evq (Ev.now _) (by rw [show i = ms.length by omega])
  | succ d ih =>
    intro i hi
    have hw : wrap64 ((i : Int) + 1) = ((i + 1 : Nat) : Int) := by rw [w64] <;> omega
    have hlt : i < ms.length := by omega
    refine Ev.succ ?_
    simp only [U6.l0, show (i : Int) < (row.length : Int) by omega, if_true, show (0 : Int) ≤ (i : Int) by omega, hw, show (i : Int) < (ms.length : Int) by omega]
    by_cases hs : (i : Int) = skip
    · simp only [if_pos hs]
      have e : W (wgt pr ms row skip i) ps.length = W (wgt pr ms row skip (i + 1)) ps.length := W_ext (fun q _ => by unfold wgt; rw [prodN, fac, if_pos hs, Nat.mul_one])
      rw [e]; exact ih (i + 1) (by omega)
    · simp only [if_neg hs, rdM_lt hlt]
      refine Ev.bind (upd_ev (h.sz.2 _ (List.getElem_mem hlt)) (h.m i hlt hs) (h.r i hlt hs).1 (h.r i hlt hs).2 (fun q hq => by have := h.len_le hq (show i ≤ ms.length by omega); omega)) ?_
      have e : W (fun q => wgt pr ms row skip i q * fct (ms[i]).f0 (rd row (i : Int)) q) ps.length = W (wgt pr ms row skip (i + 1)) ps.length := W_ext (fun q _ => by unfold wgt; rw [prodN, fac, if_neg hs, Nat.mul_assoc, rdM_lt hlt])
      simp only [e]; exact ih (i + 1) (by omega)
theorem person_ev {ps pr : List Int} {ms : List S56} {row : List Int} {skip : Int} (h : Fit ps pr ms row skip) : Ev (fun k => U6.f k ps pr ms row skip) (W (wgt pr ms row skip ms.length) ps.length) := by
  unfold U6.f
  refine Ev.bind (start_ev h.g) ?_
  have e : W (fun q => (rd pr (q : Int)).toNat) ps.length = W (wgt pr ms row skip 0) ps.length := W_ext (fun q _ => by unfold wgt; rw [prodN, Nat.mul_one])
  simp only [e]
  exact person_l0 h row.length 0 (by omega)
theorem rw_l1 {ps pr : List Int} {ms : List S56} {row : List Int} {skip : Int} (h : Fit ps pr ms row skip) {q : Nat} (hq : q < ps.length) {acc R : List (List Int)} (ha : acc.length ≤ 21)
    (hk : Ev (fun k => U37.l0 k ms row skip (acc ++ [toL (wgt pr ms row skip ms.length q)]) ((q + 1 : Nat) : Int) ps pr) R) : ∀ d i : Nat, i + d = ms.length → Ev (fun k => U37.l1 k ms row skip acc (q : Int) (toL (wgt pr ms row skip i q)) (i : Int) ps pr) R := by
  have hl := h.len
  have h60 := h.l60
  obtain ⟨g1, g2, g3, g4, g5⟩ := gErr_ok h.g
  intro d
  induction d with
  | zero =>
    intro i hi
    have hw : wrap64 ((q : Int) + 1) = ((q + 1 : Nat) : Int) := by rw [w64] <;> omega
    refine Ev.succ ?_
    simp only [U37.l1, show ¬ ((i : Int) < (ms.length : Int)) by omega, if_false, show acc.length < 5864062014805 by omega, if_true, hw]
    rw [show i = ms.length by omega]; exact hk
  | succ d ih =>
    intro i hi
    have hw : wrap64 ((i : Int) + 1) = ((i + 1 : Nat) : Int) := by rw [w64] <;> omega
    have hlt : i < ms.length := by omega
    have e0 : wgt pr ms row skip (i + 1) q = wgt pr ms row skip i q * fac ms row skip q i := by unfold wgt; rw [prodN, Nat.mul_assoc]
    have stay : fac ms row skip q i = 1 → Ev (fun k => U37.j2 k ms row skip acc (q : Int) (toL (wgt pr ms row skip i q)) (i : Int) false ps pr) R := by
      intro hf
      refine Ev.succ ?_
      simp only [U37.j2, Bool.false_eq_true, if_false, hw]
      have := ih (i + 1) (by omega)
      rw [e0, hf, Nat.mul_one] at this; exact this
    refine Ev.succ ?_
    simp only [U37.l1, show (i : Int) < (ms.length : Int) by omega, if_true, show (0 : Int) ≤ (i : Int) by omega, show (i : Int) < (row.length : Int) by omega]
    by_cases hs : (i : Int) = skip
    · simp only [if_pos hs]; exact stay (by rw [fac, if_pos hs])
    · simp only [if_neg hs]
      by_cases hr : rd row (i : Int) ≥ 0
      · simp only [decide_eq_true hr]
        obtain ⟨m1, m2, m3, m4, m5, m6⟩ := mErr_ok (h.m i hlt hs)
        have hqr : q < (ms[i]).f0.length := by omega
        obtain ⟨e1, e2⟩ := m6 _ (List.getElem_mem hqr)
        have hrr : rd_L1 (ms[i]).f0 (q : Int) = (ms[i]).f0[q] := by unfold rd_L1; rw [Int.toNat_natCast, getD_lt hqr]
        have hkc := (h.r i hlt hs).2
        obtain ⟨n, hn⟩ := Int.eq_ofNat_of_zero_le hr
        have hx := rowScan_ok e2 (rd (ms[i]).f0[q] (n : Int)) (by rw [rd_lt (by omega)]; exact List.getElem_mem _)
        refine Ev.succ ?_
        simp only [U37.j2, if_true, show (0 : Int) ≤ (i : Int) by omega, show (i : Int) < (ms.length : Int) by omega, show (0 : Int) ≤ (q : Int) by omega, rdM_lt hlt, show (q : Int) < ((ms[i]).f0.length : Int) by omega, show (i : Int) < (row.length : Int) by omega, hrr, hn, show (0 : Int) ≤ (n : Int) by omega, show (n : Int) < (((ms[i]).f0[q]).length : Int) by omega, hw, wu (show 0 ≤ rd (ms[i]).f0[q] (n : Int) by omega) (by omega)]
        refine Ev.bind (rOf_ev (by omega) (by omega)) ?_
        have hof : (toL (rd (ms[i]).f0[q] (n : Int)).toNat).length ≤ 1 := V_lt_inv (by omega)
        refine Ev.bind (rMul_ev (toL_Lm _) (toL_Lm _) (by have := h.len_le hq (show i ≤ ms.length by omega); omega)) ?_
        have := ih (i + 1) (by omega)
        rw [V_toL, V_toL]
        rw [e0, fac, if_neg hs, rdM_lt hlt, fct, if_neg (by omega), getD_lt hqr, hn] at this
        exact this
      · simp only [decide_eq_false hr]
        exact stay (by rw [fac, if_neg hs, fct, if_pos (by omega)])
theorem rw_l0 {ps pr : List Int} {ms : List S56} {row : List Int} {skip : Int} (h : Fit ps pr ms row skip) : ∀ d q : Nat, q + d = ps.length → Ev (fun k => U37.l0 k ms row skip (W (wgt pr ms row skip ms.length) q) (q : Int) ps pr) (W (wgt pr ms row skip ms.length) ps.length) := by
  obtain ⟨g1, g2, g3, g4, g5⟩ := gErr_ok h.g
  intro d
  induction d with
  | zero =>
    intro q hq
    refine Ev.succ ?_
    simp only [U37.l0, show ¬ ((q : Int) < (ps.length : Int)) by omega, if_false]
    exact evq (Ev.now _) (by rw [show q = ps.length by omega])
  | succ d ih =>
    intro q hq
    have hp := okG_at g4 g3 q (by omega)
    refine Ev.succ ?_
    simp only [U37.l0, show (q : Int) < (ps.length : Int) by omega, if_true, show (0 : Int) ≤ (q : Int) by omega, show (q : Int) < (pr.length : Int) by omega, wu (show 0 ≤ rd pr (q : Int) by omega) (by omega)]
    refine Ev.bind (rOf_ev (by omega) (by omega)) ?_
    have e : (rd pr (q : Int)).toNat = wgt pr ms row skip 0 q := by unfold wgt; rw [prodN, Nat.mul_one]
    rw [e]
    refine rw_l1 h (by omega) (by rw [W_length]; omega) ?_ ms.length 0 (by omega)
    have := ih (q + 1) (by omega)
    rw [W, List.range_succ, List.map_append, List.map_singleton] at this
    exact this
theorem rweights_ev {ps pr : List Int} {ms : List S56} {row : List Int} {skip : Int} (h : Fit ps pr ms row skip) : Ev (fun k => U37.f k ps pr ms row skip) (W (wgt pr ms row skip ms.length) ps.length) := by
  unfold U37.f
  exact rw_l0 h ps.length 0 (by omega)
def okR : List S56 → List Int → Bool
  | m :: ms, k :: ks => decide (-2 ≤ k ∧ k < cat m.f0) && okR ms ks
  | _, _ => true
def weights (ps pr : List Int) (ms : List S56) (row : List Int) (skip : Int) : List (List Int) × Int :=
  if gErr ps pr = 0 then (if ms.length > 60 then ([], 5) else if row.length = ms.length then (if valErr ms 0 (ps.length : Int) (-1) = 0 then
    (if okR ms row then (if skip < -1 then ([], 3) else if skip ≥ (ms.length : Int) then ([], 3) else (W (wgt pr ms row skip ms.length) ps.length, 0)) else ([], 3)) else ([], valErr ms 0 (ps.length : Int) (-1))) else ([], 1)) else ([], gErr ps pr)
end Go.Proofs.Ytmcegphcjphdcaa.Pure
