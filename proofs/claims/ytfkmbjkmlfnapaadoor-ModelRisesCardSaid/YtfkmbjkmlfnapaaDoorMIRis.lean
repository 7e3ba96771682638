import Derived.Test.YtfkmbjkmlfnapaaDoorMISteps
import Derived.Test.YtfkmbjkmlfnapaaDoorMIMono
set_option linter.unusedVariables false
set_option linter.unusedSimpArgs false
namespace Go.Proofs.YtfkmbjkmlfnapaaDoor.Pure
open Go.RowKit Go.Proofs.YtfkmbjkmlfnapaaDoorW.PrintWords Go.Proofs.YtfkmbjkmlfnapaaDoorW.PrintLast Go.Proofs.YtfkmbjkmlfnapaaDoorW.PrintMore Go.Proofs.YtfkmbjkmlfnapaaDoor.QA
theorem flr_ediv (x : Int) : flr x = x / 100 := by
  unfold flr
  by_cases h : 0 ≤ x
  · have h1 : Int.tmod x 100 = x % 100 := Int.tmod_eq_emod_of_nonneg h
    have h2 : Int.tdiv x 100 = x / 100 := Int.tdiv_eq_ediv_of_nonneg h
    rw [h1, h2, if_neg (by omega)]
  · obtain ⟨y, rfl⟩ : ∃ y, x = -y := ⟨-x, by omega⟩
    have h1 : Int.tmod (-y) 100 = -(y % 100) := by rw [Int.neg_tmod, Int.tmod_eq_emod_of_nonneg (by omega)]
    have h2 : Int.tdiv (-y) 100 = -(y / 100) := by rw [Int.neg_tdiv, Int.tdiv_eq_ediv_of_nonneg (by omega)]
    rw [h1, h2]
    split <;> omega
theorem rise_mono {t u d s : Int} (h : t ≤ u) (hs : 0 ≤ s) : riseN t d s ≤ riseN u d s := by
  unfold riseN
  rw [flr_ediv, flr_ediv]
  have : s * (t - d) ≤ s * (u - d) := Int.mul_le_mul_of_nonneg_left (by omega) hs
  omega
theorem ab_mono {t u : Int} {ds : List Int} {s : Int} (h : t ≤ u) (hs : 0 ≤ s) : ∀ i : Nat, ab t ds s i ≤ ab u ds s i
  | 0 => Int.le_refl _
  | i + 1 => by
    have h1 := ab_mono (ds := ds) h hs i
    have h2 := rise_mono (d := rd ds (i : Int)) h hs
    rw [ab, ab]
    unfold mx mn
    repeat' split
    all_goals omega
theorem ab_lt {t : Int} {ds : List Int} {s : Int} (h5 : ds.length ≤ 5) {i : Nat} (hi : i < ds.length) : ab t ds s (i + 1) < ab t ds s i := by
  have := ab_bd (t := t) (s := s) h5 i (by omega)
  rw [ab]
  unfold mx mn
  repeat' split
  all_goals omega
theorem srow_len (t : Int) (ds : List Int) (s : Int) : (stepRow t ds s).length = ds.length + 1 := by rw [stepRow, List.length_map, List.length_range]
theorem srow_rd {t : Int} {ds : List Int} {s : Int} {q : Nat} (h : q < ds.length + 1) : rd (stepRow t ds s) (q : Int) = rq t ds s q := by
  rw [rd_lt (by rw [srow_len]; exact h)]; simp [stepRow]
theorem srow_drop {t : Int} {ds : List Int} {s : Int} : ∀ d q : Nat, q + d = ds.length → sm ((stepRow t ds s).drop q) = ab t ds s q := by
  intro d
  induction d with
  | zero =>
    intro q hq
    rw [sm_drop (by rw [srow_len]; omega), srow_rd (by omega), List.drop_eq_nil_of_le (by rw [srow_len]; omega), sm]
    unfold rq
    rw [if_neg (by omega), show q = ds.length by omega]; omega
  | succ d ih =>
    intro q hq
    rw [sm_drop (by rw [srow_len]; omega), srow_rd (by omega), ih (q + 1) (by omega)]
    unfold rq
    rw [if_pos (by omega)]; omega
theorem scan_of : ∀ {l : List Int} {s : Int}, (∀ x ∈ l, 1 ≤ x ∧ x ≤ 1000) → 0 ≤ s → s + sm l = 1000 → rowScan l s = 0
  | [], s, _, _, h => by rw [sm] at h; unfold rowScan; rw [if_pos (by omega)]
  | x :: l, s, he, h0, h => by
    rw [sm] at h
    have hx := he x List.mem_cons_self
    have hb := sm_bd (l := l) (fun y hy => he y (List.mem_cons_of_mem _ hy))
    rw [rowScan, if_pos hx, w64 (by omega) (by omega)]
    exact scan_of (fun y hy => he y (List.mem_cons_of_mem _ hy)) (by omega) (by omega)
theorem rows_of : ∀ {rs : List (List Int)} {c : Int}, (∀ r ∈ rs, rowErr r c = 0) → rowsErr rs c = 0
  | [], _, _ => rfl
  | r :: rs, c, h => by
    rw [rowsErr, if_pos (h r List.mem_cons_self)]
    exact rows_of (fun x hx => h x (List.mem_cons_of_mem _ hx))
theorem mErr_of {rs : List (List Int)} {n c : Nat} (h1 : 1 ≤ n) (h2 : n ≤ 21) (hl : rs.length = n) (c2 : 2 ≤ c) (c6 : c ≤ 6) (hr : ∀ r ∈ rs, r.length = c ∧ (∀ x ∈ r, 1 ≤ x ∧ x ≤ 1000) ∧ sm r = 1000) : mErr rs (n : Int) = 0 ∧ cat rs = (c : Int) := by
  have hc : cat rs = (c : Int) := by
    unfold cat
    cases rs with
    | nil => simp at hl; omega
    | cons r rs => have := (hr r List.mem_cons_self).1; simp [this]
  refine ⟨?_, hc⟩
  unfold mErr
  rw [if_pos ⟨by omega, by omega, by omega⟩, hc, if_pos ⟨by omega, by omega⟩]
  refine rows_of (fun r hr' => ?_)
  obtain ⟨a, b, d⟩ := hr r hr'
  unfold rowErr
  rw [if_pos (by omega)]
  exact scan_of b (by omega) (by omega)
theorem srow_ok {t : Int} {ds : List Int} {s : Int} (h5 : ds.length ≤ 5) : (stepRow t ds s).length = ds.length + 1 ∧ (∀ x ∈ stepRow t ds s, 1 ≤ x ∧ x ≤ 1000) ∧ sm (stepRow t ds s) = 1000 := by
  refine ⟨srow_len t ds s, fun x hx => ?_, ?_⟩
  · rw [stepRow] at hx
    obtain ⟨q, hq, rfl⟩ := List.mem_map.1 hx
    rw [List.mem_range] at hq
    unfold rq
    by_cases c : q < ds.length
    · rw [if_pos c]
      have := ab_lt (t := t) (s := s) h5 c
      have h1 := ab_bd (t := t) (s := s) h5 q (by omega)
      have h2 := ab_bd (t := t) (s := s) h5 (q + 1) (by omega)
      omega
    · rw [if_neg c]
      have h1 := ab_bd (t := t) (s := s) h5 ds.length (Nat.le_refl _)
      omega
  · have := srow_drop (t := t) (ds := ds) (s := s) ds.length 0 (by omega)
    rw [List.drop_zero, ab] at this
    exact this
theorem rise_lt : ∀ {ps : List Int}, rise ps = true → ∀ q : Nat, (h : q + 1 < ps.length) → ps[q]'(by omega) < ps[q + 1]
  | [], _, q, h => by simp at h
  | [_], _, q, h => by simp at h
  | a :: b :: l, hr, q, h => by
    rw [rise, Bool.and_eq_true, decide_eq_true_eq] at hr
    cases q with
    | zero => exact hr.1
    | succ q => exact rise_lt hr.2 q (by simpa using h)
theorem up_map {ps : List Int} (hr : rise ps = true) {f : Int → List Int} {n : Nat} (hn : ∀ t, (f t).length = n) (hf : ∀ t u : Int, t ≤ u → ∀ k : Nat, k < n → sm ((f t).drop k) ≤ sm ((f u).drop k)) : UpAll (ps.map f) := by
  intro q hq k hk hlt
  rw [List.length_map] at hq
  simp only [List.getElem_map] at hk hlt
  have h1 := rise_lt hr q hq
  rw [hn] at hk
  have := hf _ _ (Int.le_of_lt h1) k hk
  omega
theorem steps_valid {ps ws ds : List Int} {s : Int} (g : gErr ps ws = 0) (h1 : 1 ≤ ds.length) (h5 : ds.length ≤ 5) (hs : 0 ≤ s) : mErr (ps.map (fun t => stepRow t ds s)) (ps.length : Int) = 0 ∧ cat (ps.map (fun t => stepRow t ds s)) = (ds.length : Int) + 1 ∧ UpAll (ps.map (fun t => stepRow t ds s)) := by
  obtain ⟨g1, g2, g3, g4, g5⟩ := gErr_ok g
  have := mErr_of (rs := ps.map (fun t => stepRow t ds s)) (n := ps.length) (c := ds.length + 1) g1 g2 (by rw [List.length_map]) (by omega) (by omega) (fun r hr => by
    obtain ⟨t, _, rfl⟩ := List.mem_map.1 hr
    exact srow_ok h5)
  refine ⟨this.1, by rw [this.2]; omega, up_map g5 (n := ds.length + 1) (fun t => srow_len t ds s) (fun t u h k hk => ?_)⟩
  rw [srow_drop (ds.length - k) k (by omega), srow_drop (ds.length - k) k (by omega)]
  exact ab_mono h hs k
theorem clamp_mono {t u d s lo hi : Int} (h : t ≤ u) (hs : 0 ≤ s) : clampN t d s lo hi ≤ clampN u d s lo hi := by
  have := rise_mono (d := d) h hs
  unfold clampN mn mx
  repeat' split
  all_goals omega
theorem ramp_valid {ps ws : List Int} {d s lo hi : Int} (g : gErr ps ws = 0) (ok : rampOk d s lo hi) : mErr (ps.map (fun t => rampRow t d s lo hi)) (ps.length : Int) = 0 ∧ UpAll (ps.map (fun t => rampRow t d s lo hi)) := by
  obtain ⟨g1, g2, g3, g4, g5⟩ := gErr_ok g
  obtain ⟨hd, hs, h1, h2, h3⟩ := ok
  have := mErr_of (rs := ps.map (fun t => rampRow t d s lo hi)) (n := ps.length) (c := 2) g1 g2 (by rw [List.length_map]) (by omega) (by omega) (fun r hr => by
    obtain ⟨t, _, rfl⟩ := List.mem_map.1 hr
    have hc := clamp_bd (t := t) (d := d) (s := s) h1 h2 h3
    refine ⟨rfl, fun x hx => ?_, by simp [rampRow, sm]⟩
    rcases List.mem_cons.1 hx with e | e
    · omega
    · rcases List.mem_cons.1 e with e | e
      · omega
      · cases e)
  refine ⟨this.1, up_map g5 (n := 2) (fun t => rfl) (fun t u h k hk => ?_)⟩
  have hm := clamp_mono (d := d) (lo := lo) (hi := hi) h hs.1
  match k, hk with
  | 0, _ => simp [rampRow, sm]
  | 1, _ => simp [rampRow, sm]; omega
theorem step_ramp (t d s : Int) : stepRow t [d] s = rampRow t d s 1 999 := by
  have e : ab t [d] s 1 = clampN t d s 1 999 := by
    show mx (mn (mn (riseN t (rd [d] ((0 : Nat) : Int)) s) (1000 - (((0 : Nat) : Int) + 1))) (ab t [d] s 0 - 1)) ((([d] : List Int).length : Int) - (((0 : Nat) : Int) + 1) + 1) = _
    have hr : rd [d] ((0 : Nat) : Int) = d := rfl
    rw [hr, ab]
    unfold clampN
    generalize riseN t d s = r
    simp only [List.length_singleton]
    unfold mx mn
    repeat' split
    all_goals omega
  show [rq t [d] s 0, rq t [d] s 1] = _
  have h0 : rq t [d] s 0 = 1000 - clampN t d s 1 999 := by
    unfold rq; rw [if_pos (by simp), e, ab]
  have h1 : rq t [d] s 1 = clampN t d s 1 999 := by
    unfold rq; rw [if_neg (by simp)]; exact e
  rw [h0, h1]; rfl
end Go.Proofs.YtfkmbjkmlfnapaaDoor.Pure
