import Derived.Test.YtmcegphcjphdcaaCOQAx18
import Derived.Test.YtmcegphcjphdcaaCOQAx19
import Derived.Test.YtmcegphcjphdcaaCOTot
set_option linter.unusedVariables false
set_option linter.unusedSimpArgs false
namespace Go.Proofs.Ytmcegphcjphdcaa.Pure
open Go.RowKit Go.Proofs.YtmcegphcjphdcaaW.PrintWords Go.Proofs.YtmcegphcjphdcaaW.PrintLast Go.Proofs.YtmcegphcjphdcaaW.PrintMore Go.Proofs.Ytmcegphcjphdcaa.QA
theorem heavy_ev' (ids its : List Int) (rows : List (List Int)) : ∃ b : Bool, examboardlaw28_heavy.f ids its rows = some b := by
  unfold examboardlaw28_heavy.f
  repeat' split
  all_goals exact ⟨_, rfl⟩
theorem bitLen_pos {n : Nat} (h : 1 ≤ n) (h' : n < 2 ^ 64) : 1 ≤ Lib.bitLen n := by
  rw [Lib.bitLen_half n (by omega) h']; omega
theorem bitLenAux_le : ∀ f x : Nat, Lib.bitLenAux f x ≤ f
  | 0, x => by rw [Lib.bitLenAux]; exact Nat.le_refl 0
  | f + 1, x => by
    rw [Lib.bitLenAux]
    have := bitLenAux_le f (x / 2)
    split <;> omega
theorem Bits_ev {a : Nat} (h1 : 1 ≤ a) (h : (toL a).length ≤ 100000) : ∃ b : Int, 0 < b ∧ Ev (fun k => nat_Bits.f k (toL a)) b := by
  have hp : 1 ≤ (toL a).length := by
    rcases Nat.eq_zero_or_pos (toL a).length with h0 | h0
    · have := toL_nil (List.eq_nil_of_length_eq_zero h0); omega
    · exact h0
  have hw : wrap64 (((toL a).length : Int) - 1) = (((toL a).length - 1 : Nat) : Int) := by rw [w64] <;> omega
  have hlt : (toL a).length - 1 < (toL a).length := by omega
  have hr := rd_lt hlt
  have h2 := (toL_Lm a).rd_ (((toL a).length - 1 : Nat) : Int)
  have h3 : rd (toL a) (((toL a).length - 1 : Nat) : Int) ≠ 0 := by
    rw [hr]
    have := toL_Tr a (fun e => by rw [e] at hp; simp at hp)
    rwa [List.getLast_eq_getElem] at this
  have h4 := bitLen_pos (n := (rd (toL a) (((toL a).length - 1 : Nat) : Int)).toNat) (by omega) (by omega)
  have h5 : Lib.bitLen (rd (toL a) (((toL a).length - 1 : Nat) : Int)).toNat ≤ 64 := bitLenAux_le 64 _
  refine ⟨32 * (((toL a).length - 1 : Nat) : Int) + (Lib.bitLen (rd (toL a) (((toL a).length - 1 : Nat) : Int)).toNat : Int), by omega, ?_⟩
  unfold nat_Bits.f
  refine Ev.bind (trim_ev (by omega) (toL_Lm a)) ?_
  rw [V_toL]
  have hw2 : wrap64 (32 * (((toL a).length - 1 : Nat) : Int)) = 32 * (((toL a).length - 1 : Nat) : Int) := by rw [w64] <;> omega
  have hw3 : wrap64 (32 * (((toL a).length - 1 : Nat) : Int) + (Lib.bitLen (rd (toL a) (((toL a).length - 1 : Nat) : Int)).toNat : Int)) = 32 * (((toL a).length - 1 : Nat) : Int) + (Lib.bitLen (rd (toL a) (((toL a).length - 1 : Nat) : Int)).toNat : Int) := by rw [w64] <;> omega
  simp only [show ¬ (((toL a).length : Int) = 0) by omega, if_false, hw, show (0 : Int) ≤ (((toL a).length - 1 : Nat) : Int) by omega, if_true, show (((toL a).length - 1 : Nat) : Int) < ((toL a).length : Int) by omega, bits_Len32.f, h2.1, show rd (toL a) (((toL a).length - 1 : Nat) : Int) ≤ 4294967295 by omega, Option.bind_some, hw2, hw3]
  exact Ev.now _
theorem likes_append {ps pr : List Int} {ms : List S56} (b : List (List Int)) : ∀ a : List (List Int), likes ps pr ms (a ++ b) = likes ps pr ms a * likes ps pr ms b
  | [] => by rw [List.nil_append, likes, Nat.one_mul]
  | r :: a => by rw [List.cons_append, likes, likes, likes_append b a, Nat.mul_assoc]
theorem likes_reverse {ps pr : List Int} {ms : List S56} : ∀ a : List (List Int), likes ps pr ms a.reverse = likes ps pr ms a
  | [] => rfl
  | r :: a => by rw [List.reverse_cons, likes_append, likes_reverse a, likes, likes, likes, Nat.mul_one, Nat.mul_comm]
theorem allLen_iff : ∀ {n : Nat} {rows : List (List Int)}, (∀ r ∈ rows, r.length = n) → allLen n rows = true
  | n, [], _ => rfl
  | n, a :: rows, h => by
    rw [allLen, Bool.and_eq_true, decide_eq_true_eq]
    exact ⟨h a List.mem_cons_self, allLen_iff (fun r hr => h r (List.mem_cons_of_mem _ hr))⟩
theorem mtErr_reverse {ids its cs : List Int} {rows : List (List Int)} (h : mtErr ids its rows cs = 0) : mtErr ids its rows.reverse cs = 0 := by
  obtain ⟨m1, m2, m3, m4, m5, m6⟩ := mtErr_ok h
  have hsh : shp ids its rows.reverse = true := by
    unfold shp
    rw [Bool.and_eq_true, decide_eq_true_eq]
    exact ⟨by rw [List.length_reverse]; exact m3, allLen_iff (fun r hr => m5 r (List.mem_reverse.1 hr))⟩
  have hce : cellsOk rows.reverse cs = true := by
    unfold cellsOk
    exact List.all_eq_true.2 (fun r hr => m6 r (List.mem_reverse.1 hr))
  unfold mtErr at h ⊢
  by_cases h1 : ids.length > 200 ∨ its.length > 60 ∨ cs.length > 60
  · rw [if_pos h1] at h; omega
  · rw [if_neg h1] at h ⊢
    by_cases h2 : rise (0 :: ids) = true ∧ rise (0 :: its) = true
    · rw [if_pos h2] at h ⊢
      rw [if_pos ⟨hsh, m4⟩]
      by_cases h3 : shp ids its rows = true ∧ cs.length = its.length
      · rw [if_pos h3] at h
        by_cases h4 : catsOk cs = true
        · rw [if_pos h4, if_pos hce]
        · rw [if_neg h4] at h; omega
      · rw [if_neg h3] at h; omega
    · rw [if_neg h2] at h; omega
theorem okR_set : ∀ {ms : List S56} {row : List Int} (s : Nat), okR ms row = true → okR ms (row.set s (-1)) = true
  | [], row, _, _ => by rw [okR]; simp
  | m :: ms, [], _, _ => by simp [okR]
  | m :: ms, k :: ks, 0, h => by
    rw [List.set_cons_zero, okR, Bool.and_eq_true, decide_eq_true_eq]
    rw [okR, Bool.and_eq_true, decide_eq_true_eq] at h
    refine ⟨⟨by omega, ?_⟩, h.2⟩
    unfold cat; omega
  | m :: ms, k :: ks, s + 1, h => by
    rw [List.set_cons_succ, okR, Bool.and_eq_true]
    rw [okR, Bool.and_eq_true] at h
    exact ⟨h.1, okR_set s h.2⟩
theorem prodN_congr {f g : Nat → Nat} : ∀ n, (∀ i, i < n → f i = g i) → prodN f n = prodN g n
  | 0, _ => rfl
  | n + 1, h => by rw [prodN, prodN, prodN_congr n (fun i hi => h i (by omega)), h n (by omega)]
theorem wgt_skip {pr : List Int} {ms : List S56} {row : List Int} {s : Nat} (hs : s < row.length) (n q : Nat) : wgt pr ms (row.set s (-1)) (-1) n q = wgt pr ms row (s : Int) n q := by
  unfold wgt
  congr 1
  refine prodN_congr n (fun i _ => ?_)
  unfold fac
  rw [if_neg (show ¬ (i : Int) = -1 by omega)]
  by_cases h : i = s
  · subst h
    rw [if_pos rfl, rd_nat]
    have : (row.set i (-1)).getD i 0 = -1 := by simp [List.getD, hs]
    rw [this, fct, if_pos (by omega)]
  · rw [if_neg (show ¬ (i : Int) = (s : Int) by omega), rd_nat, rd_nat]
    have : (row.set s (-1)).getD i 0 = row.getD i 0 := by rw [List.getD_eq_getElem?_getD, List.getElem?_set, if_neg (by omega), ← List.getD_eq_getElem?_getD]
    rw [this]
theorem weights_ok {ps pr : List Int} {ms : List S56} {row : List Int} {skip : Int} (g : gErr ps pr = 0) (h1 : ¬ ms.length > 60) (h2 : row.length = ms.length) (h3 : valErr ms 0 (ps.length : Int) (-1) = 0) (h4 : okR ms row = true) (h5 : -1 ≤ skip) (h6 : skip < (ms.length : Int)) : weights ps pr ms row skip = (W (wgt pr ms row skip ms.length) ps.length, 0) := by
  unfold weights
  rw [if_pos g, if_neg h1, if_pos h2, if_pos h3, if_pos h4, if_neg (by omega), if_neg (by omega)]
theorem ord_l2 {ms : List S56} {ps pr ids its : List Int} {rows : List (List Int)} {sk : Int} {p : Nat} {f : Nat → Nat} {Q : Nat} (hQ : Q ≤ 21) (hf : ∀ q, q < Q → (toL (f q)).length ≤ 1000) (hk : Ev (fun k => examboardlaw28_CalibrateOrder.l1 k ms sk (wrap64 ((p : Int) + 1)) ps pr ids its rows) true) : ∀ d i : Nat, i + d = Q →
    Ev (fun k => examboardlaw28_CalibrateOrder.l2 k ms sk (p : Int) (W f Q) (W f Q) (i : Int) ps pr ids its rows) true := by
  intro d
  induction d with
  | zero =>
    intro i hi
    refine Ev.succ ?_
    simp only [examboardlaw28_CalibrateOrder.l2, W_length, show ¬ ((i : Int) < (Q : Int)) by omega, if_false]; exact hk
  | succ d ih =>
    intro i hi
    have hw : wrap64 ((i : Int) + 1) = ((i + 1 : Nat) : Int) := by rw [w64] <;> omega
    have hrd : rd_L5 (W f Q) (i : Int) = toL (f i) := by unfold rd_L5; rw [Int.toNat_natCast, W_getD (by omega)]
    refine Ev.succ ?_
    simp only [examboardlaw28_CalibrateOrder.l2, W_length, show (i : Int) < (Q : Int) by omega, if_true, show (0 : Int) ≤ (i : Int) by omega, hw, hrd]
    refine Ev.bind (limbs_ev (by have := hf i (by omega); omega)) ?_
    simp only [if_true]
    exact ih (i + 1) (by omega)
structure Good (ps pr : List Int) (ms : List S56) (ids its : List Int) (rows : List (List Int)) : Prop where
  g : gErr ps pr = 0
  h1 : ¬ ms.length > 60
  h2 : ms.length = its.length
  h3 : valErr ms 0 (ps.length : Int) (-1) = 0
  h4 : mtErr ids its rows (cats ms) = 0
theorem ord_l1 {ps pr ids its : List Int} {ms : List S56} {rows : List (List Int)} (hs : Sz ms) (G : Good ps pr ms ids its rows) {s : Nat} (hsk : s < ms.length) : ∀ d i : Nat, i + d = rows.length →
    Ev (fun k => examboardlaw28_CalibrateOrder.l1 k ms (s : Int) (i : Int) ps pr ids its rows) true := by
  obtain ⟨m1, m2, m3, m4, m5, m6⟩ := mtErr_ok G.h4
  have hQ := (gErr_ok G.g).2.1
  have h1 := G.h1
  have h2 := G.h2
  intro d
  induction d with
  | zero =>
    intro i hi
    refine Ev.succ ?_
    simp only [examboardlaw28_CalibrateOrder.l1, show ¬ ((i : Int) < (rows.length : Int)) by omega, if_false]; exact Ev.now _
  | succ d ih =>
    intro i hi
    have hw : wrap64 ((i : Int) + 1) = ((i + 1 : Nat) : Int) := by rw [w64] <;> omega
    have hlt : i < rows.length := by omega
    have hrr : rd_L1 rows (i : Int) = rows[i] := by unfold rd_L1; rw [Int.toNat_natCast, getD_lt hlt]
    have hl := m5 _ (List.getElem_mem hlt)
    have hlm : (rows[i]).length = ms.length := by omega
    have hok := cellOk_okR (m6 _ (List.getElem_mem hlt))
    have hw1 := weights_ok (skip := (s : Int)) G.g h1 hlm G.h3 hok (by omega) (by omega)
    have hw2 := weights_ok (row := (rows[i]).set s (-1)) (skip := (-1 : Int)) G.g h1 (by rw [List.length_set]; exact hlm) G.h3 (okR_set s hok) (by omega) (by omega)
    have hsame : W (wgt pr ms ((rows[i]).set s (-1)) (-1) ms.length) ps.length = W (wgt pr ms rows[i] (s : Int) ms.length) ps.length := W_ext (fun q _ => wgt_skip (by omega) _ _)
    rw [hsame] at hw2
    have hfit := fit_all hs G.g h1 h2 G.h3 G.h4 _ (List.getElem_mem hlt) (s : Int)
    refine Ev.succ ?_
    simp only [examboardlaw28_CalibrateOrder.l1, show (i : Int) < (rows.length : Int) by omega, if_true, show (0 : Int) ≤ (i : Int) by omega, hrr, Option.bind_some, List.nil_append, List.length_nil, Nat.zero_add, show (rows[i]).length < 17592186044416 by omega, show ¬ ((s : Int) ≥ ((rows[i]).length : Int)) by omega, if_false, show (0 : Int) ≤ (s : Int) by omega, show (s : Int) < ((rows[i]).length : Int) by omega, Int.toNat_natCast]
    refine Ev.bind (weights_ev hs (s : Int)) (Ev.bind (weights_ev hs (-1)) ?_)
    simp only [hw1, hw2, if_true, W_length, bne_self_eq_false]
    refine Ev.succ ?_
    simp only [examboardlaw28_CalibrateOrder.j3, Bool.false_eq_true, if_false]
    exact ord_l2 hQ (fun q hq => by have := hfit.len_le hq (Nat.le_refl ms.length); omega) (by rw [hw]; exact ih (i + 1) (by omega)) ps.length 0 (by omega)
theorem total_ok {ps pr : List Int} {ms : List S56} {ids its : List Int} {rows : List (List Int)} (g : gErr ps pr = 0) (h1 : ¬ ms.length > 60) (h2 : ms.length = its.length) (h3 : valErr ms 0 (ps.length : Int) (-1) = 0) (h4 : mtErr ids its rows (cats ms) = 0) : total ps pr ms ids its rows = (toL (likes ps pr ms rows), 0) := by
  unfold total
  rw [if_pos g, if_neg h1, if_pos h2, if_pos h3, if_pos h4]
theorem total_cases {ps pr : List Int} (ms : List S56) (ids its : List Int) (rows : List (List Int)) : (gErr ps pr = 0 ∧ ¬ ms.length > 60 ∧ ms.length = its.length ∧ valErr ms 0 (ps.length : Int) (-1) = 0 ∧ mtErr ids its rows (cats ms) = 0) ∨ ((total ps pr ms ids its rows).1 = [] ∧ (total ps pr ms ids its rows).2 ≠ 0) := by
  unfold total
  by_cases g : gErr ps pr = 0
  · rw [if_pos g]
    by_cases h1 : ms.length > 60
    · rw [if_pos h1]; exact .inr ⟨rfl, by decide⟩
    · rw [if_neg h1]
      by_cases h2 : ms.length = its.length
      · rw [if_pos h2]
        by_cases h3 : valErr ms 0 (ps.length : Int) (-1) = 0
        · rw [if_pos h3]
          by_cases h4 : mtErr ids its rows (cats ms) = 0
          · exact .inl ⟨g, h1, h2, h3, h4⟩
          · rw [if_neg h4]; exact .inr ⟨rfl, h4⟩
        · rw [if_neg h3]; exact .inr ⟨rfl, h3⟩
      · rw [if_neg h2]; exact .inr ⟨rfl, by decide⟩
  · rw [if_neg g]; exact .inr ⟨rfl, g⟩
theorem ord_l0 {ps pr ids its : List Int} {ms : List S56} {rows : List (List Int)} (hs : Sz ms) (G : Good ps pr ms ids its rows) (sk : Int) : ∀ i : Nat, i ≤ rows.length →
    Ev (fun k => examboardlaw28_CalibrateOrder.l0 k ms sk (toL (likes ps pr ms rows)) ((i : Int) - 1) ps pr ids its rows ids its (rows.drop i).reverse) true := by
  obtain ⟨m1, m2, m3, m4, m5, m6⟩ := mtErr_ok G.h4
  have hQ := (gErr_ok G.g).2.1
  have h1 := G.h1
  have h2 := G.h2
  have hf := likes_le (fit_all hs G.g h1 h2 G.h3 G.h4)
  have hlen := pow_len hf.1
  obtain ⟨b, hb0, hb⟩ := Bits_ev hf.2 (by omega)
  intro i
  induction i with
  | zero =>
    intro _
    refine Ev.succ ?_
    simp only [examboardlaw28_CalibrateOrder.l0, show ¬ (((0 : Nat) : Int) - 1 ≥ 0) by omega, if_false, List.drop_zero]
    refine Ev.bind (total_ev hs ids its (by rw [List.length_reverse]; omega)) ?_
    rw [total_ok G.g h1 h2 G.h3 (mtErr_reverse G.h4), likes_reverse]
    simp only [if_true]
    refine Ev.bind hb ?_
    simp only [show ¬ b = 0 by omega, if_false]
    refine Ev.bind (limbs_ev (by omega)) ?_
    simp only [if_true]
    have out : Ev (fun k => examboardlaw28_CalibrateOrder.j1 k ms sk (toL (likes ps pr ms rows)) 0 (toL (likes ps pr ms rows)) true ps pr ids its rows) true := by
      refine Ev.succ ?_
      simp only [examboardlaw28_CalibrateOrder.j1, if_true]
      refine Ev.bind hb ?_
      simp only [show b > 0 by omega, if_true]
      exact Ev.mapb (limbs_ev (by omega)) rfl
    by_cases s1 : sk < 0
    · simp only [if_pos s1]; exact out
    · simp only [if_neg s1]
      by_cases s2 : sk ≥ (ms.length : Int)
      · rw [decide_eq_true s2]; exact out
      · rw [decide_eq_false s2]
        refine Ev.succ ?_
        simp only [examboardlaw28_CalibrateOrder.j1, Bool.false_eq_true, if_false]
        obtain ⟨s, rfl⟩ := Int.eq_ofNat_of_zero_le (show 0 ≤ sk by omega)
        exact ord_l1 hs G (by omega) rows.length 0 (by omega)
  | succ i ih =>
    intro hi
    have hlt : i < rows.length := by omega
    have hrr : rd_L1 rows (i : Int) = rows[i] := by unfold rd_L1; rw [Int.toNat_natCast, getD_lt hlt]
    have hx : ((i + 1 : Nat) : Int) - 1 = (i : Int) := by omega
    have hw : wrap64 ((i : Int) - 1) = (i : Int) - 1 := by rw [w64] <;> omega
    refine Ev.succ ?_
    simp only [examboardlaw28_CalibrateOrder.l0, hx, show (i : Int) ≥ 0 by omega, if_true, show (0 : Int) ≤ (i : Int) by omega, show (i : Int) < (rows.length : Int) by omega, hrr, hw, show (rows.drop (i + 1)).reverse.length < 5864062014805 by rw [List.length_reverse, List.length_drop]; omega]
    have e : (rows.drop (i + 1)).reverse ++ [rows[i]] = (rows.drop i).reverse := by rw [List.drop_eq_getElem_cons hlt, List.reverse_cons]
    rw [e]
    exact ih (by omega)
theorem CalibrateOrder (l0_0 : (List Int)) (l0_1 : (List Int)) (l1 : (List S56)) (l2_0 : (List Int)) (l2_1 : (List Int)) (l2_2 : (List (List Int))) (a3 : Int) (h0 : wf24 (l0_0, l0_1)) (h1 : wf25 l1) (h2 : wf36 (l2_0, l2_1, l2_2)) (h3 : (Lit.int .i64 a3).wf = true) : ∃ k, examboardlaw28_CalibrateOrder.f k l0_0 l0_1 l1 l2_0 l2_1 l2_2 a3 = some true := by
  have hs := wf_Sz h1
  have hb : l2_2.length ≤ 4611686018427387904 := by have := h2.2.2.1; simp only at this; omega
  refine Ev.rounds ?_
  obtain ⟨b, hb'⟩ := heavy_ev' l2_0 l2_1 l2_2
  unfold examboardlaw28_CalibrateOrder.f
  simp only [hb', Option.bind_some]
  cases b with
  | true => simp only [if_true]; exact Ev.now _
  | false =>
    simp only [Bool.false_eq_true, if_false]
    refine Ev.bind (total_ev hs _ _ hb) ?_
    rcases total_cases (ps := l0_0) (pr := l0_1) l1 l2_0 l2_1 l2_2 with ⟨g, c1, c2, c3, c4⟩ | ⟨t1, t2⟩
    · rw [total_ok g c1 c2 c3 c4]
      have hm := mtErr_ok c4
      have hw : wrap64 ((l2_2.length : Int) - 1) = (l2_2.length : Int) - 1 := by rw [w64] <;> omega
      simp only [if_true, hw]
      have := ord_l0 hs ⟨g, c1, c2, c3, c4⟩ a3 l2_2.length (Nat.le_refl _)
      rw [List.drop_length, List.reverse_nil] at this
      exact this
    · simp only [t1, t2, if_false]
      exact evq (Ev.now _) (by simp)
end Go.Proofs.Ytmcegphcjphdcaa.Pure
