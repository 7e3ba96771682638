import Derived.Test.YtmcegphcjphdcaaXSwQAx22
import Derived.Test.YtmcegphcjphdcaaXSwQAx23
import Derived.Test.YtmcegphcjphdcaaXSwFam
set_option linter.unusedVariables false
set_option linter.unusedSimpArgs false
namespace Go.Proofs.Ytmcegphcjphdcaa.Pure
open Go.RowKit Go.Proofs.YtmcegphcjphdcaaW.PrintWords Go.Proofs.YtmcegphcjphdcaaW.PrintLast Go.Proofs.YtmcegphcjphdcaaW.PrintMore Go.Proofs.Ytmcegphcjphdcaa.QA
theorem W_set {g : Nat → Nat} {n f : Nat} (v : Nat) : (W g n).set f (toL v) = W (fun j => if j = f then v else g j) n := by
  unfold W
  apply List.ext_getElem
  · simp
  · intro j h1 h2
    rw [List.getElem_set]
    by_cases e : f = j
    · subst e; simp
    · rw [if_neg e]; simp [show ¬ j = f from fun h => e h.symm]
theorem likes_app {ps pr : List Int} {ms : List S56} (b : List (List Int)) : ∀ a : List (List Int), likes ps pr ms (a ++ b) = likes ps pr ms a * likes ps pr ms b
  | [] => by rw [List.nil_append, likes, Nat.one_mul]
  | r :: a => by rw [List.cons_append, likes, likes, likes_app b a, Nat.mul_assoc]
def mo (l : List S56) (f : Nat) : S56 := rd_T56 l (f : Int)
def lk (ps pr : List Int) (ms : List S56) (i : Nat) (l : List S56) (rows : List (List Int)) (f : Nat) : Nat := likes ps pr (ms.set i (mo l f)) rows
structure Lks (ps pr : List Int) (ms : List S56) (i : Nat) (l : List S56) (rows : List (List Int)) : Prop where
  n24 : l.length ≤ 24
  r200 : rows.length ≤ 200
  im : i < ms.length
  base : ∀ r ∈ rows, Fit ps pr ms r (i : Int)
  all : ∀ f, f < l.length → FitAll ps pr (ms.set i (mo l f)) rows
  g : gErr ps pr = 0
theorem Lks.len {ps pr : List Int} {ms : List S56} {i : Nat} {l : List S56} {rows : List (List Int)} (h : Lks ps pr ms i l rows) {f : Nat} (hf : f < l.length) (p : Nat) : (toL (lk ps pr ms i l (rows.take p) f)).length ≤ 100000 := by
  have h1 := (likes_le (ps := ps) (pr := pr) (ms := ms.set i (mo l f)) (rows := rows.take p) (fun r hr => h.all f hf r (List.mem_of_mem_take hr))).1
  have h2 := pow_len h1
  have h3 : (rows.take p).length ≤ 200 := by rw [List.length_take]; have := h.r200; omega
  show (toL (likes ps pr (ms.set i (mo l f)) (rows.take p))).length ≤ 100000
  omega
theorem lik_l2 {ps pr : List Int} {ms : List S56} {i : Nat} {l : List S56} {rows : List (List Int)} (h : Lks ps pr ms i l rows) {p : Nat} (hp : p < rows.length) {R : List (List Int)}
    (hk : Ev (fun k => U5.l1 k ms (i : Int) l (W (lk ps pr ms i l (rows.take (p + 1))) l.length) rows (rows.length : Int) (wrap64 ((p : Int) + 1)) ps pr) R) : ∀ d f : Nat, f + d = l.length →
    Ev (fun k => U5.l2 k ms (i : Int) l (W (fun j => if j < f then lk ps pr ms i l (rows.take (p + 1)) j else lk ps pr ms i l (rows.take p) j) l.length) rows[p] (W (wgt pr ms rows[p] (i : Int) ms.length) ps.length) rows (rows.length : Int) (p : Int) l (l.length : Int) (f : Int) ps pr) R := by
  have n24 := h.n24
  have hQ := (gErr_ok h.g).2.1
  intro d
  induction d with
  | zero =>
    intro f hf
    refine Ev.succ ?_
    simp only [U5.l2, show ¬ ((f : Int) < (l.length : Int)) by omega, if_false]
    have e : W (fun j => if j < f then lk ps pr ms i l (rows.take (p + 1)) j else lk ps pr ms i l (rows.take p) j) l.length = W (lk ps pr ms i l (rows.take (p + 1))) l.length := W_ext (fun j hj => by rw [if_pos (by omega)])
    rw [e]; exact hk
  | succ d ih =>
    intro f hf
    have hw : wrap64 ((f : Int) + 1) = ((f + 1 : Nat) : Int) := by rw [w64] <;> omega
    have hlt : f < l.length := by omega
    have hmem := List.getElem_mem hp
    have hB := h.base _ hmem
    have hA := h.all f hlt _ hmem (-1)
    have him := h.im
    have hlr := hB.len
    have hset : (ms.set i (mo l f))[i]'(by rw [List.length_set]; exact him) = mo l f := by simp
    have hm := hA.m i (by rw [List.length_set]; exact him) (by omega)
    have hr := hA.r i (by rw [List.length_set]; exact him) (by omega)
    have hz := hA.sz.2 _ (List.getElem_mem (show i < (ms.set i (mo l f)).length by rw [List.length_set]; exact him))
    rw [hset] at hm hr hz
    have hmo : rd_T56 l (f : Int) = mo l f := rfl
    refine Ev.succ ?_
    simp only [U5.l2, show (f : Int) < (l.length : Int) by omega, if_true, show (0 : Int) ≤ (f : Int) by omega, show (0 : Int) ≤ (i : Int) by omega, show (i : Int) < ((rows[p]).length : Int) by omega, hw, W_length, hmo]
    refine Ev.bind (upd_ev hz hm hr.1 hr.2 (fun q hq => by have := hB.len_le hq (Nat.le_refl ms.length); omega)) ?_
    have e1 : W (fun q => wgt pr ms rows[p] (i : Int) ms.length q * fct (mo l f).f0 (rd rows[p] (i : Int)) q) ps.length = W (wgt pr (ms.set i (mo l f)) rows[p] (-1) ms.length) ps.length := W_ext (fun q _ => (wgt_set (mo l f) him q).symm)
    have hln : (ms.set i (mo l f)).length = ms.length := List.length_set
    simp only [e1]
    refine Ev.bind (sum_ev hQ (fun q hq => by have := hA.len_le (n := ms.length) hq (by omega); omega) (fun q hq => by have := hA.sum_len q hq; rw [hln] at this; omega)) ?_
    have hg : rd_L5 (W (fun j => if j < f then lk ps pr ms i l (rows.take (p + 1)) j else lk ps pr ms i l (rows.take p) j) l.length) (f : Int) = toL (lk ps pr ms i l (rows.take p) f) := by
      unfold rd_L5; rw [Int.toNat_natCast, W_getD hlt, if_neg (Nat.lt_irrefl f)]
    have hl1 := h.len hlt p
    have hl2 := hA.sum_len ps.length (Nat.le_refl _)
    rw [hln] at hl2
    simp only [hg]
    refine Ev.bind (Mul_ev (toL_Lm _) (toL_Lm _) (by omega)) ?_
    rw [V_toL, V_toL]
    have e2 : lk ps pr ms i l (rows.take p) f * sumN (wgt pr (ms.set i (mo l f)) rows[p] (-1) ms.length) ps.length = lk ps pr ms i l (rows.take (p + 1)) f := by
      unfold lk
      rw [List.take_succ_eq_append_getElem hp, likes_app, likes, likes, Nat.mul_one, like, hln]
    rw [e2, Int.toNat_natCast, W_set]
    have e3 : W (fun j => if j = f then lk ps pr ms i l (rows.take (p + 1)) f else if j < f then lk ps pr ms i l (rows.take (p + 1)) j else lk ps pr ms i l (rows.take p) j) l.length = W (fun j => if j < f + 1 then lk ps pr ms i l (rows.take (p + 1)) j else lk ps pr ms i l (rows.take p) j) l.length := W_ext (fun j hj => by
      by_cases e : j = f
      · subst e; rw [if_pos rfl, if_pos (by omega)]
      · rw [if_neg e]
        by_cases e' : j < f
        · rw [if_pos e', if_pos (by omega)]
        · rw [if_neg e', if_neg (by omega)])
    rw [e3]
    exact ih (f + 1) (by omega)
theorem lik_l1 {ps pr : List Int} {ms : List S56} {i : Nat} {l : List S56} {rows : List (List Int)} (h : Lks ps pr ms i l rows) : ∀ d p : Nat, p + d = rows.length →
    Ev (fun k => U5.l1 k ms (i : Int) l (W (lk ps pr ms i l (rows.take p)) l.length) rows (rows.length : Int) (p : Int) ps pr) (W (lk ps pr ms i l rows) l.length) := by
  have hb := h.r200
  intro d
  induction d with
  | zero =>
    intro p hp
    refine Ev.succ ?_
    simp only [U5.l1, show ¬ ((p : Int) < (rows.length : Int)) by omega, if_false]
    exact evq (Ev.now _) (by rw [List.take_of_length_le (by omega)])
  | succ d ih =>
    intro p hp
    have hw : wrap64 ((p : Int) + 1) = ((p + 1 : Nat) : Int) := by rw [w64] <;> omega
    have hlt : p < rows.length := by omega
    have hrr : rd_L1 rows (p : Int) = rows[p] := by unfold rd_L1; rw [Int.toNat_natCast, getD_lt hlt]
    refine Ev.succ ?_
    simp only [U5.l1, show (p : Int) < (rows.length : Int) by omega, if_true, show (0 : Int) ≤ (p : Int) by omega, hrr]
    refine Ev.bind (person_ev (h.base _ (List.getElem_mem hlt))) ?_
    have := lik_l2 h hlt (R := W (lk ps pr ms i l rows) l.length) (by rw [hw]; exact ih (p + 1) (by omega)) l.length 0 (by omega)
    have e : W (fun j => if j < 0 then lk ps pr ms i l (rows.take (p + 1)) j else lk ps pr ms i l (rows.take p) j) l.length = W (lk ps pr ms i l (rows.take p)) l.length := W_ext (fun j _ => by rw [if_neg (by omega)])
    rw [e] at this
    exact this
theorem lik_l0 {ps pr ids its : List Int} {ms : List S56} {i : Nat} {l : List S56} {rows : List (List Int)} (h : Lks ps pr ms i l rows) : ∀ d f : Nat, f + d = l.length →
    Ev (fun k => U5.l0 k ms (i : Int) l (W (fun _ => 1) f ++ List.replicate d []) (l.length : Int) (f : Int) ps pr ids its rows) (W (lk ps pr ms i l rows) l.length) := by
  have n24 := h.n24
  intro d
  induction d with
  | zero =>
    intro f hf
    refine Ev.succ ?_
    simp only [U5.l0, show ¬ ((f : Int) < (l.length : Int)) by omega, if_false, List.replicate_zero, List.append_nil]
    have := lik_l1 h rows.length 0 (by omega)
    rw [List.take_zero] at this
    rw [show f = l.length by omega]
    exact this
  | succ d ih =>
    intro f hf
    have hw : wrap64 ((f : Int) + 1) = ((f + 1 : Nat) : Int) := by rw [w64] <;> omega
    refine Ev.succ ?_
    simp only [U5.l0, show (f : Int) < (l.length : Int) by omega, if_true, show (0 : Int) ≤ (f : Int) by omega, hw, Int.toNat_natCast]
    refine Ev.bind (Of_ev (by omega) (by omega)) ?_
    have hlen : (f : Int) < (((W (fun _ => 1) f ++ List.replicate (d + 1) []).length : Nat) : Int) := by rw [List.length_append, W_length, List.length_replicate]; omega
    have hmid := set_mid (fun _ => toL 1) [] f d
    simp only [hlen, if_true]
    have e : (W (fun _ => 1) f ++ List.replicate (d + 1) []).set f (toL (Int.toNat 1)) = W (fun _ => 1) (f + 1) ++ List.replicate d [] := hmid
    rw [e]
    exact ih (f + 1) (by omega)
theorem lik_ev {ps pr : List Int} (ids its : List Int) {ms : List S56} {i : Nat} {l : List S56} {rows : List (List Int)} (h : Lks ps pr ms i l rows) : Ev (fun k => U5.f k ps pr ms ids its rows (i : Int) l) (W (lk ps pr ms i l rows) l.length) := by
  have n24 := h.n24
  unfold U5.f
  simp only [show (0 : Int) ≤ (l.length : Int) by omega, if_true, Int.toNat_natCast, show l.length ≤ 11728124029610 by omega, Option.bind_some, List.length_replicate]
  exact lik_l0 h l.length 0 (by omega)
def bestOf (v : Nat → Nat) (b : Nat) : Nat → Nat
  | 0 => b
  | n + 1 => if v (bestOf v b n) < v n then n else bestOf v b n
theorem bestOf_lt {v : Nat → Nat} {b m : Nat} (hb : b < m) : ∀ n, n ≤ m → bestOf v b n < m
  | 0, _ => hb
  | n + 1, h => by
    rw [bestOf]
    split
    · omega
    · exact bestOf_lt hb n (by omega)
theorem great_l0 {v : Nat → Nat} {n b : Nat} (hn : n ≤ 24) (hb : b < n) (hv : ∀ q, q < n → (toL (v q)).length ≤ 100000) : ∀ d i : Nat, i + d = n → Ev (fun k => U4.l0 k (W v n) (bestOf v b i : Nat) (W v n) (n : Int) (i : Int)) (bestOf v b n : Nat) := by
  intro d
  induction d with
  | zero =>
    intro i hi
    refine Ev.succ ?_
    simp only [U4.l0, show ¬ ((i : Int) < (n : Int)) by omega, if_false]
    exact evq (Ev.now _) (by rw [show i = n by omega])
  | succ d ih =>
    intro i hi
    have hw : wrap64 ((i : Int) + 1) = ((i + 1 : Nat) : Int) := by rw [w64] <;> omega
    have hB := bestOf_lt (v := v) hb i (by omega)
    have h1 : rd_L5 (W v n) (i : Int) = toL (v i) := by unfold rd_L5; rw [Int.toNat_natCast, W_getD (by omega)]
    have h2 : rd_L5 (W v n) ((bestOf v b i : Nat) : Int) = toL (v (bestOf v b i)) := by unfold rd_L5; rw [Int.toNat_natCast, W_getD hB]
    refine Ev.succ ?_
    simp only [U4.l0, show (i : Int) < (n : Int) by omega, if_true, show (0 : Int) ≤ (i : Int) by omega, W_length, hw, show (0 : Int) ≤ ((bestOf v b i : Nat) : Int) by omega, show ((bestOf v b i : Nat) : Int) < (n : Int) by omega, h1, h2]
    refine Ev.bind (Cmp_ev (by have := hv i (by omega); omega) (by have := hv _ hB; omega)) ?_
    have hn1 := ih (i + 1) (by omega)
    rw [bestOf] at hn1
    unfold cmpN
    by_cases c : v (bestOf v b i) < v i
    · rw [if_pos c] at hn1
      rw [if_neg (Nat.lt_asymm c), if_pos c]
      simp only [show (1 : Int) > 0 by omega, if_true]; exact hn1
    · rw [if_neg c] at hn1
      have : ¬ ((if v i < v (bestOf v b i) then (-1 : Int) else if v (bestOf v b i) < v i then 1 else 0) > 0) := by
        rw [if_neg c]; split <;> omega
      simp only [this, if_false]; exact hn1
theorem great_ev {v : Nat → Nat} {n : Nat} {b : Int} (hn : n ≤ 24) (h0 : 0 < n) (hb : b < (n : Int)) (hv : ∀ q, q < n → (toL (v q)).length ≤ 100000) : Ev (fun k => U4.f k (W v n) b) (bestOf v b.toNat n : Nat) := by
  unfold U4.f
  have key : ∀ c : Nat, c < n → Ev (fun k => U4.j0 k (W v n) (c : Int)) (bestOf v c n : Nat) := by
    intro c hc
    refine Ev.succ ?_
    simp only [U4.j0, W_length]
    exact great_l0 hn hc hv n 0 (by omega)
  by_cases h : b < 0
  · simp only [if_pos h]
    have := key 0 h0
    rw [show b.toNat = 0 by omega]; exact this
  · simp only [if_neg h]
    obtain ⟨c, rfl⟩ := Int.eq_ofNat_of_zero_le (show 0 ≤ b by omega)
    rw [Int.toNat_natCast]; exact key c (by omega)
end Go.Proofs.Ytmcegphcjphdcaa.Pure
