/- Laws for three forms of Go that the printed words lack: xs[:n:n]; make([]T, 0, n); copy into a row of the call's own. Made for this seat by wip/mypr.sh out of wip/Tri.lean.in. -/
import Derived.Test.YtmcegphcjphdcaaWMore
import Derived.Laws.MakeOwn
import Derived.Laws.CopyOwn
set_option linter.unusedVariables false
namespace Go.Proofs.YtmcegphcjphdcaaW.PrintMore
open Go.RowKit Go.Proofs.YtmcegphcjphdcaaW.PrintWords Go.Proofs.YtmcegphcjphdcaaW.PrintLast
section
variable {P : Program}
theorem cut_to3 (t e : TypeId) (kh : IntKind) {i : TypeInfo} (ht : P.underlying t = some (.slice e)) (hi : P.info? e = some i) (A : Option Addr) (n c : Nat) (j : Int) (h0 : 0 ≤ j) (hm : j ≤ n) (hc : n ≤ c) :
    ∀ W : World, (Instr.slice t (.slice A n c) none (some (.int kh j)) (some (.int kh j))).run P W = .ok (.slice A j.toNat j.toNat) W := by
  intro W
  have hel : P.elem t = e := by simp [Program.elem, ht]
  have hu : P.underlying t = some (.slice (P.elem t)) := by rw [hel]; exact ht
  have ha : (A.map fun x => x.add 0) = A := by cases A <;> simp [Addr.add]
  rw [run_slice_hm W t A n c hu kh kh j j h0 (by omega) (by omega), hel]
  simp [sizeOf, typeInfo, hi, sliced, Result.andThen, ha]
theorem print_take3_of {α : Type} (enc : α → Value) (d : α) (t e : TypeId) (kl : IntKind) {i : TypeInfo} (ht : P.underlying t = some (.slice e)) (hi : P.info? e = some i) (_hsz : i.size = 1) (A : Option Addr) (c : Nat) (xs : List α) (j : Int) (h0 : 0 ≤ j) (hm : j ≤ xs.length) (hc : xs.length ≤ c) :
    (∀ W : World, (Instr.slice t (.slice A xs.length c) none (some (.int kl j)) (some (.int kl j))).run P W = .ok (.slice A (xs.take j.toNat).length (xs.take j.toNat).length) W) ∧
      (∀ w : World, ReadsOf enc d w A xs.length xs → ReadsOf enc d w A (xs.take j.toNat).length (xs.take j.toNat)) ∧ (xs.take j.toNat).length ≤ (xs.take j.toNat).length := by
  have hl : (xs.take j.toNat).length = j.toNat := by rw [List.length_take]; omega
  refine ⟨fun W => ?_, fun w h => by rw [hl]; exact h.take_ j.toNat (by omega), Nat.le_refl _⟩
  rw [hl]
  exact cut_to3 t e kl ht hi A xs.length c j h0 hm hc W
end
/-- What copy leaves: the shorter of the two decides. -/
def copyR {α : Type} (d s : List α) : List α := s.take d.length ++ d.drop s.length
theorem copyR_length {α : Type} (d s : List α) : (copyR d s).length = d.length := by
  unfold copyR; rw [List.length_append, List.length_take, List.length_drop]; omega
namespace Kd
open Go.Proofs.YtmcegphcjphdcaaW.PrintWords.Kd
section
variable {P : Program} {ops : Array Oper} {rest : List Oper} {o : Oper} {a : Act} {Q : Exit → Act → World → Prop} {α : Type}
/-- make([]T, 0, n): nothing is in it. -/
theorem R_make0 (d : Kd α) {w0 W : World} (base e : Nat) (hgd : o.guard = none) {N : Tmp} (hd : o.dst = some N) (t : TypeId) (x y : Operand) (ho : o.op = .makeSlice t x y) (n : Int) (hx : a.eval x = .int .i64 0) (hy : a.eval y = .int .i64 n)
    (ht : P.underlying t = some (.slice e)) (z : Value) (bytes : Nat) (hinfo : (P.info? e).map (fun i => (i.zero, i.size, i.bytes)) = some (some z, d.sz, bytes)) (hz : z.cells.size = d.sz) (hs0 : 0 < d.sz) (hb0 : 0 < bytes)
    (z0 : α) {ok okp : Nat → Prop} (_hzero : True) (hok : ∀ k, okp k → ok k) (hfresh : ok W.heap.size) (h0 : 0 ≤ n) (hl : n.toNat * bytes ≤ 281474976710656) (HB : Below base w0 W) (hbase : base ≤ W.heap.size)
    (h : ∀ v1 w1, d.R e w1 base ok v1 ([] : List α) → Below base w0 w1 → W.grownBy w1 none → (∃ b, v1.ownBlock = some b ∧ W.heap.size ≤ b) → wpList P ops Q rest (a.put o.dst v1) w1) : wpList P ops Q (o :: rest) a W := by
  obtain ⟨m, rfl⟩ := Int.eq_ofNat_of_zero_le h0
  simp only [Int.toNat_natCast] at hl
  obtain ⟨i0, hi, hzz⟩ := Option.map_eq_some_iff.1 hinfo
  simp only [Prod.mk.injEq] at hzz
  obtain ⟨hz0, hz1, hz2⟩ := hzz
  have hm : m ≤ 281474976710656 := Nat.le_trans (Nat.le_mul_of_pos_right _ hb0) hl
  have hr := run_make (P := P) W t e i0 z ht hi hz0 .i64 .i64 0 (m : Int) (by omega) (by omega)
    (by
      have h3 : ((i0.bytes * m : Nat) : Int) ≤ 281474976710656 := by rw [hz2, Nat.mul_comm]; omega
      rwa [Int.natCast_mul] at h3) (by omega)
  simp only [Int.toNat_natCast, Int.toNat_zero] at hr
  rw [hz1] at hr
  refine event_run hgd (v := .slice (some ⟨W.heap.size, 0, none⟩) 0 m) (w1 := W.alloc (.cells (madeCells z.cells (m * d.sz)) e)) (by simp [execOp, ho, hx, hy, hr]) (h _ _ ⟨fun k hk => ?_, [], ?_, Reps.none _ _⟩ (HB.alloc hbase _) (World.grownBy_alloc W _ none) ⟨W.heap.size, by simp [Value.ownBlock], Nat.le_refl _⟩)
  · have : W.heap.size = k := by simpa [Value.ownBlock] using hk
    subst this
    exact hfresh
  · exact World.ownsRow_made W _ m hbase (by simp only [maxLen]; omega) (by simp [size_madeCells])
/-- copy(dst, src), both of scalars, dst a row of the call's own. -/
theorem R_copy_ {enc : α → Value} {h1 : ∀ x, (enc x).oneCell' = true} {w0 W : World} (base : Nat) (hgd : o.guard = none) (s x : Operand) (t t2 e : TypeId) (z : Value) (bytes : Nat)
    (ho : o.op = .call { callee := .builtin .copy, args := #[s, x], argTypes := #[t, t2] })
    (ht : P.underlying t = some (.slice e)) (hinfo : (P.info? e).map (fun i => (i.zero, i.size, i.bytes)) = some (some z, 1, bytes))
    (v : Value) (xs ys : List α) (A : Option Addr) (c : Nat) (ok : Nat → Prop) (hs : a.eval s = v) (hx : a.eval x = .slice A ys.length c)
    (HO : (scalar enc h1).R e W base ok v xs) (HY : (scalar enc h1).C W A ys.length ys) (HB : Below base w0 W)
    (h : ∀ v1 w1, v1 = v → (scalar enc h1).R e w1 base ok v1 (copyR xs ys) → Below base w0 w1 → W.grownBy w1 v.ownBlock → (v1.ownBlock = v.ownBlock ∨ ∃ b, v1.ownBlock = some b ∧ W.heap.size ≤ b) → wpList P ops Q rest (a.put o.dst (goInt (min ys.length xs.length : Nat))) w1) :
    wpList P ops Q (o :: rest) a W := by
  obtain ⟨i0, hi, hzz⟩ := Option.map_eq_some_iff.1 hinfo
  simp only [Prod.mk.injEq] at hzz
  obtain ⟨hz0, hz1, hz2⟩ := hzz
  have hsz : (P.info? e).map (·.size) = some 1 := by rw [hi]; simp [hz1]
  have hown := own_of_R HO
  have hgo : ∀ w1, (scalar enc h1).R e w1 base ok v (copyR xs ys) → Below base w0 w1 → W.grownBy w1 v.ownBlock → wpList P ops Q rest (a.put o.dst (goInt (min ys.length xs.length : Nat))) w1 := fun w1 a1 a2 a3 => h v w1 rfl a1 a2 a3 (.inl rfl)
  by_cases hn : min ys.length xs.length = 0
  · obtain ⟨A', c', rfl⟩ := own_slice hown
    refine wpList_copy_nothing hgd s x t t2 ho e ht hsz A' A xs.length c' ys.length c hs hx hn ?_
    have hc : copyR xs ys = xs := by
      unfold copyR
      rcases Nat.eq_zero_or_pos ys.length with h0 | h0
      · obtain rfl := List.eq_nil_of_length_eq_zero h0; simp
      · obtain rfl : xs = [] := List.eq_nil_of_length_eq_zero (by omega); simp
    have := hgo W (by rw [hc]; exact HO) HB ⟨rfl, rfl, rfl, Nat.le_refl _, fun _ _ _ => rfl⟩
    rwa [hn] at this
  · obtain ⟨ad, rfl, hcell⟩ := (reads_of_C (d := xs.headD (ys.head (by intro h0; simp [h0] at hn))) HY).2.2 (by omega)
    rcases hown.2 with ⟨_, h0⟩ | ⟨g, cap, cur, rfl, hb, hh, hnc, hcm, hcs, htake⟩
    · omega
    · have hl : ((encs enc ys).take xs.length).length = Nat.min ys.length xs.length := by rw [List.length_take, encs_length, Nat.min_comm]
      refine wpList_copy_own hgd s x t t2 ho e ht hsz g 0 xs.length cap ad ys.length c hs hx cur e hh ((encs enc ys).take xs.length) hl (fun j u hu => ?_) ?_ (fun u hu => ?_) ?_
      · rw [List.getElem?_take] at hu
        split at hu
        · rename_i hj
          have hjy : j < ys.length := by have := (List.getElem?_eq_some_iff.1 hu).1; rwa [encs_length] at this
          rw [hcell j hjy]
          rw [encs_get (d := xs.headD (ys.head (by intro h0; simp [h0] at hn))) ys j hjy] at hu
          exact hu
        · simp at hu
      · rw [hl, Nat.zero_add]
        have : Nat.min ys.length xs.length ≤ xs.length := Nat.min_le_right _ _
        omega
      · have hu' := List.mem_of_mem_take hu
        simp only [encs, List.mem_map] at hu'
        obtain ⟨y, _, rfl⟩ := hu'
        exact h1 y
      · rw [hl]
        refine hgo _ (R_of_own ?_ HO.1) (below_setRow HB hb _) ?_
        · refine ⟨by rw [encs_length, copyR_length, Nat.mul_one], .inr ⟨g, cap, _, by rw [copyR_length], hb, setRow_heap W g _ _ e _ hh, by rw [copyR_length]; exact hnc, hcm, ?_, ?_⟩⟩
          · have hmin : Nat.min ys.length xs.length ≤ xs.length := Nat.min_le_right _ _
            simp only [List.take_zero, List.nil_append, List.size_toArray, List.length_append, List.length_drop, Array.length_toList, Nat.zero_add]
            rw [hl]; omega
          · rw [copyR_length, Nat.mul_one]
            rw [Nat.mul_one] at htake
            have hx2 : encs enc (copyR xs ys) = (encs enc ys).take xs.length ++ (encs enc xs).drop ys.length := by simp [copyR, encs, List.map_take, List.map_drop]
            rw [hx2, ← htake]
            simp only [List.take_zero, List.nil_append, Nat.zero_add]
            rw [List.take_append, hl, List.take_of_length_le (by rw [hl]; exact Nat.min_le_right _ _)]
            congr 1
            rw [List.drop_take]
            rcases Nat.le_total ys.length xs.length with hle | hle
            · rw [show Nat.min ys.length xs.length = ys.length from Nat.min_eq_left hle]
            · rw [show Nat.min ys.length xs.length = xs.length from Nat.min_eq_right hle, Nat.sub_self, List.take_zero, show xs.length - ys.length = 0 by omega]; simp
        · exact ⟨rfl, rfl, rfl, by simp [World.setRow], fun k hk hne => setRow_other W g k _ (by intro e2; subst e2; simp [Value.ownBlock] at hne)⟩
theorem R_copy (k : IntKind) {w0 W : World} (base : Nat) (hgd : o.guard = none) (s x : Operand) (t t2 e : TypeId) (z : Value) (bytes : Nat)
    (ho : o.op = .call { callee := .builtin .copy, args := #[s, x], argTypes := #[t, t2] })
    (ht : P.underlying t = some (.slice e)) (hinfo : (P.info? e).map (fun i => (i.zero, i.size, i.bytes)) = some (some z, 1, bytes))
    (v : Value) (xs ys : List Int) (A : Option Addr) (c : Nat) (ok : Nat → Prop) (hs : a.eval s = v) (hx : a.eval x = .slice A ys.length c)
    (HO : (int k).R e W base ok v xs) (HY : (int k).C W A ys.length ys) (HB : Below base w0 W)
    (h : ∀ v1 w1, v1 = v → (int k).R e w1 base ok v1 (copyR xs ys) → Below base w0 w1 → W.grownBy w1 v.ownBlock → (v1.ownBlock = v.ownBlock ∨ ∃ b, v1.ownBlock = some b ∧ W.heap.size ≤ b) → wpList P ops Q rest (a.put o.dst (goInt (min ys.length xs.length : Nat))) w1) :
    wpList P ops Q (o :: rest) a W := R_copy_ base hgd s x t t2 e z bytes ho ht hinfo v xs ys A c ok hs hx HO HY HB h
end
end Kd
end Go.Proofs.YtmcegphcjphdcaaW.PrintMore
