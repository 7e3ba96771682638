import Derived.Test.YtfkmbjkmlfnapaaDoorMLW
import Derived.Laws.MakeOwn
import Derived.Laws.CopyOwn
set_option linter.unusedVariables false
namespace Go.Proofs.YtfkmbjkmlfnapaaDoorW.PrintMore
open Go.RowKit Go.Proofs.YtfkmbjkmlfnapaaDoorW.PrintWords Go.Proofs.YtfkmbjkmlfnapaaDoorW.PrintLast
section
variable {P : Program}
theorem cut_to3 (t e : TypeId) (kh : IntKind) {i : TypeInfo} (ht : P.underlying t = some (.slice e)) (hi : P.info? e = some i) (A : Option Addr) (n c : Nat) (j : Int) (h0 : 0 ≤ j) (hm : j ≤ n) (hc : n ≤ c) :
    ∀ W : World, (Instr.slice t (.slice A n c) none (some (.int kh j)) (some (.int kh j))).run P W = .ok (.slice A j.toNat j.toNat) W := by
  intro W
  have hel : P.elem t = e := by simp [Program.elem, ht]
  have hu : P.underlying t = some (.slice (P.elem t)) := by rw [hel]; exact ht
  have ha : (A.map fun x => x.add 0) = A := by cases A <;> simp [Addr.add]
  rw [run_slice_hm W t A n c hu kh kh j j h0 (by omega) (by omega), hel]
  simp [sizeOf, typeInfo, hi, sliced, Result.andThen, ha]
end
namespace Kd
open Go.Proofs.YtfkmbjkmlfnapaaDoorW.PrintWords.Kd
section
variable {P : Program} {ops : Array Oper} {rest : List Oper} {o : Oper} {a : Act} {Q : Exit → Act → World → Prop} {α : Type}
end
end Kd
end Go.Proofs.YtfkmbjkmlfnapaaDoorW.PrintMore
namespace Go.Proofs.YtfkmbjkmlfnapaaDoor
set_option linter.unusedVariables false
theorem zz0 {P : Prop} (h : P := by kernel_rfl) : P := h
theorem zz1 {P : Prop} (h : P := by first | rfl | (simp; done) | (simp [*]; done)) : P := h
theorem zz2 {P : Prop} (h : P := by repeat (first | exact Drawn0.refl _ | apply Drawn0.step)) : P := h
theorem zz3 {P : Prop} (h : P := by rw [if_pos rfl] at H; exact H) : P := h
theorem zz4 {P : Prop} (h : P := by first | (with_reducible assumption) | assumption) : P := h
theorem zz5 {P : Prop} (h : P := by (try simp only [List.map_toArray, List.map_cons, List.map_nil]); first | done | rfl | (simp only [List.length_drop, List.length_take]; rfl)) : P := h
theorem zz6 {P : Prop} (h : P := by have := HK1.out; omega) : P := h
theorem zz7 {P : Prop} (h : P := by rw [if_neg (show ¬ (false = true) by decide)] at H; exact H) : P := h
theorem zz8 {P : Prop} (h : P := by simp) : P := h
theorem zz9 {P : Prop} (h : P := by rfl) : P := h
theorem zz10 {P : Prop} (h : P := by repeat (first | (with_reducible first | exact HB.out | apply below_alloc | apply pw_below_drewN | apply below_drew1) | exact HB.out)) : P := h
theorem zz11 {P : Prop} (h : P := by first | omega | exact Nat.le_refl _) : P := h
theorem zz12 {P : Prop} (h : P := by (with_reducible repeat (first | refine blk_drewN ?_ _ | refine blk_drew ?_ | refine blk_alloc ?_ _)); exact h0_.out) : P := h
theorem zz13 {P : Prop} (h : P := by repeat (first | (with_reducible first | exact HB.out | apply below_alloc | apply pw_below_drewN | apply below_drew1 | refine below_set ?_ h0_.out) | exact HB.out)) : P := h
theorem zz14 {P : Prop} (h : P := by first | rfl | (simp [errW_none, errW_some] <;> rfl) | (simp [*, errW_none, errW_some] <;> rfl)) : P := h
theorem zz15 {P : Prop} (h : P := by omega) : P := h
theorem zz16 {P : Prop} (h : P := by first | (rw [h0_]; with_reducible exact H) | (have H2_ := (Option.bind_some _ _).symm.trans H; rw [h0_]; with_reducible exact H2_) | (have H2_ := (Option.bind_some _ _).symm.trans H; with_reducible exact H2_) | with_reducible exact H | (rw [h0_]; exact H) | exact H) : P := h
theorem zz17 {P : Prop} (h : P := by decide) : P := h
theorem zz18 {P : Prop} (h : P := by (with_reducible repeat (first | apply Kd.R_alloc | apply Kd.R_drewN | apply Kd.R_drew)); exact h0_.out) : P := h
theorem zz19 {P : Prop} (h : P := by first | (rw [h0_] at H; exact H) | (simp only [h0_] at H ⊢; exact H)) : P := h
theorem zz20 {P : Prop} (h : P := by first | simpa using h0_ | (simp at h0_ ⊢; omega)) : P := h
theorem zz21 {P : Prop} (h : P := by first | rfl | (simp [errW_none, errW_some] <;> rfl) | (simp only [← h0_]; first | rfl | (simp [errW_none, errW_some] <;> rfl)) | (simp [*, errW_none, errW_some] <;> rfl)) : P := h
theorem zz22 {P : Prop} (h : P := by first | rfl | (simp; done) | (simp only [← h0_] <;> (first | rfl | simp)) | (simp [*]; done)) : P := h
theorem zz23 {P : Prop} (h : P := by have := HK1.out; have := HK2.out; omega) : P := h
theorem zz24 {P : Prop} (h : P := by (with_reducible repeat (first | refine blk_drewN ?_ _ | refine blk_drew ?_ | refine blk_alloc ?_ _)); exact BK153.out) : P := h
theorem zz25 {P : Prop} (h : P := by (with_reducible repeat (first | refine blk_drewN ?_ _ | refine blk_drew ?_ | refine blk_alloc ?_ _)); exact BK154.out) : P := h
theorem zz26 {P : Prop} (h : P := by repeat (first | (with_reducible first | exact HB.out | apply below_alloc | apply pw_below_drewN | apply below_drew1 | refine below_set ?_ GE153.out | refine below_set ?_ GE154.out) | exact HB.out)) : P := h
theorem zz27 {P : Prop} (h : P := by (with_reducible repeat (first | refine blk_drewN ?_ _ | refine blk_drew ?_ | refine blk_alloc ?_ _)); refine blk_put (cs := #[.slice none 0 0]) ?_ 0 _ rfl; (with_reducible repeat (first | refine blk_drewN ?_ _ | refine blk_drew ?_ | refine blk_alloc ?_ _)); exact h0_.out) : P := h
theorem zz28 {P : Prop} (h : P := by first | exact Kd.S_nil _ _ _ _ _ | exact Kd.N_nil _ _ _ _ _ | exact Kd.V_nil _ _ _ _ _ | exact Kd.Q_nil _ _ _ _ _ | exact Kd.R_nil _ _ _ _ _) : P := h
theorem zz29 {P : Prop} (h : P := by repeat (first | (with_reducible first | exact HB.out | apply below_alloc | apply pw_below_drewN | apply below_drew1 | refine below_set ?_ GE153.out | refine below_set ?_ GE154.out | refine below_set ?_ GE158.out) | exact HB.out)) : P := h
theorem zz30 {P : Prop} (h : P := by (with_reducible repeat (first | apply Kd.S_alloc | apply Kd.S_drewN | apply Kd.S_drew)); exact h0_.out) : P := h
theorem zz31 {P : Prop} (h : P := by rw [← hq_]; exact (by (with_reducible repeat (first | refine blk_drewN ?_ _ | refine blk_drew ?_ | refine blk_alloc ?_ _)); exact h0_.out)) : P := h
theorem zz32 {P : Prop} (h : P := by (with_reducible repeat (first | apply Kd.S_alloc | apply Kd.S_drewN | apply Kd.S_drew)); exact Kd.S_mono h0_.out (fun k_ hk => ⟨trivial, fun e_ => hk.2 e_⟩)) : P := h
theorem zz33 {P : Prop} (h : P := by (with_reducible repeat (first | refine blk_drewN ?_ _ | refine blk_drew ?_ | refine blk_alloc ?_ _)); exact BK167.out) : P := h
theorem zz34 {P : Prop} (h : P := by repeat (first | (with_reducible first | exact HB.out | apply below_alloc | apply pw_below_drewN | apply below_drew1 | refine below_set ?_ GE167.out) | exact HB.out)) : P := h
theorem zz35 {P : Prop} (h : P := by repeat (first | (with_reducible first | exact HB.out | apply below_alloc | apply pw_below_drewN | apply below_drew1 | refine below_set ?_ h0_.out | refine below_set ?_ h1_.out) | exact HB.out)) : P := h
theorem zz36 {P : Prop} (h : P := by (with_reducible repeat (first | refine blk_drewN ?_ _ | refine blk_drew ?_ | refine blk_alloc ?_ _)); exact BK200.out) : P := h
theorem zz37 {P : Prop} (h : P := by (with_reducible repeat (first | refine blk_drewN ?_ _ | refine blk_drew ?_ | refine blk_alloc ?_ _)); exact BK201.out) : P := h
theorem zz38 {P : Prop} (h : P := by repeat (first | (with_reducible first | exact HB.out | apply below_alloc | apply pw_below_drewN | apply below_drew1 | refine below_set ?_ GE200.out | refine below_set ?_ GE201.out) | exact HB.out)) : P := h
theorem zz39 {P : Prop} (h : P := by repeat (first | (with_reducible first | exact HB.out | apply below_alloc | apply pw_below_drewN | apply below_drew1 | refine below_set ?_ GE200.out | refine below_set ?_ GE201.out | refine below_set ?_ GE206.out) | exact HB.out)) : P := h
theorem zz40 {P : Prop} (h : P := by (with_reducible repeat (first | apply Kd.S_alloc | apply Kd.S_drewN | apply Kd.S_drew)); exact Kd.S_mono h0_.out (fun _ hk => hk.2)) : P := h
theorem zz41 {P : Prop} (h : P := by have := HJ4.out; have := HK2.out; have := HK3.out; have := HK4.out; omega) : P := h
theorem zz42 {P : Prop} (h : P := by (with_reducible repeat (first | apply Kd.S_alloc | apply Kd.S_drewN | apply Kd.S_drew)); exact Kd.S_mono h0_.out (fun k_ hk => ⟨trivial, fun e_ => hk e_⟩)) : P := h
theorem zz43 {P : Prop} (h : P := by (try simp only [List.map_toArray, List.map_cons, List.map_nil]); first | done | (simp only [h0_]; rfl) | rfl | (simp only [List.length_drop, List.length_take]; rfl)) : P := h
theorem zz44 {P : Prop} (h : P := by (with_reducible repeat (first | apply Kd.R_alloc | apply Kd.R_drewN | apply Kd.R_drew)); exact Kd.R_mono h0_.out (fun _ hk => hk.2)) : P := h
theorem zz45 {P : Prop} (h : P := by (with_reducible repeat (first | apply Kd.R_alloc | apply Kd.R_drewN | apply Kd.R_drew)); exact HO_4.out) : P := h
theorem zz46 {P : Prop} (h : P := by (with_reducible repeat (first | refine blk_drewN ?_ _ | refine blk_drew ?_ | refine blk_alloc ?_ _)); exact BK183.out) : P := h
theorem zz47 {P : Prop} (h : P := by (with_reducible repeat (first | refine blk_drewN ?_ _ | refine blk_drew ?_ | refine blk_alloc ?_ _)); exact BK184.out) : P := h
theorem zz48 {P : Prop} (h : P := by repeat (first | (with_reducible first | exact HB.out | apply below_alloc | apply pw_below_drewN | apply below_drew1 | refine below_set ?_ GE183.out | refine below_set ?_ GE184.out) | exact HB.out)) : P := h
theorem zz49 {P : Prop} (h : P := by rw [← hq_]; exact (by repeat (first | (with_reducible first | exact HB.out | apply below_alloc | apply pw_below_drewN | apply below_drew1 | refine below_set ?_ h0_.out | refine below_set ?_ h1_.out) | exact HB.out))) : P := h
theorem zz50 {P : Prop} (h : P := by repeat (first | (with_reducible first | exact HB.out | apply below_alloc | apply pw_below_drewN | apply below_drew1 | refine below_set ?_ GE183.out | refine below_set ?_ GE184.out | refine below_set ?_ GE192.out) | exact HB.out)) : P := h
theorem zz51 {P : Prop} (h : P := by (with_reducible repeat (first | apply Kd.V_alloc | apply Kd.V_drewN | apply Kd.V_drew)); exact HO0.out) : P := h
theorem zz52 {P : Prop} (h : P := by (with_reducible repeat (first | apply Kd.V_alloc | apply Kd.V_drewN | apply Kd.V_drew)); exact h0_.out) : P := h
theorem zz53 {P : Prop} (h : P := by (with_reducible repeat (first | apply Kd.V_alloc | apply Kd.V_drewN | apply Kd.V_drew)); exact Kd.V_mono h0_.out (fun _ hk => ⟨trivial, hk⟩)) : P := h
theorem zz54 {P : Prop} (h : P := by (with_reducible repeat (first | apply Kd.R_alloc | apply Kd.R_drewN | apply Kd.R_drew)); exact Kd.R_mono h0_.out (fun _ hk => hk.1)) : P := h
theorem zz55 {P : Prop} (h : P := by (with_reducible repeat (first | apply Kd.V_alloc | apply Kd.V_drewN | apply Kd.V_drew)); exact HO1.out) : P := h
theorem zz56 {P : Prop} (h : P := by (with_reducible repeat (first | apply Kd.R_alloc | apply Kd.R_drewN | apply Kd.R_drew)); exact Kd.R_mono h0_.out (fun _ hk => hk.1.1)) : P := h
theorem zz57 {P : Prop} (h : P := by (with_reducible repeat (first | refine blk_drewN ?_ _ | refine blk_drew ?_ | refine blk_alloc ?_ _)); refine blk_put (cs := #[.bool false, .slice none 0 0, .slice none 0 0]) ?_ 2 _ rfl; (with_reducible repeat (first | refine blk_drewN ?_ _ | refine blk_drew ?_ | refine blk_alloc ?_ _)); refine blk_put (cs := #[.bool false, .slice none 0 0, .slice none 0 0]) ?_ 1 _ rfl; (with_reducible repeat (first | refine blk_drewN ?_ _ | refine blk_drew ?_ | refine blk_alloc ?_ _)); refine blk_put (cs := #[.bool false, .slice none 0 0, .slice none 0 0]) ?_ 0 _ rfl; (with_reducible repeat (first | refine blk_drewN ?_ _ | refine blk_drew ?_ | refine blk_alloc ?_ _)); exact h0_.out) : P := h
theorem zz58 {P : Prop} (h : P := by first | exact Kd.R_nil _ _ _ _ _ | exact Kd.N_nil _ _ _ _ _ | exact Kd.V_nil _ _ _ _ _ | exact Kd.Q_nil _ _ _ _ _ | exact Kd.S_nil _ _ _ _ _) : P := h
theorem zz59 {P : Prop} (h : P := by (with_reducible repeat (first | refine blk_drewN ?_ _ | refine blk_drew ?_ | refine blk_alloc ?_ _)); refine blk_put (cs := #[.bool false, .slice none 0 0]) ?_ 1 _ rfl; (with_reducible repeat (first | refine blk_drewN ?_ _ | refine blk_drew ?_ | refine blk_alloc ?_ _)); refine blk_put (cs := #[.bool false, .slice none 0 0]) ?_ 0 _ rfl; (with_reducible repeat (first | refine blk_drewN ?_ _ | refine blk_drew ?_ | refine blk_alloc ?_ _)); exact h0_.out) : P := h
theorem zz60 {P : Prop} (h : P := by (with_reducible repeat (first | apply Kd.V_alloc | apply Kd.V_drewN | apply Kd.V_drew)); exact HO0_1.out) : P := h
theorem zz61 {P : Prop} (h : P := by (with_reducible repeat (first | refine blk_drewN ?_ _ | refine blk_drew ?_ | refine blk_alloc ?_ _)); exact BK307.out) : P := h
theorem zz62 {P : Prop} (h : P := by repeat (first | (with_reducible first | exact HB.out | apply below_alloc | apply pw_below_drewN | apply below_drew1 | refine below_set ?_ GE307.out | refine below_set ?_ GE308.out) | exact HB.out)) : P := h
theorem zz63 {P : Prop} (h : P := by (with_reducible repeat (first | refine blk_drewN ?_ _ | refine blk_drew ?_ | refine blk_alloc ?_ _)); exact BK308.out) : P := h
theorem zz64 {P : Prop} (h : P := by (with_reducible repeat (first | apply Kd.V_alloc | apply Kd.V_drewN | apply Kd.V_drew)); exact Kd.V_mono h0_.out (fun _ hk => ⟨hk.1.1, ⟨hk.1.2, hk.2⟩⟩)) : P := h
theorem zz65 {P : Prop} (h : P := by (with_reducible repeat (first | refine blk_drewN ?_ _ | refine blk_drew ?_ | refine blk_alloc ?_ _)); exact BK339.out) : P := h
theorem zz66 {P : Prop} (h : P := by (with_reducible repeat (first | refine blk_drewN ?_ _ | refine blk_drew ?_ | refine blk_alloc ?_ _)); exact BK340.out) : P := h
theorem zz67 {P : Prop} (h : P := by repeat (first | (with_reducible first | exact HB.out | apply below_alloc | apply pw_below_drewN | apply below_drew1 | refine below_set ?_ GE339.out | refine below_set ?_ GE340.out | refine below_set ?_ GE341.out) | exact HB.out)) : P := h
theorem zz68 {P : Prop} (h : P := by (with_reducible repeat (first | refine blk_drewN ?_ _ | refine blk_drew ?_ | refine blk_alloc ?_ _)); exact BK381.out) : P := h
theorem zz69 {P : Prop} (h : P := by (with_reducible repeat (first | refine blk_drewN ?_ _ | refine blk_drew ?_ | refine blk_alloc ?_ _)); exact BK382.out) : P := h
theorem zz70 {P : Prop} (h : P := by repeat (first | (with_reducible first | exact HB.out | apply below_alloc | apply pw_below_drewN | apply below_drew1 | refine below_set ?_ GE381.out | refine below_set ?_ GE382.out) | exact HB.out)) : P := h
theorem zz71 {P : Prop} (h : P := by (with_reducible repeat (first | refine blk_drewN ?_ _ | refine blk_drew ?_ | refine blk_alloc ?_ _)); exact BK398.out) : P := h
theorem zz72 {P : Prop} (h : P := by (with_reducible repeat (first | refine blk_drewN ?_ _ | refine blk_drew ?_ | refine blk_alloc ?_ _)); exact BK399.out) : P := h
theorem zz73 {P : Prop} (h : P := by repeat (first | (with_reducible first | exact HB.out | apply below_alloc | apply pw_below_drewN | apply below_drew1 | refine below_set ?_ GE398.out | refine below_set ?_ GE399.out) | exact HB.out)) : P := h
theorem zz74 {P : Prop} (h : P := by repeat (first | (with_reducible first | exact HB.out | apply below_alloc | apply pw_below_drewN | apply below_drew1 | refine below_set ?_ GE454.out) | exact HB.out)) : P := h
theorem zz75 {P : Prop} (h : P := by (with_reducible repeat (first | refine blk_drewN ?_ _ | refine blk_drew ?_ | refine blk_alloc ?_ _)); exact BK454.out) : P := h
theorem zz76 {P : Prop} (h : P := by repeat (first | (with_reducible first | exact HB.out | apply below_alloc | apply pw_below_drewN | apply below_drew1 | refine below_set ?_ GE454.out | refine below_set ?_ GE462.out) | exact HB.out)) : P := h
theorem zz77 {P : Prop} (h : P := by (with_reducible repeat (first | apply Kd.N_alloc | apply Kd.N_drewN | apply Kd.N_drew)); exact HO491.out) : P := h
theorem zz78 {P : Prop} (h : P := by first | exact hk.2 | (revert hk; (try simp only [and_imp]); intros; repeat' (first | assumption | apply And.intro))) : P := h
theorem zz79 {P : Prop} (h : P := by repeat (first | (with_reducible first | exact HB.out | apply below_alloc | apply pw_below_drewN | apply below_drew1 | refine below_set ?_ GE495.out) | exact HB.out)) : P := h
theorem zz80 {P : Prop} (h : P := by (with_reducible repeat (first | refine blk_drewN ?_ _ | refine blk_drew ?_ | refine blk_alloc ?_ _)); exact BK495.out) : P := h
theorem zz81 {P : Prop} (h : P := by first | exact ⟨hk.1.2, hk.2⟩ | (revert hk; (try simp only [and_imp]); intros; repeat' (first | assumption | apply And.intro))) : P := h
theorem zz82 {P : Prop} (h : P := by (with_reducible repeat (first | apply Kd.N_alloc | apply Kd.N_drewN | apply Kd.N_drew)); exact h0_.out) : P := h
theorem zz83 {P : Prop} (h : P := by first | exact hs_.1 | (revert hs_; (try simp only [and_imp]); intros; repeat' (first | assumption | apply And.intro))) : P := h
theorem zz84 {P : Prop} (h : P := by (with_reducible repeat (first | apply Kd.V_alloc | apply Kd.V_drewN | apply Kd.V_drew)); exact HO_496000.out) : P := h
theorem zz85 {P : Prop} (h : P := by (with_reducible repeat (first | apply Kd.N_alloc | apply Kd.N_drewN | apply Kd.N_drew)); exact HO518.out) : P := h
theorem zz86 {P : Prop} (h : P := by first | exact hs_ | (revert hs_; (try simp only [and_imp]); intros; repeat' (first | assumption | apply And.intro))) : P := h
theorem zz87 {P : Prop} (h : P := by first | exact hs_.2.1 | (revert hs_; (try simp only [and_imp]); intros; repeat' (first | assumption | apply And.intro))) : P := h
theorem zz88 {P : Prop} (h : P := by (with_reducible repeat (first | apply Kd.N_alloc | apply Kd.N_drewN | apply Kd.N_drew)); exact HO608.out) : P := h
theorem zz89 {P : Prop} (h : P := by (with_reducible repeat (first | apply Kd.R_alloc | apply Kd.R_drewN | apply Kd.R_drew)); exact HO615.out) : P := h
theorem zz90 {P : Prop} (h : P := by (with_reducible repeat (first | apply Kd.V_alloc | apply Kd.V_drewN | apply Kd.V_drew)); exact (Kd.V_mono (Kd.V_far (p := ⟨gb620, 2, none⟩) (Kd.V_far (p := ⟨gb620, 1, none⟩) (Kd.V_far (p := ⟨gb620, 0, none⟩) (Kd.V_mono h0_.out (fun k_ hk => (⟨hk, (by first | exact hk.2 | (revert hk; (try simp only [and_imp]); intros; repeat' (first | assumption | apply And.intro)))⟩ : _ ∧ k_ ≠ gb620))) (fun _ hk => hk.2) (.bool t612)) (fun _ hk => hk.2) (.slice Ao101 t613.length co101)) (fun _ hk => hk.2) (.slice Ao102 t616.length co102)) (fun _ h_ => h_.1))) : P := h
theorem zz91 {P : Prop} (h : P := by repeat (first | (with_reducible first | exact HB.out | apply below_alloc | apply pw_below_drewN | apply below_drew1 | refine below_set ?_ GE495.out | refine below_set ?_ GE620.out) | exact HB.out)) : P := h
theorem zz92 {P : Prop} (h : P := by first | exact hs_.2.2.1 | (revert hs_; (try simp only [and_imp]); intros; repeat' (first | assumption | apply And.intro))) : P := h
theorem zz93 {P : Prop} (h : P := by (with_reducible repeat (first | apply Kd.R_alloc | apply Kd.R_drewN | apply Kd.R_drew)); exact (Kd.R_mono (Kd.R_far (p := ⟨gb664, 2, none⟩) (Kd.R_far (p := ⟨gb664, 1, none⟩) (Kd.R_far (p := ⟨gb664, 0, none⟩) (Kd.R_types h0_.out h1_.out (by decide)) (fun _ hk => hk.2) (.bool t656)) (fun _ hk => hk.2) (.slice Ao119 t657.length co119)) (fun _ hk => hk.2) (.slice Ao120 t660.length co120)) (fun _ h_ => h_.1))) : P := h
theorem zz94 {P : Prop} (h : P := by (with_reducible repeat (first | apply Kd.V_alloc | apply Kd.V_drewN | apply Kd.V_drew)); exact (Kd.V_mono (Kd.V_far (p := ⟨gb664, 2, none⟩) (Kd.V_far (p := ⟨gb664, 1, none⟩) (Kd.V_far (p := ⟨gb664, 0, none⟩) (Kd.V_mono h0_.out (fun k_ hk => (⟨hk, (by first | exact hk.2 | (revert hk; (try simp only [and_imp]); intros; repeat' (first | assumption | apply And.intro)))⟩ : _ ∧ k_ ≠ gb664))) (fun _ hk => hk.2) (.bool t656)) (fun _ hk => hk.2) (.slice Ao119 t657.length co119)) (fun _ hk => hk.2) (.slice Ao120 t660.length co120)) (fun _ h_ => h_.1))) : P := h
theorem zz95 {P : Prop} (h : P := by (with_reducible repeat (first | apply Kd.N_alloc | apply Kd.N_drewN | apply Kd.N_drew)); exact (Kd.N_mono (Kd.N_far (p := ⟨gb664, 2, none⟩) (Kd.N_far (p := ⟨gb664, 1, none⟩) (Kd.N_far (p := ⟨gb664, 0, none⟩) (Kd.N_mono h0_.out (fun k_ hk => (⟨hk, (by first | exact hk.2 | (revert hk; (try simp only [and_imp]); intros; repeat' (first | assumption | apply And.intro)))⟩ : _ ∧ k_ ≠ gb664))) (fun _ hk => hk.2) (.bool t656)) (fun _ hk => hk.2) (.slice Ao119 t657.length co119)) (fun _ hk => hk.2) (.slice Ao120 t660.length co120)) (fun _ h_ => h_.1))) : P := h
theorem zz96 {P : Prop} (h : P := by repeat (first | (with_reducible first | exact HB.out | apply below_alloc | apply pw_below_drewN | apply below_drew1 | refine below_set ?_ GE495.out | refine below_set ?_ GE620.out | refine below_set ?_ GE664.out) | exact HB.out)) : P := h
theorem zz97 {P : Prop} (h : P := by (with_reducible repeat (first | apply Kd.R_alloc | apply Kd.R_drewN | apply Kd.R_drew)); exact HO676.out) : P := h
theorem zz98 {P : Prop} (h : P := by (with_reducible repeat (first | apply Kd.R_alloc | apply Kd.R_drewN | apply Kd.R_drew)); exact HO679.out) : P := h
theorem zz99 {P : Prop} (h : P := by (with_reducible repeat (first | apply Kd.R_alloc | apply Kd.R_drewN | apply Kd.R_drew)); exact (Kd.R_mono (Kd.R_far (p := ⟨gb680, 1, none⟩) (Kd.R_far (p := ⟨gb680, 0, none⟩) (Kd.R_types h0_.out h1_.out (by decide)) (fun _ hk => hk.2) (.slice Ao141 y674.length co141)) (fun _ hk => hk.2) (.slice Ao140 y677.length co140)) (fun _ h_ => h_.1))) : P := h
theorem zz100 {P : Prop} (h : P := by (with_reducible repeat (first | refine blk_drewN ?_ _ | refine blk_drew ?_ | refine blk_alloc ?_ _)); exact BK680.out) : P := h
theorem zz101 {P : Prop} (h : P := by (with_reducible repeat (first | apply Kd.R_alloc | apply Kd.R_drewN | apply Kd.R_drew)); exact Kd.R_mono (Kd.R_far (p := ⟨gb685, 0, none⟩) (Kd.R_types h0_.out h1_.out (by decide)) (fun _ hk => hk.2) (.slice Ao147 t681.length co147)) (fun _ hk => (by first | exact hk.1.2 | (revert hk; (try simp only [and_imp]); intros; repeat' (first | assumption | apply And.intro))))) : P := h
theorem zz102 {P : Prop} (h : P := by repeat (first | (with_reducible first | exact HB.out | apply below_alloc | apply pw_below_drewN | apply below_drew1 | refine below_set ?_ GE495.out | refine below_set ?_ GE680.out | refine below_set ?_ GE685.out) | exact HB.out)) : P := h
theorem zz103 {P : Prop} (h : P := by rw [ha]; exact putSel_on (e := (2, 101, .bool (t684 != 0))) 1 rfl rfl (hon 2 (by kernel_rfl)) rfl) : P := h
theorem zz104 {P : Prop} (h : P := by first | rfl | (simp [*]; done)) : P := h
theorem zz105 {P : Prop} (h : P := by (with_reducible repeat (first | refine blk_drewN ?_ _ | refine blk_drew ?_ | refine blk_alloc ?_ _)); exact BK685.out) : P := h
theorem zz106 {P : Prop} (h : P := by (with_reducible repeat (first | apply Kd.R_alloc | apply Kd.R_drewN | apply Kd.R_drew)); exact (Q_HO691 h0_ h1_)) : P := h
theorem zz107 {P : Prop} (h : P := by (with_reducible repeat (first | apply Kd.R_alloc | apply Kd.R_drewN | apply Kd.R_drew)); exact (Q_HO694 h0_ h1_)) : P := h
theorem zz108 {P : Prop} (h : P := by (with_reducible repeat (first | apply Kd.R_alloc | apply Kd.R_drewN | apply Kd.R_drew)); first | exact h0_.out | exact Kd.R_mono h0_.out (fun k_ hk => by revert hk; (try simp only [and_imp]); intros; repeat' (first | assumption | apply And.intro))) : P := h
theorem zz109 {P : Prop} (h : P := by (with_reducible repeat (first | apply Kd.N_alloc | apply Kd.N_drewN | apply Kd.N_drew)); first | exact Kd.N_mono HO683.out (fun _ hk => (by first | exact ⟨hk.1.1, ⟨hk.1.2.1, ⟨hk.2, ⟨hk.1.2.2.1, ⟨hk.1.2.2.2.1, hk.1.2.2.2.2⟩⟩⟩⟩⟩ | (revert hk; (try simp only [and_imp]); intros; repeat' (first | assumption | apply And.intro)))) | exact Kd.N_mono HO683.out (fun k_ hk => by revert hk; (try simp only [and_imp]); intros; repeat' (first | assumption | apply And.intro))) : P := h
theorem zz110 {P : Prop} (h : P := by (with_reducible repeat (first | apply Kd.V_alloc | apply Kd.V_drewN | apply Kd.V_drew)); first | exact Kd.V_mono HO_496000.out (fun _ hk => (by first | exact ⟨hk.1.1, ⟨hk.1.2.1, ⟨hk.1.2.2.1, ⟨hk.2, ⟨hk.1.2.2.2.1, ⟨hk.1.2.2.2.2.1, hk.1.2.2.2.2.2⟩⟩⟩⟩⟩⟩ | (revert hk; (try simp only [and_imp]); intros; repeat' (first | assumption | apply And.intro)))) | exact Kd.V_mono HO_496000.out (fun k_ hk => by revert hk; (try simp only [and_imp]); intros; repeat' (first | assumption | apply And.intro))) : P := h
theorem zz111 {P : Prop} (h : P := by (with_reducible repeat (first | apply Kd.R_alloc | apply Kd.R_drewN | apply Kd.R_drew)); first | exact Kd.R_mono h0_.out (fun _ hk => (by first | exact ⟨hk.1.2, hk.2⟩ | (revert hk; (try simp only [and_imp]); intros; repeat' (first | assumption | apply And.intro)))) | exact Kd.R_mono h0_.out (fun k_ hk => by revert hk; (try simp only [and_imp]); intros; repeat' (first | assumption | apply And.intro))) : P := h
theorem zz112 {P : Prop} (h : P := by (with_reducible repeat (first | apply Kd.R_alloc | apply Kd.R_drewN | apply Kd.R_drew)); exact (Q_HO688 h0_ h1_)) : P := h
theorem zz113 {P : Prop} (h : P := by first | exact ⟨hk.1.1.1.1.1, ⟨hk.1.1.1.1.2.1, ⟨hk.1.1.1.2, ⟨hk.1.1.2, ⟨hk.1.2, hk.2⟩⟩⟩⟩⟩ | (revert hk; (try simp only [and_imp]); intros; repeat' (first | assumption | apply And.intro))) : P := h
theorem zz114 {P : Prop} (h : P := by (with_reducible repeat (first | apply Kd.R_alloc | apply Kd.R_drewN | apply Kd.R_drew)); first | exact Kd.R_mono h0_.out (fun _ hk => (by first | exact hk.1 | (revert hk; (try simp only [and_imp]); intros; repeat' (first | assumption | apply And.intro)))) | exact Kd.R_mono h0_.out (fun k_ hk => by revert hk; (try simp only [and_imp]); intros; repeat' (first | assumption | apply And.intro))) : P := h
theorem zz115 {P : Prop} (h : P := by (with_reducible repeat (first | apply Kd.N_alloc | apply Kd.N_drewN | apply Kd.N_drew)); first | exact h0_.out | exact Kd.N_mono h0_.out (fun k_ hk => by revert hk; (try simp only [and_imp]); intros; repeat' (first | assumption | apply And.intro))) : P := h
theorem zz116 {P : Prop} (h : P := by first | exact hs_.2.2.2.1 | (revert hs_; (try simp only [and_imp]); intros; repeat' (first | assumption | apply And.intro))) : P := h
theorem zz117 {P : Prop} (h : P := by first | exact hs_.2.2.2.2.1 | (revert hs_; (try simp only [and_imp]); intros; repeat' (first | assumption | apply And.intro))) : P := h
theorem zz118 {P : Prop} (h : P := by (with_reducible repeat (first | apply Kd.V_alloc | apply Kd.V_drewN | apply Kd.V_drew)); first | exact h0_.out | exact Kd.V_mono h0_.out (fun k_ hk => by revert hk; (try simp only [and_imp]); intros; repeat' (first | assumption | apply And.intro))) : P := h
theorem zz119 {P : Prop} (h : P := by (with_reducible repeat (first | apply Kd.R_alloc | apply Kd.R_drewN | apply Kd.R_drew)); exact HO711.out) : P := h
theorem zz120 {P : Prop} (h : P := by (with_reducible repeat (first | apply Kd.R_alloc | apply Kd.R_drewN | apply Kd.R_drew)); exact HO714.out) : P := h
theorem zz121 {P : Prop} (h : P := by (with_reducible repeat (first | apply Kd.R_alloc | apply Kd.R_drewN | apply Kd.R_drew)); exact (Kd.R_mono (Kd.R_far (p := ⟨gb715, 1, none⟩) (Kd.R_far (p := ⟨gb715, 0, none⟩) (Kd.R_types h0_.out h1_.out (by decide)) (fun _ hk => hk.2) (.slice Ao181 y709.length co181)) (fun _ hk => hk.2) (.slice Ao180 y712.length co180)) (fun _ h_ => h_.1))) : P := h
theorem zz122 {P : Prop} (h : P := by (with_reducible repeat (first | apply Kd.R_alloc | apply Kd.R_drewN | apply Kd.R_drew)); exact HO742.out) : P := h
theorem zz123 {P : Prop} (h : P := by (with_reducible repeat (first | refine blk_drewN ?_ _ | refine blk_drew ?_ | refine blk_alloc ?_ _)); exact BK715.out) : P := h
theorem zz124 {P : Prop} (h : P := by (with_reducible repeat (first | apply Kd.N_alloc | apply Kd.N_drewN | apply Kd.N_drew)); exact HO745.out) : P := h
theorem zz125 {P : Prop} (h : P := by (with_reducible repeat (first | apply Kd.R_alloc | apply Kd.R_drewN | apply Kd.R_drew)); exact (Kd.R_mono (Kd.R_far (p := ⟨gb747, 0, none⟩) (Kd.R_types h0_.out h1_.out (by decide)) (fun _ hk => hk.2) (.slice Ao190 t743.length co190)) (fun _ h_ => h_.1))) : P := h
theorem zz126 {P : Prop} (h : P := by repeat (first | (with_reducible first | exact HB.out | apply below_alloc | apply pw_below_drewN | apply below_drew1 | refine below_set ?_ GE495.out | refine below_set ?_ GE715.out | refine below_set ?_ GE747.out) | exact HB.out)) : P := h
theorem zz127 {P : Prop} (h : P := by (with_reducible repeat (first | apply Kd.R_alloc | apply Kd.R_drewN | apply Kd.R_drew)); exact HO778.out) : P := h
theorem zz128 {P : Prop} (h : P := by (with_reducible repeat (first | refine blk_drewN ?_ _ | refine blk_drew ?_ | refine blk_alloc ?_ _)); exact BK747.out) : P := h
theorem zz129 {P : Prop} (h : P := by (with_reducible repeat (first | apply Kd.N_alloc | apply Kd.N_drewN | apply Kd.N_drew)); exact HO781.out) : P := h
theorem zz130 {P : Prop} (h : P := by (with_reducible repeat (first | apply Kd.R_alloc | apply Kd.R_drewN | apply Kd.R_drew)); exact Kd.R_mono (Kd.R_far (p := ⟨gb783, 0, none⟩) (Kd.R_types h0_.out h1_.out (by decide)) (fun _ hk => hk.2) (.slice Ao200 t779.length co200)) (fun _ hk => (by first | exact ⟨hk.1.1.1.2, ⟨hk.1.1.2, hk.1.2⟩⟩ | (revert hk; (try simp only [and_imp]); intros; repeat' (first | assumption | apply And.intro))))) : P := h
theorem zz131 {P : Prop} (h : P := by repeat (first | (with_reducible first | exact HB.out | apply below_alloc | apply pw_below_drewN | apply below_drew1 | refine below_set ?_ GE495.out | refine below_set ?_ GE715.out | refine below_set ?_ GE747.out | refine below_set ?_ GE783.out) | exact HB.out)) : P := h
theorem zz132 {P : Prop} (h : P := by (with_reducible repeat (first | refine blk_drewN ?_ _ | refine blk_drew ?_ | refine blk_alloc ?_ _)); exact BK783.out) : P := h
theorem zz133 {P : Prop} (h : P := by first | exact hs_.2.2.2.2.2.1 | (revert hs_; (try simp only [and_imp]); intros; repeat' (first | assumption | apply And.intro))) : P := h
theorem zz134 {P : Prop} (h : P := by (with_reducible repeat (first | apply Kd.N_alloc | apply Kd.N_drewN | apply Kd.N_drew)); exact HO809.out) : P := h
theorem zz135 {P : Prop} (h : P := by (with_reducible repeat (first | apply Kd.R_alloc | apply Kd.R_drewN | apply Kd.R_drew)); exact HO815.out) : P := h
theorem zz136 {P : Prop} (h : P := by (with_reducible repeat (first | apply Kd.V_alloc | apply Kd.V_drewN | apply Kd.V_drew)); exact (Kd.V_mono (Kd.V_far (p := ⟨gb820, 0, none⟩) (Kd.V_mono h0_.out (fun k_ hk => (⟨hk, (by first | exact hk.2 | (revert hk; (try simp only [and_imp]); intros; repeat' (first | assumption | apply And.intro)))⟩ : _ ∧ k_ ≠ gb820))) (fun _ hk => hk.2) (.slice Ao253 t816.length co253)) (fun _ h_ => h_.1))) : P := h
theorem zz137 {P : Prop} (h : P := by (with_reducible repeat (first | apply Kd.N_alloc | apply Kd.N_drewN | apply Kd.N_drew)); exact (Kd.N_mono (Kd.N_far (p := ⟨gb820, 0, none⟩) (Kd.N_mono h0_.out (fun k_ hk => (⟨hk, (by first | exact hk.2 | (revert hk; (try simp only [and_imp]); intros; repeat' (first | assumption | apply And.intro)))⟩ : _ ∧ k_ ≠ gb820))) (fun _ hk => hk.2) (.slice Ao253 t816.length co253)) (fun _ h_ => h_.1))) : P := h
theorem zz138 {P : Prop} (h : P := by repeat (first | (with_reducible first | exact HB.out | apply below_alloc | apply pw_below_drewN | apply below_drew1 | refine below_set ?_ GE495.out | refine below_set ?_ GE820.out) | exact HB.out)) : P := h
theorem zz139 {P : Prop} (h : P := by (with_reducible repeat (first | refine blk_drewN ?_ _ | refine blk_drew ?_ | refine blk_alloc ?_ _)); exact BK915.out) : P := h
theorem zz140 {P : Prop} (h : P := by (with_reducible repeat (first | refine blk_drewN ?_ _ | refine blk_drew ?_ | refine blk_alloc ?_ _)); exact BK916.out) : P := h
theorem zz141 {P : Prop} (h : P := by repeat (first | (with_reducible first | exact HB.out | apply below_alloc | apply pw_below_drewN | apply below_drew1 | refine below_set ?_ GE915.out | refine below_set ?_ GE916.out) | exact HB.out)) : P := h
theorem zz142 {P : Prop} (h : P := by repeat (first | (with_reducible first | exact HB.out | apply below_alloc | apply pw_below_drewN | apply below_drew1 | refine below_set ?_ GE915.out | refine below_set ?_ GE916.out | refine below_set ?_ GE925.out) | exact HB.out)) : P := h
theorem zz143 {P : Prop} (h : P := by (with_reducible repeat (first | refine blk_drewN ?_ _ | refine blk_drew ?_ | refine blk_alloc ?_ _)); refine blk_far ?_ (by have h_ := Kd.R_ne h0_.out h1_.out (by decide); intro e_; exact h_ (by rw [e_]; rfl)) _; (with_reducible repeat (first | refine blk_drewN ?_ _ | refine blk_drew ?_ | refine blk_alloc ?_ _)); exact h1_.out) : P := h
theorem zz144 {P : Prop} (h : P := by (with_reducible repeat (first | apply Kd.S_alloc | apply Kd.S_drewN | apply Kd.S_drew)); exact (Kd.S_mono (Kd.S_far (p := ⟨gb948, 0, none⟩) (Kd.S_types h0_.out h1_.out (by decide)) (fun _ hk => hk.2) (.slice Ao19 t944.length co19)) (fun _ h_ => h_.1))) : P := h
theorem zz145 {P : Prop} (h : P := by repeat (first | (with_reducible first | exact HB.out | apply below_alloc | apply pw_below_drewN | apply below_drew1 | refine below_set ?_ GE938.out | refine below_set ?_ GE943.out | refine below_set ?_ GE948.out) | exact HB.out)) : P := h
theorem zz146 {P : Prop} (h : P := by first | (go_simp; done) | (go_simp; rfl)) : P := h
theorem zz147 {P : Prop} (h : P := by repeat (first | exact (Kd.C_below h0_.out HB.out) | (with_reducible refine Kd.C_alloc ?_ _) | (with_reducible refine Kd.C_drewN ?_ _) | (with_reducible refine Kd.C_drew ?_))) : P := h
theorem zz148 {P : Prop} (h : P := by exact (fun _ _ => trivial)) : P := h
theorem zz149 {P : Prop} (h : P := by exact (below_size (zz10))) : P := h
theorem zz150 {P : Prop} (h : P := by repeat (first | exact HR0.out | (with_reducible refine Kd.C_alloc ?_ _) | (with_reducible refine Kd.C_drewN ?_ _) | (with_reducible refine Kd.C_drew ?_))) : P := h
theorem zz151 {P : Prop} (h : P := by repeat (first | exact (Kd.C_below HR0_0.out HB.out) | (with_reducible refine Kd.C_alloc ?_ _) | (with_reducible refine Kd.C_drewN ?_ _) | (with_reducible refine Kd.C_drew ?_))) : P := h
theorem zz152 {P : Prop} (h : P := by exact HC0_0.out) : P := h
theorem zz153 {P : Prop} (h : P := by exact HC0_1.out) : P := h
theorem zz154 {P : Prop} (h : P := by exact Kd.V_mk HC0.out (Kd.F_below (Kd.C_F (Kd.heap_int .u32) HR0.out) (zz10))) : P := h
theorem zz155 {P : Prop} (h : P := by exact Kd.V_mk HC1.out (Kd.F_below (Kd.C_F (Kd.heap_int .u32) HR1.out) (zz10))) : P := h
theorem zz156 {P : Prop} (h : P := by repeat (first | exact (Kd.V_reads' h0_.out).2.2 | (with_reducible refine Kd.C_alloc ?_ _) | (with_reducible refine Kd.C_drewN ?_ _) | (with_reducible refine Kd.C_drew ?_))) : P := h
theorem zz157 {P : Prop} (h : P := by exact (Kd.V_reads' h0_.out).2.1) : P := h
theorem zz158 {P : Prop} (h : P := by exact Kd.V_mk h0_.out (Kd.F_below (Kd.C_F (Kd.heap_int .u32) h1_.out) (zz74))) : P := h
theorem zz159 {P : Prop} (h : P := by exact (Kd.R_reads' h0_.out).2.1) : P := h
theorem zz160 {P : Prop} (h : P := by repeat (first | exact (Kd.R_reads' h0_.out).2.2 | (with_reducible refine Kd.C_alloc ?_ _) | (with_reducible refine Kd.C_drewN ?_ _) | (with_reducible refine Kd.C_drew ?_))) : P := h
theorem zz161 {P : Prop} (h : P := by first | rfl | exact (wanted_on rfl rfl rfl (e101.trans (zz104)))) : P := h
theorem zz162 {P : Prop} (h : P := by repeat (first | exact (Kd.N_reads' h0_.out).2.2 | (with_reducible refine Kd.C_alloc ?_ _) | (with_reducible refine Kd.C_drewN ?_ _) | (with_reducible refine Kd.C_drew ?_))) : P := h
theorem zzi {α : Type} {p : Prop} [d : Decidable p] {a : Option α} {r : α} (h : (if p then a else none) = some r) : p ∧ a = some r := by by_cases c : p; exact ⟨c, (if_pos c).symm.trans h⟩; rw [if_neg c] at h; cases h
theorem zzj {α : Type} {p : Prop} [d : Decidable p] {a b : Option α} {r : α} (h : (if p then a else b) = some r) : (p ∧ a = some r) ∨ (¬p ∧ b = some r) := by by_cases c : p; exact .inl ⟨c, (if_pos c).symm.trans h⟩; exact .inr ⟨c, (if_neg c).symm.trans h⟩
theorem zzb {α β : Type} {a : Option α} {f : α → Option β} {r : β} (h : a.bind f = some r) : ∃ t, Go.Proofs.YtfkmbjkmlfnapaaDoorW.PrintWords.Aside0 (a = some t) ∧ f t = some r := by obtain ⟨t, h1, h2⟩ := Option.bind_eq_some_iff.mp h; exact ⟨t, ⟨h1⟩, h2⟩
theorem zc1 {w : World} {g : Nat} {t : TypeId} {x0 : Value} (h : w.heap[g]? = some (.cells #[x0] t (0, 0))) : w.cell? ⟨g, 0, none⟩ = some x0 ∧ w.frozen? ⟨g, 0, none⟩ = false := ⟨(Go.Proofs.YtfkmbjkmlfnapaaDoorW.PrintWords.blk_cell h 0).trans rfl, Go.Proofs.YtfkmbjkmlfnapaaDoorW.PrintWords.blk_frozen h 0⟩
theorem zc2 {w : World} {g : Nat} {t : TypeId} {x0 x1 : Value} (h : w.heap[g]? = some (.cells #[x0,x1] t (0, 0))) : w.cell? ⟨g, 0, none⟩ = some x0 ∧ w.cell? ⟨g, 1, none⟩ = some x1 ∧ w.frozen? ⟨g, 0, none⟩ = false ∧ w.frozen? ⟨g, 1, none⟩ = false := ⟨(Go.Proofs.YtfkmbjkmlfnapaaDoorW.PrintWords.blk_cell h 0).trans rfl, (Go.Proofs.YtfkmbjkmlfnapaaDoorW.PrintWords.blk_cell h 1).trans rfl, Go.Proofs.YtfkmbjkmlfnapaaDoorW.PrintWords.blk_frozen h 0, Go.Proofs.YtfkmbjkmlfnapaaDoorW.PrintWords.blk_frozen h 1⟩
theorem zc3 {w : World} {g : Nat} {t : TypeId} {x0 x1 x2 : Value} (h : w.heap[g]? = some (.cells #[x0,x1,x2] t (0, 0))) : w.cell? ⟨g, 0, none⟩ = some x0 ∧ w.cell? ⟨g, 1, none⟩ = some x1 ∧ w.cell? ⟨g, 2, none⟩ = some x2 ∧ w.frozen? ⟨g, 0, none⟩ = false ∧ w.frozen? ⟨g, 1, none⟩ = false ∧ w.frozen? ⟨g, 2, none⟩ = false := ⟨(Go.Proofs.YtfkmbjkmlfnapaaDoorW.PrintWords.blk_cell h 0).trans rfl, (Go.Proofs.YtfkmbjkmlfnapaaDoorW.PrintWords.blk_cell h 1).trans rfl, (Go.Proofs.YtfkmbjkmlfnapaaDoorW.PrintWords.blk_cell h 2).trans rfl, Go.Proofs.YtfkmbjkmlfnapaaDoorW.PrintWords.blk_frozen h 0, Go.Proofs.YtfkmbjkmlfnapaaDoorW.PrintWords.blk_frozen h 1, Go.Proofs.YtfkmbjkmlfnapaaDoorW.PrintWords.blk_frozen h 2⟩
open Go.Proofs.YtfkmbjkmlfnapaaDoorW.PrintLast in
theorem zzp {P : Program} {ops : Array Oper} {Q : Exit → Act → World → Prop} {md : Region.Mode} {S : World → Prop} {ds : List Nat} (i : Nat) (N : Tmp) {oi : Oper} (v : Value) {fuel : Nat} {l : Array Bool} {a : Act} {w : World} (l' : Array Bool) (hi : ops[i]? = some oi) (hN : oi.dst = some N) (hc : anyB md ops l l' i = true) (hQ : ∀ c a w, Q (.panic c) (a.put oi.dst v) w → Q (.panic c) a w) (hy : Yields P ops oi v a) (a' : Act) (ha : a.put (some N) v = a') (h : wpAnyLast P md ops Q S ds fuel l' a' w) : wpAnyLast P md ops Q S ds (fuel + 1) l a w := pure_ (N := some N) l' hi hN hc hQ hy ha h
open Go.Proofs.YtfkmbjkmlfnapaaDoorW.PrintLast in
theorem zzs : (∀ (a : Act) (v : Value) (d : Tmp), a.put (some d) v = { tmps := a.tmps.setIfInBounds d v, defers := a.defers }) ∧ (∀ (a : Act) (v : Value), a.put none v = a) ∧ (∀ (l : List Value) (i : Nat) (a : Value), l.toArray.setIfInBounds i a = (l.set i a).toArray) ∧ (∀ (x : Value) (xs : List Value) (a : Value), (x :: xs).set 0 a = a :: xs) ∧ (∀ (x : Value) (xs : List Value) (i : Nat) (a : Value), (x :: xs).set (i + 1) a = x :: xs.set i a) ∧ (∀ n : Int, IntKind.i64.wrap n = Go.RowKit.wrap64 n) ∧ (∀ n : Int, IntKind.i32.wrap n = Go.RowKit.wrap32 n) := ⟨fun _ _ _ => rfl, fun _ _ => rfl, fun _ _ _ => List.setIfInBounds_toArray .., fun _ _ _ => rfl, fun _ _ _ _ => rfl, i64_w, i32_w⟩
theorem zzh {P : Prop} (h : P := by first|(rw [hy_];with_reducible exact H)|(have H2_:=(Option.bind_some _ _).symm.trans H;rw [hy_];with_reducible exact H2_)|(have H2_:=(Option.bind_some _ _).symm.trans H;with_reducible exact H2_)|with_reducible exact H|(rw [hy_];exact H)|exact H) : P := h
end Go.Proofs.YtfkmbjkmlfnapaaDoor
