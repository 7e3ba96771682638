import Derived.Test.YtmcegphcjphdcaaRows
import Derived.Test.YtmcegphcjphdcaaCBQAx34
import Derived.Test.YtmcegphcjphdcaaCBArgA
import Derived.Test.YtmcegphcjphdcaaCBPureCalibrateBest
import Derived.WalkKit
import Derived.ProofKit
import Derived.OpenShut
import Derived.ShutString
import Derived.ChangeOld
import Derived.Below
import Derived.SizedLaws
set_option linter.unusedVariables false
set_option linter.unusedSimpArgs false
namespace Go.Proofs.Ytmcegphcjphdcaa.calibrateBest
open Go.ChangeShapes Go.WideShapes Go.ChangeAt Go.RowKit
open Go.ChangeMaps (open_string shut_string)
open Go.Proofs.YtmcegphcjphdcaaW.PrintWords Go.Proofs.YtmcegphcjphdcaaW.PrintLast Go.Proofs.YtmcegphcjphdcaaW.PrintMore Go.Proofs.Ytmcegphcjphdcaa.QA
theorem own : ownKnob Try.prog.godebug = none := by kernel_rfl
theorem laidOut : laidOutB Try.prog = true := by kernel_rfl
set_option maxRecDepth 100000 in
theorem lifted (os : Os) (started : os.Started) (H : Type) (enc : TypeId × Value → H) :
    ReturnsInHanded {} Try.checked os 8 .any (Rows.calibrateBestSpec.pre6 enc Try.prog Try.f8 Rows.calibrateBestRow.domain false) (Rows.calibrateBestSpec.post enc Try.prog Try.f8 false true false false) := by
  refine returnsInHanded_of_change_sized (C := Try.checked) own started (by kernel_rfl) Try.func8
    (ChangeSpec.witness6 (enc := enc) (C := Try.checked) false ⟨#[], #[.agg #[.slice none 0 0, .slice none 0 0], .slice none 0 0, .agg #[.slice none 0 0, .slice none 0 0, .slice none 0 0], .int .i64 0, .slice none 0 0], []⟩ 8 (by kernel_rfl) (by kernel_rfl) (by kernel_rfl) (by kernel_rfl)) ?_
  intro W base args ds gs before hval0 hW hcnd hsz0 _
  have hsz : (DataW.weightsEach Try.prog (Try.f8.params.toList ++ Rows.calibrateBestSpec.plain.varTypes Try.prog) (ds ++ gs)).all (· ≤ reachBytes) = true := hsz0
  have hval : ∀ (j : Nat) t v, Try.f8.params[j]? = some t → args[j]? = some v → Value.okWide Try.prog W .any base t v := hval0
  have hW' := hW
  obtain ⟨p, q, hA0, hV, rfl, hfz, hnd⟩ := hW
  have hA : DataW.TrodAll enc Try.prog W 0 (fun _ => true) true Try.f8.params.toList args.toList ds p := hA0
  rw [Try.params8] at hA hval hsz
  obtain ⟨v0, vs0, d0, ds0, p0, q0, hargs, rfl, rfl, h0, r0⟩ := trodAll_cons hA
  obtain ⟨v1, vs1, d1, ds1, p1, q1, rfl, rfl, rfl, h1, r1⟩ := trodAll_cons r0
  obtain ⟨v2, vs2, d2, ds2, p2, q2, rfl, rfl, rfl, h2, r2⟩ := trodAll_cons r1
  obtain ⟨v3, vs3, d3, ds3, p3, q3, rfl, rfl, rfl, h3, r3⟩ := trodAll_cons r2
  obtain ⟨v4, vs4, d4, ds4, p4, q4, rfl, rfl, rfl, h4, r4⟩ := trodAll_cons r3
  obtain ⟨rfl, rfl, rfl⟩ := trodAll_nil r4
  obtain rfl : args = #[v0, v1, v2, v3, v4] := by cases args; simp_all
  obtain ⟨rfl, rfl⟩ := trodVars_none hV
  have k0 := h0
  have lt0 : ∀ x ∈ p0, x.block < W.heap.size := by obtain ⟨m, hm⟩ := k0; exact DataW.trod_lt m _ _ _ hm
  have wt0 := Kd.weights_at hsz (j := 0) (t := 24) (dd := d0) rfl rfl
  obtain ⟨x0, cs0, rfl, hk0, wf0_⟩ := Kd.Opens.arg_struct opens24 Try.underlying24 (hval 0 24 v0 rfl rfl) h0 wt0
  obtain ⟨_, _, rfl, ⟨A0_0, c0_0, rfl, hc0_0, hr0_0⟩, ⟨A0_1, c0_1, rfl, hc0_1, hr0_1⟩⟩ := hk0
  have k1 := h1
  have lt1 : ∀ x ∈ p1, x.block < W.heap.size := by obtain ⟨m, hm⟩ := k1; exact DataW.trod_lt m _ _ _ hm
  have wt1 := Kd.weights_at hsz (j := 1) (t := 25) (dd := d1) rfl rfl
  obtain ⟨l1, A1, c1, rfl, hc1, hr1, wf1_⟩ := Kd.Opens.arg_slice opens25 Try.underlying25 (hval 1 25 v1 rfl rfl) h1 wt1
  have k2 := h2
  have lt2 : ∀ x ∈ p2, x.block < W.heap.size := by obtain ⟨m, hm⟩ := k2; exact DataW.trod_lt m _ _ _ hm
  have wt2 := Kd.weights_at hsz (j := 2) (t := 36) (dd := d2) rfl rfl
  obtain ⟨x2, cs2, rfl, hk2, wf2_⟩ := Kd.Opens.arg_struct opens36 Try.underlying36 (hval 2 36 v2 rfl rfl) h2 wt2
  obtain ⟨_, _, rfl, ⟨A2_0, c2_0, rfl, hc2_0, hr2_0⟩, ⟨_, _, rfl, ⟨A2_1, c2_1, rfl, hc2_1, hr2_1⟩, ⟨A2_2, c2_2, rfl, hc2_2, hr2_2⟩⟩⟩ := hk2
  obtain ⟨a3, rfl, rfl, rfl, w3⟩ := open_int Try.underlying3 (hval 3 3 v3 rfl rfl) h3
  have k4 := h4
  have lt4 : ∀ x ∈ p4, x.block < W.heap.size := by obtain ⟨m, hm⟩ := k4; exact DataW.trod_lt m _ _ _ hm
  have wt4 := Kd.weights_at hsz (j := 4) (t := 25) (dd := d4) rfl rfl
  obtain ⟨l4, A4, c4, rfl, hc4, hr4, wf4_⟩ := Kd.Opens.arg_slice opens25 Try.underlying25 (hval 4 25 v4 rfl rfl) h4 wt4
  clear hA0 hval0 hsz0 hsz
  obtain ⟨k, hp⟩ := Pure.CalibrateBest (x0.1) (x0.2) l1 (x2.1) (x2.2.1) (x2.2.2) a3 l4 wf0_ wf1_ wf2_ w3 wf4_
  refine (U10.calls k _ _ (x0.1) _ _ (x0.2) _ _ l1 _ _ (x2.1) _ _ (x2.2.1) _ _ (x2.2.2) a3 _ _ l4 true W hr0_0 hc0_0 hr0_1 hc0_1 hr1 hc1 hr2_0 hc2_0 hr2_1 hc2_1 hr2_2 hc2_2 hr4 hc4 hp).mono fun e W' ⟨he, bel⟩ => ?_
  subst he
  exact ⟨_, rfl, _, _, _, [], _, [], hW', trodAll_mk1 (shut_bool Try.underlying4 _), (trodAll_cons_mk (Below.trod laidOut (by kernel_rfl) (of_decide_eq_true (by kernel_rfl)) k0 bel lt0) (trodAll_cons_mk (Below.trod laidOut (by kernel_rfl) (of_decide_eq_true (by kernel_rfl)) k1 bel lt1) (trodAll_cons_mk (Below.trod laidOut (by kernel_rfl) (of_decide_eq_true (by kernel_rfl)) k2 bel lt2) (trodAll_cons_mk (shut_int Try.underlying3 w3) (trodAll_cons_mk (Below.trod laidOut (by kernel_rfl) (of_decide_eq_true (by kernel_rfl)) k4 bel lt4) trodAll_mk0))))), rfl, bel.frame _, fun h => by cases h⟩
theorem over : Rows.calibrateBestRow.holds Try.pinned (OpenSpec.ofChange Rows.calibrateBestSpec) :=
  OpenClaim.holds_of_wide 8 Try.f8 rfl rfl rfl rfl rfl rfl rfl ⟨rfl, rfl, rfl, rfl, rfl⟩ rfl rfl rfl rfl rfl (by kernel_rfl) Try.func8 (by kernel_rfl)
    (of_decide_eq_true (by kernel_rfl)) (by unfold Func.isWrapper; first | (rw [if_pos (by decide +kernel)]; kernel_rfl) | (rw [if_neg (by decide +kernel)]; exact ⟨rfl, rfl⟩))
    (fun os started H enc _ => lifted os started H enc)
theorem proved : Rows.CalibrateBestSaid := over
end Go.Proofs.Ytmcegphcjphdcaa.calibrateBest
namespace Go.Proofs.Ytmcegphcjphdcaa
theorem calibrateBest_holds : Rows.CalibrateBestSaid := calibrateBest.proved
#print axioms calibrateBest_holds
end Go.Proofs.Ytmcegphcjphdcaa
