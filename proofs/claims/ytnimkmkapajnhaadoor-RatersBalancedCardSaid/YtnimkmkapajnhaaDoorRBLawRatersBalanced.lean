import Derived.Test.YtnimkmkapajnhaaDoorRows
import Derived.Test.YtnimkmkapajnhaaDoorRBQAx30
import Derived.Test.YtnimkmkapajnhaaDoorRBArgA
import Derived.Test.YtnimkmkapajnhaaDoorRBPureRatersBalanced
import Derived.Test.YtnimkmkapajnhaaDoorCards
import Derived.Test.YtnimkmkapajnhaaDoorTie
import Derived.LaidMore
import Derived.Lay
import Derived.SevenTiedAt
import Derived.Stop.Joined
import Derived.Handed
import Derived.WalkKit
import Derived.ProofKit
import Derived.OpenShut
import Derived.ShutString
import Derived.ChangeOld
import Derived.Below
import Derived.SizedLaws
set_option linter.unusedVariables false
set_option linter.unusedSimpArgs false
namespace Go.Proofs.YtnimkmkapajnhaaDoor.ratersBalanced
open Go.ChangeShapes Go.WideShapes Go.ChangeAt Go.RowKit
open Go.ChangeMaps (open_string shut_string)
open Go.Proofs.YtnimkmkapajnhaaDoorW.PrintWords Go.Proofs.YtnimkmkapajnhaaDoorW.PrintLast Go.Proofs.YtnimkmkapajnhaaDoorW.PrintMore Go.Proofs.YtnimkmkapajnhaaDoor.QA
theorem own:ownKnob Tryd.prog.godebug = none:=by kernel_rfl
theorem laidOut:laidOutB Tryd.prog = true:=by kernel_rfl
set_option maxRecDepth 100000 in
theorem lifted (os:Os) (started:os.Started) (H:Type) (enc:TypeId × Value→H) :
    ReturnsInHanded {} Tryd.checked os 6 .any (fun w args=>(Rows.ratersBalancedSpec.pre enc Tryd.prog Tryd.f6 Rows.ratersBalancedRow.domain false w args∧laidMetH Tryd.prog Rows.ratersBalancedRow.laid w)∧sizedMet enc Tryd.prog Tryd.f6 (OpenSpec.ofChange Rows.ratersBalancedSpec) false w args) (Rows.ratersBalancedSpec.post enc Tryd.prog Tryd.f6 false true false false):=by
  refine returnsInHanded_of_change_and (C:=Tryd.checked) (X:=fun w _=>laidMetH Tryd.prog Rows.ratersBalancedRow.laid w) (fun _ _ _ hh h=>h.of_heap hh) own started (by kernel_rfl) Tryd.func6
    (ChangeSpec.witness_shaped (enc:=enc) (C:=Tryd.checked) (os:=os) (X:=fun w _=>laidMetH Tryd.prog Rows.ratersBalancedRow.laid w) false (World.laidAll Tryd.prog os Rows.ratersBalancedRow.laid) #[.slice none 0 0,.slice none 0 0,.int .u64 0] 8 (World.laidAll_os _ _ _)
      (World.shaped_of_ZipB (by kernel_rfl) (by kernel_rfl)) (by kernel_rfl) (by kernel_rfl) (by kernel_rfl)
      (by rw [MakeChecks.laidMetH_plain _ _ _ (by kernel_rfl)];exact laidMet_laidAll _ (by kernel_rfl) (by kernel_rfl))) ?_
  intro W base args ds gs before hval0 hW hcnd hsz0 _ _
  have hsz:(DataW.weightsEach Tryd.prog (Tryd.f6.params.toList ++ Rows.ratersBalancedSpec.plain.varTypes Tryd.prog) (ds ++ gs)).all (·≤reachBytes) = true:=hsz0
  have hval:∀(j:Nat) t v,Tryd.f6.params[j]? = some t→args[j]? = some v→Value.okWide Tryd.prog W .any base t v:=hval0
  have hW':=hW
  obtain ⟨p,q,hA0,hV,rfl,hfz,hnd⟩:=hW
  have hA:DataW.TrodAll enc Tryd.prog W 0 (fun _=>true) true Tryd.f6.params.toList args.toList ds p:=hA0
  rw [Tryd.params6] at hA hval hsz
  obtain ⟨v0,vs0,d0,ds0,p0,q0,hargs,rfl,rfl,h0,r0⟩:=trodAll_cons hA
  obtain ⟨v1,vs1,d1,ds1,p1,q1,rfl,rfl,rfl,h1,r1⟩:=trodAll_cons r0
  obtain ⟨v2,vs2,d2,ds2,p2,q2,rfl,rfl,rfl,h2,r2⟩:=trodAll_cons r1
  obtain ⟨rfl,rfl,rfl⟩:=trodAll_nil r2
  obtain rfl:args = #[v0,v1,v2]:=by cases args;simp_all
  obtain ⟨rfl,rfl⟩:=trodVars_none hV
  have k0:=h0
  have lt0:∀x∈p0,x.block < W.heap.size:=by obtain ⟨m,hm⟩:=k0;exact DataW.trod_lt m _ _ _ hm
  have wt0:=Kd.weights_at hsz (j:=0) (t:=22) (dd:=d0) rfl rfl
  obtain ⟨l0,A0,c0,rfl,hc0,hr0,wf0_⟩:=Kd.Opens.arg_slice opens22 Tryd.underlying22 (hval 0 22 v0 rfl rfl) h0 wt0
  have k1:=h1
  have lt1:∀x∈p1,x.block < W.heap.size:=by obtain ⟨m,hm⟩:=k1;exact DataW.trod_lt m _ _ _ hm
  have wt1:=Kd.weights_at hsz (j:=1) (t:=23) (dd:=d1) rfl rfl
  obtain ⟨l1,A1,c1,rfl,hc1,hr1,wf1_⟩:=Kd.Opens.arg_slice opens23 Tryd.underlying23 (hval 1 23 v1 rfl rfl) h1 wt1
  obtain ⟨a2,rfl,rfl,rfl,w2⟩:=open_int Tryd.underlying35 (hval 2 35 v2 rfl rfl) h2
  clear hA0 hval0 hsz0 hsz
  obtain ⟨k,hp⟩:=Pure.RatersBalanced l0 l1 a2 wf0_ wf1_ w2
  refine (U4.calls k _ _ l0 _ _ l1 a2 true W hr0 hc0 hr1 hc1 hp).mono fun e W' ⟨he,bel⟩=>?_
  subst he
  exact ⟨_,rfl,_,_,_,[],_,[],hW',trodAll_mk1 (shut_bool Tryd.underlying4 _),(trodAll_cons_mk (Below.trod laidOut (by kernel_rfl) (of_decide_eq_true (by kernel_rfl)) k0 bel lt0) (trodAll_cons_mk (Below.trod laidOut (by kernel_rfl) (of_decide_eq_true (by kernel_rfl)) k1 bel lt1) (trodAll_cons_mk (shut_int Tryd.underlying35 w2) trodAll_mk0))),rfl,bel.frame _,fun h=>by cases h⟩
theorem over:Rows.ratersBalancedRow.holds Tryd.pinned (OpenSpec.ofChange Rows.ratersBalancedSpec) :=
  OpenClaim.holds_of_wide 6 Tryd.f6 rfl rfl rfl rfl rfl rfl rfl ⟨rfl,rfl,rfl,rfl,rfl⟩ rfl rfl rfl rfl rfl (by kernel_rfl) Tryd.func6 (by kernel_rfl)
    (of_decide_eq_true (by kernel_rfl)) (by unfold Func.isWrapper;first | (rw [if_pos (by decide +kernel)];kernel_rfl) | (rw [if_neg (by decide +kernel)];exact ⟨rfl,rfl⟩))
    (fun os started H enc _=>lifted os started H enc)
theorem proved:Rows.RatersBalancedSaid:=over
theorem card:Rows.RatersBalancedCardSaid :=
  Claim7.holds_tied_plain_at .later [] [.data, .data, .data] true (true, "01d8f2dee1e8676e64ed1b7e96c0be4ff585d555e2bcee1390eabfb63896cb89") false proved (fun _ h => by cases h) (by kernel_rfl) (fun _ h => by cases h) ratersBalanced_row_tie rfl ⟨rfl, rfl⟩ (by kernel_rfl) rfl
    (fun f fn hf hfn=>by
      obtain rfl : f = 6 := Option.some.inj ((show Tryd.prog.funcNamed "examboard/examboardlaw42.RatersBalanced" = some 6 by kernel_rfl).symm.trans hf) |>.symm
      obtain rfl:fn = Tryd.f6:=(Option.some.inj (Tryd.func6.symm.trans hfn)).symm
      exact ⟨by kernel_rfl,fun j t ht=>by
        rw [Tryd.params6] at ht
        have hm:t∈[22,23,35]:=by simpa using Array.mem_of_getElem? ht
        have hall:([22,23,35].all fun u=>!Tryd.prog.wantsStandIn u) = true:=by kernel_rfl
        exact (show Tryd.prog.wantsStandIn t = false by simpa using List.all_eq_true.1 hall t hm)⟩)
    (by kernel_rfl)
end Go.Proofs.YtnimkmkapajnhaaDoor.ratersBalanced
namespace Go.Proofs.YtnimkmkapajnhaaDoor
theorem ratersBalanced_holds:Rows.RatersBalancedCardSaid:=ratersBalanced.card
#print axioms ratersBalanced_holds
end Go.Proofs.YtnimkmkapajnhaaDoor
