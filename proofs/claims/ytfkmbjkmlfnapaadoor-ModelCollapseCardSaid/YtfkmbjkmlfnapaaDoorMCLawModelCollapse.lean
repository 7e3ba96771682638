import Derived.Test.YtfkmbjkmlfnapaaDoorRows
import Derived.Test.YtfkmbjkmlfnapaaDoorMCQAx26
import Derived.Test.YtfkmbjkmlfnapaaDoorMCArgA
import Derived.Test.YtfkmbjkmlfnapaaDoorMCPureModelCollapse
import Derived.Test.YtfkmbjkmlfnapaaDoorCards
import Derived.Test.YtfkmbjkmlfnapaaDoorTie
import Derived.LaidMore
import Derived.Lay
import Derived.SevenTiedAt
import Derived.Stop.Joined
import Derived.Handed
import Derived.WalkKit
import Derived.ProofKit
import Derived.OpenShut
import Derived.ShutString
import Derived.ChangeOld
import Derived.Below
import Derived.SizedLaws
set_option linter.unusedVariables false
set_option linter.unusedSimpArgs false
namespace Go.Proofs.YtfkmbjkmlfnapaaDoor.modelCollapse
open Go.ChangeShapes Go.WideShapes Go.ChangeAt Go.RowKit
open Go.ChangeMaps (open_string shut_string)
open Go.Proofs.YtfkmbjkmlfnapaaDoorW.PrintWords Go.Proofs.YtfkmbjkmlfnapaaDoorW.PrintLast Go.Proofs.YtfkmbjkmlfnapaaDoorW.PrintMore Go.Proofs.YtfkmbjkmlfnapaaDoor.QA
theorem own:ownKnob Tryd.prog.godebug = none:=by kernel_rfl
theorem laidOut:laidOutB Tryd.prog = true:=by kernel_rfl
set_option maxRecDepth 100000 in
theorem lifted (os:Os) (started:os.Started) (H:Type) (enc:TypeId × Value→H) :
    ReturnsInHanded {} Tryd.checked os 11 .any (fun w args=>(Rows.modelCollapseSpec.pre enc Tryd.prog Tryd.f11 Rows.modelCollapseRow.domain false w args∧laidMetH Tryd.prog Rows.modelCollapseRow.laid w)∧sizedMet enc Tryd.prog Tryd.f11 (OpenSpec.ofChange Rows.modelCollapseSpec) false w args) (Rows.modelCollapseSpec.post enc Tryd.prog Tryd.f11 false true false false):=by
  refine returnsInHanded_of_change_and (C:=Tryd.checked) (X:=fun w _=>laidMetH Tryd.prog Rows.modelCollapseRow.laid w) (fun _ _ _ hh h=>h.of_heap hh) own started (by kernel_rfl) Tryd.func11
    (ChangeSpec.witness_shaped (enc:=enc) (C:=Tryd.checked) (os:=os) (X:=fun w _=>laidMetH Tryd.prog Rows.modelCollapseRow.laid w) false (World.laidAll Tryd.prog os Rows.modelCollapseRow.laid) #[.agg #[.slice none 0 0],.slice none 0 0,.int .u8 0,.int .u8 0,.slice none 0 0] 8 (World.laidAll_os _ _ _)
      (World.shaped_of_ZipB (by kernel_rfl) (by kernel_rfl)) (by kernel_rfl) (by kernel_rfl) (by kernel_rfl)
      (by rw [MakeChecks.laidMetH_plain _ _ _ (by kernel_rfl)];exact laidMet_laidAll _ (by kernel_rfl) (by kernel_rfl))) ?_
  intro W base args ds gs before hval0 hW hcnd hsz0 _ _
  have hsz:(DataW.weightsEach Tryd.prog (Tryd.f11.params.toList ++ Rows.modelCollapseSpec.plain.varTypes Tryd.prog) (ds ++ gs)).all (·≤reachBytes) = true:=hsz0
  have hval:∀(j:Nat) t v,Tryd.f11.params[j]? = some t→args[j]? = some v→Value.okWide Tryd.prog W .any base t v:=hval0
  have hW':=hW
  obtain ⟨p,q,hA0,hV,rfl,hfz,hnd⟩:=hW
  have hA:DataW.TrodAll enc Tryd.prog W 0 (fun _=>true) true Tryd.f11.params.toList args.toList ds p:=hA0
  rw [Tryd.params11] at hA hval hsz
  obtain ⟨v0,vs0,d0,ds0,p0,q0,hargs,rfl,rfl,h0,r0⟩:=trodAll_cons hA
  obtain ⟨v1,vs1,d1,ds1,p1,q1,rfl,rfl,rfl,h1,r1⟩:=trodAll_cons r0
  obtain ⟨v2,vs2,d2,ds2,p2,q2,rfl,rfl,rfl,h2,r2⟩:=trodAll_cons r1
  obtain ⟨v3,vs3,d3,ds3,p3,q3,rfl,rfl,rfl,h3,r3⟩:=trodAll_cons r2
  obtain ⟨v4,vs4,d4,ds4,p4,q4,rfl,rfl,rfl,h4,r4⟩:=trodAll_cons r3
  obtain ⟨rfl,rfl,rfl⟩:=trodAll_nil r4
  obtain rfl:args = #[v0,v1,v2,v3,v4]:=by cases args;simp_all
  obtain ⟨rfl,rfl⟩:=trodVars_none hV
  have k0:=h0
  have lt0:∀x∈p0,x.block < W.heap.size:=by obtain ⟨m,hm⟩:=k0;exact DataW.trod_lt m _ _ _ hm
  have wt0:=Kd.weights_at hsz (j:=0) (t:=24) (dd:=d0) rfl rfl
  obtain ⟨x0,cs0,rfl,hk0,wf0_⟩:=Kd.Opens.arg_struct opens24 Tryd.underlying24 (hval 0 24 v0 rfl rfl) h0 wt0
  obtain ⟨A0_0,c0_0,rfl,hc0_0,hr0_0⟩:=hk0
  have k1:=h1
  have lt1:∀x∈p1,x.block < W.heap.size:=by obtain ⟨m,hm⟩:=k1;exact DataW.trod_lt m _ _ _ hm
  have wt1:=Kd.weights_at hsz (j:=1) (t:=31) (dd:=d1) rfl rfl
  obtain ⟨l1,A1,c1,rfl,hc1,hr1,wf1_⟩:=Kd.Opens.arg_slice opens31 Tryd.underlying31 (hval 1 31 v1 rfl rfl) h1 wt1
  obtain ⟨a2,rfl,rfl,rfl,w2⟩:=open_int Tryd.underlying5 (hval 2 5 v2 rfl rfl) h2
  obtain ⟨a3,rfl,rfl,rfl,w3⟩:=open_int Tryd.underlying5 (hval 3 5 v3 rfl rfl) h3
  have k4:=h4
  have lt4:∀x∈p4,x.block < W.heap.size:=by obtain ⟨m,hm⟩:=k4;exact DataW.trod_lt m _ _ _ hm
  have wt4:=Kd.weights_at hsz (j:=4) (t:=31) (dd:=d4) rfl rfl
  obtain ⟨l4,A4,c4,rfl,hc4,hr4,wf4_⟩:=Kd.Opens.arg_slice opens31 Tryd.underlying31 (hval 4 31 v4 rfl rfl) h4 wt4
  clear hA0 hval0 hsz0 hsz
  obtain ⟨k,hp⟩:=Pure.ModelCollapse x0 l1 a2 a3 l4 wf0_ wf1_ w2 w3 wf4_
  refine (U0.calls k _ _ x0 _ _ l1 a2 a3 _ _ l4 true W hr0_0 hc0_0 hr1 hc1 hr4 hc4 hp).mono fun e W' ⟨he,bel⟩=>?_
  subst he
  exact ⟨_,rfl,_,_,_,[],_,[],hW',trodAll_mk1 (shut_bool Tryd.underlying4 _),(trodAll_cons_mk (Below.trod laidOut (by kernel_rfl) (of_decide_eq_true (by kernel_rfl)) k0 bel lt0) (trodAll_cons_mk (Below.trod laidOut (by kernel_rfl) (of_decide_eq_true (by kernel_rfl)) k1 bel lt1) (trodAll_cons_mk (shut_int Tryd.underlying5 w2) (trodAll_cons_mk (shut_int Tryd.underlying5 w3) (trodAll_cons_mk (Below.trod laidOut (by kernel_rfl) (of_decide_eq_true (by kernel_rfl)) k4 bel lt4) trodAll_mk0))))),rfl,bel.frame _,fun h=>by cases h⟩
theorem over:Rows.modelCollapseRow.holds Tryd.pinned (OpenSpec.ofChange Rows.modelCollapseSpec) :=
  OpenClaim.holds_of_wide 11 Tryd.f11 rfl rfl rfl rfl rfl rfl rfl ⟨rfl,rfl,rfl,rfl,rfl⟩ rfl rfl rfl rfl rfl (by kernel_rfl) Tryd.func11 (by kernel_rfl)
    (of_decide_eq_true (by kernel_rfl)) (by unfold Func.isWrapper;first | (rw [if_pos (by decide +kernel)];kernel_rfl) | (rw [if_neg (by decide +kernel)];exact ⟨rfl,rfl⟩))
    (fun os started H enc _=>lifted os started H enc)
theorem proved:Rows.ModelCollapseSaid:=over
theorem card:Rows.ModelCollapseCardSaid :=
  Claim7.holds_tied_plain_at .later [] [.data, .data, .data] true (true, "e3af5011e2be5e02502cf0ad410b6e145c61b6bd4304b99e2ef83da23b33b7ad") false proved (fun _ h => by cases h) (by kernel_rfl) (fun _ h => by cases h) modelCollapse_row_tie rfl ⟨rfl, rfl⟩ (by kernel_rfl) rfl
    (fun f fn hf hfn=>by
      obtain rfl : f = 11 := Option.some.inj ((show Tryd.prog.funcNamed "examboard/examboardlaw19.ModelCollapse" = some 11 by kernel_rfl).symm.trans hf) |>.symm
      obtain rfl:fn = Tryd.f11:=(Option.some.inj (Tryd.func11.symm.trans hfn)).symm
      exact ⟨by kernel_rfl,fun j t ht=>by
        rw [Tryd.params11] at ht
        have hm:t∈[24,31,5,5,31]:=by simpa using Array.mem_of_getElem? ht
        have hall:([24,31,5,5,31].all fun u=>!Tryd.prog.wantsStandIn u) = true:=by kernel_rfl
        exact (show Tryd.prog.wantsStandIn t = false by simpa using List.all_eq_true.1 hall t hm)⟩)
    (by kernel_rfl)
end Go.Proofs.YtfkmbjkmlfnapaaDoor.modelCollapse
namespace Go.Proofs.YtfkmbjkmlfnapaaDoor
theorem modelCollapse_holds:Rows.ModelCollapseCardSaid:=modelCollapse.card
#print axioms modelCollapse_holds
end Go.Proofs.YtfkmbjkmlfnapaaDoor
