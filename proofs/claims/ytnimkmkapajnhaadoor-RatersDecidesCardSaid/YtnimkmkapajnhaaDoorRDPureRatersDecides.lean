import Derived.Test.YtnimkmkapajnhaaDoorRDQAx31
import Derived.Test.YtnimkmkapajnhaaDoorRDRtT
import Derived.Test.YtnimkmkapajnhaaDoorRDAw42
import Derived.Test.YtnimkmkapajnhaaDoorRDArgA
set_option linter.unusedVariables false
set_option linter.unusedSimpArgs false
namespace Go.Proofs.YtnimkmkapajnhaaDoor.Pure
open Go.RowKit Go.Proofs.YtnimkmkapajnhaaDoorW.PrintWords Go.Proofs.YtnimkmkapajnhaaDoorW.PrintLast Go.Proofs.YtnimkmkapajnhaaDoorW.PrintMore Go.Proofs.YtnimkmkapajnhaaDoor.QA
theorem third_cases (l:List S26) (a:List S44) (c:Int):(∃ r∈l,vErr l = 0∧elig a c r = true∧thirdN l a c = (r.f0,0))∨((thirdN l a c).2 ≠ 0∧(thirdN l a c).1 = 0):=by
  unfold thirdN
  by_cases g:vErr l = 0
  · rw [if_pos g]
    by_cases t:(two a c).length = 2
    · rw [if_pos t]
      cases e:pk a c l none with
      | none=>right;rw [res];exact ⟨by decide,rfl⟩
      | some r =>
        left
        rcases pk_mem a c l none r e with h | h
        · cases h
        · exact ⟨r,h.1,g,h.2,by rw [res]⟩
    · rw [if_neg t];right;exact ⟨by decide,rfl⟩
  · rw [if_neg g];right;exact ⟨g,rfl⟩
theorem dec_l1 {l:List S26} {a:List S44} (h20:l.length≤20) (hid:idP 0 l = true) (hb:∀r∈l,r.f2.length≤4611686018427387904) (ha:a.length≤8796093022208) {c:Int} {r:S26} (hr:r∈l) (he:elig a c r = true):∀d i:Nat,i+d = l.length→(∀ m:Nat,m < i→(rd_T26 l (m:Int)).f0 ≠ r.f0)→Ev (fun k=>U4.l1 k l a c r.f0 (i:Int)) true:=by
  unfold elig at he
  rw [Bool.and_eq_true,Bool.and_eq_true,decide_eq_true_eq,decide_eq_true_eq] at he
  intro d
  induction d with
  | zero =>
    intro i hi hm
    obtain ⟨n,hn,e⟩:=List.getElem_of_mem hr
    have:=hm n (by omega)
    rw [gR_lt hn,e] at this
    exact absurd rfl this
  | succ d ih =>
    intro i hi hm
    have hlt:i < l.length:=by omega
    have hw:wrap64 ((i:Int)+1) = ((i+1:Nat):Int):=by rw [w64] <;> omega
    have hmem:rd_T26 l (i:Int)∈l:=by rw [gR_lt hlt];exact List.getElem_mem hlt
    have hbi:=hb _ hmem
    refine Ev.succ ?_
    simp only [U4.l1,show (i:Int) < (l.length:Int) by omega,show (0:Int)≤(i:Int) by omega,if_true,hw]
    by_cases e:(rd_T26 l (i:Int)).f0 = r.f0
    · have er:=idP_inj hid _ hmem _ hr e
      simp only [if_pos e]
      refine Ev.bind (may_ev _ _ hbi _) ?_
      rw [er,he.1]
      simp only [if_true]
      refine Ev.bind (load_ev (by omega) _) ?_
      simp only [he.2.2,if_true]
      exact Ev.mapb awake_ev rfl
    · simp only [if_neg e]
      refine ih (i+1) (by omega) (fun m hlm=>?_)
      by_cases q:m = i
      · subst q;exact e
      · exact hm m (by omega)
theorem dec_l0 {l:List S26} {a:List S44} (h20:l.length≤20) (hid:idP 0 l = true) (hb:∀r∈l,r.f2.length≤4611686018427387904) (ha:a.length≤8796093022208) {c:Int} {r:S26} (hr:r∈l) (he:elig a c r = true):∀d i:Nat,i+d = a.length→Ev (fun k=>U4.l0 k l a c r.f0 (i:Int)) true:=by
  have hn2:¬ r.f0∈two a c:=by
    unfold elig at he
    rw [Bool.and_eq_true,Bool.and_eq_true,decide_eq_true_eq,decide_eq_true_eq] at he
    exact he.2.1
  intro d
  induction d with
  | zero =>
    intro i hi
    refine Ev.succ ?_
    simp only [U4.l0,show ¬ ((i:Int) < (a.length:Int)) by omega,if_false]
    exact dec_l1 h20 hid hb ha hr he l.length 0 (by omega) (fun m h=>by omega)
  | succ d ih =>
    intro i hi
    have hlt:i < a.length:=by omega
    have hw:wrap64 ((i:Int)+1) = ((i+1:Nat):Int):=by rw [w64] <;> omega
    have hmem:rd_T44 a (i:Int)∈a:=by rw [gA_lt hlt];exact List.getElem_mem hlt
    have hn:=ih (i+1) (by omega)
    refine Ev.succ ?_
    simp only [U4.l0,show (i:Int) < (a.length:Int) by omega,show (0:Int)≤(i:Int) by omega,if_true,hw]
    by_cases e:(rd_T44 a (i:Int)).f0 = c
    · simp only [if_pos e]
      by_cases e' : (rd_T44 a (i:Int)).f1 = r.f0
      · exact absurd ((two_mem a c r.f0).2 ⟨_,hmem,e,e'⟩) hn2
      · simp only [if_neg e'];exact hn
    · simp only [if_neg e];exact hn
theorem RatersDecides (l0:(List S26)) (l1:(List S44)) (a2:Int) (h0:wf22 l0) (h1:wf24 l1) (h2:(Lit.int .i64 a2).wf = true):∃ k,U4.f k l0 l1 a2 = some true:=by
  have hb:∀r∈l0,r.f2.length≤4611686018427387904:=fun r hr=>by have:=(h0.2 r hr).2.2.1;omega
  have ha:l1.length≤8796093022208:=by have:=h1.1;omega
  refine Ev.rounds ?_
  unfold U4.f
  refine Ev.bind (third_ev hb ha a2) ?_
  rcases third_cases l0 l1 a2 with ⟨r,hr,g,he,e⟩ | ⟨e1,e2⟩
  · obtain ⟨h20,hid,_⟩:=v_ok g
    rw [e]
    simp only [if_true]
    exact dec_l0 h20 hid hb ha hr he l1.length 0 (by omega)
  · simp only [if_neg e1,if_pos e2]
    exact Ev.mapb awake_ev rfl
end Go.Proofs.YtnimkmkapajnhaaDoor.Pure
