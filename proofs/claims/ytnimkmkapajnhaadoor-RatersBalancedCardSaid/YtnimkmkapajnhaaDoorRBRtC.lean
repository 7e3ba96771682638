import Derived.Test.YtnimkmkapajnhaaDoorRBQAx6
import Derived.Test.YtnimkmkapajnhaaDoorRBQAx7
import Derived.Test.YtnimkmkapajnhaaDoorRBQAx8
import Derived.Test.YtnimkmkapajnhaaDoorRBQAx9
import Derived.Test.YtnimkmkapajnhaaDoorRBRt
set_option linter.unusedVariables false
set_option linter.unusedSimpArgs false
namespace Go.Proofs.YtnimkmkapajnhaaDoor.Pure
open Go.RowKit Go.Proofs.YtnimkmkapajnhaaDoorW.PrintWords Go.Proofs.YtnimkmkapajnhaaDoorW.PrintLast Go.Proofs.YtnimkmkapajnhaaDoorW.PrintMore Go.Proofs.YtnimkmkapajnhaaDoor.QA
def asgN (l:List S26) (a:List S44) (i:Nat):Int :=
  if fidx (rd_T44 a (i:Int)).f1 l 0 < 0 then 6 else if mayB (rd_T26 l (fidx (rd_T44 a (i:Int)).f1 l 0)).f2 (rd_T44 a (i:Int)).f0 = true then (if i % 2 = 1 then (if (rd_T44 a ((i - 1:Nat):Int)).f1 = (rd_T44 a (i:Int)).f1 then 7 else 0) else 0) else 10
def candOk (c:List Int) (a:List S44):Nat→Nat→Bool
  | 0,_=>true
  | d+1,i=>decide ((rd_T44 a (i:Int)).f0 = rd c ((i / 2:Nat):Int)) && candOk c a d (i+1)
def asgs (l:List S26) (a:List S44):Nat→Nat→Int
  | 0,_=>0
  | d+1,i=>if asgN l a i = 0 then asgs l a d (i+1) else asgN l a i
def over (a:List S44):List S26→Bool
  | []=>false
  | r :: l=>decide (r.f1 < ld a r.f0) || over a l
def chkN (l:List S26) (c:List Int) (a:List S44):Int :=
  if gvErr l c = 0 then (if a.length = 2 * c.length then (if candOk c a a.length 0 = true then (if asgs l a a.length 0 = 0 then (if over a l = true then 3 else 0) else asgs l a a.length 0) else 1) else 1) else gvErr l c
theorem fidx_cases (id:Int):∀(l:List S26) (i:Int),fidx id l i = -1∨(i≤fidx id l i∧fidx id l i < i+l.length)
  | [],i=>by rw [fidx];exact .inl rfl
  | x :: l,i=>by
    rw [fidx,List.length_cons]
    by_cases e:x.f0 = id
    · rw [if_pos e];right;omega
    · rw [if_neg e]
      rcases fidx_cases id l (i+1) with h | h
      · exact .inl h
      · right;omega
theorem tdiv2 (i:Nat):Int.tdiv (i:Int) 2 = ((i / 2:Nat):Int):=by rw [Int.tdiv_eq_ediv_of_nonneg (by omega)];omega
theorem tmod2 (i:Nat):Int.tmod (i:Int) 2 = ((i % 2:Nat):Int):=by rw [Int.tmod_eq_emod_of_nonneg (by omega)];omega
theorem asg_ev {l:List S26} {a:List S44} (h20:l.length≤20) (hb:∀r∈l,r.f2.length≤4611686018427387904) (ha:a.length≤4611686018427387904) {i:Nat} (hi:i < a.length):Ev (fun k=>U39.f k l a (i:Int)) (asgN l a i):=by
  unfold U39.f U39.g asgN
  simp only [show (0:Int)≤(i:Int) by omega,show (i:Int) < (a.length:Int) by omega,if_true,show l.length≤9223372036854775807 by omega,Option.bind_some]
  rcases fidx_cases (rd_T44 a (i:Int)).f1 l 0 with h | h
  · rw [h];simp only [show (-1:Int) < 0 by omega,if_true];exact Ev.now _
  · generalize fidx (rd_T44 a (i:Int)).f1 l 0 = t at *
    have hlen:(rd_T26 l t).f2.length≤4611686018427387904:=by
      obtain ⟨n,rfl⟩: ∃ n:Nat,t = (n:Int):=⟨t.toNat,by omega⟩
      rw [gR_lt (show n < l.length by omega)];exact hb _ (List.getElem_mem _)
    simp only [show ¬ (t < 0) by omega,if_false,show (0:Int)≤t by omega,show t < (l.length:Int) by omega,if_true]
    refine Ev.bind (may_ev _ _ hlen _) ?_
    by_cases m:mayB (rd_T26 l t).f2 (rd_T44 a (i:Int)).f0 = true
    · simp only [if_pos m,tmod2]
      by_cases o:i % 2 = 1
      · have hw1:wrap64 ((i:Int) - 1) = ((i - 1:Nat):Int):=by rw [w64] <;> omega
        simp only [show ((i % 2:Nat):Int) = 1 by omega,if_true,if_pos o,hw1,show (0:Int)≤((i - 1:Nat):Int) by omega,show ((i - 1:Nat):Int) < (a.length:Int) by omega]
        by_cases s:(rd_T44 a ((i - 1:Nat):Int)).f1 = (rd_T44 a (i:Int)).f1
        · simp only [if_pos s];exact Ev.now _
        · simp only [if_neg s];exact Ev.now _
      · simp only [show ¬ (((i % 2:Nat):Int) = 1) by omega,if_false,if_neg o];exact Ev.now _
    · simp only [if_neg m];exact Ev.now _
theorem chk_l2 {l:List S26} {a:List S44} (h20:l.length≤20) (ha:a.length≤4611686018427387904):∀d i:Nat,i+d = l.length→Ev (fun k=>U31.l2 k a l (l.length:Int) (i:Int)) (if over a (l.drop i) = true then 3 else 0):=by
  intro d
  induction d with
  | zero =>
    intro i hi
    rw [List.drop_eq_nil_of_le (by omega),over,if_neg (by simp)]
    refine Ev.succ ?_
    simp only [U31.l2,show ¬ ((i:Int) < (l.length:Int)) by omega,if_false]
    exact Ev.now _
  | succ d ih =>
    intro i hi
    have hlt:i < l.length:=by omega
    have hw:wrap64 ((i:Int)+1) = ((i+1:Nat):Int):=by rw [w64] <;> omega
    rw [drop_R hlt,over]
    refine Ev.succ ?_
    simp only [U31.l2,show (i:Int) < (l.length:Int) by omega,show (0:Int)≤(i:Int) by omega,if_true,hw]
    refine Ev.bind (load_ev ha _) ?_
    by_cases c:(rd_T26 l (i:Int)).f1 < ld a (rd_T26 l (i:Int)).f0
    · simp only [show ld a (rd_T26 l (i:Int)).f0 > (rd_T26 l (i:Int)).f1 from c,if_true]
      rw [decide_true,Bool.true_or,if_pos rfl];exact Ev.now _
    · simp only [show ¬ (ld a (rd_T26 l (i:Int)).f0 > (rd_T26 l (i:Int)).f1) from c,if_false]
      rw [decide_false,Bool.false_or];exact ih (i+1) (by omega)
theorem chk_l1 {l:List S26} {a:List S44} (h20:l.length≤20) (hb:∀r∈l,r.f2.length≤4611686018427387904) (ha:a.length≤4611686018427387904):∀d i:Nat,i+d = a.length→Ev (fun k=>U31.l1 k l a (a.length:Int) (i:Int)) (if asgs l a d i = 0 then (if over a l = true then 3 else 0) else asgs l a d i):=by
  intro d
  induction d with
  | zero =>
    intro i hi
    rw [asgs,if_pos rfl]
    refine Ev.succ ?_
    simp only [U31.l1,show ¬ ((i:Int) < (a.length:Int)) by omega,if_false]
    have:=chk_l2 h20 ha l.length 0 (by omega)
    rw [List.drop_zero] at this
    exact this
  | succ d ih =>
    intro i hi
    have hlt:i < a.length:=by omega
    have hw:wrap64 ((i:Int)+1) = ((i+1:Nat):Int):=by rw [w64] <;> omega
    have hn:=ih (i+1) (by omega)
    rw [asgs]
    refine Ev.succ ?_
    simp only [U31.l1,show (i:Int) < (a.length:Int) by omega,if_true,hw]
    refine Ev.bind (asg_ev h20 hb ha hlt) ?_
    by_cases z:asgN l a i = 0
    · simp only [if_pos z];exact hn
    · simp only [if_neg z];exact Ev.now _
theorem chk_l0 {l:List S26} {c:List Int} {a:List S44} (h20:l.length≤20) (hb:∀r∈l,r.f2.length≤4611686018427387904) (hc:c.length≤200) (ha:a.length = 2 * c.length):∀d i:Nat,i+d = a.length→Ev (fun k=>U31.l0 k l c a a (a.length:Int) (i:Int)) (if candOk c a d i = true then (if asgs l a a.length 0 = 0 then (if over a l = true then 3 else 0) else asgs l a a.length 0) else 1):=by
  intro d
  induction d with
  | zero =>
    intro i hi
    rw [candOk,if_pos rfl]
    refine Ev.succ ?_
    simp only [U31.l0,show ¬ ((i:Int) < (a.length:Int)) by omega,if_false]
    exact chk_l1 h20 hb (by omega) a.length 0 (by omega)
  | succ d ih =>
    intro i hi
    have hlt:i < a.length:=by omega
    have hw:wrap64 ((i:Int)+1) = ((i+1:Nat):Int):=by rw [w64] <;> omega
    have hw2:wrap64 ((i / 2:Nat):Int) = ((i / 2:Nat):Int):=by rw [w64] <;> omega
    have hn:=ih (i+1) (by omega)
    rw [candOk]
    refine Ev.succ ?_
    simp only [U31.l0,show (i:Int) < (a.length:Int) by omega,show (0:Int)≤(i:Int) by omega,if_true,hw,tdiv2,hw2,show (0:Int)≤((i / 2:Nat):Int) by omega,show ((i / 2:Nat):Int) < (c.length:Int) by omega]
    by_cases e:(rd_T44 a (i:Int)).f0 = rd c ((i / 2:Nat):Int)
    · simp only [if_pos e];rw [decide_eq_true e,Bool.true_and];exact hn
    · simp only [if_neg e];rw [decide_eq_false e,Bool.false_and,if_neg (by simp)];exact Ev.now _
theorem gv_ok {l:List S26} {c:List Int} (h:gvErr l c = 0):l.length≤20∧c.length≤200∧idP 0 l = true∧rErr l = 0∧risP 0 c = true:=by
  unfold gvErr at h
  by_cases g:vErr l = 0
  · rw [if_pos g] at h
    unfold vErr at g
    by_cases h1:20 < l.length
    · rw [if_pos h1] at g;omega
    · rw [if_neg h1] at g
      by_cases h2:idP 0 l = true
      · rw [if_pos h2] at g
        by_cases h3:200 < c.length
        · rw [if_pos h3] at h;omega
        · rw [if_neg h3] at h
          by_cases h4:risP 0 c = true
          · exact ⟨by omega,by omega,h2,g,h4⟩
          · rw [if_neg h4] at h;omega
      · rw [if_neg h2] at g;omega
  · rw [if_neg g] at h;exact absurd h g
theorem chk_ev {l:List S26} (hb:∀r∈l,r.f2.length≤4611686018427387904) {c:List Int} (hc:c.length≤4611686018427387904) {a:List S44} (ha:a.length≤4611686018427387904):Ev (fun k=>U31.f k l c a) (chkN l c a):=by
  unfold U31.f chkN
  refine Ev.bind (giv_ev hb hc) ?_
  by_cases g:gvErr l c = 0
  · simp only [if_pos g]
    obtain ⟨h1,h2,_⟩:=gv_ok g
    have hw:wrap64 (2 * (c.length:Int)) = 2 * (c.length:Int):=by rw [w64] <;> omega
    simp only [hw]
    by_cases e:a.length = 2 * c.length
    · simp only [show (a.length:Int) = 2 * (c.length:Int) by omega,if_true,if_pos e]
      have:=chk_l0 h1 hb h2 e a.length 0 (by omega)
      try rw [show (a.length:Int) = 2 * (c.length:Int) by omega] at this
      exact this
    · simp only [show ¬ ((a.length:Int) = 2 * (c.length:Int)) by omega,if_false,if_neg e];exact Ev.now _
  · simp only [if_neg g];exact Ev.now _
end Go.Proofs.YtnimkmkapajnhaaDoor.Pure
