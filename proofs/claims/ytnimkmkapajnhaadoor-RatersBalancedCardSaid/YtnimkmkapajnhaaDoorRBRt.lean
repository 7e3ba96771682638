import Derived.Test.YtnimkmkapajnhaaDoorRBQAx2
import Derived.Test.YtnimkmkapajnhaaDoorRBQAx3
import Derived.Test.YtnimkmkapajnhaaDoorRBQAx4
import Derived.Test.YtnimkmkapajnhaaDoorRBQAx5
import Derived.Test.YtnimkmkapajnhaaDoorRBQAx6
import Derived.Test.YtnimkmkapajnhaaDoorRBQAx7
import Derived.Test.YtnimkmkapajnhaaDoorRBQAx8
import Derived.Test.YtnimkmkapajnhaaDoorRBQAx9
import Derived.Test.YtnimkmkapajnhaaDoorRBNum
set_option linter.unusedVariables false
set_option linter.unusedSimpArgs false
namespace Go.Proofs.YtnimkmkapajnhaaDoor.Pure
open Go.RowKit Go.Proofs.YtnimkmkapajnhaaDoorW.PrintWords Go.Proofs.YtnimkmkapajnhaaDoorW.PrintLast Go.Proofs.YtnimkmkapajnhaaDoorW.PrintMore Go.Proofs.YtnimkmkapajnhaaDoor.QA
theorem drop_rd {xs:List Int} {i:Nat} (h:i < xs.length):xs.drop i = rd xs (i:Int) :: xs.drop (i+1):=by rw [List.drop_eq_getElem_cons h,rd_lt h]
theorem gR_lt {xs:List S26} {i:Nat} (h:i < xs.length):rd_T26 xs (i:Int) = xs[i]:=by unfold rd_T26;rw [Int.toNat_natCast];simp [List.getD,h]
theorem gA_lt {xs:List S44} {i:Nat} (h:i < xs.length):rd_T44 xs (i:Int) = xs[i]:=by unfold rd_T44;rw [Int.toNat_natCast];simp [List.getD,h]
theorem drop_R {xs:List S26} {i:Nat} (h:i < xs.length):xs.drop i = rd_T26 xs (i:Int) :: xs.drop (i+1):=by rw [List.drop_eq_getElem_cons h,gR_lt h]
theorem drop_A {xs:List S44} {i:Nat} (h:i < xs.length):xs.drop i = rd_T44 xs (i:Int) :: xs.drop (i+1):=by rw [List.drop_eq_getElem_cons h,gA_lt h]
def risP:Int→List Int→Bool
  | _,[]=>true
  | p,n :: l=>decide (1≤n∧p < n) && risP n l
def prI (l:List Int):Nat→Int
  | 0=>0
  | i+1=>rd l (i:Int)
def idP:Int→List S26→Bool
  | _,[]=>true
  | p,r :: l=>decide (1≤r.f0∧r.f0≤9999999∧p < r.f0) && idP r.f0 l
def prR (l:List S26):Nat→Int
  | 0=>0
  | i+1=>(rd_T26 l (i:Int)).f0
def rErr:List S26→Int
  | []=>0
  | r :: l=>if r.f1 < 0∨200 < r.f1 then 3 else if 200 < r.f2.length then 5 else if risP 0 r.f2 = true then rErr l else 23
def vErr (l:List S26):Int:=if 20 < l.length then 5 else if idP 0 l = true then rErr l else 23
def gvErr (l:List S26) (c:List Int):Int:=if vErr l = 0 then (if 200 < c.length then 5 else if risP 0 c = true then 0 else 23) else vErr l
def ld:List S44→Int→Int
  | [],_=>0
  | x :: l,id=>(if x.f1 = id then 1 else 0)+ld l id
def mayB (l:List Int) (c:Int):Bool:=decide (¬ c∈l)
theorem ld_le:∀(l:List S44) (id:Int),0≤ld l id∧ld l id≤(l.length:Int)
  | [],id=>by rw [ld];simp
  | x :: l,id=>by
    have:=ld_le l id
    rw [ld,List.length_cons];split <;> omega
theorem ris_l0 {l:List Int} (hl:l.length≤4611686018427387904):∀d i:Nat,i+d = l.length→Ev (fun k=>U45.l0 k l l (l.length:Int) (i:Int)) (risP (prI l i) (l.drop i)):=by
  intro d
  induction d with
  | zero =>
    intro i hi
    rw [List.drop_eq_nil_of_le (by omega),risP]
    refine Ev.succ ?_
    simp only [U45.l0,show ¬ ((i:Int) < (l.length:Int)) by omega,if_false]
    exact Ev.now _
  | succ d ih =>
    intro i hi
    have hlt:i < l.length:=by omega
    have hw:wrap64 ((i:Int)+1) = ((i+1:Nat):Int):=by rw [w64] <;> omega
    rw [drop_rd hlt,risP]
    refine Ev.succ ?_
    by_cases h1:rd l (i:Int) < 1
    · simp only [U45.l0,show (i:Int) < (l.length:Int) by omega,show (0:Int)≤(i:Int) by omega,if_true,h1]
      rw [decide_eq_false (by omega),Bool.false_and];exact Ev.now _
    · have hn:=ih (i+1) (by omega)
      cases i with
      | zero =>
        simp only [U45.l0,show ((0:Nat):Int) < (l.length:Int) by omega,show (0:Int)≤((0:Nat):Int) by omega,if_true,h1,if_false,show ¬ (((0:Nat):Int) > 0) by omega,hw]
        rw [decide_eq_true (show 1≤rd l ((0:Nat):Int)∧prI l 0 < rd l ((0:Nat):Int) by rw [prI];omega),Bool.true_and]
        exact hn
      | succ j =>
        have hw1:wrap64 (((j+1:Nat):Int) - 1) = (j:Int):=by rw [w64] <;> omega
        simp only [U45.l0,show ((j+1:Nat):Int) < (l.length:Int) by omega,show (0:Int)≤((j+1:Nat):Int) by omega,if_true,h1,if_false,show ((j+1:Nat):Int) > 0 by omega,hw,hw1,show (0:Int)≤(j:Int) by omega,show (j:Int) < (l.length:Int) by omega]
        by_cases h2:rd l ((j+1:Nat):Int)≤rd l (j:Int)
        · simp only [if_pos h2]
          rw [decide_eq_false (show ¬ (1≤rd l ((j+1:Nat):Int)∧prI l (j+1) < rd l ((j+1:Nat):Int)) by rw [prI];omega),Bool.false_and];exact Ev.now _
        · simp only [if_neg h2]
          rw [decide_eq_true (show 1≤rd l ((j+1:Nat):Int)∧prI l (j+1) < rd l ((j+1:Nat):Int) by rw [prI];omega),Bool.true_and]
          exact hn
theorem ris_ev {l:List Int} (hl:l.length≤4611686018427387904):Ev (fun k=>U45.f k l) (risP 0 l):=by
  unfold U45.f
  have:=ris_l0 hl l.length 0 (by omega)
  rw [List.drop_zero] at this
  exact this
theorem val_l1 {l:List S26} (h20:l.length≤20) (hb:∀r∈l,r.f2.length≤4611686018427387904):∀d i:Nat,i+d = l.length→Ev (fun k=>U37.l1 k l (l.length:Int) (i:Int)) (rErr (l.drop i)):=by
  intro d
  induction d with
  | zero =>
    intro i hi
    rw [List.drop_eq_nil_of_le (by omega),rErr]
    refine Ev.succ ?_
    simp only [U37.l1,show ¬ ((i:Int) < (l.length:Int)) by omega,if_false]
    exact Ev.now _
  | succ d ih =>
    intro i hi
    have hlt:i < l.length:=by omega
    have hw:wrap64 ((i:Int)+1) = ((i+1:Nat):Int):=by rw [w64] <;> omega
    have hn:=ih (i+1) (by omega)
    have hbi:(rd_T26 l (i:Int)).f2.length≤4611686018427387904:=by rw [gR_lt hlt];exact hb _ (List.getElem_mem hlt)
    rw [drop_R hlt,rErr]
    have tail:Ev (fun k=>U37.j2 k l (l.length:Int) (i:Int) false (rd_T26 l (i:Int)).f0 (rd_T26 l (i:Int)).f1 (rd_T26 l (i:Int)).f2) (if 200 < (rd_T26 l (i:Int)).f2.length then 5 else if risP 0 (rd_T26 l (i:Int)).f2 = true then rErr (l.drop (i+1)) else 23):=by
      refine Ev.succ ?_
      simp only [U37.j2,Bool.false_eq_true,if_false,show (0:Int)≤(i:Int) by omega,show (i:Int) < (l.length:Int) by omega,if_true]
      by_cases c:200 < (rd_T26 l (i:Int)).f2.length
      · simp only [show ((rd_T26 l (i:Int)).f2.length:Int) > 200 by omega,if_true,if_pos c];exact Ev.now _
      · simp only [show ¬ (((rd_T26 l (i:Int)).f2.length:Int) > 200) by omega,if_false,if_neg c]
        refine Ev.bind (ris_ev hbi) ?_
        by_cases e:risP 0 (rd_T26 l (i:Int)).f2 = true
        · simp only [e,if_true,hw];exact hn
        · simp only [e,Bool.false_eq_true,if_false];exact Ev.now _
    have stop:Ev (fun k=>U37.j2 k l (l.length:Int) (i:Int) true (rd_T26 l (i:Int)).f0 (rd_T26 l (i:Int)).f1 (rd_T26 l (i:Int)).f2) 3:=by
      refine Ev.succ ?_
      simp only [U37.j2,if_true];exact Ev.now _
    refine Ev.succ ?_
    simp only [U37.l1,show (i:Int) < (l.length:Int) by omega,show (0:Int)≤(i:Int) by omega,if_true]
    by_cases c1:(rd_T26 l (i:Int)).f1 < 0
    · simp only [if_pos c1];rw [if_pos (.inl c1)];exact stop
    · simp only [if_neg c1]
      by_cases c2:(rd_T26 l (i:Int)).f1 > 200
      · simp only [decide_eq_true c2];rw [if_pos (.inr c2)];exact stop
      · simp only [decide_eq_false c2];rw [if_neg (fun h=>h.elim c1 c2)];exact tail
theorem val_l0 {l:List S26} (h20:l.length≤20) (hb:∀r∈l,r.f2.length≤4611686018427387904):∀d i:Nat,i+d = l.length→Ev (fun k=>U37.l0 k l l (l.length:Int) (i:Int)) (if idP (prR l i) (l.drop i) = true then rErr l else 23):=by
  intro d
  induction d with
  | zero =>
    intro i hi
    rw [List.drop_eq_nil_of_le (by omega),idP,if_pos rfl]
    refine Ev.succ ?_
    simp only [U37.l0,show ¬ ((i:Int) < (l.length:Int)) by omega,if_false]
    have:=val_l1 h20 hb l.length 0 (by omega)
    rw [List.drop_zero] at this
    exact this
  | succ d ih =>
    intro i hi
    have hlt:i < l.length:=by omega
    have hw:wrap64 ((i:Int)+1) = ((i+1:Nat):Int):=by rw [w64] <;> omega
    rw [drop_R hlt,idP]
    refine Ev.succ ?_
    by_cases h1:(rd_T26 l (i:Int)).f0 < 1
    · simp only [U37.l0,show (i:Int) < (l.length:Int) by omega,show (0:Int)≤(i:Int) by omega,if_true,h1]
      rw [decide_eq_false (by omega),Bool.false_and,if_neg (by simp)];exact Ev.now _
    · by_cases h1' : (rd_T26 l (i:Int)).f0 > 9999999
      · simp only [U37.l0,show (i:Int) < (l.length:Int) by omega,show (0:Int)≤(i:Int) by omega,if_true,h1,if_false,h1']
        rw [decide_eq_false (by omega),Bool.false_and,if_neg (by simp)];exact Ev.now _
      · have hn:=ih (i+1) (by omega)
        cases i with
        | zero =>
          simp only [U37.l0,show ((0:Nat):Int) < (l.length:Int) by omega,show (0:Int)≤((0:Nat):Int) by omega,if_true,h1,h1',if_false,show ¬ (((0:Nat):Int) > 0) by omega,hw]
          rw [decide_eq_true (show 1≤(rd_T26 l ((0:Nat):Int)).f0∧(rd_T26 l ((0:Nat):Int)).f0≤9999999∧prR l 0 < (rd_T26 l ((0:Nat):Int)).f0 by rw [prR];omega),Bool.true_and]
          exact hn
        | succ j =>
          have hw1:wrap64 (((j+1:Nat):Int) - 1) = (j:Int):=by rw [w64] <;> omega
          simp only [U37.l0,show ((j+1:Nat):Int) < (l.length:Int) by omega,show (0:Int)≤((j+1:Nat):Int) by omega,if_true,h1,h1',if_false,show ((j+1:Nat):Int) > 0 by omega,hw,hw1,show (0:Int)≤(j:Int) by omega,show (j:Int) < (l.length:Int) by omega]
          by_cases h2:(rd_T26 l ((j+1:Nat):Int)).f0≤(rd_T26 l (j:Int)).f0
          · simp only [if_pos h2]
            rw [decide_eq_false (show ¬ (1≤(rd_T26 l ((j+1:Nat):Int)).f0∧(rd_T26 l ((j+1:Nat):Int)).f0≤9999999∧prR l (j+1) < (rd_T26 l ((j+1:Nat):Int)).f0) by rw [prR];omega),Bool.false_and,if_neg (by simp)];exact Ev.now _
          · simp only [if_neg h2]
            rw [decide_eq_true (show 1≤(rd_T26 l ((j+1:Nat):Int)).f0∧(rd_T26 l ((j+1:Nat):Int)).f0≤9999999∧prR l (j+1) < (rd_T26 l ((j+1:Nat):Int)).f0 by rw [prR];omega),Bool.true_and]
            exact hn
theorem val_ev {l:List S26} (hb:∀r∈l,r.f2.length≤4611686018427387904):Ev (fun k=>U37.f k l) (vErr l):=by
  unfold U37.f vErr
  by_cases c:20 < l.length
  · simp only [show (l.length:Int) > 20 by omega,if_true,if_pos c];exact Ev.now _
  · simp only [show ¬ ((l.length:Int) > 20) by omega,if_false,if_neg c]
    have:=val_l0 (by omega) hb l.length 0 (by omega)
    rw [List.drop_zero] at this
    exact this
theorem load_l0 {l:List S44} (hl:l.length≤4611686018427387904) (id:Int):∀(d i:Nat) (c:Int),i+d = l.length→0≤c→c≤(i:Int)→Ev (fun k=>U34.l0 k id c l (l.length:Int) (i:Int)) (c+ld (l.drop i) id):=by
  intro d
  induction d with
  | zero =>
    intro i c hi h0 h1
    rw [List.drop_eq_nil_of_le (by omega),ld,Int.add_zero]
    refine Ev.succ ?_
    simp only [U34.l0,show ¬ ((i:Int) < (l.length:Int)) by omega,if_false]
    exact Ev.now _
  | succ d ih =>
    intro i c hi h0 h1
    have hlt:i < l.length:=by omega
    have hw:wrap64 ((i:Int)+1) = ((i+1:Nat):Int):=by rw [w64] <;> omega
    have hw2:wrap64 (c+1) = c+1:=by rw [w64] <;> omega
    rw [drop_A hlt,ld]
    refine Ev.succ ?_
    simp only [U34.l0,show (i:Int) < (l.length:Int) by omega,show (0:Int)≤(i:Int) by omega,if_true,hw,hw2]
    by_cases e:(rd_T44 l (i:Int)).f1 = id
    · simp only [if_pos e]
      exact evq (ih (i+1) (c+1) (by omega) (by omega) (by omega)) (by omega)
    · simp only [if_neg e]
      exact evq (ih (i+1) c (by omega) (by omega) (by omega)) (by omega)
theorem load_ev {l:List S44} (hl:l.length≤4611686018427387904) (id:Int):Ev (fun k=>U34.f k l id) (ld l id):=by
  unfold U34.f
  have:=load_l0 hl id l.length 0 0 (by omega) (by omega) (by omega)
  rw [List.drop_zero,Int.zero_add] at this
  exact this
def ixN (c:Int):List Int→Int→Int
  | [],_=>-1
  | x :: l,i=>if c = x then i else ixN c l (i+1)
theorem ixN_mem (c:Int):∀(l:List Int) (i:Int),0≤i→(ixN c l i ≥ 0↔c∈l)
  | [],i,_=>by rw [ixN];simp
  | x :: l,i,h=>by
    rw [ixN]
    by_cases e:c = x
    · rw [if_pos e,e];simp;omega
    · rw [if_neg e,ixN_mem c l (i+1) (by omega)];simp [e]
theorem ix_l0 {l:List Int} (hl:l.length≤4611686018427387904) (c:Int):∀d i:Nat,i+d = l.length→Ev (fun k=>U57.l0 k l c (l.length:Int) (i:Int)) (ixN c (l.drop i) (i:Int)):=by
  intro d
  induction d with
  | zero =>
    intro i hi
    rw [List.drop_eq_nil_of_le (by omega),ixN]
    refine Ev.succ ?_
    simp only [U57.l0,show ¬ ((i:Int) < (l.length:Int)) by omega,if_false]
    exact Ev.now _
  | succ d ih =>
    intro i hi
    have hlt:i < l.length:=by omega
    have hw:wrap64 ((i:Int)+1) = ((i+1:Nat):Int):=by rw [w64] <;> omega
    rw [drop_rd hlt,ixN]
    refine Ev.succ ?_
    simp only [U57.l0,show (i:Int) < (l.length:Int) by omega,show (0:Int)≤(i:Int) by omega,if_true,hw]
    by_cases e:c = rd l (i:Int)
    · simp only [if_pos e];exact Ev.now _
    · simp only [if_neg e]
      exact ih (i+1) (by omega)
theorem cont_ev {l:List Int} (hl:l.length≤4611686018427387904) (c:Int):Ev (fun k=>U56.f k l c) (decide (c∈l)):=by
  unfold U56.f U57.f
  have:=ix_l0 hl c l.length 0 (by omega)
  rw [List.drop_zero] at this
  refine Ev.mapb this ?_
  congr 1
  exact decide_eq_decide.2 (ixN_mem c l 0 (by omega))
theorem may_ev (a b:Int) {l:List Int} (hl:l.length≤4611686018427387904) (c:Int):Ev (fun k=>U35.f k a b l c) (mayB l c):=by
  unfold U35.f
  refine Ev.mapb (cont_ev hl c) ?_
  unfold mayB;simp
theorem giv_ev {l:List S26} (hb:∀r∈l,r.f2.length≤4611686018427387904) {c:List Int} (hc:c.length≤4611686018427387904):Ev (fun k=>U41.f k l c) (gvErr l c):=by
  unfold U41.f gvErr
  refine Ev.bind (val_ev hb) ?_
  by_cases g:vErr l = 0
  · simp only [if_pos g]
    by_cases h:200 < c.length
    · simp only [show (c.length:Int) > 200 by omega,if_true,if_pos h];exact Ev.now _
    · simp only [show ¬ ((c.length:Int) > 200) by omega,if_false,if_neg h]
      refine Ev.bind (ris_ev hc) ?_
      by_cases e:risP 0 c = true
      · simp only [if_pos e];exact Ev.now _
      · simp only [if_neg e];exact Ev.now _
  · simp only [if_neg g];exact Ev.now _
end Go.Proofs.YtnimkmkapajnhaaDoor.Pure
