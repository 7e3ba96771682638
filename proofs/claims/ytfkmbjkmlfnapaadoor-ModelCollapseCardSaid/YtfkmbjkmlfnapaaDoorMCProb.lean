import Derived.Test.YtfkmbjkmlfnapaaDoorMCQAx10
import Derived.Test.YtfkmbjkmlfnapaaDoorMCQAx11
import Derived.Test.YtfkmbjkmlfnapaaDoorMCQAx23
import Derived.Test.YtfkmbjkmlfnapaaDoorMCQAx25
import Derived.Test.YtfkmbjkmlfnapaaDoorMCQAx27
import Derived.Test.YtfkmbjkmlfnapaaDoorMCCol
import Derived.Test.YtfkmbjkmlfnapaaDoorMCRat
set_option linter.unusedVariables false
set_option linter.unusedSimpArgs false
namespace Go.Proofs.YtfkmbjkmlfnapaaDoor.Pure
open Go.RowKit Go.Proofs.YtfkmbjkmlfnapaaDoorW.PrintWords Go.Proofs.YtfkmbjkmlfnapaaDoorW.PrintLast Go.Proofs.YtfkmbjkmlfnapaaDoorW.PrintMore Go.Proofs.YtfkmbjkmlfnapaaDoor.QA
def scOk:List Int→Bool
  | []=>true
  | s :: ss=>decide (-1000000≤s∧s≤1000000) && scOk ss
def dot:List Int→List Int→Int
  | s :: ss,w :: ws=>s * w+dot ss ws
  | _,_=>0
def okR (r:List Int):Prop:=∀ x∈r,1≤x∧x≤1000
theorem dot_nil (r:List Int):dot [] r = 0:=by rw [dot];intro _ _ _ _ h;cases h
theorem scan_sum:∀(r:List Int) (s:Int),0≤s→s+1000 * r.length≤1000000→rowScan r s = 0→s+r.sum = 1000
  | [],s,_,_,h=>by
    rw [rowScan] at h
    by_cases e:s = 1000
    · simp [e]
    · rw [if_neg e] at h;omega
  | w :: ws,s,h0,h1,h=>by
    rw [List.length_cons] at h1
    rw [rowScan] at h
    by_cases hc:1≤w∧w≤1000
    · rw [if_pos hc,w64 (by omega) (by omega)] at h
      have:=scan_sum ws (s+w) (by omega) (by omega) h
      rw [List.sum_cons];omega
    · rw [if_neg hc] at h;omega
theorem sum_scan:∀(r:List Int) (s:Int),okR r→0≤s→s+1000 * r.length≤1000000→s+r.sum = 1000→rowScan r s = 0
  | [],s,_,_,_,h=>by rw [List.sum_nil] at h;rw [rowScan,if_pos (by omega)]
  | w :: ws,s,hr,h0,h1,h=>by
    rw [List.length_cons] at h1
    have hw:=hr w (List.mem_cons_self ..)
    rw [List.sum_cons] at h
    rw [rowScan,if_pos hw,w64 (by omega) (by omega)]
    exact sum_scan ws (s+w) (fun x hx=>hr x (List.mem_cons_of_mem _ hx)) (by omega) (by omega) (by omega)
theorem row_facts {rs:List (List Int)} (g:mErr rs (rs.length:Int) = 0) {q:Nat} (hq:q < rs.length):((rs[q]).length:Int) = cat rs∧(rs[q]).length≤6∧2≤(rs[q]).length∧okR rs[q]∧(rs[q]).sum = 1000:=by
  obtain ⟨_,_,_,h1,h2,h3⟩:=mErr_ok g
  obtain ⟨h4,h5⟩:=h3 _ (List.getElem_mem hq)
  have:=scan_sum (rs[q]) 0 (by omega) (by omega) h5
  exact ⟨h4,by omega,by omega,rowScan_ok h5,by omega⟩
def quad (r:Bool × List Int × List Int) (e:Int):Bool × List Int × List Int × Int:=(r.1,r.2.1,r.2.2,e)
theorem of1000 {a:Int} (h0 : -1000000000000≤a) (h1:a≤1000000000000):Ev (fun k=>U42.f k a 1000) ((rat a 1000).1,(rat a 1000).2.1,(rat a 1000).2.2,true) :=
  qOf_ev (by omega) (by omega) (by omega) (by omega)
theorem prob_ev {rs:List (List Int)} (hb:∀r∈rs,r.length≤4611686018427387904) (g:mErr rs (rs.length:Int) = 0) {q j:Nat} (hq:q < rs.length) (hj:j < (rs[q]).length):Ev (fun k=>U18.f k rs (q:Int) (j:Int)) (quad (rat (rd rs[q] (j:Int)) 1000) 0):=by
  obtain ⟨h1,h2,h3,h4,_⟩:=row_facts g hq
  obtain ⟨g1,g2,_,_⟩:=mErr_ok g
  unfold U18.f
  refine Ev.bind (mvalid_ev hb _) ?_
  have e1:wrap64 ((rs.length:Int) - 1) = (rs.length:Int) - 1:=by rw [w64] <;> omega
  have e2:wrap64 (cat rs - 1) = cat rs - 1:=by rw [w64] <;> omega
  have hw:=h4 _ (List.getElem_mem hj)
  rw [← rd_lt hj] at hw
  simp only [g,if_true,mw,Option.bind_some,cat_eq,e1,e2,true_and,decide_true,show (q:Int)≤(rs.length:Int) - 1 by omega,show (j:Int)≤cat rs - 1 by omega,show (0:Int)≤(q:Int) by omega,show (q:Int) < (rs.length:Int) by omega,show (0:Int)≤(j:Int) by omega,rdL_lt hq,show (j:Int) < ((rs[q]).length:Int) by omega]
  exact Ev.mapb (of1000 (a:=rd rs[q] (j:Int)) (by omega) (by omega)) rfl
theorem mul_bound {s w:Int} (h0 : -1000000≤s) (h1:s≤1000000) (h2:1≤w) (h3:w≤1000) : -1000000000≤s * w∧s * w≤1000000000:=by
  have a1:=Int.mul_le_mul_of_nonneg_right h1 (show 0≤w by omega)
  have a2:=Int.mul_le_mul_of_nonneg_right h0 (show 0≤w by omega)
  omega
theorem exp_l0 {rs:List (List Int)} {q:Nat} (hq:q < rs.length) (hr:okR rs[q]) {sc:List Int} (hl:sc.length = (rs[q]).length) (h6:sc.length≤6):∀(d i:Nat) (a:Int),i+d = sc.length→-1000000000 * (i:Int)≤a→a≤1000000000 * (i:Int) →
    Ev (fun k=>U16.l0 k (q:Int) a sc (sc.length:Int) (i:Int) rs) (if scOk (sc.drop i) = true then quad (rat (a+dot (sc.drop i) ((rs[q]).drop i)) 1000) 0 else (false,[],[],3)):=by
  intro d
  induction d with
  | zero =>
    intro i a hi h0 h1
    rw [List.drop_eq_nil_of_le (by omega),scOk,if_pos rfl,dot_nil,Int.add_zero]
    refine Ev.succ ?_
    simp only [U16.l0,show ¬ ((i:Int) < (sc.length:Int)) by omega,if_false]
    exact Ev.mapb (of1000 (a:=a) (by omega) (by omega)) rfl
  | succ d ih =>
    intro i a hi h0 h1
    have hlt:i < sc.length:=by omega
    have hlt' : i < (rs[q]).length:=by omega
    have hw:wrap64 ((i:Int)+1) = ((i+1:Nat):Int):=by rw [w64] <;> omega
    have hx:=hr _ (List.getElem_mem hlt')
    rw [← rd_lt hlt'] at hx
    rw [drop_rd hlt,drop_rd hlt',scOk,dot]
    refine Ev.succ ?_
    by_cases hs : -1000000≤rd sc (i:Int)∧rd sc (i:Int)≤1000000
    · have hm:=mul_bound hs.1 hs.2 hx.1 hx.2
      have e1:wrap64 (rd sc (i:Int) * rd rs[q] (i:Int)) = rd sc (i:Int) * rd rs[q] (i:Int):=by rw [w64] <;> omega
      have e2:wrap64 (a+rd sc (i:Int) * rd rs[q] (i:Int)) = a+rd sc (i:Int) * rd rs[q] (i:Int):=by rw [w64] <;> omega
      simp only [U16.l0,show (i:Int) < (sc.length:Int) by omega,show (0:Int)≤(i:Int) by omega,if_true,mw,Option.bind_some,decide_eq_true hs,Bool.true_and,show (0:Int)≤(q:Int) by omega,show (q:Int) < (rs.length:Int) by omega,rdL_lt hq,show (i:Int) < ((rs[q]).length:Int) by omega,hw,e1,e2]
      refine evq (ih (i+1) _ (by omega) (by omega) (by omega)) ?_
      rw [Int.add_assoc]
    · simp only [U16.l0,show (i:Int) < (sc.length:Int) by omega,show (0:Int)≤(i:Int) by omega,if_true,mw,Option.bind_some,decide_eq_false hs,Bool.false_and,Bool.false_eq_true,if_false]
      exact Ev.now _
def expN (r sc:List Int):Bool × List Int × List Int × Int :=
  if sc.length = r.length then (if scOk sc = true then quad (rat (dot sc r) 1000) 0 else (false,[],[],3)) else (false,[],[],1)
theorem exp_ev {rs:List (List Int)} (hb:∀r∈rs,r.length≤4611686018427387904) (g:mErr rs (rs.length:Int) = 0) {q:Nat} (hq:q < rs.length) (sc:List Int):Ev (fun k=>U16.f k rs (q:Int) sc) (expN rs[q] sc):=by
  obtain ⟨h1,h2,h3,h4,_⟩:=row_facts g hq
  obtain ⟨g1,g2,_,_⟩:=mErr_ok g
  unfold U16.f expN
  refine Ev.bind (mvalid_ev hb _) ?_
  have e1:wrap64 ((rs.length:Int) - 1) = (rs.length:Int) - 1:=by rw [w64] <;> omega
  simp only [g,if_true,mw,Option.bind_some,cat_eq,e1,decide_eq_true (show (0:Int)≤(q:Int)∧(q:Int)≤(rs.length:Int) - 1 by omega)]
  by_cases hl:sc.length = (rs[q]).length
  · simp only [show (sc.length:Int) = cat rs by omega,if_true,if_pos hl]
    rw [← h1,← hl]
    have:=exp_l0 hq h4 hl (by omega) sc.length 0 0 (by omega) (by omega) (by omega)
    rw [List.drop_zero,List.drop_zero,Int.zero_add] at this
    exact this
  · simp only [show ¬ ((sc.length:Int) = cat rs) by omega,if_false,if_neg hl]
    exact Ev.now _
theorem add1000 {x y:Int} (h0 : -1000000000000≤x) (h1:x≤1000000000000) (h2 : -1000000000000≤y) (h3:y≤1000000000000) :
    Ev (fun k=>U38.f k (rat x 1000).1 (rat x 1000).2.1 (rat x 1000).2.2 (rat y 1000).1 (rat y 1000).2.1 (rat y 1000).2.2) (rat (x+y) 1000):=by
  have lx:(toL x.natAbs).length≤2:=len_two (by omega)
  have ly:(toL y.natAbs).length≤2:=len_two (by omega)
  refine evq (ratAdd_ev (d:=1000) (e:=1000) (by omega) (by omega) (by omega) (by omega) (by omega)) ?_
  refine rat_eq (by omega) (by omega) ?_
  show (x * 1000+y * 1000) * 1000 = (x+y) * 1000000
  omega
theorem rat0_1000:rat 0 1000 = (false,[],[1]):=by
  rw [rat_zero (by omega)];unfold fr
  rw [show (0:Int).natAbs = 0 from rfl,toL_zero,toL_small (by omega) (by omega)];rfl
end Go.Proofs.YtfkmbjkmlfnapaaDoor.Pure
