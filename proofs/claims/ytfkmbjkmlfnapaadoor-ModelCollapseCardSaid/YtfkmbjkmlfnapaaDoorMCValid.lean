import Derived.Test.YtfkmbjkmlfnapaaDoorMCQAx1
import Derived.Test.YtfkmbjkmlfnapaaDoorMCQAx2
import Derived.Test.YtfkmbjkmlfnapaaDoorMCQAx4
import Derived.Test.YtfkmbjkmlfnapaaDoorMCQAx15
import Derived.Test.YtfkmbjkmlfnapaaDoorMCNum
set_option linter.unusedVariables false
set_option linter.unusedSimpArgs false
namespace Go.Proofs.YtfkmbjkmlfnapaaDoor.Pure
open Go.RowKit Go.Proofs.YtfkmbjkmlfnapaaDoorW.PrintWords Go.Proofs.YtfkmbjkmlfnapaaDoorW.PrintLast Go.Proofs.YtfkmbjkmlfnapaaDoorW.PrintMore Go.Proofs.YtfkmbjkmlfnapaaDoor.QA
theorem mw (a b c:Int):U26.f a b c = some (decide (b≤a∧a≤c)):=by
  unfold U26.f
  by_cases h:b≤a
  · rw [if_pos h];congr 1;rw [decide_eq_decide];omega
  · rw [if_neg h,decide_eq_false (by omega)]
theorem drop_rd {xs:List Int} {i:Nat} (h:i < xs.length):xs.drop i = rd xs (i:Int) :: xs.drop (i+1):=by rw [List.drop_eq_getElem_cons h,rd_lt h]
def rowScan:List Int→Int→Int
  | [],s=>if s = 1000 then 0 else 19
  | w :: ws,s=>if 1≤w∧w≤1000 then rowScan ws (wrap64 (s+w)) else 3
def rowErr (r:List Int) (c:Int):Int:=if (r.length:Int) = c then rowScan r 0 else 1
def rowsErr:List (List Int)→Int→Int
  | [],_=>0
  | r :: rs,c=>if rowErr r c = 0 then rowsErr rs c else rowErr r c
def cat (rs:List (List Int)):Int:=((rs.getD 0 []).length:Int)
def mErr (rs:List (List Int)) (n:Int):Int:=if 1≤n∧n≤21∧(rs.length:Int) = n then (if 2≤cat rs∧cat rs≤6 then rowsErr rs (cat rs) else 3) else 1
theorem row_l0 {r:List Int} (hb:r.length≤4611686018427387904):∀(d i:Nat) (s:Int),i+d = r.length→Ev (fun k=>U23.l0 k s r (r.length:Int) (i:Int)) (rowScan (r.drop i) s):=by
  intro d
  induction d with
  | zero =>
    intro i s hi
    refine Ev.succ ?_
    simp only [U23.l0,show ¬ ((i:Int) < (r.length:Int)) by omega,if_false]
    rw [List.drop_eq_nil_of_le (by omega),rowScan]
    by_cases h:s = 1000
    · simp only [h,if_true];exact Ev.now _
    · simp only [h,if_false];exact Ev.now _
  | succ d ih =>
    intro i s hi
    have hw:wrap64 ((i:Int)+1) = ((i+1:Nat):Int):=by rw [w64] <;> omega
    refine Ev.succ ?_
    simp only [U23.l0,show (i:Int) < (r.length:Int) by omega,if_true,show (0:Int)≤(i:Int) by omega,mw,Option.bind_some,hw,decide_eq_true_eq]
    rw [drop_rd (show i < r.length by omega),rowScan]
    by_cases h:1≤rd r (i:Int)∧rd r (i:Int)≤1000
    · simp only [if_pos h];exact ih (i+1) _ (by omega)
    · simp only [if_neg h];exact Ev.now _
theorem row_ev {r:List Int} (hb:r.length≤4611686018427387904) (c:Int):Ev (fun k=>U23.f k r c) (rowErr r c):=by
  unfold U23.f rowErr
  by_cases h:(r.length:Int) = c
  · simp only [if_pos h];exact row_l0 hb r.length 0 0 (by omega)
  · simp only [if_neg h];exact Ev.now _
theorem getD_lt {α:Type} {xs:List α} {i:Nat} (h:i < xs.length) (d:α):xs.getD i d = xs[i]:=by simp [List.getD,h]
theorem rows_l0 {rs:List (List Int)} (hl:rs.length≤21) (hb:∀r∈rs,r.length≤4611686018427387904) (c:Int):∀d i:Nat,i+d = rs.length→Ev (fun k=>U21.l0 k c rs (rs.length:Int) (i:Int)) (rowsErr (rs.drop i) c):=by
  intro d
  induction d with
  | zero =>
    intro i hi
    refine Ev.succ ?_
    simp only [U21.l0,show ¬ ((i:Int) < (rs.length:Int)) by omega,if_false]
    rw [List.drop_eq_nil_of_le (by omega)];exact Ev.now _
  | succ d ih =>
    intro i hi
    have hw:wrap64 ((i:Int)+1) = ((i+1:Nat):Int):=by rw [w64] <;> omega
    have hlt:i < rs.length:=by omega
    refine Ev.succ ?_
    simp only [U21.l0,rd_L1,show (i:Int) < (rs.length:Int) by omega,if_true,show (0:Int)≤(i:Int) by omega,hw,Int.toNat_natCast,getD_lt hlt]
    rw [List.drop_eq_getElem_cons hlt,rowsErr]
    refine Ev.bind (row_ev (hb _ (List.getElem_mem hlt)) c) ?_
    by_cases h:rowErr rs[i] c = 0
    · simp only [h,if_true];exact ih (i+1) (by omega)
    · simp only [if_neg h];exact Ev.now _
theorem cat_zero {rs:List (List Int)} (h:rs.length = 0):cat rs = 0:=by
  rw [List.eq_nil_of_length_eq_zero h];rfl
theorem rd0_cat (rs:List (List Int)):((rd_L1 rs 0).length:Int) = cat rs:=by
  have h:rd_L1 rs 0 = rs.getD 0 []:=rfl
  rw [h];unfold cat;exact id rfl
theorem mvalid_ev {rs:List (List Int)} (hb:∀r∈rs,r.length≤4611686018427387904) (n:Int):Ev (fun k=>U21.f k rs n) (mErr rs n):=by
  unfold U21.f mErr
  simp only [mw,Option.bind_some,decide_eq_true_eq]
  by_cases h1:1≤n∧n≤21
  · simp only [if_pos h1]
    by_cases h2:(rs.length:Int) = n
    · refine Ev.succ ?_
      rw [if_pos ⟨h1.1,h1.2,h2⟩]
      simp only [U21.j0,h2,bne_self_eq_false,Bool.false_eq_true,if_false,show (0:Int) < n by omega,if_true,mw,Option.bind_some,decide_eq_true_eq,rd0_cat]
      by_cases h3:2≤cat rs∧cat rs≤6
      · simp only [if_pos h3]
        rw [← h2]
        exact rows_l0 (by omega) hb (cat rs) rs.length 0 (by omega)
      · simp only [if_neg h3];exact Ev.now _
    · refine Ev.succ ?_
      rw [if_neg (by omega)]
      simp only [U21.j0,bne_iff_ne.2 h2,if_true];exact Ev.now _
  · simp only [if_neg h1]
    refine Ev.succ ?_
    rw [if_neg (by omega)]
    simp only [U21.j0,if_true];exact Ev.now _
theorem cat_eq (rs:List (List Int)):U14.f rs = some (cat rs):=by
  unfold U14.f
  by_cases h:(rs.length:Int) = 0
  · rw [if_pos h,cat_zero (by omega)]
  · rw [if_neg h,if_pos (by omega),rd0_cat]
theorem rowScan_ok:∀{r:List Int} {s:Int},rowScan r s = 0→∀ x∈r,1≤x∧x≤1000
  | [],_,_,x,hx=>by cases hx
  | w :: ws,s,h,x,hx=>by
    rw [rowScan] at h
    by_cases hc:1≤w∧w≤1000
    · rw [if_pos hc] at h
      rcases List.mem_cons.1 hx with rfl | hx
      · exact hc
      · exact rowScan_ok h x hx
    · rw [if_neg hc] at h;omega
theorem rowErr_ok {r:List Int} {c:Int} (h:rowErr r c = 0):(r.length:Int) = c∧rowScan r 0 = 0:=by
  unfold rowErr at h
  by_cases hc:(r.length:Int) = c
  · rw [if_pos hc] at h;exact ⟨hc,h⟩
  · rw [if_neg hc] at h;omega
theorem rowsErr_ok:∀{rs:List (List Int)} {c:Int},rowsErr rs c = 0→∀ r∈rs,rowErr r c = 0
  | [],_,_,r,hr=>by cases hr
  | r0 :: rs,c,h,r,hr=>by
    rw [rowsErr] at h
    by_cases h0:rowErr r0 c = 0
    · rw [if_pos h0] at h
      rcases List.mem_cons.1 hr with rfl | hr
      · exact h0
      · exact rowsErr_ok h r hr
    · rw [if_neg h0] at h;exact absurd h h0
theorem mErr_ok {rs:List (List Int)} {n:Int} (h:mErr rs n = 0):1≤n∧n≤21∧(rs.length:Int) = n∧2≤cat rs∧cat rs≤6∧∀ r∈rs,(r.length:Int) = cat rs∧rowScan r 0 = 0:=by
  unfold mErr at h
  by_cases h1:1≤n∧n≤21∧(rs.length:Int) = n
  · rw [if_pos h1] at h
    by_cases h2:2≤cat rs∧cat rs≤6
    · rw [if_pos h2] at h
      exact ⟨h1.1,h1.2.1,h1.2.2,h2.1,h2.2,fun r hr=>rowErr_ok (rowsErr_ok h r hr)⟩
    · rw [if_neg h2] at h;omega
  · rw [if_neg h1] at h;omega
end Go.Proofs.YtfkmbjkmlfnapaaDoor.Pure
