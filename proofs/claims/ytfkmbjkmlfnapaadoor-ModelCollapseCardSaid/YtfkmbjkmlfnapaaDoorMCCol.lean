import Derived.Test.YtfkmbjkmlfnapaaDoorMCQAx8
import Derived.Test.YtfkmbjkmlfnapaaDoorMCQAx19
import Derived.Test.YtfkmbjkmlfnapaaDoorMCSam
set_option linter.unusedVariables false
set_option linter.unusedSimpArgs false
namespace Go.Proofs.YtfkmbjkmlfnapaaDoor.Pure
open Go.RowKit Go.Proofs.YtfkmbjkmlfnapaaDoorW.PrintWords Go.Proofs.YtfkmbjkmlfnapaaDoorW.PrintLast Go.Proofs.YtfkmbjkmlfnapaaDoorW.PrintMore Go.Proofs.YtfkmbjkmlfnapaaDoor.QA
def stOk:Int→List Int→Bool
  | _,[]=>true
  | l,x :: xs=>decide (x = l∨x = l+1) && stOk x xs
def lst:Int→List Int→Int
  | l,[]=>l
  | _,x :: xs=>lst x xs
def cr:List Int→List Int→List Int→List Int
  | t :: ts,w :: ws,acc=>cr ts ws (acc.set t.toNat (wrap64 (rd acc t+w)))
  | _,_,acc=>acc
def zs (tg:List Int):List Int:=List.replicate (lst 0 tg+1).toNat 0
def collN (rs:List (List Int)) (tg:List Int):List (List Int) × Int :=
  if mErr rs (rs.length:Int) = 0 then (if (tg.length:Int) = cat rs∧rd tg 0 = 0 then (if stOk 0 tg = true then (if lst 0 tg = 0 then ([],19) else (rs.map (fun r=>cr tg r (zs tg)),0)) else ([],1)) else ([],1)) else ([],mErr rs (rs.length:Int))
theorem cr_len:∀(ts ws acc:List Int),(cr ts ws acc).length = acc.length
  | [],_,acc=>by rw [cr];intro _ _ _ _ h;cases h
  | t :: ts,[],acc=>by rw [cr];intro _ _ _ _ _ h;cases h
  | t :: ts,w :: ws,acc=>by rw [cr,cr_len,List.length_set]
theorem lst_ge:∀(l:Int) (xs:List Int),stOk l xs = true→l≤lst l xs∧lst l xs≤l+xs.length
  | l,[],_=>by rw [lst];simp
  | l,x :: xs,h=>by
    rw [stOk,Bool.and_eq_true,decide_eq_true_eq] at h
    have:=lst_ge x xs h.2
    rw [lst,List.length_cons];omega
theorem stOk_mem:∀(l:Int) (xs:List Int),stOk l xs = true→∀ x∈xs,l≤x∧x≤lst l xs
  | l,[],_,x,hx=>by cases hx
  | l,y :: xs,h,x,hx=>by
    rw [stOk,Bool.and_eq_true,decide_eq_true_eq] at h
    have h1:=lst_ge y xs h.2
    rw [lst]
    rcases List.mem_cons.1 hx with rfl | hx
    · omega
    · have:=stOk_mem y xs h.2 x hx;omega
theorem zs_len {tg:List Int} (h:stOk 0 tg = true):((zs tg).length:Int) = lst 0 tg+1:=by
  have:=lst_ge 0 tg h
  rw [zs,List.length_replicate];omega
theorem col_l2 {tg row:List Int} {last:Int} {rs:List (List Int)} {n q:Int} {A:List (List Int)} (hA:A.length < 5864062014805) {m:Nat} (hm:∀t∈tg,0≤t∧t < (m:Int)) (hl:row.length = tg.length) (h6:tg.length≤6) {R:List (List Int) × Int}:∀(d i:Nat) (acc:List Int),i+d = tg.length→acc.length = m →
    Ev (fun k=>U15.l1 k tg last rs n (wrap64 (q+1)) (A ++ [cr (tg.drop i) (row.drop i) acc])) R→Ev (fun k=>U15.l2 k tg last acc rs n q row (row.length:Int) (i:Int) A) R:=by
  intro d
  induction d with
  | zero =>
    intro i acc hi ha hR
    rw [List.drop_eq_nil_of_le (show tg.length≤i by omega),cr] at hR
    · refine Ev.succ ?_
      simp only [U15.l2,show ¬ ((i:Int) < (row.length:Int)) by omega,if_false,hA,if_true]
      exact hR
    · intro _ _ _ _ h;cases h
  | succ d ih =>
    intro i acc hi ha hR
    have hlt:i < tg.length:=by omega
    have hw:wrap64 ((i:Int)+1) = ((i+1:Nat):Int):=by rw [w64] <;> omega
    have ht:0≤rd tg (i:Int)∧rd tg (i:Int) < (m:Int):=by rw [rd_lt hlt];exact hm _ (List.getElem_mem hlt)
    rw [drop_rd hlt,drop_rd (show i < row.length by omega),cr] at hR
    refine Ev.succ ?_
    simp only [U15.l2,show (i:Int) < (row.length:Int) by omega,show (0:Int)≤(i:Int) by omega,show (i:Int) < (tg.length:Int) by omega,if_true,ht.1,show rd tg (i:Int) < (acc.length:Int) by omega,hw]
    exact ih (i+1) _ (by omega) (by rw [List.length_set];exact ha) hR
theorem map_take' {α β:Type} (f:α→β) {xs:List α} {i:Nat} (h:i < xs.length):(xs.take i).map f ++ [f xs[i]] = (xs.take (i+1)).map f:=by
  rw [List.take_succ_eq_append_getElem h,List.map_append,List.map_singleton]
theorem col_l1 {tg:List Int} {rs:List (List Int)} (hs:stOk 0 tg = true) (h6:tg.length≤6) (hn:rs.length≤21) (hr:∀r∈rs,r.length = tg.length):∀d i:Nat,i+d = rs.length →
    Ev (fun k=>U15.l1 k tg (lst 0 tg) rs (rs.length:Int) (i:Int) ((rs.take i).map (fun r=>cr tg r (zs tg)))) (rs.map (fun r=>cr tg r (zs tg)),0):=by
  have hb:=lst_ge 0 tg hs
  intro d
  induction d with
  | zero =>
    intro i hi
    refine Ev.succ ?_
    simp only [U15.l1,show ¬ ((i:Int) < (rs.length:Int)) by omega,if_false]
    exact evq (Ev.now _) (by rw [List.take_of_length_le (by omega)])
  | succ d ih =>
    intro i hi
    have hlt:i < rs.length:=by omega
    have hw:wrap64 ((i:Int)+1) = ((i+1:Nat):Int):=by rw [w64] <;> omega
    have hw2:wrap64 (lst 0 tg+1) = lst 0 tg+1:=by rw [w64] <;> omega
    have hA:((rs.take i).map (fun r=>cr tg r (zs tg))).length < 5864062014805:=by rw [List.length_map,List.length_take];omega
    have ht:=ih (i+1) (by omega)
    rw [← map_take' _ hlt,← hw] at ht
    have hz:=zs_len hs
    refine Ev.succ ?_
    simp only [U15.l1,show (i:Int) < (rs.length:Int) by omega,show (0:Int)≤(i:Int) by omega,if_true,hw2,show (0:Int)≤lst 0 tg+1 by omega,show (lst 0 tg+1).toNat≤35184372088832 by omega,rdL_lt hlt]
    refine col_l2 (m:=(zs tg).length) hA (fun t h=>?_) (hr _ (List.getElem_mem hlt)) h6 tg.length 0 (zs tg) (by omega) rfl ht
    have:=stOk_mem 0 tg hs t h;omega
theorem col_l0 {tg:List Int} {rs:List (List Int)} (h6:tg.length≤6) {Y:List (List Int) × Int} (hY:stOk 0 tg = true→Ev (fun k=>U15.l1 k tg (lst 0 tg) rs (rs.length:Int) 0 ([]:List (List Int))) Y):∀(d i:Nat) (v:Int),i+d = tg.length→0≤v→v≤(i:Int)→(stOk v (tg.drop i) = true→stOk 0 tg = true)→lst v (tg.drop i) = lst 0 tg →
    Ev (fun k=>U15.l0 k tg v tg (tg.length:Int) (i:Int) rs) (if stOk v (tg.drop i) = true then (if lst 0 tg = 0 then ([],19) else Y) else ([],1)):=by
  intro d
  induction d with
  | zero =>
    intro i v hi h0 h1 hk hv
    rw [List.drop_eq_nil_of_le (by omega)] at hk hv ⊢
    rw [lst] at hv
    refine Ev.succ ?_
    simp only [U15.l0,show ¬ ((i:Int) < (tg.length:Int)) by omega,if_false]
    rw [if_pos (by rw [stOk]),← hv]
    by_cases hz:v = 0
    · simp only [if_pos hz];exact Ev.now _
    · simp only [if_neg hz];rw [hv];exact hY (hk (by rw [stOk]))
  | succ d ih =>
    intro i v hi h0 h1 hk hv
    have hlt:i < tg.length:=by omega
    have hw:wrap64 ((i:Int)+1) = ((i+1:Nat):Int):=by rw [w64] <;> omega
    have hw2:wrap64 (v+1) = v+1:=by rw [w64] <;> omega
    rw [drop_rd hlt,lst] at hv
    rw [drop_rd hlt,stOk] at hk ⊢
    refine Ev.succ ?_
    simp only [U15.l0,show (i:Int) < (tg.length:Int) by omega,show (0:Int)≤(i:Int) by omega,if_true,hw,hw2]
    by_cases c1:rd tg (i:Int) = v
    · rw [decide_eq_true (show rd tg (i:Int) = v∨rd tg (i:Int) = v+1 from Or.inl c1),Bool.true_and] at hk ⊢
      simp only [if_pos c1]
      exact ih (i+1) _ (by omega) (by omega) (by omega) hk hv
    · simp only [if_neg c1]
      by_cases c2:rd tg (i:Int) = v+1
      · rw [decide_eq_true (show rd tg (i:Int) = v∨rd tg (i:Int) = v+1 from Or.inr c2),Bool.true_and] at hk ⊢
        simp only [if_pos c2]
        exact ih (i+1) _ (by omega) (by omega) (by omega) hk hv
      · simp only [if_neg c2]
        rw [decide_eq_false (show ¬ (rd tg (i:Int) = v∨rd tg (i:Int) = v+1) from fun h=>h.elim c1 c2),Bool.false_and,if_neg (by simp)]
        exact Ev.now _
theorem mrows_len {rs:List (List Int)} {n:Int} (g:mErr rs n = 0) {tg:List Int} (h:(tg.length:Int) = cat rs):∀r∈rs,r.length = tg.length:=fun r hr=>by
  have:=((mErr_ok g).2.2.2.2.2 r hr).1;omega
theorem coll_ev {rs:List (List Int)} (hb:∀r∈rs,r.length≤4611686018427387904) (tg:List Int):Ev (fun k=>U15.f k rs tg) (collN rs tg):=by
  unfold U15.f collN
  refine Ev.bind (mvalid_ev hb _) ?_
  by_cases g:mErr rs (rs.length:Int) = 0
  · simp only [if_pos g,cat_eq,Option.bind_some]
    obtain ⟨g1,g2,_,g4,g5,_⟩:=mErr_ok g
    by_cases h1:(tg.length:Int) = cat rs
    · simp only [if_pos h1,show (0:Int) < (tg.length:Int) by omega,if_true]
      refine Ev.succ ?_
      by_cases h2:rd tg 0 = 0
      · simp only [U15.j0,h2,bne_self_eq_false,Bool.false_eq_true,if_false]
        rw [if_pos ⟨h1,trivial⟩]
        have hl1:=fun hs:stOk 0 tg = true=>col_l1 hs (by omega) (by omega) (mrows_len g h1) rs.length 0 (by omega)
        exact col_l0 (by omega) (Y:=(rs.map (fun r=>cr tg r (zs tg)),0)) hl1 tg.length 0 0 (by omega) (by omega) (by omega) (fun h=>by rw [List.drop_zero] at h;exact h) (by rw [List.drop_zero])
      · simp only [U15.j0,bne_iff_ne.2 h2,if_true]
        rw [if_neg (fun h=>h2 h.2)];exact Ev.now _
    · simp only [if_neg h1]
      refine Ev.succ ?_
      simp only [U15.j0,if_true]
      rw [if_neg (fun h=>h1 h.1)];exact Ev.now _
  · simp only [if_neg g];exact Ev.now _
end Go.Proofs.YtfkmbjkmlfnapaaDoor.Pure
