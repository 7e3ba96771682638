import Derived.Test.YtfkmbjkmlfnapaaDoorMCQAx25
import Derived.Test.YtfkmbjkmlfnapaaDoorMCQAx26
import Derived.Test.YtfkmbjkmlfnapaaDoorMCMsum
import Derived.Test.YtfkmbjkmlfnapaaDoorMCAw
import Derived.Test.YtfkmbjkmlfnapaaDoorMCArgA
set_option linter.unusedVariables false
set_option linter.unusedSimpArgs false
namespace Go.Proofs.YtfkmbjkmlfnapaaDoor.Pure
open Go.RowKit Go.Proofs.YtfkmbjkmlfnapaaDoorW.PrintWords Go.Proofs.YtfkmbjkmlfnapaaDoorW.PrintLast Go.Proofs.YtfkmbjkmlfnapaaDoorW.PrintMore Go.Proofs.YtfkmbjkmlfnapaaDoor.QA
theorem wf_u8 {n:Int} (h:(Lit.int .u8 n).wf = true):0≤n∧n≤255:=by
  rw [Lit.wf,Bool.and_eq_true,decide_eq_true_eq,decide_eq_true_eq] at h
  exact h
theorem merged_l0 {rs:List (List Int)} (hb:∀r∈rs,r.length≤4611686018427387904) (g:mErr rs (rs.length:Int) = 0) {q:Nat} (hq:q < rs.length) {tg:List Int} (hl:tg.length = (rs[q]).length) (h6:tg.length≤6) (hr:okR rs[q]) (j:Int):∀(d i:Nat) (s:Int),i+d = tg.length→0≤s→s≤1000 * (i:Int) →
    Ev (fun k=>U2.l0 k tg (q:Int) j (i:Int) rs (rat s 1000).1 (rat s 1000).2.1 (rat s 1000).2.2) (rat (s+msum (tg.drop i) ((rs[q]).drop i) j) 1000):=by
  intro d
  induction d with
  | zero =>
    intro i s hi h0 h1
    rw [List.drop_eq_nil_of_le (show tg.length≤i by omega),msum_nil,Int.add_zero]
    refine Ev.succ ?_
    simp only [U2.l0,show ¬ ((i:Int) < (tg.length:Int)) by omega,if_false]
    exact Ev.now _
  | succ d ih =>
    intro i s hi h0 h1
    have hlt:i < tg.length:=by omega
    have hlt' : i < (rs[q]).length:=by omega
    have hi6:i≤6:=by omega
    have hi' : i+1+d = tg.length:=by omega
    have hw:wrap64 ((i:Int)+1) = ((i+1:Nat):Int):=by rw [w64] <;> omega
    have hx:=hr _ (List.getElem_mem hlt')
    rw [← rd_lt hlt'] at hx
    have hp:=prob_ev hb g hq hlt'
    have c1:(i:Int) < (tg.length:Int):=by omega
    clear g hb
    have hs:(-1000000000000≤s∧s≤1000000000000)∧(-1000000000000≤rd rs[q] (i:Int)∧rd rs[q] (i:Int)≤1000000000000)∧(0≤s+rd rs[q] (i:Int)∧s+rd rs[q] (i:Int)≤1000 * ((i+1:Nat):Int))∧s≤1000 * ((i+1:Nat):Int):=by clear hp ih;omega
    rw [drop_rd hlt,drop_rd hlt',msum]
    refine Ev.succ ?_
    simp only [U2.l0,c1,show (0:Int)≤(i:Int) by omega,if_true,hw]
    by_cases e:rd tg (i:Int) = j
    · simp only [if_pos e]
      refine Ev.bind hp ?_
      simp only [quad]
      refine Ev.bind (add1000 hs.1.1 hs.1.2 hs.2.1.1 hs.2.1.2) ?_
      refine evq (ih (i+1) _ hi' hs.2.2.1.1 hs.2.2.1.2) ?_
      rw [Int.add_assoc]
    · simp only [if_neg e]
      refine evq (ih (i+1) s hi' h0 hs.2.2.2) ?_
      rw [Int.zero_add]
theorem cmpI_self (a:Int):cmpI a a = 0:=by unfold cmpI;rw [if_neg (by omega),if_neg (by omega)]
theorem cmp_self {x:Int} (h0 : -1000000000000≤x) (h1:x≤1000000000000):Ev (fun k=>U39.f k (rat x 1000).1 (rat x 1000).2.1 (rat x 1000).2.2 (rat x 1000).1 (rat x 1000).2.1 (rat x 1000).2.2) 0:=by
  have lx:(toL x.natAbs).length≤2:=len_two (by omega)
  have ld:=len_one (a:=1000) (by omega)
  exact evq (ratCmp_ev (x:=x) (y:=x) (d:=1000) (e:=1000) (by omega) (by omega) (by omega) (by omega) (by omega) (by omega)) (cmpI_self _)
theorem dot_bound:∀(sc r:List Int),okR r→(∀ s∈sc,-1000000≤s∧s≤1000000)→-1000000000 * (r.length:Int)≤dot sc r∧dot sc r≤1000000000 * (r.length:Int)
  | [],r,_,_=>by rw [dot_nil];omega
  | s :: sc,[],_,_=>by rw [dot];· simp
                            · intro _ _ _ _ _ h;cases h
  | s :: sc,w :: r,hr,hs=>by
    have hw:=hr w (List.mem_cons_self ..)
    have h1:=hs s (List.mem_cons_self ..)
    have hm:=mul_bound h1.1 h1.2 hw.1 hw.2
    have ih:=dot_bound sc r (fun x hx=>hr x (List.mem_cons_of_mem _ hx)) (fun x hx=>hs x (List.mem_cons_of_mem _ hx))
    rw [dot,List.length_cons];omega
theorem coll_end {rs cs:List (List Int)} (hb:∀r∈rs,r.length≤4611686018427387904) (hb' : ∀r∈cs,r.length≤4611686018427387904) (g:mErr rs (rs.length:Int) = 0) (g' : mErr cs (cs.length:Int) = 0) {q:Nat} (hq:q < rs.length) (hq' : q < cs.length) (h5:q≤255) {tg sc:List Int} (h6:tg.length≤6) (hsc:sc.length≤6) (ht:∀t∈tg,0≤t∧t < (sc.length:Int))
    (hE:expN cs[q] sc = expN rs[q] (tg.map (fun t=>rd sc t))) (hd:scOk sc = true→-1000000000000≤dot sc cs[q]∧dot sc cs[q]≤1000000000000):∀(d i:Nat) (W:List Int),i+d = tg.length→W.length = tg.length→(∀ m:Nat,m < i→rd W (m:Int) = rd sc (rd tg (m:Int))) →
    Ev (fun k=>U0.l0 k tg (q:Int) sc W (i:Int) rs cs) true:=by
  have hwq:wrap64 ((q:Int)) = (q:Int):=by rw [w64] <;> omega
  have e1:=exp_ev hb' g' hq' sc
  have e2:=exp_ev hb g hq (tg.map (fun t=>rd sc t))
  clear g g' hb hb'
  intro d
  induction d with
  | zero =>
    intro i W hi hW hm
    have hWe:W = tg.map (fun t=>rd sc t):=by
      refine List.ext_getElem (by rw [List.length_map,hW]) (fun n h1 h2=>?_)
      have:=hm n (by omega)
      rw [rd_lt h1,rd_lt (show n < tg.length by omega)] at this
      rw [this,List.getElem_map]
    refine Ev.succ ?_
    simp only [U0.l0,show ¬ ((i:Int) < (tg.length:Int)) by omega,if_false,hwq]
    rw [hWe]
    rw [← hE] at e2
    refine Ev.bind e1 (Ev.bind e2 ?_)
    simp only [if_true]
    unfold expN
    by_cases hl:sc.length = (cs[q]).length
    · rw [if_pos hl]
      by_cases hk:scOk sc = true
      · rw [if_pos hk]
        simp only [quad,if_true]
        refine Ev.bind (cmp_self (hd hk).1 (hd hk).2) ?_
        simp only [if_true]
        exact Ev.mapb awake_ev rfl
      · rw [if_neg hk]
        simp only [show ¬ ((3:Int) = 0) by omega,if_false]
        exact Ev.mapb awake_ev rfl
    · rw [if_neg hl]
      simp only [show ¬ ((1:Int) = 0) by omega,if_false]
      exact Ev.mapb awake_ev rfl
  | succ d ih =>
    intro i W hi hW hm
    have hlt:i < tg.length:=by omega
    have hw:wrap64 ((i:Int)+1) = ((i+1:Nat):Int):=by rw [w64] <;> omega
    have hti:0≤rd tg (i:Int)∧rd tg (i:Int) < (sc.length:Int):=by rw [rd_lt hlt];exact ht _ (List.getElem_mem hlt)
    refine Ev.succ ?_
    simp only [U0.l0,show (i:Int) < (tg.length:Int) by omega,show (0:Int)≤(i:Int) by omega,if_true,hti.1,hti.2,show (i:Int) < (W.length:Int) by omega,hw,Int.toNat_natCast]
    refine ih (i+1) _ (by omega) (by rw [List.length_set];exact hW) (fun m hlm=>?_)
    rw [rd_set _ (show m < W.length by omega)]
    by_cases e:i = m
    · subst e;rw [if_pos rfl]
    · rw [if_neg e];exact hm m (by omega)
theorem ModelCollapse (l0_0:(List (List Int))) (l1:(List Int)) (a2:Int) (a3:Int) (l4:(List Int)) (h0:wf24 l0_0) (h1:wf31 l1) (h2:(Lit.int .u8 a2).wf = true) (h3:(Lit.int .u8 a3).wf = true) (h4:wf31 l4):∃ k,U0.f k l0_0 l1 a2 a3 l4 = some true:=by
  have hb:∀r∈l0_0,r.length≤4611686018427387904:=fun r hr=>by have:=(h0.2 r hr).1;omega
  have ha:=wf_u8 h2
  have ha3:=wf_u8 h3
  have hw2:wrap64 a2 = a2:=by rw [w64] <;> omega
  have hw3:wrap64 a3 = a3:=by rw [w64] <;> omega
  have hstop:∀cs:List (List Int),Ev (fun k=>U0.j0 k l1 a2 a3 l4 true l0_0 cs) true:=fun cs=>by
    refine Ev.succ ?_
    simp only [U0.j0,if_true]
    exact Ev.mapb awake_ev rfl
  refine Ev.rounds ?_
  unfold U0.f
  refine Ev.bind (coll_ev hb l1) ?_
  rcases coll_cases l0_0 l1 with ⟨g,c1,c2,c3,c4,hc⟩ | hne
  · rw [hc]
    simp only [if_true,hw2]
    by_cases hq:a2 ≥ (l0_0.length:Int)
    · simp only [if_pos hq];exact hstop _
    · simp only [if_neg hq,cat_eq,Option.bind_some,hw3]
      obtain ⟨k1,k2⟩:=coll_ok g c1 c2 c3 c4
      generalize hcs:l0_0.map (fun r=>cr l1 r (zs l1)) = cs at *
      by_cases hj:a3 ≥ cat cs
      · simp only [decide_eq_true hj];exact hstop _
      · simp only [decide_eq_false hj]
        obtain ⟨q,rfl⟩: ∃ q:Nat,a2 = (q:Int):=⟨a2.toNat,by omega⟩
        obtain ⟨j,rfl⟩: ∃ j:Nat,a3 = (j:Int):=⟨a3.toNat,by omega⟩
        have hq1:q < l0_0.length:=Int.ofNat_lt.1 (Int.not_le.1 hq)
        have hq255:q≤255:=Int.ofNat_le.1 ha.2
        have hlen:cs.length = l0_0.length:=by rw [← hcs,List.length_map]
        have hq2:q < cs.length:=by rw [hlen];exact hq1
        have hcq:cs[q] = cr l1 l0_0[q] (zs l1):=by
          have:cs[q]? = some (cr l1 l0_0[q] (zs l1)):=by rw [← hcs,List.getElem?_map,List.getElem?_eq_getElem hq1];rfl
          rw [List.getElem?_eq_getElem hq2] at this
          exact Option.some.inj this
        obtain ⟨f1,f2,f3,f4,f5⟩:=row_facts g hq1
        obtain ⟨v1,v2,v3,v4,v5⟩:=row_facts k1 hq2
        have hb' : ∀r∈cs,r.length≤4611686018427387904:=fun r hr=>by
          obtain ⟨n,hn,rfl⟩:=List.getElem_of_mem hr
          exact Nat.le_trans (row_facts k1 hn).2.1 (by decide)
        have hl1q:l1.length = (l0_0[q]).length:=Int.ofNat_inj.1 (c1.trans f1.symm)
        have hl16:l1.length≤6:=by rw [hl1q];exact f2
        have hl12:2≤l1.length:=by rw [hl1q];exact f3
        have hjl:j < (cs[q]).length:=Int.ofNat_lt.1 (by rw [v1];exact Int.not_le.1 hj)
        have hjr:(j:Int) < lst 0 l1+1:=by rw [← k2];exact Int.not_le.1 hj
        obtain ⟨r1,r2,r3,r4,r5⟩:=cr_row c3 c2 hl16 hl12 f4 hl1q.symm f5
        have hsl4:∀n:Nat,n = l4.length→(n:Int) = cat cs→l4.length≤6∧l4.length = (cs[q]).length:=fun n e1 e2=>by
          have e3:l4.length = (cs[q]).length:=by rw [← e1];exact Int.ofNat_inj.1 (e2.trans v1.symm)
          exact ⟨by rw [e3];exact v2,e3⟩
        have hP:=prob_ev hb' k1 hq2 hjl
        have hM:=merged_l0 hb g hq1 hl1q hl16 f4 (j:Int) l1.length 0 0 (Nat.zero_add _) (Int.le_refl 0) (by decide)
        have hEnd:=fun (tg sc:List Int)=>@coll_end l0_0 cs hb hb' g k1 q hq1 hq2 hq255 tg sc
        clear g k1 hc hcs f5 v5 r3 hb hb' hstop c2
        have hmv:=(r4 j hjr).1
        rw [← hcq] at hmv
        have hxb:=v4 _ (List.getElem_mem hjl)
        rw [← rd_lt hjl] at hxb
        refine Ev.succ ?_
        simp only [U0.j0,Bool.false_eq_true,if_false,hw2,hw3]
        refine Ev.bind hP ?_
        simp only [quad,if_true]
        have hmg:Ev (fun k=>U2.f k l0_0 l1 (q:Int) (j:Int)) (rat (rd cs[q] (j:Int)) 1000):=by
          unfold U2.f
          rw [List.drop_zero,List.drop_zero,Int.zero_add,← hmv,rat0_1000] at hM
          exact hM
        refine Ev.bind hmg ?_
        have hxB : -1000000000000≤rd cs[q] (j:Int)∧rd cs[q] (j:Int)≤1000000000000:=⟨Int.le_trans (by decide) hxb.1,Int.le_trans hxb.2 (by decide)⟩
        clear hM hmg hP hmv
        refine Ev.bind (cmp_self hxB.1 hxB.2) ?_
        refine Ev.succ ?_
        simp only [U0.j1,bne_self_eq_false,Bool.false_eq_true,if_false,cat_eq,Option.bind_some]
        by_cases hs:(l4.length:Int) = cat cs
        · simp only [if_pos hs,show (0:Int)≤(l1.length:Int) by omega,if_true,Int.toNat_natCast,show l1.length≤35184372088832 by omega]
          have hsl:(l4.length:Int) = lst 0 l1+1:=by omega
          have htm:∀t∈l1,0≤t∧t < (l4.length:Int):=fun t ht=>by have:=stOk_mem 0 l1 c3 t ht;omega
          have hok:scOk l4 = scOk (l1.map (fun t=>rd l4 t)):=by
            rw [Bool.eq_iff_iff,scOk_iff,scOk_iff]
            constructor
            · intro h s hs'
              obtain ⟨t,ht,rfl⟩:=List.mem_map.1 hs'
              have:=htm t ht
              obtain ⟨n,rfl⟩: ∃ n:Nat,t = (n:Int):=⟨t.toNat,by omega⟩
              show -1000000≤rd l4 (n:Int)∧rd l4 (n:Int)≤1000000
              rw [rd_lt (show n < l4.length by omega)]
              exact h _ (List.getElem_mem _)
            · intro h s hs'
              obtain ⟨n,hn,rfl⟩:=List.getElem_of_mem hs'
              have:=h (rd l4 (n:Int)) (List.mem_map.2 ⟨(n:Int),(r4 n (by omega)).2,rfl⟩)
              rwa [rd_lt hn] at this
          have hdot:=r5 l4 hsl
          rw [← hcq] at hdot
          have hE:expN cs[q] l4 = expN l0_0[q] (l1.map (fun t=>rd l4 t)):=by
            unfold expN
            rw [if_pos (show l4.length = (cs[q]).length by omega),if_pos (show (l1.map (fun t=>rd l4 t)).length = (l0_0[q]).length by rw [List.length_map];omega),hok,hdot]
          have hdb:scOk l4 = true→-1000000000000≤dot l4 cs[q]∧dot l4 cs[q]≤1000000000000:=fun hk=>by
            have:=dot_bound l4 cs[q] v4 ((scOk_iff l4).1 hk)
            omega
          exact hEnd l1 l4 hl16 (hsl4 l4.length rfl hs).1 htm hE hdb l1.length 0 _ (Nat.zero_add _) List.length_replicate (fun m h=>absurd h (Nat.not_lt_zero m))
        · simp only [if_neg hs]
          exact Ev.mapb awake_ev rfl
  · simp only [if_neg hne]
    exact hstop _
end Go.Proofs.YtfkmbjkmlfnapaaDoor.Pure
