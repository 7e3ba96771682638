import Derived.Test.YtfkmbjkmlfnapaaDoorMCProb
set_option linter.unusedVariables false
set_option linter.unusedSimpArgs false
namespace Go.Proofs.YtfkmbjkmlfnapaaDoor.Pure
open Go.RowKit Go.Proofs.YtfkmbjkmlfnapaaDoorW.PrintWords Go.Proofs.YtfkmbjkmlfnapaaDoorW.PrintLast Go.Proofs.YtfkmbjkmlfnapaaDoorW.PrintMore Go.Proofs.YtfkmbjkmlfnapaaDoor.QA
def msum:List Int→List Int→Int→Int
  | t :: ts,w :: ws,j=>(if t = j then w else 0)+msum ts ws j
  | _,_,_=>0
theorem msum_nil (ws:List Int) (j:Int):msum [] ws j = 0:=by rw [msum];intro _ _ _ _ h;cases h
theorem rd_set {acc:List Int} {n:Nat} (v:Int) {j:Nat} (hj:j < acc.length):rd (acc.set n v) (j:Int) = if n = j then v else rd acc (j:Int):=by
  rw [rd_lt (by rw [List.length_set];exact hj),List.getElem_set,rd_lt hj]
theorem msum_nn:∀(ts ws:List Int) (j:Int),okR ws→0≤msum ts ws j∧msum ts ws j≤1000 * ts.length
  | [],ws,j,_=>by rw [msum_nil];simp
  | t :: ts,[],j,_=>by rw [msum];· constructor <;> omega
                            · intro _ _ _ _ _ h;cases h
  | t :: ts,w :: ws,j,h=>by
    have hw:=h w (List.mem_cons_self ..)
    have ih:=msum_nn ts ws j (fun x hx=>h x (List.mem_cons_of_mem _ hx))
    rw [msum,List.length_cons];split <;> omega
theorem msum_pos:∀(ts ws:List Int) (j:Int),okR ws→ws.length = ts.length→j∈ts→1≤msum ts ws j
  | [],_,_,_,_,h=>by cases h
  | t :: ts,[],_,_,h,_=>by simp at h
  | t :: ts,w :: ws,j,h,hl,hj=>by
    have hw:=h w (List.mem_cons_self ..)
    have hr:okR ws:=fun x hx=>h x (List.mem_cons_of_mem _ hx)
    have h0:=msum_nn ts ws j hr
    rw [msum]
    by_cases e:t = j
    · rw [if_pos e];omega
    · rw [if_neg e]
      rcases List.mem_cons.1 hj with rfl | hj
      · exact absurd rfl e
      · have:=msum_pos ts ws j hr (by simpa using hl) hj;omega
theorem set_sum:∀(acc:List Int) (n:Nat) (v:Int),n < acc.length→(acc.set n v).sum = acc.sum - rd acc (n:Int)+v
  | [],n,v,h=>by simp at h
  | a :: acc,0,v,_=>by rw [List.set_cons_zero,List.sum_cons,List.sum_cons,rd_lt (by simp)];simp only [List.getElem_cons_zero];omega
  | a :: acc,n+1,v,h=>by
    have h' : n < acc.length:=by simpa using h
    have ih:=set_sum acc n v h'
    rw [List.set_cons_succ,List.sum_cons,List.sum_cons,ih,rd_lt h,rd_lt h'];simp only [List.getElem_cons_succ];omega
theorem set_dot:∀(sc acc:List Int) (n:Nat) (v:Int),n < acc.length→sc.length = acc.length→dot sc (acc.set n v) = dot sc acc+rd sc (n:Int) * (v - rd acc (n:Int))
  | sc,[],n,v,h,_=>by simp at h
  | [],a :: acc,n,v,_,h=>by simp at h
  | s :: sc,a :: acc,0,v,_,_=>by
    rw [List.set_cons_zero,dot,dot,rd_lt (by simp),rd_lt (by simp)];simp only [List.getElem_cons_zero]
    rw [Int.mul_sub];omega
  | s :: sc,a :: acc,n+1,v,h,hl=>by
    have h' : n < acc.length:=by simpa using h
    have hl' : sc.length = acc.length:=by simpa using hl
    have ih:=set_dot sc acc n v h' hl'
    rw [List.set_cons_succ,dot,dot,ih,rd_lt h,rd_lt h',rd_lt (show n+1 < (s :: sc).length by rw [List.length_cons];omega),rd_lt (show n < sc.length by omega)];simp only [List.getElem_cons_succ];omega
theorem cr_all (sc:List Int):∀(ts ws acc:List Int) (B:Int),(∀ t∈ts,0≤t∧t < (acc.length:Int))→okR ws→ws.length = ts.length→(∀ x∈acc,0≤x∧x≤B)→0≤B→B+1000 * ts.length≤100000→sc.length = acc.length →
    (∀ j:Nat,j < acc.length→rd (cr ts ws acc) (j:Int) = rd acc (j:Int)+msum ts ws (j:Int))∧(cr ts ws acc).sum = acc.sum+ws.sum∧dot sc (cr ts ws acc) = dot sc acc+dot (ts.map (fun t=>rd sc t)) ws
  | [],ws,acc,B,_,_,hl,_,_,_,_=>by
    have e:ws = []:=List.eq_nil_of_length_eq_zero (by simpa using hl)
    subst e
    have e2:cr [] [] acc = acc:=by rw [cr];intro _ _ _ _ h;cases h
    rw [e2]
    exact ⟨fun j _=>by rw [msum_nil,Int.add_zero],by simp,by rw [List.map_nil,dot_nil,Int.add_zero]⟩
  | t :: ts,[],acc,B,_,_,hl,_,_,_,_=>by simp at hl
  | t :: ts,w :: ws,acc,B,ht,hr,hl,hB,h0,h1,hs=>by
    rw [List.length_cons] at h1
    have hw:=hr w (List.mem_cons_self ..)
    have ht0:=ht t (List.mem_cons_self ..)
    obtain ⟨n,rfl⟩: ∃ n:Nat,t = (n:Int):=⟨t.toNat,by omega⟩
    have hn:n < acc.length:=by omega
    have hx:0≤rd acc (n:Int)∧rd acc (n:Int)≤B:=by rw [rd_lt hn];exact hB _ (List.getElem_mem hn)
    have hwr:wrap64 (rd acc (n:Int)+w) = rd acc (n:Int)+w:=by rw [w64] <;> omega
    have hlen:(acc.set n (rd acc (n:Int)+w)).length = acc.length:=List.length_set ..
    have ih:=cr_all sc ts ws (acc.set n (rd acc (n:Int)+w)) (B+1000) (fun t h=>by rw [hlen];exact ht t (List.mem_cons_of_mem _ h)) (fun x hx=>hr x (List.mem_cons_of_mem _ hx)) (by simpa using hl)
      (fun x hx=>by
        rcases List.mem_or_eq_of_mem_set hx with h | h
        · have:=hB x h;omega
        · omega) (by omega) (by omega) (by rw [hlen];exact hs)
    rw [cr,hwr,Int.toNat_natCast]
    refine ⟨fun j hj=>?_,?_,?_⟩
    · rw [ih.1 j (by rw [hlen];exact hj),rd_set _ hj,msum]
      by_cases e:n = j
      · subst e;rw [if_pos rfl,if_pos rfl];omega
      · rw [if_neg e,if_neg (by omega)];omega
    · rw [ih.2.1,set_sum acc n _ hn,List.sum_cons];omega
    · rw [ih.2.2,set_dot sc acc n _ hn hs,List.map_cons,dot]
      have:rd acc (n:Int)+w - rd acc (n:Int) = w:=by omega
      rw [this];omega
theorem rd_zeros (n:Nat) {j:Nat} (h:j < n):rd (List.replicate n (0:Int)) (j:Int) = 0:=by rw [rd_lt (by simpa using h)];simp
theorem zeros_sum:∀n:Nat,(List.replicate n (0:Int)).sum = 0
  | 0=>rfl
  | n+1=>by rw [List.replicate_succ,List.sum_cons,zeros_sum n];rfl
theorem dot_zeros:∀(sc:List Int) (n:Nat),dot sc (List.replicate n (0:Int)) = 0
  | [],n=>dot_nil _
  | s :: sc,0=>by rw [List.replicate_zero,dot];intro _ _ _ _ _ h;cases h
  | s :: sc,n+1=>by rw [List.replicate_succ,dot,dot_zeros sc n,Int.mul_zero];rfl
theorem stOk_surj:∀(l:Int) (xs:List Int),stOk l xs = true→∀ j,l≤j→j≤lst l xs→j = l∨j∈xs
  | l,[],_,j,h0,h1=>by rw [lst] at h1;left;omega
  | l,x :: xs,h,j,h0,h1=>by
    rw [stOk,Bool.and_eq_true,decide_eq_true_eq] at h
    rw [lst] at h1
    by_cases e:j = l
    · exact .inl e
    · rcases stOk_surj x xs h.2 j (by omega) h1 with h' | h'
      · exact .inr (h' ▸ List.mem_cons_self ..)
      · exact .inr (List.mem_cons_of_mem _ h')
theorem cr_row {tg r:List Int} (hs:stOk 0 tg = true) (h0:rd tg 0 = 0) (h6:tg.length≤6) (h2:2≤tg.length) (hr:okR r) (hl:r.length = tg.length) (hsum:r.sum = 1000) :
    ((cr tg r (zs tg)).length:Int) = lst 0 tg+1∧okR (cr tg r (zs tg))∧(cr tg r (zs tg)).sum = 1000∧(∀ j:Nat,(j:Int) < lst 0 tg+1→rd (cr tg r (zs tg)) (j:Int) = msum tg r (j:Int)∧(j:Int)∈tg) ∧
    ∀ sc:List Int,(sc.length:Int) = lst 0 tg+1→dot sc (cr tg r (zs tg)) = dot (tg.map (fun t=>rd sc t)) r:=by
  have hz:=zs_len hs
  have hb:=lst_ge 0 tg hs
  have hmem:∀t∈tg,0≤t∧t < ((zs tg).length:Int):=fun t h=>by have:=stOk_mem 0 tg hs t h;omega
  have hzr:zs tg = List.replicate (lst 0 tg+1).toNat 0:=rfl
  have hzB:∀x∈zs tg,0≤x∧x≤(0:Int):=fun x hx=>by rw [hzr] at hx;rw [(List.mem_replicate.1 hx).2];omega
  have all:=fun sc hsc=>cr_all sc tg r (zs tg) 0 hmem hr hl hzB (by omega) (by omega) hsc
  have hlen:(cr tg r (zs tg)).length = (zs tg).length:=cr_len ..
  have hin0:(0:Int)∈tg:=by
    have:=List.getElem_mem (show 0 < tg.length by omega)
    rw [← rd_lt (show 0 < tg.length by omega)] at this
    rw [show ((0:Nat):Int) = 0 from rfl,h0] at this;exact this
  have hval:∀j:Nat,(j:Int) < lst 0 tg+1→rd (cr tg r (zs tg)) (j:Int) = msum tg r (j:Int)∧(j:Int)∈tg:=fun j hj=>by
    have:=(all (zs tg) rfl).1 j (by omega)
    rw [hzr,rd_zeros _ (by omega)] at this
    rw [hzr,this,Int.zero_add]
    refine ⟨rfl,?_⟩
    rcases stOk_surj 0 tg hs j (by omega) (by omega) with h | h
    · rw [h];exact hin0
    · exact h
  have hs1:(cr tg r (zs tg)).sum = 1000:=by
    rw [(all (zs tg) rfl).2.1,hsum,hzr,zeros_sum];rfl
  have hpos:∀x∈cr tg r (zs tg),1≤x:=fun x hx=>by
    obtain ⟨n,hn,rfl⟩:=List.getElem_of_mem hx
    rw [← rd_lt hn,(hval n (by omega)).1]
    exact msum_pos tg r n hr hl (hval n (by omega)).2
  have hle:∀(l:List Int),(∀ x∈l,1≤x)→0≤l.sum∧∀ x∈l,x≤l.sum:=fun l=>by
    induction l with
    | nil=>intro _;exact ⟨by simp,fun x hx=>by cases hx⟩
    | cons a l ih =>
      intro h
      have ha:=h a (List.mem_cons_self ..)
      obtain ⟨i0,i1⟩:=ih (fun x hx=>h x (List.mem_cons_of_mem _ hx))
      rw [List.sum_cons]
      refine ⟨by omega,fun x hx=>?_⟩
      rcases List.mem_cons.1 hx with rfl | hx
      · omega
      · have:=i1 x hx;omega
  refine ⟨by omega,fun x hx=>⟨hpos x hx,?_⟩,hs1,hval,fun sc hsc=>?_⟩
  · have:=(hle _ hpos).2 x hx;omega
  · rw [(all sc (by omega)).2.2,hzr,dot_zeros,Int.zero_add]
theorem rowsErr_all:∀{rs:List (List Int)} {c:Int},(∀ r∈rs,rowErr r c = 0)→rowsErr rs c = 0
  | [],_,_=>by rw [rowsErr]
  | r :: rs,c,h=>by
    have h0:=h r (List.mem_cons_self ..)
    rw [rowsErr,if_pos h0];exact rowsErr_all (fun x hx=>h x (List.mem_cons_of_mem _ hx))
theorem coll_cases (rs:List (List Int)) (tg:List Int):(mErr rs (rs.length:Int) = 0∧(tg.length:Int) = cat rs∧rd tg 0 = 0∧stOk 0 tg = true∧lst 0 tg ≠ 0∧collN rs tg = (rs.map (fun r=>cr tg r (zs tg)),0))∨(collN rs tg).2 ≠ 0:=by
  unfold collN
  by_cases g:mErr rs (rs.length:Int) = 0
  · rw [if_pos g]
    by_cases h:(tg.length:Int) = cat rs∧rd tg 0 = 0
    · rw [if_pos h]
      by_cases hd:stOk 0 tg = true
      · rw [if_pos hd]
        by_cases hr:lst 0 tg = 0
        · rw [if_pos hr];exact .inr (by decide)
        · rw [if_neg hr];exact .inl ⟨g,h.1,h.2,hd,hr,rfl⟩
      · rw [if_neg hd];exact .inr (by decide)
    · rw [if_neg h];exact .inr (by decide)
  · rw [if_neg g];exact .inr g
theorem coll_ok {rs:List (List Int)} {tg:List Int} (g:mErr rs (rs.length:Int) = 0) (h1:(tg.length:Int) = cat rs) (h2:rd tg 0 = 0) (h3:stOk 0 tg = true) (h4:lst 0 tg ≠ 0) :
    mErr (rs.map (fun r=>cr tg r (zs tg))) ((rs.map (fun r=>cr tg r (zs tg))).length:Int) = 0∧cat (rs.map (fun r=>cr tg r (zs tg))) = lst 0 tg+1:=by
  obtain ⟨g1,g2,_,g4,g5,g6⟩:=mErr_ok g
  have hb:=lst_ge 0 tg h3
  have hrow:∀r∈rs.map (fun r=>cr tg r (zs tg)),(r.length:Int) = lst 0 tg+1∧okR r∧r.sum = 1000:=fun r hr=>by
    obtain ⟨r0,hr0,rfl⟩:=List.mem_map.1 hr
    obtain ⟨n,hn,rfl⟩:=List.getElem_of_mem hr0
    obtain ⟨f1,f2,f3,f4,f5⟩:=row_facts g hn
    have:=cr_row h3 h2 (by omega) (by omega) f4 (by omega) f5
    exact ⟨this.1,this.2.1,this.2.2.1⟩
  have hc:cat (rs.map (fun r=>cr tg r (zs tg))) = lst 0 tg+1:=by
    have hlt:0 < (rs.map (fun r=>cr tg r (zs tg))).length:=by rw [List.length_map];omega
    unfold cat;rw [getD_lt hlt]
    exact (hrow _ (List.getElem_mem hlt)).1
  refine ⟨?_,hc⟩
  have hc6:2≤lst 0 tg+1∧lst 0 tg+1≤6:=by
    have hlt:0 < rs.length:=by omega
    have hcr:((cr tg rs[0] (zs tg)).length:Int) = lst 0 tg+1:=(hrow _ (List.mem_map_of_mem (List.getElem_mem hlt))).1
    have hne:=List.getElem_mem (show 0 < tg.length by omega)
    have hlast:lst 0 tg≤(tg.length:Int) - 1:=by
      have e:tg = tg[0] :: tg.drop 1:=by rw [← List.drop_eq_getElem_cons (show 0 < tg.length by omega),List.drop_zero]
      have e0:tg[0] = 0:=by rw [← rd_lt (show 0 < tg.length by omega)];exact h2
      rw [e0] at e
      have h3':=h3
      rw [e,stOk,Bool.and_eq_true] at h3'
      have:=lst_ge 0 (tg.drop 1) h3'.2
      rw [e,lst]
      rw [List.length_drop] at this
      have hl2:(0 :: tg.drop 1).length = tg.length:=by rw [← e]
      omega
    omega
  unfold mErr
  rw [hc,if_pos ⟨by rw [List.length_map];omega,by rw [List.length_map];omega,rfl⟩,if_pos hc6]
  refine rowsErr_all (fun r hr=>?_)
  obtain ⟨k1,k2,k3⟩:=hrow r hr
  unfold rowErr;rw [if_pos k1]
  exact sum_scan r 0 k2 (by omega) (by omega) (by omega)
theorem scOk_iff:∀(sc:List Int),scOk sc = true↔∀ s∈sc,-1000000≤s∧s≤1000000
  | []=>by simp [scOk]
  | a :: sc=>by
    rw [scOk,Bool.and_eq_true,decide_eq_true_eq,scOk_iff sc]
    simp
end Go.Proofs.YtfkmbjkmlfnapaaDoor.Pure
