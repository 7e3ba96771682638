import Derived.Test.YtnimkmkapajnhaaDoorRBQAx11
import Derived.Test.YtnimkmkapajnhaaDoorRBQAx12
import Derived.Test.YtnimkmkapajnhaaDoorRBQAx26
import Derived.Test.YtnimkmkapajnhaaDoorRBQAx27
import Derived.Test.YtnimkmkapajnhaaDoorRBRtT
import Derived.Test.YtnimkmkapajnhaaDoorRBShuf
set_option linter.unusedVariables false
set_option linter.unusedSimpArgs false
namespace Go.Proofs.YtnimkmkapajnhaaDoor.Pure
open Go.RowKit Go.Proofs.YtnimkmkapajnhaaDoorW.PrintWords Go.Proofs.YtnimkmkapajnhaaDoorW.PrintLast Go.Proofs.YtnimkmkapajnhaaDoorW.PrintMore Go.Proofs.YtnimkmkapajnhaaDoor.QA
def sk (l:List S26) (ρ:List Int) (c w i:Int):Bool:=decide (i = w) || (!mayB (rd_T26 l i).f2 c || decide ((rd_T26 l i).f1≤rd ρ i))
def nb (l:List S26) (ρ:List Int) (c w b i:Int):Int:=if sk l ρ c w i = true then b else if b < 0 then i else if rd ρ i < rd ρ b then i else b
def lsN (l:List S26) (ρ:List Int) (c w:Int):List Int→Int→Int
  | [],b=>b
  | i :: os,b=>lsN l ρ c w os (nb l ρ c w b i)
theorem nb_range {l:List S26} {ρ:List Int} {c w b i:Int} {n:Nat} (hb:b = -1∨(0≤b∧b < (n:Int))) (hi:0≤i∧i < (n:Int)):nb l ρ c w b i = -1∨(0≤nb l ρ c w b i∧nb l ρ c w b i < (n:Int)):=by
  unfold nb;split
  · exact hb
  · split
    · exact .inr hi
    · split
      · exact .inr hi
      · exact hb
theorem lsN_range {l:List S26} {ρ:List Int} {c w:Int} {n:Nat}:∀(os:List Int) (b:Int),(b = -1∨(0≤b∧b < (n:Int)))→(∀ i∈os,0≤i∧i < (n:Int))→lsN l ρ c w os b = -1∨(0≤lsN l ρ c w os b∧lsN l ρ c w os b < (n:Int))
  | [],b,hb,_=>by rw [lsN];exact hb
  | i :: os,b,hb,h=>by
    rw [lsN]
    exact lsN_range os _ (nb_range hb (h i (List.mem_cons_self ..))) (fun j hj=>h j (List.mem_cons_of_mem _ hj))
theorem lsN_mem {l:List S26} {ρ:List Int} {c w:Int}:∀(os:List Int) (b:Int),lsN l ρ c w os b = b∨(lsN l ρ c w os b∈os∧sk l ρ c w (lsN l ρ c w os b) = false)
  | [],b=>by rw [lsN];exact .inl rfl
  | i :: os,b=>by
    rw [lsN]
    rcases lsN_mem os (nb l ρ c w b i) with h | h
    · rw [h]
      by_cases s:sk l ρ c w i = true
      · left;unfold nb;rw [if_pos s]
      · have hi:nb l ρ c w b i = b∨nb l ρ c w b i = i:=by
          unfold nb;rw [if_neg s];split
          · exact .inr rfl
          · split
            · exact .inr rfl
            · exact .inl rfl
        rcases hi with hi | hi
        · exact .inl hi
        · rw [hi];exact .inr ⟨List.mem_cons_self ..,Bool.eq_false_iff.2 s⟩
    · exact .inr ⟨List.mem_cons_of_mem _ h.1,h.2⟩
theorem least_l0 {l:List S26} {ρ o:List Int} {n:Nat} (hln:l.length = n) (hρ:ρ.length = n) (hn:n≤20) (hb:∀r∈l,r.f2.length≤4611686018427387904) (ho:∀i∈o,0≤i∧i < (n:Int)) (hol:o.length≤1000) (c w:Int):∀(d i:Nat) (b:Int),i+d = o.length→(b = -1∨(0≤b∧b < (n:Int))) →
    Ev (fun k=>U42.l0 k l ρ c w b o (o.length:Int) (i:Int)) (lsN l ρ c w (o.drop i) b):=by
  intro d
  induction d with
  | zero =>
    intro i b hi hB
    rw [List.drop_eq_nil_of_le (by omega),lsN]
    refine Ev.succ ?_
    simp only [U42.l0,show ¬ ((i:Int) < (o.length:Int)) by omega,if_false]
    exact Ev.now _
  | succ d ih =>
    intro i b hi hB
    have hlt:i < o.length:=by omega
    have hw:wrap64 ((i:Int)+1) = ((i+1:Nat):Int):=by rw [w64] <;> omega
    have hx:0≤rd o (i:Int)∧rd o (i:Int) < (n:Int):=by rw [rd_lt hlt];exact ho _ (List.getElem_mem hlt)
    rw [drop_rd hlt,lsN]
    have hn':=ih (i+1) (nb l ρ c w b (rd o (i:Int))) (by omega) (nb_range hB hx)
    generalize hj:rd o (i:Int) = j at *
    have hlen:(rd_T26 l j).f2.length≤4611686018427387904:=by
      obtain ⟨m,rfl⟩: ∃ m:Nat,j = (m:Int):=⟨j.toNat,by omega⟩
      rw [gR_lt (show m < l.length by omega)];exact hb _ (List.getElem_mem _)
    have skip:sk l ρ c w j = true→Ev (fun k=>U42.j1 k l ρ c w b j o (o.length:Int) (i:Int) true) (lsN l ρ c w (o.drop (i+1)) (nb l ρ c w b j)):=by
      intro s
      have e:nb l ρ c w b j = b:=by unfold nb;rw [if_pos s]
      rw [e] at hn' ⊢
      refine Ev.succ ?_
      simp only [U42.j1,if_true,hw]
      exact hn'
    refine Ev.succ ?_
    simp only [U42.l0,show (i:Int) < (o.length:Int) by omega,show (0:Int)≤(i:Int) by omega,if_true,hj]
    by_cases e1:j = w
    · simp only [if_pos e1]
      exact skip (by unfold sk;rw [decide_eq_true e1];rfl)
    · simp only [if_neg e1,hx.1,show j < (l.length:Int) by omega,if_true]
      refine Ev.bind (may_ev _ _ hlen _) ?_
      by_cases m:mayB (rd_T26 l j).f2 c = true
      · simp only [if_pos m,show j < (ρ.length:Int) by omega,if_true]
        by_cases g:(rd_T26 l j).f1≤rd ρ j
        · simp only [decide_eq_true (show rd ρ j ≥ (rd_T26 l j).f1 from g)]
          exact skip (by unfold sk;rw [decide_eq_true g];simp)
        · simp only [decide_eq_false (show ¬ (rd ρ j ≥ (rd_T26 l j).f1) from g)]
          have s:¬ (sk l ρ c w j = true):=by unfold sk;rw [decide_eq_false e1,decide_eq_false g,m];simp
          refine Ev.succ ?_
          simp only [U42.j1,Bool.false_eq_true,if_false,hw]
          unfold nb at hn' ⊢
          rw [if_neg s] at hn' ⊢
          by_cases q:b < 0
          · simp only [if_pos q] at hn' ⊢;exact hn'
          · have hb0:0≤b∧b < (n:Int):=by omega
            rw [if_neg q] at hn' ⊢
            simp only [if_neg q,hx.1,show j < (ρ.length:Int) by omega,hb0.1,show b < (ρ.length:Int) by omega,if_true]
            by_cases z:rd ρ j < rd ρ b
            · rw [if_pos z] at hn' ⊢;simp only [z,if_true];exact hn'
            · rw [if_neg z] at hn' ⊢;simp only [z,if_false];exact hn'
      · simp only [if_neg m]
        exact skip (by unfold sk;rw [Bool.eq_false_iff.2 m];simp)
theorem least_ev {l:List S26} {ρ o:List Int} {n:Nat} (hln:l.length = n) (hρ:ρ.length = n) (hn:n≤20) (hb:∀r∈l,r.f2.length≤4611686018427387904) (ho:∀i∈o,0≤i∧i < (n:Int)) (hol:o.length≤1000) (c w:Int):Ev (fun k=>U42.f k l o ρ c w) (lsN l ρ c w o (-1)):=by
  unfold U42.f
  have:=least_l0 hln hρ hn hb ho hol c w o.length 0 (-1) (by omega) (.inl rfl)
  rw [List.drop_zero] at this
  exact this
def inc (ρ:List Int) (a:Int):List Int:=ρ.set a.toNat (rd ρ a+1)
def asN (l:List S26) (o:List Int):List Int→List Int→List S44→Option (List S44)
  | [],_,out=>some out
  | c :: cs,ρ,out=>if lsN l ρ c (-1) o (-1) < 0 then none else if lsN l ρ c (lsN l ρ c (-1) o (-1)) o (-1) < 0 then none else
      asN l o cs (inc (inc ρ (lsN l ρ c (-1) o (-1))) (lsN l ρ c (lsN l ρ c (-1) o (-1)) o (-1))) (out ++ [⟨c,(rd_T26 l (lsN l ρ c (-1) o (-1))).f0⟩,⟨c,(rd_T26 l (lsN l ρ c (lsN l ρ c (-1) o (-1)) o (-1))).f0⟩])
def ansA (d d' : Int):Option (List S44)→List S44 × Int × Int
  | none=>([],d,14)
  | some out=>(out,d',0)
def assignN (l:List S26) (c:List Int) (d:Int):List S44 × Int × Int :=
  if gvErr l c = 0 then ansA d (shufN d l.length).2 (asN l (shufN d l.length).1 c (List.replicate l.length 0) []) else ([],d,gvErr l c)
theorem inc_len (ρ:List Int) (a:Int):(inc ρ a).length = ρ.length:=by unfold inc;rw [List.length_set]
theorem inc_rd {ρ:List Int} {a i:Int} (hi:0≤i∧i < (ρ.length:Int)) (ha:0≤a):rd (inc ρ a) i = if a = i then rd ρ a+1 else rd ρ i:=by
  obtain ⟨m,rfl⟩: ∃ m:Nat,i = (m:Int):=⟨i.toNat,by omega⟩
  unfold inc
  rw [rd_lt (show m < (ρ.set a.toNat (rd ρ a+1)).length by rw [List.length_set];omega),List.getElem_set,← rd_lt (show m < ρ.length by omega)]
  by_cases e:a = (m:Int)
  · rw [if_pos e,if_pos (by omega)]
  · rw [if_neg e,if_neg (by omega)]
theorem id_lt:∀{p:Int} {l:List S26},idP p l = true→∀ (i j:Nat) (hi:i < l.length) (hj:j < l.length),i < j→(l[i]).f0 < (l[j]).f0
  | _,[],_,i,_,hi,_,_=>by simp at hi
  | p,x :: l,h,i,j,hi,hj,hij=>by
    rw [idP,Bool.and_eq_true,decide_eq_true_eq] at h
    cases j with
    | zero=>omega
    | succ j =>
      have hj' : j < l.length:=by simpa using hj
      cases i with
      | zero =>
        simp only [List.getElem_cons_zero,List.getElem_cons_succ]
        exact (idP_mem h.2 _ (List.getElem_mem hj')).1
      | succ i =>
        simp only [List.getElem_cons_succ]
        exact id_lt h.2 i j (by simpa using hi) hj' (by omega)
theorem id_ix {l:List S26} (h:idP 0 l = true) {i j:Int} (hi:0≤i∧i < (l.length:Int)) (hj:0≤j∧j < (l.length:Int)) (e:(rd_T26 l i).f0 = (rd_T26 l j).f0):i = j:=by
  obtain ⟨m,rfl⟩: ∃ m:Nat,i = (m:Int):=⟨i.toNat,by omega⟩
  obtain ⟨q,rfl⟩: ∃ q:Nat,j = (q:Int):=⟨j.toNat,by omega⟩
  rw [gR_lt (show m < l.length by omega),gR_lt (show q < l.length by omega)] at e
  rcases Nat.lt_trichotomy m q with h1 | h1 | h1
  · have:=id_lt h m q (by omega) (by omega) h1;omega
  · omega
  · have:=id_lt h q m (by omega) (by omega) h1;omega
theorem ld_app:∀(x y:List S44) (id:Int),ld (x ++ y) id = ld x id+ld y id
  | [],y,id=>by rw [List.nil_append,ld];omega
  | a :: x,y,id=>by rw [List.cons_append,ld,ld,ld_app x y id];omega
structure Inv (l:List S26) (ρ:List Int) (out:List S44) (p:Nat):Prop where
  len:ρ.length = l.length
  bd:∀i:Int,0≤i→i < (l.length:Int)→0≤rd ρ i∧rd ρ i≤2 * (p:Int)
  eq:∀i:Int,0≤i→i < (l.length:Int)→ld out (rd_T26 l i).f0 = rd ρ i
  out:out.length = 2 * p
theorem Inv.step {l:List S26} {ρ:List Int} {out:List S44} {p:Nat} (h:Inv l ρ out p) (hid:idP 0 l = true) {a b c:Int} (ha:0≤a∧a < (l.length:Int)) (hb:0≤b∧b < (l.length:Int)):Inv l (inc (inc ρ a) b) (out ++ [⟨c,(rd_T26 l a).f0⟩,⟨c,(rd_T26 l b).f0⟩]) (p+1):=by
  have hl:=h.len
  have r2:∀i:Int,0≤i→i < (l.length:Int)→rd (inc (inc ρ a) b) i = rd ρ i+(if a = i then 1 else 0)+(if b = i then 1 else 0):=by
    intro i h0 h1
    rw [inc_rd (by rw [inc_len];omega) hb.1,inc_rd (i:=b) (by omega) ha.1,inc_rd (i:=i) (by omega) ha.1]
    by_cases e1:b = i
    · subst e1;simp only [if_true]
      by_cases e2:a = b
      · subst e2;simp only [if_true]
      · simp only [if_neg e2];omega
    · simp only [if_neg e1]
      by_cases e2:a = i
      · subst e2;simp only [if_true];omega
      · simp only [if_neg e2];omega
  refine ⟨by rw [inc_len,inc_len,hl],fun i h0 h1=>?_,fun i h0 h1=>?_,by rw [List.length_append,h.out];simp;omega⟩
  · have:=h.bd i h0 h1
    rw [r2 i h0 h1]
    split <;> split <;> omega
  · rw [ld_app,h.eq i h0 h1,r2 i h0 h1,ld,ld,ld]
    have e1:(rd_T26 l a).f0 = (rd_T26 l i).f0↔a = i:=⟨fun e=>id_ix hid ha ⟨h0,h1⟩ e,fun e=>by rw [e]⟩
    have e2:(rd_T26 l b).f0 = (rd_T26 l i).f0↔b = i:=⟨fun e=>id_ix hid hb ⟨h0,h1⟩ e,fun e=>by rw [e]⟩
    simp only [e1,e2];omega
theorem as_l0 {l:List S26} {o cs:List Int} (h20:l.length≤20) (hc:cs.length≤200) (hid:idP 0 l = true) (hb:∀r∈l,r.f2.length≤4611686018427387904) (ho:isP l.length o) (d d' : Int):∀(e i:Nat) (ρ:List Int) (out:List S44),i+e = cs.length→Inv l ρ out i →
    Ev (fun k=>U30.l0 k l d o d' ρ out cs (cs.length:Int) (i:Int)) (ansA d d' (asN l o (cs.drop i) ρ out)):=by
  intro e
  induction e with
  | zero =>
    intro i ρ out hi hI
    rw [List.drop_eq_nil_of_le (by omega),asN,ansA]
    refine Ev.succ ?_
    simp only [U30.l0,show ¬ ((i:Int) < (cs.length:Int)) by omega,if_false]
    exact Ev.now _
  | succ e ih =>
    intro i ρ out hi hI
    have hlt:i < cs.length:=by omega
    have hw:wrap64 ((i:Int)+1) = ((i+1:Nat):Int):=by rw [w64] <;> omega
    have hl:=hI.len
    have hol:=ho.1
    rw [drop_rd hlt,asN]
    refine Ev.succ ?_
    simp only [U30.l0,show (i:Int) < (cs.length:Int) by omega,show (0:Int)≤(i:Int) by omega,if_true]
    refine Ev.bind (least_ev rfl hl h20 hb ho.2.1 (by omega) _ _) ?_
    have ra:=lsN_range (l:=l) (ρ:=ρ) (c:=rd cs (i:Int)) (w:=-1) (n:=l.length) o (-1) (.inl rfl) ho.2.1
    generalize lsN l ρ (rd cs (i:Int)) (-1) o (-1) = a at *
    by_cases ha:a < 0
    · simp only [if_pos ha];rw [ansA];exact Ev.now _
    · simp only [if_neg ha]
      have ha' : 0≤a∧a < (l.length:Int):=by omega
      refine Ev.bind (least_ev rfl hl h20 hb ho.2.1 (by omega) _ _) ?_
      have rb:=lsN_range (l:=l) (ρ:=ρ) (c:=rd cs (i:Int)) (w:=a) (n:=l.length) o (-1) (.inl rfl) ho.2.1
      generalize lsN l ρ (rd cs (i:Int)) a o (-1) = b at *
      by_cases hb' : b < 0
      · simp only [if_pos hb'];rw [ansA];exact Ev.now _
      · simp only [if_neg hb']
        have hb2:0≤b∧b < (l.length:Int):=by omega
        have bda:=hI.bd a ha'.1 ha'.2
        have bdb:=hI.bd b hb2.1 hb2.2
        have w1:wrap64 (rd ρ a+1) = rd ρ a+1:=by rw [w64] <;> omega
        have hli:(inc ρ a).length = ρ.length:=inc_len ρ a
        have hrb:0≤rd (inc ρ a) b∧rd (inc ρ a) b≤1000:=by
          rw [inc_rd (by omega) ha'.1];split <;> omega
        have w2:wrap64 (rd (inc ρ a) b+1) = rd (inc ρ a) b+1:=by rw [w64] <;> omega
        simp only [ha'.1,hb2.1,if_true,show a < (ρ.length:Int) by omega,show b < (ρ.length:Int) by omega,show a < (l.length:Int) by omega,show b < (l.length:Int) by omega,Option.bind_some,w1,hw]
        have hlen2:out.length+[(⟨rd cs (i:Int),(rd_T26 l a).f0⟩: S44),⟨rd cs (i:Int),(rd_T26 l b).f0⟩].length < 8796093022208:=by
          have:=hI.out;simp;omega
        simp only [hlen2,if_true]
        have hset:ρ.set a.toNat (rd ρ a+1) = inc ρ a:=rfl
        rw [hset,w2]
        exact ih (i+1) _ _ (by omega) (hI.step hid ha' hb2)
theorem Inv.start (l:List S26):Inv l (List.replicate l.length 0) [] 0:=by
  have z:∀i:Int,0≤i→i < (l.length:Int)→rd (List.replicate l.length (0:Int)) i = 0:=fun i h0 h1=>by
    obtain ⟨m,rfl⟩: ∃ m:Nat,i = (m:Int):=⟨i.toNat,by omega⟩
    rw [rd_lt (by rw [List.length_replicate];omega)];simp
  exact ⟨List.length_replicate,fun i h0 h1=>by rw [z i h0 h1];omega,fun i h0 h1=>by rw [z i h0 h1,ld],rfl⟩
theorem assign_ev {l:List S26} (hb:∀r∈l,r.f2.length≤4611686018427387904) {c:List Int} (hc:c.length≤4611686018427387904) (d:Int):Ev (fun k=>U30.f k l c d) (assignN l c d):=by
  unfold U30.f assignN
  refine Ev.bind (giv_ev hb hc) ?_
  by_cases g:gvErr l c = 0
  · obtain ⟨h1,h2,h3,_⟩:=gv_ok g
    simp only [if_pos g]
    refine Ev.bind (shuffle_ev (by omega) d) ?_
    simp only [show (0:Int)≤(l.length:Int) by omega,if_true,Int.toNat_natCast,show l.length≤35184372088832 by omega]
    have:=as_l0 h1 h2 h3 hb (shufN_isP (n:=l.length) (by omega) d) d (shufN d l.length).2 c.length 0 _ [] (by omega) (Inv.start l)
    rw [List.drop_zero] at this
    exact this
  · simp only [if_neg g];exact Ev.now _
theorem asN_len {l:List S26} {o:List Int}:∀(cs ρ:List Int) (out a:List S44),asN l o cs ρ out = some a→a.length = out.length+2 * cs.length
  | [],ρ,out,a,h=>by rw [asN] at h;cases h;simp
  | c :: cs,ρ,out,a,h=>by
    rw [asN] at h
    split at h
    · cases h
    · split at h
      · cases h
      · have:=asN_len cs _ _ a h
        rw [this,List.length_append,List.length_cons];simp;omega
theorem assignN_len (l:List S26) (c:List Int) (d:Int):(assignN l c d).1.length≤400:=by
  unfold assignN
  by_cases g:gvErr l c = 0
  · rw [if_pos g]
    have:=(gv_ok g).2.1
    cases e:asN l (shufN d l.length).1 c (List.replicate l.length 0) [] with
    | none=>rw [ansA];simp
    | some a=>have h:=asN_len _ _ _ _ e;rw [ansA];simp at h ⊢;omega
  · rw [if_neg g];simp
end Go.Proofs.YtnimkmkapajnhaaDoor.Pure
