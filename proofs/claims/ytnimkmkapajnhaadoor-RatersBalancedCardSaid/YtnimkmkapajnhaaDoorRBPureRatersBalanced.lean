import Derived.Test.YtnimkmkapajnhaaDoorRBQAx30
import Derived.Test.YtnimkmkapajnhaaDoorRBRtA
import Derived.Test.YtnimkmkapajnhaaDoorRBAw42
import Derived.Test.YtnimkmkapajnhaaDoorRBArgA
set_option linter.unusedVariables false
set_option linter.unusedSimpArgs false
namespace Go.Proofs.YtnimkmkapajnhaaDoor.Pure
open Go.RowKit Go.Proofs.YtnimkmkapajnhaaDoorW.PrintWords Go.Proofs.YtnimkmkapajnhaaDoorW.PrintLast Go.Proofs.YtnimkmkapajnhaaDoorW.PrintMore Go.Proofs.YtnimkmkapajnhaaDoor.QA
def easyB:List S26→Int→Bool
  | [],_=>true
  | r :: l,n=>(decide (r.f2.length = 0) && decide (n≤r.f1)) && easyB l n
theorem easyB_mem:∀{l:List S26} {n:Int},easyB l n = true→∀ r∈l,r.f2 = []∧n≤r.f1
  | [],_,_,r,hr=>by cases hr
  | x :: l,n,h,r,hr=>by
    rw [easyB,Bool.and_eq_true,Bool.and_eq_true,decide_eq_true_eq,decide_eq_true_eq] at h
    rcases List.mem_cons.1 hr with rfl | hr
    · exact ⟨List.eq_nil_of_length_eq_zero h.1.1,h.1.2⟩
    · exact easyB_mem h.2 r hr
theorem easy_l0 {l:List S26} (h20:l.length≤20) (n:Int):∀d i:Nat,i+d = l.length→Ev (fun k=>U6.l0 k l n (i:Int)) (easyB (l.drop i) n):=by
  intro d
  induction d with
  | zero =>
    intro i hi
    rw [List.drop_eq_nil_of_le (by omega),easyB]
    refine Ev.succ ?_
    simp only [U6.l0,show ¬ ((i:Int) < (l.length:Int)) by omega,if_false]
    exact Ev.now _
  | succ d ih =>
    intro i hi
    have hlt:i < l.length:=by omega
    have hw:wrap64 ((i:Int)+1) = ((i+1:Nat):Int):=by rw [w64] <;> omega
    rw [drop_R hlt,easyB]
    refine Ev.succ ?_
    simp only [U6.l0,show (i:Int) < (l.length:Int) by omega,show (0:Int)≤(i:Int) by omega,if_true,hw]
    by_cases c:(rd_T26 l (i:Int)).f2.length = 0
    · simp only [show ¬ (((rd_T26 l (i:Int)).f2.length:Int) > 0) by omega,if_false]
      rw [decide_eq_true c,Bool.true_and]
      by_cases e:(rd_T26 l (i:Int)).f1 < n
      · simp only [if_pos e];rw [decide_eq_false (by omega),Bool.false_and];exact Ev.now _
      · simp only [if_neg e];rw [decide_eq_true (by omega),Bool.true_and];exact ih (i+1) (by omega)
    · simp only [show ((rd_T26 l (i:Int)).f2.length:Int) > 0 by omega,if_true]
      rw [decide_eq_false c,Bool.false_and,Bool.false_and];exact Ev.now _
theorem easy_ev {l:List S26} (h20:l.length≤20) (n:Int):Ev (fun k=>U6.f k l n) (easyB l n):=by
  unfold U6.f
  have:=easy_l0 h20 n l.length 0 (by omega)
  rw [List.drop_zero] at this
  exact this
theorem lsN_min {l:List S26} {ρ:List Int} {c w:Int}:∀(os:List Int) (b:Int),(∀ i∈os,0≤i)→(0≤b→0≤lsN l ρ c w os b∧rd ρ (lsN l ρ c w os b)≤rd ρ b)∧∀ i∈os,sk l ρ c w i = false→0≤lsN l ρ c w os b∧rd ρ (lsN l ρ c w os b)≤rd ρ i
  | [],b,_=>by rw [lsN];exact ⟨fun h=>⟨h,Int.le_refl _⟩,fun i h=>by cases h⟩
  | i :: os,b,h=>by
    rw [lsN]
    have hi:=h i (List.mem_cons_self ..)
    obtain ⟨k1,k2⟩:=lsN_min (l:=l) (ρ:=ρ) (c:=c) (w:=w) os (nb l ρ c w b i) (fun j hj=>h j (List.mem_cons_of_mem _ hj))
    have n1:0≤b→0≤nb l ρ c w b i∧rd ρ (nb l ρ c w b i)≤rd ρ b:=fun h0=>by
      unfold nb;split
      · exact ⟨h0,Int.le_refl _⟩
      · split
        · omega
        · split
          · omega
          · exact ⟨h0,Int.le_refl _⟩
    have n2:sk l ρ c w i = false→0≤nb l ρ c w b i∧rd ρ (nb l ρ c w b i)≤rd ρ i:=fun s=>by
      unfold nb;rw [if_neg (by rw [s];simp)]
      by_cases q:b < 0
      · rw [if_pos q];exact ⟨hi,Int.le_refl _⟩
      · rw [if_neg q];split
        · exact ⟨hi,Int.le_refl _⟩
        · omega
    refine ⟨fun h0=>?_,fun j hj s=>?_⟩
    · have a1:=n1 h0;have a2:=k1 a1.1;omega
    · rcases List.mem_cons.1 hj with rfl | hj
      · have a1:=n2 s;have a2:=k1 a1.1;omega
      · exact k2 j hj s
structure Goo (l:List S26) (c0 ρ:List Int) (out:List S44) (p:Nat):Prop where
  inv:Inv l ρ out p
  can:∀i:Nat,i < 2 * p→(rd_T44 out (i:Int)).f0 = rd c0 ((i / 2:Nat):Int)
  may:∀i:Nat,i < 2 * p→∃ j:Int,(0≤j∧j < (l.length:Int))∧(rd_T44 out (i:Int)).f1 = (rd_T26 l j).f0∧mayB (rd_T26 l j).f2 (rd_T44 out (i:Int)).f0 = true
  two:∀i:Nat,i < 2 * p→i % 2 = 1→(rd_T44 out ((i - 1:Nat):Int)).f1 ≠ (rd_T44 out (i:Int)).f1
  cap:∀j:Int,0≤j→j < (l.length:Int)→rd ρ j≤(rd_T26 l j).f1
  one:∀j:Int,0≤j→j < (l.length:Int)→rd ρ j≤(p:Int)
  bal:easyB l (c0.length:Int) = true→∃ m:Int,0≤m∧∀ j:Int,0≤j→j < (l.length:Int)→m≤rd ρ j∧rd ρ j≤m+1
theorem rA_app_lt {out y:List S44} {i:Nat} (h:i < out.length):rd_T44 (out ++ y) (i:Int) = rd_T44 out (i:Int):=by
  rw [gA_lt (show i < (out ++ y).length by rw [List.length_append];omega),gA_lt h,List.getElem_append_left h]
theorem rA_app_ge {out y:List S44} {i:Nat} (h:i < y.length):rd_T44 (out ++ y) ((out.length+i:Nat):Int) = rd_T44 y (i:Int):=by
  rw [gA_lt (show out.length+i < (out ++ y).length by rw [List.length_append];omega),gA_lt h,List.getElem_append_right (by omega)]
  simp
theorem inc2_rd {l:List S26} {ρ:List Int} (hl:ρ.length = l.length) {a b:Int} (ha:0≤a∧a < (l.length:Int)) (hb:0≤b∧b < (l.length:Int)) {i:Int} (h0:0≤i) (h1:i < (l.length:Int)):rd (inc (inc ρ a) b) i = rd ρ i+(if a = i then 1 else 0)+(if b = i then 1 else 0):=by
  rw [inc_rd (by rw [inc_len];omega) hb.1,inc_rd (i:=b) (by omega) ha.1,inc_rd (i:=i) (by omega) ha.1]
  by_cases e1:b = i
  · subst e1;simp only [if_true]
    by_cases e2:a = b
    · subst e2;simp only [if_true]
    · simp only [if_neg e2];omega
  · simp only [if_neg e1]
    by_cases e2:a = i
    · subst e2;simp only [if_true];omega
    · simp only [if_neg e2];omega
theorem sk_f {l:List S26} {ρ:List Int} {c w i:Int} (h:sk l ρ c w i = false):i ≠ w∧mayB (rd_T26 l i).f2 c = true∧rd ρ i < (rd_T26 l i).f1:=by
  unfold sk at h
  rw [Bool.or_eq_false_iff,Bool.or_eq_false_iff,decide_eq_false_iff_not,decide_eq_false_iff_not,Bool.not_eq_false'] at h
  exact ⟨h.1,h.2.1,by omega⟩
theorem Goo.step {l:List S26} {c0 ρ o:List Int} {out:List S44} {p:Nat} (h:Goo l c0 ρ out p) (hid:idP 0 l = true) (ho:isP l.length o) (hp:p < c0.length) (ha0:¬ (lsN l ρ (rd c0 (p:Int)) (-1) o (-1) < 0)) (hb0:¬ (lsN l ρ (rd c0 (p:Int)) (lsN l ρ (rd c0 (p:Int)) (-1) o (-1)) o (-1) < 0)) :
    Goo l c0 (inc (inc ρ (lsN l ρ (rd c0 (p:Int)) (-1) o (-1))) (lsN l ρ (rd c0 (p:Int)) (lsN l ρ (rd c0 (p:Int)) (-1) o (-1)) o (-1))) (out ++ [⟨rd c0 (p:Int),(rd_T26 l (lsN l ρ (rd c0 (p:Int)) (-1) o (-1))).f0⟩,⟨rd c0 (p:Int),(rd_T26 l (lsN l ρ (rd c0 (p:Int)) (lsN l ρ (rd c0 (p:Int)) (-1) o (-1)) o (-1))).f0⟩]) (p+1):=by
  have hnn:∀i∈o,0≤i:=fun i hi=>(ho.2.1 i hi).1
  have ra:=lsN_range (l:=l) (ρ:=ρ) (c:=rd c0 (p:Int)) (w:=-1) (n:=l.length) o (-1) (.inl rfl) ho.2.1
  have ma:=lsN_mem (l:=l) (ρ:=ρ) (c:=rd c0 (p:Int)) (w:=-1) o (-1)
  have na:=(lsN_min (l:=l) (ρ:=ρ) (c:=rd c0 (p:Int)) (w:=-1) o (-1) hnn).2
  generalize lsN l ρ (rd c0 (p:Int)) (-1) o (-1) = a at *
  have rb:=lsN_range (l:=l) (ρ:=ρ) (c:=rd c0 (p:Int)) (w:=a) (n:=l.length) o (-1) (.inl rfl) ho.2.1
  have mb:=lsN_mem (l:=l) (ρ:=ρ) (c:=rd c0 (p:Int)) (w:=a) o (-1)
  have nb':=(lsN_min (l:=l) (ρ:=ρ) (c:=rd c0 (p:Int)) (w:=a) o (-1) hnn).2
  generalize lsN l ρ (rd c0 (p:Int)) a o (-1) = b at *
  have ha:0≤a∧a < (l.length:Int):=by omega
  have hb:0≤b∧b < (l.length:Int):=by omega
  have sa:sk l ρ (rd c0 (p:Int)) (-1) a = false:=by
    rcases ma with e | e
    · omega
    · exact e.2
  have sb:sk l ρ (rd c0 (p:Int)) a b = false:=by
    rcases mb with e | e
    · omega
    · exact e.2
  obtain ⟨_,a1,a2⟩:=sk_f sa
  obtain ⟨b0,b1,b2⟩:=sk_f sb
  have hl:=h.inv.len
  have hout:=h.inv.out
  have r2:=fun (i:Int) h0 h1=>inc2_rd hl ha hb (i:=i) h0 h1
  have q0:rd_T44 (out ++ [(⟨rd c0 (p:Int),(rd_T26 l a).f0⟩: S44),⟨rd c0 (p:Int),(rd_T26 l b).f0⟩]) ((2 * p:Nat):Int) =⟨rd c0 (p:Int),(rd_T26 l a).f0⟩:=by
    have:=rA_app_ge (out:=out) (y:=[(⟨rd c0 (p:Int),(rd_T26 l a).f0⟩: S44),⟨rd c0 (p:Int),(rd_T26 l b).f0⟩]) (i:=0) (by simp)
    rw [hout] at this;exact this
  have q1:rd_T44 (out ++ [(⟨rd c0 (p:Int),(rd_T26 l a).f0⟩: S44),⟨rd c0 (p:Int),(rd_T26 l b).f0⟩]) ((2 * p+1:Nat):Int) =⟨rd c0 (p:Int),(rd_T26 l b).f0⟩:=by
    have:=rA_app_ge (out:=out) (y:=[(⟨rd c0 (p:Int),(rd_T26 l a).f0⟩: S44),⟨rd c0 (p:Int),(rd_T26 l b).f0⟩]) (i:=1) (by simp)
    rw [hout] at this;exact this
  have ql:∀i:Nat,i < 2 * p→rd_T44 (out ++ [(⟨rd c0 (p:Int),(rd_T26 l a).f0⟩: S44),⟨rd c0 (p:Int),(rd_T26 l b).f0⟩]) (i:Int) = rd_T44 out (i:Int):=fun i hi=>rA_app_lt (by omega)
  refine ⟨h.inv.step hid ha hb,fun i hi=>?_,fun i hi=>?_,fun i hi ho'=>?_,fun j h0 h1=>?_,fun j h0 h1=>?_,fun he=>?_⟩
  · rcases (show i < 2 * p∨i = 2 * p∨i = 2 * p+1 by omega) with e | e | e
    · rw [ql i e];exact h.can i e
    · subst e;rw [q0,show 2 * p / 2 = p by omega]
    · subst e;rw [q1,show (2 * p+1) / 2 = p by omega]
  · rcases (show i < 2 * p∨i = 2 * p∨i = 2 * p+1 by omega) with e | e | e
    · rw [ql i e];exact h.may i e
    · subst e;rw [q0];exact ⟨a,ha,rfl,a1⟩
    · subst e;rw [q1];exact ⟨b,hb,rfl,b1⟩
  · rcases (show i < 2 * p∨i = 2 * p∨i = 2 * p+1 by omega) with e | e | e
    · rw [ql i e,ql (i - 1) (by omega)];exact h.two i e ho'
    · omega
    · subst e
      rw [show 2 * p+1 - 1 = 2 * p by omega,q0,q1]
      intro e;exact b0 (id_ix hid hb ha e.symm)
  · have:=h.cap j h0 h1
    rw [r2 j h0 h1]
    by_cases e1:a = j
    · subst e1;rw [if_pos rfl,if_neg b0];omega
    · rw [if_neg e1]
      by_cases e2:b = j
      · subst e2;rw [if_pos rfl];omega
      · rw [if_neg e2];omega
  · have:=h.one j h0 h1
    rw [r2 j h0 h1]
    by_cases e1:a = j
    · subst e1;rw [if_pos rfl,if_neg b0];omega
    · rw [if_neg e1];split <;> omega
  · obtain ⟨m,m0,hm⟩:=h.bal he
    have free:∀(w j:Int),0≤j→j < (l.length:Int)→j ≠ w→sk l ρ (rd c0 (p:Int)) w j = false∧j∈o:=fun w j h0 h1 hw=>by
      obtain ⟨n,rfl⟩: ∃ n:Nat,j = (n:Int):=⟨j.toNat,by omega⟩
      have hmem:rd_T26 l (n:Int)∈l:=by rw [gR_lt (show n < l.length by omega)];exact List.getElem_mem _
      have he':=easyB_mem he _ hmem
      have h1':=h.one (n:Int) h0 h1
      refine ⟨?_,ho.2.2 n (by omega)⟩
      unfold sk mayB
      rw [decide_eq_false hw,he'.1,decide_eq_false (show ¬ ((rd_T26 l (n:Int)).f1≤rd ρ (n:Int)) by omega)];simp
    have am:∀j:Int,0≤j→j < (l.length:Int)→rd ρ a≤rd ρ j:=fun j h0 h1=>by
      have f:=free (-1) j h0 h1 (by omega)
      exact (na j f.2 f.1).2
    have bm:∀j:Int,0≤j→j < (l.length:Int)→j ≠ a→rd ρ b≤rd ρ j:=fun j h0 h1 hj=>by
      have f:=free a j h0 h1 hj
      exact (nb' j f.2 f.1).2
    have ma':=hm a ha.1 ha.2
    have mb':=hm b hb.1 hb.2
    have ab:=am b hb.1 hb.2
    by_cases cse:rd ρ b = m
    · refine ⟨m,m0,fun j h0 h1=>?_⟩
      have mj:=hm j h0 h1
      rw [r2 j h0 h1]
      by_cases e1:a = j
      · subst e1;rw [if_pos rfl,if_neg b0];omega
      · rw [if_neg e1]
        by_cases e2:b = j
        · subst e2;rw [if_pos rfl];omega
        · rw [if_neg e2];omega
    · refine ⟨m+1,by omega,fun j h0 h1=>?_⟩
      have mj:=hm j h0 h1
      rw [r2 j h0 h1]
      by_cases e1:a = j
      · subst e1;rw [if_pos rfl,if_neg b0];omega
      · have:=bm j h0 h1 (fun e=>e1 e.symm)
        rw [if_neg e1]
        by_cases e2:b = j
        · subst e2;rw [if_pos rfl];omega
        · rw [if_neg e2];omega
theorem asN_goo {l:List S26} {c0 o:List Int} (hid:idP 0 l = true) (ho:isP l.length o):∀(d p:Nat) (ρ:List Int) (out a:List S44),p+d = c0.length→Goo l c0 ρ out p→asN l o (c0.drop p) ρ out = some a→∃ ρ',Goo l c0 ρ' a c0.length:=by
  intro d
  induction d with
  | zero =>
    intro p ρ out a hp h e
    rw [List.drop_eq_nil_of_le (by omega),asN] at e
    cases e
    rw [show p = c0.length by omega] at h
    exact ⟨ρ,h⟩
  | succ d ih =>
    intro p ρ out a hp h e
    have hlt:p < c0.length:=by omega
    rw [drop_rd hlt,asN] at e
    by_cases ha:lsN l ρ (rd c0 (p:Int)) (-1) o (-1) < 0
    · rw [if_pos ha] at e;cases e
    · rw [if_neg ha] at e
      by_cases hb:lsN l ρ (rd c0 (p:Int)) (lsN l ρ (rd c0 (p:Int)) (-1) o (-1)) o (-1) < 0
      · rw [if_pos hb] at e;cases e
      · rw [if_neg hb] at e
        exact ih (p+1) _ _ a (by omega) (h.step hid ho hlt ha hb) e
theorem rErr_ok:∀{l:List S26},rErr l = 0→∀ r∈l,0≤r.f1∧r.f1≤200
  | [],_,r,hr=>by cases hr
  | x :: l,h,r,hr=>by
    rw [rErr] at h
    by_cases c1:x.f1 < 0∨200 < x.f1
    · rw [if_pos c1] at h;omega
    · rw [if_neg c1] at h
      by_cases c2:200 < x.f2.length
      · rw [if_pos c2] at h;omega
      · rw [if_neg c2] at h
        by_cases c3:risP 0 x.f2 = true
        · rw [if_pos c3] at h
          rcases List.mem_cons.1 hr with rfl | hr
          · omega
          · exact rErr_ok h r hr
        · rw [if_neg c3] at h;omega
theorem goo_start {l:List S26} (c0:List Int) (hr:rErr l = 0):Goo l c0 (List.replicate l.length 0) [] 0:=by
  have z:∀i:Int,0≤i→i < (l.length:Int)→rd (List.replicate l.length (0:Int)) i = 0:=fun i h0 h1=>by
    obtain ⟨m,rfl⟩: ∃ m:Nat,i = (m:Int):=⟨i.toNat,by omega⟩
    rw [rd_lt (by rw [List.length_replicate];omega)];simp
  refine ⟨Inv.start l,fun i h=>by omega,fun i h=>by omega,fun i h=>by omega,fun j h0 h1=>?_,fun j h0 h1=>by rw [z j h0 h1];omega,fun _=>⟨0,by omega,fun j h0 h1=>by rw [z j h0 h1];omega⟩⟩
  obtain ⟨n,rfl⟩: ∃ n:Nat,j = (n:Int):=⟨j.toNat,by omega⟩
  have hmem:rd_T26 l (n:Int)∈l:=by rw [gR_lt (show n < l.length by omega)];exact List.getElem_mem _
  have:=rErr_ok hr _ hmem
  rw [z _ h0 h1];omega
theorem fidx_hit (id:Int):∀(l:List S26) (i:Int),(∃ x∈l,x.f0 = id)→∃ (m:Nat) (hm:m < l.length),fidx id l i = i+(m:Int)∧(l[m]).f0 = id
  | [],_,⟨x,hx,_⟩=>by cases hx
  | y :: l,i,⟨x,hx,e⟩=>by
    rw [fidx]
    by_cases c:y.f0 = id
    · rw [if_pos c];exact ⟨0,by simp,by simp,by simpa using c⟩
    · rw [if_neg c]
      rcases List.mem_cons.1 hx with rfl | hx
      · exact absurd e c
      · obtain ⟨m,hm,h1,h2⟩:=fidx_hit id l (i+1) ⟨x,hx,e⟩
        exact ⟨m+1,by simpa using hm,by rw [h1];omega,by simpa using h2⟩
theorem goo_chk {l:List S26} {c0 ρ:List Int} {a:List S44} (g:gvErr l c0 = 0) (h:Goo l c0 ρ a c0.length):chkN l c0 a = 0:=by
  obtain ⟨h20,hc,hid,hr,_⟩:=gv_ok g
  have hlen:a.length = 2 * c0.length:=h.inv.out
  have k1:∀d i:Nat,i+d = a.length→candOk c0 a d i = true:=by
    intro d
    induction d with
    | zero=>intro i _;rw [candOk]
    | succ d ih=>intro i hi;rw [candOk,decide_eq_true (h.can i (by omega)),Bool.true_and];exact ih (i+1) (by omega)
  have k2:∀i:Nat,i < a.length→asgN l a i = 0:=by
    intro i hi
    obtain ⟨j,hj,e,m⟩:=h.may i (by omega)
    obtain ⟨q,rfl⟩: ∃ q:Nat,j = (q:Int):=⟨j.toNat,by omega⟩
    have hq:q < l.length:=by omega
    obtain ⟨t,ht,e1,e2⟩:=fidx_hit (rd_T44 a (i:Int)).f1 l 0 ⟨l[q],List.getElem_mem hq,by rw [← gR_lt hq];exact e.symm⟩
    have et:(t:Int) = (q:Int):=id_ix hid (by omega) hj (by rw [gR_lt ht,e2,e])
    unfold asgN
    rw [e1,Int.zero_add,if_neg (by omega),et,if_pos m]
    by_cases o:i % 2 = 1
    · rw [if_pos o,if_neg (h.two i (by omega) o)]
    · rw [if_neg o]
  have k3:∀d i:Nat,i+d = a.length→asgs l a d i = 0:=by
    intro d
    induction d with
    | zero=>intro i _;rw [asgs]
    | succ d ih=>intro i hi;rw [asgs,if_pos (k2 i (by omega))];exact ih (i+1) (by omega)
  have k4:∀d i:Nat,i+d = l.length→over a (l.drop i) = false:=by
    intro d
    induction d with
    | zero=>intro i hi;rw [List.drop_eq_nil_of_le (by omega),over]
    | succ d ih =>
      intro i hi
      rw [drop_R (show i < l.length by omega),over,ih (i+1) (by omega),Bool.or_false]
      have h1:=h.inv.eq (i:Int) (by omega) (by omega)
      have h2:=h.cap (i:Int) (by omega) (by omega)
      exact decide_eq_false (by omega)
  have k5:=k4 l.length 0 (by omega)
  rw [List.drop_zero] at k5
  unfold chkN
  rw [if_pos g,if_pos hlen,if_pos (k1 a.length 0 (by omega)),if_pos (k3 a.length 0 (by omega)),k5,if_neg (by simp)]
theorem bal_l1 {l:List S26} {c0 ρ:List Int} {a:List S44} (h20:l.length≤20) (hc:c0.length≤200) (h:Goo l c0 ρ a c0.length):∀(d i:Nat) (lo hi:Int),i+d = l.length→0≤lo→lo≤1000→0≤hi→hi≤1000→(easyB l (c0.length:Int) = true→∃ m:Int,(0≤m∧∀ j:Int,0≤j→j < (l.length:Int)→m≤rd ρ j∧rd ρ j≤m+1)∧m≤lo∧hi≤m+1) →
    Ev (fun k=>U4.l1 k l c0 a lo hi (i:Int)) true:=by
  have hlen:a.length = 2 * c0.length:=h.inv.out
  intro d
  induction d with
  | zero =>
    intro i lo hi hi' l0 l1 h0 h1 hE
    have hw:wrap64 (hi - lo) = hi - lo:=by rw [w64] <;> omega
    refine Ev.succ ?_
    simp only [U4.l1,show ¬ ((i:Int) < (l.length:Int)) by omega,if_false,hw]
    by_cases c:hi - lo≤1
    · simp only [if_pos c];exact Ev.mapb awake_ev rfl
    · simp only [if_neg c]
      refine Ev.bind (easy_ev h20 _) ?_
      by_cases e:easyB l (c0.length:Int) = true
      · obtain ⟨m,_,m1,m2⟩:=hE e;omega
      · simp only [e,Bool.false_eq_true,if_false];exact Ev.mapb awake_ev rfl
  | succ d ih =>
    intro i lo hi hi' l0 l1 h0 h1 hE
    have hlt:i < l.length:=by omega
    have hw:wrap64 ((i:Int)+1) = ((i+1:Nat):Int):=by rw [w64] <;> omega
    have e1:=h.inv.eq (i:Int) (by omega) (by omega)
    have e2:=h.cap (i:Int) (by omega) (by omega)
    have e3:=ld_le a (rd_T26 l (i:Int)).f0
    refine Ev.succ ?_
    simp only [U4.l1,show (i:Int) < (l.length:Int) by omega,show (0:Int)≤(i:Int) by omega,if_true,hw]
    refine Ev.bind (load_ev (by omega) _) ?_
    simp only [show ¬ (ld a (rd_T26 l (i:Int)).f0 > (rd_T26 l (i:Int)).f1) by omega,if_false]
    have m1:0≤mn lo (ld a (rd_T26 l (i:Int)).f0)∧mn lo (ld a (rd_T26 l (i:Int)).f0)≤1000:=by unfold mn;split <;> omega
    have m2:0≤mx hi (ld a (rd_T26 l (i:Int)).f0)∧mx hi (ld a (rd_T26 l (i:Int)).f0)≤1000:=by unfold mx;split <;> omega
    refine ih (i+1) _ _ (by omega) m1.1 m1.2 m2.1 m2.2 (fun e=>?_)
    obtain ⟨m,hm,q1,q2⟩:=hE e
    have:=hm.2 (i:Int) (by omega) (by omega)
    refine ⟨m,hm,?_,?_⟩
    · unfold mn;split <;> omega
    · unfold mx;split <;> omega
theorem bal_l0 {l:List S26} {c0 ρ:List Int} {a:List S44} (h20:l.length≤20) (hc:c0.length≤200) (h:Goo l c0 ρ a c0.length):∀d i:Nat,i+d = a.length→Ev (fun k=>U4.l0 k l c0 a (i:Int)) true:=by
  have hlen:a.length = 2 * c0.length:=h.inv.out
  intro d
  induction d with
  | zero =>
    intro i hi
    refine Ev.succ ?_
    simp only [U4.l0,show ¬ ((i:Int) < (a.length:Int)) by omega,if_false]
    refine bal_l1 h20 hc h l.length 0 _ _ (by omega) (by omega) (by omega) (by omega) (by omega) (fun e=>?_)
    obtain ⟨m,m0,hm⟩:=h.bal e
    by_cases z:l.length = 0
    · exact ⟨0,⟨by omega,fun j h0 h1=>by omega⟩,by omega,by omega⟩
    · have k1:=hm 0 (by omega) (by omega)
      have k2:=h.inv.eq 0 (by omega) (by omega)
      have k3:=ld_le a (rd_T26 l 0).f0
      exact ⟨m,⟨m0,hm⟩,by omega,by omega⟩
  | succ d ih =>
    intro i hi
    have hlt:i < a.length:=by omega
    have hw:wrap64 ((i:Int)+1) = ((i+1:Nat):Int):=by rw [w64] <;> omega
    have hw2:wrap64 ((i / 2:Nat):Int) = ((i / 2:Nat):Int):=by rw [w64] <;> omega
    have hn:=ih (i+1) (by omega)
    have hcan:=h.can i (by omega)
    refine Ev.succ ?_
    simp only [U4.l0,show (i:Int) < (a.length:Int) by omega,show (0:Int)≤(i:Int) by omega,if_true,hw,tdiv2,tmod2,hw2,show (0:Int)≤((i / 2:Nat):Int) by omega,show ((i / 2:Nat):Int) < (c0.length:Int) by omega,hcan]
    by_cases o:i % 2 = 1
    · have hw1:wrap64 ((i:Int) - 1) = ((i - 1:Nat):Int):=by rw [w64] <;> omega
      have ht:=h.two i (by omega) o
      simp only [show ((i % 2:Nat):Int) = 1 by omega,if_true,hw1,show (0:Int)≤((i - 1:Nat):Int) by omega,show ((i - 1:Nat):Int) < (a.length:Int) by omega,if_neg (Ne.symm ht)]
      exact hn
    · simp only [show ¬ (((i % 2:Nat):Int) = 1) by omega,if_false];exact hn
theorem assign_cases (l:List S26) (c:List Int) (d:Int):(gvErr l c = 0∧∃ ρ a,Goo l c ρ a c.length∧(assignN l c d).1 = a∧(assignN l c d).2.2 = 0)∨((assignN l c d).2.2 ≠ 0∧(assignN l c d).1 = []):=by
  unfold assignN
  by_cases g:gvErr l c = 0
  · rw [if_pos g]
    obtain ⟨h20,hc,hid,hr,_⟩:=gv_ok g
    cases e:asN l (shufN d l.length).1 c (List.replicate l.length 0) [] with
    | none=>right;rw [ansA];exact ⟨by show (14:Int) ≠ 0;decide,rfl⟩
    | some a =>
      left
      obtain ⟨ρ,h⟩:=asN_goo (c0:=c) hid (shufN_isP (n:=l.length) (by omega) d) c.length 0 _ [] a (by omega) (goo_start c hr) (by rw [List.drop_zero];exact e)
      exact ⟨g,ρ,a,h,by rw [ansA],by rw [ansA]⟩
  · rw [if_neg g];right;exact ⟨g,rfl⟩
theorem RatersBalanced (l0:(List S26)) (l1:(List Int)) (a2:Int) (h0:wf22 l0) (h1:wf23 l1) (h2:(Lit.int .u64 a2).wf = true):∃ k,U4.f k l0 l1 a2 = some true:=by
  have hb:∀r∈l0,r.f2.length≤4611686018427387904:=fun r hr=>by have:=(h0.2 r hr).2.2.1;omega
  have hc:l1.length≤4611686018427387904:=by have:=h1.1;omega
  have hl:=assignN_len l0 l1 a2
  refine Ev.rounds ?_
  unfold U4.f
  refine Ev.bind (assign_ev hb hc a2) ?_
  rcases assign_cases l0 l1 a2 with ⟨g,ρ,a,h,e1,e2⟩ | ⟨e1,e2⟩
  · obtain ⟨h20,hc2,_⟩:=gv_ok g
    have hlen:a.length = 2 * l1.length:=h.inv.out
    have hw:wrap64 (2 * (l1.length:Int)) = 2 * (l1.length:Int):=by rw [w64] <;> omega
    rw [e1] at hl
    simp only [e1,e2,if_true]
    refine Ev.bind (chk_ev hb hc (by omega)) ?_
    rw [goo_chk g h]
    simp only [if_true,hw,show (a.length:Int) = 2 * (l1.length:Int) by omega,bne_self_eq_false]
    refine Ev.succ ?_
    simp only [U4.j0,Bool.false_eq_true,if_false]
    exact bal_l0 h20 hc2 h a.length 0 (by omega)
  · simp only [e2,if_neg e1,List.length_nil,show (((0:Nat):Int) = 0) by omega,if_true]
    exact Ev.mapb awake_ev rfl
end Go.Proofs.YtnimkmkapajnhaaDoor.Pure
