import Derived.Test.YtnimkmkapajnhaaDoorRTQAx13
import Derived.Test.YtnimkmkapajnhaaDoorRTQAx28
import Derived.Test.YtnimkmkapajnhaaDoorRTQAx29
import Derived.Test.YtnimkmkapajnhaaDoorRTRtC
set_option linter.unusedVariables false
set_option linter.unusedSimpArgs false
namespace Go.Proofs.YtnimkmkapajnhaaDoor.Pure
open Go.RowKit Go.Proofs.YtnimkmkapajnhaaDoorW.PrintWords Go.Proofs.YtnimkmkapajnhaaDoorW.PrintLast Go.Proofs.YtnimkmkapajnhaaDoorW.PrintMore Go.Proofs.YtnimkmkapajnhaaDoor.QA
def two:List S44→Int→List Int
  | [],_=>[]
  | x :: l,c=>if x.f0 = c then x.f1 :: two l c else two l c
def elig (a:List S44) (c:Int) (r:S26):Bool:=mayB r.f2 c && (decide (¬ r.f0∈two a c) && decide (ld a r.f0 < r.f1))
def bet (a:List S44) (r:S26):Option S26→Option S26
  | none=>some r
  | some b0=>if ld a r.f0 < ld a b0.f0 then some r else some b0
def pk (a:List S44) (c:Int):List S26→Option S26→Option S26
  | [],b=>b
  | r :: l,b=>pk a c l (if elig a c r = true then bet a r b else b)
def res:Option S26→Int × Int
  | none=>(0,14)
  | some r=>(r.f0,0)
def thirdN (l:List S26) (a:List S44) (c:Int):Int × Int :=
  if vErr l = 0 then (if (two a c).length = 2 then res (pk a c l none) else (0,6)) else (0,vErr l)
theorem idP_mem:∀{p:Int} {l:List S26},idP p l = true→∀ r∈l,p < r.f0∧1≤r.f0∧r.f0≤9999999
  | _,[],_,r,hr=>by cases hr
  | p,x :: l,h,r,hr=>by
    rw [idP,Bool.and_eq_true,decide_eq_true_eq] at h
    rcases List.mem_cons.1 hr with rfl | hr
    · exact ⟨h.1.2.2,h.1.1,h.1.2.1⟩
    · have:=idP_mem h.2 r hr;omega
theorem v_ok {l:List S26} (h:vErr l = 0):l.length≤20∧idP 0 l = true∧rErr l = 0:=by
  unfold vErr at h
  by_cases h1:20 < l.length
  · rw [if_pos h1] at h;omega
  · rw [if_neg h1] at h
    by_cases h2:idP 0 l = true
    · rw [if_pos h2] at h;exact ⟨by omega,h2,h⟩
    · rw [if_neg h2] at h;omega
theorem two_len:∀(a:List S44) (c:Int),(two a c).length≤a.length
  | [],c=>by rw [two];exact Nat.le_refl _
  | x :: l,c=>by
    have:=two_len l c
    rw [two];split <;> simp only [List.length_cons] <;> omega
def bid:Option S26→Int
  | none=>0
  | some r=>r.f0
def bld (a:List S44):Option S26→Int
  | none=>0
  | some r=>ld a r.f0
theorem th_l1 {l:List S26} {a:List S44} (h20:l.length≤20) (hid:idP 0 l = true) (hb:∀r∈l,r.f2.length≤4611686018427387904) (ha:a.length≤4611686018427387904) (c:Int):∀(d i:Nat) (b:Option S26),i+d = l.length→(∀ r,b = some r→1≤r.f0) →
    Ev (fun k=>U37.l1 k a c (two a c) (bid b) (bld a b) l (l.length:Int) (i:Int)) (res (pk a c (l.drop i) b)):=by
  intro d
  induction d with
  | zero =>
    intro i b hi hB
    rw [List.drop_eq_nil_of_le (by omega),pk]
    refine Ev.succ ?_
    simp only [U37.l1,show ¬ ((i:Int) < (l.length:Int)) by omega,if_false]
    cases b with
    | none=>simp only [bid,if_true];exact Ev.now _
    | some r =>
      have:=hB r rfl
      simp only [bid,show ¬ (r.f0 = 0) by omega,if_false];exact Ev.now _
  | succ d ih =>
    intro i b hi hB
    have hlt:i < l.length:=by omega
    have hw:wrap64 ((i:Int)+1) = ((i+1:Nat):Int):=by rw [w64] <;> omega
    have hmem:rd_T26 l (i:Int)∈l:=by rw [gR_lt hlt];exact List.getElem_mem hlt
    have hbi:=hb _ hmem
    have hpos:=(idP_mem hid _ hmem).2.1
    have htl:(two a c).length≤4611686018427387904:=Nat.le_trans (two_len a c) ha
    rw [drop_R hlt,pk]
    have hn:=fun b' hB'=>ih (i+1) b' (by omega) hB'
    refine Ev.succ ?_
    simp only [U37.l1,show (i:Int) < (l.length:Int) by omega,show (0:Int)≤(i:Int) by omega,if_true,hw]
    generalize rd_T26 l (i:Int) = r at *
    refine Ev.bind (load_ev ha _) (Ev.bind (may_ev _ _ hbi _) ?_)
    by_cases m:mayB r.f2 c = true
    · simp only [if_pos m]
      refine Ev.bind (cont_ev htl _) ?_
      by_cases t:r.f0∈two a c
      · simp only [decide_eq_true t,if_true]
        rw [if_neg (by unfold elig;rw [decide_eq_false (fun h=>h t)];simp)]
        exact hn b hB
      · simp only [decide_eq_false t,Bool.false_eq_true,if_false]
        by_cases lt:ld a r.f0 < r.f1
        · simp only [if_pos lt]
          rw [if_pos (by unfold elig;rw [m,decide_eq_true t,decide_eq_true lt];rfl)]
          cases b with
          | none =>
            simp only [bid,if_true]
            rw [bet]
            exact hn (some r) (fun r' e=>by cases e;exact hpos)
          | some r0 =>
            have h0:=hB r0 rfl
            simp only [bid,bld,show ¬ (r0.f0 = 0) by omega,if_false]
            rw [bet]
            by_cases q:ld a r.f0 < ld a r0.f0
            · simp only [q,if_true];exact hn (some r) (fun r' e=>by cases e;exact hpos)
            · simp only [q,if_false];exact hn (some r0) hB
        · simp only [if_neg lt]
          rw [if_neg (by unfold elig;rw [decide_eq_false lt];simp)]
          exact hn b hB
    · simp only [if_neg m]
      rw [if_neg (by unfold elig;rw [Bool.eq_false_iff.2 m];simp)]
      exact hn b hB
theorem th_l0 {l:List S26} {a:List S44} (h20:l.length≤20) (hid:idP 0 l = true) (hb:∀r∈l,r.f2.length≤4611686018427387904) (ha:a.length≤8796093022208) (c:Int):∀(d i:Nat) (T:List Int),i+d = a.length→T ++ two (a.drop i) c = two a c→T.length≤i →
    Ev (fun k=>U37.l0 k l a c T a (a.length:Int) (i:Int)) (if (two a c).length = 2 then res (pk a c l none) else (0,6)):=by
  intro d
  induction d with
  | zero =>
    intro i T hi hT hl
    rw [List.drop_eq_nil_of_le (by omega),two,List.append_nil] at hT
    subst hT
    refine Ev.succ ?_
    simp only [U37.l0,show ¬ ((i:Int) < (a.length:Int)) by omega,if_false]
    by_cases e:(two a c).length = 2
    · simp only [show ((two a c).length:Int) = 2 by omega,if_true,if_pos e]
      have:=th_l1 h20 hid hb (show a.length≤4611686018427387904 by omega) c l.length 0 none (by omega) (fun r e=>by cases e)
      rw [List.drop_zero] at this
      exact this
    · simp only [show ¬ (((two a c).length:Int) = 2) by omega,if_false,if_neg e];exact Ev.now _
  | succ d ih =>
    intro i T hi hT hl
    have hlt:i < a.length:=by omega
    have hw:wrap64 ((i:Int)+1) = ((i+1:Nat):Int):=by rw [w64] <;> omega
    rw [drop_A hlt,two] at hT
    refine Ev.succ ?_
    simp only [U37.l0,show (i:Int) < (a.length:Int) by omega,show (0:Int)≤(i:Int) by omega,if_true,hw]
    by_cases e:(rd_T44 a (i:Int)).f0 = c
    · rw [if_pos e] at hT
      simp only [if_pos e,show T.length < 17592186044416 by omega,if_true]
      exact ih (i+1) _ (by omega) (by rw [List.append_assoc];exact hT) (by rw [List.length_append];simp;omega)
    · rw [if_neg e] at hT
      simp only [if_neg e]
      exact ih (i+1) T (by omega) hT (by omega)
theorem third_ev {l:List S26} (hb:∀r∈l,r.f2.length≤4611686018427387904) {a:List S44} (ha:a.length≤8796093022208) (c:Int):Ev (fun k=>U37.f k l a c) (thirdN l a c):=by
  unfold U37.f thirdN
  refine Ev.bind (val_ev hb) ?_
  by_cases g:vErr l = 0
  · simp only [if_pos g]
    obtain ⟨h1,h2,_⟩:=v_ok g
    exact th_l0 h1 h2 hb ha c a.length 0 [] (by omega) (by simp) (by simp)
  · simp only [if_neg g];exact Ev.now _
theorem asd_l0 {a:List S44} (ha:a.length≤8796093022208) (c id:Int):∀d i:Nat,i+d = a.length→Ev (fun k=>U10.l0 k a c id (i:Int)) (decide (id∈two (a.drop i) c)):=by
  intro d
  induction d with
  | zero =>
    intro i hi
    rw [List.drop_eq_nil_of_le (by omega),two]
    refine Ev.succ ?_
    simp only [U10.l0,show ¬ ((i:Int) < (a.length:Int)) by omega,if_false]
    exact evq (Ev.now _) (by simp)
  | succ d ih =>
    intro i hi
    have hlt:i < a.length:=by omega
    have hw:wrap64 ((i:Int)+1) = ((i+1:Nat):Int):=by rw [w64] <;> omega
    have hn:=ih (i+1) (by omega)
    rw [drop_A hlt,two]
    refine Ev.succ ?_
    simp only [U10.l0,show (i:Int) < (a.length:Int) by omega,show (0:Int)≤(i:Int) by omega,if_true,hw]
    by_cases e:(rd_T44 a (i:Int)).f0 = c
    · simp only [if_pos e]
      by_cases e' : (rd_T44 a (i:Int)).f1 = id
      · simp only [if_pos e'];exact evq (Ev.now _) (by simp [e'])
      · simp only [if_neg e']
        refine evq hn (decide_eq_decide.2 ?_)
        simp [Ne.symm e']
    · simp only [if_neg e];exact hn
theorem asd_ev {a:List S44} (ha:a.length≤8796093022208) (c id:Int):Ev (fun k=>U10.f k a c id) (decide (id∈two a c)):=by
  unfold U10.f
  have:=asd_l0 ha c id a.length 0 (by omega)
  rw [List.drop_zero] at this
  exact this
def bix (l:List S26) (b:Option S26) (n:Int):Prop:=(b = none∧n = -1)∨∃ m:Nat,n = (m:Int)∧m < l.length∧b = some (rd_T26 l (m:Int))
theorem rth_l1 {l:List S26} {a:List S44} (h20:l.length≤20) (hb:∀r∈l,r.f2.length≤4611686018427387904) (ha:a.length≤8796093022208) (c:Int):∀(d i:Nat) (b:Option S26) (n:Int),i+d = l.length→bix l b n →
    Ev (fun k=>U8.l1 k l a c n (i:Int)) (res (pk a c (l.drop i) b)):=by
  intro d
  induction d with
  | zero =>
    intro i b n hi hB
    rw [List.drop_eq_nil_of_le (by omega),pk]
    refine Ev.succ ?_
    simp only [U8.l1,show ¬ ((i:Int) < (l.length:Int)) by omega,if_false]
    rcases hB with ⟨rfl,rfl⟩ | ⟨m,rfl,hm,rfl⟩
    · simp only [show (-1:Int) < 0 by omega,if_true];exact Ev.now _
    · simp only [show ¬ ((m:Int) < 0) by omega,if_false,show (0:Int)≤(m:Int) by omega,show (m:Int) < (l.length:Int) by omega,if_true];exact Ev.now _
  | succ d ih =>
    intro i b n hi hB
    have hlt:i < l.length:=by omega
    have hw:wrap64 ((i:Int)+1) = ((i+1:Nat):Int):=by rw [w64] <;> omega
    have hmem:rd_T26 l (i:Int)∈l:=by rw [gR_lt hlt];exact List.getElem_mem hlt
    have hbi:=hb _ hmem
    have ha' : a.length≤4611686018427387904:=by omega
    rw [drop_R hlt,pk]
    have hn:=fun b' n' hB'=>ih (i+1) b' n' (by omega) hB'
    have hself:bix l (some (rd_T26 l (i:Int))) (i:Int):=.inr ⟨i,rfl,hlt,rfl⟩
    have stop:∀x y z,elig a c (rd_T26 l (i:Int)) = false→Ev (fun k=>U8.j2 k l a c n (i:Int) true x y z) (res (pk a c (l.drop (i+1)) (if elig a c (rd_T26 l (i:Int)) = true then bet a (rd_T26 l (i:Int)) b else b))):=by
      intro x y z he
      rw [he,if_neg (by simp)]
      refine Ev.succ ?_
      simp only [U8.j2,if_true,hw]
      exact hn b n hB
    refine Ev.succ ?_
    simp only [U8.l1,show (i:Int) < (l.length:Int) by omega,show (0:Int)≤(i:Int) by omega,if_true]
    refine Ev.bind (rmay_ev _ _ hbi _) ?_
    by_cases m:mayB (rd_T26 l (i:Int)).f2 c = true
    · simp only [if_pos m]
      refine Ev.bind (asd_ev ha _ _) ?_
      by_cases t:(rd_T26 l (i:Int)).f0∈two a c
      · simp only [decide_eq_true t,if_true]
        exact stop _ _ _ (by unfold elig;rw [decide_eq_false (fun h=>h t)];simp)
      · simp only [decide_eq_false t,Bool.false_eq_true,if_false]
        refine Ev.bind (rload_ev ha' _) ?_
        by_cases lt:ld a (rd_T26 l (i:Int)).f0 < (rd_T26 l (i:Int)).f1
        · simp only [decide_eq_false (show ¬ (ld a (rd_T26 l (i:Int)).f0 ≥ (rd_T26 l (i:Int)).f1) by omega)]
          rw [if_pos (by unfold elig;rw [m,decide_eq_true t,decide_eq_true lt];rfl)]
          refine Ev.succ ?_
          rcases hB with ⟨rfl,rfl⟩ | ⟨q,rfl,hq,rfl⟩
          · simp only [U8.j2,Bool.false_eq_true,if_false,show (-1:Int) < 0 by omega,if_true,hw]
            rw [bet]
            exact hn _ _ hself
          · simp only [U8.j2,Bool.false_eq_true,if_false,show ¬ ((q:Int) < 0) by omega,hw]
            refine Ev.bind (rload_ev ha' _) ?_
            simp only [show (0:Int)≤(q:Int) by omega,show (q:Int) < (l.length:Int) by omega,if_true]
            refine Ev.bind (rload_ev ha' _) ?_
            rw [bet]
            by_cases z:ld a (rd_T26 l (i:Int)).f0 < ld a (rd_T26 l (q:Int)).f0
            · simp only [if_pos z];exact hn _ _ hself
            · simp only [if_neg z];exact hn _ _ (.inr ⟨q,rfl,hq,rfl⟩)
        · simp only [decide_eq_true (show ld a (rd_T26 l (i:Int)).f0 ≥ (rd_T26 l (i:Int)).f1 by omega)]
          exact stop _ _ _ (by unfold elig;rw [decide_eq_false lt];simp)
    · simp only [if_neg m]
      exact stop _ _ _ (by unfold elig;rw [Bool.eq_false_iff.2 m];simp)
theorem rth_l0 {l:List S26} {a:List S44} (h20:l.length≤20) (hb:∀r∈l,r.f2.length≤4611686018427387904) (ha:a.length≤8796093022208) (c:Int):∀(d i:Nat) (n:Int),i+d = a.length→n+((two (a.drop i) c).length:Int) = ((two a c).length:Int)→0≤n→n≤(i:Int) →
    Ev (fun k=>U8.l0 k l a c n (i:Int)) (if (two a c).length = 2 then res (pk a c l none) else (0,6)):=by
  intro d
  induction d with
  | zero =>
    intro i n hi hT h0 hl
    rw [List.drop_eq_nil_of_le (by omega),two,List.length_nil] at hT
    refine Ev.succ ?_
    simp only [U8.l0,show ¬ ((i:Int) < (a.length:Int)) by omega,if_false]
    by_cases e:(two a c).length = 2
    · simp only [show n = 2 by omega,if_true,if_pos e]
      have:=rth_l1 h20 hb ha c l.length 0 none (-1) (by omega) (.inl ⟨rfl,rfl⟩)
      rw [List.drop_zero] at this
      exact this
    · simp only [show ¬ (n = 2) by omega,if_false,if_neg e];exact Ev.now _
  | succ d ih =>
    intro i n hi hT h0 hl
    have hlt:i < a.length:=by omega
    have hw:wrap64 ((i:Int)+1) = ((i+1:Nat):Int):=by rw [w64] <;> omega
    have hw2:wrap64 (n+1) = n+1:=by rw [w64] <;> omega
    rw [drop_A hlt,two] at hT
    refine Ev.succ ?_
    simp only [U8.l0,show (i:Int) < (a.length:Int) by omega,show (0:Int)≤(i:Int) by omega,if_true,hw,hw2]
    by_cases e:(rd_T44 a (i:Int)).f0 = c
    · rw [if_pos e,List.length_cons] at hT
      simp only [if_pos e]
      exact ih (i+1) _ (by omega) (by omega) (by omega) (by omega)
    · rw [if_neg e] at hT
      simp only [if_neg e]
      exact ih (i+1) n (by omega) hT h0 (by omega)
theorem rthird_ev {l:List S26} (hb:∀r∈l,r.f2.length≤4611686018427387904) {a:List S44} (ha:a.length≤8796093022208) (c:Int):Ev (fun k=>U8.f k l a c) (thirdN l a c):=by
  unfold U8.f thirdN
  refine Ev.bind (rval_ev hb) ?_
  by_cases g:vErr l = 0
  · simp only [if_pos g]
    obtain ⟨h1,h2,_⟩:=v_ok g
    exact rth_l0 h1 hb ha c a.length 0 0 (by omega) (by rw [List.drop_zero];omega) (by omega) (by omega)
  · simp only [if_neg g];exact Ev.now _
end Go.Proofs.YtnimkmkapajnhaaDoor.Pure
