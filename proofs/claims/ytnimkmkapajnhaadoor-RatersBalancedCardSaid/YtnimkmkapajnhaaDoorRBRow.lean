import Derived.Test.YtnimkmkapajnhaaDoorRBW
import Derived.Deep.Slices
import Derived.SizedLaws
set_option linter.unusedVariables false
namespace Go.Proofs.YtnimkmkapajnhaaDoorW.PrintMore
open Go.RowKit Go.Proofs.YtnimkmkapajnhaaDoorW.PrintWords Go.Proofs.YtnimkmkapajnhaaDoorW.PrintLast
namespace Kd
open Go.Proofs.YtnimkmkapajnhaaDoorW.PrintWords.Kd
section
variable {H:Type} {enc:TypeId × Value→H} {P:Program} {w:World} {α β γ:Type} {off:Nat} {d:Kd α} {d1:Kd β} {wf:α→Prop} {wf1:β→Prop} {t e:TypeId}
def Opens (enc:TypeId × Value→H) (P:Program) (w:World) (d:Kd α) (wf:α→Prop) (t:TypeId):Prop :=
  ∀ (fuel:Nat) (cs:List Value) (x:DataW H × List MemPlace),DataW.trod enc P w 0 (fun _=>true) true fuel t cs = some x→(∀ n∈x.1.weights P t,n≤reachBytes)→∃ a,d.K w a cs∧wf a
theorem Opens.int {k:IntKind} (ht:P.underlying t = some (.int k)):Opens enc P w (Kd.int k) (fun n=>(Lit.int k n).wf = true) t:=by
  intro fuel cs x h _
  obtain ⟨n,rfl,_,hw⟩:=DataW.trod_int ht h
  exact ⟨n,rfl,hw⟩
theorem Opens.bool (ht:P.underlying t = some .bool):Opens enc P w Kd.bool (fun _=>True) t:=by
  intro fuel cs x h _
  obtain ⟨n,rfl,_⟩:=DataW.trod_bool ht h
  exact ⟨n,rfl,trivial⟩
theorem Opens.string (ht:P.underlying t = some .string):Opens enc P w Kd.string (fun s=>s.size≤140737488351232) t:=by
  intro fuel cs x h hw
  obtain ⟨s,rfl,rfl,_⟩:=DataW.trod_string ht h
  refine ⟨s,rfl,?_⟩
  have:=hw s.data.toList.length (by simp [DataW.weights])
  simpa [reachBytes] using this
theorem qD {l:List (DataW H)} {x:DataW H} (hx:x∈l) {n:Nat} (hn:n∈x.weights P e):n∈DataW.weightsAll P e l:=by
  induction l with
  | nil=>cases hx
  | cons y l ih =>
    rw [DataW.weightsAll,List.mem_append]
    rcases List.mem_cons.1 hx with rfl | hx
    · exact .inl hn
    · exact .inr (ih hx)
theorem Opens.slice (ht:P.underlying t = some (.slice e)) (hc:P.cellsOf e = d.sz) (B:Nat) (hB:P.bytesOf e = B) (h:Opens enc P w d wf e):Opens enc P w (Kd.slice e d) (fun xs=>xs.length * B≤140737488351232∧∀ x∈xs,wf x) t:=by
  intro fuel cs x h0 hw
  rcases Go.Deep.open_slice ht h0 with ⟨rfl,rfl⟩ | ⟨a,len,cap,m,n,D,Pl,rfl,_,hl,hm,hmm,rfl,hx⟩
  · exact ⟨[],⟨none,0,rfl,Nat.le_refl _,Kd.C_nil d w⟩,by simp⟩
  · have hlm:len≤m:=by rw [hmm];split <;> omega
    have hw1:(len+(m - len)) * B≤reachBytes:=by
      have:=hw ((len+(m - len)) * P.bytesOf e) (by simp [DataW.weights,ht])
      rwa [hB] at this
    have hw2:len * B≤140737488351232:=Nat.le_trans (Nat.mul_le_mul_right _ (show len≤len+(m - len) by omega)) hw1
    have each:∀i,i < len→∃ x:α,(∃ cs',w.cells? 0 (a.add (i * d.sz)) d.sz = some cs'∧d.K w x cs')∧wf x:=by
      intro i hi
      obtain ⟨cs',h1,h2⟩:=hx i (by omega)
      rw [hc] at h1
      obtain ⟨x,hk,hwf⟩:=h n cs' _ h2 (fun n hn=>hw n (by
        simp only [DataW.weights,ht,List.mem_cons,List.mem_append]
        exact .inr (.inl (qD (List.mem_map.2 ⟨i,List.mem_range.2 hi,rfl⟩) hn))))
      exact ⟨x,⟨cs',h1,hk⟩,hwf⟩
    have:∃ xs:List α,xs.length = len∧∀ (i:Nat) (x:α),xs[i]? = some x→(∃ cs',w.cells? 0 (a.add (i * d.sz)) d.sz = some cs'∧d.K w x cs')∧wf x:=by
      clear hw hw1 hw2 hx h0 hmm hlm hl
      induction len with
      | zero=>exact ⟨[],rfl,fun i x hi=>by simp at hi⟩
      | succ len ih =>
        obtain ⟨xs,hlen,hxs⟩:=ih (fun i hi=>each i (by omega))
        obtain ⟨x,hx1,hx2⟩:=each len (by omega)
        refine ⟨xs ++ [x],by simp [hlen],fun i y hy=>?_⟩
        rcases Nat.lt_or_ge i xs.length with hi | hi
        · rw [List.getElem?_append_left hi] at hy;exact hxs i y hy
        · rw [List.getElem?_append_right hi] at hy
          have h0:i - xs.length = 0:=by
            by_cases hz:i - xs.length = 0
            · exact hz
            · rw [List.getElem?_eq_none (by simp;omega)] at hy;exact absurd hy (by simp)
          rw [h0] at hy
          have:x = y:=by simpa using hy
          subst this
          have:i = len:=by omega
          subst this
          exact ⟨hx1,hx2⟩
    obtain ⟨xs,hlen,hxs⟩:=this
    subst hlen
    refine ⟨xs,⟨some a,cap,rfl,hl,rfl,by simp only [maxLen] at hm;omega,fun _=>⟨a,rfl,fun j p hj=>?_⟩⟩,hw2,fun x hx=>?_⟩
    · obtain ⟨⟨cs',h1,h2⟩,_⟩:=hxs j p hj
      obtain ⟨_,hl',hc'⟩:=World.cells?_some h1
      refine ⟨cs',hl',h2,fun i u hu=>?_⟩
      have hi:i < d.sz:=by rw [← hl'];exact (List.getElem?_eq_some_iff.1 hu).1
      have:=hc' i hi
      rw [Go.Deep.add_add] at this
      rw [this,hu]
    · obtain ⟨i,hi,rfl⟩:=List.getElem_of_mem hx
      exact (hxs i _ (List.getElem?_eq_getElem hi)).2
def OpensF (enc:TypeId × Value→H) (P:Program) (w:World) (d:Kd α) (wf:α→Prop) (fs:List Field) (off:Nat):Prop :=
  ∀ (n:Nat) (cs:List Value) (xs:List (DataW H × List MemPlace)),xs.length = fs.length→(∀ (i:Nat) (f:Field),fs[i]? = some f→DataW.trod enc P w 0 (fun _=>true) true n f.type ((cs.drop f.offset).take (P.cellsOf f.type)) = xs[i]?) →
    (∀ m∈DataW.weightsEach P (fs.map (·.type)) (xs.map (·.1)),m≤reachBytes)→∃ a,d.K w a ((cs.drop off).take d.sz)∧wf a
theorem OpensF.one {f:Field} (ho:f.offset = off) (hc:P.cellsOf f.type = d.sz) (h:Opens enc P w d wf f.type):OpensF enc P w d wf [f] off:=by
  intro n cs xs hl hx hw
  match xs,hl with
  | [x],_ =>
    have h1:=hx 0 f rfl
    rw [ho,hc] at h1
    exact h n _ x h1 (fun m hm=>hw m (by simp only [List.map_cons,List.map_nil,DataW.weightsEach,List.mem_append];exact .inl hm))
theorem OpensF.cons {f:Field} {fs:List Field} (ho:f.offset = off) (hc:P.cellsOf f.type = d.sz) (h:Opens enc P w d wf f.type) (h1:OpensF enc P w d1 wf1 fs (off+d.sz)):OpensF enc P w (Kd.pair d d1) (fun x=>wf x.1∧wf1 x.2) (f :: fs) off:=by
  intro n cs xs hl hx hw
  match xs,hl with
  | x :: xs,hl =>
    have h2:=hx 0 f rfl
    rw [ho,hc] at h2
    obtain ⟨a,hK,hwf⟩:=h n _ x h2 (fun m hm=>hw m (by simp only [List.map_cons,DataW.weightsEach,List.mem_append];exact .inl hm))
    obtain ⟨b,hK1,hwf1⟩:=h1 n cs xs (by simpa using hl) (fun i g hg=>hx (i+1) g (by simpa using hg)) (fun m hm=>hw m (by simp only [List.map_cons,DataW.weightsEach,List.mem_append];exact .inr hm))
    refine ⟨(a,b),⟨_,_,?_,hK,hK1⟩,hwf,hwf1⟩
    show (cs.drop off).take (d.sz+d1.sz) = _
    rw [List.take_add,List.drop_drop]
theorem Opens.struct {fs:Array Field} (ht:P.underlying t = some (.struct fs)) (hc:P.cellsOf t = d.sz) (h:OpensF enc P w d wf fs.toList 0):Opens enc P w d wf t:=by
  intro fuel cs x h0 hw
  obtain ⟨xs,n,_,rfl,hl,hxl,hx⟩:=DataW.trod_struct ht h0
  obtain ⟨a,hK,hwf⟩:=h n cs xs (by simpa using hxl) (fun i f hf=>hx i f (by simpa using hf)) (fun m hm=>hw m (by simp only [DataW.weights,ht];exact hm))
  rw [List.drop_zero,List.take_of_length_le (by rw [hl,hc];exact Nat.le_refl _)] at hK
  exact ⟨a,hK,hwf⟩
theorem Opens.iso {f:β→α} (g:α→β) (hg:∀a,f (g a) = a) (h:Opens enc P w d wf t):Opens enc P w (Kd.iso d f) (fun x=>wf (f x)) t:=by
  intro fuel cs x h0 hw
  obtain ⟨a,hK,hwf⟩:=h fuel cs x h0 hw
  exact ⟨g a,(show d.K w (f (g a)) cs by rw [hg];exact hK),(show wf (f (g a)) by rw [hg];exact hwf)⟩
theorem Opens.imp {wf' : α→Prop} (h:Opens enc P w d wf t) (hi:∀a,wf a→wf' a):Opens enc P w d wf' t:=fun fuel cs x h0 hw =>
  let ⟨a,hK,hwf⟩:=h fuel cs x h0 hw
  ⟨a,hK,hi a hwf⟩
theorem Opens.arg_slice {r:Reach} {b0:Nat} {wf2:List α→Prop} {v:Value} {dd:DataW H} {ps:List MemPlace} (h:Opens enc P w (Kd.slice e d) wf2 t) (hu:P.underlying t = some (.slice e)) (hv:Value.okWide P w r b0 t v) (h0:DataW.Trod enc P w 0 (fun _=>true) true t v dd ps) (hw:∀n∈dd.weights P t,n≤reachBytes) :
    ∃ xs A c,v = .slice A xs.length c∧xs.length≤c∧d.C w A xs.length xs∧wf2 xs:=by
  obtain ⟨m,hm⟩:=h0
  obtain ⟨xs,⟨A,c,h1,h2,h3⟩,h4⟩:=h m _ _ hm hw
  obtain ⟨A',l',c',rfl⟩:=Go.WideShapes.okWide_slice hu hv
  have h1' : [Value.slice A' l' c'] = [Value.slice A xs.length c]:=h1
  injection h1' with h1'
  exact ⟨xs,A,c,h1',h2,h3,h4⟩
theorem weights_at {ts:List TypeId} {ds:List (DataW H)} (h:(DataW.weightsEach P ts ds).all (·≤reachBytes) = true) {j:Nat} {dd:DataW H} (ht:ts[j]? = some t) (hd:ds[j]? = some dd):∀n∈dd.weights P t,n≤reachBytes:=fun n hn=>by
  have:=List.all_eq_true.1 h n (DataW.weights_mem_each ht hd n hn)
  simpa using this
end
end Kd
end Go.Proofs.YtnimkmkapajnhaaDoorW.PrintMore
