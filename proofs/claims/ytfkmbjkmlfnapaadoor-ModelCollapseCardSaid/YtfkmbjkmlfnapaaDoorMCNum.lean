import Derived.Test.YtfkmbjkmlfnapaaDoorMCW
import Derived.Laws.BitsLemmas
set_option linter.unusedVariables false
namespace Go.Proofs.YtfkmbjkmlfnapaaDoor.Pure
open Go.RowKit Go.Proofs.YtfkmbjkmlfnapaaDoorW.PrintWords Go.Proofs.YtfkmbjkmlfnapaaDoorW.PrintLast Go.Proofs.YtfkmbjkmlfnapaaDoorW.PrintMore
theorem w64 {x:Int} (h0 : -9223372036854775808≤x) (h1:x≤9223372036854775807):wrap64 x = x:=by unfold wrap64;omega
theorem wrap_u64 (n:Int):IntKind.u64.wrap n = n % 18446744073709551616:=by simp [IntKind.wrap,IntKind.bits,IntKind.signed]
theorem wu {x:Int} (h0:0≤x) (h1:x < 18446744073709551616):IntKind.u64.wrap x = x:=by rw [wrap_u64];omega
theorem mask32 {x:Int} (h0:0≤x) (h1:x < 18446744073709551616):Go.bits .and .u64 x 4294967295 = x % 4294967296:=by
  have:=bits_mask .u64 64 (by decide) (fun n a b=>wu a (by simpa using b)) 32 (by decide) x h0 (by simpa using h1)
  simpa using this
theorem Ev.succ {α:Type} {g:Nat→Option α} {r:α} (h:Ev (fun k=>g (k+1)) r):Ev g r:=Ev.step (fun _=>rfl) h
theorem evq {α:Type} {g:Nat→Option α} {r r' : α} (h:Ev g r) (e:r = r'):Ev g r':=e ▸ h
theorem Ev.of_some {α:Type} {o:Option α} {r:α} (h:o = some r):Ev (fun _=>o) r:=⟨0,fun _ _=>h⟩
theorem Ev.mapb {α β:Type} {g:Nat→Option α} {a:α} {f:α→Option β} {r:β} (h:Ev g a) (e:f a = some r):Ev (fun k=>(g k).bind f) r:=Ev.bind h (Ev.of_some e)
theorem rd_nat (xs:List Int) (n:Nat):rd xs (n:Int) = xs.getD n 0:=by unfold rd;rw [Int.toNat_natCast]
theorem rd_lt {xs:List Int} {n:Nat} (h:n < xs.length):rd xs (n:Int) = xs[n]:=by rw [rd_nat];simp [List.getD,h]
def Lm (xs:List Int):Prop:=∀ x∈xs,0≤x∧x < 4294967296
theorem Lm.nil:Lm []:=fun _ h=>by cases h
theorem Lm.cons {x:Int} {xs:List Int} (h0:0≤x) (h1:x < 4294967296) (h:Lm xs):Lm (x :: xs):=fun y hy=>by
  rcases List.mem_cons.1 hy with rfl | hy
  · exact ⟨h0,h1⟩
  · exact h y hy
theorem Lm.take {xs:List Int} (h:Lm xs) (n:Nat):Lm (xs.take n):=fun x hx=>h x (List.mem_of_mem_take hx)
theorem Lm.append {xs ys:List Int} (h:Lm xs) (h' : Lm ys):Lm (xs ++ ys):=fun x hx=>(List.mem_append.1 hx).elim (h x) (h' x)
theorem Lm.snoc {xs:List Int} {y:Int} (h:Lm xs) (h0:0≤y) (h1:y < 4294967296):Lm (xs ++ [y]):=h.append (Lm.cons h0 h1 Lm.nil)
theorem Lm.set {xs:List Int} {y:Int} (h:Lm xs) (n:Nat) (h0:0≤y) (h1:y < 4294967296):Lm (xs.set n y):=fun x hx=>by
  rcases List.mem_or_eq_of_mem_set hx with hx | rfl
  · exact h x hx
  · exact ⟨h0,h1⟩
theorem Lm.zeros (n:Nat):Lm (List.replicate n 0):=fun x hx=>by rw [(List.mem_replicate.1 hx).2];omega
theorem Lm.rd_ {xs:List Int} (h:Lm xs) (i:Int):0≤rd xs i∧rd xs i < 4294967296:=by
  unfold rd
  by_cases hi:i.toNat < xs.length
  · have:xs.getD i.toNat 0 = xs[i.toNat]:=by simp [List.getD,hi]
    rw [this];exact h _ (List.getElem_mem hi)
  · have:xs.getD i.toNat 0 = 0:=by simp [List.getD,hi]
    rw [this];omega
def V:List Int→Nat
  | []=>0
  | x :: xs=>x.toNat+4294967296 * V xs
def toL (n:Nat):List Int:=if h:n = 0 then [] else ((n % 4294967296:Nat):Int) :: toL (n / 4294967296)
termination_by n
decreasing_by omega
theorem toL_zero:toL 0 = []:=by rw [toL];simp
theorem toL_pos {n:Nat} (h:n ≠ 0):toL n = ((n % 4294967296:Nat):Int) :: toL (n / 4294967296):=by rw [toL];simp [h]
theorem toL_Lm (n:Nat):Lm (toL n):=by
  induction n using Nat.strongRecOn with
  | _ n ih =>
    by_cases h:n = 0
    · subst h;rw [toL_zero];exact Lm.nil
    · rw [toL_pos h];exact Lm.cons (by omega) (by omega) (ih _ (by omega))
theorem V_toL (n:Nat):V (toL n) = n:=by
  induction n using Nat.strongRecOn with
  | _ n ih =>
    by_cases h:n = 0
    · subst h;rw [toL_zero];rfl
    · rw [toL_pos h,V,ih _ (by omega)];omega
theorem toL_nil {n:Nat} (h:toL n = []):n = 0:=by have:=V_toL n;rw [h] at this;exact this.symm
def Tr (xs:List Int):Prop:=∀ h:xs ≠ [],xs.getLast h ≠ 0
theorem toL_Tr (n:Nat):Tr (toL n):=by
  induction n using Nat.strongRecOn with
  | _ n ih =>
    by_cases h:n = 0
    · subst h;rw [toL_zero];intro h;exact absurd rfl h
    · rw [toL_pos h];intro _
      by_cases h1:n / 4294967296 = 0
      · have e:toL (n / 4294967296) = []:=by rw [h1,toL_zero]
        simp only [e,List.getLast_singleton];omega
      · have h2:toL (n / 4294967296) ≠ []:=fun e=>h1 (toL_nil e)
        rw [List.getLast_cons h2];exact ih _ (by omega) h2
theorem canon {xs:List Int} (h:Lm xs) (ht:Tr xs):xs = toL (V xs):=by
  induction xs with
  | nil=>rw [V,toL_zero]
  | cons x xs ih =>
    obtain ⟨h0,h1⟩:=h x List.mem_cons_self
    have hl:Lm xs:=fun y hy=>h y (List.mem_cons_of_mem _ hy)
    have ht' : Tr xs:=fun hne=>by have:=ht (by simp);rwa [List.getLast_cons hne] at this
    have e:=ih hl ht'
    have hv:V (x :: xs) ≠ 0:=by
      intro hz
      rw [V] at hz
      by_cases hxs:xs = []
      · subst hxs;have:=ht (by simp);simp at this;omega
      · have:V xs = 0:=by omega
        rw [this,toL_zero] at e;exact hxs e
    rw [toL_pos hv,V]
    have e1:(x.toNat+4294967296 * V xs) % 4294967296 = x.toNat:=by omega
    have e2:(x.toNat+4294967296 * V xs) / 4294967296 = V xs:=by omega
    rw [e1,e2,← e]
    congr 1;omega
theorem V_append (xs ys:List Int):V (xs ++ ys) = V xs+4294967296 ^ xs.length * V ys:=by
  induction xs with
  | nil=>simp [V]
  | cons x xs ih=>rw [List.cons_append,V,ih,V,List.length_cons,Nat.pow_succ,Nat.mul_add,← Nat.mul_assoc,Nat.mul_comm 4294967296 (4294967296 ^ xs.length)];omega
theorem V_zeros (n:Nat):V (List.replicate n 0) = 0:=by
  induction n with
  | zero=>rfl
  | succ n ih=>rw [List.replicate_succ,V,ih];rfl
theorem V_lt {xs:List Int} (h:Lm xs):V xs < 4294967296 ^ xs.length:=by
  induction xs with
  | nil=>simp [V]
  | cons x xs ih =>
    obtain ⟨h0,h1⟩:=h x List.mem_cons_self
    have:=ih (fun y hy=>h y (List.mem_cons_of_mem _ hy))
    rw [V,List.length_cons,Nat.pow_succ];omega
theorem V_lt_inv {n m:Nat} (h:n < 4294967296 ^ m):(toL n).length≤m:=by
  induction m generalizing n with
  | zero=>have:n = 0:=by simpa using h
            subst this;rw [toL_zero];simp
  | succ m ih =>
    by_cases h0:n = 0
    · subst h0;rw [toL_zero];simp
    · rw [toL_pos h0,List.length_cons]
      have:=@ih (n / 4294967296) (by rw [Nat.pow_succ] at h;omega)
      omega
theorem toL_len_le {xs:List Int} (h:Lm xs):(toL (V xs)).length≤xs.length:=V_lt_inv (V_lt h)
theorem V_set {xs:List Int} {i:Nat} (hi:i < xs.length) (y:Int):V (xs.set i y)+4294967296 ^ i * (xs[i]).toNat = V xs+4294967296 ^ i * y.toNat:=by
  induction xs generalizing i with
  | nil=>simp at hi
  | cons x xs ih =>
    cases i with
    | zero=>simp [V];omega
    | succ i =>
      have:=ih (i:=i) (by simpa using hi)
      simp only [List.set_cons_succ,V,List.getElem_cons_succ,Nat.pow_succ,Nat.mul_comm (4294967296 ^ i) 4294967296,Nat.mul_assoc]
      omega
theorem V_take_zeros {xs:List Int} {n:Nat} (h:∀j,n≤j→xs.getD j 0 = 0):V (xs.take n) = V xs:=by
  induction xs generalizing n with
  | nil=>simp
  | cons x xs ih =>
    cases n with
    | zero =>
      have h0:=h 0 (by omega)
      simp [List.getD] at h0
      have:V (xs.take 0) = V xs:=ih (fun j _=>by have:=h (j+1) (by omega);simpa [List.getD] using this)
      simp [V] at this ⊢;omega
    | succ n =>
      have:V (xs.take n) = V xs:=ih (fun j hj=>by have:=h (j+1) (by omega);simpa [List.getD] using this)
      simp [V,this]
theorem take_Tr {xs:List Int} {n:Nat} (hn:n≤xs.length) (h:n = 0∨xs.getD (n - 1) 0 ≠ 0):Tr (xs.take n):=by
  intro hne
  have hl:(xs.take n).length = n:=by rw [List.length_take];omega
  have hp:n ≠ 0:=fun e=>hne (by subst e;simp)
  rcases h with h | h
  · exact absurd h hp
  · rw [List.getLast_eq_getElem]
    simp only [hl,List.getElem_take]
    have:xs.getD (n - 1) 0 = xs[n - 1]'(by omega):=by simp [List.getD,show n - 1 < xs.length by omega]
    rwa [this] at h
end Go.Proofs.YtfkmbjkmlfnapaaDoor.Pure
