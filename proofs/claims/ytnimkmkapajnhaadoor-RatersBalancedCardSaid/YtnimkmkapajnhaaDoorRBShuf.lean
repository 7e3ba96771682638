import Derived.Test.YtnimkmkapajnhaaDoorRBQAx10
import Derived.Test.YtnimkmkapajnhaaDoorRBQAx25
import Derived.Test.YtnimkmkapajnhaaDoorRBQAx26
import Derived.Test.YtnimkmkapajnhaaDoorRBRt
set_option linter.unusedVariables false
set_option linter.unusedSimpArgs false
namespace Go.Proofs.YtnimkmkapajnhaaDoor.Pure
open Go.RowKit Go.Proofs.YtnimkmkapajnhaaDoorW.PrintWords Go.Proofs.YtnimkmkapajnhaaDoorW.PrintLast Go.Proofs.YtnimkmkapajnhaaDoorW.PrintMore Go.Proofs.YtnimkmkapajnhaaDoor.QA
def stp (d:Int):Int:=IntKind.u64.wrap (IntKind.u64.wrap (d * 6364136223846793005)+1442695040888963407)
def bel (d n:Int):Int × Int:=(stp d / 4294967296 % 4294967296 * n / 4294967296,stp d)
theorem bel_b (d:Int) {n:Int} (h1:1≤n) (h2:n≤1000):0≤(bel d n).1∧(bel d n).1 < n∧wrap64 (IntKind.u64.wrap (IntKind.u64.wrap (stp d / 4294967296 % 4294967296) * IntKind.u64.wrap n) / 4294967296) = (bel d n).1:=by
  unfold bel
  have hx:0≤stp d / 4294967296 % 4294967296∧stp d / 4294967296 % 4294967296≤4294967295:=by omega
  generalize stp d / 4294967296 % 4294967296 = x at *
  have p0:0≤x * n:=Int.mul_nonneg hx.1 (by omega)
  have p1:x * n≤4294967295 * n:=Int.mul_le_mul_of_nonneg_right hx.2 (by omega)
  rw [wu (x:=x) (by omega) (by omega),wu (x:=n) (by omega) (by omega)]
  generalize x * n = p at *
  rw [wu (x:=p) (by omega) (by omega)]
  refine ⟨by omega,by omega,?_⟩
  rw [w64] <;> omega
theorem below_eq (d:Int) {n:Int} (h1:1≤n) (h2:n≤1000):U0.f d n = some (bel d n):=by
  unfold U0.f U1.f U3.f
  rw [if_neg (by omega),if_neg (by omega)]
  have:=(bel_b d h1 h2).2.2
  simp only [Option.bind_some]
  unfold stp at this
  rw [this];rfl
theorem rbelow_eq (d:Int) {n:Int} (h1:1≤n) (h2:n≤1000):U7.f d n = some (bel d n):=by
  unfold U7.f U8.f U10.f
  rw [if_neg (by omega),if_neg (by omega)]
  have:=(bel_b d h1 h2).2.2
  simp only [Option.bind_some]
  unfold stp at this
  rw [this];rfl
def iota (n:Nat):List Int:=(List.range n).map (fun i:Nat=>(i:Int))
theorem iota_len (n:Nat):(iota n).length = n:=by unfold iota;simp
theorem iota_rd {n m:Nat} (h:m < n):rd (iota n) (m:Int) = (m:Int):=by
  rw [rd_lt (by rw [iota_len];exact h)];unfold iota;simp
def swp (L:List Int) (i v:Nat):List Int:=(L.set i (rd L (v:Int))).set v (rd L (i:Int))
def shuf:Nat→List Int→Int→List Int × Int
  | 0,L,d=>(L,d)
  | i+1,L,d=>shuf i (swp L (i+1) (bel d ((i:Int)+2)).1.toNat) (bel d ((i:Int)+2)).2
theorem swp_len (L:List Int) (i v:Nat):(swp L i v).length = L.length:=by unfold swp;rw [List.length_set,List.length_set]
theorem shuf_l1:∀(i:Nat) (L:List Int) (d:Int),i < L.length→L.length≤900→Ev (fun k=>U2.l1 k d L (i:Int)) (shuf i L d)
  | 0,L,d,h,h9=>by
    refine Ev.succ ?_
    simp only [U2.l1,show ¬ (((0:Nat):Int) ≥ 1) by omega,if_false]
    exact Ev.now _
  | i+1,L,d,h,h9=>by
    have hw:wrap64 (((i+1:Nat):Int)+1) = (i:Int)+2:=by rw [w64] <;> omega
    have hw1:wrap64 (((i+1:Nat):Int) - 1) = (i:Int):=by rw [w64] <;> omega
    have hb:=bel_b d (n:=(i:Int)+2) (by omega) (by omega)
    have ih:=shuf_l1 i (swp L (i+1) (bel d ((i:Int)+2)).1.toNat) (bel d ((i:Int)+2)).2 (by rw [swp_len];omega) (by rw [swp_len];omega)
    refine Ev.succ ?_
    simp only [U2.l1,show ((i+1:Nat):Int) ≥ 1 by omega,if_true,hw,below_eq d (n:=(i:Int)+2) (by omega) (by omega),Option.bind_some,hb.1,show (bel d ((i:Int)+2)).1 < (L.length:Int) by omega,show (0:Int)≤((i+1:Nat):Int) by omega,show ((i+1:Nat):Int) < (L.length:Int) by omega,hw1,Int.toNat_natCast]
    have e:((L.set (i+1) (rd L (bel d ((i:Int)+2)).1)).set (bel d ((i:Int)+2)).1.toNat (rd L ((i+1:Nat):Int))) = swp L (i+1) (bel d ((i:Int)+2)).1.toNat:=by
      unfold swp;rw [Int.toNat_of_nonneg hb.1]
    rw [e,shuf]
    exact ih
theorem rshuf_l1:∀(i:Nat) (L:List Int) (d:Int),i < L.length→L.length≤900→Ev (fun k=>U9.l1 k d L (i:Int)) (shuf i L d)
  | 0,L,d,h,h9=>by
    refine Ev.succ ?_
    simp only [U9.l1,show ¬ (((0:Nat):Int) ≥ 1) by omega,if_false]
    exact Ev.now _
  | i+1,L,d,h,h9=>by
    have hw:wrap64 (((i+1:Nat):Int)+1) = (i:Int)+2:=by rw [w64] <;> omega
    have hw1:wrap64 (((i+1:Nat):Int) - 1) = (i:Int):=by rw [w64] <;> omega
    have hb:=bel_b d (n:=(i:Int)+2) (by omega) (by omega)
    have ih:=rshuf_l1 i (swp L (i+1) (bel d ((i:Int)+2)).1.toNat) (bel d ((i:Int)+2)).2 (by rw [swp_len];omega) (by rw [swp_len];omega)
    refine Ev.succ ?_
    simp only [U9.l1,show ((i+1:Nat):Int) ≥ 1 by omega,if_true,hw,rbelow_eq d (n:=(i:Int)+2) (by omega) (by omega),Option.bind_some,hb.1,show (bel d ((i:Int)+2)).1 < (L.length:Int) by omega,show (0:Int)≤((i+1:Nat):Int) by omega,show ((i+1:Nat):Int) < (L.length:Int) by omega,hw1,Int.toNat_natCast]
    have e:((L.set (i+1) (rd L (bel d ((i:Int)+2)).1)).set (bel d ((i:Int)+2)).1.toNat (rd L ((i+1:Nat):Int))) = swp L (i+1) (bel d ((i:Int)+2)).1.toNat:=by
      unfold swp;rw [Int.toNat_of_nonneg hb.1]
    rw [e,shuf]
    exact ih
def shufN (d:Int) (n:Nat):List Int × Int:=shuf (n - 1) (iota n) d
theorem shuf_end {n:Nat} (h9:n≤900) (d:Int):Ev (fun k=>U2.l1 k d (iota n) (wrap64 ((n:Int) - 1))) (shufN d n)∧Ev (fun k=>U9.l1 k d (iota n) (wrap64 ((n:Int) - 1))) (shufN d n):=by
  unfold shufN
  cases n with
  | zero =>
    have hw:wrap64 (((0:Nat):Int) - 1) = -1:=by rw [w64] <;> omega
    rw [hw]
    constructor
    · refine Ev.succ ?_
      simp only [U2.l1,show ¬ ((-1:Int) ≥ 1) by omega,if_false];exact Ev.now _
    · refine Ev.succ ?_
      simp only [U9.l1,show ¬ ((-1:Int) ≥ 1) by omega,if_false];exact Ev.now _
  | succ n =>
    have hw:wrap64 (((n+1:Nat):Int) - 1) = ((n+1 - 1:Nat):Int):=by rw [w64] <;> omega
    rw [hw]
    exact ⟨shuf_l1 _ _ d (by rw [iota_len];omega) (by rw [iota_len];exact h9),rshuf_l1 _ _ d (by rw [iota_len];omega) (by rw [iota_len];exact h9)⟩
theorem shuf_l0 {n:Nat} (h9:n≤900) (d:Int):∀(e i:Nat) (L:List Int),i+e = n→L.length = n→(∀ m:Nat,m < i→rd L (m:Int) = (m:Int))→Ev (fun k=>U2.l0 k d (n:Int) L (n:Int) (i:Int)) (shufN d n):=by
  intro e
  induction e with
  | zero =>
    intro i L hi hL hm
    have hLe:L = iota n:=by
      refine List.ext_getElem (by rw [hL,iota_len]) (fun m h1 h2=>?_)
      rw [← rd_lt h1,← rd_lt h2,hm m (by omega),iota_rd (by omega)]
    refine Ev.succ ?_
    simp only [U2.l0,show ¬ ((i:Int) < (n:Int)) by omega,if_false]
    rw [hLe];exact (shuf_end h9 d).1
  | succ e ih =>
    intro i L hi hL hm
    have hw:wrap64 ((i:Int)+1) = ((i+1:Nat):Int):=by rw [w64] <;> omega
    refine Ev.succ ?_
    simp only [U2.l0,show (i:Int) < (n:Int) by omega,show (0:Int)≤(i:Int) by omega,show (i:Int) < (L.length:Int) by omega,if_true,hw,Int.toNat_natCast]
    refine ih (i+1) _ (by omega) (by rw [List.length_set];exact hL) (fun m hlm=>?_)
    rw [rd_lt (show m < (L.set i (i:Int)).length by rw [List.length_set];omega),List.getElem_set]
    by_cases q:i = m
    · rw [if_pos q,q]
    · rw [if_neg q,← rd_lt];exact hm m (by omega)
theorem shuffle_ev {n:Nat} (h9:n≤900) (d:Int):Ev (fun k=>U2.f k d (n:Int)) (shufN d n):=by
  unfold U2.f
  simp only [show ¬ ((n:Int) < 0) by omega,if_false,decide_eq_false (show ¬ ((n:Int) > 1024) by omega)]
  refine Ev.succ ?_
  simp only [U2.j0,Bool.false_eq_true,if_false,show (0:Int)≤(n:Int) by omega,if_true,Int.toNat_natCast,show n≤35184372088832 by omega,Option.bind_some,List.length_replicate]
  exact shuf_l0 h9 d n 0 _ (by omega) List.length_replicate (fun m h=>by omega)
def isP (n:Nat) (L:List Int):Prop:=L.length = n∧(∀ x∈L,0≤x∧x < (n:Int))∧∀ j:Nat,j < n→(j:Int)∈L
theorem swp_rd (L:List Int) {i v m:Nat} (hi:i < L.length) (hv:v < L.length) (hm:m < L.length):rd (swp L i v) (m:Int) = if v = m then rd L (i:Int) else if i = m then rd L (v:Int) else rd L (m:Int):=by
  unfold swp
  rw [rd_lt (show m < ((L.set i (rd L (v:Int))).set v (rd L (i:Int))).length by rw [List.length_set,List.length_set];exact hm),List.getElem_set,List.getElem_set,rd_lt hm]
theorem swp_isP {n:Nat} {L:List Int} {i v:Nat} (h:isP n L) (hi:i < n) (hv:v < n):isP n (swp L i v):=by
  obtain ⟨h1,h2,h3⟩:=h
  have hl:(swp L i v).length = n:=by rw [swp_len];exact h1
  refine ⟨hl,fun x hx=>?_,fun j hj=>?_⟩
  · obtain ⟨m,hm,rfl⟩:=List.getElem_of_mem hx
    rw [← rd_lt hm,swp_rd L (by omega) (by omega) (by omega)]
    have g:∀q:Nat,q < n→0≤rd L (q:Int)∧rd L (q:Int) < (n:Int):=fun q hq=>by rw [rd_lt (by omega)];exact h2 _ (List.getElem_mem _)
    split
    · exact g i hi
    · split
      · exact g v hv
      · exact g m (by omega)
  · obtain ⟨m,hm,e⟩:=List.getElem_of_mem (h3 j hj)
    rw [← rd_lt hm] at e
    have g:∀q:Nat,q < n→rd (swp L i v) (q:Int) = (j:Int)→(j:Int)∈swp L i v:=fun q hq e=>by rw [← e,rd_lt (by omega)];exact List.getElem_mem _
    by_cases c1:m = v
    · subst c1
      by_cases c2:i = m
      · subst c2;exact g i (by omega) (by rw [swp_rd L (by omega) (by omega) (by omega),if_pos rfl];exact e)
      · exact g i hi (by rw [swp_rd L (by omega) (by omega) (by omega),if_neg (by omega),if_pos rfl];exact e)
    · by_cases c2:m = i
      · subst c2;exact g v hv (by rw [swp_rd L (by omega) (by omega) (by omega),if_pos rfl];exact e)
      · exact g m (by omega) (by rw [swp_rd L (by omega) (by omega) (by omega),if_neg (by omega),if_neg (by omega)];exact e)
theorem iota_isP (n:Nat):isP n (iota n):=by
  refine ⟨iota_len n,fun x hx=>?_,fun j hj=>?_⟩
  · obtain ⟨m,hm,rfl⟩:=List.getElem_of_mem hx
    rw [iota_len] at hm
    rw [← rd_lt (by rw [iota_len];exact hm),iota_rd hm];omega
  · rw [← iota_rd hj,rd_lt (by rw [iota_len];exact hj)];exact List.getElem_mem _
theorem shuf_isP {n:Nat} (h9:n≤900):∀(i:Nat) (L:List Int) (d:Int),isP n L→i < n→isP n (shuf i L d).1
  | 0,L,d,h,_=>by rw [shuf];exact h
  | i+1,L,d,h,hi=>by
    rw [shuf]
    have hb:=bel_b d (n:=(i:Int)+2) (by omega) (by omega)
    exact shuf_isP h9 i _ _ (swp_isP h hi (by omega)) (by omega)
theorem shufN_isP {n:Nat} (h9:n≤900) (d:Int):isP n (shufN d n).1:=by
  unfold shufN
  cases n with
  | zero=>exact iota_isP 0
  | succ n=>exact shuf_isP h9 _ _ d (iota_isP _) (by omega)
end Go.Proofs.YtnimkmkapajnhaaDoor.Pure
