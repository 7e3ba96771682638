import Derived.Test.YtfkmbjkmlfnapaaDoorMCW
import Derived.Laws.MakeOwn
import Derived.Laws.CopyOwn
set_option linter.unusedVariables false
namespace Go.Proofs.YtfkmbjkmlfnapaaDoorW.PrintMore
open Go.RowKit Go.Proofs.YtfkmbjkmlfnapaaDoorW.PrintWords Go.Proofs.YtfkmbjkmlfnapaaDoorW.PrintLast
section
variable {P:Program}
theorem cut_to3 (t e:TypeId) (kh:IntKind) {i:TypeInfo} (ht:P.underlying t = some (.slice e)) (hi:P.info? e = some i) (A:Option Addr) (n c:Nat) (j:Int) (h0:0≤j) (hm:j≤n) (hc:n≤c) :
    ∀ W:World,(Instr.slice t (.slice A n c) none (some (.int kh j)) (some (.int kh j))).run P W = .ok (.slice A j.toNat j.toNat) W:=by
  intro W
  have hel:P.elem t = e:=by simp [Program.elem,ht]
  have hu:P.underlying t = some (.slice (P.elem t)):=by rw [hel];exact ht
  have ha:(A.map fun x=>x.add 0) = A:=by cases A <;> simp [Addr.add]
  rw [run_slice_hm W t A n c hu kh kh j j h0 (by omega) (by omega),hel]
  simp [sizeOf,typeInfo,hi,sliced,Result.andThen,ha]
end
namespace Kd
open Go.Proofs.YtfkmbjkmlfnapaaDoorW.PrintWords.Kd
section
variable {P:Program} {ops:Array Oper} {rest:List Oper} {o:Oper} {a:Act} {Q:Exit→Act→World→Prop} {α:Type}
theorem R_make0 (d:Kd α) {w0 W:World} (base e:Nat) (hgd:o.guard = none) {N:Tmp} (hd:o.dst = some N) (t:TypeId) (x y:Operand) (ho:o.op = .makeSlice t x y) (n:Int) (hx:a.eval x = .int .i64 0) (hy:a.eval y = .int .i64 n)
    (ht:P.underlying t = some (.slice e)) (z:Value) (bytes:Nat) (hinfo:(P.info? e).map (fun i=>(i.zero,i.size,i.bytes)) = some (some z,d.sz,bytes)) (hz:z.cells.size = d.sz) (hs0:0 < d.sz) (hb0:0 < bytes)
    (z0:α) {ok okp:Nat→Prop} (_hzero:True) (hok:∀k,okp k→ok k) (hfresh:ok W.heap.size) (h0:0≤n) (hl:n.toNat * bytes≤281474976710656) (HB:Below base w0 W) (hbase:base≤W.heap.size)
    (h:∀v1 w1,d.R e w1 base ok v1 ([]:List α)→Below base w0 w1→W.grownBy w1 none→(∃ b,v1.ownBlock = some b∧W.heap.size≤b)→wpList P ops Q rest (a.put o.dst v1) w1):wpList P ops Q (o :: rest) a W:=by
  obtain ⟨m,rfl⟩:=Int.eq_ofNat_of_zero_le h0
  simp only [Int.toNat_natCast] at hl
  obtain ⟨i0,hi,hzz⟩:=Option.map_eq_some_iff.1 hinfo
  simp only [Prod.mk.injEq] at hzz
  obtain ⟨hz0,hz1,hz2⟩:=hzz
  have hm:m≤281474976710656:=Nat.le_trans (Nat.le_mul_of_pos_right _ hb0) hl
  have hr:=run_make (P:=P) W t e i0 z ht hi hz0 .i64 .i64 0 (m:Int) (by omega) (by omega)
    (by
      have h3:((i0.bytes * m:Nat):Int)≤281474976710656:=by rw [hz2,Nat.mul_comm];omega
      rwa [Int.natCast_mul] at h3) (by omega)
  simp only [Int.toNat_natCast,Int.toNat_zero] at hr
  rw [hz1] at hr
  refine event_run hgd (v:=.slice (some ⟨W.heap.size,0,none⟩) 0 m) (w1:=W.alloc (.cells (madeCells z.cells (m * d.sz)) e)) (by simp [execOp,ho,hx,hy,hr]) (h _ _ ⟨fun k hk=>?_,[],?_,wV.none _ _⟩ (HB.alloc hbase _) (World.grownBy_alloc W _ none) ⟨W.heap.size,by simp [Value.ownBlock],Nat.le_refl _⟩)
  · have:W.heap.size = k:=by simpa [Value.ownBlock] using hk
    subst this
    exact hfresh
  · exact World.ownsRow_made W _ m hbase (by simp only [maxLen];omega) (by simp [size_madeCells])
end
end Kd
end Go.Proofs.YtfkmbjkmlfnapaaDoorW.PrintMore
namespace Go.Proofs.YtfkmbjkmlfnapaaDoor
set_option linter.unusedVariables false
theorem zz0 {P:Prop} (h:P:=by kernel_rfl):P:=h
theorem zz1 {P:Prop} (h:P:=by first | rfl | (simp;done) | (simp [*];done)):P:=h
theorem zz2 {P:Prop} (h:P:=by repeat (first | exact zH.refl _ | apply zH.step)):P:=h
theorem zz3 {P:Prop} (h:P:=by rw [if_pos rfl] at H;exact H):P:=h
theorem zz4 {P:Prop} (h:P:=by first | (with_reducible assumption) | assumption):P:=h
theorem zz5 {P:Prop} (h:P:=by (try simp only [List.map_toArray,List.map_cons,List.map_nil]);first | done | rfl | (simp only [List.length_drop,List.length_take];rfl)):P:=h
theorem zz6 {P:Prop} (h:P:=by have:=HK1.out;omega):P:=h
theorem zz7 {P:Prop} (h:P:=by rw [if_neg (show ¬ (false = true) by decide)] at H;exact H):P:=h
theorem zz8 {P:Prop} (h:P:=by simp):P:=h
theorem zz9 {P:Prop} (h:P:=by rfl):P:=h
theorem zz10 {P:Prop} (h:P:=by repeat (first | (with_reducible first | exact HB.out | apply wS | apply wQ | apply wR) | exact HB.out)):P:=h
theorem zz11 {P:Prop} (h:P:=by first | omega | exact Nat.le_refl _):P:=h
theorem zz12 {P:Prop} (h:P:=by (with_reducible repeat (first | refine wE ?_ _ | refine wF ?_ | refine wD ?_ _));exact h0_.out):P:=h
theorem zz13 {P:Prop} (h:P:=by repeat (first | (with_reducible first | exact HB.out | apply wS | apply wQ | apply wR | refine wL ?_ h0_.out) | exact HB.out)):P:=h
theorem zz14 {P:Prop} (h:P:=by first | rfl | (simp [errW_none,errW_some] <;> rfl) | (simp [*,errW_none,errW_some] <;> rfl)):P:=h
theorem zz15 {P:Prop} (h:P:=by omega):P:=h
theorem zz16 {P:Prop} (h:P:=by first | (rw [h0_];with_reducible exact H) | (have H2_:=(Option.bind_some _ _).symm.trans H;rw [h0_];with_reducible exact H2_) | (have H2_:=(Option.bind_some _ _).symm.trans H;with_reducible exact H2_) | with_reducible exact H | (rw [h0_];exact H) | exact H):P:=h
theorem zz17 {P:Prop} (h:P:=by decide):P:=h
theorem zz18 {P:Prop} (h:P:=by (with_reducible repeat (first | apply Kd.R_alloc | apply Kd.R_drewN | apply Kd.R_drew));exact h0_.out):P:=h
theorem zz19 {P:Prop} (h:P:=by first | (rw [h0_] at H;exact H) | (simp only [h0_] at H ⊢;exact H)):P:=h
theorem zz20 {P:Prop} (h:P:=by (with_reducible repeat (first | refine wE ?_ _ | refine wF ?_ | refine wD ?_ _));exact BK200.out):P:=h
theorem zz21 {P:Prop} (h:P:=by (with_reducible repeat (first | refine wE ?_ _ | refine wF ?_ | refine wD ?_ _));exact BK201.out):P:=h
theorem zz22 {P:Prop} (h:P:=by repeat (first | (with_reducible first | exact HB.out | apply wS | apply wQ | apply wR | refine wL ?_ GE200.out | refine wL ?_ GE201.out) | exact HB.out)):P:=h
theorem zz23 {P:Prop} (h:P:=by (with_reducible repeat (first | refine wE ?_ _ | refine wF ?_ | refine wD ?_ _));refine wP (cs:=#[.slice none 0 0]) ?_ 0 _ rfl;(with_reducible repeat (first | refine wE ?_ _ | refine wF ?_ | refine wD ?_ _));exact h0_.out):P:=h
theorem zz24 {P:Prop} (h:P:=by first | exact Kd.S_nil _ _ _ _ _ | exact Kd.N_nil _ _ _ _ _ | exact Kd.V_nil _ _ _ _ _ | exact Kd.Q_nil _ _ _ _ _ | exact Kd.R_nil _ _ _ _ _):P:=h
theorem zz25 {P:Prop} (h:P:=by repeat (first | (with_reducible first | exact HB.out | apply wS | apply wQ | apply wR | refine wL ?_ GE200.out | refine wL ?_ GE201.out | refine wL ?_ GE206.out) | exact HB.out)):P:=h
theorem zz26 {P:Prop} (h:P:=by (with_reducible repeat (first | apply Kd.S_alloc | apply Kd.S_drewN | apply Kd.S_drew));exact h0_.out):P:=h
theorem zz27 {P:Prop} (h:P:=by (with_reducible repeat (first | apply Kd.S_alloc | apply Kd.S_drewN | apply Kd.S_drew));exact Kd.S_mono h0_.out (fun _ hk=>hk.2)):P:=h
theorem zz28 {P:Prop} (h:P:=by (with_reducible repeat (first | apply Kd.S_alloc | apply Kd.S_drewN | apply Kd.S_drew));exact Kd.S_mono h0_.out (fun _ hk=>⟨trivial,hk⟩)):P:=h
theorem zz29 {P:Prop} (h:P:=by (with_reducible repeat (first | apply Kd.V_alloc | apply Kd.V_drewN | apply Kd.V_drew));exact HO0.out):P:=h
theorem zz30 {P:Prop} (h:P:=by first | rfl | (simp;done) | (simp only [← h0_] <;> (first | rfl | simp)) | (simp [*];done)):P:=h
theorem zz31 {P:Prop} (h:P:=by (with_reducible repeat (first | apply Kd.V_alloc | apply Kd.V_drewN | apply Kd.V_drew));exact h0_.out):P:=h
theorem zz32 {P:Prop} (h:P:=by first | rfl | (simp [errW_none,errW_some] <;> rfl) | (simp only [← h0_];first | rfl | (simp [errW_none,errW_some] <;> rfl)) | (simp [*,errW_none,errW_some] <;> rfl)):P:=h
theorem zz33 {P:Prop} (h:P:=by (try simp only [List.map_toArray,List.map_cons,List.map_nil]);first | done | (simp only [h0_];rfl) | rfl | (simp only [List.length_drop,List.length_take];rfl)):P:=h
theorem zz34 {P:Prop} (h:P:=by first | simpa using h0_ | (simp at h0_ ⊢;omega)):P:=h
theorem zz35 {P:Prop} (h:P:=by (with_reducible repeat (first | apply Kd.V_alloc | apply Kd.V_drewN | apply Kd.V_drew));exact HO_6.out):P:=h
theorem zz36 {P:Prop} (h:P:=by (with_reducible repeat (first | apply Kd.V_alloc | apply Kd.V_drewN | apply Kd.V_drew));exact Kd.V_mono h0_.out (fun _ hk=>⟨trivial,hk⟩)):P:=h
theorem zz37 {P:Prop} (h:P:=by (with_reducible repeat (first | apply Kd.R_alloc | apply Kd.R_drewN | apply Kd.R_drew));exact Kd.R_mono h0_.out (fun _ hk=>hk.1)):P:=h
theorem zz38 {P:Prop} (h:P:=by (with_reducible repeat (first | apply Kd.V_alloc | apply Kd.V_drewN | apply Kd.V_drew));exact HO1.out):P:=h
theorem zz39 {P:Prop} (h:P:=by (with_reducible repeat (first | apply Kd.R_alloc | apply Kd.R_drewN | apply Kd.R_drew));exact Kd.R_mono h0_.out (fun _ hk=>hk.1.1)):P:=h
theorem zz40 {P:Prop} (h:P:=by (with_reducible repeat (first | refine wE ?_ _ | refine wF ?_ | refine wD ?_ _));refine wP (cs:=#[.bool false,.slice none 0 0,.slice none 0 0]) ?_ 2 _ rfl;(with_reducible repeat (first | refine wE ?_ _ | refine wF ?_ | refine wD ?_ _));refine wP (cs:=#[.bool false,.slice none 0 0,.slice none 0 0]) ?_ 1 _ rfl;(with_reducible repeat (first | refine wE ?_ _ | refine wF ?_ | refine wD ?_ _));refine wP (cs:=#[.bool false,.slice none 0 0,.slice none 0 0]) ?_ 0 _ rfl;(with_reducible repeat (first | refine wE ?_ _ | refine wF ?_ | refine wD ?_ _));exact h0_.out):P:=h
theorem zz41 {P:Prop} (h:P:=by first | exact Kd.R_nil _ _ _ _ _ | exact Kd.N_nil _ _ _ _ _ | exact Kd.V_nil _ _ _ _ _ | exact Kd.Q_nil _ _ _ _ _ | exact Kd.S_nil _ _ _ _ _):P:=h
theorem zz42 {P:Prop} (h:P:=by (with_reducible repeat (first | refine wE ?_ _ | refine wF ?_ | refine wD ?_ _));refine wP (cs:=#[.bool false,.slice none 0 0]) ?_ 1 _ rfl;(with_reducible repeat (first | refine wE ?_ _ | refine wF ?_ | refine wD ?_ _));refine wP (cs:=#[.bool false,.slice none 0 0]) ?_ 0 _ rfl;(with_reducible repeat (first | refine wE ?_ _ | refine wF ?_ | refine wD ?_ _));exact h0_.out):P:=h
theorem zz43 {P:Prop} (h:P:=by (with_reducible repeat (first | apply Kd.V_alloc | apply Kd.V_drewN | apply Kd.V_drew));exact HO0_1.out):P:=h
theorem zz44 {P:Prop} (h:P:=by (with_reducible repeat (first | refine wE ?_ _ | refine wF ?_ | refine wD ?_ _));exact BK307.out):P:=h
theorem zz45 {P:Prop} (h:P:=by repeat (first | (with_reducible first | exact HB.out | apply wS | apply wQ | apply wR | refine wL ?_ GE307.out | refine wL ?_ GE308.out) | exact HB.out)):P:=h
theorem zz46 {P:Prop} (h:P:=by (with_reducible repeat (first | refine wE ?_ _ | refine wF ?_ | refine wD ?_ _));exact BK308.out):P:=h
theorem zz47 {P:Prop} (h:P:=by (with_reducible repeat (first | apply Kd.V_alloc | apply Kd.V_drewN | apply Kd.V_drew));exact Kd.V_mono h0_.out (fun _ hk=>⟨hk.1.1,⟨hk.1.2,hk.2⟩⟩)):P:=h
theorem zz48 {P:Prop} (h:P:=by (with_reducible repeat (first | apply Kd.V_alloc | apply Kd.V_drewN | apply Kd.V_drew));exact HO1_1.out):P:=h
theorem zz49 {P:Prop} (h:P:=by (with_reducible repeat (first | refine wE ?_ _ | refine wF ?_ | refine wD ?_ _));exact BK339.out):P:=h
theorem zz50 {P:Prop} (h:P:=by (with_reducible repeat (first | refine wE ?_ _ | refine wF ?_ | refine wD ?_ _));exact BK340.out):P:=h
theorem zz51 {P:Prop} (h:P:=by repeat (first | (with_reducible first | exact HB.out | apply wS | apply wQ | apply wR | refine wL ?_ h0_.out | refine wL ?_ h1_.out) | exact HB.out)):P:=h
theorem zz52 {P:Prop} (h:P:=by repeat (first | (with_reducible first | exact HB.out | apply wS | apply wQ | apply wR | refine wL ?_ GE339.out | refine wL ?_ GE340.out | refine wL ?_ GE341.out) | exact HB.out)):P:=h
theorem zz53 {P:Prop} (h:P:=by (with_reducible repeat (first | refine wE ?_ _ | refine wF ?_ | refine wD ?_ _));exact BK381.out):P:=h
theorem zz54 {P:Prop} (h:P:=by (with_reducible repeat (first | refine wE ?_ _ | refine wF ?_ | refine wD ?_ _));exact BK382.out):P:=h
theorem zz55 {P:Prop} (h:P:=by repeat (first | (with_reducible first | exact HB.out | apply wS | apply wQ | apply wR | refine wL ?_ GE381.out | refine wL ?_ GE382.out) | exact HB.out)):P:=h
theorem zz56 {P:Prop} (h:P:=by rw [← hq_];exact (by (with_reducible repeat (first | refine wE ?_ _ | refine wF ?_ | refine wD ?_ _));exact h0_.out)):P:=h
theorem zz57 {P:Prop} (h:P:=by rw [← hq_];exact (by repeat (first | (with_reducible first | exact HB.out | apply wS | apply wQ | apply wR | refine wL ?_ h0_.out | refine wL ?_ h1_.out) | exact HB.out))):P:=h
theorem zz58 {P:Prop} (h:P:=by (with_reducible repeat (first | refine wE ?_ _ | refine wF ?_ | refine wD ?_ _));exact BK398.out):P:=h
theorem zz59 {P:Prop} (h:P:=by (with_reducible repeat (first | refine wE ?_ _ | refine wF ?_ | refine wD ?_ _));exact BK399.out):P:=h
theorem zz60 {P:Prop} (h:P:=by repeat (first | (with_reducible first | exact HB.out | apply wS | apply wQ | apply wR | refine wL ?_ GE398.out | refine wL ?_ GE399.out) | exact HB.out)):P:=h
theorem zz61 {P:Prop} (h:P:=by (with_reducible repeat (first | apply Kd.R_alloc | apply Kd.R_drewN | apply Kd.R_drew));exact HO_4.out):P:=h
theorem zz62 {P:Prop} (h:P:=by (with_reducible repeat (first | apply Kd.V_alloc | apply Kd.V_drewN | apply Kd.V_drew));exact Kd.V_mono h0_.out (fun _ hk=>hk.2)):P:=h
theorem zz63 {P:Prop} (h:P:=by (with_reducible repeat (first | apply Kd.R_alloc | apply Kd.R_drewN | apply Kd.R_drew));exact HO_7.out):P:=h
theorem zz64 {P:Prop} (h:P:=by have:=HK1.out;have:=HK2.out;omega):P:=h
theorem zz65 {P:Prop} (h:P:=by (with_reducible repeat (first | apply Kd.R_alloc | apply Kd.R_drewN | apply Kd.R_drew));exact Kd.R_mono h0_.out (fun _ hk=>hk.2)):P:=h
theorem zz66 {P:Prop} (h:P:=by (with_reducible repeat (first | refine wE ?_ _ | refine wF ?_ | refine wD ?_ _));exact BK153.out):P:=h
theorem zz67 {P:Prop} (h:P:=by (with_reducible repeat (first | refine wE ?_ _ | refine wF ?_ | refine wD ?_ _));exact BK154.out):P:=h
theorem zz68 {P:Prop} (h:P:=by repeat (first | (with_reducible first | exact HB.out | apply wS | apply wQ | apply wR | refine wL ?_ GE153.out | refine wL ?_ GE154.out) | exact HB.out)):P:=h
theorem zz69 {P:Prop} (h:P:=by repeat (first | (with_reducible first | exact HB.out | apply wS | apply wQ | apply wR | refine wL ?_ GE153.out | refine wL ?_ GE154.out | refine wL ?_ GE158.out) | exact HB.out)):P:=h
theorem zz70 {P:Prop} (h:P:=by (with_reducible repeat (first | apply Kd.S_alloc | apply Kd.S_drewN | apply Kd.S_drew));exact Kd.S_mono h0_.out (fun k_ hk=>⟨trivial,fun e_=>hk.2 e_⟩)):P:=h
theorem zz71 {P:Prop} (h:P:=by (with_reducible repeat (first | refine wE ?_ _ | refine wF ?_ | refine wD ?_ _));exact BK183.out):P:=h
theorem zz72 {P:Prop} (h:P:=by (with_reducible repeat (first | refine wE ?_ _ | refine wF ?_ | refine wD ?_ _));exact BK184.out):P:=h
theorem zz73 {P:Prop} (h:P:=by repeat (first | (with_reducible first | exact HB.out | apply wS | apply wQ | apply wR | refine wL ?_ GE183.out | refine wL ?_ GE184.out) | exact HB.out)):P:=h
theorem zz74 {P:Prop} (h:P:=by repeat (first | (with_reducible first | exact HB.out | apply wS | apply wQ | apply wR | refine wL ?_ GE183.out | refine wL ?_ GE184.out | refine wL ?_ GE192.out) | exact HB.out)):P:=h
theorem zz75 {P:Prop} (h:P:=by repeat (first | (with_reducible first | exact HB.out | apply wS | apply wQ | apply wR | refine wL ?_ GE454.out) | exact HB.out)):P:=h
theorem zz76 {P:Prop} (h:P:=by rw [e_];exact h0_.out):P:=h
theorem zz77 {P:Prop} (h:P:=by (with_reducible repeat (first | refine wE ?_ _ | refine wF ?_ | refine wD ?_ _));exact BK454.out):P:=h
theorem zz78 {P:Prop} (h:P:=by repeat (first | (with_reducible first | exact HB.out | apply wS | apply wQ | apply wR | refine wL ?_ GE454.out | refine wL ?_ GE462.out) | exact HB.out)):P:=h
theorem zz79 {P:Prop} (h:P:=by (with_reducible repeat (first | apply Kd.N_alloc | apply Kd.N_drewN | apply Kd.N_drew));exact HO491.out):P:=h
theorem zz80 {P:Prop} (h:P:=by first | exact hk.2 | (revert hk;(try simp only [and_imp]);intros;repeat' (first | assumption | apply And.intro))):P:=h
theorem zz81 {P:Prop} (h:P:=by repeat (first | (with_reducible first | exact HB.out | apply wS | apply wQ | apply wR | refine wL ?_ GE495.out) | exact HB.out)):P:=h
theorem zz82 {P:Prop} (h:P:=by (with_reducible repeat (first | refine wE ?_ _ | refine wF ?_ | refine wD ?_ _));exact BK495.out):P:=h
theorem zz83 {P:Prop} (h:P:=by first | exact ⟨hk.1.2,hk.2⟩ | (revert hk;(try simp only [and_imp]);intros;repeat' (first | assumption | apply And.intro))):P:=h
theorem zz84 {P:Prop} (h:P:=by (with_reducible repeat (first | apply Kd.N_alloc | apply Kd.N_drewN | apply Kd.N_drew));exact h0_.out):P:=h
theorem zz85 {P:Prop} (h:P:=by first | exact hs_.1 | (revert hs_;(try simp only [and_imp]);intros;repeat' (first | assumption | apply And.intro))):P:=h
theorem zz86 {P:Prop} (h:P:=by (with_reducible repeat (first | apply Kd.V_alloc | apply Kd.V_drewN | apply Kd.V_drew));exact HO_496000.out):P:=h
theorem zz87 {P:Prop} (h:P:=by (with_reducible repeat (first | apply Kd.N_alloc | apply Kd.N_drewN | apply Kd.N_drew));exact HO518.out):P:=h
theorem zz88 {P:Prop} (h:P:=by first | exact hs_ | (revert hs_;(try simp only [and_imp]);intros;repeat' (first | assumption | apply And.intro))):P:=h
theorem zz89 {P:Prop} (h:P:=by first | exact hs_.2.1 | (revert hs_;(try simp only [and_imp]);intros;repeat' (first | assumption | apply And.intro))):P:=h
theorem zz90 {P:Prop} (h:P:=by (with_reducible repeat (first | apply Kd.N_alloc | apply Kd.N_drewN | apply Kd.N_drew));exact HO608.out):P:=h
theorem zz91 {P:Prop} (h:P:=by (with_reducible repeat (first | apply Kd.R_alloc | apply Kd.R_drewN | apply Kd.R_drew));exact HO615.out):P:=h
theorem zz92 {P:Prop} (h:P:=by (with_reducible repeat (first | apply Kd.V_alloc | apply Kd.V_drewN | apply Kd.V_drew));exact (Kd.V_mono (Kd.V_far (p:=⟨gb620,2,none⟩) (Kd.V_far (p:=⟨gb620,1,none⟩) (Kd.V_far (p:=⟨gb620,0,none⟩) (Kd.V_mono h0_.out (fun k_ hk=>(⟨hk,(by first | exact hk.2 | (revert hk;(try simp only [and_imp]);intros;repeat' (first | assumption | apply And.intro)))⟩: _∧k_ ≠ gb620))) (fun _ hk=>hk.2) (.bool t612)) (fun _ hk=>hk.2) (.slice Ao101 t613.length co101)) (fun _ hk=>hk.2) (.slice Ao102 t616.length co102)) (fun _ h_=>h_.1))):P:=h
theorem zz93 {P:Prop} (h:P:=by repeat (first | (with_reducible first | exact HB.out | apply wS | apply wQ | apply wR | refine wL ?_ GE495.out | refine wL ?_ GE620.out) | exact HB.out)):P:=h
theorem zz94 {P:Prop} (h:P:=by first | exact hs_.2.2.1 | (revert hs_;(try simp only [and_imp]);intros;repeat' (first | assumption | apply And.intro))):P:=h
theorem zz95 {P:Prop} (h:P:=by (with_reducible repeat (first | apply Kd.R_alloc | apply Kd.R_drewN | apply Kd.R_drew));exact (Kd.R_mono (Kd.R_far (p:=⟨gb664,2,none⟩) (Kd.R_far (p:=⟨gb664,1,none⟩) (Kd.R_far (p:=⟨gb664,0,none⟩) (Kd.R_types h0_.out h1_.out (by decide)) (fun _ hk=>hk.2) (.bool t656)) (fun _ hk=>hk.2) (.slice Ao119 t657.length co119)) (fun _ hk=>hk.2) (.slice Ao120 t660.length co120)) (fun _ h_=>h_.1))):P:=h
theorem zz96 {P:Prop} (h:P:=by (with_reducible repeat (first | apply Kd.V_alloc | apply Kd.V_drewN | apply Kd.V_drew));exact (Kd.V_mono (Kd.V_far (p:=⟨gb664,2,none⟩) (Kd.V_far (p:=⟨gb664,1,none⟩) (Kd.V_far (p:=⟨gb664,0,none⟩) (Kd.V_mono h0_.out (fun k_ hk=>(⟨hk,(by first | exact hk.2 | (revert hk;(try simp only [and_imp]);intros;repeat' (first | assumption | apply And.intro)))⟩: _∧k_ ≠ gb664))) (fun _ hk=>hk.2) (.bool t656)) (fun _ hk=>hk.2) (.slice Ao119 t657.length co119)) (fun _ hk=>hk.2) (.slice Ao120 t660.length co120)) (fun _ h_=>h_.1))):P:=h
theorem zz97 {P:Prop} (h:P:=by (with_reducible repeat (first | apply Kd.N_alloc | apply Kd.N_drewN | apply Kd.N_drew));exact (Kd.N_mono (Kd.N_far (p:=⟨gb664,2,none⟩) (Kd.N_far (p:=⟨gb664,1,none⟩) (Kd.N_far (p:=⟨gb664,0,none⟩) (Kd.N_mono h0_.out (fun k_ hk=>(⟨hk,(by first | exact hk.2 | (revert hk;(try simp only [and_imp]);intros;repeat' (first | assumption | apply And.intro)))⟩: _∧k_ ≠ gb664))) (fun _ hk=>hk.2) (.bool t656)) (fun _ hk=>hk.2) (.slice Ao119 t657.length co119)) (fun _ hk=>hk.2) (.slice Ao120 t660.length co120)) (fun _ h_=>h_.1))):P:=h
theorem zz98 {P:Prop} (h:P:=by repeat (first | (with_reducible first | exact HB.out | apply wS | apply wQ | apply wR | refine wL ?_ GE495.out | refine wL ?_ GE620.out | refine wL ?_ GE664.out) | exact HB.out)):P:=h
theorem zz99 {P:Prop} (h:P:=by (with_reducible repeat (first | apply Kd.R_alloc | apply Kd.R_drewN | apply Kd.R_drew));exact HO676.out):P:=h
theorem zz100 {P:Prop} (h:P:=by (with_reducible repeat (first | apply Kd.R_alloc | apply Kd.R_drewN | apply Kd.R_drew));exact HO679.out):P:=h
theorem zz101 {P:Prop} (h:P:=by (with_reducible repeat (first | apply Kd.R_alloc | apply Kd.R_drewN | apply Kd.R_drew));exact (Kd.R_mono (Kd.R_far (p:=⟨gb680,1,none⟩) (Kd.R_far (p:=⟨gb680,0,none⟩) (Kd.R_types h0_.out h1_.out (by decide)) (fun _ hk=>hk.2) (.slice Ao141 y674.length co141)) (fun _ hk=>hk.2) (.slice Ao140 y677.length co140)) (fun _ h_=>h_.1))):P:=h
theorem zz102 {P:Prop} (h:P:=by (with_reducible repeat (first | refine wE ?_ _ | refine wF ?_ | refine wD ?_ _));exact BK680.out):P:=h
theorem zz103 {P:Prop} (h:P:=by (with_reducible repeat (first | apply Kd.R_alloc | apply Kd.R_drewN | apply Kd.R_drew));exact Kd.R_mono (Kd.R_far (p:=⟨gb685,0,none⟩) (Kd.R_types h0_.out h1_.out (by decide)) (fun _ hk=>hk.2) (.slice Ao147 t681.length co147)) (fun _ hk=>(by first | exact hk.1.2 | (revert hk;(try simp only [and_imp]);intros;repeat' (first | assumption | apply And.intro))))):P:=h
theorem zz104 {P:Prop} (h:P:=by repeat (first | (with_reducible first | exact HB.out | apply wS | apply wQ | apply wR | refine wL ?_ GE495.out | refine wL ?_ GE680.out | refine wL ?_ GE685.out) | exact HB.out)):P:=h
theorem zz105 {P:Prop} (h:P:=by rw [ha];exact zG (e:=(2,101,.bool (t684 != 0))) 1 rfl rfl (hon 2 (by kernel_rfl)) rfl):P:=h
theorem zz106 {P:Prop} (h:P:=by first | rfl | (simp [*];done)):P:=h
theorem zz107 {P:Prop} (h:P:=by (with_reducible repeat (first | refine wE ?_ _ | refine wF ?_ | refine wD ?_ _));exact BK685.out):P:=h
theorem zz108 {P:Prop} (h:P:=by (with_reducible repeat (first | apply Kd.R_alloc | apply Kd.R_drewN | apply Kd.R_drew));exact (Q_HO691 h0_ h1_)):P:=h
theorem zz109 {P:Prop} (h:P:=by (with_reducible repeat (first | apply Kd.R_alloc | apply Kd.R_drewN | apply Kd.R_drew));exact (Q_HO694 h0_ h1_)):P:=h
theorem zz110 {P:Prop} (h:P:=by (with_reducible repeat (first | apply Kd.R_alloc | apply Kd.R_drewN | apply Kd.R_drew));first | exact h0_.out | exact Kd.R_mono h0_.out (fun k_ hk=>by revert hk;(try simp only [and_imp]);intros;repeat' (first | assumption | apply And.intro))):P:=h
theorem zz111 {P:Prop} (h:P:=by (with_reducible repeat (first | apply Kd.N_alloc | apply Kd.N_drewN | apply Kd.N_drew));first | exact Kd.N_mono HO683.out (fun _ hk=>(by first | exact ⟨hk.1.1,⟨hk.1.2.1,⟨hk.2,⟨hk.1.2.2.1,⟨hk.1.2.2.2.1,hk.1.2.2.2.2⟩⟩⟩⟩⟩ | (revert hk;(try simp only [and_imp]);intros;repeat' (first | assumption | apply And.intro)))) | exact Kd.N_mono HO683.out (fun k_ hk=>by revert hk;(try simp only [and_imp]);intros;repeat' (first | assumption | apply And.intro))):P:=h
theorem zz112 {P:Prop} (h:P:=by (with_reducible repeat (first | apply Kd.V_alloc | apply Kd.V_drewN | apply Kd.V_drew));first | exact Kd.V_mono HO_496000.out (fun _ hk=>(by first | exact ⟨hk.1.1,⟨hk.1.2.1,⟨hk.1.2.2.1,⟨hk.2,⟨hk.1.2.2.2.1,⟨hk.1.2.2.2.2.1,hk.1.2.2.2.2.2⟩⟩⟩⟩⟩⟩ | (revert hk;(try simp only [and_imp]);intros;repeat' (first | assumption | apply And.intro)))) | exact Kd.V_mono HO_496000.out (fun k_ hk=>by revert hk;(try simp only [and_imp]);intros;repeat' (first | assumption | apply And.intro))):P:=h
theorem zz113 {P:Prop} (h:P:=by (with_reducible repeat (first | apply Kd.R_alloc | apply Kd.R_drewN | apply Kd.R_drew));first | exact Kd.R_mono h0_.out (fun _ hk=>(by first | exact ⟨hk.1.2,hk.2⟩ | (revert hk;(try simp only [and_imp]);intros;repeat' (first | assumption | apply And.intro)))) | exact Kd.R_mono h0_.out (fun k_ hk=>by revert hk;(try simp only [and_imp]);intros;repeat' (first | assumption | apply And.intro))):P:=h
theorem zz114 {P:Prop} (h:P:=by (with_reducible repeat (first | apply Kd.R_alloc | apply Kd.R_drewN | apply Kd.R_drew));exact (Q_HO688 h0_ h1_)):P:=h
theorem zz115 {P:Prop} (h:P:=by first | exact ⟨hk.1.1.1.1.1,⟨hk.1.1.1.1.2.1,⟨hk.1.1.1.2,⟨hk.1.1.2,⟨hk.1.2,hk.2⟩⟩⟩⟩⟩ | (revert hk;(try simp only [and_imp]);intros;repeat' (first | assumption | apply And.intro))):P:=h
theorem zz116 {P:Prop} (h:P:=by (with_reducible repeat (first | apply Kd.R_alloc | apply Kd.R_drewN | apply Kd.R_drew));first | exact Kd.R_mono h0_.out (fun _ hk=>(by first | exact hk.1 | (revert hk;(try simp only [and_imp]);intros;repeat' (first | assumption | apply And.intro)))) | exact Kd.R_mono h0_.out (fun k_ hk=>by revert hk;(try simp only [and_imp]);intros;repeat' (first | assumption | apply And.intro))):P:=h
theorem zz117 {P:Prop} (h:P:=by (with_reducible repeat (first | apply Kd.N_alloc | apply Kd.N_drewN | apply Kd.N_drew));first | exact h0_.out | exact Kd.N_mono h0_.out (fun k_ hk=>by revert hk;(try simp only [and_imp]);intros;repeat' (first | assumption | apply And.intro))):P:=h
theorem zz118 {P:Prop} (h:P:=by first | exact hs_.2.2.2.1 | (revert hs_;(try simp only [and_imp]);intros;repeat' (first | assumption | apply And.intro))):P:=h
theorem zz119 {P:Prop} (h:P:=by first | exact hs_.2.2.2.2.1 | (revert hs_;(try simp only [and_imp]);intros;repeat' (first | assumption | apply And.intro))):P:=h
theorem zz120 {P:Prop} (h:P:=by (with_reducible repeat (first | apply Kd.V_alloc | apply Kd.V_drewN | apply Kd.V_drew));first | exact h0_.out | exact Kd.V_mono h0_.out (fun k_ hk=>by revert hk;(try simp only [and_imp]);intros;repeat' (first | assumption | apply And.intro))):P:=h
theorem zz121 {P:Prop} (h:P:=by (with_reducible repeat (first | apply Kd.R_alloc | apply Kd.R_drewN | apply Kd.R_drew));exact HO711.out):P:=h
theorem zz122 {P:Prop} (h:P:=by (with_reducible repeat (first | apply Kd.R_alloc | apply Kd.R_drewN | apply Kd.R_drew));exact HO714.out):P:=h
theorem zz123 {P:Prop} (h:P:=by (with_reducible repeat (first | apply Kd.R_alloc | apply Kd.R_drewN | apply Kd.R_drew));exact (Kd.R_mono (Kd.R_far (p:=⟨gb715,1,none⟩) (Kd.R_far (p:=⟨gb715,0,none⟩) (Kd.R_types h0_.out h1_.out (by decide)) (fun _ hk=>hk.2) (.slice Ao181 y709.length co181)) (fun _ hk=>hk.2) (.slice Ao180 y712.length co180)) (fun _ h_=>h_.1))):P:=h
theorem zz124 {P:Prop} (h:P:=by (with_reducible repeat (first | apply Kd.R_alloc | apply Kd.R_drewN | apply Kd.R_drew));exact HO742.out):P:=h
theorem zz125 {P:Prop} (h:P:=by (with_reducible repeat (first | refine wE ?_ _ | refine wF ?_ | refine wD ?_ _));exact BK715.out):P:=h
theorem zz126 {P:Prop} (h:P:=by (with_reducible repeat (first | apply Kd.N_alloc | apply Kd.N_drewN | apply Kd.N_drew));exact HO745.out):P:=h
theorem zz127 {P:Prop} (h:P:=by (with_reducible repeat (first | apply Kd.R_alloc | apply Kd.R_drewN | apply Kd.R_drew));exact (Kd.R_mono (Kd.R_far (p:=⟨gb747,0,none⟩) (Kd.R_types h0_.out h1_.out (by decide)) (fun _ hk=>hk.2) (.slice Ao190 t743.length co190)) (fun _ h_=>h_.1))):P:=h
theorem zz128 {P:Prop} (h:P:=by repeat (first | (with_reducible first | exact HB.out | apply wS | apply wQ | apply wR | refine wL ?_ GE495.out | refine wL ?_ GE715.out | refine wL ?_ GE747.out) | exact HB.out)):P:=h
theorem zz129 {P:Prop} (h:P:=by (with_reducible repeat (first | apply Kd.R_alloc | apply Kd.R_drewN | apply Kd.R_drew));exact HO778.out):P:=h
theorem zz130 {P:Prop} (h:P:=by (with_reducible repeat (first | refine wE ?_ _ | refine wF ?_ | refine wD ?_ _));exact BK747.out):P:=h
theorem zz131 {P:Prop} (h:P:=by (with_reducible repeat (first | apply Kd.N_alloc | apply Kd.N_drewN | apply Kd.N_drew));exact HO781.out):P:=h
theorem zz132 {P:Prop} (h:P:=by (with_reducible repeat (first | apply Kd.R_alloc | apply Kd.R_drewN | apply Kd.R_drew));exact Kd.R_mono (Kd.R_far (p:=⟨gb783,0,none⟩) (Kd.R_types h0_.out h1_.out (by decide)) (fun _ hk=>hk.2) (.slice Ao200 t779.length co200)) (fun _ hk=>(by first | exact ⟨hk.1.1.1.2,⟨hk.1.1.2,hk.1.2⟩⟩ | (revert hk;(try simp only [and_imp]);intros;repeat' (first | assumption | apply And.intro))))):P:=h
theorem zz133 {P:Prop} (h:P:=by repeat (first | (with_reducible first | exact HB.out | apply wS | apply wQ | apply wR | refine wL ?_ GE495.out | refine wL ?_ GE715.out | refine wL ?_ GE747.out | refine wL ?_ GE783.out) | exact HB.out)):P:=h
theorem zz134 {P:Prop} (h:P:=by (with_reducible repeat (first | refine wE ?_ _ | refine wF ?_ | refine wD ?_ _));exact BK783.out):P:=h
theorem zz135 {P:Prop} (h:P:=by first | exact hs_.2.2.2.2.2.1 | (revert hs_;(try simp only [and_imp]);intros;repeat' (first | assumption | apply And.intro))):P:=h
theorem zz136 {P:Prop} (h:P:=by (with_reducible repeat (first | apply Kd.N_alloc | apply Kd.N_drewN | apply Kd.N_drew));exact HO809.out):P:=h
theorem zz137 {P:Prop} (h:P:=by (with_reducible repeat (first | apply Kd.R_alloc | apply Kd.R_drewN | apply Kd.R_drew));exact HO815.out):P:=h
theorem zz138 {P:Prop} (h:P:=by (with_reducible repeat (first | apply Kd.V_alloc | apply Kd.V_drewN | apply Kd.V_drew));exact (Kd.V_mono (Kd.V_far (p:=⟨gb820,0,none⟩) (Kd.V_mono h0_.out (fun k_ hk=>(⟨hk,(by first | exact hk.2 | (revert hk;(try simp only [and_imp]);intros;repeat' (first | assumption | apply And.intro)))⟩: _∧k_ ≠ gb820))) (fun _ hk=>hk.2) (.slice Ao253 t816.length co253)) (fun _ h_=>h_.1))):P:=h
theorem zz139 {P:Prop} (h:P:=by (with_reducible repeat (first | apply Kd.N_alloc | apply Kd.N_drewN | apply Kd.N_drew));exact (Kd.N_mono (Kd.N_far (p:=⟨gb820,0,none⟩) (Kd.N_mono h0_.out (fun k_ hk=>(⟨hk,(by first | exact hk.2 | (revert hk;(try simp only [and_imp]);intros;repeat' (first | assumption | apply And.intro)))⟩: _∧k_ ≠ gb820))) (fun _ hk=>hk.2) (.slice Ao253 t816.length co253)) (fun _ h_=>h_.1))):P:=h
theorem zz140 {P:Prop} (h:P:=by repeat (first | (with_reducible first | exact HB.out | apply wS | apply wQ | apply wR | refine wL ?_ GE495.out | refine wL ?_ GE820.out) | exact HB.out)):P:=h
theorem zz141 {P:Prop} (h:P:=by (with_reducible repeat (first | refine wE ?_ _ | refine wF ?_ | refine wD ?_ _));exact BK988.out):P:=h
theorem zz142 {P:Prop} (h:P:=by (with_reducible repeat (first | refine wE ?_ _ | refine wF ?_ | refine wD ?_ _));exact BK989.out):P:=h
theorem zz143 {P:Prop} (h:P:=by repeat (first | (with_reducible first | exact HB.out | apply wS | apply wQ | apply wR | refine wL ?_ GE988.out | refine wL ?_ GE989.out | refine wL ?_ GE990.out) | exact HB.out)):P:=h
theorem zz144 {P:Prop} (h:P:=by repeat (first | (with_reducible first | exact HB.out | apply wS | apply wQ | apply wR | refine wL ?_ GE1020.out | refine wL ?_ GE1021.out | refine wL ?_ GE1022.out) | exact HB.out)):P:=h
theorem zz145 {P:Prop} (h:P:=by (with_reducible repeat (first | refine wE ?_ _ | refine wF ?_ | refine wD ?_ _));exact BK1030.out):P:=h
theorem zz146 {P:Prop} (h:P:=by repeat (first | (with_reducible first | exact HB.out | apply wS | apply wQ | apply wR | refine wL ?_ GE1030.out | refine wL ?_ GE1031.out) | exact HB.out)):P:=h
theorem zz147 {P:Prop} (h:P:=by (with_reducible repeat (first | refine wE ?_ _ | refine wF ?_ | refine wD ?_ _));exact BK1036.out):P:=h
theorem zz148 {P:Prop} (h:P:=by (with_reducible repeat (first | refine wE ?_ _ | refine wF ?_ | refine wD ?_ _));exact BK1037.out):P:=h
theorem zz149 {P:Prop} (h:P:=by (with_reducible repeat (first | apply Kd.R_alloc | apply Kd.R_drewN | apply Kd.R_drew));exact HO1045.out):P:=h
theorem zz150 {P:Prop} (h:P:=by (with_reducible repeat (first | refine wE ?_ _ | refine wF ?_ | refine wD ?_ _));exact BK1046.out):P:=h
theorem zz151 {P:Prop} (h:P:=by repeat (first | (with_reducible first | exact HB.out | apply wS | apply wQ | apply wR | refine wL ?_ GE1036.out | refine wL ?_ GE1037.out | refine wL ?_ GE1046.out) | exact HB.out)):P:=h
theorem zz152 {P:Prop} (h:P:=by repeat (first | (with_reducible first | exact HB.out | apply wS | apply wQ | apply wR | refine wL ?_ GE1036.out | refine wL ?_ GE1037.out | refine wL ?_ GE1046.out | refine wL ?_ GE1047.out) | exact HB.out)):P:=h
theorem zz153 {P:Prop} (h:P:=by (with_reducible repeat (first | refine wE ?_ _ | refine wF ?_ | refine wD ?_ _));exact BK1047.out):P:=h
theorem zz154 {P:Prop} (h:P:=by repeat (first | (with_reducible first | exact HB.out | apply wS | apply wQ | apply wR | refine wL ?_ GE1036.out | refine wL ?_ GE1037.out | refine wL ?_ GE1046.out | refine wL ?_ GE1047.out | refine wL ?_ GE1056.out) | exact HB.out)):P:=h
theorem zz155 {P:Prop} (h:P:=by repeat (first | (with_reducible first | exact HB.out | apply wS | apply wQ | apply wR | refine wL ?_ GE1036.out | refine wL ?_ GE1037.out | refine wL ?_ GE1046.out | refine wL ?_ GE1047.out | refine wL ?_ GE1056.out | refine wL ?_ GE1057.out) | exact HB.out)):P:=h
theorem zz156 {P:Prop} (h:P:=by (with_reducible repeat (first | refine wE ?_ _ | refine wF ?_ | refine wD ?_ _));exact BK1106.out):P:=h
theorem zz157 {P:Prop} (h:P:=by (with_reducible repeat (first | refine wE ?_ _ | refine wF ?_ | refine wD ?_ _));exact BK1107.out):P:=h
theorem zz158 {P:Prop} (h:P:=by repeat (first | (with_reducible first | exact HB.out | apply wS | apply wQ | apply wR | refine wL ?_ GE1106.out | refine wL ?_ GE1107.out) | exact HB.out)):P:=h
theorem zz159 {P:Prop} (h:P:=by repeat (first | (with_reducible first | exact HB.out | apply wS | apply wQ | apply wR | refine wL ?_ GE1106.out | refine wL ?_ GE1107.out | refine wL ?_ GE1108.out) | exact HB.out)):P:=h
theorem zz160 {P:Prop} (h:P:=by rw [e_];exact GW1106.out):P:=h
theorem zz161 {P:Prop} (h:P:=by rw [e_];exact GW1107.out):P:=h
theorem zz162 {P:Prop} (h:P:=by rw [e_];exact GW1108.out):P:=h
theorem zz163 {P:Prop} (h:P:=by (with_reducible repeat (first | refine wE ?_ _ | refine wF ?_ | refine wD ?_ _));exact BK1132.out):P:=h
theorem zz164 {P:Prop} (h:P:=by (with_reducible repeat (first | refine wE ?_ _ | refine wF ?_ | refine wD ?_ _));exact BK1133.out):P:=h
theorem zz165 {P:Prop} (h:P:=by repeat (first | (with_reducible first | exact HB.out | apply wS | apply wQ | apply wR | refine wL ?_ GE1132.out | refine wL ?_ GE1133.out | refine wL ?_ GE1134.out) | exact HB.out)):P:=h
theorem zz166 {P:Prop} (h:P:=by (with_reducible repeat (first | refine wE ?_ _ | refine wF ?_ | refine wD ?_ _));exact BK1134.out):P:=h
theorem zz167 {P:Prop} (h:P:=by (with_reducible repeat (first | apply Kd.V_alloc | apply Kd.V_drewN | apply Kd.V_drew));exact HO1138.out):P:=h
theorem zz168 {P:Prop} (h:P:=by (with_reducible repeat (first | apply Kd.R_alloc | apply Kd.R_drewN | apply Kd.R_drew));exact HO1142.out):P:=h
theorem zz169 {P:Prop} (h:P:=by (with_reducible repeat (first | refine wE ?_ _ | refine wF ?_ | refine wD ?_ _));exact BK1143.out):P:=h
theorem zz170 {P:Prop} (h:P:=by repeat (first | (with_reducible first | exact HB.out | apply wS | apply wQ | apply wR | refine wL ?_ GE1132.out | refine wL ?_ GE1133.out | refine wL ?_ GE1134.out | refine wL ?_ GE1143.out) | exact HB.out)):P:=h
theorem zz171 {P:Prop} (h:P:=by rw [hw];exact (by (with_reducible repeat (first | apply Kd.V_alloc | apply Kd.V_drewN | apply Kd.V_drew));exact Kd.V_mono (Kd.V_far (p:=⟨gb1143,1,none⟩) (Kd.V_far (p:=⟨gb1143,0,none⟩) (Kd.V_mono h0_.out (fun k_ hk=>(⟨hk,hk.1.2⟩: _∧k_ ≠ gb1143))) (fun _ hk=>hk.2) (.bool t1135)) (fun _ hk=>hk.2) (.slice Ao24 t1136.length co24)) (fun _ hk=>⟨hk.1.1.1.1.1.1.1,⟨hk.1.1.1.2,⟨hk.1.1.1.1.1.1.2,⟨hk.1.1.1.1.1.2,⟨hk.1.1.1.1.2,⟨hk.1.1.2,hk.1.2⟩⟩⟩⟩⟩⟩))):P:=h
theorem zz172 {P:Prop} (h:P:=by repeat (first | (with_reducible first | exact HB.out | apply wS | apply wQ | apply wR | refine wL ?_ GE1132.out | refine wL ?_ GE1133.out | refine wL ?_ GE1134.out | refine wL ?_ GE1143.out | refine wL ?_ GE1144.out) | exact HB.out)):P:=h
theorem zz173 {P:Prop} (h:P:=by rw [hw];exact (by (with_reducible repeat (first | apply Kd.V_alloc | apply Kd.V_drewN | apply Kd.V_drew));exact Kd.V_mono (Kd.V_far (p:=⟨gb1144,1,none⟩) (Kd.V_far (p:=⟨gb1144,0,none⟩) (Kd.V_mono h0_.out (fun k_ hk=>(⟨hk,hk.2.2.2.2.2.2⟩: _∧k_ ≠ gb1144))) (fun _ hk=>hk.2) (.bool t1139)) (fun _ hk=>hk.2) (.slice Ao30 t1140.length co30)) (fun _ hk=>⟨hk.1.1,⟨hk.1.2.1,⟨hk.1.2.2.1,⟨hk.1.2.2.2.1,⟨hk.1.2.2.2.2.1,⟨hk.1.2.2.2.2.2.1,hk.1.2.2.2.2.2.2⟩⟩⟩⟩⟩⟩))):P:=h
theorem zz174 {P:Prop} (h:P:=by (with_reducible repeat (first | refine wE ?_ _ | refine wF ?_ | refine wD ?_ _));exact BK1144.out):P:=h
theorem zz175 {P:Prop} (h:P:=by (with_reducible repeat (first | apply Kd.R_alloc | apply Kd.R_drewN | apply Kd.R_drew));exact HO1152.out):P:=h
theorem zz176 {P:Prop} (h:P:=by repeat (first | (with_reducible first | exact HB.out | apply wS | apply wQ | apply wR | refine wL ?_ GE1132.out | refine wL ?_ GE1133.out | refine wL ?_ GE1134.out | refine wL ?_ GE1143.out | refine wL ?_ GE1144.out | refine wL ?_ GE1153.out) | exact HB.out)):P:=h
theorem zz177 {P:Prop} (h:P:=by (with_reducible repeat (first | apply Kd.V_alloc | apply Kd.V_drewN | apply Kd.V_drew));exact Kd.V_mono (Kd.V_far (p:=⟨gb1154,1,none⟩) (Kd.V_far (p:=⟨gb1154,0,none⟩) (Kd.V_far (p:=⟨gb1153,1,none⟩) (Kd.V_far (p:=⟨gb1153,0,none⟩) (Kd.V_mono (Kd.V_mono h0_.out (fun k_ hk=>(⟨hk,hk.1.2⟩: _∧k_ ≠ gb1153))) (fun k_ hk=>(⟨hk,hk.1.2⟩: _∧k_ ≠ gb1154))) (fun _ hk=>hk.1.2) (.bool t1145)) (fun _ hk=>hk.1.2) (.slice Ao44 t1146.length co44)) (fun _ hk=>hk.2) (.bool t1149)) (fun _ hk=>hk.2) (.slice Ao51 t1150.length co51)) (fun _ hk=>⟨hk.1.1.1.1.1.1,⟨hk.1.1.1.1.1.2.1,⟨hk.1.1.1.1.2,⟨hk.1.1.1.1.1.2.2.1,⟨hk.1.1.1.1.1.2.2.2.1,⟨hk.1.1.1.1.1.2.2.2.2.1,⟨hk.1.1.1.1.1.2.2.2.2.2.1,⟨hk.1.1.1.1.1.2.2.2.2.2.2,⟨hk.1.1.1.2,hk.1.1.2⟩⟩⟩⟩⟩⟩⟩⟩⟩)):P:=h
theorem zz178 {P:Prop} (h:P:=by repeat (first | (with_reducible first | exact HB.out | apply wS | apply wQ | apply wR | refine wL ?_ GE1132.out | refine wL ?_ GE1133.out | refine wL ?_ GE1134.out | refine wL ?_ GE1143.out | refine wL ?_ GE1144.out | refine wL ?_ GE1153.out | refine wL ?_ GE1154.out) | exact HB.out)):P:=h
theorem zz179 {P:Prop} (h:P:=by (with_reducible repeat (first | refine wE ?_ _ | refine wF ?_ | refine wD ?_ _));exact BK1177.out):P:=h
theorem zz180 {P:Prop} (h:P:=by (with_reducible repeat (first | refine wE ?_ _ | refine wF ?_ | refine wD ?_ _));exact BK1178.out):P:=h
theorem zz181 {P:Prop} (h:P:=by repeat (first | (with_reducible first | exact HB.out | apply wS | apply wQ | apply wR | refine wL ?_ GE1177.out | refine wL ?_ GE1178.out | refine wL ?_ GE1182.out) | exact HB.out)):P:=h
theorem zz182 {P:Prop} (h:P:=by repeat (first | (with_reducible first | exact HB.out | apply wS | apply wQ | apply wR | refine wL ?_ GE1177.out | refine wL ?_ GE1178.out | refine wL ?_ GE1182.out | refine wL ?_ GE1192.out) | exact HB.out)):P:=h
theorem zz183 {P:Prop} (h:P:=by (with_reducible repeat (first | refine wE ?_ _ | refine wF ?_ | refine wD ?_ _));exact BK1200.out):P:=h
theorem zz184 {P:Prop} (h:P:=by (with_reducible repeat (first | refine wE ?_ _ | refine wF ?_ | refine wD ?_ _));refine wN ?_ NB1200_1205.out _;(with_reducible repeat (first | refine wE ?_ _ | refine wF ?_ | refine wD ?_ _));exact BK1200.out):P:=h
theorem zz185 {P:Prop} (h:P:=by repeat (first | (with_reducible first | exact HB.out | apply wS | apply wQ | apply wR | refine wL ?_ GE1200.out | refine wL ?_ GE1205.out) | exact HB.out)):P:=h
theorem zz186 {P:Prop} (h:P:=by (with_reducible repeat (first | refine wE ?_ _ | refine wF ?_ | refine wD ?_ _));exact BK1205.out):P:=h
theorem zz187 {P:Prop} (h:P:=by (with_reducible repeat (first | apply Kd.S_alloc | apply Kd.S_drewN | apply Kd.S_drew));exact HO_1206000.out):P:=h
theorem zz188 {P:Prop} (h:P:=by repeat (first | (with_reducible first | exact HB.out | apply wS | apply wQ | apply wR | refine wL ?_ GE1200.out | refine wL ?_ GE1205.out | refine wL ?_ GE1216.out) | exact HB.out)):P:=h
theorem zz189 {P:Prop} (h:P:=by (with_reducible repeat (first | refine wE ?_ _ | refine wF ?_ | refine wD ?_ _));exact BK1216.out):P:=h
theorem zz190 {P:Prop} (h:P:=by (with_reducible repeat (first | apply Kd.R_alloc | apply Kd.R_drewN | apply Kd.R_drew));exact HO_1217001.out):P:=h
theorem zz191 {P:Prop} (h:P:=by (with_reducible repeat (first | apply Kd.V_alloc | apply Kd.V_drewN | apply Kd.V_drew));exact HO_1217002.out):P:=h
theorem zz192 {P:Prop} (h:P:=by repeat (first | (with_reducible first | exact HB.out | apply wS | apply wQ | apply wR | refine wL ?_ GE1200.out | refine wL ?_ GE1205.out | refine wL ?_ GE1216.out | refine wL ?_ GE1241.out) | exact HB.out)):P:=h
theorem zz193 {P:Prop} (h:P:=by (with_reducible repeat (first | apply Kd.R_alloc | apply Kd.R_drewN | apply Kd.R_drew));exact (Kd.R_mono (Kd.R_far (p:=⟨gb1241,2,none⟩) (Kd.R_far (p:=⟨gb1241,1,none⟩) (Kd.R_far (p:=⟨gb1241,0,none⟩) (Kd.R_types h0_.out h1_.out (by decide)) (fun _ hk=>hk.2) (.bool t1233)) (fun _ hk=>hk.2) (.slice Ao82 t1234.length co82)) (fun _ hk=>hk.2) (.slice Ao83 t1237.length co83)) (fun _ h_=>h_.1))):P:=h
theorem zz194 {P:Prop} (h:P:=by (with_reducible repeat (first | apply Kd.V_alloc | apply Kd.V_drewN | apply Kd.V_drew));exact (Kd.V_mono (Kd.V_far (p:=⟨gb1241,2,none⟩) (Kd.V_far (p:=⟨gb1241,1,none⟩) (Kd.V_far (p:=⟨gb1241,0,none⟩) (Kd.V_mono h0_.out (fun k_ hk=>(⟨hk,hk.2⟩: _∧k_ ≠ gb1241))) (fun _ hk=>hk.2) (.bool t1233)) (fun _ hk=>hk.2) (.slice Ao82 t1234.length co82)) (fun _ hk=>hk.2) (.slice Ao83 t1237.length co83)) (fun _ h_=>h_.1))):P:=h
theorem zz195 {P:Prop} (h:P:=by (with_reducible repeat (first | refine wE ?_ _ | refine wF ?_ | refine wD ?_ _));refine wN ?_ NB1200_1241.out _;(with_reducible repeat (first | refine wE ?_ _ | refine wF ?_ | refine wD ?_ _));refine wN ?_ NB1200_1241.out _;(with_reducible repeat (first | refine wE ?_ _ | refine wF ?_ | refine wD ?_ _));refine wN ?_ NB1200_1241.out _;(with_reducible repeat (first | refine wE ?_ _ | refine wF ?_ | refine wD ?_ _));exact BK1200.out):P:=h
theorem zz196 {P:Prop} (h:P:=by (with_reducible repeat (first | refine wE ?_ _ | refine wF ?_ | refine wD ?_ _));refine wN ?_ NB1205_1241.out _;(with_reducible repeat (first | refine wE ?_ _ | refine wF ?_ | refine wD ?_ _));refine wN ?_ NB1205_1241.out _;(with_reducible repeat (first | refine wE ?_ _ | refine wF ?_ | refine wD ?_ _));refine wN ?_ NB1205_1241.out _;(with_reducible repeat (first | refine wE ?_ _ | refine wF ?_ | refine wD ?_ _));exact BK1205.out):P:=h
theorem zz197 {P:Prop} (h:P:=by (with_reducible repeat (first | refine wE ?_ _ | refine wF ?_ | refine wD ?_ _));refine wN ?_ NB1216_1241.out _;(with_reducible repeat (first | refine wE ?_ _ | refine wF ?_ | refine wD ?_ _));refine wN ?_ NB1216_1241.out _;(with_reducible repeat (first | refine wE ?_ _ | refine wF ?_ | refine wD ?_ _));refine wN ?_ NB1216_1241.out _;(with_reducible repeat (first | refine wE ?_ _ | refine wF ?_ | refine wD ?_ _));exact BK1216.out):P:=h
theorem zz198 {P:Prop} (h:P:=by (with_reducible repeat (first | apply Kd.R_alloc | apply Kd.R_drewN | apply Kd.R_drew));exact (Kd.R_mono (Kd.R_far (p:=⟨gb1250,2,none⟩) (Kd.R_far (p:=⟨gb1250,1,none⟩) (Kd.R_far (p:=⟨gb1250,0,none⟩) (Kd.R_types h0_.out h1_.out (by decide)) (fun _ hk=>hk.2) (.bool t1242)) (fun _ hk=>hk.2) (.slice Ao94 t1243.length co94)) (fun _ hk=>hk.2) (.slice Ao95 t1246.length co95)) (fun _ h_=>h_.1))):P:=h
theorem zz199 {P:Prop} (h:P:=by (with_reducible repeat (first | apply Kd.V_alloc | apply Kd.V_drewN | apply Kd.V_drew));exact (Kd.V_mono (Kd.V_far (p:=⟨gb1250,2,none⟩) (Kd.V_far (p:=⟨gb1250,1,none⟩) (Kd.V_far (p:=⟨gb1250,0,none⟩) (Kd.V_mono h0_.out (fun k_ hk=>(⟨hk,hk.2⟩: _∧k_ ≠ gb1250))) (fun _ hk=>hk.2) (.bool t1242)) (fun _ hk=>hk.2) (.slice Ao94 t1243.length co94)) (fun _ hk=>hk.2) (.slice Ao95 t1246.length co95)) (fun _ h_=>h_.1))):P:=h
theorem zz200 {P:Prop} (h:P:=by repeat (first | (with_reducible first | exact HB.out | apply wS | apply wQ | apply wR | refine wL ?_ GE1200.out | refine wL ?_ GE1205.out | refine wL ?_ GE1216.out | refine wL ?_ GE1241.out | refine wL ?_ GE1250.out) | exact HB.out)):P:=h
theorem zz201 {P:Prop} (h:P:=by (with_reducible repeat (first | apply Kd.R_alloc | apply Kd.R_drewN | apply Kd.R_drew));exact (Kd.R_mono (Kd.R_far (p:=⟨gb1241,2,none⟩) (Kd.R_far (p:=⟨gb1241,1,none⟩) (Kd.R_far (p:=⟨gb1241,0,none⟩) (Kd.R_types h0_.out h1_.out (by decide)) (fun _ hk=>hk.2) (.bool t1233)) (fun _ hk=>hk.2) (.slice Ao109 t1234.length co109)) (fun _ hk=>hk.2) (.slice Ao110 t1237.length co110)) (fun _ h_=>h_.1))):P:=h
theorem zz202 {P:Prop} (h:P:=by (with_reducible repeat (first | apply Kd.V_alloc | apply Kd.V_drewN | apply Kd.V_drew));exact (Kd.V_mono (Kd.V_far (p:=⟨gb1241,2,none⟩) (Kd.V_far (p:=⟨gb1241,1,none⟩) (Kd.V_far (p:=⟨gb1241,0,none⟩) (Kd.V_mono h0_.out (fun k_ hk=>(⟨hk,hk.2⟩: _∧k_ ≠ gb1241))) (fun _ hk=>hk.2) (.bool t1233)) (fun _ hk=>hk.2) (.slice Ao109 t1234.length co109)) (fun _ hk=>hk.2) (.slice Ao110 t1237.length co110)) (fun _ h_=>h_.1))):P:=h
theorem zz203 {P:Prop} (h:P:=by (with_reducible repeat (first | apply Kd.R_alloc | apply Kd.R_drewN | apply Kd.R_drew));exact (Kd.R_mono (Kd.R_far (p:=⟨gb1250,2,none⟩) (Kd.R_far (p:=⟨gb1250,1,none⟩) (Kd.R_far (p:=⟨gb1250,0,none⟩) (Kd.R_types h0_.out h1_.out (by decide)) (fun _ hk=>hk.2) (.bool t1242)) (fun _ hk=>hk.2) (.slice Ao121 t1243.length co121)) (fun _ hk=>hk.2) (.slice Ao122 t1246.length co122)) (fun _ h_=>h_.1))):P:=h
theorem zz204 {P:Prop} (h:P:=by (with_reducible repeat (first | apply Kd.V_alloc | apply Kd.V_drewN | apply Kd.V_drew));exact (Kd.V_mono (Kd.V_far (p:=⟨gb1250,2,none⟩) (Kd.V_far (p:=⟨gb1250,1,none⟩) (Kd.V_far (p:=⟨gb1250,0,none⟩) (Kd.V_mono h0_.out (fun k_ hk=>(⟨hk,hk.2⟩: _∧k_ ≠ gb1250))) (fun _ hk=>hk.2) (.bool t1242)) (fun _ hk=>hk.2) (.slice Ao121 t1243.length co121)) (fun _ hk=>hk.2) (.slice Ao122 t1246.length co122)) (fun _ h_=>h_.1))):P:=h
theorem zz205 {P:Prop} (h:P:=by first | (go_simp;done) | (go_simp;rfl)):P:=h
theorem zz206 {P:Prop} (h:P:=by repeat (first | exact (Kd.C_below h0_.out HB.out) | (with_reducible refine Kd.C_alloc ?_ _) | (with_reducible refine Kd.C_drewN ?_ _) | (with_reducible refine Kd.C_drew ?_))):P:=h
theorem zz207 {P:Prop} (h:P:=by exact (fun _ _=>trivial)):P:=h
theorem zz208 {P:Prop} (h:P:=by exact (wB (zz10))):P:=h
theorem zz209 {P:Prop} (h:P:=by repeat (first | exact HR0.out | (with_reducible refine Kd.C_alloc ?_ _) | (with_reducible refine Kd.C_drewN ?_ _) | (with_reducible refine Kd.C_drew ?_))):P:=h
theorem zz210 {P:Prop} (h:P:=by repeat (first | exact (Kd.C_below HR0_0.out HB.out) | (with_reducible refine Kd.C_alloc ?_ _) | (with_reducible refine Kd.C_drewN ?_ _) | (with_reducible refine Kd.C_drew ?_))):P:=h
theorem zz211 {P:Prop} (h:P:=by exact HC0_0.out):P:=h
theorem zz212 {P:Prop} (h:P:=by exact Kd.V_mk HC0.out (Kd.F_below (Kd.C_F (Kd.heap_int .u32) HR0.out) (zz10))):P:=h
theorem zz213 {P:Prop} (h:P:=by exact Kd.V_mk HC1.out (Kd.F_below (Kd.C_F (Kd.heap_int .u32) HR1.out) (zz10))):P:=h
theorem zz214 {P:Prop} (h:P:=by repeat (first | exact (Kd.V_reads' h0_.out).2.2 | (with_reducible refine Kd.C_alloc ?_ _) | (with_reducible refine Kd.C_drewN ?_ _) | (with_reducible refine Kd.C_drew ?_))):P:=h
theorem zz215 {P:Prop} (h:P:=by exact (Kd.V_reads' h0_.out).2.1):P:=h
theorem zz216 {P:Prop} (h:P:=by repeat (first | exact (Kd.C_below HR0_1.out HB.out) | (with_reducible refine Kd.C_alloc ?_ _) | (with_reducible refine Kd.C_drewN ?_ _) | (with_reducible refine Kd.C_drew ?_))):P:=h
theorem zz217 {P:Prop} (h:P:=by exact HC0_1.out):P:=h
theorem zz218 {P:Prop} (h:P:=by exact Kd.V_mk h0_.out (Kd.F_below (Kd.C_F (Kd.heap_int .u32) h1_.out) (zz75))):P:=h
theorem zz219 {P:Prop} (h:P:=by exact (Kd.R_reads' h0_.out).2.1):P:=h
theorem zz220 {P:Prop} (h:P:=by repeat (first | exact (Kd.R_reads' h0_.out).2.2 | (with_reducible refine Kd.C_alloc ?_ _) | (with_reducible refine Kd.C_drewN ?_ _) | (with_reducible refine Kd.C_drew ?_))):P:=h
theorem zz221 {P:Prop} (h:P:=by first | rfl | exact (vB rfl rfl rfl (e101.trans (zz106)))):P:=h
theorem zz222 {P:Prop} (h:P:=by repeat (first | exact (Kd.N_reads' h0_.out).2.2 | (with_reducible refine Kd.C_alloc ?_ _) | (with_reducible refine Kd.C_drewN ?_ _) | (with_reducible refine Kd.C_drew ?_))):P:=h
theorem zz223 {P:Prop} (h:P:=by repeat (first | exact (Kd.S_reads' HO_1206000.out).2.2 | (with_reducible refine Kd.C_alloc ?_ _) | (with_reducible refine Kd.C_drewN ?_ _) | (with_reducible refine Kd.C_drew ?_))):P:=h
theorem zz224 {P:Prop} (h:P:=by exact (Kd.S_reads' HO_1206000.out).2.1):P:=h
theorem zzi {α:Type} {p:Prop} [d:Decidable p] {a:Option α} {r:α} (h:(if p then a else none) = some r):p∧a = some r:=by by_cases c:p;exact ⟨c,(if_pos c).symm.trans h⟩;rw [if_neg c] at h;cases h
theorem zzj {α:Type} {p:Prop} [d:Decidable p] {a b:Option α} {r:α} (h:(if p then a else b) = some r):(p∧a = some r)∨(¬p∧b = some r):=by by_cases c:p;exact .inl ⟨c,(if_pos c).symm.trans h⟩;exact .inr ⟨c,(if_neg c).symm.trans h⟩
theorem zzb {α β:Type} {a:Option α} {f:α→Option β} {r:β} (h:a.bind f = some r):∃ t,Go.Proofs.YtfkmbjkmlfnapaaDoorW.PrintWords.wA (a = some t)∧f t = some r:=by obtain ⟨t,h1,h2⟩:=Option.bind_eq_some_iff.mp h;exact ⟨t,⟨h1⟩,h2⟩
theorem zc1 {w:World} {g:Nat} {t:TypeId} {x0:Value} (h:w.heap[g]? = some (.cells #[x0] t (0,0))):w.cell? ⟨g,0,none⟩ = some x0∧w.frozen? ⟨g,0,none⟩ = false:=⟨(Go.Proofs.YtfkmbjkmlfnapaaDoorW.PrintWords.wI h 0).trans rfl,Go.Proofs.YtfkmbjkmlfnapaaDoorW.PrintWords.yU h 0⟩
theorem zc2 {w:World} {g:Nat} {t:TypeId} {x0 x1:Value} (h:w.heap[g]? = some (.cells #[x0,x1] t (0,0))):w.cell? ⟨g,0,none⟩ = some x0∧w.cell? ⟨g,1,none⟩ = some x1∧w.frozen? ⟨g,0,none⟩ = false∧w.frozen? ⟨g,1,none⟩ = false:=⟨(Go.Proofs.YtfkmbjkmlfnapaaDoorW.PrintWords.wI h 0).trans rfl,(Go.Proofs.YtfkmbjkmlfnapaaDoorW.PrintWords.wI h 1).trans rfl,Go.Proofs.YtfkmbjkmlfnapaaDoorW.PrintWords.yU h 0,Go.Proofs.YtfkmbjkmlfnapaaDoorW.PrintWords.yU h 1⟩
theorem zc3 {w:World} {g:Nat} {t:TypeId} {x0 x1 x2:Value} (h:w.heap[g]? = some (.cells #[x0,x1,x2] t (0,0))):w.cell? ⟨g,0,none⟩ = some x0∧w.cell? ⟨g,1,none⟩ = some x1∧w.cell? ⟨g,2,none⟩ = some x2∧w.frozen? ⟨g,0,none⟩ = false∧w.frozen? ⟨g,1,none⟩ = false∧w.frozen? ⟨g,2,none⟩ = false:=⟨(Go.Proofs.YtfkmbjkmlfnapaaDoorW.PrintWords.wI h 0).trans rfl,(Go.Proofs.YtfkmbjkmlfnapaaDoorW.PrintWords.wI h 1).trans rfl,(Go.Proofs.YtfkmbjkmlfnapaaDoorW.PrintWords.wI h 2).trans rfl,Go.Proofs.YtfkmbjkmlfnapaaDoorW.PrintWords.yU h 0,Go.Proofs.YtfkmbjkmlfnapaaDoorW.PrintWords.yU h 1,Go.Proofs.YtfkmbjkmlfnapaaDoorW.PrintWords.yU h 2⟩
open Go.Proofs.YtfkmbjkmlfnapaaDoorW.PrintLast in
theorem zzp {P:Program} {ops:Array Oper} {Q:Exit→Act→World→Prop} {md:Region.Mode} {S:World→Prop} {ds:List Nat} (i:Nat) (N:Tmp) {oi:Oper} (v:Value) {fuel:Nat} {l:Array Bool} {a:Act} {w:World} (l' : Array Bool) (hi:ops[i]? = some oi) (hN:oi.dst = some N) (hc:anyB md ops l l' i = true) (hQ:∀c a w,Q (.panic c) (a.put oi.dst v) w→Q (.panic c) a w) (hy:Yields P ops oi v a) (a' : Act) (ha:a.put (some N) v = a') (h:wX P md ops Q S ds fuel l' a' w):wX P md ops Q S ds (fuel+1) l a w:=zW (N:=some N) l' hi hN hc hQ hy ha h
open Go.Proofs.YtfkmbjkmlfnapaaDoorW.PrintLast in
theorem zzs:(∀ (a:Act) (v:Value) (d:Tmp),a.put (some d) v = { tmps:=a.tmps.setIfInBounds d v,defers:=a.defers })∧(∀ (a:Act) (v:Value),a.put none v = a)∧(∀ (l:List Value) (i:Nat) (a:Value),l.toArray.setIfInBounds i a = (l.set i a).toArray)∧(∀ (x:Value) (xs:List Value) (a:Value),(x :: xs).set 0 a = a :: xs)∧(∀ (x:Value) (xs:List Value) (i:Nat) (a:Value),(x :: xs).set (i+1) a = x :: xs.set i a)∧(∀ n:Int,IntKind.i64.wrap n = Go.RowKit.wrap64 n)∧(∀ n:Int,IntKind.i32.wrap n = Go.RowKit.wrap32 n):=⟨fun _ _ _=>rfl,fun _ _=>rfl,fun _ _ _=>List.setIfInBounds_toArray ..,fun _ _ _=>rfl,fun _ _ _ _=>rfl,yL,zM⟩
theorem zzh {P:Prop} (h:P:=by first|(rw [hy_];with_reducible exact H)|(have H2_:=(Option.bind_some _ _).symm.trans H;rw [hy_];with_reducible exact H2_)|(have H2_:=(Option.bind_some _ _).symm.trans H;with_reducible exact H2_)|with_reducible exact H|(rw [hy_];exact H)|exact H):P:=h
end Go.Proofs.YtfkmbjkmlfnapaaDoor
